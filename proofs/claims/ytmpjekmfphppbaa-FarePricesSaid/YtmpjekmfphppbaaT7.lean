/- The statements' functions return true. -/
import Derived.Test.YtmpjekmfphppbaaT6

namespace Go.Vm.C
open Go.Vm
set_option maxHeartbeats 1000000
set_option maxRecDepth 10000
set_option linter.unusedSimpArgs false
set_option linter.unusedVariables false

theorem example35_ok : PCalls PR i_transitlaw35_exampleHolds [] (fun x => x = .bool true) :=
  pcalls_eval tab_ok 6000 (by kernel_rfl) rfl

/-! ### What the arguments read as -/
def ctProduct : List CT := [.str, .int .i64, .int .i64, .int .i64, .int .i64, .int .i64]
def ctRide : List CT := [.int .i64, .int .i64, .int .i64, .int .i64]
def ctFares : List CT := [.slice ctProduct, .int .i64, .int .i64, .int .i64]

theorem read_product {vs : List V} (h : HasR ctProduct vs) : ∃ p : Product, vs = p.row ∧ p.wf := by
  obtain ⟨_, _, rfl, h1, h⟩ := hasR_cons h
  obtain ⟨_, _, rfl, h2, h⟩ := hasR_cons h
  obtain ⟨_, _, rfl, h3, h⟩ := hasR_cons h
  obtain ⟨_, _, rfl, h4, h⟩ := hasR_cons h
  obtain ⟨_, _, rfl, h5, h⟩ := hasR_cons h
  obtain ⟨_, _, rfl, h6, h⟩ := hasR_cons h
  cases hasR_nil h
  obtain ⟨s, rfl, hs⟩ := hasC_str h1
  obtain ⟨a, rfl, ha⟩ := hasC_i64 h2
  obtain ⟨b, rfl, hb⟩ := hasC_i64 h3
  obtain ⟨c, rfl, hc⟩ := hasC_i64 h4
  obtain ⟨d, rfl, hd⟩ := hasC_i64 h5
  obtain ⟨e, rfl, he⟩ := hasC_i64 h6
  exact ⟨⟨s, a, b, c, d, e⟩, rfl, hs, ha, hb, hc, hd, he⟩

theorem read_ride {vs : List V} (h : HasR ctRide vs) : ∃ r : Ride, vs = r.row ∧ r.wf := by
  obtain ⟨_, _, rfl, h1, h⟩ := hasR_cons h
  obtain ⟨_, _, rfl, h2, h⟩ := hasR_cons h
  obtain ⟨_, _, rfl, h3, h⟩ := hasR_cons h
  obtain ⟨_, _, rfl, h4, h⟩ := hasR_cons h
  cases hasR_nil h
  obtain ⟨a, rfl, ha⟩ := hasC_i64 h1
  obtain ⟨b, rfl, hb⟩ := hasC_i64 h2
  obtain ⟨c, rfl, hc⟩ := hasC_i64 h3
  obtain ⟨d, rfl, hd⟩ := hasC_i64 h4
  exact ⟨⟨a, b, c, d⟩, rfl, ha, hb, hc, hd⟩

theorem read_fares {vs : List V} (h : HasR ctFares vs) : ∃ f : Fares, vs = f.row ∧ f.wf := by
  obtain ⟨_, _, rfl, h1, h⟩ := hasR_cons h
  obtain ⟨_, _, rfl, h2, h⟩ := hasR_cons h
  obtain ⟨_, _, rfl, h3, h⟩ := hasR_cons h
  obtain ⟨_, _, rfl, h4, h⟩ := hasR_cons h
  cases hasR_nil h
  obtain ⟨l, c, rfl, hl, hlen, _⟩ := hasC_slice (fun vs h => read_product h) h1
  obtain ⟨a, rfl, ha⟩ := hasC_i64 h2
  obtain ⟨b, rfl, hb⟩ := hasC_i64 h3
  obtain ⟨d, rfl, hd⟩ := hasC_i64 h4
  exact ⟨⟨l, c, a, b, d⟩, rfl, hl, hlen, ha, hb, hd⟩

theorem read_rides {v : V} (h : HasC (.slice ctRide) v) : ∃ (l : List Ride) (c : Cap), v = .slice (l.map Ride.row) c ∧ (∀ r ∈ l, r.wf) ∧ l.length ≤ maxLen := by
  obtain ⟨l, c, rfl, hl, hlen, _⟩ := hasC_slice (fun vs h => read_ride h) h
  exact ⟨l, c, rfl, hl, hlen⟩

/-! ### The statements' functions -/
def ctTicket : List CT := [.int .i64, .int .i64, .int .i64, .int .i64]
theorem read_ticket {vs : List V} (h : HasR ctTicket vs) : ∃ t : Ticket, vs = t.row ∧ t.wf := by
  obtain ⟨_, _, rfl, h1, h⟩ := hasR_cons h
  obtain ⟨_, _, rfl, h2, h⟩ := hasR_cons h
  obtain ⟨_, _, rfl, h3, h⟩ := hasR_cons h
  obtain ⟨_, _, rfl, h4, h⟩ := hasR_cons h
  cases hasR_nil h
  obtain ⟨a, rfl, ha⟩ := hasC_i64 h1
  obtain ⟨b, rfl, hb⟩ := hasC_i64 h2
  obtain ⟨c, rfl, hc⟩ := hasC_i64 h3
  obtain ⟨d, rfl, hd⟩ := hasC_i64 h4
  exact ⟨⟨a, b, c, d⟩, rfl, ha, hb, hc, hd⟩
theorem read_tickets {v : V} (h : HasC (.slice ctTicket) v) : ∃ (l : List Ticket) (c : Cap), v = .slice (l.map Ticket.row) c ∧ (∀ r ∈ l, r.wf) ∧ l.length ≤ maxLen := by
  obtain ⟨l, c, rfl, hl, hlen, _⟩ := hasC_slice (fun vs h => read_ticket h) h
  exact ⟨l, c, rfl, hl, hlen⟩

/-- What the statements ask of the sizes. -/
def smallB (f : Fares) (n : Nat) : Bool := decide (f.products.length ≤ 40 ∧ n ≤ 40) && f.products.all (fun p => decide (p.id.length ≤ 256))
theorem smallB_no {f : Fares} {n : Nat} (h : 40 < f.products.length ∨ 40 < n) : smallB f n = false := by
  rw [smallB, decide_eq_false (by omega), Bool.false_and]

theorem small_ok (f : Fares) (l : List Ride) (c : Cap) (hf : f.wf) : PCalls PR i_transitlaw35_small [.agg f.row, .slice (l.map Ride.row) c] (fun v => v = .bool (smallB f l.length)) := by
  refine acalls_pop fn_transitlaw35_small_ok (by simp [fn_transitlaw35_small]) ?_
  simp -implicitDefEqProofs (disch := omega) only [go_sem, Nat.reduceAdd, Nat.reduceMul, Nat.reduceSub, Nat.reduceBEq, Nat.reduceLeDiff, Nat.reduceLT, fn_transitlaw35_small, e10_1, w10_1, e10_3, w10_3, c10_4, e10_6, w10_6, e10_8, w10_8, e10_10, w10_10, c10_11, e10_13, w10_13, e10_15, w10_15, c10_16, e10_18, w10_18, c10_19, c10_20, e10_22, w10_22, c10_23, c10_24, c10_25, c10_26, c10_27, c10_28, e10_30, w10_30, c10_31, c10_32, c10_33, c10_34, Fares.row]
  refine ifD (fun h => ?_) (fun h => ?_)
  · have := smallB_no (f := f) (n := l.length) (.inl (by omega))
    simp -implicitDefEqProofs (disch := omega) only [go_sem, Nat.reduceAdd, Nat.reduceMul, Nat.reduceSub, Nat.reduceBEq, Nat.reduceLeDiff, Nat.reduceLT, fn_transitlaw35_small, e10_1, w10_1, e10_3, w10_3, c10_4, e10_6, w10_6, e10_8, w10_8, e10_10, w10_10, c10_11, e10_13, w10_13, e10_15, w10_15, c10_16, e10_18, w10_18, c10_19, c10_20, e10_22, w10_22, c10_23, c10_24, c10_25, c10_26, c10_27, c10_28, e10_30, w10_30, c10_31, c10_32, c10_33, c10_34, this, Fares.row]
  simp -implicitDefEqProofs (disch := omega) only [go_sem, Nat.reduceAdd, Nat.reduceMul, Nat.reduceSub, Nat.reduceBEq, Nat.reduceLeDiff, Nat.reduceLT, fn_transitlaw35_small, e10_1, w10_1, e10_3, w10_3, c10_4, e10_6, w10_6, e10_8, w10_8, e10_10, w10_10, c10_11, e10_13, w10_13, e10_15, w10_15, c10_16, e10_18, w10_18, c10_19, c10_20, e10_22, w10_22, c10_23, c10_24, c10_25, c10_26, c10_27, c10_28, e10_30, w10_30, c10_31, c10_32, c10_33, c10_34]
  refine ifD (fun h2 => ?_) (fun h2 => ?_)
  · have := smallB_no (f := f) (n := l.length) (.inr (by omega))
    simp -implicitDefEqProofs (disch := omega) only [go_sem, Nat.reduceAdd, Nat.reduceMul, Nat.reduceSub, Nat.reduceBEq, Nat.reduceLeDiff, Nat.reduceLT, fn_transitlaw35_small, e10_1, w10_1, e10_3, w10_3, c10_4, e10_6, w10_6, e10_8, w10_8, e10_10, w10_10, c10_11, e10_13, w10_13, e10_15, w10_15, c10_16, e10_18, w10_18, c10_19, c10_20, e10_22, w10_22, c10_23, c10_24, c10_25, c10_26, c10_27, c10_28, e10_30, w10_30, c10_31, c10_32, c10_33, c10_34, this, Fares.row]
  simp -implicitDefEqProofs (disch := omega) only [go_sem, Nat.reduceAdd, Nat.reduceMul, Nat.reduceSub, Nat.reduceBEq, Nat.reduceLeDiff, Nat.reduceLT, fn_transitlaw35_small, e10_1, w10_1, e10_3, w10_3, c10_4, e10_6, w10_6, e10_8, w10_8, e10_10, w10_10, c10_11, e10_13, w10_13, e10_15, w10_15, c10_16, e10_18, w10_18, c10_19, c10_20, e10_22, w10_22, c10_23, c10_24, c10_25, c10_26, c10_27, c10_28, e10_30, w10_30, c10_31, c10_32, c10_33, c10_34, Fares.row]
  refine wpC_forL f.products (fun i vs M => (f.products.take i).all (fun p => decide (p.id.length ≤ 256)) = true ∧ vs = [.slice (f.products.map Product.row) f.tag, .int .i64 f.products.length, .int .i64 i] ∧ M = [.box f.row]) ⟨by simp, rfl, rfl⟩ ?_ ?_
  · rintro i p vs M hp hi hd ⟨hall, rfl, rfl⟩
    have hw := hf.1 p (List.mem_of_getElem? hp)
    simp -implicitDefEqProofs (disch := omega) only [go_sem, Nat.reduceAdd, Nat.reduceMul, Nat.reduceSub, Nat.reduceBEq, Nat.reduceLeDiff, Nat.reduceLT, fn_transitlaw35_small, e10_1, w10_1, e10_3, w10_3, c10_4, e10_6, w10_6, e10_8, w10_8, e10_10, w10_10, c10_11, e10_13, w10_13, e10_15, w10_15, c10_16, e10_18, w10_18, c10_19, c10_20, e10_22, w10_22, c10_23, c10_24, c10_25, c10_26, c10_27, c10_28, e10_30, w10_30, c10_31, c10_32, c10_33, c10_34, hd, hp, Product.row]
    refine ifD (fun h5 => ?_) (fun h5 => ?_)
    · have e : smallB f l.length = false := by
        rw [smallB]
        have : f.products.all (fun p => decide (p.id.length ≤ 256)) = false := by
          rw [List.all_eq_false]; exact ⟨p, List.mem_of_getElem? hp, by simp; omega⟩
        rw [this, Bool.and_false]
      simp -implicitDefEqProofs (disch := omega) only [go_sem, Nat.reduceAdd, Nat.reduceMul, Nat.reduceSub, Nat.reduceBEq, Nat.reduceLeDiff, Nat.reduceLT, fn_transitlaw35_small, e10_1, w10_1, e10_3, w10_3, c10_4, e10_6, w10_6, e10_8, w10_8, e10_10, w10_10, c10_11, e10_13, w10_13, e10_15, w10_15, c10_16, e10_18, w10_18, c10_19, c10_20, e10_22, w10_22, c10_23, c10_24, c10_25, c10_26, c10_27, c10_28, e10_30, w10_30, c10_31, c10_32, c10_33, c10_34, e, Fares.row]
    simp -implicitDefEqProofs (disch := omega) only [go_sem, Nat.reduceAdd, Nat.reduceMul, Nat.reduceSub, Nat.reduceBEq, Nat.reduceLeDiff, Nat.reduceLT, fn_transitlaw35_small, e10_1, w10_1, e10_3, w10_3, c10_4, e10_6, w10_6, e10_8, w10_8, e10_10, w10_10, c10_11, e10_13, w10_13, e10_15, w10_15, c10_16, e10_18, w10_18, c10_19, c10_20, e10_22, w10_22, c10_23, c10_24, c10_25, c10_26, c10_27, c10_28, e10_30, w10_30, c10_31, c10_32, c10_33, c10_34, Product.row]
    refine next_pop hi rfl ⟨?_, rfl, rfl⟩
    rw [List.take_add_one, hp, List.all_append, hall]
    simp; omega
  · rintro vs M ⟨hall, rfl, rfl⟩
    rw [List.take_length] at hall
    have e : smallB f l.length = true := by rw [smallB, hall, decide_eq_true (by omega)]; rfl
    simp -implicitDefEqProofs (disch := omega) only [go_sem, Nat.reduceAdd, Nat.reduceMul, Nat.reduceSub, Nat.reduceBEq, Nat.reduceLeDiff, Nat.reduceLT, fn_transitlaw35_small, e10_1, w10_1, e10_3, w10_3, c10_4, e10_6, w10_6, e10_8, w10_8, e10_10, w10_10, c10_11, e10_13, w10_13, e10_15, w10_15, c10_16, e10_18, w10_18, c10_19, c10_20, e10_22, w10_22, c10_23, c10_24, c10_25, c10_26, c10_27, c10_28, e10_30, w10_30, c10_31, c10_32, c10_33, c10_34, dec_irrefl, e, Fares.row]

theorem small_nil (f : Fares) (hf : f.wf) : PCalls PR i_transitlaw35_small [.agg f.row, .slice [] .nil] (fun v => v = .bool (smallB f 0)) := small_ok f [] .nil hf

theorem FareTotals_law (f : Fares) (l : List Ticket) (c : Cap) (hf : f.wf) : PCalls PR i_transitlaw35_FareTotals [.agg f.row, .slice (l.map Ticket.row) c] (fun v => v = .bool true) := by
  refine acalls_pop fn_transitlaw35_FareTotals_ok (by simp [fn_transitlaw35_FareTotals]) ?_
  simp -implicitDefEqProofs (disch := omega) only [go_sem, Nat.reduceAdd, Nat.reduceMul, Nat.reduceSub, Nat.reduceBEq, Nat.reduceLeDiff, Nat.reduceLT, fn_transitlaw35_FareTotals, e7_1, w7_1, e7_3, w7_3, c7_4, e7_6, w7_6, e7_8, w7_8, e7_10, w7_10, e7_12, w7_12, c7_13, c7_14, c7_15, c7_16, c7_17, Fares.row]
  first | refine callD (small_nil f hf) ?_ | refine callQD (small_nil f hf) ?_
  simp -implicitDefEqProofs (disch := omega) only [go_sem, Nat.reduceAdd, Nat.reduceMul, Nat.reduceSub, Nat.reduceBEq, Nat.reduceLeDiff, Nat.reduceLT, fn_transitlaw35_FareTotals, e7_1, w7_1, e7_3, w7_3, c7_4, e7_6, w7_6, e7_8, w7_8, e7_10, w7_10, e7_12, w7_12, c7_13, c7_14, c7_15, c7_16, c7_17]
  refine ifB (fun h1 => ?_) (fun h1 => ?_)
  rotate_left
  · simp -implicitDefEqProofs (disch := omega) only [go_sem, Nat.reduceAdd, Nat.reduceMul, Nat.reduceSub, Nat.reduceBEq, Nat.reduceLeDiff, Nat.reduceLT, fn_transitlaw35_FareTotals, e7_1, w7_1, e7_3, w7_3, c7_4, e7_6, w7_6, e7_8, w7_8, e7_10, w7_10, e7_12, w7_12, c7_13, c7_14, c7_15, c7_16, c7_17]
    first | refine callD (example35_ok) ?_ | refine callQD (example35_ok) ?_
    simp -implicitDefEqProofs (disch := omega) only [go_sem, Nat.reduceAdd, Nat.reduceMul, Nat.reduceSub, Nat.reduceBEq, Nat.reduceLeDiff, Nat.reduceLT, fn_transitlaw35_FareTotals, e7_1, w7_1, e7_3, w7_3, c7_4, e7_6, w7_6, e7_8, w7_8, e7_10, w7_10, e7_12, w7_12, c7_13, c7_14, c7_15, c7_16, c7_17]
  simp -implicitDefEqProofs (disch := omega) only [go_sem, Nat.reduceAdd, Nat.reduceMul, Nat.reduceSub, Nat.reduceBEq, Nat.reduceLeDiff, Nat.reduceLT, fn_transitlaw35_FareTotals, e7_1, w7_1, e7_3, w7_3, c7_4, e7_6, w7_6, e7_8, w7_8, e7_10, w7_10, e7_12, w7_12, c7_13, c7_14, c7_15, c7_16, c7_17]
  refine ifD (fun h2 => ?_) (fun h2 => ?_)
  · simp -implicitDefEqProofs (disch := omega) only [go_sem, Nat.reduceAdd, Nat.reduceMul, Nat.reduceSub, Nat.reduceBEq, Nat.reduceLeDiff, Nat.reduceLT, fn_transitlaw35_FareTotals, e7_1, w7_1, e7_3, w7_3, c7_4, e7_6, w7_6, e7_8, w7_8, e7_10, w7_10, e7_12, w7_12, c7_13, c7_14, c7_15, c7_16, c7_17]
    first | refine callD (example35_ok) ?_ | refine callQD (example35_ok) ?_
    simp -implicitDefEqProofs (disch := omega) only [go_sem, Nat.reduceAdd, Nat.reduceMul, Nat.reduceSub, Nat.reduceBEq, Nat.reduceLeDiff, Nat.reduceLT, fn_transitlaw35_FareTotals, e7_1, w7_1, e7_3, w7_3, c7_4, e7_6, w7_6, e7_8, w7_8, e7_10, w7_10, e7_12, w7_12, c7_13, c7_14, c7_15, c7_16, c7_17]
  simp -implicitDefEqProofs (disch := omega) only [go_sem, Nat.reduceAdd, Nat.reduceMul, Nat.reduceSub, Nat.reduceBEq, Nat.reduceLeDiff, Nat.reduceLT, fn_transitlaw35_FareTotals, e7_1, w7_1, e7_3, w7_3, c7_4, e7_6, w7_6, e7_8, w7_8, e7_10, w7_10, e7_12, w7_12, c7_13, c7_14, c7_15, c7_16, c7_17, Fares.row]
  first | refine callD (fare_Total_ok f l c hf) ?_ | refine callQD (fare_Total_ok f l c hf) ?_
  simp -implicitDefEqProofs (disch := omega) only [go_sem, Nat.reduceAdd, Nat.reduceMul, Nat.reduceSub, Nat.reduceBEq, Nat.reduceLeDiff, Nat.reduceLT, fn_transitlaw35_FareTotals, e7_1, w7_1, e7_3, w7_3, c7_4, e7_6, w7_6, e7_8, w7_8, e7_10, w7_10, e7_12, w7_12, c7_13, c7_14, c7_15, c7_16, c7_17, prV, Fares.row]
  first | refine callD (transitref35_Total_ok f l c hf) ?_ | refine callQD (transitref35_Total_ok f l c hf) ?_
  simp -implicitDefEqProofs (disch := omega) only [go_sem, Nat.reduceAdd, Nat.reduceMul, Nat.reduceSub, Nat.reduceBEq, Nat.reduceLeDiff, Nat.reduceLT, fn_transitlaw35_FareTotals, e7_1, w7_1, e7_3, w7_3, c7_4, e7_6, w7_6, e7_8, w7_8, e7_10, w7_10, e7_12, w7_12, c7_13, c7_14, c7_15, c7_16, c7_17, prV, Fares.row]
  first | refine callD (example35_ok) ?_ | refine callQD (example35_ok) ?_
  simp -implicitDefEqProofs (disch := omega) only [go_sem, Nat.reduceAdd, Nat.reduceMul, Nat.reduceSub, Nat.reduceBEq, Nat.reduceLeDiff, Nat.reduceLT, fn_transitlaw35_FareTotals, e7_1, w7_1, e7_3, w7_3, c7_4, e7_6, w7_6, e7_8, w7_8, e7_10, w7_10, e7_12, w7_12, c7_13, c7_14, c7_15, c7_16, c7_17]

theorem FareVerifies_law (f : Fares) (l : List Ride) (c : Cap) (ts : List Ticket) (d : Cap) (hf : f.wf) (hl : ∀ r ∈ l, r.wf) (hts : ts.length ≤ maxLen) :
    PCalls PR i_transitlaw35_FareVerifies [.agg f.row, .slice (l.map Ride.row) c, .slice (ts.map Ticket.row) d] (fun v => v = .bool true) := by
  refine acalls_pop fn_transitlaw35_FareVerifies_ok (by simp [fn_transitlaw35_FareVerifies]) ?_
  simp -implicitDefEqProofs (disch := omega) only [go_sem, Nat.reduceAdd, Nat.reduceMul, Nat.reduceSub, Nat.reduceBEq, Nat.reduceLeDiff, Nat.reduceLT, fn_transitlaw35_FareVerifies, e8_1, w8_1, e8_3, w8_3, c8_4, e8_6, w8_6, e8_8, w8_8, e8_10, w8_10, e8_12, w8_12, c8_13, c8_14, c8_15, c8_16, c8_17, Fares.row]
  first | refine callD (small_ok f l c hf) ?_ | refine callQD (small_ok f l c hf) ?_
  simp -implicitDefEqProofs (disch := omega) only [go_sem, Nat.reduceAdd, Nat.reduceMul, Nat.reduceSub, Nat.reduceBEq, Nat.reduceLeDiff, Nat.reduceLT, fn_transitlaw35_FareVerifies, e8_1, w8_1, e8_3, w8_3, c8_4, e8_6, w8_6, e8_8, w8_8, e8_10, w8_10, e8_12, w8_12, c8_13, c8_14, c8_15, c8_16, c8_17]
  refine ifB (fun h1 => ?_) (fun h1 => ?_)
  rotate_left
  · simp -implicitDefEqProofs (disch := omega) only [go_sem, Nat.reduceAdd, Nat.reduceMul, Nat.reduceSub, Nat.reduceBEq, Nat.reduceLeDiff, Nat.reduceLT, fn_transitlaw35_FareVerifies, e8_1, w8_1, e8_3, w8_3, c8_4, e8_6, w8_6, e8_8, w8_8, e8_10, w8_10, e8_12, w8_12, c8_13, c8_14, c8_15, c8_16, c8_17]
    first | refine callD (example35_ok) ?_ | refine callQD (example35_ok) ?_
    simp -implicitDefEqProofs (disch := omega) only [go_sem, Nat.reduceAdd, Nat.reduceMul, Nat.reduceSub, Nat.reduceBEq, Nat.reduceLeDiff, Nat.reduceLT, fn_transitlaw35_FareVerifies, e8_1, w8_1, e8_3, w8_3, c8_4, e8_6, w8_6, e8_8, w8_8, e8_10, w8_10, e8_12, w8_12, c8_13, c8_14, c8_15, c8_16, c8_17]
  simp -implicitDefEqProofs (disch := omega) only [go_sem, Nat.reduceAdd, Nat.reduceMul, Nat.reduceSub, Nat.reduceBEq, Nat.reduceLeDiff, Nat.reduceLT, fn_transitlaw35_FareVerifies, e8_1, w8_1, e8_3, w8_3, c8_4, e8_6, w8_6, e8_8, w8_8, e8_10, w8_10, e8_12, w8_12, c8_13, c8_14, c8_15, c8_16, c8_17]
  refine ifD (fun h2 => ?_) (fun h2 => ?_)
  · simp -implicitDefEqProofs (disch := omega) only [go_sem, Nat.reduceAdd, Nat.reduceMul, Nat.reduceSub, Nat.reduceBEq, Nat.reduceLeDiff, Nat.reduceLT, fn_transitlaw35_FareVerifies, e8_1, w8_1, e8_3, w8_3, c8_4, e8_6, w8_6, e8_8, w8_8, e8_10, w8_10, e8_12, w8_12, c8_13, c8_14, c8_15, c8_16, c8_17]
    first | refine callD (example35_ok) ?_ | refine callQD (example35_ok) ?_
    simp -implicitDefEqProofs (disch := omega) only [go_sem, Nat.reduceAdd, Nat.reduceMul, Nat.reduceSub, Nat.reduceBEq, Nat.reduceLeDiff, Nat.reduceLT, fn_transitlaw35_FareVerifies, e8_1, w8_1, e8_3, w8_3, c8_4, e8_6, w8_6, e8_8, w8_8, e8_10, w8_10, e8_12, w8_12, c8_13, c8_14, c8_15, c8_16, c8_17]
  simp -implicitDefEqProofs (disch := omega) only [go_sem, Nat.reduceAdd, Nat.reduceMul, Nat.reduceSub, Nat.reduceBEq, Nat.reduceLeDiff, Nat.reduceLT, fn_transitlaw35_FareVerifies, e8_1, w8_1, e8_3, w8_3, c8_4, e8_6, w8_6, e8_8, w8_8, e8_10, w8_10, e8_12, w8_12, c8_13, c8_14, c8_15, c8_16, c8_17, Fares.row]
  first | refine callD (fare_Verify_ok f l c ts d hf hl) ?_ | refine callQD (fare_Verify_ok f l c ts d hf hl) ?_
  simp -implicitDefEqProofs (disch := omega) only [go_sem, Nat.reduceAdd, Nat.reduceMul, Nat.reduceSub, Nat.reduceBEq, Nat.reduceLeDiff, Nat.reduceLT, fn_transitlaw35_FareVerifies, e8_1, w8_1, e8_3, w8_3, c8_4, e8_6, w8_6, e8_8, w8_8, e8_10, w8_10, e8_12, w8_12, c8_13, c8_14, c8_15, c8_16, c8_17, pairV, Fares.row]
  first | refine callD (transitref35_Verify_ok f l c ts d hf hl hts) ?_ | refine callQD (transitref35_Verify_ok f l c ts d hf hl hts) ?_
  simp -implicitDefEqProofs (disch := omega) only [go_sem, Nat.reduceAdd, Nat.reduceMul, Nat.reduceSub, Nat.reduceBEq, Nat.reduceLeDiff, Nat.reduceLT, fn_transitlaw35_FareVerifies, e8_1, w8_1, e8_3, w8_3, c8_4, e8_6, w8_6, e8_8, w8_8, e8_10, w8_10, e8_12, w8_12, c8_13, c8_14, c8_15, c8_16, c8_17, pairV, Fares.row]
  first | refine callD (example35_ok) ?_ | refine callQD (example35_ok) ?_
  simp -implicitDefEqProofs (disch := omega) only [go_sem, Nat.reduceAdd, Nat.reduceMul, Nat.reduceSub, Nat.reduceBEq, Nat.reduceLeDiff, Nat.reduceLT, fn_transitlaw35_FareVerifies, e8_1, w8_1, e8_3, w8_3, c8_4, e8_6, w8_6, e8_8, w8_8, e8_10, w8_10, e8_12, w8_12, c8_13, c8_14, c8_15, c8_16, c8_17]

end Go.Vm.C

