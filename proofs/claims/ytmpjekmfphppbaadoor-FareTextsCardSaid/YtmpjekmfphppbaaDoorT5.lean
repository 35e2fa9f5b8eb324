/- The chapter's example; what the arguments are. -/
import Derived.Test.YtmpjekmfphppbaaDoorT4

namespace Go.Vm.C
open Go.Vm
set_option maxHeartbeats 1000000
set_option maxRecDepth 10000
set_option linter.unusedSimpArgs false
set_option linter.unusedVariables false

theorem example35_ok : PCalls PR i_transitlaw35_exampleHolds [] (fun x => x = .bool true) :=
  pcalls_eval tab_ok 6000 (by kernel_rfl) rfl

/-! ### What the arguments read as -/
def ctProduct : List CT := [.str, .int .i64, .int .i64, .int .i64, .int .i64, .int .i64]
def ctRide : List CT := [.int .i64, .int .i64, .int .i64, .int .i64]
def ctFares : List CT := [.slice ctProduct, .int .i64, .int .i64, .int .i64]

theorem read_product {vs : List V} (h : HasR ctProduct vs) : ∃ p : Product, vs = p.row ∧ p.wf := by
  obtain ⟨_, _, rfl, h1, h⟩ := hasR_cons h
  obtain ⟨_, _, rfl, h2, h⟩ := hasR_cons h
  obtain ⟨_, _, rfl, h3, h⟩ := hasR_cons h
  obtain ⟨_, _, rfl, h4, h⟩ := hasR_cons h
  obtain ⟨_, _, rfl, h5, h⟩ := hasR_cons h
  obtain ⟨_, _, rfl, h6, h⟩ := hasR_cons h
  cases hasR_nil h
  obtain ⟨s, rfl, hs⟩ := hasC_str h1
  obtain ⟨a, rfl, ha⟩ := hasC_i64 h2
  obtain ⟨b, rfl, hb⟩ := hasC_i64 h3
  obtain ⟨c, rfl, hc⟩ := hasC_i64 h4
  obtain ⟨d, rfl, hd⟩ := hasC_i64 h5
  obtain ⟨e, rfl, he⟩ := hasC_i64 h6
  exact ⟨⟨s, a, b, c, d, e⟩, rfl, hs, ha, hb, hc, hd, he⟩

theorem read_ride {vs : List V} (h : HasR ctRide vs) : ∃ r : Ride, vs = r.row ∧ r.wf := by
  obtain ⟨_, _, rfl, h1, h⟩ := hasR_cons h
  obtain ⟨_, _, rfl, h2, h⟩ := hasR_cons h
  obtain ⟨_, _, rfl, h3, h⟩ := hasR_cons h
  obtain ⟨_, _, rfl, h4, h⟩ := hasR_cons h
  cases hasR_nil h
  obtain ⟨a, rfl, ha⟩ := hasC_i64 h1
  obtain ⟨b, rfl, hb⟩ := hasC_i64 h2
  obtain ⟨c, rfl, hc⟩ := hasC_i64 h3
  obtain ⟨d, rfl, hd⟩ := hasC_i64 h4
  exact ⟨⟨a, b, c, d⟩, rfl, ha, hb, hc, hd⟩

theorem read_fares {vs : List V} (h : HasR ctFares vs) : ∃ f : Fares, vs = f.row ∧ f.wf := by
  obtain ⟨_, _, rfl, h1, h⟩ := hasR_cons h
  obtain ⟨_, _, rfl, h2, h⟩ := hasR_cons h
  obtain ⟨_, _, rfl, h3, h⟩ := hasR_cons h
  obtain ⟨_, _, rfl, h4, h⟩ := hasR_cons h
  cases hasR_nil h
  obtain ⟨l, c, rfl, hl, hlen, _⟩ := hasC_slice (fun vs h => read_product h) h1
  obtain ⟨a, rfl, ha⟩ := hasC_i64 h2
  obtain ⟨b, rfl, hb⟩ := hasC_i64 h3
  obtain ⟨d, rfl, hd⟩ := hasC_i64 h4
  exact ⟨⟨l, c, a, b, d⟩, rfl, hl, hlen, ha, hb, hd⟩

theorem read_rides {v : V} (h : HasC (.slice ctRide) v) : ∃ (l : List Ride) (c : Cap), v = .slice (l.map Ride.row) c ∧ (∀ r ∈ l, r.wf) ∧ l.length ≤ maxLen := by
  obtain ⟨l, c, rfl, hl, hlen, _⟩ := hasC_slice (fun vs h => read_ride h) h
  exact ⟨l, c, rfl, hl, hlen⟩

/-! ### The statements' functions -/
def ctTicket : List CT := [.int .i64, .int .i64, .int .i64, .int .i64]
theorem read_ticket {vs : List V} (h : HasR ctTicket vs) : ∃ t : Ticket, vs = t.row ∧ t.wf := by
  obtain ⟨_, _, rfl, h1, h⟩ := hasR_cons h
  obtain ⟨_, _, rfl, h2, h⟩ := hasR_cons h
  obtain ⟨_, _, rfl, h3, h⟩ := hasR_cons h
  obtain ⟨_, _, rfl, h4, h⟩ := hasR_cons h
  cases hasR_nil h
  obtain ⟨a, rfl, ha⟩ := hasC_i64 h1
  obtain ⟨b, rfl, hb⟩ := hasC_i64 h2
  obtain ⟨c, rfl, hc⟩ := hasC_i64 h3
  obtain ⟨d, rfl, hd⟩ := hasC_i64 h4
  exact ⟨⟨a, b, c, d⟩, rfl, ha, hb, hc, hd⟩
theorem read_tickets {v : V} (h : HasC (.slice ctTicket) v) : ∃ (l : List Ticket) (c : Cap), v = .slice (l.map Ticket.row) c ∧ (∀ r ∈ l, r.wf) ∧ l.length ≤ maxLen := by
  obtain ⟨l, c, rfl, hl, hlen, _⟩ := hasC_slice (fun vs h => read_ticket h) h
  exact ⟨l, c, rfl, hl, hlen⟩

/-- What the statements ask of the sizes. -/
def smallB (f : Fares) (n : Nat) : Bool := decide (f.products.length ≤ 40 ∧ n ≤ 40) && f.products.all (fun p => decide (p.id.length ≤ 256))
theorem smallB_no {f : Fares} {n : Nat} (h : 40 < f.products.length ∨ 40 < n) : smallB f n = false := by
  rw [smallB, decide_eq_false (by omega), Bool.false_and]

theorem small_ok (f : Fares) (l : List Ride) (c : Cap) (hf : f.wf) : PCalls PR i_transitlaw35_small [.agg f.row, .slice (l.map Ride.row) c] (fun v => v = .bool (smallB f l.length)) := by
  refine acalls_pop fn_transitlaw35_small_ok (by simp [fn_transitlaw35_small]) ?_
  simp -implicitDefEqProofs (disch := omega) only [go_sem, Nat.reduceAdd, Nat.reduceMul, Nat.reduceSub, Nat.reduceBEq, Nat.reduceLeDiff, Nat.reduceLT, fn_transitlaw35_small, e4_1, w4_1, e4_3, w4_3, c4_4, e4_6, w4_6, e4_8, w4_8, e4_10, w4_10, c4_11, e4_13, w4_13, e4_15, w4_15, c4_16, e4_18, w4_18, c4_19, c4_20, e4_22, w4_22, c4_23, c4_24, c4_25, c4_26, c4_27, c4_28, e4_30, w4_30, c4_31, c4_32, c4_33, c4_34, Fares.row]
  refine ifD (fun h => ?_) (fun h => ?_)
  · have := smallB_no (f := f) (n := l.length) (.inl (by omega))
    simp -implicitDefEqProofs (disch := omega) only [go_sem, Nat.reduceAdd, Nat.reduceMul, Nat.reduceSub, Nat.reduceBEq, Nat.reduceLeDiff, Nat.reduceLT, fn_transitlaw35_small, e4_1, w4_1, e4_3, w4_3, c4_4, e4_6, w4_6, e4_8, w4_8, e4_10, w4_10, c4_11, e4_13, w4_13, e4_15, w4_15, c4_16, e4_18, w4_18, c4_19, c4_20, e4_22, w4_22, c4_23, c4_24, c4_25, c4_26, c4_27, c4_28, e4_30, w4_30, c4_31, c4_32, c4_33, c4_34, this, Fares.row]
  simp -implicitDefEqProofs (disch := omega) only [go_sem, Nat.reduceAdd, Nat.reduceMul, Nat.reduceSub, Nat.reduceBEq, Nat.reduceLeDiff, Nat.reduceLT, fn_transitlaw35_small, e4_1, w4_1, e4_3, w4_3, c4_4, e4_6, w4_6, e4_8, w4_8, e4_10, w4_10, c4_11, e4_13, w4_13, e4_15, w4_15, c4_16, e4_18, w4_18, c4_19, c4_20, e4_22, w4_22, c4_23, c4_24, c4_25, c4_26, c4_27, c4_28, e4_30, w4_30, c4_31, c4_32, c4_33, c4_34]
  refine ifD (fun h2 => ?_) (fun h2 => ?_)
  · have := smallB_no (f := f) (n := l.length) (.inr (by omega))
    simp -implicitDefEqProofs (disch := omega) only [go_sem, Nat.reduceAdd, Nat.reduceMul, Nat.reduceSub, Nat.reduceBEq, Nat.reduceLeDiff, Nat.reduceLT, fn_transitlaw35_small, e4_1, w4_1, e4_3, w4_3, c4_4, e4_6, w4_6, e4_8, w4_8, e4_10, w4_10, c4_11, e4_13, w4_13, e4_15, w4_15, c4_16, e4_18, w4_18, c4_19, c4_20, e4_22, w4_22, c4_23, c4_24, c4_25, c4_26, c4_27, c4_28, e4_30, w4_30, c4_31, c4_32, c4_33, c4_34, this, Fares.row]
  simp -implicitDefEqProofs (disch := omega) only [go_sem, Nat.reduceAdd, Nat.reduceMul, Nat.reduceSub, Nat.reduceBEq, Nat.reduceLeDiff, Nat.reduceLT, fn_transitlaw35_small, e4_1, w4_1, e4_3, w4_3, c4_4, e4_6, w4_6, e4_8, w4_8, e4_10, w4_10, c4_11, e4_13, w4_13, e4_15, w4_15, c4_16, e4_18, w4_18, c4_19, c4_20, e4_22, w4_22, c4_23, c4_24, c4_25, c4_26, c4_27, c4_28, e4_30, w4_30, c4_31, c4_32, c4_33, c4_34, Fares.row]
  refine wpC_forL f.products (fun i vs M => (f.products.take i).all (fun p => decide (p.id.length ≤ 256)) = true ∧ vs = [.slice (f.products.map Product.row) f.tag, .int .i64 f.products.length, .int .i64 i] ∧ M = [.box f.row]) ⟨by simp, rfl, rfl⟩ ?_ ?_
  · rintro i p vs M hp hi hd ⟨hall, rfl, rfl⟩
    have hw := hf.1 p (List.mem_of_getElem? hp)
    simp -implicitDefEqProofs (disch := omega) only [go_sem, Nat.reduceAdd, Nat.reduceMul, Nat.reduceSub, Nat.reduceBEq, Nat.reduceLeDiff, Nat.reduceLT, fn_transitlaw35_small, e4_1, w4_1, e4_3, w4_3, c4_4, e4_6, w4_6, e4_8, w4_8, e4_10, w4_10, c4_11, e4_13, w4_13, e4_15, w4_15, c4_16, e4_18, w4_18, c4_19, c4_20, e4_22, w4_22, c4_23, c4_24, c4_25, c4_26, c4_27, c4_28, e4_30, w4_30, c4_31, c4_32, c4_33, c4_34, hd, hp, Product.row]
    refine ifD (fun h5 => ?_) (fun h5 => ?_)
    · have e : smallB f l.length = false := by
        rw [smallB]
        have : f.products.all (fun p => decide (p.id.length ≤ 256)) = false := by
          rw [List.all_eq_false]; exact ⟨p, List.mem_of_getElem? hp, by simp; omega⟩
        rw [this, Bool.and_false]
      simp -implicitDefEqProofs (disch := omega) only [go_sem, Nat.reduceAdd, Nat.reduceMul, Nat.reduceSub, Nat.reduceBEq, Nat.reduceLeDiff, Nat.reduceLT, fn_transitlaw35_small, e4_1, w4_1, e4_3, w4_3, c4_4, e4_6, w4_6, e4_8, w4_8, e4_10, w4_10, c4_11, e4_13, w4_13, e4_15, w4_15, c4_16, e4_18, w4_18, c4_19, c4_20, e4_22, w4_22, c4_23, c4_24, c4_25, c4_26, c4_27, c4_28, e4_30, w4_30, c4_31, c4_32, c4_33, c4_34, e, Fares.row]
    simp -implicitDefEqProofs (disch := omega) only [go_sem, Nat.reduceAdd, Nat.reduceMul, Nat.reduceSub, Nat.reduceBEq, Nat.reduceLeDiff, Nat.reduceLT, fn_transitlaw35_small, e4_1, w4_1, e4_3, w4_3, c4_4, e4_6, w4_6, e4_8, w4_8, e4_10, w4_10, c4_11, e4_13, w4_13, e4_15, w4_15, c4_16, e4_18, w4_18, c4_19, c4_20, e4_22, w4_22, c4_23, c4_24, c4_25, c4_26, c4_27, c4_28, e4_30, w4_30, c4_31, c4_32, c4_33, c4_34, Product.row]
    refine next_pop hi rfl ⟨?_, rfl, rfl⟩
    rw [List.take_add_one, hp, List.all_append, hall]
    simp; omega
  · rintro vs M ⟨hall, rfl, rfl⟩
    rw [List.take_length] at hall
    have e : smallB f l.length = true := by rw [smallB, hall, decide_eq_true (by omega)]; rfl
    simp -implicitDefEqProofs (disch := omega) only [go_sem, Nat.reduceAdd, Nat.reduceMul, Nat.reduceSub, Nat.reduceBEq, Nat.reduceLeDiff, Nat.reduceLT, fn_transitlaw35_small, e4_1, w4_1, e4_3, w4_3, c4_4, e4_6, w4_6, e4_8, w4_8, e4_10, w4_10, c4_11, e4_13, w4_13, e4_15, w4_15, c4_16, e4_18, w4_18, c4_19, c4_20, e4_22, w4_22, c4_23, c4_24, c4_25, c4_26, c4_27, c4_28, e4_30, w4_30, c4_31, c4_32, c4_33, c4_34, dec_irrefl, e, Fares.row]

theorem small_nil (f : Fares) (hf : f.wf) : PCalls PR i_transitlaw35_small [.agg f.row, .slice [] .nil] (fun v => v = .bool (smallB f 0)) := small_ok f [] .nil hf

end Go.Vm.C

