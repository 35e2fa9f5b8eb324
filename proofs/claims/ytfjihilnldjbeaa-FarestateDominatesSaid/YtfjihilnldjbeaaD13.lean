/- The statements' sizes, and the reference's price. -/
import Derived.Test.YtfjihilnldjbeaaT12

namespace Go.Vm.C
open Go.Vm
set_option maxHeartbeats 1000000
set_option maxRecDepth 10000
set_option linter.unusedSimpArgs false
set_option linter.unusedVariables false

/-! ### What the arguments read as -/
def ctProduct : List CT := [.str, .int .i64, .int .i64, .int .i64, .int .i64, .int .i64]
def ctRide : List CT := [.int .i64, .int .i64, .int .i64, .int .i64]
def ctFares : List CT := [.slice ctProduct, .int .i64, .int .i64, .int .i64]

theorem read_product {vs : List V} (h : HasR ctProduct vs) : ∃ p : Product, vs = p.row ∧ p.wf := by
  obtain ⟨_, _, rfl, h1, h⟩ := hasR_cons h
  obtain ⟨_, _, rfl, h2, h⟩ := hasR_cons h
  obtain ⟨_, _, rfl, h3, h⟩ := hasR_cons h
  obtain ⟨_, _, rfl, h4, h⟩ := hasR_cons h
  obtain ⟨_, _, rfl, h5, h⟩ := hasR_cons h
  obtain ⟨_, _, rfl, h6, h⟩ := hasR_cons h
  cases hasR_nil h
  obtain ⟨s, rfl, hs⟩ := hasC_str h1
  obtain ⟨a, rfl, ha⟩ := hasC_i64 h2
  obtain ⟨b, rfl, hb⟩ := hasC_i64 h3
  obtain ⟨c, rfl, hc⟩ := hasC_i64 h4
  obtain ⟨d, rfl, hd⟩ := hasC_i64 h5
  obtain ⟨e, rfl, he⟩ := hasC_i64 h6
  exact ⟨⟨s, a, b, c, d, e⟩, rfl, hs, ha, hb, hc, hd, he⟩

theorem read_ride {vs : List V} (h : HasR ctRide vs) : ∃ r : Ride, vs = r.row ∧ r.wf := by
  obtain ⟨_, _, rfl, h1, h⟩ := hasR_cons h
  obtain ⟨_, _, rfl, h2, h⟩ := hasR_cons h
  obtain ⟨_, _, rfl, h3, h⟩ := hasR_cons h
  obtain ⟨_, _, rfl, h4, h⟩ := hasR_cons h
  cases hasR_nil h
  obtain ⟨a, rfl, ha⟩ := hasC_i64 h1
  obtain ⟨b, rfl, hb⟩ := hasC_i64 h2
  obtain ⟨c, rfl, hc⟩ := hasC_i64 h3
  obtain ⟨d, rfl, hd⟩ := hasC_i64 h4
  exact ⟨⟨a, b, c, d⟩, rfl, ha, hb, hc, hd⟩

theorem read_fares {vs : List V} (h : HasR ctFares vs) : ∃ f : Fares, vs = f.row ∧ f.wf := by
  obtain ⟨_, _, rfl, h1, h⟩ := hasR_cons h
  obtain ⟨_, _, rfl, h2, h⟩ := hasR_cons h
  obtain ⟨_, _, rfl, h3, h⟩ := hasR_cons h
  obtain ⟨_, _, rfl, h4, h⟩ := hasR_cons h
  cases hasR_nil h
  obtain ⟨l, c, rfl, hl, hlen, _⟩ := hasC_slice (fun vs h => read_product h) h1
  obtain ⟨a, rfl, ha⟩ := hasC_i64 h2
  obtain ⟨b, rfl, hb⟩ := hasC_i64 h3
  obtain ⟨d, rfl, hd⟩ := hasC_i64 h4
  exact ⟨⟨l, c, a, b, d⟩, rfl, hl, hlen, ha, hb, hd⟩

theorem read_rides {v : V} (h : HasC (.slice ctRide) v) : ∃ (l : List Ride) (c : Cap), v = .slice (l.map Ride.row) c ∧ (∀ r ∈ l, r.wf) ∧ l.length ≤ maxLen := by
  obtain ⟨l, c, rfl, hl, hlen, _⟩ := hasC_slice (fun vs h => read_ride h) h
  exact ⟨l, c, rfl, hl, hlen⟩

/-! ### The statements' functions -/
/-! ### The statements on states -/
def small36 (f : Fares) : Bool := decide (f.products.length ≤ 20) && f.products.all (fun p => decide (p.id.length ≤ 1024))
theorem small36_ok (f : Fares) (hf : f.wf) : PCalls PR i_transitlaw36_small [.agg f.row] (fun v => v = .bool (small36 f)) := by
  refine acalls_pop fn_transitlaw36_small_ok (by simp [fn_transitlaw36_small]) ?_
  simp -implicitDefEqProofs (disch := omega) only [go_sem, Nat.reduceAdd, Nat.reduceMul, Nat.reduceSub, Nat.reduceBEq, Nat.reduceLeDiff, Nat.reduceLT, fn_transitlaw36_small, e10_1, w10_1, e10_3, w10_3, c10_4, e10_6, w10_6, e10_8, w10_8, e10_10, w10_10, e10_12, w10_12, c10_13, e10_15, w10_15, c10_16, e10_18, w10_18, c10_19, c10_20, c10_21, c10_22, c10_23, e10_25, w10_25, c10_26, c10_27, c10_28, c10_29, Fares.row]
  refine ifD (fun h => ?_) (fun h => ?_)
  · have : small36 f = false := by rw [small36, decide_eq_false (by omega), Bool.false_and]
    simp -implicitDefEqProofs (disch := omega) only [go_sem, Nat.reduceAdd, Nat.reduceMul, Nat.reduceSub, Nat.reduceBEq, Nat.reduceLeDiff, Nat.reduceLT, fn_transitlaw36_small, e10_1, w10_1, e10_3, w10_3, c10_4, e10_6, w10_6, e10_8, w10_8, e10_10, w10_10, e10_12, w10_12, c10_13, e10_15, w10_15, c10_16, e10_18, w10_18, c10_19, c10_20, c10_21, c10_22, c10_23, e10_25, w10_25, c10_26, c10_27, c10_28, c10_29, this, Fares.row]
  simp -implicitDefEqProofs (disch := omega) only [go_sem, Nat.reduceAdd, Nat.reduceMul, Nat.reduceSub, Nat.reduceBEq, Nat.reduceLeDiff, Nat.reduceLT, fn_transitlaw36_small, e10_1, w10_1, e10_3, w10_3, c10_4, e10_6, w10_6, e10_8, w10_8, e10_10, w10_10, e10_12, w10_12, c10_13, e10_15, w10_15, c10_16, e10_18, w10_18, c10_19, c10_20, c10_21, c10_22, c10_23, e10_25, w10_25, c10_26, c10_27, c10_28, c10_29, Fares.row]
  refine wpC_forL f.products (fun i vs M => (f.products.take i).all (fun p => decide (p.id.length ≤ 1024)) = true ∧ vs = [.ptr 0 0, .int .i64 i] ∧ M = [.box f.row]) ⟨by simp, rfl, rfl⟩ ?_ ?_
  · rintro i p vs M hp hi hd ⟨hall, rfl, rfl⟩
    have hw := hf.1 p (List.mem_of_getElem? hp)
    simp -implicitDefEqProofs (disch := omega) only [go_sem, Nat.reduceAdd, Nat.reduceMul, Nat.reduceSub, Nat.reduceBEq, Nat.reduceLeDiff, Nat.reduceLT, fn_transitlaw36_small, e10_1, w10_1, e10_3, w10_3, c10_4, e10_6, w10_6, e10_8, w10_8, e10_10, w10_10, e10_12, w10_12, c10_13, e10_15, w10_15, c10_16, e10_18, w10_18, c10_19, c10_20, c10_21, c10_22, c10_23, e10_25, w10_25, c10_26, c10_27, c10_28, c10_29, hd, hp, Product.row, Fares.row]
    refine ifD (fun h5 => ?_) (fun h5 => ?_)
    · have e : small36 f = false := by
        rw [small36]
        have : f.products.all (fun p => decide (p.id.length ≤ 1024)) = false := by
          rw [List.all_eq_false]; exact ⟨p, List.mem_of_getElem? hp, by simp; omega⟩
        rw [this, Bool.and_false]
      simp -implicitDefEqProofs (disch := omega) only [go_sem, Nat.reduceAdd, Nat.reduceMul, Nat.reduceSub, Nat.reduceBEq, Nat.reduceLeDiff, Nat.reduceLT, fn_transitlaw36_small, e10_1, w10_1, e10_3, w10_3, c10_4, e10_6, w10_6, e10_8, w10_8, e10_10, w10_10, e10_12, w10_12, c10_13, e10_15, w10_15, c10_16, e10_18, w10_18, c10_19, c10_20, c10_21, c10_22, c10_23, e10_25, w10_25, c10_26, c10_27, c10_28, c10_29, e, Fares.row]
    simp -implicitDefEqProofs (disch := omega) only [go_sem, Nat.reduceAdd, Nat.reduceMul, Nat.reduceSub, Nat.reduceBEq, Nat.reduceLeDiff, Nat.reduceLT, fn_transitlaw36_small, e10_1, w10_1, e10_3, w10_3, c10_4, e10_6, w10_6, e10_8, w10_8, e10_10, w10_10, e10_12, w10_12, c10_13, e10_15, w10_15, c10_16, e10_18, w10_18, c10_19, c10_20, c10_21, c10_22, c10_23, e10_25, w10_25, c10_26, c10_27, c10_28, c10_29, Product.row]
    refine next_stay hi ⟨?_, rfl, rfl⟩
    rw [List.take_add_one, hp, List.all_append, hall]
    simp; omega
  · rintro vs M ⟨hall, rfl, rfl⟩
    rw [List.take_length] at hall
    have e : small36 f = true := by rw [small36, hall, decide_eq_true (by omega)]; rfl
    simp -implicitDefEqProofs (disch := omega) only [go_sem, Nat.reduceAdd, Nat.reduceMul, Nat.reduceSub, Nat.reduceBEq, Nat.reduceLeDiff, Nat.reduceLT, fn_transitlaw36_small, e10_1, w10_1, e10_3, w10_3, c10_4, e10_6, w10_6, e10_8, w10_8, e10_10, w10_10, e10_12, w10_12, c10_13, e10_15, w10_15, c10_16, e10_18, w10_18, c10_19, c10_20, c10_21, c10_22, c10_23, e10_25, w10_25, c10_26, c10_27, c10_28, c10_29, dec_irrefl, e, Fares.row]
theorem own_nil : Own [] := rfl
theorem price_start (f : Fares) : statePrice f (minSum f []) = if f.limit = 0 ∨ 0 < f.limit then (0, true) else (f.limit, true) := by
  rw [minSum_nil, statePrice, if_neg (by omega)]
theorem FarestateStarts_law (f : Fares) (hf : f.wf) : PCalls PR i_transitlaw36_FarestateStarts [.agg f.row] (fun v => v = .bool true) := by
  have hown : Own [.box f.row] := by simp [Own, memUnder, Blk.under, underL, V.under, Fares.row]
  simp only [Fares.row] at hown
  refine acalls_pop fn_transitlaw36_FarestateStarts_ok (by simp [fn_transitlaw36_FarestateStarts]) ?_
  simp -implicitDefEqProofs (disch := omega) only [go_sem, Nat.reduceAdd, Nat.reduceMul, Nat.reduceSub, Nat.reduceBEq, Nat.reduceLeDiff, Nat.reduceLT, fn_transitlaw36_FarestateStarts, e3_1, w3_1, e3_3, w3_3, c3_4, e3_6, w3_6, e3_8, w3_8, e3_10, w3_10, c3_11, e3_13, w3_13, e3_15, w3_15, c3_16, e3_18, w3_18, e3_20, w3_20, e3_22, w3_22, c3_23, c3_24, c3_25, c3_26, c3_27, c3_28, c3_29, Fares.row]
  first | refine callD (small36_ok f hf) ?_ | refine callQD (small36_ok f hf) ?_
  simp -implicitDefEqProofs (disch := omega) only [go_sem, Nat.reduceAdd, Nat.reduceMul, Nat.reduceSub, Nat.reduceBEq, Nat.reduceLeDiff, Nat.reduceLT, fn_transitlaw36_FarestateStarts, e3_1, w3_1, e3_3, w3_3, c3_4, e3_6, w3_6, e3_8, w3_8, e3_10, w3_10, c3_11, e3_13, w3_13, e3_15, w3_15, c3_16, e3_18, w3_18, e3_20, w3_20, e3_22, w3_22, c3_23, c3_24, c3_25, c3_26, c3_27, c3_28, c3_29, Fares.row]
  refine ifB (fun h1 => ?_) (fun h1 => ?_)
  rotate_left
  · simp -implicitDefEqProofs (disch := omega) only [go_sem, Nat.reduceAdd, Nat.reduceMul, Nat.reduceSub, Nat.reduceBEq, Nat.reduceLeDiff, Nat.reduceLT, fn_transitlaw36_FarestateStarts, e3_1, w3_1, e3_3, w3_3, c3_4, e3_6, w3_6, e3_8, w3_8, e3_10, w3_10, c3_11, e3_13, w3_13, e3_15, w3_15, c3_16, e3_18, w3_18, e3_20, w3_20, e3_22, w3_22, c3_23, c3_24, c3_25, c3_26, c3_27, c3_28, c3_29]
    refine callA (exampleHolds_ok hown) ?_
    rintro v N ⟨rfl, rfl⟩
    simp -implicitDefEqProofs (disch := omega) only [go_sem, Nat.reduceAdd, Nat.reduceMul, Nat.reduceSub, Nat.reduceBEq, Nat.reduceLeDiff, Nat.reduceLT, fn_transitlaw36_FarestateStarts, e3_1, w3_1, e3_3, w3_3, c3_4, e3_6, w3_6, e3_8, w3_8, e3_10, w3_10, c3_11, e3_13, w3_13, e3_15, w3_15, c3_16, e3_18, w3_18, e3_20, w3_20, e3_22, w3_22, c3_23, c3_24, c3_25, c3_26, c3_27, c3_28, c3_29]
  simp -implicitDefEqProofs (disch := omega) only [go_sem, Nat.reduceAdd, Nat.reduceMul, Nat.reduceSub, Nat.reduceBEq, Nat.reduceLeDiff, Nat.reduceLT, fn_transitlaw36_FarestateStarts, e3_1, w3_1, e3_3, w3_3, c3_4, e3_6, w3_6, e3_8, w3_8, e3_10, w3_10, c3_11, e3_13, w3_13, e3_15, w3_15, c3_16, e3_18, w3_18, e3_20, w3_20, e3_22, w3_22, c3_23, c3_24, c3_25, c3_26, c3_27, c3_28, c3_29, Fares.row]
  refine callA (farestate_Start_ok f hf hown) ?_
  rintro v N ⟨⟨L, rfl⟩, U, hbad, hgood⟩
  by_cases hc : (checkRes f).2 = 0
  · obtain ⟨id, fp, rfl, H⟩ := hgood hc
    have hok := checkRes_ok hc
    have hv : faresOk f = true := by simp [faresOk, hc]
    simp -implicitDefEqProofs (disch := omega) only [go_sem, Nat.reduceAdd, Nat.reduceMul, Nat.reduceSub, Nat.reduceBEq, Nat.reduceLeDiff, Nat.reduceLT, fn_transitlaw36_FarestateStarts, e3_1, w3_1, e3_3, w3_3, c3_4, e3_6, w3_6, e3_8, w3_8, e3_10, w3_10, c3_11, e3_13, w3_13, e3_15, w3_15, c3_16, e3_18, w3_18, e3_20, w3_20, e3_22, w3_22, c3_23, c3_24, c3_25, c3_26, c3_27, c3_28, c3_29, Fares.row]
    first | refine callD (transitref35_Valid_ok f hf) ?_ | refine callQD (transitref35_Valid_ok f hf) ?_
    simp -implicitDefEqProofs (disch := omega) only [go_sem, Nat.reduceAdd, Nat.reduceMul, Nat.reduceSub, Nat.reduceBEq, Nat.reduceLeDiff, Nat.reduceLT, fn_transitlaw36_FarestateStarts, e3_1, w3_1, e3_3, w3_3, c3_4, e3_6, w3_6, e3_8, w3_8, e3_10, w3_10, c3_11, e3_13, w3_13, e3_15, w3_15, c3_16, e3_18, w3_18, e3_20, w3_20, e3_22, w3_22, c3_23, c3_24, c3_25, c3_26, c3_27, c3_28, c3_29, hv, eq_ptr_nil]
    refine callA (Price_held H (by simp)) ?_
    rintro v N ⟨rfl, rfl⟩
    have hpr : statePrice f (minSum f ([] : List Ride).reverse) = (0, true) := by
      rw [List.reverse_nil, price_start]
      obtain ⟨a, b⟩ := hok.limit
      rw [if_pos (by omega)]
    rw [hpr]
    simp -implicitDefEqProofs (disch := omega) only [go_sem, Nat.reduceAdd, Nat.reduceMul, Nat.reduceSub, Nat.reduceBEq, Nat.reduceLeDiff, Nat.reduceLT, fn_transitlaw36_FarestateStarts, e3_1, w3_1, e3_3, w3_3, c3_4, e3_6, w3_6, e3_8, w3_8, e3_10, w3_10, c3_11, e3_13, w3_13, e3_15, w3_15, c3_16, e3_18, w3_18, e3_20, w3_20, e3_22, w3_22, c3_23, c3_24, c3_25, c3_26, c3_27, c3_28, c3_29, prV]
    refine callA (Rides_held H) ?_
    rintro v N ⟨rfl, rfl⟩
    simp -implicitDefEqProofs (disch := omega) only [go_sem, Nat.reduceAdd, Nat.reduceMul, Nat.reduceSub, Nat.reduceBEq, Nat.reduceLeDiff, Nat.reduceLT, fn_transitlaw36_FarestateStarts, e3_1, w3_1, e3_3, w3_3, c3_4, e3_6, w3_6, e3_8, w3_8, e3_10, w3_10, c3_11, e3_13, w3_13, e3_15, w3_15, c3_16, e3_18, w3_18, e3_20, w3_20, e3_22, w3_22, c3_23, c3_24, c3_25, c3_26, c3_27, c3_28, c3_29]
    refine callA (exampleHolds_ok U) ?_
    rintro v N ⟨rfl, rfl⟩
    simp -implicitDefEqProofs (disch := omega) only [go_sem, Nat.reduceAdd, Nat.reduceMul, Nat.reduceSub, Nat.reduceBEq, Nat.reduceLeDiff, Nat.reduceLT, fn_transitlaw36_FarestateStarts, e3_1, w3_1, e3_3, w3_3, c3_4, e3_6, w3_6, e3_8, w3_8, e3_10, w3_10, c3_11, e3_13, w3_13, e3_15, w3_15, c3_16, e3_18, w3_18, e3_20, w3_20, e3_22, w3_22, c3_23, c3_24, c3_25, c3_26, c3_27, c3_28, c3_29]
  · obtain rfl := hbad hc
    have hv : faresOk f = false := by simp [faresOk, hc]
    simp -implicitDefEqProofs (disch := omega) only [go_sem, Nat.reduceAdd, Nat.reduceMul, Nat.reduceSub, Nat.reduceBEq, Nat.reduceLeDiff, Nat.reduceLT, fn_transitlaw36_FarestateStarts, e3_1, w3_1, e3_3, w3_3, c3_4, e3_6, w3_6, e3_8, w3_8, e3_10, w3_10, c3_11, e3_13, w3_13, e3_15, w3_15, c3_16, e3_18, w3_18, e3_20, w3_20, e3_22, w3_22, c3_23, c3_24, c3_25, c3_26, c3_27, c3_28, c3_29, Fares.row]
    first | refine callD (transitref35_Valid_ok f hf) ?_ | refine callQD (transitref35_Valid_ok f hf) ?_
    simp -implicitDefEqProofs (disch := omega) only [go_sem, Nat.reduceAdd, Nat.reduceMul, Nat.reduceSub, Nat.reduceBEq, Nat.reduceLeDiff, Nat.reduceLT, fn_transitlaw36_FarestateStarts, e3_1, w3_1, e3_3, w3_3, c3_4, e3_6, w3_6, e3_8, w3_8, e3_10, w3_10, c3_11, e3_13, w3_13, e3_15, w3_15, c3_16, e3_18, w3_18, e3_20, w3_20, e3_22, w3_22, c3_23, c3_24, c3_25, c3_26, c3_27, c3_28, c3_29, hv, eq_nil_nil]
    refine callA (exampleHolds_ok U) ?_
    rintro v N ⟨rfl, rfl⟩
    simp -implicitDefEqProofs (disch := omega) only [go_sem, Nat.reduceAdd, Nat.reduceMul, Nat.reduceSub, Nat.reduceBEq, Nat.reduceLeDiff, Nat.reduceLT, fn_transitlaw36_FarestateStarts, e3_1, w3_1, e3_3, w3_3, c3_4, e3_6, w3_6, e3_8, w3_8, e3_10, w3_10, c3_11, e3_13, w3_13, e3_15, w3_15, c3_16, e3_18, w3_18, e3_20, w3_20, e3_22, w3_22, c3_23, c3_24, c3_25, c3_26, c3_27, c3_28, c3_29]

/-- What the specification says of the price. -/
def refPrice (f : Fares) (l : List Ride) : Int × Bool := ((fareRes f l).1, decide ((fareRes f l).2.2 = 0))
theorem ref36_Price_ok (f : Fares) (l : List Ride) (c : Cap) (hf : f.wf) (hl : ∀ r ∈ l, r.wf) : PCalls PR i_transitref36_Price [.agg f.row, .slice (l.map Ride.row) c] (fun v => v = prV (refPrice f l)) := by
  refine acalls_pop fn_transitref36_Price_ok (by simp [fn_transitref36_Price]) ?_
  simp -implicitDefEqProofs (disch := omega) only [go_sem, Nat.reduceAdd, Nat.reduceMul, Nat.reduceSub, Nat.reduceBEq, Nat.reduceLeDiff, Nat.reduceLT, fn_transitref36_Price, e18_1, w18_1, e18_3, w18_3, e18_5, w18_5, c18_6, c18_7, c18_8, Fares.row]
  refine callP (transitref35_Price_ok f l c hf hl) ?_
  rintro v ⟨e, rfl⟩
  simp -implicitDefEqProofs (disch := omega) only [go_sem, Nat.reduceAdd, Nat.reduceMul, Nat.reduceSub, Nat.reduceBEq, Nat.reduceLeDiff, Nat.reduceLT, fn_transitref36_Price, e18_1, w18_1, e18_3, w18_3, e18_5, w18_5, c18_6, c18_7, c18_8, fareV, Fares.row, prV, refPrice]
theorem price_eq {f : Fares} {l : List Ride} (hc : (checkRes f).2 = 0) (hlen : l.length ≤ 8) : statePrice f (minSum f l) = refPrice f l := by
  have hok := checkRes_ok hc
  have hv := fareRes_valid (validRes_zero.2 ⟨hc, hlen⟩ : validRes f l.length = 0)
  obtain ⟨l1, l2⟩ := hok.limit
  unfold refPrice minSum
  rw [hv]
  cases hb : best f l 0 with
  | none => simp [statePrice]
  | some d =>
    have := (div_mild hok _ _ (best_div (by omega) hb)).1
    simp only [statePrice, if_neg (show ¬ total d < 0 by omega), capped]
    split <;> split <;> simp <;> omega

theorem FarestateExact_law (f : Fares) (l : List Ride) (c : Cap) (hf : f.wf) (hl : ∀ x ∈ l, x.wf) : PCalls PR i_transitlaw36_FarestateExact [.agg f.row, .slice (l.map Ride.row) c] (fun v => v = .bool true) := by
  have hown : Own [.box f.row] := by simp [Own, memUnder, Blk.under, underL, V.under, Fares.row]
  simp only [Fares.row] at hown
  have hex : ∀ {N : Mem}, Own N → ACalls PR i_transitlaw36_exampleHolds [] N (fun v M' => v = .bool true ∧ M' = N) := fun h => exampleHolds_ok h
  refine acalls_pop fn_transitlaw36_FarestateExact_ok (by simp [fn_transitlaw36_FarestateExact]) ?_
  simp -implicitDefEqProofs (disch := omega) only [go_sem, Nat.reduceAdd, Nat.reduceMul, Nat.reduceSub, Nat.reduceBEq, Nat.reduceLeDiff, Nat.reduceLT, fn_transitlaw36_FarestateExact, e5_1, w5_1, e5_3, w5_3, c5_4, e5_6, w5_6, e5_8, w5_8, e5_10, w5_10, e5_12, w5_12, e5_14, w5_14, c5_15, e5_17, w5_17, e5_19, w5_19, e5_21, w5_21, e5_23, w5_23, c5_24, e5_26, w5_26, c5_27, c5_28, c5_29, c5_30, c5_31, e5_33, w5_33, c5_34, c5_35, c5_36, c5_37, c5_38, e5_40, w5_40, c5_41, c5_42, c5_43, c5_44, Fares.row]
  first | refine callD (small36_ok f hf) ?_ | refine callQD (small36_ok f hf) ?_
  simp -implicitDefEqProofs (disch := omega) only [go_sem, Nat.reduceAdd, Nat.reduceMul, Nat.reduceSub, Nat.reduceBEq, Nat.reduceLeDiff, Nat.reduceLT, fn_transitlaw36_FarestateExact, e5_1, w5_1, e5_3, w5_3, c5_4, e5_6, w5_6, e5_8, w5_8, e5_10, w5_10, e5_12, w5_12, e5_14, w5_14, c5_15, e5_17, w5_17, e5_19, w5_19, e5_21, w5_21, e5_23, w5_23, c5_24, e5_26, w5_26, c5_27, c5_28, c5_29, c5_30, c5_31, e5_33, w5_33, c5_34, c5_35, c5_36, c5_37, c5_38, e5_40, w5_40, c5_41, c5_42, c5_43, c5_44, Fares.row]
  refine ifB (fun h1 => ?_) (fun h1 => ?_)
  rotate_left
  · simp -implicitDefEqProofs (disch := omega) only [go_sem, Nat.reduceAdd, Nat.reduceMul, Nat.reduceSub, Nat.reduceBEq, Nat.reduceLeDiff, Nat.reduceLT, fn_transitlaw36_FarestateExact, e5_1, w5_1, e5_3, w5_3, c5_4, e5_6, w5_6, e5_8, w5_8, e5_10, w5_10, e5_12, w5_12, e5_14, w5_14, c5_15, e5_17, w5_17, e5_19, w5_19, e5_21, w5_21, e5_23, w5_23, c5_24, e5_26, w5_26, c5_27, c5_28, c5_29, c5_30, c5_31, e5_33, w5_33, c5_34, c5_35, c5_36, c5_37, c5_38, e5_40, w5_40, c5_41, c5_42, c5_43, c5_44]
    refine callA (hex hown) ?_
    rintro v N ⟨rfl, rfl⟩
    simp -implicitDefEqProofs (disch := omega) only [go_sem, Nat.reduceAdd, Nat.reduceMul, Nat.reduceSub, Nat.reduceBEq, Nat.reduceLeDiff, Nat.reduceLT, fn_transitlaw36_FarestateExact, e5_1, w5_1, e5_3, w5_3, c5_4, e5_6, w5_6, e5_8, w5_8, e5_10, w5_10, e5_12, w5_12, e5_14, w5_14, c5_15, e5_17, w5_17, e5_19, w5_19, e5_21, w5_21, e5_23, w5_23, c5_24, e5_26, w5_26, c5_27, c5_28, c5_29, c5_30, c5_31, e5_33, w5_33, c5_34, c5_35, c5_36, c5_37, c5_38, e5_40, w5_40, c5_41, c5_42, c5_43, c5_44]
  simp -implicitDefEqProofs (disch := omega) only [go_sem, Nat.reduceAdd, Nat.reduceMul, Nat.reduceSub, Nat.reduceBEq, Nat.reduceLeDiff, Nat.reduceLT, fn_transitlaw36_FarestateExact, e5_1, w5_1, e5_3, w5_3, c5_4, e5_6, w5_6, e5_8, w5_8, e5_10, w5_10, e5_12, w5_12, e5_14, w5_14, c5_15, e5_17, w5_17, e5_19, w5_19, e5_21, w5_21, e5_23, w5_23, c5_24, e5_26, w5_26, c5_27, c5_28, c5_29, c5_30, c5_31, e5_33, w5_33, c5_34, c5_35, c5_36, c5_37, c5_38, e5_40, w5_40, c5_41, c5_42, c5_43, c5_44, Fares.row]
  refine ifD (fun h2 => ?_) (fun h2 => ?_)
  · simp -implicitDefEqProofs (disch := omega) only [go_sem, Nat.reduceAdd, Nat.reduceMul, Nat.reduceSub, Nat.reduceBEq, Nat.reduceLeDiff, Nat.reduceLT, fn_transitlaw36_FarestateExact, e5_1, w5_1, e5_3, w5_3, c5_4, e5_6, w5_6, e5_8, w5_8, e5_10, w5_10, e5_12, w5_12, e5_14, w5_14, c5_15, e5_17, w5_17, e5_19, w5_19, e5_21, w5_21, e5_23, w5_23, c5_24, e5_26, w5_26, c5_27, c5_28, c5_29, c5_30, c5_31, e5_33, w5_33, c5_34, c5_35, c5_36, c5_37, c5_38, e5_40, w5_40, c5_41, c5_42, c5_43, c5_44]
    refine callA (hex hown) ?_
    rintro v N ⟨rfl, rfl⟩
    simp -implicitDefEqProofs (disch := omega) only [go_sem, Nat.reduceAdd, Nat.reduceMul, Nat.reduceSub, Nat.reduceBEq, Nat.reduceLeDiff, Nat.reduceLT, fn_transitlaw36_FarestateExact, e5_1, w5_1, e5_3, w5_3, c5_4, e5_6, w5_6, e5_8, w5_8, e5_10, w5_10, e5_12, w5_12, e5_14, w5_14, c5_15, e5_17, w5_17, e5_19, w5_19, e5_21, w5_21, e5_23, w5_23, c5_24, e5_26, w5_26, c5_27, c5_28, c5_29, c5_30, c5_31, e5_33, w5_33, c5_34, c5_35, c5_36, c5_37, c5_38, e5_40, w5_40, c5_41, c5_42, c5_43, c5_44]
  simp -implicitDefEqProofs (disch := omega) only [go_sem, Nat.reduceAdd, Nat.reduceMul, Nat.reduceSub, Nat.reduceBEq, Nat.reduceLeDiff, Nat.reduceLT, fn_transitlaw36_FarestateExact, e5_1, w5_1, e5_3, w5_3, c5_4, e5_6, w5_6, e5_8, w5_8, e5_10, w5_10, e5_12, w5_12, e5_14, w5_14, c5_15, e5_17, w5_17, e5_19, w5_19, e5_21, w5_21, e5_23, w5_23, c5_24, e5_26, w5_26, c5_27, c5_28, c5_29, c5_30, c5_31, e5_33, w5_33, c5_34, c5_35, c5_36, c5_37, c5_38, e5_40, w5_40, c5_41, c5_42, c5_43, c5_44, Fares.row]
  first | refine callD (transitref35_Valid_ok f hf) ?_ | refine callQD (transitref35_Valid_ok f hf) ?_
  simp -implicitDefEqProofs (disch := omega) only [go_sem, Nat.reduceAdd, Nat.reduceMul, Nat.reduceSub, Nat.reduceBEq, Nat.reduceLeDiff, Nat.reduceLT, fn_transitlaw36_FarestateExact, e5_1, w5_1, e5_3, w5_3, c5_4, e5_6, w5_6, e5_8, w5_8, e5_10, w5_10, e5_12, w5_12, e5_14, w5_14, c5_15, e5_17, w5_17, e5_19, w5_19, e5_21, w5_21, e5_23, w5_23, c5_24, e5_26, w5_26, c5_27, c5_28, c5_29, c5_30, c5_31, e5_33, w5_33, c5_34, c5_35, c5_36, c5_37, c5_38, e5_40, w5_40, c5_41, c5_42, c5_43, c5_44]
  refine ifB (fun h3 => ?_) (fun h3 => ?_)
  rotate_left
  · simp -implicitDefEqProofs (disch := omega) only [go_sem, Nat.reduceAdd, Nat.reduceMul, Nat.reduceSub, Nat.reduceBEq, Nat.reduceLeDiff, Nat.reduceLT, fn_transitlaw36_FarestateExact, e5_1, w5_1, e5_3, w5_3, c5_4, e5_6, w5_6, e5_8, w5_8, e5_10, w5_10, e5_12, w5_12, e5_14, w5_14, c5_15, e5_17, w5_17, e5_19, w5_19, e5_21, w5_21, e5_23, w5_23, c5_24, e5_26, w5_26, c5_27, c5_28, c5_29, c5_30, c5_31, e5_33, w5_33, c5_34, c5_35, c5_36, c5_37, c5_38, e5_40, w5_40, c5_41, c5_42, c5_43, c5_44]
    refine callA (hex hown) ?_
    rintro v N ⟨rfl, rfl⟩
    simp -implicitDefEqProofs (disch := omega) only [go_sem, Nat.reduceAdd, Nat.reduceMul, Nat.reduceSub, Nat.reduceBEq, Nat.reduceLeDiff, Nat.reduceLT, fn_transitlaw36_FarestateExact, e5_1, w5_1, e5_3, w5_3, c5_4, e5_6, w5_6, e5_8, w5_8, e5_10, w5_10, e5_12, w5_12, e5_14, w5_14, c5_15, e5_17, w5_17, e5_19, w5_19, e5_21, w5_21, e5_23, w5_23, c5_24, e5_26, w5_26, c5_27, c5_28, c5_29, c5_30, c5_31, e5_33, w5_33, c5_34, c5_35, c5_36, c5_37, c5_38, e5_40, w5_40, c5_41, c5_42, c5_43, c5_44]
  have hc : (checkRes f).2 = 0 := by simpa [faresOk] using h3
  have hok := checkRes_ok hc
  simp -implicitDefEqProofs (disch := omega) only [go_sem, Nat.reduceAdd, Nat.reduceMul, Nat.reduceSub, Nat.reduceBEq, Nat.reduceLeDiff, Nat.reduceLT, fn_transitlaw36_FarestateExact, e5_1, w5_1, e5_3, w5_3, c5_4, e5_6, w5_6, e5_8, w5_8, e5_10, w5_10, e5_12, w5_12, e5_14, w5_14, c5_15, e5_17, w5_17, e5_19, w5_19, e5_21, w5_21, e5_23, w5_23, c5_24, e5_26, w5_26, c5_27, c5_28, c5_29, c5_30, c5_31, e5_33, w5_33, c5_34, c5_35, c5_36, c5_37, c5_38, e5_40, w5_40, c5_41, c5_42, c5_43, c5_44, Fares.row]
  refine wpC_for (l.length + 1) (fun i vs N => (∃ L, N = [.box f.row] ++ L) ∧ Own N ∧ vs = [.slice (l.map Ride.row) c, .ptr 0 0, .int .i64 i]) ⟨⟨[], rfl⟩, hown, rfl⟩ ?_ ?_
  rotate_left
  · rintro vs N ⟨_, U, rfl⟩
    simp -implicitDefEqProofs (disch := omega) only [go_sem, Nat.reduceAdd, Nat.reduceMul, Nat.reduceSub, Nat.reduceBEq, Nat.reduceLeDiff, Nat.reduceLT, fn_transitlaw36_FarestateExact, e5_1, w5_1, e5_3, w5_3, c5_4, e5_6, w5_6, e5_8, w5_8, e5_10, w5_10, e5_12, w5_12, e5_14, w5_14, c5_15, e5_17, w5_17, e5_19, w5_19, e5_21, w5_21, e5_23, w5_23, c5_24, e5_26, w5_26, c5_27, c5_28, c5_29, c5_30, c5_31, e5_33, w5_33, c5_34, c5_35, c5_36, c5_37, c5_38, e5_40, w5_40, c5_41, c5_42, c5_43, c5_44]
    refine ifD (fun h5 => ?_) (fun h5 => ?_)
    · omega
    simp -implicitDefEqProofs (disch := omega) only [go_sem, Nat.reduceAdd, Nat.reduceMul, Nat.reduceSub, Nat.reduceBEq, Nat.reduceLeDiff, Nat.reduceLT, fn_transitlaw36_FarestateExact, e5_1, w5_1, e5_3, w5_3, c5_4, e5_6, w5_6, e5_8, w5_8, e5_10, w5_10, e5_12, w5_12, e5_14, w5_14, c5_15, e5_17, w5_17, e5_19, w5_19, e5_21, w5_21, e5_23, w5_23, c5_24, e5_26, w5_26, c5_27, c5_28, c5_29, c5_30, c5_31, e5_33, w5_33, c5_34, c5_35, c5_36, c5_37, c5_38, e5_40, w5_40, c5_41, c5_42, c5_43, c5_44]
    refine callA (hex U) ?_
    rintro v N ⟨rfl, rfl⟩
    simp -implicitDefEqProofs (disch := omega) only [go_sem, Nat.reduceAdd, Nat.reduceMul, Nat.reduceSub, Nat.reduceBEq, Nat.reduceLeDiff, Nat.reduceLT, fn_transitlaw36_FarestateExact, e5_1, w5_1, e5_3, w5_3, c5_4, e5_6, w5_6, e5_8, w5_8, e5_10, w5_10, e5_12, w5_12, e5_14, w5_14, c5_15, e5_17, w5_17, e5_19, w5_19, e5_21, w5_21, e5_23, w5_23, c5_24, e5_26, w5_26, c5_27, c5_28, c5_29, c5_30, c5_31, e5_33, w5_33, c5_34, c5_35, c5_36, c5_37, c5_38, e5_40, w5_40, c5_41, c5_42, c5_43, c5_44]
  rintro i vs N hi hid ⟨⟨L, rfl⟩, U, rfl⟩
  have htl : (l.take i).length = i := by simp; omega
  simp -implicitDefEqProofs (disch := omega) only [go_sem, Nat.reduceAdd, Nat.reduceMul, Nat.reduceSub, Nat.reduceBEq, Nat.reduceLeDiff, Nat.reduceLT, fn_transitlaw36_FarestateExact, e5_1, w5_1, e5_3, w5_3, c5_4, e5_6, w5_6, e5_8, w5_8, e5_10, w5_10, e5_12, w5_12, e5_14, w5_14, c5_15, e5_17, w5_17, e5_19, w5_19, e5_21, w5_21, e5_23, w5_23, c5_24, e5_26, w5_26, c5_27, c5_28, c5_29, c5_30, c5_31, e5_33, w5_33, c5_34, c5_35, c5_36, c5_37, c5_38, e5_40, w5_40, c5_41, c5_42, c5_43, c5_44]
  refine ifD (fun h5 => ?_) (fun h5 => ?_)
  rotate_left
  · omega
  simp -implicitDefEqProofs (disch := omega) only [go_sem, Nat.reduceAdd, Nat.reduceMul, Nat.reduceSub, Nat.reduceBEq, Nat.reduceLeDiff, Nat.reduceLT, fn_transitlaw36_FarestateExact, e5_1, w5_1, e5_3, w5_3, c5_4, e5_6, w5_6, e5_8, w5_8, e5_10, w5_10, e5_12, w5_12, e5_14, w5_14, c5_15, e5_17, w5_17, e5_19, w5_19, e5_21, w5_21, e5_23, w5_23, c5_24, e5_26, w5_26, c5_27, c5_28, c5_29, c5_30, c5_31, e5_33, w5_33, c5_34, c5_35, c5_36, c5_37, c5_38, e5_40, w5_40, c5_41, c5_42, c5_43, c5_44, Fares.row, slice_pre l i _ _ (by omega)]
  refine callA (made_ok f (l.take i) _ hf hc (take_wf hl) (by omega) U) ?_
  rintro v N ⟨L', id, fp, rfl, rfl, H⟩
  simp -implicitDefEqProofs (disch := omega) only [go_sem, Nat.reduceAdd, Nat.reduceMul, Nat.reduceSub, Nat.reduceBEq, Nat.reduceLeDiff, Nat.reduceLT, fn_transitlaw36_FarestateExact, e5_1, w5_1, e5_3, w5_3, c5_4, e5_6, w5_6, e5_8, w5_8, e5_10, w5_10, e5_12, w5_12, e5_14, w5_14, c5_15, e5_17, w5_17, e5_19, w5_19, e5_21, w5_21, e5_23, w5_23, c5_24, e5_26, w5_26, c5_27, c5_28, c5_29, c5_30, c5_31, e5_33, w5_33, c5_34, c5_35, c5_36, c5_37, c5_38, e5_40, w5_40, c5_41, c5_42, c5_43, c5_44]
  refine callA (Price_held H (by simp; omega)) ?_
  rintro v N ⟨rfl, rfl⟩
  rw [List.reverse_reverse, price_eq hc (by omega)]
  simp -implicitDefEqProofs (disch := omega) only [go_sem, Nat.reduceAdd, Nat.reduceMul, Nat.reduceSub, Nat.reduceBEq, Nat.reduceLeDiff, Nat.reduceLT, fn_transitlaw36_FarestateExact, e5_1, w5_1, e5_3, w5_3, c5_4, e5_6, w5_6, e5_8, w5_8, e5_10, w5_10, e5_12, w5_12, e5_14, w5_14, c5_15, e5_17, w5_17, e5_19, w5_19, e5_21, w5_21, e5_23, w5_23, c5_24, e5_26, w5_26, c5_27, c5_28, c5_29, c5_30, c5_31, e5_33, w5_33, c5_34, c5_35, c5_36, c5_37, c5_38, e5_40, w5_40, c5_41, c5_42, c5_43, c5_44, prV, Fares.row, slice_pre l i _ _ (by omega), List.append_assoc]
  first | refine callD (ref36_Price_ok f (l.take i) _ hf (take_wf hl)) ?_ | refine callQD (ref36_Price_ok f (l.take i) _ hf (take_wf hl)) ?_
  simp -implicitDefEqProofs (disch := omega) only [go_sem, Nat.reduceAdd, Nat.reduceMul, Nat.reduceSub, Nat.reduceBEq, Nat.reduceLeDiff, Nat.reduceLT, fn_transitlaw36_FarestateExact, e5_1, w5_1, e5_3, w5_3, c5_4, e5_6, w5_6, e5_8, w5_8, e5_10, w5_10, e5_12, w5_12, e5_14, w5_14, c5_15, e5_17, w5_17, e5_19, w5_19, e5_21, w5_21, e5_23, w5_23, c5_24, e5_26, w5_26, c5_27, c5_28, c5_29, c5_30, c5_31, e5_33, w5_33, c5_34, c5_35, c5_36, c5_37, c5_38, e5_40, w5_40, c5_41, c5_42, c5_43, c5_44, prV]
  trace_state
  refine next_stay hi ⟨⟨L ++ L', rfl⟩, ?_, ?_⟩
  · simpa using H.own
  · simp only [vals, sget]; rfl

end Go.Vm.C

