/- The statements FarestateStarts and FarestateLimits. -/
import Derived.Test.YtfjihilnldjbeaaT12

namespace Go.Vm.C
open Go.Vm
set_option maxHeartbeats 1000000
set_option maxRecDepth 10000
set_option linter.unusedSimpArgs false
set_option linter.unusedVariables false

/-! ### What the arguments read as -/
def ctProduct : List CT := [.str, .int .i64, .int .i64, .int .i64, .int .i64, .int .i64]
def ctRide : List CT := [.int .i64, .int .i64, .int .i64, .int .i64]
def ctFares : List CT := [.slice ctProduct, .int .i64, .int .i64, .int .i64]

theorem read_product {vs : List V} (h : HasR ctProduct vs) : ∃ p : Product, vs = p.row ∧ p.wf := by
  obtain ⟨_, _, rfl, h1, h⟩ := hasR_cons h
  obtain ⟨_, _, rfl, h2, h⟩ := hasR_cons h
  obtain ⟨_, _, rfl, h3, h⟩ := hasR_cons h
  obtain ⟨_, _, rfl, h4, h⟩ := hasR_cons h
  obtain ⟨_, _, rfl, h5, h⟩ := hasR_cons h
  obtain ⟨_, _, rfl, h6, h⟩ := hasR_cons h
  cases hasR_nil h
  obtain ⟨s, rfl, hs⟩ := hasC_str h1
  obtain ⟨a, rfl, ha⟩ := hasC_i64 h2
  obtain ⟨b, rfl, hb⟩ := hasC_i64 h3
  obtain ⟨c, rfl, hc⟩ := hasC_i64 h4
  obtain ⟨d, rfl, hd⟩ := hasC_i64 h5
  obtain ⟨e, rfl, he⟩ := hasC_i64 h6
  exact ⟨⟨s, a, b, c, d, e⟩, rfl, hs, ha, hb, hc, hd, he⟩

theorem read_ride {vs : List V} (h : HasR ctRide vs) : ∃ r : Ride, vs = r.row ∧ r.wf := by
  obtain ⟨_, _, rfl, h1, h⟩ := hasR_cons h
  obtain ⟨_, _, rfl, h2, h⟩ := hasR_cons h
  obtain ⟨_, _, rfl, h3, h⟩ := hasR_cons h
  obtain ⟨_, _, rfl, h4, h⟩ := hasR_cons h
  cases hasR_nil h
  obtain ⟨a, rfl, ha⟩ := hasC_i64 h1
  obtain ⟨b, rfl, hb⟩ := hasC_i64 h2
  obtain ⟨c, rfl, hc⟩ := hasC_i64 h3
  obtain ⟨d, rfl, hd⟩ := hasC_i64 h4
  exact ⟨⟨a, b, c, d⟩, rfl, ha, hb, hc, hd⟩

theorem read_fares {vs : List V} (h : HasR ctFares vs) : ∃ f : Fares, vs = f.row ∧ f.wf := by
  obtain ⟨_, _, rfl, h1, h⟩ := hasR_cons h
  obtain ⟨_, _, rfl, h2, h⟩ := hasR_cons h
  obtain ⟨_, _, rfl, h3, h⟩ := hasR_cons h
  obtain ⟨_, _, rfl, h4, h⟩ := hasR_cons h
  cases hasR_nil h
  obtain ⟨l, c, rfl, hl, hlen, _⟩ := hasC_slice (fun vs h => read_product h) h1
  obtain ⟨a, rfl, ha⟩ := hasC_i64 h2
  obtain ⟨b, rfl, hb⟩ := hasC_i64 h3
  obtain ⟨d, rfl, hd⟩ := hasC_i64 h4
  exact ⟨⟨l, c, a, b, d⟩, rfl, hl, hlen, ha, hb, hd⟩

theorem read_rides {v : V} (h : HasC (.slice ctRide) v) : ∃ (l : List Ride) (c : Cap), v = .slice (l.map Ride.row) c ∧ (∀ r ∈ l, r.wf) ∧ l.length ≤ maxLen := by
  obtain ⟨l, c, rfl, hl, hlen, _⟩ := hasC_slice (fun vs h => read_ride h) h
  exact ⟨l, c, rfl, hl, hlen⟩

/-! ### The statements' functions -/
/-! ### The statements on states -/
def small36 (f : Fares) : Bool := decide (f.products.length ≤ 20) && f.products.all (fun p => decide (p.id.length ≤ 1024))
theorem small36_ok (f : Fares) (hf : f.wf) : PCalls PR i_transitlaw36_small [.agg f.row] (fun v => v = .bool (small36 f)) := by
  refine acalls_pop fn_transitlaw36_small_ok (by simp [fn_transitlaw36_small]) ?_
  simp -implicitDefEqProofs (disch := omega) only [go_sem, Nat.reduceAdd, Nat.reduceMul, Nat.reduceSub, Nat.reduceBEq, Nat.reduceLeDiff, Nat.reduceLT, fn_transitlaw36_small, e10_1, w10_1, e10_3, w10_3, c10_4, e10_6, w10_6, e10_8, w10_8, e10_10, w10_10, e10_12, w10_12, c10_13, e10_15, w10_15, c10_16, e10_18, w10_18, c10_19, c10_20, c10_21, c10_22, c10_23, e10_25, w10_25, c10_26, c10_27, c10_28, c10_29, Fares.row]
  refine ifD (fun h => ?_) (fun h => ?_)
  · have : small36 f = false := by rw [small36, decide_eq_false (by omega), Bool.false_and]
    simp -implicitDefEqProofs (disch := omega) only [go_sem, Nat.reduceAdd, Nat.reduceMul, Nat.reduceSub, Nat.reduceBEq, Nat.reduceLeDiff, Nat.reduceLT, fn_transitlaw36_small, e10_1, w10_1, e10_3, w10_3, c10_4, e10_6, w10_6, e10_8, w10_8, e10_10, w10_10, e10_12, w10_12, c10_13, e10_15, w10_15, c10_16, e10_18, w10_18, c10_19, c10_20, c10_21, c10_22, c10_23, e10_25, w10_25, c10_26, c10_27, c10_28, c10_29, this, Fares.row]
  simp -implicitDefEqProofs (disch := omega) only [go_sem, Nat.reduceAdd, Nat.reduceMul, Nat.reduceSub, Nat.reduceBEq, Nat.reduceLeDiff, Nat.reduceLT, fn_transitlaw36_small, e10_1, w10_1, e10_3, w10_3, c10_4, e10_6, w10_6, e10_8, w10_8, e10_10, w10_10, e10_12, w10_12, c10_13, e10_15, w10_15, c10_16, e10_18, w10_18, c10_19, c10_20, c10_21, c10_22, c10_23, e10_25, w10_25, c10_26, c10_27, c10_28, c10_29, Fares.row]
  refine wpC_forL f.products (fun i vs M => (f.products.take i).all (fun p => decide (p.id.length ≤ 1024)) = true ∧ vs = [.ptr 0 0, .int .i64 i] ∧ M = [.box f.row]) ⟨by simp, rfl, rfl⟩ ?_ ?_
  · rintro i p vs M hp hi hd ⟨hall, rfl, rfl⟩
    have hw := hf.1 p (List.mem_of_getElem? hp)
    simp -implicitDefEqProofs (disch := omega) only [go_sem, Nat.reduceAdd, Nat.reduceMul, Nat.reduceSub, Nat.reduceBEq, Nat.reduceLeDiff, Nat.reduceLT, fn_transitlaw36_small, e10_1, w10_1, e10_3, w10_3, c10_4, e10_6, w10_6, e10_8, w10_8, e10_10, w10_10, e10_12, w10_12, c10_13, e10_15, w10_15, c10_16, e10_18, w10_18, c10_19, c10_20, c10_21, c10_22, c10_23, e10_25, w10_25, c10_26, c10_27, c10_28, c10_29, hd, hp, Product.row, Fares.row]
    refine ifD (fun h5 => ?_) (fun h5 => ?_)
    · have e : small36 f = false := by
        rw [small36]
        have : f.products.all (fun p => decide (p.id.length ≤ 1024)) = false := by
          rw [List.all_eq_false]; exact ⟨p, List.mem_of_getElem? hp, by simp; omega⟩
        rw [this, Bool.and_false]
      simp -implicitDefEqProofs (disch := omega) only [go_sem, Nat.reduceAdd, Nat.reduceMul, Nat.reduceSub, Nat.reduceBEq, Nat.reduceLeDiff, Nat.reduceLT, fn_transitlaw36_small, e10_1, w10_1, e10_3, w10_3, c10_4, e10_6, w10_6, e10_8, w10_8, e10_10, w10_10, e10_12, w10_12, c10_13, e10_15, w10_15, c10_16, e10_18, w10_18, c10_19, c10_20, c10_21, c10_22, c10_23, e10_25, w10_25, c10_26, c10_27, c10_28, c10_29, e, Fares.row]
    simp -implicitDefEqProofs (disch := omega) only [go_sem, Nat.reduceAdd, Nat.reduceMul, Nat.reduceSub, Nat.reduceBEq, Nat.reduceLeDiff, Nat.reduceLT, fn_transitlaw36_small, e10_1, w10_1, e10_3, w10_3, c10_4, e10_6, w10_6, e10_8, w10_8, e10_10, w10_10, e10_12, w10_12, c10_13, e10_15, w10_15, c10_16, e10_18, w10_18, c10_19, c10_20, c10_21, c10_22, c10_23, e10_25, w10_25, c10_26, c10_27, c10_28, c10_29, Product.row]
    refine next_stay hi ⟨?_, rfl, rfl⟩
    rw [List.take_add_one, hp, List.all_append, hall]
    simp; omega
  · rintro vs M ⟨hall, rfl, rfl⟩
    rw [List.take_length] at hall
    have e : small36 f = true := by rw [small36, hall, decide_eq_true (by omega)]; rfl
    simp -implicitDefEqProofs (disch := omega) only [go_sem, Nat.reduceAdd, Nat.reduceMul, Nat.reduceSub, Nat.reduceBEq, Nat.reduceLeDiff, Nat.reduceLT, fn_transitlaw36_small, e10_1, w10_1, e10_3, w10_3, c10_4, e10_6, w10_6, e10_8, w10_8, e10_10, w10_10, e10_12, w10_12, c10_13, e10_15, w10_15, c10_16, e10_18, w10_18, c10_19, c10_20, c10_21, c10_22, c10_23, e10_25, w10_25, c10_26, c10_27, c10_28, c10_29, dec_irrefl, e, Fares.row]
theorem own_nil : Own [] := rfl
theorem price_start (f : Fares) : statePrice f (minSum f []) = if f.limit = 0 ∨ 0 < f.limit then (0, true) else (f.limit, true) := by
  rw [minSum_nil, statePrice, if_neg (by omega)]
theorem FarestateStarts_law (f : Fares) (hf : f.wf) : PCalls PR i_transitlaw36_FarestateStarts [.agg f.row] (fun v => v = .bool true) := by
  have hown : Own [.box f.row] := by simp [Own, memUnder, Blk.under, underL, V.under, Fares.row]
  simp only [Fares.row] at hown
  refine acalls_pop fn_transitlaw36_FarestateStarts_ok (by simp [fn_transitlaw36_FarestateStarts]) ?_
  simp -implicitDefEqProofs (disch := omega) only [go_sem, Nat.reduceAdd, Nat.reduceMul, Nat.reduceSub, Nat.reduceBEq, Nat.reduceLeDiff, Nat.reduceLT, fn_transitlaw36_FarestateStarts, e3_1, w3_1, e3_3, w3_3, c3_4, e3_6, w3_6, e3_8, w3_8, e3_10, w3_10, c3_11, e3_13, w3_13, e3_15, w3_15, c3_16, e3_18, w3_18, e3_20, w3_20, e3_22, w3_22, c3_23, c3_24, c3_25, c3_26, c3_27, c3_28, c3_29, Fares.row]
  first | refine callD (small36_ok f hf) ?_ | refine callQD (small36_ok f hf) ?_
  simp -implicitDefEqProofs (disch := omega) only [go_sem, Nat.reduceAdd, Nat.reduceMul, Nat.reduceSub, Nat.reduceBEq, Nat.reduceLeDiff, Nat.reduceLT, fn_transitlaw36_FarestateStarts, e3_1, w3_1, e3_3, w3_3, c3_4, e3_6, w3_6, e3_8, w3_8, e3_10, w3_10, c3_11, e3_13, w3_13, e3_15, w3_15, c3_16, e3_18, w3_18, e3_20, w3_20, e3_22, w3_22, c3_23, c3_24, c3_25, c3_26, c3_27, c3_28, c3_29, Fares.row]
  refine ifB (fun h1 => ?_) (fun h1 => ?_)
  rotate_left
  · simp -implicitDefEqProofs (disch := omega) only [go_sem, Nat.reduceAdd, Nat.reduceMul, Nat.reduceSub, Nat.reduceBEq, Nat.reduceLeDiff, Nat.reduceLT, fn_transitlaw36_FarestateStarts, e3_1, w3_1, e3_3, w3_3, c3_4, e3_6, w3_6, e3_8, w3_8, e3_10, w3_10, c3_11, e3_13, w3_13, e3_15, w3_15, c3_16, e3_18, w3_18, e3_20, w3_20, e3_22, w3_22, c3_23, c3_24, c3_25, c3_26, c3_27, c3_28, c3_29]
    refine callA (exampleHolds_ok hown) ?_
    rintro v N ⟨rfl, rfl⟩
    simp -implicitDefEqProofs (disch := omega) only [go_sem, Nat.reduceAdd, Nat.reduceMul, Nat.reduceSub, Nat.reduceBEq, Nat.reduceLeDiff, Nat.reduceLT, fn_transitlaw36_FarestateStarts, e3_1, w3_1, e3_3, w3_3, c3_4, e3_6, w3_6, e3_8, w3_8, e3_10, w3_10, c3_11, e3_13, w3_13, e3_15, w3_15, c3_16, e3_18, w3_18, e3_20, w3_20, e3_22, w3_22, c3_23, c3_24, c3_25, c3_26, c3_27, c3_28, c3_29]
  simp -implicitDefEqProofs (disch := omega) only [go_sem, Nat.reduceAdd, Nat.reduceMul, Nat.reduceSub, Nat.reduceBEq, Nat.reduceLeDiff, Nat.reduceLT, fn_transitlaw36_FarestateStarts, e3_1, w3_1, e3_3, w3_3, c3_4, e3_6, w3_6, e3_8, w3_8, e3_10, w3_10, c3_11, e3_13, w3_13, e3_15, w3_15, c3_16, e3_18, w3_18, e3_20, w3_20, e3_22, w3_22, c3_23, c3_24, c3_25, c3_26, c3_27, c3_28, c3_29, Fares.row]
  refine callA (farestate_Start_ok f hf hown) ?_
  rintro v N ⟨⟨L, rfl⟩, U, hbad, hgood⟩
  by_cases hc : (checkRes f).2 = 0
  · obtain ⟨id, fp, rfl, H⟩ := hgood hc
    have hok := checkRes_ok hc
    have hv : faresOk f = true := by simp [faresOk, hc]
    simp -implicitDefEqProofs (disch := omega) only [go_sem, Nat.reduceAdd, Nat.reduceMul, Nat.reduceSub, Nat.reduceBEq, Nat.reduceLeDiff, Nat.reduceLT, fn_transitlaw36_FarestateStarts, e3_1, w3_1, e3_3, w3_3, c3_4, e3_6, w3_6, e3_8, w3_8, e3_10, w3_10, c3_11, e3_13, w3_13, e3_15, w3_15, c3_16, e3_18, w3_18, e3_20, w3_20, e3_22, w3_22, c3_23, c3_24, c3_25, c3_26, c3_27, c3_28, c3_29, Fares.row]
    first | refine callD (transitref35_Valid_ok f hf) ?_ | refine callQD (transitref35_Valid_ok f hf) ?_
    simp -implicitDefEqProofs (disch := omega) only [go_sem, Nat.reduceAdd, Nat.reduceMul, Nat.reduceSub, Nat.reduceBEq, Nat.reduceLeDiff, Nat.reduceLT, fn_transitlaw36_FarestateStarts, e3_1, w3_1, e3_3, w3_3, c3_4, e3_6, w3_6, e3_8, w3_8, e3_10, w3_10, c3_11, e3_13, w3_13, e3_15, w3_15, c3_16, e3_18, w3_18, e3_20, w3_20, e3_22, w3_22, c3_23, c3_24, c3_25, c3_26, c3_27, c3_28, c3_29, hv, eq_ptr_nil]
    refine callA (Price_held H (by simp)) ?_
    rintro v N ⟨rfl, rfl⟩
    have hpr : statePrice f (minSum f ([] : List Ride).reverse) = (0, true) := by
      rw [List.reverse_nil, price_start]
      obtain ⟨a, b⟩ := hok.limit
      rw [if_pos (by omega)]
    rw [hpr]
    simp -implicitDefEqProofs (disch := omega) only [go_sem, Nat.reduceAdd, Nat.reduceMul, Nat.reduceSub, Nat.reduceBEq, Nat.reduceLeDiff, Nat.reduceLT, fn_transitlaw36_FarestateStarts, e3_1, w3_1, e3_3, w3_3, c3_4, e3_6, w3_6, e3_8, w3_8, e3_10, w3_10, c3_11, e3_13, w3_13, e3_15, w3_15, c3_16, e3_18, w3_18, e3_20, w3_20, e3_22, w3_22, c3_23, c3_24, c3_25, c3_26, c3_27, c3_28, c3_29, prV]
    refine callA (Rides_held H) ?_
    rintro v N ⟨rfl, rfl⟩
    simp -implicitDefEqProofs (disch := omega) only [go_sem, Nat.reduceAdd, Nat.reduceMul, Nat.reduceSub, Nat.reduceBEq, Nat.reduceLeDiff, Nat.reduceLT, fn_transitlaw36_FarestateStarts, e3_1, w3_1, e3_3, w3_3, c3_4, e3_6, w3_6, e3_8, w3_8, e3_10, w3_10, c3_11, e3_13, w3_13, e3_15, w3_15, c3_16, e3_18, w3_18, e3_20, w3_20, e3_22, w3_22, c3_23, c3_24, c3_25, c3_26, c3_27, c3_28, c3_29]
    refine callA (exampleHolds_ok U) ?_
    rintro v N ⟨rfl, rfl⟩
    simp -implicitDefEqProofs (disch := omega) only [go_sem, Nat.reduceAdd, Nat.reduceMul, Nat.reduceSub, Nat.reduceBEq, Nat.reduceLeDiff, Nat.reduceLT, fn_transitlaw36_FarestateStarts, e3_1, w3_1, e3_3, w3_3, c3_4, e3_6, w3_6, e3_8, w3_8, e3_10, w3_10, c3_11, e3_13, w3_13, e3_15, w3_15, c3_16, e3_18, w3_18, e3_20, w3_20, e3_22, w3_22, c3_23, c3_24, c3_25, c3_26, c3_27, c3_28, c3_29]
  · obtain rfl := hbad hc
    have hv : faresOk f = false := by simp [faresOk, hc]
    simp -implicitDefEqProofs (disch := omega) only [go_sem, Nat.reduceAdd, Nat.reduceMul, Nat.reduceSub, Nat.reduceBEq, Nat.reduceLeDiff, Nat.reduceLT, fn_transitlaw36_FarestateStarts, e3_1, w3_1, e3_3, w3_3, c3_4, e3_6, w3_6, e3_8, w3_8, e3_10, w3_10, c3_11, e3_13, w3_13, e3_15, w3_15, c3_16, e3_18, w3_18, e3_20, w3_20, e3_22, w3_22, c3_23, c3_24, c3_25, c3_26, c3_27, c3_28, c3_29, Fares.row]
    first | refine callD (transitref35_Valid_ok f hf) ?_ | refine callQD (transitref35_Valid_ok f hf) ?_
    simp -implicitDefEqProofs (disch := omega) only [go_sem, Nat.reduceAdd, Nat.reduceMul, Nat.reduceSub, Nat.reduceBEq, Nat.reduceLeDiff, Nat.reduceLT, fn_transitlaw36_FarestateStarts, e3_1, w3_1, e3_3, w3_3, c3_4, e3_6, w3_6, e3_8, w3_8, e3_10, w3_10, c3_11, e3_13, w3_13, e3_15, w3_15, c3_16, e3_18, w3_18, e3_20, w3_20, e3_22, w3_22, c3_23, c3_24, c3_25, c3_26, c3_27, c3_28, c3_29, hv, eq_nil_nil]
    refine callA (exampleHolds_ok U) ?_
    rintro v N ⟨rfl, rfl⟩
    simp -implicitDefEqProofs (disch := omega) only [go_sem, Nat.reduceAdd, Nat.reduceMul, Nat.reduceSub, Nat.reduceBEq, Nat.reduceLeDiff, Nat.reduceLT, fn_transitlaw36_FarestateStarts, e3_1, w3_1, e3_3, w3_3, c3_4, e3_6, w3_6, e3_8, w3_8, e3_10, w3_10, c3_11, e3_13, w3_13, e3_15, w3_15, c3_16, e3_18, w3_18, e3_20, w3_20, e3_22, w3_22, c3_23, c3_24, c3_25, c3_26, c3_27, c3_28, c3_29]

theorem FarestateLimits_law (f : Fares) (l : List Ride) (c : Cap) (hf : f.wf) (hl : ∀ x ∈ l, x.wf) : PCalls PR i_transitlaw36_FarestateLimits [.agg f.row, .slice (l.map Ride.row) c] (fun v => v = .bool true) := by
  have hown : Own [.box f.row] := by simp [Own, memUnder, Blk.under, underL, V.under, Fares.row]
  simp only [Fares.row] at hown
  have hex : ∀ {N : Mem}, Own N → ACalls PR i_transitlaw36_exampleHolds [] N (fun v M' => v = .bool true ∧ M' = N) := fun h => exampleHolds_ok h
  refine acalls_pop fn_transitlaw36_FarestateLimits_ok (by simp [fn_transitlaw36_FarestateLimits]) ?_
  simp -implicitDefEqProofs (disch := omega) only [go_sem, Nat.reduceAdd, Nat.reduceMul, Nat.reduceSub, Nat.reduceBEq, Nat.reduceLeDiff, Nat.reduceLT, fn_transitlaw36_FarestateLimits, e4_1, w4_1, e4_3, w4_3, c4_4, e4_6, w4_6, e4_8, w4_8, e4_10, w4_10, c4_11, e4_13, w4_13, e4_15, w4_15, e4_17, w4_17, e4_19, w4_19, e4_21, w4_21, c4_22, e4_24, w4_24, e4_26, w4_26, c4_27, e4_29, w4_29, e4_31, w4_31, c4_32, c4_33, c4_34, c4_35, e4_37, w4_37, c4_38, c4_39, c4_40, c4_41, c4_42, e4_44, w4_44, c4_45, c4_46, c4_47, c4_48, c4_49, c4_50, Fares.row]
  first | refine callD (small36_ok f hf) ?_ | refine callQD (small36_ok f hf) ?_
  simp -implicitDefEqProofs (disch := omega) only [go_sem, Nat.reduceAdd, Nat.reduceMul, Nat.reduceSub, Nat.reduceBEq, Nat.reduceLeDiff, Nat.reduceLT, fn_transitlaw36_FarestateLimits, e4_1, w4_1, e4_3, w4_3, c4_4, e4_6, w4_6, e4_8, w4_8, e4_10, w4_10, c4_11, e4_13, w4_13, e4_15, w4_15, e4_17, w4_17, e4_19, w4_19, e4_21, w4_21, c4_22, e4_24, w4_24, e4_26, w4_26, c4_27, e4_29, w4_29, e4_31, w4_31, c4_32, c4_33, c4_34, c4_35, e4_37, w4_37, c4_38, c4_39, c4_40, c4_41, c4_42, e4_44, w4_44, c4_45, c4_46, c4_47, c4_48, c4_49, c4_50, Fares.row]
  refine ifB (fun h1 => ?_) (fun h1 => ?_)
  rotate_left
  · simp -implicitDefEqProofs (disch := omega) only [go_sem, Nat.reduceAdd, Nat.reduceMul, Nat.reduceSub, Nat.reduceBEq, Nat.reduceLeDiff, Nat.reduceLT, fn_transitlaw36_FarestateLimits, e4_1, w4_1, e4_3, w4_3, c4_4, e4_6, w4_6, e4_8, w4_8, e4_10, w4_10, c4_11, e4_13, w4_13, e4_15, w4_15, e4_17, w4_17, e4_19, w4_19, e4_21, w4_21, c4_22, e4_24, w4_24, e4_26, w4_26, c4_27, e4_29, w4_29, e4_31, w4_31, c4_32, c4_33, c4_34, c4_35, e4_37, w4_37, c4_38, c4_39, c4_40, c4_41, c4_42, e4_44, w4_44, c4_45, c4_46, c4_47, c4_48, c4_49, c4_50]
    refine callA (hex hown) ?_
    rintro v N ⟨rfl, rfl⟩
    simp -implicitDefEqProofs (disch := omega) only [go_sem, Nat.reduceAdd, Nat.reduceMul, Nat.reduceSub, Nat.reduceBEq, Nat.reduceLeDiff, Nat.reduceLT, fn_transitlaw36_FarestateLimits, e4_1, w4_1, e4_3, w4_3, c4_4, e4_6, w4_6, e4_8, w4_8, e4_10, w4_10, c4_11, e4_13, w4_13, e4_15, w4_15, e4_17, w4_17, e4_19, w4_19, e4_21, w4_21, c4_22, e4_24, w4_24, e4_26, w4_26, c4_27, e4_29, w4_29, e4_31, w4_31, c4_32, c4_33, c4_34, c4_35, e4_37, w4_37, c4_38, c4_39, c4_40, c4_41, c4_42, e4_44, w4_44, c4_45, c4_46, c4_47, c4_48, c4_49, c4_50]
  simp -implicitDefEqProofs (disch := omega) only [go_sem, Nat.reduceAdd, Nat.reduceMul, Nat.reduceSub, Nat.reduceBEq, Nat.reduceLeDiff, Nat.reduceLT, fn_transitlaw36_FarestateLimits, e4_1, w4_1, e4_3, w4_3, c4_4, e4_6, w4_6, e4_8, w4_8, e4_10, w4_10, c4_11, e4_13, w4_13, e4_15, w4_15, e4_17, w4_17, e4_19, w4_19, e4_21, w4_21, c4_22, e4_24, w4_24, e4_26, w4_26, c4_27, e4_29, w4_29, e4_31, w4_31, c4_32, c4_33, c4_34, c4_35, e4_37, w4_37, c4_38, c4_39, c4_40, c4_41, c4_42, e4_44, w4_44, c4_45, c4_46, c4_47, c4_48, c4_49, c4_50, Fares.row]
  refine ifD (fun h2 => ?_) (fun h2 => ?_)
  · simp -implicitDefEqProofs (disch := omega) only [go_sem, Nat.reduceAdd, Nat.reduceMul, Nat.reduceSub, Nat.reduceBEq, Nat.reduceLeDiff, Nat.reduceLT, fn_transitlaw36_FarestateLimits, e4_1, w4_1, e4_3, w4_3, c4_4, e4_6, w4_6, e4_8, w4_8, e4_10, w4_10, c4_11, e4_13, w4_13, e4_15, w4_15, e4_17, w4_17, e4_19, w4_19, e4_21, w4_21, c4_22, e4_24, w4_24, e4_26, w4_26, c4_27, e4_29, w4_29, e4_31, w4_31, c4_32, c4_33, c4_34, c4_35, e4_37, w4_37, c4_38, c4_39, c4_40, c4_41, c4_42, e4_44, w4_44, c4_45, c4_46, c4_47, c4_48, c4_49, c4_50]
    refine callA (hex hown) ?_
    rintro v N ⟨rfl, rfl⟩
    simp -implicitDefEqProofs (disch := omega) only [go_sem, Nat.reduceAdd, Nat.reduceMul, Nat.reduceSub, Nat.reduceBEq, Nat.reduceLeDiff, Nat.reduceLT, fn_transitlaw36_FarestateLimits, e4_1, w4_1, e4_3, w4_3, c4_4, e4_6, w4_6, e4_8, w4_8, e4_10, w4_10, c4_11, e4_13, w4_13, e4_15, w4_15, e4_17, w4_17, e4_19, w4_19, e4_21, w4_21, c4_22, e4_24, w4_24, e4_26, w4_26, c4_27, e4_29, w4_29, e4_31, w4_31, c4_32, c4_33, c4_34, c4_35, e4_37, w4_37, c4_38, c4_39, c4_40, c4_41, c4_42, e4_44, w4_44, c4_45, c4_46, c4_47, c4_48, c4_49, c4_50]
  simp -implicitDefEqProofs (disch := omega) only [go_sem, Nat.reduceAdd, Nat.reduceMul, Nat.reduceSub, Nat.reduceBEq, Nat.reduceLeDiff, Nat.reduceLT, fn_transitlaw36_FarestateLimits, e4_1, w4_1, e4_3, w4_3, c4_4, e4_6, w4_6, e4_8, w4_8, e4_10, w4_10, c4_11, e4_13, w4_13, e4_15, w4_15, e4_17, w4_17, e4_19, w4_19, e4_21, w4_21, c4_22, e4_24, w4_24, e4_26, w4_26, c4_27, e4_29, w4_29, e4_31, w4_31, c4_32, c4_33, c4_34, c4_35, e4_37, w4_37, c4_38, c4_39, c4_40, c4_41, c4_42, e4_44, w4_44, c4_45, c4_46, c4_47, c4_48, c4_49, c4_50, Fares.row]
  first | refine callD (transitref35_Valid_ok f hf) ?_ | refine callQD (transitref35_Valid_ok f hf) ?_
  simp -implicitDefEqProofs (disch := omega) only [go_sem, Nat.reduceAdd, Nat.reduceMul, Nat.reduceSub, Nat.reduceBEq, Nat.reduceLeDiff, Nat.reduceLT, fn_transitlaw36_FarestateLimits, e4_1, w4_1, e4_3, w4_3, c4_4, e4_6, w4_6, e4_8, w4_8, e4_10, w4_10, c4_11, e4_13, w4_13, e4_15, w4_15, e4_17, w4_17, e4_19, w4_19, e4_21, w4_21, c4_22, e4_24, w4_24, e4_26, w4_26, c4_27, e4_29, w4_29, e4_31, w4_31, c4_32, c4_33, c4_34, c4_35, e4_37, w4_37, c4_38, c4_39, c4_40, c4_41, c4_42, e4_44, w4_44, c4_45, c4_46, c4_47, c4_48, c4_49, c4_50]
  refine ifB (fun h3 => ?_) (fun h3 => ?_)
  rotate_left
  · simp -implicitDefEqProofs (disch := omega) only [go_sem, Nat.reduceAdd, Nat.reduceMul, Nat.reduceSub, Nat.reduceBEq, Nat.reduceLeDiff, Nat.reduceLT, fn_transitlaw36_FarestateLimits, e4_1, w4_1, e4_3, w4_3, c4_4, e4_6, w4_6, e4_8, w4_8, e4_10, w4_10, c4_11, e4_13, w4_13, e4_15, w4_15, e4_17, w4_17, e4_19, w4_19, e4_21, w4_21, c4_22, e4_24, w4_24, e4_26, w4_26, c4_27, e4_29, w4_29, e4_31, w4_31, c4_32, c4_33, c4_34, c4_35, e4_37, w4_37, c4_38, c4_39, c4_40, c4_41, c4_42, e4_44, w4_44, c4_45, c4_46, c4_47, c4_48, c4_49, c4_50]
    refine callA (hex hown) ?_
    rintro v N ⟨rfl, rfl⟩
    simp -implicitDefEqProofs (disch := omega) only [go_sem, Nat.reduceAdd, Nat.reduceMul, Nat.reduceSub, Nat.reduceBEq, Nat.reduceLeDiff, Nat.reduceLT, fn_transitlaw36_FarestateLimits, e4_1, w4_1, e4_3, w4_3, c4_4, e4_6, w4_6, e4_8, w4_8, e4_10, w4_10, c4_11, e4_13, w4_13, e4_15, w4_15, e4_17, w4_17, e4_19, w4_19, e4_21, w4_21, c4_22, e4_24, w4_24, e4_26, w4_26, c4_27, e4_29, w4_29, e4_31, w4_31, c4_32, c4_33, c4_34, c4_35, e4_37, w4_37, c4_38, c4_39, c4_40, c4_41, c4_42, e4_44, w4_44, c4_45, c4_46, c4_47, c4_48, c4_49, c4_50]
  have hc : (checkRes f).2 = 0 := by simpa [faresOk] using h3
  have hok := checkRes_ok hc
  simp -implicitDefEqProofs (disch := omega) only [go_sem, Nat.reduceAdd, Nat.reduceMul, Nat.reduceSub, Nat.reduceBEq, Nat.reduceLeDiff, Nat.reduceLT, fn_transitlaw36_FarestateLimits, e4_1, w4_1, e4_3, w4_3, c4_4, e4_6, w4_6, e4_8, w4_8, e4_10, w4_10, c4_11, e4_13, w4_13, e4_15, w4_15, e4_17, w4_17, e4_19, w4_19, e4_21, w4_21, c4_22, e4_24, w4_24, e4_26, w4_26, c4_27, e4_29, w4_29, e4_31, w4_31, c4_32, c4_33, c4_34, c4_35, e4_37, w4_37, c4_38, c4_39, c4_40, c4_41, c4_42, e4_44, w4_44, c4_45, c4_46, c4_47, c4_48, c4_49, c4_50, Fares.row]
  refine callA (farestate_Start_ok f hf hown) ?_
  rintro v N ⟨⟨L, rfl⟩, U, _, hgood⟩
  obtain ⟨id, fp, rfl, H⟩ := hgood hc
  simp -implicitDefEqProofs (disch := omega) only [go_sem, Nat.reduceAdd, Nat.reduceMul, Nat.reduceSub, Nat.reduceBEq, Nat.reduceLeDiff, Nat.reduceLT, fn_transitlaw36_FarestateLimits, e4_1, w4_1, e4_3, w4_3, c4_4, e4_6, w4_6, e4_8, w4_8, e4_10, w4_10, c4_11, e4_13, w4_13, e4_15, w4_15, e4_17, w4_17, e4_19, w4_19, e4_21, w4_21, c4_22, e4_24, w4_24, e4_26, w4_26, c4_27, e4_29, w4_29, e4_31, w4_31, c4_32, c4_33, c4_34, c4_35, e4_37, w4_37, c4_38, c4_39, c4_40, c4_41, c4_42, e4_44, w4_44, c4_45, c4_46, c4_47, c4_48, c4_49, c4_50, eq_ptr_nil]
  refine wpC_for l.length (fun i vs N => i ≤ 8 ∧ ∃ id fp, Held N f fp (l.take i).reverse id ∧ vs = [.slice (l.map Ride.row) c, .ptr id 0, .int .i64 i]) ⟨by omega, id, fp, H, rfl⟩ ?_ ?_
  rotate_left
  · rintro vs N ⟨_, id, fp, H, rfl⟩
    simp -implicitDefEqProofs (disch := omega) only [go_sem, Nat.reduceAdd, Nat.reduceMul, Nat.reduceSub, Nat.reduceBEq, Nat.reduceLeDiff, Nat.reduceLT, fn_transitlaw36_FarestateLimits, e4_1, w4_1, e4_3, w4_3, c4_4, e4_6, w4_6, e4_8, w4_8, e4_10, w4_10, c4_11, e4_13, w4_13, e4_15, w4_15, e4_17, w4_17, e4_19, w4_19, e4_21, w4_21, c4_22, e4_24, w4_24, e4_26, w4_26, c4_27, e4_29, w4_29, e4_31, w4_31, c4_32, c4_33, c4_34, c4_35, e4_37, w4_37, c4_38, c4_39, c4_40, c4_41, c4_42, e4_44, w4_44, c4_45, c4_46, c4_47, c4_48, c4_49, c4_50, dec_irrefl]
    refine callA (hex H.own) ?_
    rintro v N ⟨rfl, rfl⟩
    simp -implicitDefEqProofs (disch := omega) only [go_sem, Nat.reduceAdd, Nat.reduceMul, Nat.reduceSub, Nat.reduceBEq, Nat.reduceLeDiff, Nat.reduceLT, fn_transitlaw36_FarestateLimits, e4_1, w4_1, e4_3, w4_3, c4_4, e4_6, w4_6, e4_8, w4_8, e4_10, w4_10, c4_11, e4_13, w4_13, e4_15, w4_15, e4_17, w4_17, e4_19, w4_19, e4_21, w4_21, c4_22, e4_24, w4_24, e4_26, w4_26, c4_27, e4_29, w4_29, e4_31, w4_31, c4_32, c4_33, c4_34, c4_35, e4_37, w4_37, c4_38, c4_39, c4_40, c4_41, c4_42, e4_44, w4_44, c4_45, c4_46, c4_47, c4_48, c4_49, c4_50]
  rintro i vs N hi hid ⟨h8, id, fp, H, rfl⟩
  obtain ⟨x, hx⟩ : ∃ x, l[i]? = some x := ⟨l[i], by simp⟩
  have hxw := hl x (List.mem_of_getElem? hx)
  have hrl : (l.take i).reverse.length = i := by simp; omega
  have hrw : ∀ y ∈ (l.take i).reverse, y.wf := fun y hy => hl y (List.mem_of_mem_take (List.mem_reverse.1 hy))
  simp -implicitDefEqProofs (disch := omega) only [go_sem, Nat.reduceAdd, Nat.reduceMul, Nat.reduceSub, Nat.reduceBEq, Nat.reduceLeDiff, Nat.reduceLT, fn_transitlaw36_FarestateLimits, e4_1, w4_1, e4_3, w4_3, c4_4, e4_6, w4_6, e4_8, w4_8, e4_10, w4_10, c4_11, e4_13, w4_13, e4_15, w4_15, e4_17, w4_17, e4_19, w4_19, e4_21, w4_21, c4_22, e4_24, w4_24, e4_26, w4_26, c4_27, e4_29, w4_29, e4_31, w4_31, c4_32, c4_33, c4_34, c4_35, e4_37, w4_37, c4_38, c4_39, c4_40, c4_41, c4_42, e4_44, w4_44, c4_45, c4_46, c4_47, c4_48, c4_49, c4_50, hid, hx, Ride.row]
  rcases Nat.lt_or_ge i 8 with h4 | h4
  · refine callA (farestate_Ride_ok f x hf hok hxw H hrw (by omega)) ?_
    rintro v N' ⟨L', id', rfl, rfl, H'⟩
    simp -implicitDefEqProofs (disch := omega) only [go_sem, Nat.reduceAdd, Nat.reduceMul, Nat.reduceSub, Nat.reduceBEq, Nat.reduceLeDiff, Nat.reduceLT, fn_transitlaw36_FarestateLimits, e4_1, w4_1, e4_3, w4_3, c4_4, e4_6, w4_6, e4_8, w4_8, e4_10, w4_10, c4_11, e4_13, w4_13, e4_15, w4_15, e4_17, w4_17, e4_19, w4_19, e4_21, w4_21, c4_22, e4_24, w4_24, e4_26, w4_26, c4_27, e4_29, w4_29, e4_31, w4_31, c4_32, c4_33, c4_34, c4_35, e4_37, w4_37, c4_38, c4_39, c4_40, c4_41, c4_42, e4_44, w4_44, c4_45, c4_46, c4_47, c4_48, c4_49, c4_50]
    refine ifD (fun h5 => ?_) (fun h5 => ?_)
    · omega
    simp -implicitDefEqProofs (disch := omega) only [go_sem, Nat.reduceAdd, Nat.reduceMul, Nat.reduceSub, Nat.reduceBEq, Nat.reduceLeDiff, Nat.reduceLT, fn_transitlaw36_FarestateLimits, e4_1, w4_1, e4_3, w4_3, c4_4, e4_6, w4_6, e4_8, w4_8, e4_10, w4_10, c4_11, e4_13, w4_13, e4_15, w4_15, e4_17, w4_17, e4_19, w4_19, e4_21, w4_21, c4_22, e4_24, w4_24, e4_26, w4_26, c4_27, e4_29, w4_29, e4_31, w4_31, c4_32, c4_33, c4_34, c4_35, e4_37, w4_37, c4_38, c4_39, c4_40, c4_41, c4_42, e4_44, w4_44, c4_45, c4_46, c4_47, c4_48, c4_49, c4_50, eq_ptr_nil]
    refine callA (Rides_held H') ?_
    rintro v N' ⟨rfl, rfl⟩
    have e1 : (((x :: (l.take i).reverse).length : Nat) : Int) = (i : Int) + 1 := by rw [List.length_cons, hrl]; rfl
    rw [e1]
    simp -implicitDefEqProofs (disch := omega) only [go_sem, Nat.reduceAdd, Nat.reduceMul, Nat.reduceSub, Nat.reduceBEq, Nat.reduceLeDiff, Nat.reduceLT, fn_transitlaw36_FarestateLimits, e4_1, w4_1, e4_3, w4_3, c4_4, e4_6, w4_6, e4_8, w4_8, e4_10, w4_10, c4_11, e4_13, w4_13, e4_15, w4_15, e4_17, w4_17, e4_19, w4_19, e4_21, w4_21, c4_22, e4_24, w4_24, e4_26, w4_26, c4_27, e4_29, w4_29, e4_31, w4_31, c4_32, c4_33, c4_34, c4_35, e4_37, w4_37, c4_38, c4_39, c4_40, c4_41, c4_42, e4_44, w4_44, c4_45, c4_46, c4_47, c4_48, c4_49, c4_50]
    refine callA (Rides_held (H.app H'.own)) ?_
    rintro v N' ⟨rfl, rfl⟩
    rw [hrl]
    simp -implicitDefEqProofs (disch := omega) only [go_sem, Nat.reduceAdd, Nat.reduceMul, Nat.reduceSub, Nat.reduceBEq, Nat.reduceLeDiff, Nat.reduceLT, fn_transitlaw36_FarestateLimits, e4_1, w4_1, e4_3, w4_3, c4_4, e4_6, w4_6, e4_8, w4_8, e4_10, w4_10, c4_11, e4_13, w4_13, e4_15, w4_15, e4_17, w4_17, e4_19, w4_19, e4_21, w4_21, c4_22, e4_24, w4_24, e4_26, w4_26, c4_27, e4_29, w4_29, e4_31, w4_31, c4_32, c4_33, c4_34, c4_35, e4_37, w4_37, c4_38, c4_39, c4_40, c4_41, c4_42, e4_44, w4_44, c4_45, c4_46, c4_47, c4_48, c4_49, c4_50]
    refine next_stay hi ⟨by omega, id', fp, ?_, ?_⟩
    · rw [List.take_add_one, hx, List.reverse_append]
      simpa using H'
    · simp only [vals, sget]; rfl
  · refine callA (farestate_Ride_full x H (by omega)) ?_
    rintro v N' ⟨rfl, L', rfl, U'⟩
    simp -implicitDefEqProofs (disch := omega) only [go_sem, Nat.reduceAdd, Nat.reduceMul, Nat.reduceSub, Nat.reduceBEq, Nat.reduceLeDiff, Nat.reduceLT, fn_transitlaw36_FarestateLimits, e4_1, w4_1, e4_3, w4_3, c4_4, e4_6, w4_6, e4_8, w4_8, e4_10, w4_10, c4_11, e4_13, w4_13, e4_15, w4_15, e4_17, w4_17, e4_19, w4_19, e4_21, w4_21, c4_22, e4_24, w4_24, e4_26, w4_26, c4_27, e4_29, w4_29, e4_31, w4_31, c4_32, c4_33, c4_34, c4_35, e4_37, w4_37, c4_38, c4_39, c4_40, c4_41, c4_42, e4_44, w4_44, c4_45, c4_46, c4_47, c4_48, c4_49, c4_50]
    refine ifD (fun h5 => ?_) (fun h5 => ?_)
    rotate_left
    · omega
    simp -implicitDefEqProofs (disch := omega) only [go_sem, Nat.reduceAdd, Nat.reduceMul, Nat.reduceSub, Nat.reduceBEq, Nat.reduceLeDiff, Nat.reduceLT, fn_transitlaw36_FarestateLimits, e4_1, w4_1, e4_3, w4_3, c4_4, e4_6, w4_6, e4_8, w4_8, e4_10, w4_10, c4_11, e4_13, w4_13, e4_15, w4_15, e4_17, w4_17, e4_19, w4_19, e4_21, w4_21, c4_22, e4_24, w4_24, e4_26, w4_26, c4_27, e4_29, w4_29, e4_31, w4_31, c4_32, c4_33, c4_34, c4_35, e4_37, w4_37, c4_38, c4_39, c4_40, c4_41, c4_42, e4_44, w4_44, c4_45, c4_46, c4_47, c4_48, c4_49, c4_50, eq_nil_nil]
    refine callA (Rides_held (H.app U')) ?_
    rintro v N' ⟨rfl, rfl⟩
    have e1 : (l.take i).reverse.length = 8 := by omega
    rw [e1]
    simp -implicitDefEqProofs (disch := omega) only [go_sem, Nat.reduceAdd, Nat.reduceMul, Nat.reduceSub, Nat.reduceBEq, Nat.reduceLeDiff, Nat.reduceLT, fn_transitlaw36_FarestateLimits, e4_1, w4_1, e4_3, w4_3, c4_4, e4_6, w4_6, e4_8, w4_8, e4_10, w4_10, c4_11, e4_13, w4_13, e4_15, w4_15, e4_17, w4_17, e4_19, w4_19, e4_21, w4_21, c4_22, e4_24, w4_24, e4_26, w4_26, c4_27, e4_29, w4_29, e4_31, w4_31, c4_32, c4_33, c4_34, c4_35, e4_37, w4_37, c4_38, c4_39, c4_40, c4_41, c4_42, e4_44, w4_44, c4_45, c4_46, c4_47, c4_48, c4_49, c4_50]
    refine callA (hex U') ?_
    rintro v N ⟨rfl, rfl⟩
    simp -implicitDefEqProofs (disch := omega) only [go_sem, Nat.reduceAdd, Nat.reduceMul, Nat.reduceSub, Nat.reduceBEq, Nat.reduceLeDiff, Nat.reduceLT, fn_transitlaw36_FarestateLimits, e4_1, w4_1, e4_3, w4_3, c4_4, e4_6, w4_6, e4_8, w4_8, e4_10, w4_10, c4_11, e4_13, w4_13, e4_15, w4_15, e4_17, w4_17, e4_19, w4_19, e4_21, w4_21, c4_22, e4_24, w4_24, e4_26, w4_26, c4_27, e4_29, w4_29, e4_31, w4_31, c4_32, c4_33, c4_34, c4_35, e4_37, w4_37, c4_38, c4_39, c4_40, c4_41, c4_42, e4_44, w4_44, c4_45, c4_46, c4_47, c4_48, c4_49, c4_50]

end Go.Vm.C

