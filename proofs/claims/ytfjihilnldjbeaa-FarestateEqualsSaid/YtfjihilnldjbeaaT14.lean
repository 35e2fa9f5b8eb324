/- The statements FarestateExact and FarestateBranches. -/
import Derived.Test.YtfjihilnldjbeaaT13

namespace Go.Vm.C
open Go.Vm
set_option maxHeartbeats 1000000
set_option maxRecDepth 10000
set_option linter.unusedSimpArgs false
set_option linter.unusedVariables false

/-- What the specification says of the price. -/
def refPrice (f : Fares) (l : List Ride) : Int × Bool := ((fareRes f l).1, decide ((fareRes f l).2.2 = 0))
theorem ref36_Price_ok (f : Fares) (l : List Ride) (c : Cap) (hf : f.wf) (hl : ∀ r ∈ l, r.wf) : PCalls PR i_transitref36_Price [.agg f.row, .slice (l.map Ride.row) c] (fun v => v = prV (refPrice f l)) := by
  refine acalls_pop fn_transitref36_Price_ok (by simp [fn_transitref36_Price]) ?_
  simp -implicitDefEqProofs (disch := omega) only [go_sem, Nat.reduceAdd, Nat.reduceMul, Nat.reduceSub, Nat.reduceBEq, Nat.reduceLeDiff, Nat.reduceLT, fn_transitref36_Price, e18_1, w18_1, e18_3, w18_3, e18_5, w18_5, c18_6, c18_7, c18_8, Fares.row]
  refine callP (transitref35_Price_ok f l c hf hl) ?_
  rintro v ⟨e, rfl⟩
  simp -implicitDefEqProofs (disch := omega) only [go_sem, Nat.reduceAdd, Nat.reduceMul, Nat.reduceSub, Nat.reduceBEq, Nat.reduceLeDiff, Nat.reduceLT, fn_transitref36_Price, e18_1, w18_1, e18_3, w18_3, e18_5, w18_5, c18_6, c18_7, c18_8, fareV, Fares.row, prV, refPrice]
theorem price_eq {f : Fares} {l : List Ride} (hc : (checkRes f).2 = 0) (hlen : l.length ≤ 8) : statePrice f (minSum f l) = refPrice f l := by
  have hok := checkRes_ok hc
  have hv := fareRes_valid (validRes_zero.2 ⟨hc, hlen⟩ : validRes f l.length = 0)
  obtain ⟨l1, l2⟩ := hok.limit
  unfold refPrice minSum
  rw [hv]
  cases hb : best f l 0 with
  | none => simp [statePrice]
  | some d =>
    have := (div_mild hok _ _ (best_div (by omega) hb)).1
    simp only [statePrice, if_neg (show ¬ total d < 0 by omega), capped]
    split <;> split <;> simp <;> omega

theorem FarestateExact_law (f : Fares) (l : List Ride) (c : Cap) (hf : f.wf) (hl : ∀ x ∈ l, x.wf) : PCalls PR i_transitlaw36_FarestateExact [.agg f.row, .slice (l.map Ride.row) c] (fun v => v = .bool true) := by
  have hown : Own [.box f.row] := by simp [Own, memUnder, Blk.under, underL, V.under, Fares.row]
  simp only [Fares.row] at hown
  have hex : ∀ {N : Mem}, Own N → ACalls PR i_transitlaw36_exampleHolds [] N (fun v M' => v = .bool true ∧ M' = N) := fun h => exampleHolds_ok h
  refine acalls_pop fn_transitlaw36_FarestateExact_ok (by simp [fn_transitlaw36_FarestateExact]) ?_
  simp -implicitDefEqProofs (disch := omega) only [go_sem, Nat.reduceAdd, Nat.reduceMul, Nat.reduceSub, Nat.reduceBEq, Nat.reduceLeDiff, Nat.reduceLT, fn_transitlaw36_FarestateExact, e5_1, w5_1, e5_3, w5_3, c5_4, e5_6, w5_6, e5_8, w5_8, e5_10, w5_10, e5_12, w5_12, e5_14, w5_14, c5_15, e5_17, w5_17, e5_19, w5_19, e5_21, w5_21, e5_23, w5_23, c5_24, e5_26, w5_26, c5_27, c5_28, c5_29, c5_30, c5_31, e5_33, w5_33, c5_34, c5_35, c5_36, c5_37, c5_38, e5_40, w5_40, c5_41, c5_42, c5_43, c5_44, Fares.row]
  first | refine callD (small36_ok f hf) ?_ | refine callQD (small36_ok f hf) ?_
  simp -implicitDefEqProofs (disch := omega) only [go_sem, Nat.reduceAdd, Nat.reduceMul, Nat.reduceSub, Nat.reduceBEq, Nat.reduceLeDiff, Nat.reduceLT, fn_transitlaw36_FarestateExact, e5_1, w5_1, e5_3, w5_3, c5_4, e5_6, w5_6, e5_8, w5_8, e5_10, w5_10, e5_12, w5_12, e5_14, w5_14, c5_15, e5_17, w5_17, e5_19, w5_19, e5_21, w5_21, e5_23, w5_23, c5_24, e5_26, w5_26, c5_27, c5_28, c5_29, c5_30, c5_31, e5_33, w5_33, c5_34, c5_35, c5_36, c5_37, c5_38, e5_40, w5_40, c5_41, c5_42, c5_43, c5_44, Fares.row]
  refine ifB (fun h1 => ?_) (fun h1 => ?_)
  rotate_left
  · simp -implicitDefEqProofs (disch := omega) only [go_sem, Nat.reduceAdd, Nat.reduceMul, Nat.reduceSub, Nat.reduceBEq, Nat.reduceLeDiff, Nat.reduceLT, fn_transitlaw36_FarestateExact, e5_1, w5_1, e5_3, w5_3, c5_4, e5_6, w5_6, e5_8, w5_8, e5_10, w5_10, e5_12, w5_12, e5_14, w5_14, c5_15, e5_17, w5_17, e5_19, w5_19, e5_21, w5_21, e5_23, w5_23, c5_24, e5_26, w5_26, c5_27, c5_28, c5_29, c5_30, c5_31, e5_33, w5_33, c5_34, c5_35, c5_36, c5_37, c5_38, e5_40, w5_40, c5_41, c5_42, c5_43, c5_44]
    refine callA (hex hown) ?_
    rintro v N ⟨rfl, rfl⟩
    simp -implicitDefEqProofs (disch := omega) only [go_sem, Nat.reduceAdd, Nat.reduceMul, Nat.reduceSub, Nat.reduceBEq, Nat.reduceLeDiff, Nat.reduceLT, fn_transitlaw36_FarestateExact, e5_1, w5_1, e5_3, w5_3, c5_4, e5_6, w5_6, e5_8, w5_8, e5_10, w5_10, e5_12, w5_12, e5_14, w5_14, c5_15, e5_17, w5_17, e5_19, w5_19, e5_21, w5_21, e5_23, w5_23, c5_24, e5_26, w5_26, c5_27, c5_28, c5_29, c5_30, c5_31, e5_33, w5_33, c5_34, c5_35, c5_36, c5_37, c5_38, e5_40, w5_40, c5_41, c5_42, c5_43, c5_44]
  simp -implicitDefEqProofs (disch := omega) only [go_sem, Nat.reduceAdd, Nat.reduceMul, Nat.reduceSub, Nat.reduceBEq, Nat.reduceLeDiff, Nat.reduceLT, fn_transitlaw36_FarestateExact, e5_1, w5_1, e5_3, w5_3, c5_4, e5_6, w5_6, e5_8, w5_8, e5_10, w5_10, e5_12, w5_12, e5_14, w5_14, c5_15, e5_17, w5_17, e5_19, w5_19, e5_21, w5_21, e5_23, w5_23, c5_24, e5_26, w5_26, c5_27, c5_28, c5_29, c5_30, c5_31, e5_33, w5_33, c5_34, c5_35, c5_36, c5_37, c5_38, e5_40, w5_40, c5_41, c5_42, c5_43, c5_44, Fares.row]
  refine ifD (fun h2 => ?_) (fun h2 => ?_)
  · simp -implicitDefEqProofs (disch := omega) only [go_sem, Nat.reduceAdd, Nat.reduceMul, Nat.reduceSub, Nat.reduceBEq, Nat.reduceLeDiff, Nat.reduceLT, fn_transitlaw36_FarestateExact, e5_1, w5_1, e5_3, w5_3, c5_4, e5_6, w5_6, e5_8, w5_8, e5_10, w5_10, e5_12, w5_12, e5_14, w5_14, c5_15, e5_17, w5_17, e5_19, w5_19, e5_21, w5_21, e5_23, w5_23, c5_24, e5_26, w5_26, c5_27, c5_28, c5_29, c5_30, c5_31, e5_33, w5_33, c5_34, c5_35, c5_36, c5_37, c5_38, e5_40, w5_40, c5_41, c5_42, c5_43, c5_44]
    refine callA (hex hown) ?_
    rintro v N ⟨rfl, rfl⟩
    simp -implicitDefEqProofs (disch := omega) only [go_sem, Nat.reduceAdd, Nat.reduceMul, Nat.reduceSub, Nat.reduceBEq, Nat.reduceLeDiff, Nat.reduceLT, fn_transitlaw36_FarestateExact, e5_1, w5_1, e5_3, w5_3, c5_4, e5_6, w5_6, e5_8, w5_8, e5_10, w5_10, e5_12, w5_12, e5_14, w5_14, c5_15, e5_17, w5_17, e5_19, w5_19, e5_21, w5_21, e5_23, w5_23, c5_24, e5_26, w5_26, c5_27, c5_28, c5_29, c5_30, c5_31, e5_33, w5_33, c5_34, c5_35, c5_36, c5_37, c5_38, e5_40, w5_40, c5_41, c5_42, c5_43, c5_44]
  simp -implicitDefEqProofs (disch := omega) only [go_sem, Nat.reduceAdd, Nat.reduceMul, Nat.reduceSub, Nat.reduceBEq, Nat.reduceLeDiff, Nat.reduceLT, fn_transitlaw36_FarestateExact, e5_1, w5_1, e5_3, w5_3, c5_4, e5_6, w5_6, e5_8, w5_8, e5_10, w5_10, e5_12, w5_12, e5_14, w5_14, c5_15, e5_17, w5_17, e5_19, w5_19, e5_21, w5_21, e5_23, w5_23, c5_24, e5_26, w5_26, c5_27, c5_28, c5_29, c5_30, c5_31, e5_33, w5_33, c5_34, c5_35, c5_36, c5_37, c5_38, e5_40, w5_40, c5_41, c5_42, c5_43, c5_44, Fares.row]
  first | refine callD (transitref35_Valid_ok f hf) ?_ | refine callQD (transitref35_Valid_ok f hf) ?_
  simp -implicitDefEqProofs (disch := omega) only [go_sem, Nat.reduceAdd, Nat.reduceMul, Nat.reduceSub, Nat.reduceBEq, Nat.reduceLeDiff, Nat.reduceLT, fn_transitlaw36_FarestateExact, e5_1, w5_1, e5_3, w5_3, c5_4, e5_6, w5_6, e5_8, w5_8, e5_10, w5_10, e5_12, w5_12, e5_14, w5_14, c5_15, e5_17, w5_17, e5_19, w5_19, e5_21, w5_21, e5_23, w5_23, c5_24, e5_26, w5_26, c5_27, c5_28, c5_29, c5_30, c5_31, e5_33, w5_33, c5_34, c5_35, c5_36, c5_37, c5_38, e5_40, w5_40, c5_41, c5_42, c5_43, c5_44]
  refine ifB (fun h3 => ?_) (fun h3 => ?_)
  rotate_left
  · simp -implicitDefEqProofs (disch := omega) only [go_sem, Nat.reduceAdd, Nat.reduceMul, Nat.reduceSub, Nat.reduceBEq, Nat.reduceLeDiff, Nat.reduceLT, fn_transitlaw36_FarestateExact, e5_1, w5_1, e5_3, w5_3, c5_4, e5_6, w5_6, e5_8, w5_8, e5_10, w5_10, e5_12, w5_12, e5_14, w5_14, c5_15, e5_17, w5_17, e5_19, w5_19, e5_21, w5_21, e5_23, w5_23, c5_24, e5_26, w5_26, c5_27, c5_28, c5_29, c5_30, c5_31, e5_33, w5_33, c5_34, c5_35, c5_36, c5_37, c5_38, e5_40, w5_40, c5_41, c5_42, c5_43, c5_44]
    refine callA (hex hown) ?_
    rintro v N ⟨rfl, rfl⟩
    simp -implicitDefEqProofs (disch := omega) only [go_sem, Nat.reduceAdd, Nat.reduceMul, Nat.reduceSub, Nat.reduceBEq, Nat.reduceLeDiff, Nat.reduceLT, fn_transitlaw36_FarestateExact, e5_1, w5_1, e5_3, w5_3, c5_4, e5_6, w5_6, e5_8, w5_8, e5_10, w5_10, e5_12, w5_12, e5_14, w5_14, c5_15, e5_17, w5_17, e5_19, w5_19, e5_21, w5_21, e5_23, w5_23, c5_24, e5_26, w5_26, c5_27, c5_28, c5_29, c5_30, c5_31, e5_33, w5_33, c5_34, c5_35, c5_36, c5_37, c5_38, e5_40, w5_40, c5_41, c5_42, c5_43, c5_44]
  have hc : (checkRes f).2 = 0 := by simpa [faresOk] using h3
  have hok := checkRes_ok hc
  simp -implicitDefEqProofs (disch := omega) only [go_sem, Nat.reduceAdd, Nat.reduceMul, Nat.reduceSub, Nat.reduceBEq, Nat.reduceLeDiff, Nat.reduceLT, fn_transitlaw36_FarestateExact, e5_1, w5_1, e5_3, w5_3, c5_4, e5_6, w5_6, e5_8, w5_8, e5_10, w5_10, e5_12, w5_12, e5_14, w5_14, c5_15, e5_17, w5_17, e5_19, w5_19, e5_21, w5_21, e5_23, w5_23, c5_24, e5_26, w5_26, c5_27, c5_28, c5_29, c5_30, c5_31, e5_33, w5_33, c5_34, c5_35, c5_36, c5_37, c5_38, e5_40, w5_40, c5_41, c5_42, c5_43, c5_44, Fares.row]
  refine wpC_for (l.length + 1) (fun i vs N => (∃ L, N = [.box f.row] ++ L) ∧ Own N ∧ vs = [.slice (l.map Ride.row) c, .ptr 0 0, .int .i64 i]) ⟨⟨[], rfl⟩, hown, rfl⟩ ?_ ?_
  rotate_left
  · rintro vs N ⟨_, U, rfl⟩
    simp -implicitDefEqProofs (disch := omega) only [go_sem, Nat.reduceAdd, Nat.reduceMul, Nat.reduceSub, Nat.reduceBEq, Nat.reduceLeDiff, Nat.reduceLT, fn_transitlaw36_FarestateExact, e5_1, w5_1, e5_3, w5_3, c5_4, e5_6, w5_6, e5_8, w5_8, e5_10, w5_10, e5_12, w5_12, e5_14, w5_14, c5_15, e5_17, w5_17, e5_19, w5_19, e5_21, w5_21, e5_23, w5_23, c5_24, e5_26, w5_26, c5_27, c5_28, c5_29, c5_30, c5_31, e5_33, w5_33, c5_34, c5_35, c5_36, c5_37, c5_38, e5_40, w5_40, c5_41, c5_42, c5_43, c5_44]
    refine ifD (fun h5 => ?_) (fun h5 => ?_)
    · omega
    simp -implicitDefEqProofs (disch := omega) only [go_sem, Nat.reduceAdd, Nat.reduceMul, Nat.reduceSub, Nat.reduceBEq, Nat.reduceLeDiff, Nat.reduceLT, fn_transitlaw36_FarestateExact, e5_1, w5_1, e5_3, w5_3, c5_4, e5_6, w5_6, e5_8, w5_8, e5_10, w5_10, e5_12, w5_12, e5_14, w5_14, c5_15, e5_17, w5_17, e5_19, w5_19, e5_21, w5_21, e5_23, w5_23, c5_24, e5_26, w5_26, c5_27, c5_28, c5_29, c5_30, c5_31, e5_33, w5_33, c5_34, c5_35, c5_36, c5_37, c5_38, e5_40, w5_40, c5_41, c5_42, c5_43, c5_44]
    refine callA (hex U) ?_
    rintro v N ⟨rfl, rfl⟩
    simp -implicitDefEqProofs (disch := omega) only [go_sem, Nat.reduceAdd, Nat.reduceMul, Nat.reduceSub, Nat.reduceBEq, Nat.reduceLeDiff, Nat.reduceLT, fn_transitlaw36_FarestateExact, e5_1, w5_1, e5_3, w5_3, c5_4, e5_6, w5_6, e5_8, w5_8, e5_10, w5_10, e5_12, w5_12, e5_14, w5_14, c5_15, e5_17, w5_17, e5_19, w5_19, e5_21, w5_21, e5_23, w5_23, c5_24, e5_26, w5_26, c5_27, c5_28, c5_29, c5_30, c5_31, e5_33, w5_33, c5_34, c5_35, c5_36, c5_37, c5_38, e5_40, w5_40, c5_41, c5_42, c5_43, c5_44]
  rintro i vs N hi hid ⟨⟨L, rfl⟩, U, rfl⟩
  have htl : (l.take i).length = i := by simp; omega
  simp -implicitDefEqProofs (disch := omega) only [go_sem, Nat.reduceAdd, Nat.reduceMul, Nat.reduceSub, Nat.reduceBEq, Nat.reduceLeDiff, Nat.reduceLT, fn_transitlaw36_FarestateExact, e5_1, w5_1, e5_3, w5_3, c5_4, e5_6, w5_6, e5_8, w5_8, e5_10, w5_10, e5_12, w5_12, e5_14, w5_14, c5_15, e5_17, w5_17, e5_19, w5_19, e5_21, w5_21, e5_23, w5_23, c5_24, e5_26, w5_26, c5_27, c5_28, c5_29, c5_30, c5_31, e5_33, w5_33, c5_34, c5_35, c5_36, c5_37, c5_38, e5_40, w5_40, c5_41, c5_42, c5_43, c5_44]
  refine ifD (fun h5 => ?_) (fun h5 => ?_)
  rotate_left
  · omega
  simp -implicitDefEqProofs (disch := omega) only [go_sem, Nat.reduceAdd, Nat.reduceMul, Nat.reduceSub, Nat.reduceBEq, Nat.reduceLeDiff, Nat.reduceLT, fn_transitlaw36_FarestateExact, e5_1, w5_1, e5_3, w5_3, c5_4, e5_6, w5_6, e5_8, w5_8, e5_10, w5_10, e5_12, w5_12, e5_14, w5_14, c5_15, e5_17, w5_17, e5_19, w5_19, e5_21, w5_21, e5_23, w5_23, c5_24, e5_26, w5_26, c5_27, c5_28, c5_29, c5_30, c5_31, e5_33, w5_33, c5_34, c5_35, c5_36, c5_37, c5_38, e5_40, w5_40, c5_41, c5_42, c5_43, c5_44, Fares.row, slice_pre l i _ _ (by omega)]
  refine callA (made_ok f (l.take i) _ hf hc (take_wf hl) (by omega) U) ?_
  rintro v N ⟨L', id, fp, rfl, rfl, H⟩
  simp -implicitDefEqProofs (disch := omega) only [go_sem, Nat.reduceAdd, Nat.reduceMul, Nat.reduceSub, Nat.reduceBEq, Nat.reduceLeDiff, Nat.reduceLT, fn_transitlaw36_FarestateExact, e5_1, w5_1, e5_3, w5_3, c5_4, e5_6, w5_6, e5_8, w5_8, e5_10, w5_10, e5_12, w5_12, e5_14, w5_14, c5_15, e5_17, w5_17, e5_19, w5_19, e5_21, w5_21, e5_23, w5_23, c5_24, e5_26, w5_26, c5_27, c5_28, c5_29, c5_30, c5_31, e5_33, w5_33, c5_34, c5_35, c5_36, c5_37, c5_38, e5_40, w5_40, c5_41, c5_42, c5_43, c5_44]
  refine callA (Price_held H (by simp; omega)) ?_
  rintro v N ⟨rfl, rfl⟩
  rw [List.reverse_reverse, price_eq hc (by omega)]
  simp -implicitDefEqProofs (disch := omega) only [go_sem, Nat.reduceAdd, Nat.reduceMul, Nat.reduceSub, Nat.reduceBEq, Nat.reduceLeDiff, Nat.reduceLT, fn_transitlaw36_FarestateExact, e5_1, w5_1, e5_3, w5_3, c5_4, e5_6, w5_6, e5_8, w5_8, e5_10, w5_10, e5_12, w5_12, e5_14, w5_14, c5_15, e5_17, w5_17, e5_19, w5_19, e5_21, w5_21, e5_23, w5_23, c5_24, e5_26, w5_26, c5_27, c5_28, c5_29, c5_30, c5_31, e5_33, w5_33, c5_34, c5_35, c5_36, c5_37, c5_38, e5_40, w5_40, c5_41, c5_42, c5_43, c5_44, prV, Fares.row, slice_pre l i _ _ (by omega), List.append_assoc]
  first | refine callD (ref36_Price_ok f (l.take i) _ hf (take_wf hl)) ?_ | refine callQD (ref36_Price_ok f (l.take i) _ hf (take_wf hl)) ?_
  simp -implicitDefEqProofs (disch := omega) only [go_sem, Nat.reduceAdd, Nat.reduceMul, Nat.reduceSub, Nat.reduceBEq, Nat.reduceLeDiff, Nat.reduceLT, fn_transitlaw36_FarestateExact, e5_1, w5_1, e5_3, w5_3, c5_4, e5_6, w5_6, e5_8, w5_8, e5_10, w5_10, e5_12, w5_12, e5_14, w5_14, c5_15, e5_17, w5_17, e5_19, w5_19, e5_21, w5_21, e5_23, w5_23, c5_24, e5_26, w5_26, c5_27, c5_28, c5_29, c5_30, c5_31, e5_33, w5_33, c5_34, c5_35, c5_36, c5_37, c5_38, e5_40, w5_40, c5_41, c5_42, c5_43, c5_44, prV]
  trace_state
  refine next_stay hi ⟨⟨L ++ L', rfl⟩, ?_, ?_⟩
  · simpa using H.own
  · simp only [vals, sget]; rfl

def ctTwo : List CT := [.int .i64, .int .i64, .int .i64, .int .i64, .int .i64, .int .i64, .int .i64, .int .i64]
theorem read_two {vs : List V} (h : HasR ctTwo vs) : ∃ a b : Ride, vs = a.row ++ b.row ∧ a.wf ∧ b.wf := by
  obtain ⟨_, _, rfl, h1, h⟩ := hasR_cons h
  obtain ⟨_, _, rfl, h2, h⟩ := hasR_cons h
  obtain ⟨_, _, rfl, h3, h⟩ := hasR_cons h
  obtain ⟨_, _, rfl, h4, h⟩ := hasR_cons h
  obtain ⟨_, _, rfl, h5, h⟩ := hasR_cons h
  obtain ⟨_, _, rfl, h6, h⟩ := hasR_cons h
  obtain ⟨_, _, rfl, h7, h⟩ := hasR_cons h
  obtain ⟨_, _, rfl, h8, h⟩ := hasR_cons h
  cases hasR_nil h
  obtain ⟨a, rfl, ha⟩ := hasC_i64 h1
  obtain ⟨b, rfl, hb⟩ := hasC_i64 h2
  obtain ⟨c, rfl, hc⟩ := hasC_i64 h3
  obtain ⟨d, rfl, hd⟩ := hasC_i64 h4
  obtain ⟨e, rfl, he⟩ := hasC_i64 h5
  obtain ⟨f, rfl, hf⟩ := hasC_i64 h6
  obtain ⟨g, rfl, hg⟩ := hasC_i64 h7
  obtain ⟨i, rfl, hi⟩ := hasC_i64 h8
  exact ⟨⟨a, b, c, d⟩, ⟨e, f, g, i⟩, rfl, ⟨ha, hb, hc, hd⟩, ⟨he, hf, hg, hi⟩⟩
def ctRides : List CT := [.slice ctRide, .slice ctRide, .slice ctRide]
theorem minus_self (a : Nat) : minus a a = 0 := by simp [minus]
theorem replB_refl (o : Open) : replB o o = true := by simp [replB, minus_self]
theorem domL_refl {f : Fares} (rl : List Ride) : domL f f rl rl = true := by
  rw [domL, Bool.and_eq_true]
  constructor
  · unfold closedL closedB
    generalize minSum f rl.reverse = s
    split
    · rfl
    · rw [if_neg (by omega)]
      split
      · rfl
      · simp; omega
  · rw [openL, List.all_eq_true]
    intro x hx
    rw [List.any_eq_true]
    exact ⟨x, hx, replB_refl x⟩

theorem FarestateBranches_law (f : Fares) (l : List Ride) (c : Cap) (a b : Ride) (hf : f.wf) (hl : ∀ x ∈ l, x.wf) (ha : a.wf) (hb : b.wf) :
    PCalls PR i_transitlaw36_FarestateBranches [.agg f.row, .slice (l.map Ride.row) c, .agg (a.row ++ b.row)] (fun v => v = .bool true) := by
  have hown : Own [.box f.row, .box (a.row ++ b.row)] := by simp [Own, memUnder, Blk.under, underL, V.under, Fares.row, Ride.row]
  have hex : ∀ {N : Mem}, Own N → ACalls PR i_transitlaw36_exampleHolds [] N (fun v M' => v = .bool true ∧ M' = N) := fun h => exampleHolds_ok h
  have hbx : ([.box f.row, .box (a.row ++ b.row)] : Mem)[1]? = some (.box (a.row ++ b.row)) := rfl
  simp only [Fares.row, Ride.row, List.cons_append, List.nil_append] at hown hbx
  refine acalls_pop fn_transitlaw36_FarestateBranches_ok (by simp [fn_transitlaw36_FarestateBranches]) ?_
  simp -implicitDefEqProofs (disch := omega) only [go_sem, Nat.reduceAdd, Nat.reduceMul, Nat.reduceSub, Nat.reduceBEq, Nat.reduceLeDiff, Nat.reduceLT, fn_transitlaw36_FarestateBranches, e6_1, w6_1, e6_3, w6_3, c6_4, e6_6, w6_6, e6_8, w6_8, e6_10, w6_10, c6_11, e6_13, w6_13, e6_15, w6_15, e6_17, w6_17, e6_19, w6_19, c6_20, e6_22, w6_22, e6_24, w6_24, e6_26, w6_26, e6_28, w6_28, c6_29, e6_31, w6_31, e6_33, w6_33, e6_35, w6_35, e6_37, w6_37, e6_39, w6_39, c6_40, e6_42, w6_42, e6_44, w6_44, c6_45, c6_46, c6_47, c6_48, c6_49, c6_50, c6_51, c6_52, c6_53, c6_54, c6_55, c6_56, c6_57, c6_58, c6_59, Fares.row, Ride.row]
  first | refine callD (small36_ok f hf) ?_ | refine callQD (small36_ok f hf) ?_
  simp -implicitDefEqProofs (disch := omega) only [go_sem, Nat.reduceAdd, Nat.reduceMul, Nat.reduceSub, Nat.reduceBEq, Nat.reduceLeDiff, Nat.reduceLT, fn_transitlaw36_FarestateBranches, e6_1, w6_1, e6_3, w6_3, c6_4, e6_6, w6_6, e6_8, w6_8, e6_10, w6_10, c6_11, e6_13, w6_13, e6_15, w6_15, e6_17, w6_17, e6_19, w6_19, c6_20, e6_22, w6_22, e6_24, w6_24, e6_26, w6_26, e6_28, w6_28, c6_29, e6_31, w6_31, e6_33, w6_33, e6_35, w6_35, e6_37, w6_37, e6_39, w6_39, c6_40, e6_42, w6_42, e6_44, w6_44, c6_45, c6_46, c6_47, c6_48, c6_49, c6_50, c6_51, c6_52, c6_53, c6_54, c6_55, c6_56, c6_57, c6_58, c6_59, Fares.row]
  refine ifB (fun h1 => ?_) (fun h1 => ?_)
  rotate_left
  · simp -implicitDefEqProofs (disch := omega) only [go_sem, Nat.reduceAdd, Nat.reduceMul, Nat.reduceSub, Nat.reduceBEq, Nat.reduceLeDiff, Nat.reduceLT, fn_transitlaw36_FarestateBranches, e6_1, w6_1, e6_3, w6_3, c6_4, e6_6, w6_6, e6_8, w6_8, e6_10, w6_10, c6_11, e6_13, w6_13, e6_15, w6_15, e6_17, w6_17, e6_19, w6_19, c6_20, e6_22, w6_22, e6_24, w6_24, e6_26, w6_26, e6_28, w6_28, c6_29, e6_31, w6_31, e6_33, w6_33, e6_35, w6_35, e6_37, w6_37, e6_39, w6_39, c6_40, e6_42, w6_42, e6_44, w6_44, c6_45, c6_46, c6_47, c6_48, c6_49, c6_50, c6_51, c6_52, c6_53, c6_54, c6_55, c6_56, c6_57, c6_58, c6_59]
    refine callA (hex hown) ?_
    rintro v N ⟨rfl, rfl⟩
    simp -implicitDefEqProofs (disch := omega) only [go_sem, Nat.reduceAdd, Nat.reduceMul, Nat.reduceSub, Nat.reduceBEq, Nat.reduceLeDiff, Nat.reduceLT, fn_transitlaw36_FarestateBranches, e6_1, w6_1, e6_3, w6_3, c6_4, e6_6, w6_6, e6_8, w6_8, e6_10, w6_10, c6_11, e6_13, w6_13, e6_15, w6_15, e6_17, w6_17, e6_19, w6_19, c6_20, e6_22, w6_22, e6_24, w6_24, e6_26, w6_26, e6_28, w6_28, c6_29, e6_31, w6_31, e6_33, w6_33, e6_35, w6_35, e6_37, w6_37, e6_39, w6_39, c6_40, e6_42, w6_42, e6_44, w6_44, c6_45, c6_46, c6_47, c6_48, c6_49, c6_50, c6_51, c6_52, c6_53, c6_54, c6_55, c6_56, c6_57, c6_58, c6_59]
  simp -implicitDefEqProofs (disch := omega) only [go_sem, Nat.reduceAdd, Nat.reduceMul, Nat.reduceSub, Nat.reduceBEq, Nat.reduceLeDiff, Nat.reduceLT, fn_transitlaw36_FarestateBranches, e6_1, w6_1, e6_3, w6_3, c6_4, e6_6, w6_6, e6_8, w6_8, e6_10, w6_10, c6_11, e6_13, w6_13, e6_15, w6_15, e6_17, w6_17, e6_19, w6_19, c6_20, e6_22, w6_22, e6_24, w6_24, e6_26, w6_26, e6_28, w6_28, c6_29, e6_31, w6_31, e6_33, w6_33, e6_35, w6_35, e6_37, w6_37, e6_39, w6_39, c6_40, e6_42, w6_42, e6_44, w6_44, c6_45, c6_46, c6_47, c6_48, c6_49, c6_50, c6_51, c6_52, c6_53, c6_54, c6_55, c6_56, c6_57, c6_58, c6_59, Fares.row]
  refine ifD (fun h2 => ?_) (fun h2 => ?_)
  · simp -implicitDefEqProofs (disch := omega) only [go_sem, Nat.reduceAdd, Nat.reduceMul, Nat.reduceSub, Nat.reduceBEq, Nat.reduceLeDiff, Nat.reduceLT, fn_transitlaw36_FarestateBranches, e6_1, w6_1, e6_3, w6_3, c6_4, e6_6, w6_6, e6_8, w6_8, e6_10, w6_10, c6_11, e6_13, w6_13, e6_15, w6_15, e6_17, w6_17, e6_19, w6_19, c6_20, e6_22, w6_22, e6_24, w6_24, e6_26, w6_26, e6_28, w6_28, c6_29, e6_31, w6_31, e6_33, w6_33, e6_35, w6_35, e6_37, w6_37, e6_39, w6_39, c6_40, e6_42, w6_42, e6_44, w6_44, c6_45, c6_46, c6_47, c6_48, c6_49, c6_50, c6_51, c6_52, c6_53, c6_54, c6_55, c6_56, c6_57, c6_58, c6_59]
    refine callA (hex hown) ?_
    rintro v N ⟨rfl, rfl⟩
    simp -implicitDefEqProofs (disch := omega) only [go_sem, Nat.reduceAdd, Nat.reduceMul, Nat.reduceSub, Nat.reduceBEq, Nat.reduceLeDiff, Nat.reduceLT, fn_transitlaw36_FarestateBranches, e6_1, w6_1, e6_3, w6_3, c6_4, e6_6, w6_6, e6_8, w6_8, e6_10, w6_10, c6_11, e6_13, w6_13, e6_15, w6_15, e6_17, w6_17, e6_19, w6_19, c6_20, e6_22, w6_22, e6_24, w6_24, e6_26, w6_26, e6_28, w6_28, c6_29, e6_31, w6_31, e6_33, w6_33, e6_35, w6_35, e6_37, w6_37, e6_39, w6_39, c6_40, e6_42, w6_42, e6_44, w6_44, c6_45, c6_46, c6_47, c6_48, c6_49, c6_50, c6_51, c6_52, c6_53, c6_54, c6_55, c6_56, c6_57, c6_58, c6_59]
  simp -implicitDefEqProofs (disch := omega) only [go_sem, Nat.reduceAdd, Nat.reduceMul, Nat.reduceSub, Nat.reduceBEq, Nat.reduceLeDiff, Nat.reduceLT, fn_transitlaw36_FarestateBranches, e6_1, w6_1, e6_3, w6_3, c6_4, e6_6, w6_6, e6_8, w6_8, e6_10, w6_10, c6_11, e6_13, w6_13, e6_15, w6_15, e6_17, w6_17, e6_19, w6_19, c6_20, e6_22, w6_22, e6_24, w6_24, e6_26, w6_26, e6_28, w6_28, c6_29, e6_31, w6_31, e6_33, w6_33, e6_35, w6_35, e6_37, w6_37, e6_39, w6_39, c6_40, e6_42, w6_42, e6_44, w6_44, c6_45, c6_46, c6_47, c6_48, c6_49, c6_50, c6_51, c6_52, c6_53, c6_54, c6_55, c6_56, c6_57, c6_58, c6_59, Fares.row]
  first | refine callD (transitref35_Valid_ok f hf) ?_ | refine callQD (transitref35_Valid_ok f hf) ?_
  simp -implicitDefEqProofs (disch := omega) only [go_sem, Nat.reduceAdd, Nat.reduceMul, Nat.reduceSub, Nat.reduceBEq, Nat.reduceLeDiff, Nat.reduceLT, fn_transitlaw36_FarestateBranches, e6_1, w6_1, e6_3, w6_3, c6_4, e6_6, w6_6, e6_8, w6_8, e6_10, w6_10, c6_11, e6_13, w6_13, e6_15, w6_15, e6_17, w6_17, e6_19, w6_19, c6_20, e6_22, w6_22, e6_24, w6_24, e6_26, w6_26, e6_28, w6_28, c6_29, e6_31, w6_31, e6_33, w6_33, e6_35, w6_35, e6_37, w6_37, e6_39, w6_39, c6_40, e6_42, w6_42, e6_44, w6_44, c6_45, c6_46, c6_47, c6_48, c6_49, c6_50, c6_51, c6_52, c6_53, c6_54, c6_55, c6_56, c6_57, c6_58, c6_59]
  refine ifB (fun h3 => ?_) (fun h3 => ?_)
  rotate_left
  · simp -implicitDefEqProofs (disch := omega) only [go_sem, Nat.reduceAdd, Nat.reduceMul, Nat.reduceSub, Nat.reduceBEq, Nat.reduceLeDiff, Nat.reduceLT, fn_transitlaw36_FarestateBranches, e6_1, w6_1, e6_3, w6_3, c6_4, e6_6, w6_6, e6_8, w6_8, e6_10, w6_10, c6_11, e6_13, w6_13, e6_15, w6_15, e6_17, w6_17, e6_19, w6_19, c6_20, e6_22, w6_22, e6_24, w6_24, e6_26, w6_26, e6_28, w6_28, c6_29, e6_31, w6_31, e6_33, w6_33, e6_35, w6_35, e6_37, w6_37, e6_39, w6_39, c6_40, e6_42, w6_42, e6_44, w6_44, c6_45, c6_46, c6_47, c6_48, c6_49, c6_50, c6_51, c6_52, c6_53, c6_54, c6_55, c6_56, c6_57, c6_58, c6_59]
    refine callA (hex hown) ?_
    rintro v N ⟨rfl, rfl⟩
    simp -implicitDefEqProofs (disch := omega) only [go_sem, Nat.reduceAdd, Nat.reduceMul, Nat.reduceSub, Nat.reduceBEq, Nat.reduceLeDiff, Nat.reduceLT, fn_transitlaw36_FarestateBranches, e6_1, w6_1, e6_3, w6_3, c6_4, e6_6, w6_6, e6_8, w6_8, e6_10, w6_10, c6_11, e6_13, w6_13, e6_15, w6_15, e6_17, w6_17, e6_19, w6_19, c6_20, e6_22, w6_22, e6_24, w6_24, e6_26, w6_26, e6_28, w6_28, c6_29, e6_31, w6_31, e6_33, w6_33, e6_35, w6_35, e6_37, w6_37, e6_39, w6_39, c6_40, e6_42, w6_42, e6_44, w6_44, c6_45, c6_46, c6_47, c6_48, c6_49, c6_50, c6_51, c6_52, c6_53, c6_54, c6_55, c6_56, c6_57, c6_58, c6_59]
  have hc : (checkRes f).2 = 0 := by simpa [faresOk] using h3
  have hok := checkRes_ok hc
  have hlw : ∀ x ∈ l.reverse, x.wf := fun x hx => hl x (List.mem_reverse.1 hx)
  have hlr : l.reverse.length < 8 := by simp; omega
  have hlt : l.length < 8 := by omega
  simp -implicitDefEqProofs (disch := omega) only [go_sem, Nat.reduceAdd, Nat.reduceMul, Nat.reduceSub, Nat.reduceBEq, Nat.reduceLeDiff, Nat.reduceLT, fn_transitlaw36_FarestateBranches, e6_1, w6_1, e6_3, w6_3, c6_4, e6_6, w6_6, e6_8, w6_8, e6_10, w6_10, c6_11, e6_13, w6_13, e6_15, w6_15, e6_17, w6_17, e6_19, w6_19, c6_20, e6_22, w6_22, e6_24, w6_24, e6_26, w6_26, e6_28, w6_28, c6_29, e6_31, w6_31, e6_33, w6_33, e6_35, w6_35, e6_37, w6_37, e6_39, w6_39, c6_40, e6_42, w6_42, e6_44, w6_44, c6_45, c6_46, c6_47, c6_48, c6_49, c6_50, c6_51, c6_52, c6_53, c6_54, c6_55, c6_56, c6_57, c6_58, c6_59, Fares.row]
  refine callA (made_ok f l _ hf hc hl (by omega) hown) ?_
  rintro v N ⟨L, id, fp, rfl, rfl, H⟩
  have hbx := app_get hbx L
  generalize [Blk.box _, Blk.box _] ++ L = N at *
  simp -implicitDefEqProofs (disch := omega) only [go_sem, Nat.reduceAdd, Nat.reduceMul, Nat.reduceSub, Nat.reduceBEq, Nat.reduceLeDiff, Nat.reduceLT, fn_transitlaw36_FarestateBranches, e6_1, w6_1, e6_3, w6_3, c6_4, e6_6, w6_6, e6_8, w6_8, e6_10, w6_10, c6_11, e6_13, w6_13, e6_15, w6_15, e6_17, w6_17, e6_19, w6_19, c6_20, e6_22, w6_22, e6_24, w6_24, e6_26, w6_26, e6_28, w6_28, c6_29, e6_31, w6_31, e6_33, w6_33, e6_35, w6_35, e6_37, w6_37, e6_39, w6_39, c6_40, e6_42, w6_42, e6_44, w6_44, c6_45, c6_46, c6_47, c6_48, c6_49, c6_50, c6_51, c6_52, c6_53, c6_54, c6_55, c6_56, c6_57, c6_58, c6_59]
  refine callA (Price_held H (by omega)) ?_
  rintro v N ⟨rfl, rfl⟩
  simp -implicitDefEqProofs (disch := omega) only [go_sem, Nat.reduceAdd, Nat.reduceMul, Nat.reduceSub, Nat.reduceBEq, Nat.reduceLeDiff, Nat.reduceLT, fn_transitlaw36_FarestateBranches, e6_1, w6_1, e6_3, w6_3, c6_4, e6_6, w6_6, e6_8, w6_8, e6_10, w6_10, c6_11, e6_13, w6_13, e6_15, w6_15, e6_17, w6_17, e6_19, w6_19, c6_20, e6_22, w6_22, e6_24, w6_24, e6_26, w6_26, e6_28, w6_28, c6_29, e6_31, w6_31, e6_33, w6_33, e6_35, w6_35, e6_37, w6_37, e6_39, w6_39, c6_40, e6_42, w6_42, e6_44, w6_44, c6_45, c6_46, c6_47, c6_48, c6_49, c6_50, c6_51, c6_52, c6_53, c6_54, c6_55, c6_56, c6_57, c6_58, c6_59, prV, hbx]
  refine callA (farestate_Ride_ok f a hf hok ha H hlw hlr) ?_
  rintro v N' ⟨L, ia, rfl, rfl, HA⟩
  have hbx := app_get hbx L
  have H := H.app HA.own
  generalize N ++ L = N at *
  simp -implicitDefEqProofs (disch := omega) only [go_sem, Nat.reduceAdd, Nat.reduceMul, Nat.reduceSub, Nat.reduceBEq, Nat.reduceLeDiff, Nat.reduceLT, fn_transitlaw36_FarestateBranches, e6_1, w6_1, e6_3, w6_3, c6_4, e6_6, w6_6, e6_8, w6_8, e6_10, w6_10, c6_11, e6_13, w6_13, e6_15, w6_15, e6_17, w6_17, e6_19, w6_19, c6_20, e6_22, w6_22, e6_24, w6_24, e6_26, w6_26, e6_28, w6_28, c6_29, e6_31, w6_31, e6_33, w6_33, e6_35, w6_35, e6_37, w6_37, e6_39, w6_39, c6_40, e6_42, w6_42, e6_44, w6_44, c6_45, c6_46, c6_47, c6_48, c6_49, c6_50, c6_51, c6_52, c6_53, c6_54, c6_55, c6_56, c6_57, c6_58, c6_59, eq_ptr_nil]
  refine callA (Price_held HA (by simp; omega)) ?_
  rintro v N ⟨rfl, rfl⟩
  simp -implicitDefEqProofs (disch := omega) only [go_sem, Nat.reduceAdd, Nat.reduceMul, Nat.reduceSub, Nat.reduceBEq, Nat.reduceLeDiff, Nat.reduceLT, fn_transitlaw36_FarestateBranches, e6_1, w6_1, e6_3, w6_3, c6_4, e6_6, w6_6, e6_8, w6_8, e6_10, w6_10, c6_11, e6_13, w6_13, e6_15, w6_15, e6_17, w6_17, e6_19, w6_19, c6_20, e6_22, w6_22, e6_24, w6_24, e6_26, w6_26, e6_28, w6_28, c6_29, e6_31, w6_31, e6_33, w6_33, e6_35, w6_35, e6_37, w6_37, e6_39, w6_39, c6_40, e6_42, w6_42, e6_44, w6_44, c6_45, c6_46, c6_47, c6_48, c6_49, c6_50, c6_51, c6_52, c6_53, c6_54, c6_55, c6_56, c6_57, c6_58, c6_59, prV, hbx]
  refine callA (farestate_Ride_ok f b hf hok hb H hlw hlr) ?_
  rintro v N' ⟨L, ib, rfl, rfl, HB⟩
  have hbx := app_get hbx L
  have H := H.app HB.own
  have HA := HA.app HB.own
  generalize N ++ L = N at *
  simp -implicitDefEqProofs (disch := omega) only [go_sem, Nat.reduceAdd, Nat.reduceMul, Nat.reduceSub, Nat.reduceBEq, Nat.reduceLeDiff, Nat.reduceLT, fn_transitlaw36_FarestateBranches, e6_1, w6_1, e6_3, w6_3, c6_4, e6_6, w6_6, e6_8, w6_8, e6_10, w6_10, c6_11, e6_13, w6_13, e6_15, w6_15, e6_17, w6_17, e6_19, w6_19, c6_20, e6_22, w6_22, e6_24, w6_24, e6_26, w6_26, e6_28, w6_28, c6_29, e6_31, w6_31, e6_33, w6_33, e6_35, w6_35, e6_37, w6_37, e6_39, w6_39, c6_40, e6_42, w6_42, e6_44, w6_44, c6_45, c6_46, c6_47, c6_48, c6_49, c6_50, c6_51, c6_52, c6_53, c6_54, c6_55, c6_56, c6_57, c6_58, c6_59, eq_ptr_nil]
  refine callA (Price_held HA (by simp; omega)) ?_
  rintro v N ⟨rfl, rfl⟩
  simp -implicitDefEqProofs (disch := omega) only [go_sem, Nat.reduceAdd, Nat.reduceMul, Nat.reduceSub, Nat.reduceBEq, Nat.reduceLeDiff, Nat.reduceLT, fn_transitlaw36_FarestateBranches, e6_1, w6_1, e6_3, w6_3, c6_4, e6_6, w6_6, e6_8, w6_8, e6_10, w6_10, c6_11, e6_13, w6_13, e6_15, w6_15, e6_17, w6_17, e6_19, w6_19, c6_20, e6_22, w6_22, e6_24, w6_24, e6_26, w6_26, e6_28, w6_28, c6_29, e6_31, w6_31, e6_33, w6_33, e6_35, w6_35, e6_37, w6_37, e6_39, w6_39, c6_40, e6_42, w6_42, e6_44, w6_44, c6_45, c6_46, c6_47, c6_48, c6_49, c6_50, c6_51, c6_52, c6_53, c6_54, c6_55, c6_56, c6_57, c6_58, c6_59, prV]
  refine callA (Price_held H (by omega)) ?_
  rintro v N ⟨rfl, rfl⟩
  simp -implicitDefEqProofs (disch := omega) only [go_sem, Nat.reduceAdd, Nat.reduceMul, Nat.reduceSub, Nat.reduceBEq, Nat.reduceLeDiff, Nat.reduceLT, fn_transitlaw36_FarestateBranches, e6_1, w6_1, e6_3, w6_3, c6_4, e6_6, w6_6, e6_8, w6_8, e6_10, w6_10, c6_11, e6_13, w6_13, e6_15, w6_15, e6_17, w6_17, e6_19, w6_19, c6_20, e6_22, w6_22, e6_24, w6_24, e6_26, w6_26, e6_28, w6_28, c6_29, e6_31, w6_31, e6_33, w6_33, e6_35, w6_35, e6_37, w6_37, e6_39, w6_39, c6_40, e6_42, w6_42, e6_44, w6_44, c6_45, c6_46, c6_47, c6_48, c6_49, c6_50, c6_51, c6_52, c6_53, c6_54, c6_55, c6_56, c6_57, c6_58, c6_59, prV, hbx]
  refine callA (farestate_Ride_ok f a hf hok ha H hlw hlr) ?_
  rintro v N' ⟨L, ic, rfl, rfl, HC⟩
  have H := H.app HC.own
  have HA := HA.app HC.own
  generalize N ++ L = N at *
  have hbeq : ∀ x : Bool, (x == x) = true := fun x => by cases x <;> rfl
  simp -implicitDefEqProofs (disch := omega) only [go_sem, Nat.reduceAdd, Nat.reduceMul, Nat.reduceSub, Nat.reduceBEq, Nat.reduceLeDiff, Nat.reduceLT, fn_transitlaw36_FarestateBranches, e6_1, w6_1, e6_3, w6_3, c6_4, e6_6, w6_6, e6_8, w6_8, e6_10, w6_10, c6_11, e6_13, w6_13, e6_15, w6_15, e6_17, w6_17, e6_19, w6_19, c6_20, e6_22, w6_22, e6_24, w6_24, e6_26, w6_26, e6_28, w6_28, c6_29, e6_31, w6_31, e6_33, w6_33, e6_35, w6_35, e6_37, w6_37, e6_39, w6_39, c6_40, e6_42, w6_42, e6_44, w6_44, c6_45, c6_46, c6_47, c6_48, c6_49, c6_50, c6_51, c6_52, c6_53, c6_54, c6_55, c6_56, c6_57, c6_58, c6_59, eq_ptr_nil, hbeq]
  refine callA (Rides_held H) ?_
  rintro v N ⟨rfl, rfl⟩
  simp -implicitDefEqProofs (disch := omega) only [go_sem, Nat.reduceAdd, Nat.reduceMul, Nat.reduceSub, Nat.reduceBEq, Nat.reduceLeDiff, Nat.reduceLT, fn_transitlaw36_FarestateBranches, e6_1, w6_1, e6_3, w6_3, c6_4, e6_6, w6_6, e6_8, w6_8, e6_10, w6_10, c6_11, e6_13, w6_13, e6_15, w6_15, e6_17, w6_17, e6_19, w6_19, c6_20, e6_22, w6_22, e6_24, w6_24, e6_26, w6_26, e6_28, w6_28, c6_29, e6_31, w6_31, e6_33, w6_33, e6_35, w6_35, e6_37, w6_37, e6_39, w6_39, c6_40, e6_42, w6_42, e6_44, w6_44, c6_45, c6_46, c6_47, c6_48, c6_49, c6_50, c6_51, c6_52, c6_53, c6_54, c6_55, c6_56, c6_57, c6_58, c6_59, List.length_reverse]
  have hrw : ∀ x ∈ a :: l.reverse, x.wf := by
    intro x hx
    rcases List.mem_cons.1 hx with rfl | hx
    · exact ha
    · exact hlw x hx
  have hrl : (a :: l.reverse).length ≤ 8 := by simp; omega
  refine callA (Dom_yes hf hok hf hok HA HC hrw hrl hrw hrl (sameF_refl f) (domL_refl _)) ?_
  rintro v N ⟨rfl, rfl⟩
  simp -implicitDefEqProofs (disch := omega) only [go_sem, Nat.reduceAdd, Nat.reduceMul, Nat.reduceSub, Nat.reduceBEq, Nat.reduceLeDiff, Nat.reduceLT, fn_transitlaw36_FarestateBranches, e6_1, w6_1, e6_3, w6_3, c6_4, e6_6, w6_6, e6_8, w6_8, e6_10, w6_10, c6_11, e6_13, w6_13, e6_15, w6_15, e6_17, w6_17, e6_19, w6_19, c6_20, e6_22, w6_22, e6_24, w6_24, e6_26, w6_26, e6_28, w6_28, c6_29, e6_31, w6_31, e6_33, w6_33, e6_35, w6_35, e6_37, w6_37, e6_39, w6_39, c6_40, e6_42, w6_42, e6_44, w6_44, c6_45, c6_46, c6_47, c6_48, c6_49, c6_50, c6_51, c6_52, c6_53, c6_54, c6_55, c6_56, c6_57, c6_58, c6_59]
  refine callA (Dom_yes hf hok hf hok HC HA hrw hrl hrw hrl (sameF_refl f) (domL_refl _)) ?_
  rintro v N ⟨rfl, rfl⟩
  simp -implicitDefEqProofs (disch := omega) only [go_sem, Nat.reduceAdd, Nat.reduceMul, Nat.reduceSub, Nat.reduceBEq, Nat.reduceLeDiff, Nat.reduceLT, fn_transitlaw36_FarestateBranches, e6_1, w6_1, e6_3, w6_3, c6_4, e6_6, w6_6, e6_8, w6_8, e6_10, w6_10, c6_11, e6_13, w6_13, e6_15, w6_15, e6_17, w6_17, e6_19, w6_19, c6_20, e6_22, w6_22, e6_24, w6_24, e6_26, w6_26, e6_28, w6_28, c6_29, e6_31, w6_31, e6_33, w6_33, e6_35, w6_35, e6_37, w6_37, e6_39, w6_39, c6_40, e6_42, w6_42, e6_44, w6_44, c6_45, c6_46, c6_47, c6_48, c6_49, c6_50, c6_51, c6_52, c6_53, c6_54, c6_55, c6_56, c6_57, c6_58, c6_59]
  refine callA (hex HA.own) ?_
  rintro v N ⟨rfl, rfl⟩
  simp -implicitDefEqProofs (disch := omega) only [go_sem, Nat.reduceAdd, Nat.reduceMul, Nat.reduceSub, Nat.reduceBEq, Nat.reduceLeDiff, Nat.reduceLT, fn_transitlaw36_FarestateBranches, e6_1, w6_1, e6_3, w6_3, c6_4, e6_6, w6_6, e6_8, w6_8, e6_10, w6_10, c6_11, e6_13, w6_13, e6_15, w6_15, e6_17, w6_17, e6_19, w6_19, c6_20, e6_22, w6_22, e6_24, w6_24, e6_26, w6_26, e6_28, w6_28, c6_29, e6_31, w6_31, e6_33, w6_33, e6_35, w6_35, e6_37, w6_37, e6_39, w6_39, c6_40, e6_42, w6_42, e6_44, w6_44, c6_45, c6_46, c6_47, c6_48, c6_49, c6_50, c6_51, c6_52, c6_53, c6_54, c6_55, c6_56, c6_57, c6_58, c6_59]

end Go.Vm.C

