/- The statement CallMoves. -/
import Derived.Test.YtnfedenkigckjaaT5

namespace Go.Vm.C
open Go.Vm
set_option maxHeartbeats 1000000
set_option maxRecDepth 10000
set_option linter.unusedSimpArgs false
set_option linter.unusedVariables false

theorem wrap_id {n : Int} (h : -9223372036854775808 ≤ n ∧ n ≤ 9223372036854775807) : IntKind.i64.wrap n = n := by
  have e : (2 : Int) ^ IntKind.i64.bits = 18446744073709551616 := by decide
  have e' : (2 : Int) ^ (IntKind.i64.bits - 1) = 9223372036854775808 := by decide
  unfold IntKind.wrap
  simp only [e, e', show IntKind.i64.signed = true from rfl, Bool.true_and, decide_eq_true_eq]
  omega
def Mild (n : Int) : Prop := -1099511627776 ≤ n ∧ n ≤ 1099511627776
theorem moved_mild {s : Int} {c : Stay} (hs : Mild s) (ha : Mild c.arrive) (hd : Mild c.depart) : moved s c = ⟨c.stop, c.arrive + s, c.depart + s, c.board, c.alight⟩ := by
  unfold Mild at *
  unfold moved
  rw [wrap_id (by omega), wrap_id (by omega)]
theorem moved_back {s : Int} {c : Stay} (hs : Mild s) (ha : Mild c.arrive) (hd : Mild c.depart) : moved (-s) (moved s c) = c := by
  rw [moved_mild hs ha hd]
  unfold Mild at *
  unfold moved
  simp only
  rw [wrap_id (by omega), wrap_id (by omega), show c.arrive + s + -s = c.arrive by omega, show c.depart + s + -s = c.depart by omega]
theorem moved_list {s : Int} {l : List Stay} (hs : Mild s) (hl : ∀ c ∈ l, Mild c.arrive ∧ Mild c.depart) : (l.map (moved s)).map (moved (-s)) = l := by
  rw [List.map_map]
  conv => rhs; rw [← List.map_id l]
  apply List.map_congr_left
  intro c hc
  exact moved_back hs (hl c hc).1 (hl c hc).2
theorem moved_err {s : Int} {l : List Stay} (hs : Mild s) (hl : ∀ c ∈ l, Mild c.arrive ∧ Mild c.depart) (stops lo hi : Int) (i : Nat) : errAt (l.map (moved s)) stops (lo + s) (hi + s) i = errAt l stops lo hi i := by
  unfold errAt
  rw [List.getElem?_map, List.getElem?_map]
  cases ha : l[i]? with
  | none => rfl
  | some a =>
    cases hb : l[i - 1]? with
    | none => rfl
    | some b =>
      have ma := hl a (List.mem_of_getElem? ha)
      have mb := hl b (List.mem_of_getElem? hb)
      simp only [Option.map_some, moved_mild hs ma.1 ma.2, moved_mild hs mb.1 mb.2, oneErr]
      have e : (a.arrive + s < lo + s ∨ a.depart + s < a.arrive + s ∨ hi + s < a.depart + s ∨ (0 < i ∧ a.arrive + s < b.depart + s)) ↔ (a.arrive < lo ∨ a.depart < a.arrive ∨ hi < a.depart ∨ (0 < i ∧ a.arrive < b.depart)) := by omega
      simp only [e]
theorem moved_check {s : Int} {l : List Stay} (hs : Mild s) (hl : ∀ c ∈ l, Mild c.arrive ∧ Mild c.depart) (stops lo hi : Int) : checkC (l.map (moved s)) stops (lo + s) (hi + s) = checkC l stops lo hi := by
  have e : errAt (l.map (moved s)) stops (lo + s) (hi + s) = errAt l stops lo hi := funext (moved_err hs hl stops lo hi)
  unfold checkC
  rw [e, List.length_map]
theorem CallMoves_law (l : List Stay) (c : Cap) (st lo hi s : Int) : PCalls PR i_transitlaw16_CallMoves [.slice (l.map Stay.row) c, .agg (boundsRow st lo hi), .int .i64 s] (fun v => v = .bool true) := by
  refine acalls_pop fn_transitlaw16_CallMoves_ok (by simp [fn_transitlaw16_CallMoves]) ?_
  simp -implicitDefEqProofs (disch := omega) only [go_sem, Nat.reduceAdd, Nat.reduceMul, Nat.reduceSub, Nat.reduceBEq, Nat.reduceLeDiff, Nat.reduceLT, fn_transitlaw16_CallMoves, e9_1, w9_1, e9_3, w9_3, c9_4, e9_6, w9_6, e9_8, w9_8, e9_10, w9_10, c9_11, e9_13, w9_13, e9_15, w9_15, c9_16, e9_18, w9_18, c9_19, c9_20, e9_22, w9_22, c9_23, c9_24, c9_25, c9_26, c9_27, c9_28, e9_30, w9_30, e9_32, w9_32, e9_34, w9_34, e9_36, w9_36, c9_37, c9_38, c9_39, c9_40, c9_41, c9_42, c9_43, boundsRow]
  refine ifD (fun h1 => ?_) (fun h1 => ?_)
  · simp -implicitDefEqProofs (disch := omega) only [go_sem, Nat.reduceAdd, Nat.reduceMul, Nat.reduceSub, Nat.reduceBEq, Nat.reduceLeDiff, Nat.reduceLT, fn_transitlaw16_CallMoves, e9_1, w9_1, e9_3, w9_3, c9_4, e9_6, w9_6, e9_8, w9_8, e9_10, w9_10, c9_11, e9_13, w9_13, e9_15, w9_15, c9_16, e9_18, w9_18, c9_19, c9_20, e9_22, w9_22, c9_23, c9_24, c9_25, c9_26, c9_27, c9_28, e9_30, w9_30, e9_32, w9_32, e9_34, w9_34, e9_36, w9_36, c9_37, c9_38, c9_39, c9_40, c9_41, c9_42, c9_43]
    first | refine callD (exampleHolds_ok) ?_ | refine callQD (exampleHolds_ok) ?_
    simp -implicitDefEqProofs (disch := omega) only [go_sem, Nat.reduceAdd, Nat.reduceMul, Nat.reduceSub, Nat.reduceBEq, Nat.reduceLeDiff, Nat.reduceLT, fn_transitlaw16_CallMoves, e9_1, w9_1, e9_3, w9_3, c9_4, e9_6, w9_6, e9_8, w9_8, e9_10, w9_10, c9_11, e9_13, w9_13, e9_15, w9_15, c9_16, e9_18, w9_18, c9_19, c9_20, e9_22, w9_22, c9_23, c9_24, c9_25, c9_26, c9_27, c9_28, e9_30, w9_30, e9_32, w9_32, e9_34, w9_34, e9_36, w9_36, c9_37, c9_38, c9_39, c9_40, c9_41, c9_42, c9_43]
  simp -implicitDefEqProofs (disch := omega) only [go_sem, Nat.reduceAdd, Nat.reduceMul, Nat.reduceSub, Nat.reduceBEq, Nat.reduceLeDiff, Nat.reduceLT, fn_transitlaw16_CallMoves, e9_1, w9_1, e9_3, w9_3, c9_4, e9_6, w9_6, e9_8, w9_8, e9_10, w9_10, c9_11, e9_13, w9_13, e9_15, w9_15, c9_16, e9_18, w9_18, c9_19, c9_20, e9_22, w9_22, c9_23, c9_24, c9_25, c9_26, c9_27, c9_28, e9_30, w9_30, e9_32, w9_32, e9_34, w9_34, e9_36, w9_36, c9_37, c9_38, c9_39, c9_40, c9_41, c9_42, c9_43]
  first | refine callD (near_ok s) ?_ | refine callQD (near_ok s) ?_
  simp -implicitDefEqProofs (disch := omega) only [go_sem, Nat.reduceAdd, Nat.reduceMul, Nat.reduceSub, Nat.reduceBEq, Nat.reduceLeDiff, Nat.reduceLT, fn_transitlaw16_CallMoves, e9_1, w9_1, e9_3, w9_3, c9_4, e9_6, w9_6, e9_8, w9_8, e9_10, w9_10, c9_11, e9_13, w9_13, e9_15, w9_15, c9_16, e9_18, w9_18, c9_19, c9_20, e9_22, w9_22, c9_23, c9_24, c9_25, c9_26, c9_27, c9_28, e9_30, w9_30, e9_32, w9_32, e9_34, w9_34, e9_36, w9_36, c9_37, c9_38, c9_39, c9_40, c9_41, c9_42, c9_43]
  refine ifD (fun h2 => ?_) (fun h2 => ?_)
  rotate_left
  · simp -implicitDefEqProofs (disch := omega) only [go_sem, Nat.reduceAdd, Nat.reduceMul, Nat.reduceSub, Nat.reduceBEq, Nat.reduceLeDiff, Nat.reduceLT, fn_transitlaw16_CallMoves, e9_1, w9_1, e9_3, w9_3, c9_4, e9_6, w9_6, e9_8, w9_8, e9_10, w9_10, c9_11, e9_13, w9_13, e9_15, w9_15, c9_16, e9_18, w9_18, c9_19, c9_20, e9_22, w9_22, c9_23, c9_24, c9_25, c9_26, c9_27, c9_28, e9_30, w9_30, e9_32, w9_32, e9_34, w9_34, e9_36, w9_36, c9_37, c9_38, c9_39, c9_40, c9_41, c9_42, c9_43]
    first | refine callD (exampleHolds_ok) ?_ | refine callQD (exampleHolds_ok) ?_
    simp -implicitDefEqProofs (disch := omega) only [go_sem, Nat.reduceAdd, Nat.reduceMul, Nat.reduceSub, Nat.reduceBEq, Nat.reduceLeDiff, Nat.reduceLT, fn_transitlaw16_CallMoves, e9_1, w9_1, e9_3, w9_3, c9_4, e9_6, w9_6, e9_8, w9_8, e9_10, w9_10, c9_11, e9_13, w9_13, e9_15, w9_15, c9_16, e9_18, w9_18, c9_19, c9_20, e9_22, w9_22, c9_23, c9_24, c9_25, c9_26, c9_27, c9_28, e9_30, w9_30, e9_32, w9_32, e9_34, w9_34, e9_36, w9_36, c9_37, c9_38, c9_39, c9_40, c9_41, c9_42, c9_43]
  simp -implicitDefEqProofs (disch := omega) only [go_sem, Nat.reduceAdd, Nat.reduceMul, Nat.reduceSub, Nat.reduceBEq, Nat.reduceLeDiff, Nat.reduceLT, fn_transitlaw16_CallMoves, e9_1, w9_1, e9_3, w9_3, c9_4, e9_6, w9_6, e9_8, w9_8, e9_10, w9_10, c9_11, e9_13, w9_13, e9_15, w9_15, c9_16, e9_18, w9_18, c9_19, c9_20, e9_22, w9_22, c9_23, c9_24, c9_25, c9_26, c9_27, c9_28, e9_30, w9_30, e9_32, w9_32, e9_34, w9_34, e9_36, w9_36, c9_37, c9_38, c9_39, c9_40, c9_41, c9_42, c9_43]
  first | refine callD (near_ok lo) ?_ | refine callQD (near_ok lo) ?_
  simp -implicitDefEqProofs (disch := omega) only [go_sem, Nat.reduceAdd, Nat.reduceMul, Nat.reduceSub, Nat.reduceBEq, Nat.reduceLeDiff, Nat.reduceLT, fn_transitlaw16_CallMoves, e9_1, w9_1, e9_3, w9_3, c9_4, e9_6, w9_6, e9_8, w9_8, e9_10, w9_10, c9_11, e9_13, w9_13, e9_15, w9_15, c9_16, e9_18, w9_18, c9_19, c9_20, e9_22, w9_22, c9_23, c9_24, c9_25, c9_26, c9_27, c9_28, e9_30, w9_30, e9_32, w9_32, e9_34, w9_34, e9_36, w9_36, c9_37, c9_38, c9_39, c9_40, c9_41, c9_42, c9_43]
  refine ifD (fun h3 => ?_) (fun h3 => ?_)
  rotate_left
  · simp -implicitDefEqProofs (disch := omega) only [go_sem, Nat.reduceAdd, Nat.reduceMul, Nat.reduceSub, Nat.reduceBEq, Nat.reduceLeDiff, Nat.reduceLT, fn_transitlaw16_CallMoves, e9_1, w9_1, e9_3, w9_3, c9_4, e9_6, w9_6, e9_8, w9_8, e9_10, w9_10, c9_11, e9_13, w9_13, e9_15, w9_15, c9_16, e9_18, w9_18, c9_19, c9_20, e9_22, w9_22, c9_23, c9_24, c9_25, c9_26, c9_27, c9_28, e9_30, w9_30, e9_32, w9_32, e9_34, w9_34, e9_36, w9_36, c9_37, c9_38, c9_39, c9_40, c9_41, c9_42, c9_43]
    first | refine callD (exampleHolds_ok) ?_ | refine callQD (exampleHolds_ok) ?_
    simp -implicitDefEqProofs (disch := omega) only [go_sem, Nat.reduceAdd, Nat.reduceMul, Nat.reduceSub, Nat.reduceBEq, Nat.reduceLeDiff, Nat.reduceLT, fn_transitlaw16_CallMoves, e9_1, w9_1, e9_3, w9_3, c9_4, e9_6, w9_6, e9_8, w9_8, e9_10, w9_10, c9_11, e9_13, w9_13, e9_15, w9_15, c9_16, e9_18, w9_18, c9_19, c9_20, e9_22, w9_22, c9_23, c9_24, c9_25, c9_26, c9_27, c9_28, e9_30, w9_30, e9_32, w9_32, e9_34, w9_34, e9_36, w9_36, c9_37, c9_38, c9_39, c9_40, c9_41, c9_42, c9_43]
  simp -implicitDefEqProofs (disch := omega) only [go_sem, Nat.reduceAdd, Nat.reduceMul, Nat.reduceSub, Nat.reduceBEq, Nat.reduceLeDiff, Nat.reduceLT, fn_transitlaw16_CallMoves, e9_1, w9_1, e9_3, w9_3, c9_4, e9_6, w9_6, e9_8, w9_8, e9_10, w9_10, c9_11, e9_13, w9_13, e9_15, w9_15, c9_16, e9_18, w9_18, c9_19, c9_20, e9_22, w9_22, c9_23, c9_24, c9_25, c9_26, c9_27, c9_28, e9_30, w9_30, e9_32, w9_32, e9_34, w9_34, e9_36, w9_36, c9_37, c9_38, c9_39, c9_40, c9_41, c9_42, c9_43]
  first | refine callD (near_ok hi) ?_ | refine callQD (near_ok hi) ?_
  simp -implicitDefEqProofs (disch := omega) only [go_sem, Nat.reduceAdd, Nat.reduceMul, Nat.reduceSub, Nat.reduceBEq, Nat.reduceLeDiff, Nat.reduceLT, fn_transitlaw16_CallMoves, e9_1, w9_1, e9_3, w9_3, c9_4, e9_6, w9_6, e9_8, w9_8, e9_10, w9_10, c9_11, e9_13, w9_13, e9_15, w9_15, c9_16, e9_18, w9_18, c9_19, c9_20, e9_22, w9_22, c9_23, c9_24, c9_25, c9_26, c9_27, c9_28, e9_30, w9_30, e9_32, w9_32, e9_34, w9_34, e9_36, w9_36, c9_37, c9_38, c9_39, c9_40, c9_41, c9_42, c9_43]
  refine ifD (fun h4 => ?_) (fun h4 => ?_)
  rotate_left
  · simp -implicitDefEqProofs (disch := omega) only [go_sem, Nat.reduceAdd, Nat.reduceMul, Nat.reduceSub, Nat.reduceBEq, Nat.reduceLeDiff, Nat.reduceLT, fn_transitlaw16_CallMoves, e9_1, w9_1, e9_3, w9_3, c9_4, e9_6, w9_6, e9_8, w9_8, e9_10, w9_10, c9_11, e9_13, w9_13, e9_15, w9_15, c9_16, e9_18, w9_18, c9_19, c9_20, e9_22, w9_22, c9_23, c9_24, c9_25, c9_26, c9_27, c9_28, e9_30, w9_30, e9_32, w9_32, e9_34, w9_34, e9_36, w9_36, c9_37, c9_38, c9_39, c9_40, c9_41, c9_42, c9_43]
    first | refine callD (exampleHolds_ok) ?_ | refine callQD (exampleHolds_ok) ?_
    simp -implicitDefEqProofs (disch := omega) only [go_sem, Nat.reduceAdd, Nat.reduceMul, Nat.reduceSub, Nat.reduceBEq, Nat.reduceLeDiff, Nat.reduceLT, fn_transitlaw16_CallMoves, e9_1, w9_1, e9_3, w9_3, c9_4, e9_6, w9_6, e9_8, w9_8, e9_10, w9_10, c9_11, e9_13, w9_13, e9_15, w9_15, c9_16, e9_18, w9_18, c9_19, c9_20, e9_22, w9_22, c9_23, c9_24, c9_25, c9_26, c9_27, c9_28, e9_30, w9_30, e9_32, w9_32, e9_34, w9_34, e9_36, w9_36, c9_37, c9_38, c9_39, c9_40, c9_41, c9_42, c9_43]
  simp -implicitDefEqProofs (disch := omega) only [go_sem, Nat.reduceAdd, Nat.reduceMul, Nat.reduceSub, Nat.reduceBEq, Nat.reduceLeDiff, Nat.reduceLT, fn_transitlaw16_CallMoves, e9_1, w9_1, e9_3, w9_3, c9_4, e9_6, w9_6, e9_8, w9_8, e9_10, w9_10, c9_11, e9_13, w9_13, e9_15, w9_15, c9_16, e9_18, w9_18, c9_19, c9_20, e9_22, w9_22, c9_23, c9_24, c9_25, c9_26, c9_27, c9_28, e9_30, w9_30, e9_32, w9_32, e9_34, w9_34, e9_36, w9_36, c9_37, c9_38, c9_39, c9_40, c9_41, c9_42, c9_43]
  refine wpC_forL l (fun i vs M => (∀ c ∈ l.take i, Mild c.arrive ∧ Mild c.depart) ∧ vs = [.slice (l.map Stay.row) c, .int .i64 s, .ptr 0 0, .slice (l.map Stay.row) c, .int .i64 l.length, .int .i64 i] ∧ M = [.box (boundsRow st lo hi)]) ⟨by simp, rfl, rfl⟩ ?_ ?_
  · rintro i a vs M ha hi' hd ⟨hall, rfl, rfl⟩
    simp -implicitDefEqProofs (disch := omega) only [go_sem, Nat.reduceAdd, Nat.reduceMul, Nat.reduceSub, Nat.reduceBEq, Nat.reduceLeDiff, Nat.reduceLT, fn_transitlaw16_CallMoves, e9_1, w9_1, e9_3, w9_3, c9_4, e9_6, w9_6, e9_8, w9_8, e9_10, w9_10, c9_11, e9_13, w9_13, e9_15, w9_15, c9_16, e9_18, w9_18, c9_19, c9_20, e9_22, w9_22, c9_23, c9_24, c9_25, c9_26, c9_27, c9_28, e9_30, w9_30, e9_32, w9_32, e9_34, w9_34, e9_36, w9_36, c9_37, c9_38, c9_39, c9_40, c9_41, c9_42, c9_43, hd, ha, Stay.row, boundsRow]
    first | refine callD (near_ok a.arrive) ?_ | refine callQD (near_ok a.arrive) ?_
    simp -implicitDefEqProofs (disch := omega) only [go_sem, Nat.reduceAdd, Nat.reduceMul, Nat.reduceSub, Nat.reduceBEq, Nat.reduceLeDiff, Nat.reduceLT, fn_transitlaw16_CallMoves, e9_1, w9_1, e9_3, w9_3, c9_4, e9_6, w9_6, e9_8, w9_8, e9_10, w9_10, c9_11, e9_13, w9_13, e9_15, w9_15, c9_16, e9_18, w9_18, c9_19, c9_20, e9_22, w9_22, c9_23, c9_24, c9_25, c9_26, c9_27, c9_28, e9_30, w9_30, e9_32, w9_32, e9_34, w9_34, e9_36, w9_36, c9_37, c9_38, c9_39, c9_40, c9_41, c9_42, c9_43]
    refine ifD (fun h5 => ?_) (fun h5 => ?_)
    rotate_left
    · simp -implicitDefEqProofs (disch := omega) only [go_sem, Nat.reduceAdd, Nat.reduceMul, Nat.reduceSub, Nat.reduceBEq, Nat.reduceLeDiff, Nat.reduceLT, fn_transitlaw16_CallMoves, e9_1, w9_1, e9_3, w9_3, c9_4, e9_6, w9_6, e9_8, w9_8, e9_10, w9_10, c9_11, e9_13, w9_13, e9_15, w9_15, c9_16, e9_18, w9_18, c9_19, c9_20, e9_22, w9_22, c9_23, c9_24, c9_25, c9_26, c9_27, c9_28, e9_30, w9_30, e9_32, w9_32, e9_34, w9_34, e9_36, w9_36, c9_37, c9_38, c9_39, c9_40, c9_41, c9_42, c9_43]
      first | refine callD (exampleHolds_ok) ?_ | refine callQD (exampleHolds_ok) ?_
      simp -implicitDefEqProofs (disch := omega) only [go_sem, Nat.reduceAdd, Nat.reduceMul, Nat.reduceSub, Nat.reduceBEq, Nat.reduceLeDiff, Nat.reduceLT, fn_transitlaw16_CallMoves, e9_1, w9_1, e9_3, w9_3, c9_4, e9_6, w9_6, e9_8, w9_8, e9_10, w9_10, c9_11, e9_13, w9_13, e9_15, w9_15, c9_16, e9_18, w9_18, c9_19, c9_20, e9_22, w9_22, c9_23, c9_24, c9_25, c9_26, c9_27, c9_28, e9_30, w9_30, e9_32, w9_32, e9_34, w9_34, e9_36, w9_36, c9_37, c9_38, c9_39, c9_40, c9_41, c9_42, c9_43]
    simp -implicitDefEqProofs (disch := omega) only [go_sem, Nat.reduceAdd, Nat.reduceMul, Nat.reduceSub, Nat.reduceBEq, Nat.reduceLeDiff, Nat.reduceLT, fn_transitlaw16_CallMoves, e9_1, w9_1, e9_3, w9_3, c9_4, e9_6, w9_6, e9_8, w9_8, e9_10, w9_10, c9_11, e9_13, w9_13, e9_15, w9_15, c9_16, e9_18, w9_18, c9_19, c9_20, e9_22, w9_22, c9_23, c9_24, c9_25, c9_26, c9_27, c9_28, e9_30, w9_30, e9_32, w9_32, e9_34, w9_34, e9_36, w9_36, c9_37, c9_38, c9_39, c9_40, c9_41, c9_42, c9_43]
    first | refine callD (near_ok a.depart) ?_ | refine callQD (near_ok a.depart) ?_
    simp -implicitDefEqProofs (disch := omega) only [go_sem, Nat.reduceAdd, Nat.reduceMul, Nat.reduceSub, Nat.reduceBEq, Nat.reduceLeDiff, Nat.reduceLT, fn_transitlaw16_CallMoves, e9_1, w9_1, e9_3, w9_3, c9_4, e9_6, w9_6, e9_8, w9_8, e9_10, w9_10, c9_11, e9_13, w9_13, e9_15, w9_15, c9_16, e9_18, w9_18, c9_19, c9_20, e9_22, w9_22, c9_23, c9_24, c9_25, c9_26, c9_27, c9_28, e9_30, w9_30, e9_32, w9_32, e9_34, w9_34, e9_36, w9_36, c9_37, c9_38, c9_39, c9_40, c9_41, c9_42, c9_43]
    refine ifD (fun h6 => ?_) (fun h6 => ?_)
    rotate_left
    · simp -implicitDefEqProofs (disch := omega) only [go_sem, Nat.reduceAdd, Nat.reduceMul, Nat.reduceSub, Nat.reduceBEq, Nat.reduceLeDiff, Nat.reduceLT, fn_transitlaw16_CallMoves, e9_1, w9_1, e9_3, w9_3, c9_4, e9_6, w9_6, e9_8, w9_8, e9_10, w9_10, c9_11, e9_13, w9_13, e9_15, w9_15, c9_16, e9_18, w9_18, c9_19, c9_20, e9_22, w9_22, c9_23, c9_24, c9_25, c9_26, c9_27, c9_28, e9_30, w9_30, e9_32, w9_32, e9_34, w9_34, e9_36, w9_36, c9_37, c9_38, c9_39, c9_40, c9_41, c9_42, c9_43]
      first | refine callD (exampleHolds_ok) ?_ | refine callQD (exampleHolds_ok) ?_
      simp -implicitDefEqProofs (disch := omega) only [go_sem, Nat.reduceAdd, Nat.reduceMul, Nat.reduceSub, Nat.reduceBEq, Nat.reduceLeDiff, Nat.reduceLT, fn_transitlaw16_CallMoves, e9_1, w9_1, e9_3, w9_3, c9_4, e9_6, w9_6, e9_8, w9_8, e9_10, w9_10, c9_11, e9_13, w9_13, e9_15, w9_15, c9_16, e9_18, w9_18, c9_19, c9_20, e9_22, w9_22, c9_23, c9_24, c9_25, c9_26, c9_27, c9_28, e9_30, w9_30, e9_32, w9_32, e9_34, w9_34, e9_36, w9_36, c9_37, c9_38, c9_39, c9_40, c9_41, c9_42, c9_43]
    simp -implicitDefEqProofs (disch := omega) only [go_sem, Nat.reduceAdd, Nat.reduceMul, Nat.reduceSub, Nat.reduceBEq, Nat.reduceLeDiff, Nat.reduceLT, fn_transitlaw16_CallMoves, e9_1, w9_1, e9_3, w9_3, c9_4, e9_6, w9_6, e9_8, w9_8, e9_10, w9_10, c9_11, e9_13, w9_13, e9_15, w9_15, c9_16, e9_18, w9_18, c9_19, c9_20, e9_22, w9_22, c9_23, c9_24, c9_25, c9_26, c9_27, c9_28, e9_30, w9_30, e9_32, w9_32, e9_34, w9_34, e9_36, w9_36, c9_37, c9_38, c9_39, c9_40, c9_41, c9_42, c9_43]
    refine next_pop hi' rfl ⟨?_, ?_, rfl⟩
    · intro x hx
      rw [List.take_add_one, ha, List.mem_append] at hx
      rcases hx with hx | hx
      · exact hall x hx
      · simp at hx; subst hx; exact ⟨h5, h6⟩
    · simp only [vals, sget]; rfl
  rintro vs M ⟨hall, rfl, rfl⟩
  rw [List.take_length] at hall
  have hs : Mild s := h2
  have hlo : Mild lo := h3
  have hhi : Mild hi := h4
  have hch := moved_check hs hall st lo hi
  have hbk := moved_list hs hall
  obtain ⟨s1, s2⟩ := h2
  obtain ⟨l1, l2⟩ := h3
  obtain ⟨i1, i2⟩ := h4
  simp -implicitDefEqProofs (disch := omega) only [go_sem, Nat.reduceAdd, Nat.reduceMul, Nat.reduceSub, Nat.reduceBEq, Nat.reduceLeDiff, Nat.reduceLT, fn_transitlaw16_CallMoves, e9_1, w9_1, e9_3, w9_3, c9_4, e9_6, w9_6, e9_8, w9_8, e9_10, w9_10, c9_11, e9_13, w9_13, e9_15, w9_15, c9_16, e9_18, w9_18, c9_19, c9_20, e9_22, w9_22, c9_23, c9_24, c9_25, c9_26, c9_27, c9_28, e9_30, w9_30, e9_32, w9_32, e9_34, w9_34, e9_36, w9_36, c9_37, c9_38, c9_39, c9_40, c9_41, c9_42, c9_43, dec_irrefl, boundsRow]
  first | refine callD (call_Shift_ok l c s (by omega)) ?_ | refine callQD (call_Shift_ok l c s (by omega)) ?_
  simp -implicitDefEqProofs (disch := omega) only [go_sem, Nat.reduceAdd, Nat.reduceMul, Nat.reduceSub, Nat.reduceBEq, Nat.reduceLeDiff, Nat.reduceLT, fn_transitlaw16_CallMoves, e9_1, w9_1, e9_3, w9_3, c9_4, e9_6, w9_6, e9_8, w9_8, e9_10, w9_10, c9_11, e9_13, w9_13, e9_15, w9_15, c9_16, e9_18, w9_18, c9_19, c9_20, e9_22, w9_22, c9_23, c9_24, c9_25, c9_26, c9_27, c9_28, e9_30, w9_30, e9_32, w9_32, e9_34, w9_34, e9_36, w9_36, c9_37, c9_38, c9_39, c9_40, c9_41, c9_42, c9_43, boundsRow]
  first | refine callD (call_Check_ok l c st lo hi (by omega)) ?_ | refine callQD (call_Check_ok l c st lo hi (by omega)) ?_
  simp -implicitDefEqProofs (disch := omega) only [go_sem, Nat.reduceAdd, Nat.reduceMul, Nat.reduceSub, Nat.reduceBEq, Nat.reduceLeDiff, Nat.reduceLT, fn_transitlaw16_CallMoves, e9_1, w9_1, e9_3, w9_3, c9_4, e9_6, w9_6, e9_8, w9_8, e9_10, w9_10, c9_11, e9_13, w9_13, e9_15, w9_15, c9_16, e9_18, w9_18, c9_19, c9_20, e9_22, w9_22, c9_23, c9_24, c9_25, c9_26, c9_27, c9_28, e9_30, w9_30, e9_32, w9_32, e9_34, w9_34, e9_36, w9_36, c9_37, c9_38, c9_39, c9_40, c9_41, c9_42, c9_43, pairV, boundsRow]
  first | refine callD (call_Check_ok (l.map (moved s)) .unk st (lo + s) (hi + s) (by simp; omega)) ?_ | refine callQD (call_Check_ok (l.map (moved s)) .unk st (lo + s) (hi + s) (by simp; omega)) ?_
  rw [hch]
  simp -implicitDefEqProofs (disch := omega) only [go_sem, Nat.reduceAdd, Nat.reduceMul, Nat.reduceSub, Nat.reduceBEq, Nat.reduceLeDiff, Nat.reduceLT, fn_transitlaw16_CallMoves, e9_1, w9_1, e9_3, w9_3, c9_4, e9_6, w9_6, e9_8, w9_8, e9_10, w9_10, c9_11, e9_13, w9_13, e9_15, w9_15, c9_16, e9_18, w9_18, c9_19, c9_20, e9_22, w9_22, c9_23, c9_24, c9_25, c9_26, c9_27, c9_28, e9_30, w9_30, e9_32, w9_32, e9_34, w9_34, e9_36, w9_36, c9_37, c9_38, c9_39, c9_40, c9_41, c9_42, c9_43, pairV, boundsRow]
  rw [show (0 : Int) - s = -s by omega]
  first | refine callD (call_Shift_ok (l.map (moved s)) .unk (-s) (by simp; omega)) ?_ | refine callQD (call_Shift_ok (l.map (moved s)) .unk (-s) (by simp; omega)) ?_
  rw [hbk]
  refine callP (ref16_Equal_ok l l _ _ (by omega)) ?_
  rintro v ⟨b, rfl, hb⟩
  obtain rfl := hb.2 rfl
  simp -implicitDefEqProofs (disch := omega) only [go_sem, Nat.reduceAdd, Nat.reduceMul, Nat.reduceSub, Nat.reduceBEq, Nat.reduceLeDiff, Nat.reduceLT, fn_transitlaw16_CallMoves, e9_1, w9_1, e9_3, w9_3, c9_4, e9_6, w9_6, e9_8, w9_8, e9_10, w9_10, c9_11, e9_13, w9_13, e9_15, w9_15, c9_16, e9_18, w9_18, c9_19, c9_20, e9_22, w9_22, c9_23, c9_24, c9_25, c9_26, c9_27, c9_28, e9_30, w9_30, e9_32, w9_32, e9_34, w9_34, e9_36, w9_36, c9_37, c9_38, c9_39, c9_40, c9_41, c9_42, c9_43]
  first | refine callD (exampleHolds_ok) ?_ | refine callQD (exampleHolds_ok) ?_
  simp -implicitDefEqProofs (disch := omega) only [go_sem, Nat.reduceAdd, Nat.reduceMul, Nat.reduceSub, Nat.reduceBEq, Nat.reduceLeDiff, Nat.reduceLT, fn_transitlaw16_CallMoves, e9_1, w9_1, e9_3, w9_3, c9_4, e9_6, w9_6, e9_8, w9_8, e9_10, w9_10, c9_11, e9_13, w9_13, e9_15, w9_15, c9_16, e9_18, w9_18, c9_19, c9_20, e9_22, w9_22, c9_23, c9_24, c9_25, c9_26, c9_27, c9_28, e9_30, w9_30, e9_32, w9_32, e9_34, w9_34, e9_36, w9_36, c9_37, c9_38, c9_39, c9_40, c9_41, c9_42, c9_43]

end Go.Vm.C

