/- Contracts: messages compared; lists of messages that a condition keeps. -/
import Derived.Test.YtmbeokppfdalfaaT4

namespace Go.Vm.C
open Go.Vm
set_option maxHeartbeats 1000000
set_option maxRecDepth 10000
set_option linter.unusedSimpArgs false
set_option linter.unusedVariables false

theorem transitref31_Check_ok (m : Msg) (hlen : m.calls.length ≤ maxLen) (ht : m.trip.length ≤ maxLen) : PCalls PR i_transitref31_Check [.agg m.row] (fun v => v = .int .i64 (checkM m)) := by
  refine acalls_pop fn_transitref31_Check_ok (by simp [fn_transitref31_Check]) ?_
  simp -implicitDefEqProofs (disch := omega) only [go_sem, Nat.reduceAdd, Nat.reduceMul, Nat.reduceSub, Nat.reduceBEq, Nat.reduceLeDiff, Nat.reduceLT, fn_transitref31_Check, e47_1, w47_1, e47_3, w47_3, c47_4, e47_6, w47_6, e47_8, w47_8, c47_9, e47_11, w47_11, e47_13, w47_13, c47_14, e47_16, w47_16, e47_18, w47_18, c47_19, e47_21, w47_21, e47_23, w47_23, c47_24, e47_26, w47_26, e47_28, w47_28, c47_29, e47_31, w47_31, e47_33, w47_33, c47_34, e47_36, w47_36, e47_38, w47_38, e47_40, w47_40, c47_41, e47_43, w47_43, e47_45, w47_45, e47_47, w47_47, c47_48, e47_50, w47_50, c47_51, e47_53, w47_53, e47_55, w47_55, c47_56, e47_58, w47_58, e47_60, w47_60, c47_61, c47_62, c47_63, c47_64, c47_66, c47_67, c47_68, c47_69, c47_70, c47_71, c47_72, c47_73, Msg.row]
  refine ifD (fun h => ?_) (fun h1 => ?_)
  · have e : checkM m = 36 := by rw [checkM, if_pos (by omega)]
    simp -implicitDefEqProofs (disch := omega) only [go_sem, Nat.reduceAdd, Nat.reduceMul, Nat.reduceSub, Nat.reduceBEq, Nat.reduceLeDiff, Nat.reduceLT, fn_transitref31_Check, e47_1, w47_1, e47_3, w47_3, c47_4, e47_6, w47_6, e47_8, w47_8, c47_9, e47_11, w47_11, e47_13, w47_13, c47_14, e47_16, w47_16, e47_18, w47_18, c47_19, e47_21, w47_21, e47_23, w47_23, c47_24, e47_26, w47_26, e47_28, w47_28, c47_29, e47_31, w47_31, e47_33, w47_33, c47_34, e47_36, w47_36, e47_38, w47_38, e47_40, w47_40, c47_41, e47_43, w47_43, e47_45, w47_45, e47_47, w47_47, c47_48, e47_50, w47_50, c47_51, e47_53, w47_53, e47_55, w47_55, c47_56, e47_58, w47_58, e47_60, w47_60, c47_61, c47_62, c47_63, c47_64, c47_66, c47_67, c47_68, c47_69, c47_70, c47_71, c47_72, c47_73, e]
  simp -implicitDefEqProofs (disch := omega) only [go_sem, Nat.reduceAdd, Nat.reduceMul, Nat.reduceSub, Nat.reduceBEq, Nat.reduceLeDiff, Nat.reduceLT, fn_transitref31_Check, e47_1, w47_1, e47_3, w47_3, c47_4, e47_6, w47_6, e47_8, w47_8, c47_9, e47_11, w47_11, e47_13, w47_13, c47_14, e47_16, w47_16, e47_18, w47_18, c47_19, e47_21, w47_21, e47_23, w47_23, c47_24, e47_26, w47_26, e47_28, w47_28, c47_29, e47_31, w47_31, e47_33, w47_33, c47_34, e47_36, w47_36, e47_38, w47_38, e47_40, w47_40, c47_41, e47_43, w47_43, e47_45, w47_45, e47_47, w47_47, c47_48, e47_50, w47_50, c47_51, e47_53, w47_53, e47_55, w47_55, c47_56, e47_58, w47_58, e47_60, w47_60, c47_61, c47_62, c47_63, c47_64, c47_66, c47_67, c47_68, c47_69, c47_70, c47_71, c47_72, c47_73]
  refine ifD (fun h => ?_) (fun h1' => ?_)
  · have e : checkM m = 36 := by rw [checkM, if_pos (by omega)]
    simp -implicitDefEqProofs (disch := omega) only [go_sem, Nat.reduceAdd, Nat.reduceMul, Nat.reduceSub, Nat.reduceBEq, Nat.reduceLeDiff, Nat.reduceLT, fn_transitref31_Check, e47_1, w47_1, e47_3, w47_3, c47_4, e47_6, w47_6, e47_8, w47_8, c47_9, e47_11, w47_11, e47_13, w47_13, c47_14, e47_16, w47_16, e47_18, w47_18, c47_19, e47_21, w47_21, e47_23, w47_23, c47_24, e47_26, w47_26, e47_28, w47_28, c47_29, e47_31, w47_31, e47_33, w47_33, c47_34, e47_36, w47_36, e47_38, w47_38, e47_40, w47_40, c47_41, e47_43, w47_43, e47_45, w47_45, e47_47, w47_47, c47_48, e47_50, w47_50, c47_51, e47_53, w47_53, e47_55, w47_55, c47_56, e47_58, w47_58, e47_60, w47_60, c47_61, c47_62, c47_63, c47_64, c47_66, c47_67, c47_68, c47_69, c47_70, c47_71, c47_72, c47_73, e]
  simp -implicitDefEqProofs (disch := omega) only [go_sem, Nat.reduceAdd, Nat.reduceMul, Nat.reduceSub, Nat.reduceBEq, Nat.reduceLeDiff, Nat.reduceLT, fn_transitref31_Check, e47_1, w47_1, e47_3, w47_3, c47_4, e47_6, w47_6, e47_8, w47_8, c47_9, e47_11, w47_11, e47_13, w47_13, c47_14, e47_16, w47_16, e47_18, w47_18, c47_19, e47_21, w47_21, e47_23, w47_23, c47_24, e47_26, w47_26, e47_28, w47_28, c47_29, e47_31, w47_31, e47_33, w47_33, c47_34, e47_36, w47_36, e47_38, w47_38, e47_40, w47_40, c47_41, e47_43, w47_43, e47_45, w47_45, e47_47, w47_47, c47_48, e47_50, w47_50, c47_51, e47_53, w47_53, e47_55, w47_55, c47_56, e47_58, w47_58, e47_60, w47_60, c47_61, c47_62, c47_63, c47_64, c47_66, c47_67, c47_68, c47_69, c47_70, c47_71, c47_72, c47_73]
  refine ifD (fun h2 => ?_) (fun h2 => ?_)
  · have e : checkM m = 2 := by rw [checkM, if_neg (by omega), if_pos h2]
    simp -implicitDefEqProofs (disch := omega) only [go_sem, Nat.reduceAdd, Nat.reduceMul, Nat.reduceSub, Nat.reduceBEq, Nat.reduceLeDiff, Nat.reduceLT, fn_transitref31_Check, e47_1, w47_1, e47_3, w47_3, c47_4, e47_6, w47_6, e47_8, w47_8, c47_9, e47_11, w47_11, e47_13, w47_13, c47_14, e47_16, w47_16, e47_18, w47_18, c47_19, e47_21, w47_21, e47_23, w47_23, c47_24, e47_26, w47_26, e47_28, w47_28, c47_29, e47_31, w47_31, e47_33, w47_33, c47_34, e47_36, w47_36, e47_38, w47_38, e47_40, w47_40, c47_41, e47_43, w47_43, e47_45, w47_45, e47_47, w47_47, c47_48, e47_50, w47_50, c47_51, e47_53, w47_53, e47_55, w47_55, c47_56, e47_58, w47_58, e47_60, w47_60, c47_61, c47_62, c47_63, c47_64, c47_66, c47_67, c47_68, c47_69, c47_70, c47_71, c47_72, c47_73, e]
  have e1 : checkM m = if ¬ (0 ≤ m.iss ∧ m.iss ≤ 3155932800) ∨ ¬ (0 ≤ m.exp ∧ m.exp ≤ 3155932800) ∨ m.exp ≤ m.iss then 10
  else if ¬ (1 ≤ m.kind ∧ m.kind ≤ 6) then 35 else if okName m.trip = false then 12 else if ¬ (0 ≤ m.day ∧ m.day ≤ 36524) then 11 else if m.inst < 0 then 2 else kindErr m (usesOf m.kind) := by
    rw [checkM, if_neg (by omega), if_neg h2]
  rw [e1]
  simp -implicitDefEqProofs (disch := omega) only [go_sem, Nat.reduceAdd, Nat.reduceMul, Nat.reduceSub, Nat.reduceBEq, Nat.reduceLeDiff, Nat.reduceLT, fn_transitref31_Check, e47_1, w47_1, e47_3, w47_3, c47_4, e47_6, w47_6, e47_8, w47_8, c47_9, e47_11, w47_11, e47_13, w47_13, c47_14, e47_16, w47_16, e47_18, w47_18, c47_19, e47_21, w47_21, e47_23, w47_23, c47_24, e47_26, w47_26, e47_28, w47_28, c47_29, e47_31, w47_31, e47_33, w47_33, c47_34, e47_36, w47_36, e47_38, w47_38, e47_40, w47_40, c47_41, e47_43, w47_43, e47_45, w47_45, e47_47, w47_47, c47_48, e47_50, w47_50, c47_51, e47_53, w47_53, e47_55, w47_55, c47_56, e47_58, w47_58, e47_60, w47_60, c47_61, c47_62, c47_63, c47_64, c47_66, c47_67, c47_68, c47_69, c47_70, c47_71, c47_72, c47_73]
  refine ifD (fun h => ?_) (fun h3 => ?_)
  · simp -implicitDefEqProofs (disch := omega) only [go_sem, Nat.reduceAdd, Nat.reduceMul, Nat.reduceSub, Nat.reduceBEq, Nat.reduceLeDiff, Nat.reduceLT, fn_transitref31_Check, e47_1, w47_1, e47_3, w47_3, c47_4, e47_6, w47_6, e47_8, w47_8, c47_9, e47_11, w47_11, e47_13, w47_13, c47_14, e47_16, w47_16, e47_18, w47_18, c47_19, e47_21, w47_21, e47_23, w47_23, c47_24, e47_26, w47_26, e47_28, w47_28, c47_29, e47_31, w47_31, e47_33, w47_33, c47_34, e47_36, w47_36, e47_38, w47_38, e47_40, w47_40, c47_41, e47_43, w47_43, e47_45, w47_45, e47_47, w47_47, c47_48, e47_50, w47_50, c47_51, e47_53, w47_53, e47_55, w47_55, c47_56, e47_58, w47_58, e47_60, w47_60, c47_61, c47_62, c47_63, c47_64, c47_66, c47_67, c47_68, c47_69, c47_70, c47_71, c47_72, c47_73]
    rw [if_pos (by omega)]
  simp -implicitDefEqProofs (disch := omega) only [go_sem, Nat.reduceAdd, Nat.reduceMul, Nat.reduceSub, Nat.reduceBEq, Nat.reduceLeDiff, Nat.reduceLT, fn_transitref31_Check, e47_1, w47_1, e47_3, w47_3, c47_4, e47_6, w47_6, e47_8, w47_8, c47_9, e47_11, w47_11, e47_13, w47_13, c47_14, e47_16, w47_16, e47_18, w47_18, c47_19, e47_21, w47_21, e47_23, w47_23, c47_24, e47_26, w47_26, e47_28, w47_28, c47_29, e47_31, w47_31, e47_33, w47_33, c47_34, e47_36, w47_36, e47_38, w47_38, e47_40, w47_40, c47_41, e47_43, w47_43, e47_45, w47_45, e47_47, w47_47, c47_48, e47_50, w47_50, c47_51, e47_53, w47_53, e47_55, w47_55, c47_56, e47_58, w47_58, e47_60, w47_60, c47_61, c47_62, c47_63, c47_64, c47_66, c47_67, c47_68, c47_69, c47_70, c47_71, c47_72, c47_73]
  refine ifD (fun h => ?_) (fun h4 => ?_)
  · simp -implicitDefEqProofs (disch := omega) only [go_sem, Nat.reduceAdd, Nat.reduceMul, Nat.reduceSub, Nat.reduceBEq, Nat.reduceLeDiff, Nat.reduceLT, fn_transitref31_Check, e47_1, w47_1, e47_3, w47_3, c47_4, e47_6, w47_6, e47_8, w47_8, c47_9, e47_11, w47_11, e47_13, w47_13, c47_14, e47_16, w47_16, e47_18, w47_18, c47_19, e47_21, w47_21, e47_23, w47_23, c47_24, e47_26, w47_26, e47_28, w47_28, c47_29, e47_31, w47_31, e47_33, w47_33, c47_34, e47_36, w47_36, e47_38, w47_38, e47_40, w47_40, c47_41, e47_43, w47_43, e47_45, w47_45, e47_47, w47_47, c47_48, e47_50, w47_50, c47_51, e47_53, w47_53, e47_55, w47_55, c47_56, e47_58, w47_58, e47_60, w47_60, c47_61, c47_62, c47_63, c47_64, c47_66, c47_67, c47_68, c47_69, c47_70, c47_71, c47_72, c47_73]
    rw [if_pos (by omega)]
  simp -implicitDefEqProofs (disch := omega) only [go_sem, Nat.reduceAdd, Nat.reduceMul, Nat.reduceSub, Nat.reduceBEq, Nat.reduceLeDiff, Nat.reduceLT, fn_transitref31_Check, e47_1, w47_1, e47_3, w47_3, c47_4, e47_6, w47_6, e47_8, w47_8, c47_9, e47_11, w47_11, e47_13, w47_13, c47_14, e47_16, w47_16, e47_18, w47_18, c47_19, e47_21, w47_21, e47_23, w47_23, c47_24, e47_26, w47_26, e47_28, w47_28, c47_29, e47_31, w47_31, e47_33, w47_33, c47_34, e47_36, w47_36, e47_38, w47_38, e47_40, w47_40, c47_41, e47_43, w47_43, e47_45, w47_45, e47_47, w47_47, c47_48, e47_50, w47_50, c47_51, e47_53, w47_53, e47_55, w47_55, c47_56, e47_58, w47_58, e47_60, w47_60, c47_61, c47_62, c47_63, c47_64, c47_66, c47_67, c47_68, c47_69, c47_70, c47_71, c47_72, c47_73]
  refine ifD (fun h => ?_) (fun h5 => ?_)
  · simp -implicitDefEqProofs (disch := omega) only [go_sem, Nat.reduceAdd, Nat.reduceMul, Nat.reduceSub, Nat.reduceBEq, Nat.reduceLeDiff, Nat.reduceLT, fn_transitref31_Check, e47_1, w47_1, e47_3, w47_3, c47_4, e47_6, w47_6, e47_8, w47_8, c47_9, e47_11, w47_11, e47_13, w47_13, c47_14, e47_16, w47_16, e47_18, w47_18, c47_19, e47_21, w47_21, e47_23, w47_23, c47_24, e47_26, w47_26, e47_28, w47_28, c47_29, e47_31, w47_31, e47_33, w47_33, c47_34, e47_36, w47_36, e47_38, w47_38, e47_40, w47_40, c47_41, e47_43, w47_43, e47_45, w47_45, e47_47, w47_47, c47_48, e47_50, w47_50, c47_51, e47_53, w47_53, e47_55, w47_55, c47_56, e47_58, w47_58, e47_60, w47_60, c47_61, c47_62, c47_63, c47_64, c47_66, c47_67, c47_68, c47_69, c47_70, c47_71, c47_72, c47_73]
    rw [if_pos (by omega)]
  simp -implicitDefEqProofs (disch := omega) only [go_sem, Nat.reduceAdd, Nat.reduceMul, Nat.reduceSub, Nat.reduceBEq, Nat.reduceLeDiff, Nat.reduceLT, fn_transitref31_Check, e47_1, w47_1, e47_3, w47_3, c47_4, e47_6, w47_6, e47_8, w47_8, c47_9, e47_11, w47_11, e47_13, w47_13, c47_14, e47_16, w47_16, e47_18, w47_18, c47_19, e47_21, w47_21, e47_23, w47_23, c47_24, e47_26, w47_26, e47_28, w47_28, c47_29, e47_31, w47_31, e47_33, w47_33, c47_34, e47_36, w47_36, e47_38, w47_38, e47_40, w47_40, c47_41, e47_43, w47_43, e47_45, w47_45, e47_47, w47_47, c47_48, e47_50, w47_50, c47_51, e47_53, w47_53, e47_55, w47_55, c47_56, e47_58, w47_58, e47_60, w47_60, c47_61, c47_62, c47_63, c47_64, c47_66, c47_67, c47_68, c47_69, c47_70, c47_71, c47_72, c47_73]
  refine ifD (fun h => ?_) (fun h6 => ?_)
  · simp -implicitDefEqProofs (disch := omega) only [go_sem, Nat.reduceAdd, Nat.reduceMul, Nat.reduceSub, Nat.reduceBEq, Nat.reduceLeDiff, Nat.reduceLT, fn_transitref31_Check, e47_1, w47_1, e47_3, w47_3, c47_4, e47_6, w47_6, e47_8, w47_8, c47_9, e47_11, w47_11, e47_13, w47_13, c47_14, e47_16, w47_16, e47_18, w47_18, c47_19, e47_21, w47_21, e47_23, w47_23, c47_24, e47_26, w47_26, e47_28, w47_28, c47_29, e47_31, w47_31, e47_33, w47_33, c47_34, e47_36, w47_36, e47_38, w47_38, e47_40, w47_40, c47_41, e47_43, w47_43, e47_45, w47_45, e47_47, w47_47, c47_48, e47_50, w47_50, c47_51, e47_53, w47_53, e47_55, w47_55, c47_56, e47_58, w47_58, e47_60, w47_60, c47_61, c47_62, c47_63, c47_64, c47_66, c47_67, c47_68, c47_69, c47_70, c47_71, c47_72, c47_73]
    rw [if_pos (by omega)]
  simp -implicitDefEqProofs (disch := omega) only [go_sem, Nat.reduceAdd, Nat.reduceMul, Nat.reduceSub, Nat.reduceBEq, Nat.reduceLeDiff, Nat.reduceLT, fn_transitref31_Check, e47_1, w47_1, e47_3, w47_3, c47_4, e47_6, w47_6, e47_8, w47_8, c47_9, e47_11, w47_11, e47_13, w47_13, c47_14, e47_16, w47_16, e47_18, w47_18, c47_19, e47_21, w47_21, e47_23, w47_23, c47_24, e47_26, w47_26, e47_28, w47_28, c47_29, e47_31, w47_31, e47_33, w47_33, c47_34, e47_36, w47_36, e47_38, w47_38, e47_40, w47_40, c47_41, e47_43, w47_43, e47_45, w47_45, e47_47, w47_47, c47_48, e47_50, w47_50, c47_51, e47_53, w47_53, e47_55, w47_55, c47_56, e47_58, w47_58, e47_60, w47_60, c47_61, c47_62, c47_63, c47_64, c47_66, c47_67, c47_68, c47_69, c47_70, c47_71, c47_72, c47_73]
  refine ifD (fun h => ?_) (fun h7 => ?_)
  · simp -implicitDefEqProofs (disch := omega) only [go_sem, Nat.reduceAdd, Nat.reduceMul, Nat.reduceSub, Nat.reduceBEq, Nat.reduceLeDiff, Nat.reduceLT, fn_transitref31_Check, e47_1, w47_1, e47_3, w47_3, c47_4, e47_6, w47_6, e47_8, w47_8, c47_9, e47_11, w47_11, e47_13, w47_13, c47_14, e47_16, w47_16, e47_18, w47_18, c47_19, e47_21, w47_21, e47_23, w47_23, c47_24, e47_26, w47_26, e47_28, w47_28, c47_29, e47_31, w47_31, e47_33, w47_33, c47_34, e47_36, w47_36, e47_38, w47_38, e47_40, w47_40, c47_41, e47_43, w47_43, e47_45, w47_45, e47_47, w47_47, c47_48, e47_50, w47_50, c47_51, e47_53, w47_53, e47_55, w47_55, c47_56, e47_58, w47_58, e47_60, w47_60, c47_61, c47_62, c47_63, c47_64, c47_66, c47_67, c47_68, c47_69, c47_70, c47_71, c47_72, c47_73]
    rw [if_pos (by omega)]
  rw [if_neg (by omega)]
  simp -implicitDefEqProofs (disch := omega) only [go_sem, Nat.reduceAdd, Nat.reduceMul, Nat.reduceSub, Nat.reduceBEq, Nat.reduceLeDiff, Nat.reduceLT, fn_transitref31_Check, e47_1, w47_1, e47_3, w47_3, c47_4, e47_6, w47_6, e47_8, w47_8, c47_9, e47_11, w47_11, e47_13, w47_13, c47_14, e47_16, w47_16, e47_18, w47_18, c47_19, e47_21, w47_21, e47_23, w47_23, c47_24, e47_26, w47_26, e47_28, w47_28, c47_29, e47_31, w47_31, e47_33, w47_33, c47_34, e47_36, w47_36, e47_38, w47_38, e47_40, w47_40, c47_41, e47_43, w47_43, e47_45, w47_45, e47_47, w47_47, c47_48, e47_50, w47_50, c47_51, e47_53, w47_53, e47_55, w47_55, c47_56, e47_58, w47_58, e47_60, w47_60, c47_61, c47_62, c47_63, c47_64, c47_66, c47_67, c47_68, c47_69, c47_70, c47_71, c47_72, c47_73]
  refine ifD (fun h => ?_) (fun h8 => ?_)
  · simp -implicitDefEqProofs (disch := omega) only [go_sem, Nat.reduceAdd, Nat.reduceMul, Nat.reduceSub, Nat.reduceBEq, Nat.reduceLeDiff, Nat.reduceLT, fn_transitref31_Check, e47_1, w47_1, e47_3, w47_3, c47_4, e47_6, w47_6, e47_8, w47_8, c47_9, e47_11, w47_11, e47_13, w47_13, c47_14, e47_16, w47_16, e47_18, w47_18, c47_19, e47_21, w47_21, e47_23, w47_23, c47_24, e47_26, w47_26, e47_28, w47_28, c47_29, e47_31, w47_31, e47_33, w47_33, c47_34, e47_36, w47_36, e47_38, w47_38, e47_40, w47_40, c47_41, e47_43, w47_43, e47_45, w47_45, e47_47, w47_47, c47_48, e47_50, w47_50, c47_51, e47_53, w47_53, e47_55, w47_55, c47_56, e47_58, w47_58, e47_60, w47_60, c47_61, c47_62, c47_63, c47_64, c47_66, c47_67, c47_68, c47_69, c47_70, c47_71, c47_72, c47_73]
    rw [if_pos (by omega)]
  simp -implicitDefEqProofs (disch := omega) only [go_sem, Nat.reduceAdd, Nat.reduceMul, Nat.reduceSub, Nat.reduceBEq, Nat.reduceLeDiff, Nat.reduceLT, fn_transitref31_Check, e47_1, w47_1, e47_3, w47_3, c47_4, e47_6, w47_6, e47_8, w47_8, c47_9, e47_11, w47_11, e47_13, w47_13, c47_14, e47_16, w47_16, e47_18, w47_18, c47_19, e47_21, w47_21, e47_23, w47_23, c47_24, e47_26, w47_26, e47_28, w47_28, c47_29, e47_31, w47_31, e47_33, w47_33, c47_34, e47_36, w47_36, e47_38, w47_38, e47_40, w47_40, c47_41, e47_43, w47_43, e47_45, w47_45, e47_47, w47_47, c47_48, e47_50, w47_50, c47_51, e47_53, w47_53, e47_55, w47_55, c47_56, e47_58, w47_58, e47_60, w47_60, c47_61, c47_62, c47_63, c47_64, c47_66, c47_67, c47_68, c47_69, c47_70, c47_71, c47_72, c47_73]
  refine ifD (fun h => ?_) (fun h9 => ?_)
  · simp -implicitDefEqProofs (disch := omega) only [go_sem, Nat.reduceAdd, Nat.reduceMul, Nat.reduceSub, Nat.reduceBEq, Nat.reduceLeDiff, Nat.reduceLT, fn_transitref31_Check, e47_1, w47_1, e47_3, w47_3, c47_4, e47_6, w47_6, e47_8, w47_8, c47_9, e47_11, w47_11, e47_13, w47_13, c47_14, e47_16, w47_16, e47_18, w47_18, c47_19, e47_21, w47_21, e47_23, w47_23, c47_24, e47_26, w47_26, e47_28, w47_28, c47_29, e47_31, w47_31, e47_33, w47_33, c47_34, e47_36, w47_36, e47_38, w47_38, e47_40, w47_40, c47_41, e47_43, w47_43, e47_45, w47_45, e47_47, w47_47, c47_48, e47_50, w47_50, c47_51, e47_53, w47_53, e47_55, w47_55, c47_56, e47_58, w47_58, e47_60, w47_60, c47_61, c47_62, c47_63, c47_64, c47_66, c47_67, c47_68, c47_69, c47_70, c47_71, c47_72, c47_73]
    rw [if_pos (by omega)]
  rw [if_neg (by omega)]
  simp -implicitDefEqProofs (disch := omega) only [go_sem, Nat.reduceAdd, Nat.reduceMul, Nat.reduceSub, Nat.reduceBEq, Nat.reduceLeDiff, Nat.reduceLT, fn_transitref31_Check, e47_1, w47_1, e47_3, w47_3, c47_4, e47_6, w47_6, e47_8, w47_8, c47_9, e47_11, w47_11, e47_13, w47_13, c47_14, e47_16, w47_16, e47_18, w47_18, c47_19, e47_21, w47_21, e47_23, w47_23, c47_24, e47_26, w47_26, e47_28, w47_28, c47_29, e47_31, w47_31, e47_33, w47_33, c47_34, e47_36, w47_36, e47_38, w47_38, e47_40, w47_40, c47_41, e47_43, w47_43, e47_45, w47_45, e47_47, w47_47, c47_48, e47_50, w47_50, c47_51, e47_53, w47_53, e47_55, w47_55, c47_56, e47_58, w47_58, e47_60, w47_60, c47_61, c47_62, c47_63, c47_64, c47_66, c47_67, c47_68, c47_69, c47_70, c47_71, c47_72, c47_73]
  first | refine callD (transitref15_Name_ok _ ht) ?_ | refine callQD (transitref15_Name_ok _ ht) ?_
  simp -implicitDefEqProofs (disch := omega) only [go_sem, Nat.reduceAdd, Nat.reduceMul, Nat.reduceSub, Nat.reduceBEq, Nat.reduceLeDiff, Nat.reduceLT, fn_transitref31_Check, e47_1, w47_1, e47_3, w47_3, c47_4, e47_6, w47_6, e47_8, w47_8, c47_9, e47_11, w47_11, e47_13, w47_13, c47_14, e47_16, w47_16, e47_18, w47_18, c47_19, e47_21, w47_21, e47_23, w47_23, c47_24, e47_26, w47_26, e47_28, w47_28, c47_29, e47_31, w47_31, e47_33, w47_33, c47_34, e47_36, w47_36, e47_38, w47_38, e47_40, w47_40, c47_41, e47_43, w47_43, e47_45, w47_45, e47_47, w47_47, c47_48, e47_50, w47_50, c47_51, e47_53, w47_53, e47_55, w47_55, c47_56, e47_58, w47_58, e47_60, w47_60, c47_61, c47_62, c47_63, c47_64, c47_66, c47_67, c47_68, c47_69, c47_70, c47_71, c47_72, c47_73]
  refine ifB (fun h10 => ?_) (fun h10 => ?_)
  rotate_left
  · simp -implicitDefEqProofs (disch := omega) only [go_sem, Nat.reduceAdd, Nat.reduceMul, Nat.reduceSub, Nat.reduceBEq, Nat.reduceLeDiff, Nat.reduceLT, fn_transitref31_Check, e47_1, w47_1, e47_3, w47_3, c47_4, e47_6, w47_6, e47_8, w47_8, c47_9, e47_11, w47_11, e47_13, w47_13, c47_14, e47_16, w47_16, e47_18, w47_18, c47_19, e47_21, w47_21, e47_23, w47_23, c47_24, e47_26, w47_26, e47_28, w47_28, c47_29, e47_31, w47_31, e47_33, w47_33, c47_34, e47_36, w47_36, e47_38, w47_38, e47_40, w47_40, c47_41, e47_43, w47_43, e47_45, w47_45, e47_47, w47_47, c47_48, e47_50, w47_50, c47_51, e47_53, w47_53, e47_55, w47_55, c47_56, e47_58, w47_58, e47_60, w47_60, c47_61, c47_62, c47_63, c47_64, c47_66, c47_67, c47_68, c47_69, c47_70, c47_71, c47_72, c47_73]
    rw [if_pos h10]
  rw [if_neg (by rw [h10]; simp)]
  simp -implicitDefEqProofs (disch := omega) only [go_sem, Nat.reduceAdd, Nat.reduceMul, Nat.reduceSub, Nat.reduceBEq, Nat.reduceLeDiff, Nat.reduceLT, fn_transitref31_Check, e47_1, w47_1, e47_3, w47_3, c47_4, e47_6, w47_6, e47_8, w47_8, c47_9, e47_11, w47_11, e47_13, w47_13, c47_14, e47_16, w47_16, e47_18, w47_18, c47_19, e47_21, w47_21, e47_23, w47_23, c47_24, e47_26, w47_26, e47_28, w47_28, c47_29, e47_31, w47_31, e47_33, w47_33, c47_34, e47_36, w47_36, e47_38, w47_38, e47_40, w47_40, c47_41, e47_43, w47_43, e47_45, w47_45, e47_47, w47_47, c47_48, e47_50, w47_50, c47_51, e47_53, w47_53, e47_55, w47_55, c47_56, e47_58, w47_58, e47_60, w47_60, c47_61, c47_62, c47_63, c47_64, c47_66, c47_67, c47_68, c47_69, c47_70, c47_71, c47_72, c47_73]
  refine ifD (fun h => ?_) (fun h11 => ?_)
  · simp -implicitDefEqProofs (disch := omega) only [go_sem, Nat.reduceAdd, Nat.reduceMul, Nat.reduceSub, Nat.reduceBEq, Nat.reduceLeDiff, Nat.reduceLT, fn_transitref31_Check, e47_1, w47_1, e47_3, w47_3, c47_4, e47_6, w47_6, e47_8, w47_8, c47_9, e47_11, w47_11, e47_13, w47_13, c47_14, e47_16, w47_16, e47_18, w47_18, c47_19, e47_21, w47_21, e47_23, w47_23, c47_24, e47_26, w47_26, e47_28, w47_28, c47_29, e47_31, w47_31, e47_33, w47_33, c47_34, e47_36, w47_36, e47_38, w47_38, e47_40, w47_40, c47_41, e47_43, w47_43, e47_45, w47_45, e47_47, w47_47, c47_48, e47_50, w47_50, c47_51, e47_53, w47_53, e47_55, w47_55, c47_56, e47_58, w47_58, e47_60, w47_60, c47_61, c47_62, c47_63, c47_64, c47_66, c47_67, c47_68, c47_69, c47_70, c47_71, c47_72, c47_73]
    rw [if_pos (by omega)]
  simp -implicitDefEqProofs (disch := omega) only [go_sem, Nat.reduceAdd, Nat.reduceMul, Nat.reduceSub, Nat.reduceBEq, Nat.reduceLeDiff, Nat.reduceLT, fn_transitref31_Check, e47_1, w47_1, e47_3, w47_3, c47_4, e47_6, w47_6, e47_8, w47_8, c47_9, e47_11, w47_11, e47_13, w47_13, c47_14, e47_16, w47_16, e47_18, w47_18, c47_19, e47_21, w47_21, e47_23, w47_23, c47_24, e47_26, w47_26, e47_28, w47_28, c47_29, e47_31, w47_31, e47_33, w47_33, c47_34, e47_36, w47_36, e47_38, w47_38, e47_40, w47_40, c47_41, e47_43, w47_43, e47_45, w47_45, e47_47, w47_47, c47_48, e47_50, w47_50, c47_51, e47_53, w47_53, e47_55, w47_55, c47_56, e47_58, w47_58, e47_60, w47_60, c47_61, c47_62, c47_63, c47_64, c47_66, c47_67, c47_68, c47_69, c47_70, c47_71, c47_72, c47_73]
  refine ifD (fun h => ?_) (fun h12 => ?_)
  · simp -implicitDefEqProofs (disch := omega) only [go_sem, Nat.reduceAdd, Nat.reduceMul, Nat.reduceSub, Nat.reduceBEq, Nat.reduceLeDiff, Nat.reduceLT, fn_transitref31_Check, e47_1, w47_1, e47_3, w47_3, c47_4, e47_6, w47_6, e47_8, w47_8, c47_9, e47_11, w47_11, e47_13, w47_13, c47_14, e47_16, w47_16, e47_18, w47_18, c47_19, e47_21, w47_21, e47_23, w47_23, c47_24, e47_26, w47_26, e47_28, w47_28, c47_29, e47_31, w47_31, e47_33, w47_33, c47_34, e47_36, w47_36, e47_38, w47_38, e47_40, w47_40, c47_41, e47_43, w47_43, e47_45, w47_45, e47_47, w47_47, c47_48, e47_50, w47_50, c47_51, e47_53, w47_53, e47_55, w47_55, c47_56, e47_58, w47_58, e47_60, w47_60, c47_61, c47_62, c47_63, c47_64, c47_66, c47_67, c47_68, c47_69, c47_70, c47_71, c47_72, c47_73]
    rw [if_pos (by omega)]
  rw [if_neg (by omega)]
  simp -implicitDefEqProofs (disch := omega) only [go_sem, Nat.reduceAdd, Nat.reduceMul, Nat.reduceSub, Nat.reduceBEq, Nat.reduceLeDiff, Nat.reduceLT, fn_transitref31_Check, e47_1, w47_1, e47_3, w47_3, c47_4, e47_6, w47_6, e47_8, w47_8, c47_9, e47_11, w47_11, e47_13, w47_13, c47_14, e47_16, w47_16, e47_18, w47_18, c47_19, e47_21, w47_21, e47_23, w47_23, c47_24, e47_26, w47_26, e47_28, w47_28, c47_29, e47_31, w47_31, e47_33, w47_33, c47_34, e47_36, w47_36, e47_38, w47_38, e47_40, w47_40, c47_41, e47_43, w47_43, e47_45, w47_45, e47_47, w47_47, c47_48, e47_50, w47_50, c47_51, e47_53, w47_53, e47_55, w47_55, c47_56, e47_58, w47_58, e47_60, w47_60, c47_61, c47_62, c47_63, c47_64, c47_66, c47_67, c47_68, c47_69, c47_70, c47_71, c47_72, c47_73]
  refine ifD (fun h => ?_) (fun h13 => ?_)
  · simp -implicitDefEqProofs (disch := omega) only [go_sem, Nat.reduceAdd, Nat.reduceMul, Nat.reduceSub, Nat.reduceBEq, Nat.reduceLeDiff, Nat.reduceLT, fn_transitref31_Check, e47_1, w47_1, e47_3, w47_3, c47_4, e47_6, w47_6, e47_8, w47_8, c47_9, e47_11, w47_11, e47_13, w47_13, c47_14, e47_16, w47_16, e47_18, w47_18, c47_19, e47_21, w47_21, e47_23, w47_23, c47_24, e47_26, w47_26, e47_28, w47_28, c47_29, e47_31, w47_31, e47_33, w47_33, c47_34, e47_36, w47_36, e47_38, w47_38, e47_40, w47_40, c47_41, e47_43, w47_43, e47_45, w47_45, e47_47, w47_47, c47_48, e47_50, w47_50, c47_51, e47_53, w47_53, e47_55, w47_55, c47_56, e47_58, w47_58, e47_60, w47_60, c47_61, c47_62, c47_63, c47_64, c47_66, c47_67, c47_68, c47_69, c47_70, c47_71, c47_72, c47_73]
    rw [if_pos h]
  rw [if_neg h13]
  simp -implicitDefEqProofs (disch := omega) only [go_sem, Nat.reduceAdd, Nat.reduceMul, Nat.reduceSub, Nat.reduceBEq, Nat.reduceLeDiff, Nat.reduceLT, fn_transitref31_Check, e47_1, w47_1, e47_3, w47_3, c47_4, e47_6, w47_6, e47_8, w47_8, c47_9, e47_11, w47_11, e47_13, w47_13, c47_14, e47_16, w47_16, e47_18, w47_18, c47_19, e47_21, w47_21, e47_23, w47_23, c47_24, e47_26, w47_26, e47_28, w47_28, c47_29, e47_31, w47_31, e47_33, w47_33, c47_34, e47_36, w47_36, e47_38, w47_38, e47_40, w47_40, c47_41, e47_43, w47_43, e47_45, w47_45, e47_47, w47_47, c47_48, e47_50, w47_50, c47_51, e47_53, w47_53, e47_55, w47_55, c47_56, e47_58, w47_58, e47_60, w47_60, c47_61, c47_62, c47_63, c47_64, c47_66, c47_67, c47_68, c47_69, c47_70, c47_71, c47_72, c47_73]
  refine refCheck_kind m hlen _ _ rfl ?_ _ rfl
  simp -implicitDefEqProofs (disch := omega) only [go_sem, Nat.reduceAdd, Nat.reduceMul, Nat.reduceSub, Nat.reduceBEq, Nat.reduceLeDiff, Nat.reduceLT, fn_transitref31_Check, e47_1, w47_1, e47_3, w47_3, c47_4, e47_6, w47_6, e47_8, w47_8, c47_9, e47_11, w47_11, e47_13, w47_13, c47_14, e47_16, w47_16, e47_18, w47_18, c47_19, e47_21, w47_21, e47_23, w47_23, c47_24, e47_26, w47_26, e47_28, w47_28, c47_29, e47_31, w47_31, e47_33, w47_33, c47_34, e47_36, w47_36, e47_38, w47_38, e47_40, w47_40, c47_41, e47_43, w47_43, e47_45, w47_45, e47_47, w47_47, c47_48, e47_50, w47_50, c47_51, e47_53, w47_53, e47_55, w47_55, c47_56, e47_58, w47_58, e47_60, w47_60, c47_61, c47_62, c47_63, c47_64, c47_66, c47_67, c47_68, c47_69, c47_70, c47_71, c47_72, c47_73]

/-! ### Targets, superseding, equality -/
def sameT (a b : Msg) : Bool := decide (a.trip = b.trip) && (decide (a.day = b.day) && decide (a.inst = b.inst))
def statusK (n : Int) : Bool := decide (n = 2 ∨ n = 4 ∨ n = 5 ∨ n = 6)
def superB (a b : Msg) : Bool := decide (a.src = b.src) && (sameT a b && (decide (b.seq < a.seq) && (statusK a.kind || (decide (a.kind = b.kind) && decide (a.callNo = b.callNo)))))
theorem and3 (p q r : Bool) (h : p = true) : (p && q) = q := by rw [h]; rfl

theorem message_SameTarget_ok (a b : Msg) : PCalls PR i_message_SameTarget [.agg a.row, .agg b.row] (fun v => v = .bool (sameT a b)) := by
  refine acalls_pop fn_message_SameTarget_ok (by simp [fn_message_SameTarget]) ?_
  simp -implicitDefEqProofs (disch := omega) only [go_sem, Nat.reduceAdd, Nat.reduceMul, Nat.reduceSub, Nat.reduceBEq, Nat.reduceLeDiff, Nat.reduceLT, fn_message_SameTarget, e40_1, w40_1, e40_3, w40_3, c40_4, c40_5, Msg.row]
  refine ifD (fun h1 => ?_) (fun h1 => ?_)
  · simp -implicitDefEqProofs (disch := omega) only [go_sem, Nat.reduceAdd, Nat.reduceMul, Nat.reduceSub, Nat.reduceBEq, Nat.reduceLeDiff, Nat.reduceLT, fn_message_SameTarget, e40_1, w40_1, e40_3, w40_3, c40_4, c40_5]
    refine ifD (fun h2 => ?_) (fun h2 => ?_)
    · simp -implicitDefEqProofs (disch := omega) only [go_sem, Nat.reduceAdd, Nat.reduceMul, Nat.reduceSub, Nat.reduceBEq, Nat.reduceLeDiff, Nat.reduceLT, fn_message_SameTarget, e40_1, w40_1, e40_3, w40_3, c40_4, c40_5, sameT, h1, h2]
    · simp -implicitDefEqProofs (disch := omega) only [go_sem, Nat.reduceAdd, Nat.reduceMul, Nat.reduceSub, Nat.reduceBEq, Nat.reduceLeDiff, Nat.reduceLT, fn_message_SameTarget, e40_1, w40_1, e40_3, w40_3, c40_4, c40_5]
      simp [sameT, h2]
  · simp -implicitDefEqProofs (disch := omega) only [go_sem, Nat.reduceAdd, Nat.reduceMul, Nat.reduceSub, Nat.reduceBEq, Nat.reduceLeDiff, Nat.reduceLT, fn_message_SameTarget, e40_1, w40_1, e40_3, w40_3, c40_4, c40_5]
    simp [sameT, h1]
theorem transitref31_SameTarget_ok (a b : Msg) : PCalls PR i_transitref31_SameTarget [.agg a.row, .agg b.row] (fun v => v = .bool (sameT a b)) := by
  refine acalls_pop fn_transitref31_SameTarget_ok (by simp [fn_transitref31_SameTarget]) ?_
  simp -implicitDefEqProofs (disch := omega) only [go_sem, Nat.reduceAdd, Nat.reduceMul, Nat.reduceSub, Nat.reduceBEq, Nat.reduceLeDiff, Nat.reduceLT, fn_transitref31_SameTarget, e22_1, w22_1, e22_3, w22_3, c22_4, c22_5, Msg.row]
  refine ifD (fun h1 => ?_) (fun h1 => ?_)
  · simp -implicitDefEqProofs (disch := omega) only [go_sem, Nat.reduceAdd, Nat.reduceMul, Nat.reduceSub, Nat.reduceBEq, Nat.reduceLeDiff, Nat.reduceLT, fn_transitref31_SameTarget, e22_1, w22_1, e22_3, w22_3, c22_4, c22_5]
    refine ifD (fun h2 => ?_) (fun h2 => ?_)
    · simp -implicitDefEqProofs (disch := omega) only [go_sem, Nat.reduceAdd, Nat.reduceMul, Nat.reduceSub, Nat.reduceBEq, Nat.reduceLeDiff, Nat.reduceLT, fn_transitref31_SameTarget, e22_1, w22_1, e22_3, w22_3, c22_4, c22_5, sameT, h1, h2]
    · simp -implicitDefEqProofs (disch := omega) only [go_sem, Nat.reduceAdd, Nat.reduceMul, Nat.reduceSub, Nat.reduceBEq, Nat.reduceLeDiff, Nat.reduceLT, fn_transitref31_SameTarget, e22_1, w22_1, e22_3, w22_3, c22_4, c22_5]
      simp [sameT, h2]
  · simp -implicitDefEqProofs (disch := omega) only [go_sem, Nat.reduceAdd, Nat.reduceMul, Nat.reduceSub, Nat.reduceBEq, Nat.reduceLeDiff, Nat.reduceLT, fn_transitref31_SameTarget, e22_1, w22_1, e22_3, w22_3, c22_4, c22_5]
    simp [sameT, h1]
theorem message_status_ok (n : Int) : PCalls PR i_message_status [.int .i64 n] (fun v => v = .bool (statusK n)) := by
  refine acalls_pop fn_message_status_ok (by simp [fn_message_status]) ?_
  simp -implicitDefEqProofs (disch := omega) only [go_sem, Nat.reduceAdd, Nat.reduceMul, Nat.reduceSub, Nat.reduceBEq, Nat.reduceLeDiff, Nat.reduceLT, fn_message_status, e54_1, w54_1, e54_3, w54_3, e54_5, w54_5, e54_7, w54_7, e54_9, w54_9, e54_11, w54_11, e54_13, w54_13, c54_14, c54_15, c54_16, c54_17, c54_18, e54_20, w54_20, c54_21, c54_22, c54_23]
  repeat' (first
    | simp -implicitDefEqProofs (disch := omega) only [go_sem, Nat.reduceAdd, Nat.reduceMul, Nat.reduceSub, Nat.reduceBEq, Nat.reduceLeDiff, Nat.reduceLT, fn_message_status, e54_1, w54_1, e54_3, w54_3, e54_5, w54_5, e54_7, w54_7, e54_9, w54_9, e54_11, w54_11, e54_13, w54_13, c54_14, c54_15, c54_16, c54_17, c54_18, e54_20, w54_20, c54_21, c54_22, c54_23]
    | (refine ifD (fun h => ?_) (fun h => ?_)))
  all_goals (symm; simp only [statusK]; first | exact decide_eq_true (by omega) | exact decide_eq_false (by omega))
theorem transitref31_Status_ok (m : Msg) : PCalls PR i_transitref31_Status [.agg m.row] (fun v => v = .bool (statusK m.kind)) := by
  refine acalls_pop fn_transitref31_Status_ok (by simp [fn_transitref31_Status]) ?_
  simp -implicitDefEqProofs (disch := omega) only [go_sem, Nat.reduceAdd, Nat.reduceMul, Nat.reduceSub, Nat.reduceBEq, Nat.reduceLeDiff, Nat.reduceLT, fn_transitref31_Status, e52_1, w52_1, e52_3, w52_3, c52_4, c52_5, Msg.row]
  repeat' (first
    | simp -implicitDefEqProofs (disch := omega) only [go_sem, Nat.reduceAdd, Nat.reduceMul, Nat.reduceSub, Nat.reduceBEq, Nat.reduceLeDiff, Nat.reduceLT, fn_transitref31_Status, e52_1, w52_1, e52_3, w52_3, c52_4, c52_5]
    | (refine ifD (fun h => ?_) (fun h => ?_)))
  all_goals (simp only [statusK]; first | (symm; exact decide_eq_true (by omega)) | (symm; exact decide_eq_false (by omega)) | exact decide_eq_decide.2 (by omega))

theorem message_Supersedes_ok (a b : Msg) : PCalls PR i_message_Supersedes [.agg a.row, .agg b.row] (fun v => v = .bool (superB a b)) := by
  have ht := message_SameTarget_ok a b
  simp only [Msg.row] at ht
  refine acalls_pop fn_message_Supersedes_ok (by simp [fn_message_Supersedes]) ?_
  simp -implicitDefEqProofs (disch := omega) only [go_sem, Nat.reduceAdd, Nat.reduceMul, Nat.reduceSub, Nat.reduceBEq, Nat.reduceLeDiff, Nat.reduceLT, fn_message_Supersedes, e35_1, w35_1, e35_3, w35_3, c35_4, c35_5, Msg.row]
  refine ifD (fun h1 => ?_) (fun h1 => ?_)
  rotate_left
  · simp -implicitDefEqProofs (disch := omega) only [go_sem, Nat.reduceAdd, Nat.reduceMul, Nat.reduceSub, Nat.reduceBEq, Nat.reduceLeDiff, Nat.reduceLT, fn_message_Supersedes, e35_1, w35_1, e35_3, w35_3, c35_4, c35_5]
    simp [superB, h1]
  simp -implicitDefEqProofs (disch := omega) only [go_sem, Nat.reduceAdd, Nat.reduceMul, Nat.reduceSub, Nat.reduceBEq, Nat.reduceLeDiff, Nat.reduceLT, fn_message_Supersedes, e35_1, w35_1, e35_3, w35_3, c35_4, c35_5]
  first | refine callD (ht) ?_ | refine callQD (ht) ?_
  simp -implicitDefEqProofs (disch := omega) only [go_sem, Nat.reduceAdd, Nat.reduceMul, Nat.reduceSub, Nat.reduceBEq, Nat.reduceLeDiff, Nat.reduceLT, fn_message_Supersedes, e35_1, w35_1, e35_3, w35_3, c35_4, c35_5]
  refine ifB (fun h2 => ?_) (fun h2 => ?_)
  rotate_left
  · simp -implicitDefEqProofs (disch := omega) only [go_sem, Nat.reduceAdd, Nat.reduceMul, Nat.reduceSub, Nat.reduceBEq, Nat.reduceLeDiff, Nat.reduceLT, fn_message_Supersedes, e35_1, w35_1, e35_3, w35_3, c35_4, c35_5]
    simp [superB, h2]
  simp -implicitDefEqProofs (disch := omega) only [go_sem, Nat.reduceAdd, Nat.reduceMul, Nat.reduceSub, Nat.reduceBEq, Nat.reduceLeDiff, Nat.reduceLT, fn_message_Supersedes, e35_1, w35_1, e35_3, w35_3, c35_4, c35_5]
  refine ifD (fun h3 => ?_) (fun h3 => ?_)
  rotate_left
  · simp -implicitDefEqProofs (disch := omega) only [go_sem, Nat.reduceAdd, Nat.reduceMul, Nat.reduceSub, Nat.reduceBEq, Nat.reduceLeDiff, Nat.reduceLT, fn_message_Supersedes, e35_1, w35_1, e35_3, w35_3, c35_4, c35_5]
    simp [superB, h3]
  simp -implicitDefEqProofs (disch := omega) only [go_sem, Nat.reduceAdd, Nat.reduceMul, Nat.reduceSub, Nat.reduceBEq, Nat.reduceLeDiff, Nat.reduceLT, fn_message_Supersedes, e35_1, w35_1, e35_3, w35_3, c35_4, c35_5]
  first | refine callD (message_status_ok _) ?_ | refine callQD (message_status_ok _) ?_
  simp -implicitDefEqProofs (disch := omega) only [go_sem, Nat.reduceAdd, Nat.reduceMul, Nat.reduceSub, Nat.reduceBEq, Nat.reduceLeDiff, Nat.reduceLT, fn_message_Supersedes, e35_1, w35_1, e35_3, w35_3, c35_4, c35_5]
  refine ifB (fun h4 => ?_) (fun h4 => ?_)
  · simp -implicitDefEqProofs (disch := omega) only [go_sem, Nat.reduceAdd, Nat.reduceMul, Nat.reduceSub, Nat.reduceBEq, Nat.reduceLeDiff, Nat.reduceLT, fn_message_Supersedes, e35_1, w35_1, e35_3, w35_3, c35_4, c35_5]
    simp [superB, h1, h2, h3, h4]
  simp -implicitDefEqProofs (disch := omega) only [go_sem, Nat.reduceAdd, Nat.reduceMul, Nat.reduceSub, Nat.reduceBEq, Nat.reduceLeDiff, Nat.reduceLT, fn_message_Supersedes, e35_1, w35_1, e35_3, w35_3, c35_4, c35_5]
  refine ifD (fun h5 => ?_) (fun h5 => ?_)
  · simp -implicitDefEqProofs (disch := omega) only [go_sem, Nat.reduceAdd, Nat.reduceMul, Nat.reduceSub, Nat.reduceBEq, Nat.reduceLeDiff, Nat.reduceLT, fn_message_Supersedes, e35_1, w35_1, e35_3, w35_3, c35_4, c35_5]
    have h4' := h4
    rw [h5] at h4'
    simp [superB, h1, h2, h3, h4', h5]
  · simp -implicitDefEqProofs (disch := omega) only [go_sem, Nat.reduceAdd, Nat.reduceMul, Nat.reduceSub, Nat.reduceBEq, Nat.reduceLeDiff, Nat.reduceLT, fn_message_Supersedes, e35_1, w35_1, e35_3, w35_3, c35_4, c35_5]
    simp [superB, h1, h2, h3, h4, h5]
theorem transitref31_Supersedes_ok (a b : Msg) : PCalls PR i_transitref31_Supersedes [.agg a.row, .agg b.row] (fun v => v = .bool (superB a b)) := by
  have ht := transitref31_SameTarget_ok a b
  have hs := transitref31_Status_ok a
  simp only [Msg.row] at ht hs
  refine acalls_pop fn_transitref31_Supersedes_ok (by simp [fn_transitref31_Supersedes]) ?_
  simp -implicitDefEqProofs (disch := omega) only [go_sem, Nat.reduceAdd, Nat.reduceMul, Nat.reduceSub, Nat.reduceBEq, Nat.reduceLeDiff, Nat.reduceLT, fn_transitref31_Supersedes, e29_1, w29_1, e29_3, w29_3, c29_4, c29_5, Msg.row]
  refine ifD (fun h1 => ?_) (fun h1 => ?_)
  rotate_left
  · simp -implicitDefEqProofs (disch := omega) only [go_sem, Nat.reduceAdd, Nat.reduceMul, Nat.reduceSub, Nat.reduceBEq, Nat.reduceLeDiff, Nat.reduceLT, fn_transitref31_Supersedes, e29_1, w29_1, e29_3, w29_3, c29_4, c29_5]
    simp [superB, h1]
  simp -implicitDefEqProofs (disch := omega) only [go_sem, Nat.reduceAdd, Nat.reduceMul, Nat.reduceSub, Nat.reduceBEq, Nat.reduceLeDiff, Nat.reduceLT, fn_transitref31_Supersedes, e29_1, w29_1, e29_3, w29_3, c29_4, c29_5]
  first | refine callD (ht) ?_ | refine callQD (ht) ?_
  simp -implicitDefEqProofs (disch := omega) only [go_sem, Nat.reduceAdd, Nat.reduceMul, Nat.reduceSub, Nat.reduceBEq, Nat.reduceLeDiff, Nat.reduceLT, fn_transitref31_Supersedes, e29_1, w29_1, e29_3, w29_3, c29_4, c29_5]
  refine ifB (fun h2 => ?_) (fun h2 => ?_)
  rotate_left
  · simp -implicitDefEqProofs (disch := omega) only [go_sem, Nat.reduceAdd, Nat.reduceMul, Nat.reduceSub, Nat.reduceBEq, Nat.reduceLeDiff, Nat.reduceLT, fn_transitref31_Supersedes, e29_1, w29_1, e29_3, w29_3, c29_4, c29_5]
    simp [superB, h2]
  simp -implicitDefEqProofs (disch := omega) only [go_sem, Nat.reduceAdd, Nat.reduceMul, Nat.reduceSub, Nat.reduceBEq, Nat.reduceLeDiff, Nat.reduceLT, fn_transitref31_Supersedes, e29_1, w29_1, e29_3, w29_3, c29_4, c29_5]
  refine ifD (fun h3 => ?_) (fun h3 => ?_)
  rotate_left
  · simp -implicitDefEqProofs (disch := omega) only [go_sem, Nat.reduceAdd, Nat.reduceMul, Nat.reduceSub, Nat.reduceBEq, Nat.reduceLeDiff, Nat.reduceLT, fn_transitref31_Supersedes, e29_1, w29_1, e29_3, w29_3, c29_4, c29_5]
    simp [superB, h3]
  simp -implicitDefEqProofs (disch := omega) only [go_sem, Nat.reduceAdd, Nat.reduceMul, Nat.reduceSub, Nat.reduceBEq, Nat.reduceLeDiff, Nat.reduceLT, fn_transitref31_Supersedes, e29_1, w29_1, e29_3, w29_3, c29_4, c29_5]
  first | refine callD (hs) ?_ | refine callQD (hs) ?_
  simp -implicitDefEqProofs (disch := omega) only [go_sem, Nat.reduceAdd, Nat.reduceMul, Nat.reduceSub, Nat.reduceBEq, Nat.reduceLeDiff, Nat.reduceLT, fn_transitref31_Supersedes, e29_1, w29_1, e29_3, w29_3, c29_4, c29_5]
  refine ifB (fun h4 => ?_) (fun h4 => ?_)
  · simp -implicitDefEqProofs (disch := omega) only [go_sem, Nat.reduceAdd, Nat.reduceMul, Nat.reduceSub, Nat.reduceBEq, Nat.reduceLeDiff, Nat.reduceLT, fn_transitref31_Supersedes, e29_1, w29_1, e29_3, w29_3, c29_4, c29_5]
    simp [superB, h1, h2, h3, h4]
  simp -implicitDefEqProofs (disch := omega) only [go_sem, Nat.reduceAdd, Nat.reduceMul, Nat.reduceSub, Nat.reduceBEq, Nat.reduceLeDiff, Nat.reduceLT, fn_transitref31_Supersedes, e29_1, w29_1, e29_3, w29_3, c29_4, c29_5]
  refine ifD (fun h5 => ?_) (fun h5 => ?_)
  · simp -implicitDefEqProofs (disch := omega) only [go_sem, Nat.reduceAdd, Nat.reduceMul, Nat.reduceSub, Nat.reduceBEq, Nat.reduceLeDiff, Nat.reduceLT, fn_transitref31_Supersedes, e29_1, w29_1, e29_3, w29_3, c29_4, c29_5]
    have h4' := h4
    rw [h5] at h4'
    simp [superB, h1, h2, h3, h4', h5]
  · simp -implicitDefEqProofs (disch := omega) only [go_sem, Nat.reduceAdd, Nat.reduceMul, Nat.reduceSub, Nat.reduceBEq, Nat.reduceLeDiff, Nat.reduceLT, fn_transitref31_Supersedes, e29_1, w29_1, e29_3, w29_3, c29_4, c29_5]
    simp [superB, h1, h2, h3, h4, h5]

/-- The order of the active messages. -/
def beforeM (a b : Msg) : Bool :=
  if a.trip ≠ b.trip then Op.bytesLess a.trip b.trip else if a.day ≠ b.day then decide (a.day < b.day) else if a.inst ≠ b.inst then decide (a.inst < b.inst) else decide (a.seq < b.seq)
theorem bin_str_lss (a b : List UInt8) : binV .lss .none (.str a) (.str b) = some (.bool (Op.bytesLess a b)) := rfl
theorem inbox_before_ok (a b : Msg) : PCalls PR i_inbox_before [.agg a.row, .agg b.row] (fun v => v = .bool (beforeM a b)) := by
  refine acalls_pop fn_inbox_before_ok (by simp [fn_inbox_before]) ?_
  simp -implicitDefEqProofs (disch := omega) only [go_sem, Nat.reduceAdd, Nat.reduceMul, Nat.reduceSub, Nat.reduceBEq, Nat.reduceLeDiff, Nat.reduceLT, fn_inbox_before, e42_1, w42_1, e42_3, w42_3, c42_4, e42_6, w42_6, c42_7, e42_9, w42_9, c42_10, e42_12, w42_12, e42_14, w42_14, e42_16, w42_16, c42_17, e42_19, w42_19, c42_20, c42_21, c42_22, Msg.row]
  refine ifD (fun h1 => ?_) (fun h1 => ?_)
  rotate_left
  · simp -implicitDefEqProofs (disch := omega) only [go_sem, Nat.reduceAdd, Nat.reduceMul, Nat.reduceSub, Nat.reduceBEq, Nat.reduceLeDiff, Nat.reduceLT, fn_inbox_before, e42_1, w42_1, e42_3, w42_3, c42_4, e42_6, w42_6, c42_7, e42_9, w42_9, c42_10, e42_12, w42_12, e42_14, w42_14, e42_16, w42_16, c42_17, e42_19, w42_19, c42_20, c42_21, c42_22, bin_str_lss, beforeM]
    rw [if_pos h1]
  simp -implicitDefEqProofs (disch := omega) only [go_sem, Nat.reduceAdd, Nat.reduceMul, Nat.reduceSub, Nat.reduceBEq, Nat.reduceLeDiff, Nat.reduceLT, fn_inbox_before, e42_1, w42_1, e42_3, w42_3, c42_4, e42_6, w42_6, c42_7, e42_9, w42_9, c42_10, e42_12, w42_12, e42_14, w42_14, e42_16, w42_16, c42_17, e42_19, w42_19, c42_20, c42_21, c42_22]
  refine ifD (fun h2 => ?_) (fun h2 => ?_)
  rotate_left
  · simp -implicitDefEqProofs (disch := omega) only [go_sem, Nat.reduceAdd, Nat.reduceMul, Nat.reduceSub, Nat.reduceBEq, Nat.reduceLeDiff, Nat.reduceLT, fn_inbox_before, e42_1, w42_1, e42_3, w42_3, c42_4, e42_6, w42_6, c42_7, e42_9, w42_9, c42_10, e42_12, w42_12, e42_14, w42_14, e42_16, w42_16, c42_17, e42_19, w42_19, c42_20, c42_21, c42_22, beforeM]
    rw [if_neg (fun e => e h1), if_pos h2]
  simp -implicitDefEqProofs (disch := omega) only [go_sem, Nat.reduceAdd, Nat.reduceMul, Nat.reduceSub, Nat.reduceBEq, Nat.reduceLeDiff, Nat.reduceLT, fn_inbox_before, e42_1, w42_1, e42_3, w42_3, c42_4, e42_6, w42_6, c42_7, e42_9, w42_9, c42_10, e42_12, w42_12, e42_14, w42_14, e42_16, w42_16, c42_17, e42_19, w42_19, c42_20, c42_21, c42_22]
  refine ifD (fun h3 => ?_) (fun h3 => ?_)
  rotate_left
  · simp -implicitDefEqProofs (disch := omega) only [go_sem, Nat.reduceAdd, Nat.reduceMul, Nat.reduceSub, Nat.reduceBEq, Nat.reduceLeDiff, Nat.reduceLT, fn_inbox_before, e42_1, w42_1, e42_3, w42_3, c42_4, e42_6, w42_6, c42_7, e42_9, w42_9, c42_10, e42_12, w42_12, e42_14, w42_14, e42_16, w42_16, c42_17, e42_19, w42_19, c42_20, c42_21, c42_22, beforeM]
    rw [if_neg (fun e => e h1), if_neg (fun e => e h2), if_pos h3]
  simp -implicitDefEqProofs (disch := omega) only [go_sem, Nat.reduceAdd, Nat.reduceMul, Nat.reduceSub, Nat.reduceBEq, Nat.reduceLeDiff, Nat.reduceLT, fn_inbox_before, e42_1, w42_1, e42_3, w42_3, c42_4, e42_6, w42_6, c42_7, e42_9, w42_9, c42_10, e42_12, w42_12, e42_14, w42_14, e42_16, w42_16, c42_17, e42_19, w42_19, c42_20, c42_21, c42_22, beforeM]
  rw [if_neg (fun e => e h1), if_neg (fun e => e h2), if_neg (fun e => e h3)]
theorem transitref32_before_ok (a b : Msg) : PCalls PR i_transitref32_before [.agg a.row, .agg b.row] (fun v => v = .bool (beforeM a b)) := by
  refine acalls_pop fn_transitref32_before_ok (by simp [fn_transitref32_before]) ?_
  simp -implicitDefEqProofs (disch := omega) only [go_sem, Nat.reduceAdd, Nat.reduceMul, Nat.reduceSub, Nat.reduceBEq, Nat.reduceLeDiff, Nat.reduceLT, fn_transitref32_before, e59_1, w59_1, e59_3, w59_3, c59_4, e59_6, w59_6, e59_8, w59_8, c59_9, e59_11, w59_11, e59_13, w59_13, c59_14, e59_16, w59_16, e59_18, w59_18, c59_19, c59_20, c59_21, c59_22, c59_23, Msg.row]
  refine ifD (fun h1 => ?_) (fun h1 => ?_)
  rotate_left
  · simp -implicitDefEqProofs (disch := omega) only [go_sem, Nat.reduceAdd, Nat.reduceMul, Nat.reduceSub, Nat.reduceBEq, Nat.reduceLeDiff, Nat.reduceLT, fn_transitref32_before, e59_1, w59_1, e59_3, w59_3, c59_4, e59_6, w59_6, e59_8, w59_8, c59_9, e59_11, w59_11, e59_13, w59_13, c59_14, e59_16, w59_16, e59_18, w59_18, c59_19, c59_20, c59_21, c59_22, c59_23, bin_str_lss, beforeM]
    rw [if_pos h1]
  simp -implicitDefEqProofs (disch := omega) only [go_sem, Nat.reduceAdd, Nat.reduceMul, Nat.reduceSub, Nat.reduceBEq, Nat.reduceLeDiff, Nat.reduceLT, fn_transitref32_before, e59_1, w59_1, e59_3, w59_3, c59_4, e59_6, w59_6, e59_8, w59_8, c59_9, e59_11, w59_11, e59_13, w59_13, c59_14, e59_16, w59_16, e59_18, w59_18, c59_19, c59_20, c59_21, c59_22, c59_23]
  refine ifD (fun h2 => ?_) (fun h2 => ?_)
  rotate_left
  · simp -implicitDefEqProofs (disch := omega) only [go_sem, Nat.reduceAdd, Nat.reduceMul, Nat.reduceSub, Nat.reduceBEq, Nat.reduceLeDiff, Nat.reduceLT, fn_transitref32_before, e59_1, w59_1, e59_3, w59_3, c59_4, e59_6, w59_6, e59_8, w59_8, c59_9, e59_11, w59_11, e59_13, w59_13, c59_14, e59_16, w59_16, e59_18, w59_18, c59_19, c59_20, c59_21, c59_22, c59_23, beforeM]
    rw [if_neg (fun e => e h1), if_pos h2]
  simp -implicitDefEqProofs (disch := omega) only [go_sem, Nat.reduceAdd, Nat.reduceMul, Nat.reduceSub, Nat.reduceBEq, Nat.reduceLeDiff, Nat.reduceLT, fn_transitref32_before, e59_1, w59_1, e59_3, w59_3, c59_4, e59_6, w59_6, e59_8, w59_8, c59_9, e59_11, w59_11, e59_13, w59_13, c59_14, e59_16, w59_16, e59_18, w59_18, c59_19, c59_20, c59_21, c59_22, c59_23]
  refine ifD (fun h3 => ?_) (fun h3 => ?_)
  rotate_left
  · simp -implicitDefEqProofs (disch := omega) only [go_sem, Nat.reduceAdd, Nat.reduceMul, Nat.reduceSub, Nat.reduceBEq, Nat.reduceLeDiff, Nat.reduceLT, fn_transitref32_before, e59_1, w59_1, e59_3, w59_3, c59_4, e59_6, w59_6, e59_8, w59_8, c59_9, e59_11, w59_11, e59_13, w59_13, c59_14, e59_16, w59_16, e59_18, w59_18, c59_19, c59_20, c59_21, c59_22, c59_23, beforeM]
    rw [if_neg (fun e => e h1), if_neg (fun e => e h2), if_pos h3]
  simp -implicitDefEqProofs (disch := omega) only [go_sem, Nat.reduceAdd, Nat.reduceMul, Nat.reduceSub, Nat.reduceBEq, Nat.reduceLeDiff, Nat.reduceLT, fn_transitref32_before, e59_1, w59_1, e59_3, w59_3, c59_4, e59_6, w59_6, e59_8, w59_8, c59_9, e59_11, w59_11, e59_13, w59_13, c59_14, e59_16, w59_16, e59_18, w59_18, c59_19, c59_20, c59_21, c59_22, c59_23, beforeM]
  rw [if_neg (fun e => e h1), if_neg (fun e => e h2), if_neg (fun e => e h3)]

mutual
theorem under_mono {n m : Nat} (h : n ≤ m) : ∀ v : V, v.under n = true → v.under m = true
  | .ptr _ _, hv => by simp only [V.under, decide_eq_true_eq] at hv ⊢; omega
  | .eptr _ _ _ _, hv => by simp only [V.under, decide_eq_true_eq] at hv ⊢; omega
  | .mslice _ _ _ _, hv => by simp only [V.under, decide_eq_true_eq] at hv ⊢; omega
  | .map _, hv => by simp only [V.under, decide_eq_true_eq] at hv ⊢; omega
  | .fn _ caps, hv => by simp only [V.under] at hv ⊢; exact underL_mono h caps hv
  | .agg cells, hv => by simp only [V.under] at hv ⊢; exact underL_mono h cells hv
  | .tuple vs, hv => by simp only [V.under] at hv ⊢; exact underL_mono h vs hv
  | .undef, _ => rfl
  | .bool _, _ => rfl
  | .int _ _, _ => rfl
  | .str _, _ => rfl
  | .nilp, _ => rfl
  | .nilf, _ => rfl
  | .nilm, _ => rfl
  | .slice _ _, _ => rfl
  | .rref _, _ => rfl
  | .pfn _ _, _ => rfl
theorem underL_mono {n m : Nat} (h : n ≤ m) : ∀ vs : List V, underL n vs = true → underL m vs = true
  | [], _ => rfl
  | v :: vs, hv => by
    simp only [underL, Bool.and_eq_true] at hv ⊢
    exact ⟨under_mono h v hv.1, underL_mono h vs hv.2⟩
end
theorem memUnder_mono {n m : Nat} (h : n ≤ m) : ∀ M : Mem, memUnder n M = true → memUnder m M = true
  | [], _ => rfl
  | B :: M, hv => by
    simp only [memUnder, Bool.and_eq_true] at hv ⊢
    refine ⟨?_, memUnder_mono h M hv.2⟩
    cases B with
    | box cells => exact underL_mono h cells hv.1
    | arr _ _ _ _ => rfl
    | map _ => rfl
theorem memUnder_app (n : Nat) : ∀ M L : Mem, memUnder n (M ++ L) = (memUnder n M && memUnder n L)
  | [], L => by simp [memUnder]
  | B :: M, L => by simp [memUnder, memUnder_app n M L, Bool.and_assoc]

/-- A memory that leads only to itself. -/
def Own (M : Mem) : Prop := memUnder M.length M = true
theorem Own.app {M L : Mem} (h : Own M) (hL : memUnder (M.length + L.length) L = true) : Own (M ++ L) := by
  unfold Own at *
  rw [memUnder_app, List.length_append, memUnder_mono (Nat.le_add_right _ _) M h, hL]; rfl

theorem get_at {α : Type} (M L : List α) (i : Nat) : (M ++ L)[M.length + i]? = L[i]? := by
  rw [List.getElem?_append_right (by omega), Nat.add_sub_cancel_left]
theorem get_at0 {α : Type} (M L : List α) : (M ++ L)[M.length]? = L[0]? := by
  rw [List.getElem?_append_right (by omega), Nat.sub_self]
theorem set_at {α : Type} (M L : List α) (i : Nat) (x : α) : (M ++ L).set (M.length + i) x = M ++ L.set i x := by
  rw [List.set_append, if_neg (by omega), Nat.add_sub_cancel_left]
theorem set_at0 {α : Type} (M L : List α) (x : α) : (M ++ L).set M.length x = M ++ L.set 0 x := by
  rw [List.set_append, if_neg (by omega), Nat.sub_self]

/-! ### Lists of messages in memory -/
def Msg.own (m : Msg) : Msg := { m with tag := .unk }
theorem Msg.row_len (m : Msg) : m.row.length = 13 := rfl
theorem headLen_msg (l : List Msg) : headLen 13 (l.map Msg.row) = true := headLen_map (f := Msg.row) (n := 13) (fun _ => rfl) l
/-- A value that shows a list of messages. -/
def KV (M : Mem) (lv : V) (l : List Msg) : Prop := (∃ c, lv = .slice (l.map Msg.row) c) ∨ ∃ kid ver, lv = .mslice kid ver 0 l.length ∧ M[kid]? = some (.arr 13 (l.map Msg.row) ver 0)
theorem mget {M : Mem} {i : Nat} {b : Blk} (h : M[i]? = some b) (L : Mem) : (M ++ L)[i]? = some b := by
  rw [List.getElem?_append_left (List.getElem?_eq_some_iff.1 h).1, h]
theorem mlast (M : Mem) (b : Blk) (L : Mem) : (M ++ b :: L)[M.length]? = some b := by simp
theorem mset (M : Mem) (b x : Blk) (L : Mem) : (M ++ b :: L).set M.length x = M ++ x :: L := by simp
theorem KV.app {M : Mem} {lv : V} {l : List Msg} (h : KV M lv l) (L : Mem) : KV (M ++ L) lv l := by
  rcases h with ⟨c, rfl⟩ | ⟨kid, ver, rfl, h⟩
  · exact .inl ⟨c, rfl⟩
  · exact .inr ⟨kid, ver, rfl, mget h L⟩
theorem KV.under {M : Mem} {lv : V} {l : List Msg} (h : KV M lv l) : lv.under M.length = true := by
  rcases h with ⟨c, rfl⟩ | ⟨kid, ver, rfl, h⟩
  · rfl
  · have := (List.getElem?_eq_some_iff.1 h).1
    simp [V.under, this]
theorem KV.len {M : Mem} {lv : V} {l : List Msg} (h : KV M lv l) : lenV lv M = some (.int .i64 l.length) := by
  rcases h with ⟨c, rfl⟩ | ⟨kid, ver, rfl, h⟩
  · simp [lenV]
  · simp [lenV, h]
theorem KV.at {M : Mem} {lv : V} {l : List Msg} (h : KV M lv l) {i : Nat} {m : Msg} (hm : l[i]? = some m) : ∃ a, indexSlV 13 lv (.int .i64 (i : Int)) M = some a ∧ loadV 13 true a M = some (.agg m.row) := by
  have hi := (List.getElem?_eq_some_iff.1 hm).1
  have e : (l.map Msg.row)[i]? = some m.row := by rw [List.getElem?_map, hm]; rfl
  have a1 : decide (0 ≤ (i : Int)) = true := decide_eq_true (by omega)
  rcases h with ⟨c, rfl⟩ | ⟨kid, ver, rfl, h⟩
  · refine ⟨.rref m.row, ?_, ?_⟩
    · simp only [indexSlV, a1, cond_true, Int.toNat_natCast, e]
      rfl
    · simp [loadV, loadC, Msg.row]
  · refine ⟨.eptr kid ver i 0, ?_, ?_⟩
    · simp only [indexSlV, a1, cond_true, Int.toNat_natCast, h]
      simp [hi]
    · simp only [loadV, h, e, beq_self_eq_true, cond_true]
      simp [loadC, Msg.row]
theorem take2 (M : Mem) (A B : Blk) : (M ++ [A, B]).take (M.length + 1) = M ++ [A] := by
  rw [show M ++ [A, B] = (M ++ [A]) ++ [B] from by simp, show M.length + 1 = (M ++ [A]).length from by simp]
  exact List.take_left
theorem len1 (M : Mem) (A : Blk) : (M ++ [A]).length = M.length + 1 := by simp
theorem own_mem {M : Mem} (h : memUnder M.length M = true) (L : Mem) (hL : memUnder (M.length + L.length) L = true) : memUnder (M ++ L).length (M ++ L) = true := by
  rw [memUnder_app, List.length_append, memUnder_mono (Nat.le_add_right _ _) M h, hL]; rfl
theorem popOK_of {n : Nat} {vs : List V} {M : Mem} (h1 : n ≤ M.length) (h2 : underL n vs = true) (h3 : memUnder n (M.take n) = true) : popOK n vs M = true := by simp [popOK, h1, h2, h3]

theorem inbox_owned_ok (m : Msg) (hc : m.calls.length ≤ 1000) : PCalls PR i_inbox_owned [.agg m.row] (fun v => v = .agg m.own.row) := by
  refine acalls_pop fn_inbox_owned_ok (by simp [fn_inbox_owned]) ?_
  have hh : headLen 5 (m.calls.map Stay.row) = true := headLen_map (f := Stay.row) (n := 5) (fun _ => rfl) m.calls
  simp -implicitDefEqProofs (disch := omega) only [go_sem, Nat.reduceAdd, Nat.reduceMul, Nat.reduceSub, Nat.reduceBEq, Nat.reduceLeDiff, Nat.reduceLT, fn_inbox_owned, e36_1, w36_1, e36_3, w36_3, e36_5, w36_5, e36_7, w36_7, c36_8, c36_9, c36_10, c36_11, Msg.row, hh, Msg.own, Bool.true_or]

/-- The messages that a condition keeps. -/
def keepM (p : Msg → Bool) (l : List Msg) : List Msg := (l.filter p).map Msg.own
theorem keepM_snoc (p : Msg → Bool) {l : List Msg} {i : Nat} {m : Msg} (h : l[i]? = some m) : keepM p (l.take (i + 1)) = if p m = true then keepM p (l.take i) ++ [m.own] else keepM p (l.take i) := by
  rw [keepM, List.take_add_one, h]
  cases hp : p m <;> simp [keepM, hp, List.filter_append]
theorem keepM_len (p : Msg → Bool) (l : List Msg) : (keepM p l).length ≤ l.length := by
  rw [keepM, List.length_map]; exact List.length_filter_le _ _
theorem own_row (m : Msg) : m.own.row = [.int .i64 m.src, .int .i64 m.seq, .int .i64 m.iss, .int .i64 m.exp, .int .i64 m.kind, .str m.trip, .int .i64 m.day, .int .i64 m.inst, .int .i64 m.callNo, .int .i64 m.secs, .int .i64 m.route, .bool m.free, .slice (m.calls.map Stay.row) .unk] := rfl

theorem filtered_ok {M : Mem} (hU : memUnder M.length M = true) {lv : V} {l : List Msg} (hK : KV M lv l) (hlen : l.length ≤ 1000) (hcalls : ∀ m ∈ l, m.calls.length ≤ 1000) {fv : V} {f : Nat} {caps : List V} (hf : fv = .fn f caps ∨ fv = .pfn f caps) (hfu : fv.under M.length = true) (p : Msg → Bool)
    (hp : ∀ m ∈ l, ∀ L, memUnder (M ++ L).length (M ++ L) = true → ACalls PR f (V.agg m.row :: caps) (M ++ L) (fun v N => v = .bool (p m) ∧ N = M ++ L)) :
    ACalls PR i_inbox_filtered [lv, fv] M (fun v N => ∃ ver, v = .mslice M.length ver 0 (keepM p l).length ∧ N = M ++ [.arr 13 ((keepM p l).map Msg.row) ver 0]) := by
  refine acalls_keep fn_inbox_filtered_ok (by simp [fn_inbox_filtered]) ?_
  simp only [wpKeep]
  have hlv : ∀ L, lenV lv (M ++ L) = some (.int .i64 l.length) := fun L => (hK.app L).len
  simp -implicitDefEqProofs (disch := omega) only [go_sem, Nat.reduceAdd, Nat.reduceMul, Nat.reduceSub, Nat.reduceBEq, Nat.reduceLeDiff, Nat.reduceLT, fn_inbox_filtered, e33_1, w33_1, e33_3, w33_3, e33_5, w33_5, e33_7, w33_7, c33_8, e33_10, w33_10, e33_12, w33_12, e33_14, w33_14, c33_15, c33_16, e33_18, w33_18, c33_19, c33_20, c33_21, c33_22, c33_23, c33_24, e33_26, w33_26, c33_27, c33_28, c33_29, c33_30, hlv]
  refine wpC_forL l (fun i vs N => ∃ ver, vs = [fv, .mslice M.length ver 0 (keepM p (l.take i)).length, lv, .int .i64 l.length, .int .i64 i] ∧ N = M ++ [.arr 13 ((keepM p (l.take i)).map Msg.row) ver 0]) ⟨0, rfl, rfl⟩ ?_ ?_
  rotate_left
  · rintro vs N ⟨ver, rfl, rfl⟩
    simp -implicitDefEqProofs (disch := omega) only [go_sem, Nat.reduceAdd, Nat.reduceMul, Nat.reduceSub, Nat.reduceBEq, Nat.reduceLeDiff, Nat.reduceLT, fn_inbox_filtered, e33_1, w33_1, e33_3, w33_3, e33_5, w33_5, e33_7, w33_7, c33_8, e33_10, w33_10, e33_12, w33_12, e33_14, w33_14, c33_15, c33_16, e33_18, w33_18, c33_19, c33_20, c33_21, c33_22, c33_23, c33_24, e33_26, w33_26, c33_27, c33_28, c33_29, c33_30, dec_irrefl, List.take_length]
    exact ⟨ver, rfl, rfl⟩
  rintro i m vs N hm hi hd ⟨ver, rfl, rfl⟩
  have hmem := List.mem_of_getElem? hm
  have hkl := keepM_len p (l.take i)
  have hkl2 : (keepM p (l.take i)).length ≤ 1000 := by simp at hkl; omega
  generalize hA : (Blk.arr 13 ((keepM p (l.take i)).map Msg.row) ver 0) = A at *
  have hAu : ∀ n, A.under n = true := fun n => by rw [← hA]; rfl
  obtain ⟨a, ha1, ha2⟩ := (hK.app [A]).at hm
  have hown : memUnder (M ++ [A, .box m.row]).length (M ++ [A, .box m.row]) = true := own_mem hU _ (by
    simp only [memUnder, hAu]; rfl)
  have hpop : ∀ A' : Blk, (∀ n, A'.under n = true) → ∀ vs, underL (M.length + 1) vs = true → popOK (M.length + 1) vs (M ++ [A', .box m.row]) = true := fun A' hA' vs hvs => by
    have htk := take2 M A' (.box m.row)
    refine popOK_of (by simp) hvs ?_
    rw [htk, memUnder_app, memUnder_mono (Nat.le_succ _) M hU]
    simp only [memUnder, hA']; rfl
  have hfu1 := under_mono (Nat.le_succ M.length) fv hfu
  have hlu1 := under_mono (Nat.le_succ M.length) lv hK.under
  have hcall : ∀ {K : V → Mem → Prop}, K (.bool (p m)) (M ++ [A, .box m.row]) → @CallV PR false fv [.agg m.row] (M ++ [A, .box m.row]) ⟨K⟩ := fun {K} hk => by
    rcases hf with rfl | rfl
    · rw [CallV_fn]
      refine callA (hp m hmem _ hown) ?_
      rintro v N ⟨rfl, rfl⟩
      exact hk
    · rw [CallV_pfn]
      refine callA (hp m hmem _ hown) ?_
      rintro v N ⟨rfl, rfl⟩
      exact hk
  have howned := inbox_owned_ok m (hcalls m hmem)
  simp only [Msg.row] at ha2 hcall howned hown hpop
  simp -implicitDefEqProofs (disch := omega) only [go_sem, Nat.reduceAdd, Nat.reduceMul, Nat.reduceSub, Nat.reduceBEq, Nat.reduceLeDiff, Nat.reduceLT, fn_inbox_filtered, e33_1, w33_1, e33_3, w33_3, e33_5, w33_5, e33_7, w33_7, c33_8, e33_10, w33_10, e33_12, w33_12, e33_14, w33_14, c33_15, c33_16, e33_18, w33_18, c33_19, c33_20, c33_21, c33_22, c33_23, c33_24, e33_26, w33_26, c33_27, c33_28, c33_29, c33_30, hd, ha1, ha2, List.append_assoc, get_at, get_at0, set_at, len1]
  refine hcall ?_
  simp -implicitDefEqProofs (disch := omega) only [go_sem, Nat.reduceAdd, Nat.reduceMul, Nat.reduceSub, Nat.reduceBEq, Nat.reduceLeDiff, Nat.reduceLT, fn_inbox_filtered, e33_1, w33_1, e33_3, w33_3, e33_5, w33_5, e33_7, w33_7, c33_8, e33_10, w33_10, e33_12, w33_12, e33_14, w33_14, c33_15, c33_16, e33_18, w33_18, c33_19, c33_20, c33_21, c33_22, c33_23, c33_24, e33_26, w33_26, c33_27, c33_28, c33_29, c33_30]
  refine ifB (fun h => ?_) (fun h => ?_)
  · simp -implicitDefEqProofs (disch := omega) only [go_sem, Nat.reduceAdd, Nat.reduceMul, Nat.reduceSub, Nat.reduceBEq, Nat.reduceLeDiff, Nat.reduceLT, fn_inbox_filtered, e33_1, w33_1, e33_3, w33_3, e33_5, w33_5, e33_7, w33_7, c33_8, e33_10, w33_10, e33_12, w33_12, e33_14, w33_14, c33_15, c33_16, e33_18, w33_18, c33_19, c33_20, c33_21, c33_22, c33_23, c33_24, e33_26, w33_26, c33_27, c33_28, c33_29, c33_30, get_at, get_at0]
    first | refine callD (howned) ?_ | refine callQD (howned) ?_
    subst hA
    have e : (keepM p (l.take i)).map Msg.row ++ [m.own.row] = (keepM p (l.take (i + 1))).map Msg.row := by rw [keepM_snoc p hm, if_pos h]; simp
    have e2 : (keepM p (l.take i)).length + 1 = (keepM p (l.take (i + 1))).length := by rw [keepM_snoc p hm, if_pos h]; simp
    simp -implicitDefEqProofs (disch := omega) only [go_sem, Nat.reduceAdd, Nat.reduceMul, Nat.reduceSub, Nat.reduceBEq, Nat.reduceLeDiff, Nat.reduceLT, fn_inbox_filtered, e33_1, w33_1, e33_3, w33_3, e33_5, w33_5, e33_7, w33_7, c33_8, e33_10, w33_10, e33_12, w33_12, e33_14, w33_14, c33_15, c33_16, e33_18, w33_18, c33_19, c33_20, c33_21, c33_22, c33_23, c33_24, e33_26, w33_26, c33_27, c33_28, c33_29, c33_30, own_row, get_at0, mset, e2]
    simp only [Msg.row] at e
    rw [e]
    refine next_pop hi (hpop _ (fun _ => rfl) _ ?_) ⟨ver + 1, rfl, ?_⟩
    · simp [vals, sget, underL, hfu1, hlu1, V.under]
    · rw [take2]
  · simp -implicitDefEqProofs (disch := omega) only [go_sem, Nat.reduceAdd, Nat.reduceMul, Nat.reduceSub, Nat.reduceBEq, Nat.reduceLeDiff, Nat.reduceLT, fn_inbox_filtered, e33_1, w33_1, e33_3, w33_3, e33_5, w33_5, e33_7, w33_7, c33_8, e33_10, w33_10, e33_12, w33_12, e33_14, w33_14, c33_15, c33_16, e33_18, w33_18, c33_19, c33_20, c33_21, c33_22, c33_23, c33_24, e33_26, w33_26, c33_27, c33_28, c33_29, c33_30]
    have e : keepM p (l.take (i + 1)) = keepM p (l.take i) := by rw [keepM_snoc p hm, if_neg (by simp [h])]
    refine next_pop hi (hpop _ hAu _ ?_) ⟨ver, by rw [e]; rfl, ?_⟩
    · simp [vals, sget, underL, hfu1, hlu1, V.under]
    · rw [e, hA, take2]

end Go.Vm.C

