/- Contracts: numbers, fares and identifiers. -/
import Derived.Test.YtmpjekmfphppbaaDoorT2

namespace Go.Vm.C
open Go.Vm
set_option maxHeartbeats 1000000
set_option maxRecDepth 10000
set_option linter.unusedSimpArgs false
set_option linter.unusedVariables false

/-! ### The fares' small functions -/
theorem fare_within_ok (a b d : Int) (ha : I64 a) (hb : I64 b) (hd : I64 d) (h0 : 0 ≤ d) : PCalls PR i_fare_within [.int .i64 a, .int .i64 b, .int .i64 d] (fun v => v = .bool (decide (b - a ≤ d))) := by
  obtain ⟨a1, a2⟩ := ha
  obtain ⟨b1, b2⟩ := hb
  obtain ⟨d1, d2⟩ := hd
  refine acalls_pop fn_fare_within_ok (by simp [fn_fare_within]) ?_
  simp -implicitDefEqProofs (disch := omega) only [go_sem, Nat.reduceAdd, Nat.reduceMul, Nat.reduceSub, Nat.reduceBEq, Nat.reduceLeDiff, Nat.reduceLT, fn_fare_within, e38_1, w38_1, e38_3, w38_3, c38_4, c38_5, open_if]
  repeat' (refine BIf_dec (fun h => ?_) (fun h => ?_))
  all_goals
    rw [Bool.eq_iff_iff]
    simp only [decide_eq_true_eq, u64_wrap, i64_wrap, true_iff, false_iff, Bool.false_eq_true]
    omega

/-- The fare of a sum. -/
def capped (f : Fares) (s : Int) : Int := if 0 < f.limit ∧ f.limit < s then f.limit else s

theorem fare_capped_ok (f : Fares) (s : Int) : PCalls PR i_fare_capped [.agg f.row, .int .i64 s] (fun v => v = .int .i64 (capped f s)) := by
  refine acalls_pop fn_fare_capped_ok (by simp [fn_fare_capped]) ?_
  simp -implicitDefEqProofs (disch := omega) only [go_sem, Nat.reduceAdd, Nat.reduceMul, Nat.reduceSub, Nat.reduceBEq, Nat.reduceLeDiff, Nat.reduceLT, fn_fare_capped, e18_1, w18_1, e18_3, w18_3, c18_4, e18_6, w18_6, e18_8, w18_8, c18_9, c18_10, c18_11, Fares.row]
  refine ifD (fun h => ?_) (fun h => ?_)
  · simp -implicitDefEqProofs (disch := omega) only [go_sem, Nat.reduceAdd, Nat.reduceMul, Nat.reduceSub, Nat.reduceBEq, Nat.reduceLeDiff, Nat.reduceLT, fn_fare_capped, e18_1, w18_1, e18_3, w18_3, c18_4, e18_6, w18_6, e18_8, w18_8, c18_9, c18_10, c18_11, Fares.row]
    refine ifD (fun h2 => ?_) (fun h2 => ?_)
    · simp -implicitDefEqProofs (disch := omega) only [go_sem, Nat.reduceAdd, Nat.reduceMul, Nat.reduceSub, Nat.reduceBEq, Nat.reduceLeDiff, Nat.reduceLT, fn_fare_capped, e18_1, w18_1, e18_3, w18_3, c18_4, e18_6, w18_6, e18_8, w18_8, c18_9, c18_10, c18_11, Fares.row, capped]
      rw [if_pos ⟨h, h2⟩]
    · simp -implicitDefEqProofs (disch := omega) only [go_sem, Nat.reduceAdd, Nat.reduceMul, Nat.reduceSub, Nat.reduceBEq, Nat.reduceLeDiff, Nat.reduceLT, fn_fare_capped, e18_1, w18_1, e18_3, w18_3, c18_4, e18_6, w18_6, e18_8, w18_8, c18_9, c18_10, c18_11, Fares.row, capped]
      rw [if_neg (fun e => h2 e.2)]
  · simp -implicitDefEqProofs (disch := omega) only [go_sem, Nat.reduceAdd, Nat.reduceMul, Nat.reduceSub, Nat.reduceBEq, Nat.reduceLeDiff, Nat.reduceLT, fn_fare_capped, e18_1, w18_1, e18_3, w18_3, c18_4, e18_6, w18_6, e18_8, w18_8, c18_9, c18_10, c18_11, Fares.row, capped]
    rw [if_neg (fun e => h e.1)]

theorem fare_validPrice_ok (n : Int) : PCalls PR i_fare_validPrice [.int .i64 n] (fun v => v = .bool (within n 0 1000000)) := by
  refine acalls_pop fn_fare_validPrice_ok (by simp [fn_fare_validPrice]) ?_
  simp -implicitDefEqProofs (disch := omega) only [go_sem, Nat.reduceAdd, Nat.reduceMul, Nat.reduceSub, Nat.reduceBEq, Nat.reduceLeDiff, Nat.reduceLT, fn_fare_validPrice, e11_1, w11_1, e11_3, w11_3, c11_4, c11_5]
  refine ifD (fun h => ?_) (fun h => ?_)
  · simp -implicitDefEqProofs (disch := omega) only [go_sem, Nat.reduceAdd, Nat.reduceMul, Nat.reduceSub, Nat.reduceBEq, Nat.reduceLeDiff, Nat.reduceLT, fn_fare_validPrice, e11_1, w11_1, e11_3, w11_3, c11_4, c11_5, within, h]
  · simp -implicitDefEqProofs (disch := omega) only [go_sem, Nat.reduceAdd, Nat.reduceMul, Nat.reduceSub, Nat.reduceBEq, Nat.reduceLeDiff, Nat.reduceLT, fn_fare_validPrice, e11_1, w11_1, e11_3, w11_3, c11_4, c11_5, within, h]

theorem transitref26_in_ok (n low high : Int) : PCalls PR i_transitref26_in [.int .i64 n, .int .i64 low, .int .i64 high] (fun v => v = .bool (within n low high)) := by
  refine acalls_pop fn_transitref26_in_ok (by simp [fn_transitref26_in]) ?_
  simp -implicitDefEqProofs (disch := omega) only [go_sem, Nat.reduceAdd, Nat.reduceMul, Nat.reduceSub, Nat.reduceBEq, Nat.reduceLeDiff, Nat.reduceLT, fn_transitref26_in, e31_1, w31_1, e31_3, w31_3, c31_4, c31_5]
  refine ifD (fun h => ?_) (fun h => ?_)
  · simp -implicitDefEqProofs (disch := omega) only [go_sem, Nat.reduceAdd, Nat.reduceMul, Nat.reduceSub, Nat.reduceBEq, Nat.reduceLeDiff, Nat.reduceLT, fn_transitref26_in, e31_1, w31_1, e31_3, w31_3, c31_4, c31_5, within, h]
  · simp -implicitDefEqProofs (disch := omega) only [go_sem, Nat.reduceAdd, Nat.reduceMul, Nat.reduceSub, Nat.reduceBEq, Nat.reduceLeDiff, Nat.reduceLT, fn_transitref26_in, e31_1, w31_1, e31_3, w31_3, c31_4, c31_5, within, h]

theorem transitref26_ValidID_ok (s : List UInt8) (hs : s.length ≤ maxLen) : PCalls PR i_transitref26_ValidID [.str s] (fun v => v = .bool (okName s)) := by
  have hm : maxLen = 9223372036854775807 := by rfl
  refine acalls_pop fn_transitref26_ValidID_ok (by simp [fn_transitref26_ValidID]) ?_
  simp -implicitDefEqProofs (disch := omega) only [go_sem, Nat.reduceAdd, Nat.reduceMul, Nat.reduceSub, Nat.reduceBEq, Nat.reduceLeDiff, Nat.reduceLT, fn_transitref26_ValidID, e32_1, w32_1, e32_3, w32_3, c32_4, e32_6, w32_6, e32_8, w32_8, e32_10, w32_10, e32_12, w32_12, e32_14, w32_14, e32_16, w32_16, c32_17, e32_19, w32_19, c32_20, c32_21, c32_22, e32_24, w32_24, c32_25, c32_26, c32_27, c32_28, c32_29, e32_31, w32_31, c32_32, c32_33, c32_34, c32_35]
  refine ifD (fun h => ?_) (fun h1 => ?_)
  · have : okName s = false := by
      have : ¬ 0 < s.length := by omega
      simp [okName, this]
    simp -implicitDefEqProofs (disch := omega) only [go_sem, Nat.reduceAdd, Nat.reduceMul, Nat.reduceSub, Nat.reduceBEq, Nat.reduceLeDiff, Nat.reduceLT, fn_transitref26_ValidID, e32_1, w32_1, e32_3, w32_3, c32_4, e32_6, w32_6, e32_8, w32_8, e32_10, w32_10, e32_12, w32_12, e32_14, w32_14, e32_16, w32_16, c32_17, e32_19, w32_19, c32_20, c32_21, c32_22, e32_24, w32_24, c32_25, c32_26, c32_27, c32_28, c32_29, e32_31, w32_31, c32_32, c32_33, c32_34, c32_35, this]
  simp -implicitDefEqProofs (disch := omega) only [go_sem, Nat.reduceAdd, Nat.reduceMul, Nat.reduceSub, Nat.reduceBEq, Nat.reduceLeDiff, Nat.reduceLT, fn_transitref26_ValidID, e32_1, w32_1, e32_3, w32_3, c32_4, e32_6, w32_6, e32_8, w32_8, e32_10, w32_10, e32_12, w32_12, e32_14, w32_14, e32_16, w32_16, c32_17, e32_19, w32_19, c32_20, c32_21, c32_22, e32_24, w32_24, c32_25, c32_26, c32_27, c32_28, c32_29, e32_31, w32_31, c32_32, c32_33, c32_34, c32_35]
  refine ifD (fun h => ?_) (fun h2 => ?_)
  · have : okName s = false := by
      have : ¬ s.length ≤ 32 := by omega
      simp [okName, this]
    simp -implicitDefEqProofs (disch := omega) only [go_sem, Nat.reduceAdd, Nat.reduceMul, Nat.reduceSub, Nat.reduceBEq, Nat.reduceLeDiff, Nat.reduceLT, fn_transitref26_ValidID, e32_1, w32_1, e32_3, w32_3, c32_4, e32_6, w32_6, e32_8, w32_8, e32_10, w32_10, e32_12, w32_12, e32_14, w32_14, e32_16, w32_16, c32_17, e32_19, w32_19, c32_20, c32_21, c32_22, e32_24, w32_24, c32_25, c32_26, c32_27, c32_28, c32_29, e32_31, w32_31, c32_32, c32_33, c32_34, c32_35, this]
  simp -implicitDefEqProofs (disch := omega) only [go_sem, Nat.reduceAdd, Nat.reduceMul, Nat.reduceSub, Nat.reduceBEq, Nat.reduceLeDiff, Nat.reduceLT, fn_transitref26_ValidID, e32_1, w32_1, e32_3, w32_3, c32_4, e32_6, w32_6, e32_8, w32_8, e32_10, w32_10, e32_12, w32_12, e32_14, w32_14, e32_16, w32_16, c32_17, e32_19, w32_19, c32_20, c32_21, c32_22, e32_24, w32_24, c32_25, c32_26, c32_27, c32_28, c32_29, e32_31, w32_31, c32_32, c32_33, c32_34, c32_35]
  refine wpC_forL s (fun i vs M => (s.take i).all okChar = true ∧ vs = [.str s, .int .i64 i] ∧ M = []) ⟨by simp, rfl, rfl⟩ ?_ ?_
  · rintro i c vs M hc hi hd ⟨hall, rfl, rfl⟩
    simp -implicitDefEqProofs (disch := omega) only [go_sem, Nat.reduceAdd, Nat.reduceMul, Nat.reduceSub, Nat.reduceBEq, Nat.reduceLeDiff, Nat.reduceLT, fn_transitref26_ValidID, e32_1, w32_1, e32_3, w32_3, c32_4, e32_6, w32_6, e32_8, w32_8, e32_10, w32_10, e32_12, w32_12, e32_14, w32_14, e32_16, w32_16, c32_17, e32_19, w32_19, c32_20, c32_21, c32_22, e32_24, w32_24, c32_25, c32_26, c32_27, c32_28, c32_29, e32_31, w32_31, c32_32, c32_33, c32_34, c32_35, open_if, hd, hc]
    repeat' (refine BIf_dec (fun h => ?_) (fun h => ?_))
    all_goals first
      | (refine next_stay hi ⟨?_, rfl, rfl⟩
         rw [all_take_succ hc, hall, (okChar_iff c).2 (by omega)]; rfl)
      | (rw [okName_false hc (okChar_false c (by omega))])
  · rintro vs M ⟨hall, rfl, rfl⟩
    rw [List.take_length] at hall
    simp -implicitDefEqProofs (disch := omega) only [go_sem, Nat.reduceAdd, Nat.reduceMul, Nat.reduceSub, Nat.reduceBEq, Nat.reduceLeDiff, Nat.reduceLT, fn_transitref26_ValidID, e32_1, w32_1, e32_3, w32_3, c32_4, e32_6, w32_6, e32_8, w32_8, e32_10, w32_10, e32_12, w32_12, e32_14, w32_14, e32_16, w32_16, c32_17, e32_19, w32_19, c32_20, c32_21, c32_22, e32_24, w32_24, c32_25, c32_26, c32_27, c32_28, c32_29, e32_31, w32_31, c32_32, c32_33, c32_34, c32_35, dec_irrefl]
    have h3 : 0 < s.length := by omega
    have h4 : s.length ≤ 32 := by omega
    simp [okName, hall, h3, h4]

theorem transitref26_Fares_ok (f : Fares) (hf : f.wf) : PCalls PR i_transitref26_Fares [.agg f.row] (fun v => v = pairV (checkRes f)) := by
  refine acalls_pop fn_transitref26_Fares_ok (by simp [fn_transitref26_Fares]) ?_
  simp -implicitDefEqProofs (disch := omega) only [go_sem, Nat.reduceAdd, Nat.reduceMul, Nat.reduceSub, Nat.reduceBEq, Nat.reduceLeDiff, Nat.reduceLT, fn_transitref26_Fares, e22_1, w22_1, e22_3, w22_3, c22_4, e22_6, w22_6, e22_8, w22_8, c22_9, e22_11, w22_11, e22_13, w22_13, e22_15, w22_15, e22_17, w22_17, e22_19, w22_19, c22_20, e22_22, w22_22, e22_24, w22_24, e22_26, w22_26, e22_28, w22_28, c22_29, e22_31, w22_31, c22_32, e22_34, w22_34, c22_35, c22_36, c22_37, c22_38, c22_39, e22_41, w22_41, c22_42, e22_44, w22_44, c22_45, c22_46, c22_47, c22_48, e22_50, w22_50, c22_51, c22_52, c22_53, c22_54, c22_55, e22_57, w22_57, c22_58, c22_59, c22_60, c22_61, c22_62, Fares.row]
  first | refine callD (transitref26_in_ok _ _ _) ?_ | refine callQD (transitref26_in_ok _ _ _) ?_
  simp -implicitDefEqProofs (disch := omega) only [go_sem, Nat.reduceAdd, Nat.reduceMul, Nat.reduceSub, Nat.reduceBEq, Nat.reduceLeDiff, Nat.reduceLT, fn_transitref26_Fares, e22_1, w22_1, e22_3, w22_3, c22_4, e22_6, w22_6, e22_8, w22_8, c22_9, e22_11, w22_11, e22_13, w22_13, e22_15, w22_15, e22_17, w22_17, e22_19, w22_19, c22_20, e22_22, w22_22, e22_24, w22_24, e22_26, w22_26, e22_28, w22_28, c22_29, e22_31, w22_31, c22_32, e22_34, w22_34, c22_35, c22_36, c22_37, c22_38, c22_39, e22_41, w22_41, c22_42, e22_44, w22_44, c22_45, c22_46, c22_47, c22_48, e22_50, w22_50, c22_51, c22_52, c22_53, c22_54, c22_55, e22_57, w22_57, c22_58, c22_59, c22_60, c22_61, c22_62]
  refine ifB (fun h1 => ?_) (fun h1 => ?_)
  rotate_left
  · simp -implicitDefEqProofs (disch := omega) only [go_sem, Nat.reduceAdd, Nat.reduceMul, Nat.reduceSub, Nat.reduceBEq, Nat.reduceLeDiff, Nat.reduceLT, fn_transitref26_Fares, e22_1, w22_1, e22_3, w22_3, c22_4, e22_6, w22_6, e22_8, w22_8, c22_9, e22_11, w22_11, e22_13, w22_13, e22_15, w22_15, e22_17, w22_17, e22_19, w22_19, c22_20, e22_22, w22_22, e22_24, w22_24, e22_26, w22_26, e22_28, w22_28, c22_29, e22_31, w22_31, c22_32, e22_34, w22_34, c22_35, c22_36, c22_37, c22_38, c22_39, e22_41, w22_41, c22_42, e22_44, w22_44, c22_45, c22_46, c22_47, c22_48, e22_50, w22_50, c22_51, c22_52, c22_53, c22_54, c22_55, e22_57, w22_57, c22_58, c22_59, c22_60, c22_61, c22_62, pairV, checkRes, h1]
    rfl
  simp -implicitDefEqProofs (disch := omega) only [go_sem, Nat.reduceAdd, Nat.reduceMul, Nat.reduceSub, Nat.reduceBEq, Nat.reduceLeDiff, Nat.reduceLT, fn_transitref26_Fares, e22_1, w22_1, e22_3, w22_3, c22_4, e22_6, w22_6, e22_8, w22_8, c22_9, e22_11, w22_11, e22_13, w22_13, e22_15, w22_15, e22_17, w22_17, e22_19, w22_19, c22_20, e22_22, w22_22, e22_24, w22_24, e22_26, w22_26, e22_28, w22_28, c22_29, e22_31, w22_31, c22_32, e22_34, w22_34, c22_35, c22_36, c22_37, c22_38, c22_39, e22_41, w22_41, c22_42, e22_44, w22_44, c22_45, c22_46, c22_47, c22_48, e22_50, w22_50, c22_51, c22_52, c22_53, c22_54, c22_55, e22_57, w22_57, c22_58, c22_59, c22_60, c22_61, c22_62]
  first | refine callD (transitref26_in_ok _ _ _) ?_ | refine callQD (transitref26_in_ok _ _ _) ?_
  simp -implicitDefEqProofs (disch := omega) only [go_sem, Nat.reduceAdd, Nat.reduceMul, Nat.reduceSub, Nat.reduceBEq, Nat.reduceLeDiff, Nat.reduceLT, fn_transitref26_Fares, e22_1, w22_1, e22_3, w22_3, c22_4, e22_6, w22_6, e22_8, w22_8, c22_9, e22_11, w22_11, e22_13, w22_13, e22_15, w22_15, e22_17, w22_17, e22_19, w22_19, c22_20, e22_22, w22_22, e22_24, w22_24, e22_26, w22_26, e22_28, w22_28, c22_29, e22_31, w22_31, c22_32, e22_34, w22_34, c22_35, c22_36, c22_37, c22_38, c22_39, e22_41, w22_41, c22_42, e22_44, w22_44, c22_45, c22_46, c22_47, c22_48, e22_50, w22_50, c22_51, c22_52, c22_53, c22_54, c22_55, e22_57, w22_57, c22_58, c22_59, c22_60, c22_61, c22_62]
  refine ifB (fun h2 => ?_) (fun h2 => ?_)
  rotate_left
  · simp -implicitDefEqProofs (disch := omega) only [go_sem, Nat.reduceAdd, Nat.reduceMul, Nat.reduceSub, Nat.reduceBEq, Nat.reduceLeDiff, Nat.reduceLT, fn_transitref26_Fares, e22_1, w22_1, e22_3, w22_3, c22_4, e22_6, w22_6, e22_8, w22_8, c22_9, e22_11, w22_11, e22_13, w22_13, e22_15, w22_15, e22_17, w22_17, e22_19, w22_19, c22_20, e22_22, w22_22, e22_24, w22_24, e22_26, w22_26, e22_28, w22_28, c22_29, e22_31, w22_31, c22_32, e22_34, w22_34, c22_35, c22_36, c22_37, c22_38, c22_39, e22_41, w22_41, c22_42, e22_44, w22_44, c22_45, c22_46, c22_47, c22_48, e22_50, w22_50, c22_51, c22_52, c22_53, c22_54, c22_55, e22_57, w22_57, c22_58, c22_59, c22_60, c22_61, c22_62, pairV, checkRes, h1, h2]
    rfl
  simp -implicitDefEqProofs (disch := omega) only [go_sem, Nat.reduceAdd, Nat.reduceMul, Nat.reduceSub, Nat.reduceBEq, Nat.reduceLeDiff, Nat.reduceLT, fn_transitref26_Fares, e22_1, w22_1, e22_3, w22_3, c22_4, e22_6, w22_6, e22_8, w22_8, c22_9, e22_11, w22_11, e22_13, w22_13, e22_15, w22_15, e22_17, w22_17, e22_19, w22_19, c22_20, e22_22, w22_22, e22_24, w22_24, e22_26, w22_26, e22_28, w22_28, c22_29, e22_31, w22_31, c22_32, e22_34, w22_34, c22_35, c22_36, c22_37, c22_38, c22_39, e22_41, w22_41, c22_42, e22_44, w22_44, c22_45, c22_46, c22_47, c22_48, e22_50, w22_50, c22_51, c22_52, c22_53, c22_54, c22_55, e22_57, w22_57, c22_58, c22_59, c22_60, c22_61, c22_62]
  first | refine callD (transitref26_in_ok _ _ _) ?_ | refine callQD (transitref26_in_ok _ _ _) ?_
  simp -implicitDefEqProofs (disch := omega) only [go_sem, Nat.reduceAdd, Nat.reduceMul, Nat.reduceSub, Nat.reduceBEq, Nat.reduceLeDiff, Nat.reduceLT, fn_transitref26_Fares, e22_1, w22_1, e22_3, w22_3, c22_4, e22_6, w22_6, e22_8, w22_8, c22_9, e22_11, w22_11, e22_13, w22_13, e22_15, w22_15, e22_17, w22_17, e22_19, w22_19, c22_20, e22_22, w22_22, e22_24, w22_24, e22_26, w22_26, e22_28, w22_28, c22_29, e22_31, w22_31, c22_32, e22_34, w22_34, c22_35, c22_36, c22_37, c22_38, c22_39, e22_41, w22_41, c22_42, e22_44, w22_44, c22_45, c22_46, c22_47, c22_48, e22_50, w22_50, c22_51, c22_52, c22_53, c22_54, c22_55, e22_57, w22_57, c22_58, c22_59, c22_60, c22_61, c22_62]
  refine ifB (fun h3 => ?_) (fun h3 => ?_)
  rotate_left
  · simp -implicitDefEqProofs (disch := omega) only [go_sem, Nat.reduceAdd, Nat.reduceMul, Nat.reduceSub, Nat.reduceBEq, Nat.reduceLeDiff, Nat.reduceLT, fn_transitref26_Fares, e22_1, w22_1, e22_3, w22_3, c22_4, e22_6, w22_6, e22_8, w22_8, c22_9, e22_11, w22_11, e22_13, w22_13, e22_15, w22_15, e22_17, w22_17, e22_19, w22_19, c22_20, e22_22, w22_22, e22_24, w22_24, e22_26, w22_26, e22_28, w22_28, c22_29, e22_31, w22_31, c22_32, e22_34, w22_34, c22_35, c22_36, c22_37, c22_38, c22_39, e22_41, w22_41, c22_42, e22_44, w22_44, c22_45, c22_46, c22_47, c22_48, e22_50, w22_50, c22_51, c22_52, c22_53, c22_54, c22_55, e22_57, w22_57, c22_58, c22_59, c22_60, c22_61, c22_62, pairV, checkRes, h1, h2, h3]
    rfl
  simp -implicitDefEqProofs (disch := omega) only [go_sem, Nat.reduceAdd, Nat.reduceMul, Nat.reduceSub, Nat.reduceBEq, Nat.reduceLeDiff, Nat.reduceLT, fn_transitref26_Fares, e22_1, w22_1, e22_3, w22_3, c22_4, e22_6, w22_6, e22_8, w22_8, c22_9, e22_11, w22_11, e22_13, w22_13, e22_15, w22_15, e22_17, w22_17, e22_19, w22_19, c22_20, e22_22, w22_22, e22_24, w22_24, e22_26, w22_26, e22_28, w22_28, c22_29, e22_31, w22_31, c22_32, e22_34, w22_34, c22_35, c22_36, c22_37, c22_38, c22_39, e22_41, w22_41, c22_42, e22_44, w22_44, c22_45, c22_46, c22_47, c22_48, e22_50, w22_50, c22_51, c22_52, c22_53, c22_54, c22_55, e22_57, w22_57, c22_58, c22_59, c22_60, c22_61, c22_62]
  refine ifD (fun h4 => ?_) (fun h4 => ?_)
  · have : 16 < f.products.length := by omega
    simp -implicitDefEqProofs (disch := omega) only [go_sem, Nat.reduceAdd, Nat.reduceMul, Nat.reduceSub, Nat.reduceBEq, Nat.reduceLeDiff, Nat.reduceLT, fn_transitref26_Fares, e22_1, w22_1, e22_3, w22_3, c22_4, e22_6, w22_6, e22_8, w22_8, c22_9, e22_11, w22_11, e22_13, w22_13, e22_15, w22_15, e22_17, w22_17, e22_19, w22_19, c22_20, e22_22, w22_22, e22_24, w22_24, e22_26, w22_26, e22_28, w22_28, c22_29, e22_31, w22_31, c22_32, e22_34, w22_34, c22_35, c22_36, c22_37, c22_38, c22_39, e22_41, w22_41, c22_42, e22_44, w22_44, c22_45, c22_46, c22_47, c22_48, e22_50, w22_50, c22_51, c22_52, c22_53, c22_54, c22_55, e22_57, w22_57, c22_58, c22_59, c22_60, c22_61, c22_62, pairV, checkRes, h1, h2, h3, this]
    rfl
  have h4' : ¬ 16 < f.products.length := by omega
  have hres : checkRes f = firstErr (prodErr f.products) f.products.length := by simp [checkRes, h1, h2, h3, h4']
  simp -implicitDefEqProofs (disch := omega) only [go_sem, Nat.reduceAdd, Nat.reduceMul, Nat.reduceSub, Nat.reduceBEq, Nat.reduceLeDiff, Nat.reduceLT, fn_transitref26_Fares, e22_1, w22_1, e22_3, w22_3, c22_4, e22_6, w22_6, e22_8, w22_8, c22_9, e22_11, w22_11, e22_13, w22_13, e22_15, w22_15, e22_17, w22_17, e22_19, w22_19, c22_20, e22_22, w22_22, e22_24, w22_24, e22_26, w22_26, e22_28, w22_28, c22_29, e22_31, w22_31, c22_32, e22_34, w22_34, c22_35, c22_36, c22_37, c22_38, c22_39, e22_41, w22_41, c22_42, e22_44, w22_44, c22_45, c22_46, c22_47, c22_48, e22_50, w22_50, c22_51, c22_52, c22_53, c22_54, c22_55, e22_57, w22_57, c22_58, c22_59, c22_60, c22_61, c22_62, hres]
  refine wpC_forL f.products (fun i vs M => (∀ k, k < i → prodErr f.products k = 0) ∧ vs = [.ptr 0 0, .int .i64 i] ∧ M = [.box f.row]) ⟨fun k hk => absurd hk (Nat.not_lt_zero k), rfl, rfl⟩ ?_ ?_
  · rintro i p vs M hp hi hd ⟨hall, rfl, rfl⟩
    have fin : ∀ e, prodErr f.products i = e → e ≠ 0 → V.tuple [.int .i64 i, .int .i64 e] = pairV (firstErr (prodErr f.products) f.products.length) := fun e h1 h2 => by
      rw [firstErr_at hi hall (by rw [h1]; exact h2), h1]; rfl
    have herr : prodErr f.products i = if okName p.id = false then 12 else if p.id ∈ (f.products.take i).map Product.id then 6 else if p.right = false then 2 else 0 := by simp only [prodErr, hp]
    simp -implicitDefEqProofs (disch := omega) only [go_sem, Nat.reduceAdd, Nat.reduceMul, Nat.reduceSub, Nat.reduceBEq, Nat.reduceLeDiff, Nat.reduceLT, fn_transitref26_Fares, e22_1, w22_1, e22_3, w22_3, c22_4, e22_6, w22_6, e22_8, w22_8, c22_9, e22_11, w22_11, e22_13, w22_13, e22_15, w22_15, e22_17, w22_17, e22_19, w22_19, c22_20, e22_22, w22_22, e22_24, w22_24, e22_26, w22_26, e22_28, w22_28, c22_29, e22_31, w22_31, c22_32, e22_34, w22_34, c22_35, c22_36, c22_37, c22_38, c22_39, e22_41, w22_41, c22_42, e22_44, w22_44, c22_45, c22_46, c22_47, c22_48, e22_50, w22_50, c22_51, c22_52, c22_53, c22_54, c22_55, e22_57, w22_57, c22_58, c22_59, c22_60, c22_61, c22_62, Fares.row, Product.row, hd, hp]
    first | refine callD (transitref26_ValidID_ok _ (hf.1 p (List.mem_of_getElem? hp)).1) ?_ | refine callQD (transitref26_ValidID_ok _ (hf.1 p (List.mem_of_getElem? hp)).1) ?_
    simp -implicitDefEqProofs (disch := omega) only [go_sem, Nat.reduceAdd, Nat.reduceMul, Nat.reduceSub, Nat.reduceBEq, Nat.reduceLeDiff, Nat.reduceLT, fn_transitref26_Fares, e22_1, w22_1, e22_3, w22_3, c22_4, e22_6, w22_6, e22_8, w22_8, c22_9, e22_11, w22_11, e22_13, w22_13, e22_15, w22_15, e22_17, w22_17, e22_19, w22_19, c22_20, e22_22, w22_22, e22_24, w22_24, e22_26, w22_26, e22_28, w22_28, c22_29, e22_31, w22_31, c22_32, e22_34, w22_34, c22_35, c22_36, c22_37, c22_38, c22_39, e22_41, w22_41, c22_42, e22_44, w22_44, c22_45, c22_46, c22_47, c22_48, e22_50, w22_50, c22_51, c22_52, c22_53, c22_54, c22_55, e22_57, w22_57, c22_58, c22_59, c22_60, c22_61, c22_62, Fares.row, Product.row]
    refine ifB (fun g1 => ?_) (fun g1 => ?_)
    rotate_left
    · simp -implicitDefEqProofs (disch := omega) only [go_sem, Nat.reduceAdd, Nat.reduceMul, Nat.reduceSub, Nat.reduceBEq, Nat.reduceLeDiff, Nat.reduceLT, fn_transitref26_Fares, e22_1, w22_1, e22_3, w22_3, c22_4, e22_6, w22_6, e22_8, w22_8, c22_9, e22_11, w22_11, e22_13, w22_13, e22_15, w22_15, e22_17, w22_17, e22_19, w22_19, c22_20, e22_22, w22_22, e22_24, w22_24, e22_26, w22_26, e22_28, w22_28, c22_29, e22_31, w22_31, c22_32, e22_34, w22_34, c22_35, c22_36, c22_37, c22_38, c22_39, e22_41, w22_41, c22_42, e22_44, w22_44, c22_45, c22_46, c22_47, c22_48, e22_50, w22_50, c22_51, c22_52, c22_53, c22_54, c22_55, e22_57, w22_57, c22_58, c22_59, c22_60, c22_61, c22_62, Fares.row, Product.row]
      exact fin 12 (by rw [herr, if_pos g1]) (by decide)
    have g1' : ¬ okName p.id = false := by simp [g1]
    simp -implicitDefEqProofs (disch := omega) only [go_sem, Nat.reduceAdd, Nat.reduceMul, Nat.reduceSub, Nat.reduceBEq, Nat.reduceLeDiff, Nat.reduceLT, fn_transitref26_Fares, e22_1, w22_1, e22_3, w22_3, c22_4, e22_6, w22_6, e22_8, w22_8, c22_9, e22_11, w22_11, e22_13, w22_13, e22_15, w22_15, e22_17, w22_17, e22_19, w22_19, c22_20, e22_22, w22_22, e22_24, w22_24, e22_26, w22_26, e22_28, w22_28, c22_29, e22_31, w22_31, c22_32, e22_34, w22_34, c22_35, c22_36, c22_37, c22_38, c22_39, e22_41, w22_41, c22_42, e22_44, w22_44, c22_45, c22_46, c22_47, c22_48, e22_50, w22_50, c22_51, c22_52, c22_53, c22_54, c22_55, e22_57, w22_57, c22_58, c22_59, c22_60, c22_61, c22_62, Fares.row, Product.row]
    refine wpC_for i (fun k vs M => p.id ∉ (f.products.take k).map Product.id ∧ vs = [.ptr 0 0, .int .i64 i, .ptr 1 0, .int .i64 k] ∧ M = [.box f.row, .box p.row]) ⟨by simp, rfl, rfl⟩ ?_ ?_
    · rintro k vs M hk hdk ⟨hno, rfl, rfl⟩
      obtain ⟨q, hq⟩ : ∃ q, f.products[k]? = some q := ⟨f.products[k], by simp⟩
      simp -implicitDefEqProofs (disch := omega) only [go_sem, Nat.reduceAdd, Nat.reduceMul, Nat.reduceSub, Nat.reduceBEq, Nat.reduceLeDiff, Nat.reduceLT, fn_transitref26_Fares, e22_1, w22_1, e22_3, w22_3, c22_4, e22_6, w22_6, e22_8, w22_8, c22_9, e22_11, w22_11, e22_13, w22_13, e22_15, w22_15, e22_17, w22_17, e22_19, w22_19, c22_20, e22_22, w22_22, e22_24, w22_24, e22_26, w22_26, e22_28, w22_28, c22_29, e22_31, w22_31, c22_32, e22_34, w22_34, c22_35, c22_36, c22_37, c22_38, c22_39, e22_41, w22_41, c22_42, e22_44, w22_44, c22_45, c22_46, c22_47, c22_48, e22_50, w22_50, c22_51, c22_52, c22_53, c22_54, c22_55, e22_57, w22_57, c22_58, c22_59, c22_60, c22_61, c22_62, Fares.row, Product.row, hdk, hp, hq]
      refine ifD (fun g2 => ?_) (fun g2 => ?_)
      · simp -implicitDefEqProofs (disch := omega) only [go_sem, Nat.reduceAdd, Nat.reduceMul, Nat.reduceSub, Nat.reduceBEq, Nat.reduceLeDiff, Nat.reduceLT, fn_transitref26_Fares, e22_1, w22_1, e22_3, w22_3, c22_4, e22_6, w22_6, e22_8, w22_8, c22_9, e22_11, w22_11, e22_13, w22_13, e22_15, w22_15, e22_17, w22_17, e22_19, w22_19, c22_20, e22_22, w22_22, e22_24, w22_24, e22_26, w22_26, e22_28, w22_28, c22_29, e22_31, w22_31, c22_32, e22_34, w22_34, c22_35, c22_36, c22_37, c22_38, c22_39, e22_41, w22_41, c22_42, e22_44, w22_44, c22_45, c22_46, c22_47, c22_48, e22_50, w22_50, c22_51, c22_52, c22_53, c22_54, c22_55, e22_57, w22_57, c22_58, c22_59, c22_60, c22_61, c22_62, Fares.row, Product.row]
        refine fin 6 ?_ (by decide)
        rw [herr, if_neg g1', if_pos]
        rw [List.mem_map]
        exact ⟨q, List.mem_of_getElem? (i := k) (by rw [List.getElem?_take_of_lt hk]; exact hq), g2⟩
      · simp -implicitDefEqProofs (disch := omega) only [go_sem, Nat.reduceAdd, Nat.reduceMul, Nat.reduceSub, Nat.reduceBEq, Nat.reduceLeDiff, Nat.reduceLT, fn_transitref26_Fares, e22_1, w22_1, e22_3, w22_3, c22_4, e22_6, w22_6, e22_8, w22_8, c22_9, e22_11, w22_11, e22_13, w22_13, e22_15, w22_15, e22_17, w22_17, e22_19, w22_19, c22_20, e22_22, w22_22, e22_24, w22_24, e22_26, w22_26, e22_28, w22_28, c22_29, e22_31, w22_31, c22_32, e22_34, w22_34, c22_35, c22_36, c22_37, c22_38, c22_39, e22_41, w22_41, c22_42, e22_44, w22_44, c22_45, c22_46, c22_47, c22_48, e22_50, w22_50, c22_51, c22_52, c22_53, c22_54, c22_55, e22_57, w22_57, c22_58, c22_59, c22_60, c22_61, c22_62, Fares.row, Product.row]
        refine next_stay hk ⟨?_, rfl, rfl⟩
        rw [List.take_add_one, hq, List.map_append]
        simp only [List.mem_append, not_or]
        exact ⟨hno, by simpa using fun e => g2 e.symm⟩
    · rintro vs M ⟨g2, rfl, rfl⟩
      simp -implicitDefEqProofs (disch := omega) only [go_sem, Nat.reduceAdd, Nat.reduceMul, Nat.reduceSub, Nat.reduceBEq, Nat.reduceLeDiff, Nat.reduceLT, fn_transitref26_Fares, e22_1, w22_1, e22_3, w22_3, c22_4, e22_6, w22_6, e22_8, w22_8, c22_9, e22_11, w22_11, e22_13, w22_13, e22_15, w22_15, e22_17, w22_17, e22_19, w22_19, c22_20, e22_22, w22_22, e22_24, w22_24, e22_26, w22_26, e22_28, w22_28, c22_29, e22_31, w22_31, c22_32, e22_34, w22_34, c22_35, c22_36, c22_37, c22_38, c22_39, e22_41, w22_41, c22_42, e22_44, w22_44, c22_45, c22_46, c22_47, c22_48, e22_50, w22_50, c22_51, c22_52, c22_53, c22_54, c22_55, e22_57, w22_57, c22_58, c22_59, c22_60, c22_61, c22_62, Fares.row, Product.row, dec_irrefl, hp]
      have bad : p.right = false → prodErr f.products i = 2 := fun h => by rw [herr, if_neg g1', if_neg g2, if_pos h]
      first | refine callD (transitref26_in_ok _ _ _) ?_ | refine callQD (transitref26_in_ok _ _ _) ?_
      simp -implicitDefEqProofs (disch := omega) only [go_sem, Nat.reduceAdd, Nat.reduceMul, Nat.reduceSub, Nat.reduceBEq, Nat.reduceLeDiff, Nat.reduceLT, fn_transitref26_Fares, e22_1, w22_1, e22_3, w22_3, c22_4, e22_6, w22_6, e22_8, w22_8, c22_9, e22_11, w22_11, e22_13, w22_13, e22_15, w22_15, e22_17, w22_17, e22_19, w22_19, c22_20, e22_22, w22_22, e22_24, w22_24, e22_26, w22_26, e22_28, w22_28, c22_29, e22_31, w22_31, c22_32, e22_34, w22_34, c22_35, c22_36, c22_37, c22_38, c22_39, e22_41, w22_41, c22_42, e22_44, w22_44, c22_45, c22_46, c22_47, c22_48, e22_50, w22_50, c22_51, c22_52, c22_53, c22_54, c22_55, e22_57, w22_57, c22_58, c22_59, c22_60, c22_61, c22_62, Fares.row, Product.row]
      refine ifB (fun k1 => ?_) (fun k1 => ?_)
      rotate_left
      · simp -implicitDefEqProofs (disch := omega) only [go_sem, Nat.reduceAdd, Nat.reduceMul, Nat.reduceSub, Nat.reduceBEq, Nat.reduceLeDiff, Nat.reduceLT, fn_transitref26_Fares, e22_1, w22_1, e22_3, w22_3, c22_4, e22_6, w22_6, e22_8, w22_8, c22_9, e22_11, w22_11, e22_13, w22_13, e22_15, w22_15, e22_17, w22_17, e22_19, w22_19, c22_20, e22_22, w22_22, e22_24, w22_24, e22_26, w22_26, e22_28, w22_28, c22_29, e22_31, w22_31, c22_32, e22_34, w22_34, c22_35, c22_36, c22_37, c22_38, c22_39, e22_41, w22_41, c22_42, e22_44, w22_44, c22_45, c22_46, c22_47, c22_48, e22_50, w22_50, c22_51, c22_52, c22_53, c22_54, c22_55, e22_57, w22_57, c22_58, c22_59, c22_60, c22_61, c22_62, Fares.row, Product.row]
        exact fin 2 (bad (by simp [Product.right, k1])) (by decide)
      simp -implicitDefEqProofs (disch := omega) only [go_sem, Nat.reduceAdd, Nat.reduceMul, Nat.reduceSub, Nat.reduceBEq, Nat.reduceLeDiff, Nat.reduceLT, fn_transitref26_Fares, e22_1, w22_1, e22_3, w22_3, c22_4, e22_6, w22_6, e22_8, w22_8, c22_9, e22_11, w22_11, e22_13, w22_13, e22_15, w22_15, e22_17, w22_17, e22_19, w22_19, c22_20, e22_22, w22_22, e22_24, w22_24, e22_26, w22_26, e22_28, w22_28, c22_29, e22_31, w22_31, c22_32, e22_34, w22_34, c22_35, c22_36, c22_37, c22_38, c22_39, e22_41, w22_41, c22_42, e22_44, w22_44, c22_45, c22_46, c22_47, c22_48, e22_50, w22_50, c22_51, c22_52, c22_53, c22_54, c22_55, e22_57, w22_57, c22_58, c22_59, c22_60, c22_61, c22_62, Fares.row, Product.row]
      first | refine callD (transitref26_in_ok _ _ _) ?_ | refine callQD (transitref26_in_ok _ _ _) ?_
      simp -implicitDefEqProofs (disch := omega) only [go_sem, Nat.reduceAdd, Nat.reduceMul, Nat.reduceSub, Nat.reduceBEq, Nat.reduceLeDiff, Nat.reduceLT, fn_transitref26_Fares, e22_1, w22_1, e22_3, w22_3, c22_4, e22_6, w22_6, e22_8, w22_8, c22_9, e22_11, w22_11, e22_13, w22_13, e22_15, w22_15, e22_17, w22_17, e22_19, w22_19, c22_20, e22_22, w22_22, e22_24, w22_24, e22_26, w22_26, e22_28, w22_28, c22_29, e22_31, w22_31, c22_32, e22_34, w22_34, c22_35, c22_36, c22_37, c22_38, c22_39, e22_41, w22_41, c22_42, e22_44, w22_44, c22_45, c22_46, c22_47, c22_48, e22_50, w22_50, c22_51, c22_52, c22_53, c22_54, c22_55, e22_57, w22_57, c22_58, c22_59, c22_60, c22_61, c22_62, Fares.row, Product.row]
      refine ifB (fun k2 => ?_) (fun k2 => ?_)
      rotate_left
      · simp -implicitDefEqProofs (disch := omega) only [go_sem, Nat.reduceAdd, Nat.reduceMul, Nat.reduceSub, Nat.reduceBEq, Nat.reduceLeDiff, Nat.reduceLT, fn_transitref26_Fares, e22_1, w22_1, e22_3, w22_3, c22_4, e22_6, w22_6, e22_8, w22_8, c22_9, e22_11, w22_11, e22_13, w22_13, e22_15, w22_15, e22_17, w22_17, e22_19, w22_19, c22_20, e22_22, w22_22, e22_24, w22_24, e22_26, w22_26, e22_28, w22_28, c22_29, e22_31, w22_31, c22_32, e22_34, w22_34, c22_35, c22_36, c22_37, c22_38, c22_39, e22_41, w22_41, c22_42, e22_44, w22_44, c22_45, c22_46, c22_47, c22_48, e22_50, w22_50, c22_51, c22_52, c22_53, c22_54, c22_55, e22_57, w22_57, c22_58, c22_59, c22_60, c22_61, c22_62, Fares.row, Product.row]
        exact fin 2 (bad (by simp [Product.right, k2])) (by decide)
      simp -implicitDefEqProofs (disch := omega) only [go_sem, Nat.reduceAdd, Nat.reduceMul, Nat.reduceSub, Nat.reduceBEq, Nat.reduceLeDiff, Nat.reduceLT, fn_transitref26_Fares, e22_1, w22_1, e22_3, w22_3, c22_4, e22_6, w22_6, e22_8, w22_8, c22_9, e22_11, w22_11, e22_13, w22_13, e22_15, w22_15, e22_17, w22_17, e22_19, w22_19, c22_20, e22_22, w22_22, e22_24, w22_24, e22_26, w22_26, e22_28, w22_28, c22_29, e22_31, w22_31, c22_32, e22_34, w22_34, c22_35, c22_36, c22_37, c22_38, c22_39, e22_41, w22_41, c22_42, e22_44, w22_44, c22_45, c22_46, c22_47, c22_48, e22_50, w22_50, c22_51, c22_52, c22_53, c22_54, c22_55, e22_57, w22_57, c22_58, c22_59, c22_60, c22_61, c22_62, Fares.row, Product.row]
      first | refine callD (transitref26_in_ok _ _ _) ?_ | refine callQD (transitref26_in_ok _ _ _) ?_
      simp -implicitDefEqProofs (disch := omega) only [go_sem, Nat.reduceAdd, Nat.reduceMul, Nat.reduceSub, Nat.reduceBEq, Nat.reduceLeDiff, Nat.reduceLT, fn_transitref26_Fares, e22_1, w22_1, e22_3, w22_3, c22_4, e22_6, w22_6, e22_8, w22_8, c22_9, e22_11, w22_11, e22_13, w22_13, e22_15, w22_15, e22_17, w22_17, e22_19, w22_19, c22_20, e22_22, w22_22, e22_24, w22_24, e22_26, w22_26, e22_28, w22_28, c22_29, e22_31, w22_31, c22_32, e22_34, w22_34, c22_35, c22_36, c22_37, c22_38, c22_39, e22_41, w22_41, c22_42, e22_44, w22_44, c22_45, c22_46, c22_47, c22_48, e22_50, w22_50, c22_51, c22_52, c22_53, c22_54, c22_55, e22_57, w22_57, c22_58, c22_59, c22_60, c22_61, c22_62, Fares.row, Product.row]
      refine ifB (fun k3 => ?_) (fun k3 => ?_)
      rotate_left
      · simp -implicitDefEqProofs (disch := omega) only [go_sem, Nat.reduceAdd, Nat.reduceMul, Nat.reduceSub, Nat.reduceBEq, Nat.reduceLeDiff, Nat.reduceLT, fn_transitref26_Fares, e22_1, w22_1, e22_3, w22_3, c22_4, e22_6, w22_6, e22_8, w22_8, c22_9, e22_11, w22_11, e22_13, w22_13, e22_15, w22_15, e22_17, w22_17, e22_19, w22_19, c22_20, e22_22, w22_22, e22_24, w22_24, e22_26, w22_26, e22_28, w22_28, c22_29, e22_31, w22_31, c22_32, e22_34, w22_34, c22_35, c22_36, c22_37, c22_38, c22_39, e22_41, w22_41, c22_42, e22_44, w22_44, c22_45, c22_46, c22_47, c22_48, e22_50, w22_50, c22_51, c22_52, c22_53, c22_54, c22_55, e22_57, w22_57, c22_58, c22_59, c22_60, c22_61, c22_62, Fares.row, Product.row]
        exact fin 2 (bad (by simp [Product.right, k3])) (by decide)
      simp -implicitDefEqProofs (disch := omega) only [go_sem, Nat.reduceAdd, Nat.reduceMul, Nat.reduceSub, Nat.reduceBEq, Nat.reduceLeDiff, Nat.reduceLT, fn_transitref26_Fares, e22_1, w22_1, e22_3, w22_3, c22_4, e22_6, w22_6, e22_8, w22_8, c22_9, e22_11, w22_11, e22_13, w22_13, e22_15, w22_15, e22_17, w22_17, e22_19, w22_19, c22_20, e22_22, w22_22, e22_24, w22_24, e22_26, w22_26, e22_28, w22_28, c22_29, e22_31, w22_31, c22_32, e22_34, w22_34, c22_35, c22_36, c22_37, c22_38, c22_39, e22_41, w22_41, c22_42, e22_44, w22_44, c22_45, c22_46, c22_47, c22_48, e22_50, w22_50, c22_51, c22_52, c22_53, c22_54, c22_55, e22_57, w22_57, c22_58, c22_59, c22_60, c22_61, c22_62, Fares.row, Product.row]
      first | refine callD (transitref26_in_ok _ _ _) ?_ | refine callQD (transitref26_in_ok _ _ _) ?_
      simp -implicitDefEqProofs (disch := omega) only [go_sem, Nat.reduceAdd, Nat.reduceMul, Nat.reduceSub, Nat.reduceBEq, Nat.reduceLeDiff, Nat.reduceLT, fn_transitref26_Fares, e22_1, w22_1, e22_3, w22_3, c22_4, e22_6, w22_6, e22_8, w22_8, c22_9, e22_11, w22_11, e22_13, w22_13, e22_15, w22_15, e22_17, w22_17, e22_19, w22_19, c22_20, e22_22, w22_22, e22_24, w22_24, e22_26, w22_26, e22_28, w22_28, c22_29, e22_31, w22_31, c22_32, e22_34, w22_34, c22_35, c22_36, c22_37, c22_38, c22_39, e22_41, w22_41, c22_42, e22_44, w22_44, c22_45, c22_46, c22_47, c22_48, e22_50, w22_50, c22_51, c22_52, c22_53, c22_54, c22_55, e22_57, w22_57, c22_58, c22_59, c22_60, c22_61, c22_62, Fares.row, Product.row]
      refine ifB (fun k4 => ?_) (fun k4 => ?_)
      rotate_left
      · simp -implicitDefEqProofs (disch := omega) only [go_sem, Nat.reduceAdd, Nat.reduceMul, Nat.reduceSub, Nat.reduceBEq, Nat.reduceLeDiff, Nat.reduceLT, fn_transitref26_Fares, e22_1, w22_1, e22_3, w22_3, c22_4, e22_6, w22_6, e22_8, w22_8, c22_9, e22_11, w22_11, e22_13, w22_13, e22_15, w22_15, e22_17, w22_17, e22_19, w22_19, c22_20, e22_22, w22_22, e22_24, w22_24, e22_26, w22_26, e22_28, w22_28, c22_29, e22_31, w22_31, c22_32, e22_34, w22_34, c22_35, c22_36, c22_37, c22_38, c22_39, e22_41, w22_41, c22_42, e22_44, w22_44, c22_45, c22_46, c22_47, c22_48, e22_50, w22_50, c22_51, c22_52, c22_53, c22_54, c22_55, e22_57, w22_57, c22_58, c22_59, c22_60, c22_61, c22_62, Fares.row, Product.row]
        exact fin 2 (bad (by simp [Product.right, k4])) (by decide)
      simp -implicitDefEqProofs (disch := omega) only [go_sem, Nat.reduceAdd, Nat.reduceMul, Nat.reduceSub, Nat.reduceBEq, Nat.reduceLeDiff, Nat.reduceLT, fn_transitref26_Fares, e22_1, w22_1, e22_3, w22_3, c22_4, e22_6, w22_6, e22_8, w22_8, c22_9, e22_11, w22_11, e22_13, w22_13, e22_15, w22_15, e22_17, w22_17, e22_19, w22_19, c22_20, e22_22, w22_22, e22_24, w22_24, e22_26, w22_26, e22_28, w22_28, c22_29, e22_31, w22_31, c22_32, e22_34, w22_34, c22_35, c22_36, c22_37, c22_38, c22_39, e22_41, w22_41, c22_42, e22_44, w22_44, c22_45, c22_46, c22_47, c22_48, e22_50, w22_50, c22_51, c22_52, c22_53, c22_54, c22_55, e22_57, w22_57, c22_58, c22_59, c22_60, c22_61, c22_62, Fares.row, Product.row]
      first | refine callD (transitref26_in_ok _ _ _) ?_ | refine callQD (transitref26_in_ok _ _ _) ?_
      simp -implicitDefEqProofs (disch := omega) only [go_sem, Nat.reduceAdd, Nat.reduceMul, Nat.reduceSub, Nat.reduceBEq, Nat.reduceLeDiff, Nat.reduceLT, fn_transitref26_Fares, e22_1, w22_1, e22_3, w22_3, c22_4, e22_6, w22_6, e22_8, w22_8, c22_9, e22_11, w22_11, e22_13, w22_13, e22_15, w22_15, e22_17, w22_17, e22_19, w22_19, c22_20, e22_22, w22_22, e22_24, w22_24, e22_26, w22_26, e22_28, w22_28, c22_29, e22_31, w22_31, c22_32, e22_34, w22_34, c22_35, c22_36, c22_37, c22_38, c22_39, e22_41, w22_41, c22_42, e22_44, w22_44, c22_45, c22_46, c22_47, c22_48, e22_50, w22_50, c22_51, c22_52, c22_53, c22_54, c22_55, e22_57, w22_57, c22_58, c22_59, c22_60, c22_61, c22_62, Fares.row, Product.row]
      refine ifB (fun k5 => ?_) (fun k5 => ?_)
      rotate_left
      · simp -implicitDefEqProofs (disch := omega) only [go_sem, Nat.reduceAdd, Nat.reduceMul, Nat.reduceSub, Nat.reduceBEq, Nat.reduceLeDiff, Nat.reduceLT, fn_transitref26_Fares, e22_1, w22_1, e22_3, w22_3, c22_4, e22_6, w22_6, e22_8, w22_8, c22_9, e22_11, w22_11, e22_13, w22_13, e22_15, w22_15, e22_17, w22_17, e22_19, w22_19, c22_20, e22_22, w22_22, e22_24, w22_24, e22_26, w22_26, e22_28, w22_28, c22_29, e22_31, w22_31, c22_32, e22_34, w22_34, c22_35, c22_36, c22_37, c22_38, c22_39, e22_41, w22_41, c22_42, e22_44, w22_44, c22_45, c22_46, c22_47, c22_48, e22_50, w22_50, c22_51, c22_52, c22_53, c22_54, c22_55, e22_57, w22_57, c22_58, c22_59, c22_60, c22_61, c22_62, Fares.row, Product.row]
        exact fin 2 (bad (by simp [Product.right, k5])) (by decide)
      simp -implicitDefEqProofs (disch := omega) only [go_sem, Nat.reduceAdd, Nat.reduceMul, Nat.reduceSub, Nat.reduceBEq, Nat.reduceLeDiff, Nat.reduceLT, fn_transitref26_Fares, e22_1, w22_1, e22_3, w22_3, c22_4, e22_6, w22_6, e22_8, w22_8, c22_9, e22_11, w22_11, e22_13, w22_13, e22_15, w22_15, e22_17, w22_17, e22_19, w22_19, c22_20, e22_22, w22_22, e22_24, w22_24, e22_26, w22_26, e22_28, w22_28, c22_29, e22_31, w22_31, c22_32, e22_34, w22_34, c22_35, c22_36, c22_37, c22_38, c22_39, e22_41, w22_41, c22_42, e22_44, w22_44, c22_45, c22_46, c22_47, c22_48, e22_50, w22_50, c22_51, c22_52, c22_53, c22_54, c22_55, e22_57, w22_57, c22_58, c22_59, c22_60, c22_61, c22_62, Fares.row, Product.row]
      refine next_pop hi rfl ⟨fun k hk => ?_, rfl, rfl⟩
      rcases Nat.lt_or_ge k i with hlt | hge
      · exact hall k hlt
      · have : k = i := by omega
        subst this
        rw [herr, if_neg g1', if_neg g2, if_neg (by simp [Product.right, k1, k2, k3, k4, k5])]
  · rintro vs M ⟨hall, rfl, rfl⟩
    simp -implicitDefEqProofs (disch := omega) only [go_sem, Nat.reduceAdd, Nat.reduceMul, Nat.reduceSub, Nat.reduceBEq, Nat.reduceLeDiff, Nat.reduceLT, fn_transitref26_Fares, e22_1, w22_1, e22_3, w22_3, c22_4, e22_6, w22_6, e22_8, w22_8, c22_9, e22_11, w22_11, e22_13, w22_13, e22_15, w22_15, e22_17, w22_17, e22_19, w22_19, c22_20, e22_22, w22_22, e22_24, w22_24, e22_26, w22_26, e22_28, w22_28, c22_29, e22_31, w22_31, c22_32, e22_34, w22_34, c22_35, c22_36, c22_37, c22_38, c22_39, e22_41, w22_41, c22_42, e22_44, w22_44, c22_45, c22_46, c22_47, c22_48, e22_50, w22_50, c22_51, c22_52, c22_53, c22_54, c22_55, e22_57, w22_57, c22_58, c22_59, c22_60, c22_61, c22_62, Fares.row, Product.row, dec_irrefl, firstErr_none hall, pairV]

end Go.Vm.C

