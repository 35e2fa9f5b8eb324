/- Contracts: numbers, fares and identifiers. -/
import Derived.Test.YtmpjekmfphppbaaT2

namespace Go.Vm.C
open Go.Vm
set_option maxHeartbeats 1000000
set_option maxRecDepth 10000
set_option linter.unusedSimpArgs false
set_option linter.unusedVariables false

/-! ### The fares' small functions -/
theorem fare_within_ok (a b d : Int) (ha : I64 a) (hb : I64 b) (hd : I64 d) (h0 : 0 ≤ d) : PCalls PR i_fare_within [.int .i64 a, .int .i64 b, .int .i64 d] (fun v => v = .bool (decide (b - a ≤ d))) := by
  obtain ⟨a1, a2⟩ := ha
  obtain ⟨b1, b2⟩ := hb
  obtain ⟨d1, d2⟩ := hd
  refine acalls_pop fn_fare_within_ok (by simp [fn_fare_within]) ?_
  simp -implicitDefEqProofs (disch := omega) only [go_sem, Nat.reduceAdd, Nat.reduceMul, Nat.reduceSub, Nat.reduceBEq, Nat.reduceLeDiff, Nat.reduceLT, fn_fare_within, e45_1, w45_1, e45_3, w45_3, c45_4, c45_5, open_if]
  repeat' (refine BIf_dec (fun h => ?_) (fun h => ?_))
  all_goals
    rw [Bool.eq_iff_iff]
    simp only [decide_eq_true_eq, u64_wrap, i64_wrap, true_iff, false_iff, Bool.false_eq_true]
    omega

theorem transitref35_within_ok (a b d : Int) (ha : I64 a) (hb : I64 b) (hd : I64 d) (h0 : 0 ≤ d) : PCalls PR i_transitref35_within [.int .i64 a, .int .i64 b, .int .i64 d] (fun v => v = .bool (decide (b - a ≤ d))) := by
  obtain ⟨a1, a2⟩ := ha
  obtain ⟨b1, b2⟩ := hb
  obtain ⟨d1, d2⟩ := hd
  refine acalls_pop fn_transitref35_within_ok (by simp [fn_transitref35_within]) ?_
  simp -implicitDefEqProofs (disch := omega) only [go_sem, Nat.reduceAdd, Nat.reduceMul, Nat.reduceSub, Nat.reduceBEq, Nat.reduceLeDiff, Nat.reduceLT, fn_transitref35_within, e49_1, w49_1, e49_3, w49_3, c49_4, e49_6, w49_6, e49_8, w49_8, c49_9, c49_10, c49_11]
  refine ifD (fun h => ?_) (fun h => ?_)
  all_goals
    simp -implicitDefEqProofs (disch := omega) only [go_sem, Nat.reduceAdd, Nat.reduceMul, Nat.reduceSub, Nat.reduceBEq, Nat.reduceLeDiff, Nat.reduceLT, fn_transitref35_within, e49_1, w49_1, e49_3, w49_3, c49_4, e49_6, w49_6, e49_8, w49_8, c49_9, c49_10, c49_11]
    rw [Bool.eq_iff_iff]
    simp only [decide_eq_true_eq, u64_wrap, i64_wrap, true_iff, false_iff, Bool.false_eq_true]
    omega

/-- The fare of a sum. -/
def capped (f : Fares) (s : Int) : Int := if 0 < f.limit ∧ f.limit < s then f.limit else s

theorem fare_capped_ok (f : Fares) (s : Int) : PCalls PR i_fare_capped [.agg f.row, .int .i64 s] (fun v => v = .int .i64 (capped f s)) := by
  refine acalls_pop fn_fare_capped_ok (by simp [fn_fare_capped]) ?_
  simp -implicitDefEqProofs (disch := omega) only [go_sem, Nat.reduceAdd, Nat.reduceMul, Nat.reduceSub, Nat.reduceBEq, Nat.reduceLeDiff, Nat.reduceLT, fn_fare_capped, e21_1, w21_1, e21_3, w21_3, c21_4, e21_6, w21_6, e21_8, w21_8, c21_9, c21_10, c21_11, Fares.row]
  refine ifD (fun h => ?_) (fun h => ?_)
  · simp -implicitDefEqProofs (disch := omega) only [go_sem, Nat.reduceAdd, Nat.reduceMul, Nat.reduceSub, Nat.reduceBEq, Nat.reduceLeDiff, Nat.reduceLT, fn_fare_capped, e21_1, w21_1, e21_3, w21_3, c21_4, e21_6, w21_6, e21_8, w21_8, c21_9, c21_10, c21_11, Fares.row]
    refine ifD (fun h2 => ?_) (fun h2 => ?_)
    · simp -implicitDefEqProofs (disch := omega) only [go_sem, Nat.reduceAdd, Nat.reduceMul, Nat.reduceSub, Nat.reduceBEq, Nat.reduceLeDiff, Nat.reduceLT, fn_fare_capped, e21_1, w21_1, e21_3, w21_3, c21_4, e21_6, w21_6, e21_8, w21_8, c21_9, c21_10, c21_11, Fares.row, capped]
      rw [if_pos ⟨h, h2⟩]
    · simp -implicitDefEqProofs (disch := omega) only [go_sem, Nat.reduceAdd, Nat.reduceMul, Nat.reduceSub, Nat.reduceBEq, Nat.reduceLeDiff, Nat.reduceLT, fn_fare_capped, e21_1, w21_1, e21_3, w21_3, c21_4, e21_6, w21_6, e21_8, w21_8, c21_9, c21_10, c21_11, Fares.row, capped]
      rw [if_neg (fun e => h2 e.2)]
  · simp -implicitDefEqProofs (disch := omega) only [go_sem, Nat.reduceAdd, Nat.reduceMul, Nat.reduceSub, Nat.reduceBEq, Nat.reduceLeDiff, Nat.reduceLT, fn_fare_capped, e21_1, w21_1, e21_3, w21_3, c21_4, e21_6, w21_6, e21_8, w21_8, c21_9, c21_10, c21_11, Fares.row, capped]
    rw [if_neg (fun e => h e.1)]

theorem transitref35_Capped_ok (f : Fares) (s : Int) (h0 : 0 ≤ f.limit) : PCalls PR i_transitref35_Capped [.agg f.row, .int .i64 s] (fun v => v = .int .i64 (capped f s)) := by
  refine acalls_pop fn_transitref35_Capped_ok (by simp [fn_transitref35_Capped]) ?_
  simp -implicitDefEqProofs (disch := omega) only [go_sem, Nat.reduceAdd, Nat.reduceMul, Nat.reduceSub, Nat.reduceBEq, Nat.reduceLeDiff, Nat.reduceLT, fn_transitref35_Capped, e24_1, w24_1, e24_3, w24_3, c24_4, e24_6, w24_6, e24_8, w24_8, c24_9, c24_10, c24_11, Fares.row]
  refine ifD (fun h => ?_) (fun h => ?_)
  · simp -implicitDefEqProofs (disch := omega) only [go_sem, Nat.reduceAdd, Nat.reduceMul, Nat.reduceSub, Nat.reduceBEq, Nat.reduceLeDiff, Nat.reduceLT, fn_transitref35_Capped, e24_1, w24_1, e24_3, w24_3, c24_4, e24_6, w24_6, e24_8, w24_8, c24_9, c24_10, c24_11, Fares.row, capped]
    rw [if_neg (fun e => by omega)]
  · simp -implicitDefEqProofs (disch := omega) only [go_sem, Nat.reduceAdd, Nat.reduceMul, Nat.reduceSub, Nat.reduceBEq, Nat.reduceLeDiff, Nat.reduceLT, fn_transitref35_Capped, e24_1, w24_1, e24_3, w24_3, c24_4, e24_6, w24_6, e24_8, w24_8, c24_9, c24_10, c24_11, Fares.row, capped]
    split <;> omega

theorem fare_validPrice_ok (n : Int) : PCalls PR i_fare_validPrice [.int .i64 n] (fun v => v = .bool (within n 0 1000000)) := by
  refine acalls_pop fn_fare_validPrice_ok (by simp [fn_fare_validPrice]) ?_
  simp -implicitDefEqProofs (disch := omega) only [go_sem, Nat.reduceAdd, Nat.reduceMul, Nat.reduceSub, Nat.reduceBEq, Nat.reduceLeDiff, Nat.reduceLT, fn_fare_validPrice, e26_1, w26_1, e26_3, w26_3, c26_4, c26_5]
  refine ifD (fun h => ?_) (fun h => ?_)
  · simp -implicitDefEqProofs (disch := omega) only [go_sem, Nat.reduceAdd, Nat.reduceMul, Nat.reduceSub, Nat.reduceBEq, Nat.reduceLeDiff, Nat.reduceLT, fn_fare_validPrice, e26_1, w26_1, e26_3, w26_3, c26_4, c26_5, within, h]
  · simp -implicitDefEqProofs (disch := omega) only [go_sem, Nat.reduceAdd, Nat.reduceMul, Nat.reduceSub, Nat.reduceBEq, Nat.reduceLeDiff, Nat.reduceLT, fn_fare_validPrice, e26_1, w26_1, e26_3, w26_3, c26_4, c26_5, within, h]

theorem transitref26_in_ok (n low high : Int) : PCalls PR i_transitref26_in [.int .i64 n, .int .i64 low, .int .i64 high] (fun v => v = .bool (within n low high)) := by
  refine acalls_pop fn_transitref26_in_ok (by simp [fn_transitref26_in]) ?_
  simp -implicitDefEqProofs (disch := omega) only [go_sem, Nat.reduceAdd, Nat.reduceMul, Nat.reduceSub, Nat.reduceBEq, Nat.reduceLeDiff, Nat.reduceLT, fn_transitref26_in, e46_1, w46_1, e46_3, w46_3, c46_4, c46_5]
  refine ifD (fun h => ?_) (fun h => ?_)
  · simp -implicitDefEqProofs (disch := omega) only [go_sem, Nat.reduceAdd, Nat.reduceMul, Nat.reduceSub, Nat.reduceBEq, Nat.reduceLeDiff, Nat.reduceLT, fn_transitref26_in, e46_1, w46_1, e46_3, w46_3, c46_4, c46_5, within, h]
  · simp -implicitDefEqProofs (disch := omega) only [go_sem, Nat.reduceAdd, Nat.reduceMul, Nat.reduceSub, Nat.reduceBEq, Nat.reduceLeDiff, Nat.reduceLT, fn_transitref26_in, e46_1, w46_1, e46_3, w46_3, c46_4, c46_5, within, h]

theorem transitref26_ValidID_ok (s : List UInt8) (hs : s.length ≤ maxLen) : PCalls PR i_transitref26_ValidID [.str s] (fun v => v = .bool (okName s)) := by
  have hm : maxLen = 9223372036854775807 := by rfl
  refine acalls_pop fn_transitref26_ValidID_ok (by simp [fn_transitref26_ValidID]) ?_
  simp -implicitDefEqProofs (disch := omega) only [go_sem, Nat.reduceAdd, Nat.reduceMul, Nat.reduceSub, Nat.reduceBEq, Nat.reduceLeDiff, Nat.reduceLT, fn_transitref26_ValidID, e47_1, w47_1, e47_3, w47_3, c47_4, e47_6, w47_6, e47_8, w47_8, e47_10, w47_10, e47_12, w47_12, e47_14, w47_14, e47_16, w47_16, c47_17, e47_19, w47_19, c47_20, c47_21, c47_22, e47_24, w47_24, c47_25, c47_26, c47_27, c47_28, c47_29, e47_31, w47_31, c47_32, c47_33, c47_34, c47_35]
  refine ifD (fun h => ?_) (fun h1 => ?_)
  · have : okName s = false := by
      have : ¬ 0 < s.length := by omega
      simp [okName, this]
    simp -implicitDefEqProofs (disch := omega) only [go_sem, Nat.reduceAdd, Nat.reduceMul, Nat.reduceSub, Nat.reduceBEq, Nat.reduceLeDiff, Nat.reduceLT, fn_transitref26_ValidID, e47_1, w47_1, e47_3, w47_3, c47_4, e47_6, w47_6, e47_8, w47_8, e47_10, w47_10, e47_12, w47_12, e47_14, w47_14, e47_16, w47_16, c47_17, e47_19, w47_19, c47_20, c47_21, c47_22, e47_24, w47_24, c47_25, c47_26, c47_27, c47_28, c47_29, e47_31, w47_31, c47_32, c47_33, c47_34, c47_35, this]
  simp -implicitDefEqProofs (disch := omega) only [go_sem, Nat.reduceAdd, Nat.reduceMul, Nat.reduceSub, Nat.reduceBEq, Nat.reduceLeDiff, Nat.reduceLT, fn_transitref26_ValidID, e47_1, w47_1, e47_3, w47_3, c47_4, e47_6, w47_6, e47_8, w47_8, e47_10, w47_10, e47_12, w47_12, e47_14, w47_14, e47_16, w47_16, c47_17, e47_19, w47_19, c47_20, c47_21, c47_22, e47_24, w47_24, c47_25, c47_26, c47_27, c47_28, c47_29, e47_31, w47_31, c47_32, c47_33, c47_34, c47_35]
  refine ifD (fun h => ?_) (fun h2 => ?_)
  · have : okName s = false := by
      have : ¬ s.length ≤ 32 := by omega
      simp [okName, this]
    simp -implicitDefEqProofs (disch := omega) only [go_sem, Nat.reduceAdd, Nat.reduceMul, Nat.reduceSub, Nat.reduceBEq, Nat.reduceLeDiff, Nat.reduceLT, fn_transitref26_ValidID, e47_1, w47_1, e47_3, w47_3, c47_4, e47_6, w47_6, e47_8, w47_8, e47_10, w47_10, e47_12, w47_12, e47_14, w47_14, e47_16, w47_16, c47_17, e47_19, w47_19, c47_20, c47_21, c47_22, e47_24, w47_24, c47_25, c47_26, c47_27, c47_28, c47_29, e47_31, w47_31, c47_32, c47_33, c47_34, c47_35, this]
  simp -implicitDefEqProofs (disch := omega) only [go_sem, Nat.reduceAdd, Nat.reduceMul, Nat.reduceSub, Nat.reduceBEq, Nat.reduceLeDiff, Nat.reduceLT, fn_transitref26_ValidID, e47_1, w47_1, e47_3, w47_3, c47_4, e47_6, w47_6, e47_8, w47_8, e47_10, w47_10, e47_12, w47_12, e47_14, w47_14, e47_16, w47_16, c47_17, e47_19, w47_19, c47_20, c47_21, c47_22, e47_24, w47_24, c47_25, c47_26, c47_27, c47_28, c47_29, e47_31, w47_31, c47_32, c47_33, c47_34, c47_35]
  refine wpC_forL s (fun i vs M => (s.take i).all okChar = true ∧ vs = [.str s, .int .i64 i] ∧ M = []) ⟨by simp, rfl, rfl⟩ ?_ ?_
  · rintro i c vs M hc hi hd ⟨hall, rfl, rfl⟩
    simp -implicitDefEqProofs (disch := omega) only [go_sem, Nat.reduceAdd, Nat.reduceMul, Nat.reduceSub, Nat.reduceBEq, Nat.reduceLeDiff, Nat.reduceLT, fn_transitref26_ValidID, e47_1, w47_1, e47_3, w47_3, c47_4, e47_6, w47_6, e47_8, w47_8, e47_10, w47_10, e47_12, w47_12, e47_14, w47_14, e47_16, w47_16, c47_17, e47_19, w47_19, c47_20, c47_21, c47_22, e47_24, w47_24, c47_25, c47_26, c47_27, c47_28, c47_29, e47_31, w47_31, c47_32, c47_33, c47_34, c47_35, open_if, hd, hc]
    repeat' (refine BIf_dec (fun h => ?_) (fun h => ?_))
    all_goals first
      | (refine next_stay hi ⟨?_, rfl, rfl⟩
         rw [all_take_succ hc, hall, (okChar_iff c).2 (by omega)]; rfl)
      | (rw [okName_false hc (okChar_false c (by omega))])
  · rintro vs M ⟨hall, rfl, rfl⟩
    rw [List.take_length] at hall
    simp -implicitDefEqProofs (disch := omega) only [go_sem, Nat.reduceAdd, Nat.reduceMul, Nat.reduceSub, Nat.reduceBEq, Nat.reduceLeDiff, Nat.reduceLT, fn_transitref26_ValidID, e47_1, w47_1, e47_3, w47_3, c47_4, e47_6, w47_6, e47_8, w47_8, e47_10, w47_10, e47_12, w47_12, e47_14, w47_14, e47_16, w47_16, c47_17, e47_19, w47_19, c47_20, c47_21, c47_22, e47_24, w47_24, c47_25, c47_26, c47_27, c47_28, c47_29, e47_31, w47_31, c47_32, c47_33, c47_34, c47_35, dec_irrefl]
    have h3 : 0 < s.length := by omega
    have h4 : s.length ≤ 32 := by omega
    simp [okName, hall, h3, h4]

theorem transitref26_Fares_ok (f : Fares) (hf : f.wf) : PCalls PR i_transitref26_Fares [.agg f.row] (fun v => v = pairV (checkRes f)) := by
  refine acalls_pop fn_transitref26_Fares_ok (by simp [fn_transitref26_Fares]) ?_
  simp -implicitDefEqProofs (disch := omega) only [go_sem, Nat.reduceAdd, Nat.reduceMul, Nat.reduceSub, Nat.reduceBEq, Nat.reduceLeDiff, Nat.reduceLT, fn_transitref26_Fares, e34_1, w34_1, e34_3, w34_3, c34_4, e34_6, w34_6, e34_8, w34_8, c34_9, e34_11, w34_11, e34_13, w34_13, e34_15, w34_15, e34_17, w34_17, e34_19, w34_19, c34_20, e34_22, w34_22, e34_24, w34_24, e34_26, w34_26, e34_28, w34_28, c34_29, e34_31, w34_31, c34_32, e34_34, w34_34, c34_35, c34_36, c34_37, c34_38, c34_39, e34_41, w34_41, c34_42, e34_44, w34_44, c34_45, c34_46, c34_47, c34_48, e34_50, w34_50, c34_51, c34_52, c34_53, c34_54, c34_55, e34_57, w34_57, c34_58, c34_59, c34_60, c34_61, c34_62, Fares.row]
  first | refine callD (transitref26_in_ok _ _ _) ?_ | refine callQD (transitref26_in_ok _ _ _) ?_
  simp -implicitDefEqProofs (disch := omega) only [go_sem, Nat.reduceAdd, Nat.reduceMul, Nat.reduceSub, Nat.reduceBEq, Nat.reduceLeDiff, Nat.reduceLT, fn_transitref26_Fares, e34_1, w34_1, e34_3, w34_3, c34_4, e34_6, w34_6, e34_8, w34_8, c34_9, e34_11, w34_11, e34_13, w34_13, e34_15, w34_15, e34_17, w34_17, e34_19, w34_19, c34_20, e34_22, w34_22, e34_24, w34_24, e34_26, w34_26, e34_28, w34_28, c34_29, e34_31, w34_31, c34_32, e34_34, w34_34, c34_35, c34_36, c34_37, c34_38, c34_39, e34_41, w34_41, c34_42, e34_44, w34_44, c34_45, c34_46, c34_47, c34_48, e34_50, w34_50, c34_51, c34_52, c34_53, c34_54, c34_55, e34_57, w34_57, c34_58, c34_59, c34_60, c34_61, c34_62]
  refine ifB (fun h1 => ?_) (fun h1 => ?_)
  rotate_left
  · simp -implicitDefEqProofs (disch := omega) only [go_sem, Nat.reduceAdd, Nat.reduceMul, Nat.reduceSub, Nat.reduceBEq, Nat.reduceLeDiff, Nat.reduceLT, fn_transitref26_Fares, e34_1, w34_1, e34_3, w34_3, c34_4, e34_6, w34_6, e34_8, w34_8, c34_9, e34_11, w34_11, e34_13, w34_13, e34_15, w34_15, e34_17, w34_17, e34_19, w34_19, c34_20, e34_22, w34_22, e34_24, w34_24, e34_26, w34_26, e34_28, w34_28, c34_29, e34_31, w34_31, c34_32, e34_34, w34_34, c34_35, c34_36, c34_37, c34_38, c34_39, e34_41, w34_41, c34_42, e34_44, w34_44, c34_45, c34_46, c34_47, c34_48, e34_50, w34_50, c34_51, c34_52, c34_53, c34_54, c34_55, e34_57, w34_57, c34_58, c34_59, c34_60, c34_61, c34_62, pairV, checkRes, h1]
    rfl
  simp -implicitDefEqProofs (disch := omega) only [go_sem, Nat.reduceAdd, Nat.reduceMul, Nat.reduceSub, Nat.reduceBEq, Nat.reduceLeDiff, Nat.reduceLT, fn_transitref26_Fares, e34_1, w34_1, e34_3, w34_3, c34_4, e34_6, w34_6, e34_8, w34_8, c34_9, e34_11, w34_11, e34_13, w34_13, e34_15, w34_15, e34_17, w34_17, e34_19, w34_19, c34_20, e34_22, w34_22, e34_24, w34_24, e34_26, w34_26, e34_28, w34_28, c34_29, e34_31, w34_31, c34_32, e34_34, w34_34, c34_35, c34_36, c34_37, c34_38, c34_39, e34_41, w34_41, c34_42, e34_44, w34_44, c34_45, c34_46, c34_47, c34_48, e34_50, w34_50, c34_51, c34_52, c34_53, c34_54, c34_55, e34_57, w34_57, c34_58, c34_59, c34_60, c34_61, c34_62]
  first | refine callD (transitref26_in_ok _ _ _) ?_ | refine callQD (transitref26_in_ok _ _ _) ?_
  simp -implicitDefEqProofs (disch := omega) only [go_sem, Nat.reduceAdd, Nat.reduceMul, Nat.reduceSub, Nat.reduceBEq, Nat.reduceLeDiff, Nat.reduceLT, fn_transitref26_Fares, e34_1, w34_1, e34_3, w34_3, c34_4, e34_6, w34_6, e34_8, w34_8, c34_9, e34_11, w34_11, e34_13, w34_13, e34_15, w34_15, e34_17, w34_17, e34_19, w34_19, c34_20, e34_22, w34_22, e34_24, w34_24, e34_26, w34_26, e34_28, w34_28, c34_29, e34_31, w34_31, c34_32, e34_34, w34_34, c34_35, c34_36, c34_37, c34_38, c34_39, e34_41, w34_41, c34_42, e34_44, w34_44, c34_45, c34_46, c34_47, c34_48, e34_50, w34_50, c34_51, c34_52, c34_53, c34_54, c34_55, e34_57, w34_57, c34_58, c34_59, c34_60, c34_61, c34_62]
  refine ifB (fun h2 => ?_) (fun h2 => ?_)
  rotate_left
  · simp -implicitDefEqProofs (disch := omega) only [go_sem, Nat.reduceAdd, Nat.reduceMul, Nat.reduceSub, Nat.reduceBEq, Nat.reduceLeDiff, Nat.reduceLT, fn_transitref26_Fares, e34_1, w34_1, e34_3, w34_3, c34_4, e34_6, w34_6, e34_8, w34_8, c34_9, e34_11, w34_11, e34_13, w34_13, e34_15, w34_15, e34_17, w34_17, e34_19, w34_19, c34_20, e34_22, w34_22, e34_24, w34_24, e34_26, w34_26, e34_28, w34_28, c34_29, e34_31, w34_31, c34_32, e34_34, w34_34, c34_35, c34_36, c34_37, c34_38, c34_39, e34_41, w34_41, c34_42, e34_44, w34_44, c34_45, c34_46, c34_47, c34_48, e34_50, w34_50, c34_51, c34_52, c34_53, c34_54, c34_55, e34_57, w34_57, c34_58, c34_59, c34_60, c34_61, c34_62, pairV, checkRes, h1, h2]
    rfl
  simp -implicitDefEqProofs (disch := omega) only [go_sem, Nat.reduceAdd, Nat.reduceMul, Nat.reduceSub, Nat.reduceBEq, Nat.reduceLeDiff, Nat.reduceLT, fn_transitref26_Fares, e34_1, w34_1, e34_3, w34_3, c34_4, e34_6, w34_6, e34_8, w34_8, c34_9, e34_11, w34_11, e34_13, w34_13, e34_15, w34_15, e34_17, w34_17, e34_19, w34_19, c34_20, e34_22, w34_22, e34_24, w34_24, e34_26, w34_26, e34_28, w34_28, c34_29, e34_31, w34_31, c34_32, e34_34, w34_34, c34_35, c34_36, c34_37, c34_38, c34_39, e34_41, w34_41, c34_42, e34_44, w34_44, c34_45, c34_46, c34_47, c34_48, e34_50, w34_50, c34_51, c34_52, c34_53, c34_54, c34_55, e34_57, w34_57, c34_58, c34_59, c34_60, c34_61, c34_62]
  first | refine callD (transitref26_in_ok _ _ _) ?_ | refine callQD (transitref26_in_ok _ _ _) ?_
  simp -implicitDefEqProofs (disch := omega) only [go_sem, Nat.reduceAdd, Nat.reduceMul, Nat.reduceSub, Nat.reduceBEq, Nat.reduceLeDiff, Nat.reduceLT, fn_transitref26_Fares, e34_1, w34_1, e34_3, w34_3, c34_4, e34_6, w34_6, e34_8, w34_8, c34_9, e34_11, w34_11, e34_13, w34_13, e34_15, w34_15, e34_17, w34_17, e34_19, w34_19, c34_20, e34_22, w34_22, e34_24, w34_24, e34_26, w34_26, e34_28, w34_28, c34_29, e34_31, w34_31, c34_32, e34_34, w34_34, c34_35, c34_36, c34_37, c34_38, c34_39, e34_41, w34_41, c34_42, e34_44, w34_44, c34_45, c34_46, c34_47, c34_48, e34_50, w34_50, c34_51, c34_52, c34_53, c34_54, c34_55, e34_57, w34_57, c34_58, c34_59, c34_60, c34_61, c34_62]
  refine ifB (fun h3 => ?_) (fun h3 => ?_)
  rotate_left
  · simp -implicitDefEqProofs (disch := omega) only [go_sem, Nat.reduceAdd, Nat.reduceMul, Nat.reduceSub, Nat.reduceBEq, Nat.reduceLeDiff, Nat.reduceLT, fn_transitref26_Fares, e34_1, w34_1, e34_3, w34_3, c34_4, e34_6, w34_6, e34_8, w34_8, c34_9, e34_11, w34_11, e34_13, w34_13, e34_15, w34_15, e34_17, w34_17, e34_19, w34_19, c34_20, e34_22, w34_22, e34_24, w34_24, e34_26, w34_26, e34_28, w34_28, c34_29, e34_31, w34_31, c34_32, e34_34, w34_34, c34_35, c34_36, c34_37, c34_38, c34_39, e34_41, w34_41, c34_42, e34_44, w34_44, c34_45, c34_46, c34_47, c34_48, e34_50, w34_50, c34_51, c34_52, c34_53, c34_54, c34_55, e34_57, w34_57, c34_58, c34_59, c34_60, c34_61, c34_62, pairV, checkRes, h1, h2, h3]
    rfl
  simp -implicitDefEqProofs (disch := omega) only [go_sem, Nat.reduceAdd, Nat.reduceMul, Nat.reduceSub, Nat.reduceBEq, Nat.reduceLeDiff, Nat.reduceLT, fn_transitref26_Fares, e34_1, w34_1, e34_3, w34_3, c34_4, e34_6, w34_6, e34_8, w34_8, c34_9, e34_11, w34_11, e34_13, w34_13, e34_15, w34_15, e34_17, w34_17, e34_19, w34_19, c34_20, e34_22, w34_22, e34_24, w34_24, e34_26, w34_26, e34_28, w34_28, c34_29, e34_31, w34_31, c34_32, e34_34, w34_34, c34_35, c34_36, c34_37, c34_38, c34_39, e34_41, w34_41, c34_42, e34_44, w34_44, c34_45, c34_46, c34_47, c34_48, e34_50, w34_50, c34_51, c34_52, c34_53, c34_54, c34_55, e34_57, w34_57, c34_58, c34_59, c34_60, c34_61, c34_62]
  refine ifD (fun h4 => ?_) (fun h4 => ?_)
  · have : 16 < f.products.length := by omega
    simp -implicitDefEqProofs (disch := omega) only [go_sem, Nat.reduceAdd, Nat.reduceMul, Nat.reduceSub, Nat.reduceBEq, Nat.reduceLeDiff, Nat.reduceLT, fn_transitref26_Fares, e34_1, w34_1, e34_3, w34_3, c34_4, e34_6, w34_6, e34_8, w34_8, c34_9, e34_11, w34_11, e34_13, w34_13, e34_15, w34_15, e34_17, w34_17, e34_19, w34_19, c34_20, e34_22, w34_22, e34_24, w34_24, e34_26, w34_26, e34_28, w34_28, c34_29, e34_31, w34_31, c34_32, e34_34, w34_34, c34_35, c34_36, c34_37, c34_38, c34_39, e34_41, w34_41, c34_42, e34_44, w34_44, c34_45, c34_46, c34_47, c34_48, e34_50, w34_50, c34_51, c34_52, c34_53, c34_54, c34_55, e34_57, w34_57, c34_58, c34_59, c34_60, c34_61, c34_62, pairV, checkRes, h1, h2, h3, this]
    rfl
  have h4' : ¬ 16 < f.products.length := by omega
  have hres : checkRes f = firstErr (prodErr f.products) f.products.length := by simp [checkRes, h1, h2, h3, h4']
  simp -implicitDefEqProofs (disch := omega) only [go_sem, Nat.reduceAdd, Nat.reduceMul, Nat.reduceSub, Nat.reduceBEq, Nat.reduceLeDiff, Nat.reduceLT, fn_transitref26_Fares, e34_1, w34_1, e34_3, w34_3, c34_4, e34_6, w34_6, e34_8, w34_8, c34_9, e34_11, w34_11, e34_13, w34_13, e34_15, w34_15, e34_17, w34_17, e34_19, w34_19, c34_20, e34_22, w34_22, e34_24, w34_24, e34_26, w34_26, e34_28, w34_28, c34_29, e34_31, w34_31, c34_32, e34_34, w34_34, c34_35, c34_36, c34_37, c34_38, c34_39, e34_41, w34_41, c34_42, e34_44, w34_44, c34_45, c34_46, c34_47, c34_48, e34_50, w34_50, c34_51, c34_52, c34_53, c34_54, c34_55, e34_57, w34_57, c34_58, c34_59, c34_60, c34_61, c34_62, hres]
  refine wpC_forL f.products (fun i vs M => (∀ k, k < i → prodErr f.products k = 0) ∧ vs = [.ptr 0 0, .int .i64 i] ∧ M = [.box f.row]) ⟨fun k hk => absurd hk (Nat.not_lt_zero k), rfl, rfl⟩ ?_ ?_
  · rintro i p vs M hp hi hd ⟨hall, rfl, rfl⟩
    have fin : ∀ e, prodErr f.products i = e → e ≠ 0 → V.tuple [.int .i64 i, .int .i64 e] = pairV (firstErr (prodErr f.products) f.products.length) := fun e h1 h2 => by
      rw [firstErr_at hi hall (by rw [h1]; exact h2), h1]; rfl
    have herr : prodErr f.products i = if okName p.id = false then 12 else if p.id ∈ (f.products.take i).map Product.id then 6 else if p.right = false then 2 else 0 := by simp only [prodErr, hp]
    simp -implicitDefEqProofs (disch := omega) only [go_sem, Nat.reduceAdd, Nat.reduceMul, Nat.reduceSub, Nat.reduceBEq, Nat.reduceLeDiff, Nat.reduceLT, fn_transitref26_Fares, e34_1, w34_1, e34_3, w34_3, c34_4, e34_6, w34_6, e34_8, w34_8, c34_9, e34_11, w34_11, e34_13, w34_13, e34_15, w34_15, e34_17, w34_17, e34_19, w34_19, c34_20, e34_22, w34_22, e34_24, w34_24, e34_26, w34_26, e34_28, w34_28, c34_29, e34_31, w34_31, c34_32, e34_34, w34_34, c34_35, c34_36, c34_37, c34_38, c34_39, e34_41, w34_41, c34_42, e34_44, w34_44, c34_45, c34_46, c34_47, c34_48, e34_50, w34_50, c34_51, c34_52, c34_53, c34_54, c34_55, e34_57, w34_57, c34_58, c34_59, c34_60, c34_61, c34_62, Fares.row, Product.row, hd, hp]
    first | refine callD (transitref26_ValidID_ok _ (hf.1 p (List.mem_of_getElem? hp)).1) ?_ | refine callQD (transitref26_ValidID_ok _ (hf.1 p (List.mem_of_getElem? hp)).1) ?_
    simp -implicitDefEqProofs (disch := omega) only [go_sem, Nat.reduceAdd, Nat.reduceMul, Nat.reduceSub, Nat.reduceBEq, Nat.reduceLeDiff, Nat.reduceLT, fn_transitref26_Fares, e34_1, w34_1, e34_3, w34_3, c34_4, e34_6, w34_6, e34_8, w34_8, c34_9, e34_11, w34_11, e34_13, w34_13, e34_15, w34_15, e34_17, w34_17, e34_19, w34_19, c34_20, e34_22, w34_22, e34_24, w34_24, e34_26, w34_26, e34_28, w34_28, c34_29, e34_31, w34_31, c34_32, e34_34, w34_34, c34_35, c34_36, c34_37, c34_38, c34_39, e34_41, w34_41, c34_42, e34_44, w34_44, c34_45, c34_46, c34_47, c34_48, e34_50, w34_50, c34_51, c34_52, c34_53, c34_54, c34_55, e34_57, w34_57, c34_58, c34_59, c34_60, c34_61, c34_62, Fares.row, Product.row]
    refine ifB (fun g1 => ?_) (fun g1 => ?_)
    rotate_left
    · simp -implicitDefEqProofs (disch := omega) only [go_sem, Nat.reduceAdd, Nat.reduceMul, Nat.reduceSub, Nat.reduceBEq, Nat.reduceLeDiff, Nat.reduceLT, fn_transitref26_Fares, e34_1, w34_1, e34_3, w34_3, c34_4, e34_6, w34_6, e34_8, w34_8, c34_9, e34_11, w34_11, e34_13, w34_13, e34_15, w34_15, e34_17, w34_17, e34_19, w34_19, c34_20, e34_22, w34_22, e34_24, w34_24, e34_26, w34_26, e34_28, w34_28, c34_29, e34_31, w34_31, c34_32, e34_34, w34_34, c34_35, c34_36, c34_37, c34_38, c34_39, e34_41, w34_41, c34_42, e34_44, w34_44, c34_45, c34_46, c34_47, c34_48, e34_50, w34_50, c34_51, c34_52, c34_53, c34_54, c34_55, e34_57, w34_57, c34_58, c34_59, c34_60, c34_61, c34_62, Fares.row, Product.row]
      exact fin 12 (by rw [herr, if_pos g1]) (by decide)
    have g1' : ¬ okName p.id = false := by simp [g1]
    simp -implicitDefEqProofs (disch := omega) only [go_sem, Nat.reduceAdd, Nat.reduceMul, Nat.reduceSub, Nat.reduceBEq, Nat.reduceLeDiff, Nat.reduceLT, fn_transitref26_Fares, e34_1, w34_1, e34_3, w34_3, c34_4, e34_6, w34_6, e34_8, w34_8, c34_9, e34_11, w34_11, e34_13, w34_13, e34_15, w34_15, e34_17, w34_17, e34_19, w34_19, c34_20, e34_22, w34_22, e34_24, w34_24, e34_26, w34_26, e34_28, w34_28, c34_29, e34_31, w34_31, c34_32, e34_34, w34_34, c34_35, c34_36, c34_37, c34_38, c34_39, e34_41, w34_41, c34_42, e34_44, w34_44, c34_45, c34_46, c34_47, c34_48, e34_50, w34_50, c34_51, c34_52, c34_53, c34_54, c34_55, e34_57, w34_57, c34_58, c34_59, c34_60, c34_61, c34_62, Fares.row, Product.row]
    refine wpC_for i (fun k vs M => p.id ∉ (f.products.take k).map Product.id ∧ vs = [.ptr 0 0, .int .i64 i, .ptr 1 0, .int .i64 k] ∧ M = [.box f.row, .box p.row]) ⟨by simp, rfl, rfl⟩ ?_ ?_
    · rintro k vs M hk hdk ⟨hno, rfl, rfl⟩
      obtain ⟨q, hq⟩ : ∃ q, f.products[k]? = some q := ⟨f.products[k], by simp⟩
      simp -implicitDefEqProofs (disch := omega) only [go_sem, Nat.reduceAdd, Nat.reduceMul, Nat.reduceSub, Nat.reduceBEq, Nat.reduceLeDiff, Nat.reduceLT, fn_transitref26_Fares, e34_1, w34_1, e34_3, w34_3, c34_4, e34_6, w34_6, e34_8, w34_8, c34_9, e34_11, w34_11, e34_13, w34_13, e34_15, w34_15, e34_17, w34_17, e34_19, w34_19, c34_20, e34_22, w34_22, e34_24, w34_24, e34_26, w34_26, e34_28, w34_28, c34_29, e34_31, w34_31, c34_32, e34_34, w34_34, c34_35, c34_36, c34_37, c34_38, c34_39, e34_41, w34_41, c34_42, e34_44, w34_44, c34_45, c34_46, c34_47, c34_48, e34_50, w34_50, c34_51, c34_52, c34_53, c34_54, c34_55, e34_57, w34_57, c34_58, c34_59, c34_60, c34_61, c34_62, Fares.row, Product.row, hdk, hp, hq]
      refine ifD (fun g2 => ?_) (fun g2 => ?_)
      · simp -implicitDefEqProofs (disch := omega) only [go_sem, Nat.reduceAdd, Nat.reduceMul, Nat.reduceSub, Nat.reduceBEq, Nat.reduceLeDiff, Nat.reduceLT, fn_transitref26_Fares, e34_1, w34_1, e34_3, w34_3, c34_4, e34_6, w34_6, e34_8, w34_8, c34_9, e34_11, w34_11, e34_13, w34_13, e34_15, w34_15, e34_17, w34_17, e34_19, w34_19, c34_20, e34_22, w34_22, e34_24, w34_24, e34_26, w34_26, e34_28, w34_28, c34_29, e34_31, w34_31, c34_32, e34_34, w34_34, c34_35, c34_36, c34_37, c34_38, c34_39, e34_41, w34_41, c34_42, e34_44, w34_44, c34_45, c34_46, c34_47, c34_48, e34_50, w34_50, c34_51, c34_52, c34_53, c34_54, c34_55, e34_57, w34_57, c34_58, c34_59, c34_60, c34_61, c34_62, Fares.row, Product.row]
        refine fin 6 ?_ (by decide)
        rw [herr, if_neg g1', if_pos]
        rw [List.mem_map]
        exact ⟨q, List.mem_of_getElem? (i := k) (by rw [List.getElem?_take_of_lt hk]; exact hq), g2⟩
      · simp -implicitDefEqProofs (disch := omega) only [go_sem, Nat.reduceAdd, Nat.reduceMul, Nat.reduceSub, Nat.reduceBEq, Nat.reduceLeDiff, Nat.reduceLT, fn_transitref26_Fares, e34_1, w34_1, e34_3, w34_3, c34_4, e34_6, w34_6, e34_8, w34_8, c34_9, e34_11, w34_11, e34_13, w34_13, e34_15, w34_15, e34_17, w34_17, e34_19, w34_19, c34_20, e34_22, w34_22, e34_24, w34_24, e34_26, w34_26, e34_28, w34_28, c34_29, e34_31, w34_31, c34_32, e34_34, w34_34, c34_35, c34_36, c34_37, c34_38, c34_39, e34_41, w34_41, c34_42, e34_44, w34_44, c34_45, c34_46, c34_47, c34_48, e34_50, w34_50, c34_51, c34_52, c34_53, c34_54, c34_55, e34_57, w34_57, c34_58, c34_59, c34_60, c34_61, c34_62, Fares.row, Product.row]
        refine next_stay hk ⟨?_, rfl, rfl⟩
        rw [List.take_add_one, hq, List.map_append]
        simp only [List.mem_append, not_or]
        exact ⟨hno, by simpa using fun e => g2 e.symm⟩
    · rintro vs M ⟨g2, rfl, rfl⟩
      simp -implicitDefEqProofs (disch := omega) only [go_sem, Nat.reduceAdd, Nat.reduceMul, Nat.reduceSub, Nat.reduceBEq, Nat.reduceLeDiff, Nat.reduceLT, fn_transitref26_Fares, e34_1, w34_1, e34_3, w34_3, c34_4, e34_6, w34_6, e34_8, w34_8, c34_9, e34_11, w34_11, e34_13, w34_13, e34_15, w34_15, e34_17, w34_17, e34_19, w34_19, c34_20, e34_22, w34_22, e34_24, w34_24, e34_26, w34_26, e34_28, w34_28, c34_29, e34_31, w34_31, c34_32, e34_34, w34_34, c34_35, c34_36, c34_37, c34_38, c34_39, e34_41, w34_41, c34_42, e34_44, w34_44, c34_45, c34_46, c34_47, c34_48, e34_50, w34_50, c34_51, c34_52, c34_53, c34_54, c34_55, e34_57, w34_57, c34_58, c34_59, c34_60, c34_61, c34_62, Fares.row, Product.row, dec_irrefl, hp]
      have bad : p.right = false → prodErr f.products i = 2 := fun h => by rw [herr, if_neg g1', if_neg g2, if_pos h]
      first | refine callD (transitref26_in_ok _ _ _) ?_ | refine callQD (transitref26_in_ok _ _ _) ?_
      simp -implicitDefEqProofs (disch := omega) only [go_sem, Nat.reduceAdd, Nat.reduceMul, Nat.reduceSub, Nat.reduceBEq, Nat.reduceLeDiff, Nat.reduceLT, fn_transitref26_Fares, e34_1, w34_1, e34_3, w34_3, c34_4, e34_6, w34_6, e34_8, w34_8, c34_9, e34_11, w34_11, e34_13, w34_13, e34_15, w34_15, e34_17, w34_17, e34_19, w34_19, c34_20, e34_22, w34_22, e34_24, w34_24, e34_26, w34_26, e34_28, w34_28, c34_29, e34_31, w34_31, c34_32, e34_34, w34_34, c34_35, c34_36, c34_37, c34_38, c34_39, e34_41, w34_41, c34_42, e34_44, w34_44, c34_45, c34_46, c34_47, c34_48, e34_50, w34_50, c34_51, c34_52, c34_53, c34_54, c34_55, e34_57, w34_57, c34_58, c34_59, c34_60, c34_61, c34_62, Fares.row, Product.row]
      refine ifB (fun k1 => ?_) (fun k1 => ?_)
      rotate_left
      · simp -implicitDefEqProofs (disch := omega) only [go_sem, Nat.reduceAdd, Nat.reduceMul, Nat.reduceSub, Nat.reduceBEq, Nat.reduceLeDiff, Nat.reduceLT, fn_transitref26_Fares, e34_1, w34_1, e34_3, w34_3, c34_4, e34_6, w34_6, e34_8, w34_8, c34_9, e34_11, w34_11, e34_13, w34_13, e34_15, w34_15, e34_17, w34_17, e34_19, w34_19, c34_20, e34_22, w34_22, e34_24, w34_24, e34_26, w34_26, e34_28, w34_28, c34_29, e34_31, w34_31, c34_32, e34_34, w34_34, c34_35, c34_36, c34_37, c34_38, c34_39, e34_41, w34_41, c34_42, e34_44, w34_44, c34_45, c34_46, c34_47, c34_48, e34_50, w34_50, c34_51, c34_52, c34_53, c34_54, c34_55, e34_57, w34_57, c34_58, c34_59, c34_60, c34_61, c34_62, Fares.row, Product.row]
        exact fin 2 (bad (by simp [Product.right, k1])) (by decide)
      simp -implicitDefEqProofs (disch := omega) only [go_sem, Nat.reduceAdd, Nat.reduceMul, Nat.reduceSub, Nat.reduceBEq, Nat.reduceLeDiff, Nat.reduceLT, fn_transitref26_Fares, e34_1, w34_1, e34_3, w34_3, c34_4, e34_6, w34_6, e34_8, w34_8, c34_9, e34_11, w34_11, e34_13, w34_13, e34_15, w34_15, e34_17, w34_17, e34_19, w34_19, c34_20, e34_22, w34_22, e34_24, w34_24, e34_26, w34_26, e34_28, w34_28, c34_29, e34_31, w34_31, c34_32, e34_34, w34_34, c34_35, c34_36, c34_37, c34_38, c34_39, e34_41, w34_41, c34_42, e34_44, w34_44, c34_45, c34_46, c34_47, c34_48, e34_50, w34_50, c34_51, c34_52, c34_53, c34_54, c34_55, e34_57, w34_57, c34_58, c34_59, c34_60, c34_61, c34_62, Fares.row, Product.row]
      first | refine callD (transitref26_in_ok _ _ _) ?_ | refine callQD (transitref26_in_ok _ _ _) ?_
      simp -implicitDefEqProofs (disch := omega) only [go_sem, Nat.reduceAdd, Nat.reduceMul, Nat.reduceSub, Nat.reduceBEq, Nat.reduceLeDiff, Nat.reduceLT, fn_transitref26_Fares, e34_1, w34_1, e34_3, w34_3, c34_4, e34_6, w34_6, e34_8, w34_8, c34_9, e34_11, w34_11, e34_13, w34_13, e34_15, w34_15, e34_17, w34_17, e34_19, w34_19, c34_20, e34_22, w34_22, e34_24, w34_24, e34_26, w34_26, e34_28, w34_28, c34_29, e34_31, w34_31, c34_32, e34_34, w34_34, c34_35, c34_36, c34_37, c34_38, c34_39, e34_41, w34_41, c34_42, e34_44, w34_44, c34_45, c34_46, c34_47, c34_48, e34_50, w34_50, c34_51, c34_52, c34_53, c34_54, c34_55, e34_57, w34_57, c34_58, c34_59, c34_60, c34_61, c34_62, Fares.row, Product.row]
      refine ifB (fun k2 => ?_) (fun k2 => ?_)
      rotate_left
      · simp -implicitDefEqProofs (disch := omega) only [go_sem, Nat.reduceAdd, Nat.reduceMul, Nat.reduceSub, Nat.reduceBEq, Nat.reduceLeDiff, Nat.reduceLT, fn_transitref26_Fares, e34_1, w34_1, e34_3, w34_3, c34_4, e34_6, w34_6, e34_8, w34_8, c34_9, e34_11, w34_11, e34_13, w34_13, e34_15, w34_15, e34_17, w34_17, e34_19, w34_19, c34_20, e34_22, w34_22, e34_24, w34_24, e34_26, w34_26, e34_28, w34_28, c34_29, e34_31, w34_31, c34_32, e34_34, w34_34, c34_35, c34_36, c34_37, c34_38, c34_39, e34_41, w34_41, c34_42, e34_44, w34_44, c34_45, c34_46, c34_47, c34_48, e34_50, w34_50, c34_51, c34_52, c34_53, c34_54, c34_55, e34_57, w34_57, c34_58, c34_59, c34_60, c34_61, c34_62, Fares.row, Product.row]
        exact fin 2 (bad (by simp [Product.right, k2])) (by decide)
      simp -implicitDefEqProofs (disch := omega) only [go_sem, Nat.reduceAdd, Nat.reduceMul, Nat.reduceSub, Nat.reduceBEq, Nat.reduceLeDiff, Nat.reduceLT, fn_transitref26_Fares, e34_1, w34_1, e34_3, w34_3, c34_4, e34_6, w34_6, e34_8, w34_8, c34_9, e34_11, w34_11, e34_13, w34_13, e34_15, w34_15, e34_17, w34_17, e34_19, w34_19, c34_20, e34_22, w34_22, e34_24, w34_24, e34_26, w34_26, e34_28, w34_28, c34_29, e34_31, w34_31, c34_32, e34_34, w34_34, c34_35, c34_36, c34_37, c34_38, c34_39, e34_41, w34_41, c34_42, e34_44, w34_44, c34_45, c34_46, c34_47, c34_48, e34_50, w34_50, c34_51, c34_52, c34_53, c34_54, c34_55, e34_57, w34_57, c34_58, c34_59, c34_60, c34_61, c34_62, Fares.row, Product.row]
      first | refine callD (transitref26_in_ok _ _ _) ?_ | refine callQD (transitref26_in_ok _ _ _) ?_
      simp -implicitDefEqProofs (disch := omega) only [go_sem, Nat.reduceAdd, Nat.reduceMul, Nat.reduceSub, Nat.reduceBEq, Nat.reduceLeDiff, Nat.reduceLT, fn_transitref26_Fares, e34_1, w34_1, e34_3, w34_3, c34_4, e34_6, w34_6, e34_8, w34_8, c34_9, e34_11, w34_11, e34_13, w34_13, e34_15, w34_15, e34_17, w34_17, e34_19, w34_19, c34_20, e34_22, w34_22, e34_24, w34_24, e34_26, w34_26, e34_28, w34_28, c34_29, e34_31, w34_31, c34_32, e34_34, w34_34, c34_35, c34_36, c34_37, c34_38, c34_39, e34_41, w34_41, c34_42, e34_44, w34_44, c34_45, c34_46, c34_47, c34_48, e34_50, w34_50, c34_51, c34_52, c34_53, c34_54, c34_55, e34_57, w34_57, c34_58, c34_59, c34_60, c34_61, c34_62, Fares.row, Product.row]
      refine ifB (fun k3 => ?_) (fun k3 => ?_)
      rotate_left
      · simp -implicitDefEqProofs (disch := omega) only [go_sem, Nat.reduceAdd, Nat.reduceMul, Nat.reduceSub, Nat.reduceBEq, Nat.reduceLeDiff, Nat.reduceLT, fn_transitref26_Fares, e34_1, w34_1, e34_3, w34_3, c34_4, e34_6, w34_6, e34_8, w34_8, c34_9, e34_11, w34_11, e34_13, w34_13, e34_15, w34_15, e34_17, w34_17, e34_19, w34_19, c34_20, e34_22, w34_22, e34_24, w34_24, e34_26, w34_26, e34_28, w34_28, c34_29, e34_31, w34_31, c34_32, e34_34, w34_34, c34_35, c34_36, c34_37, c34_38, c34_39, e34_41, w34_41, c34_42, e34_44, w34_44, c34_45, c34_46, c34_47, c34_48, e34_50, w34_50, c34_51, c34_52, c34_53, c34_54, c34_55, e34_57, w34_57, c34_58, c34_59, c34_60, c34_61, c34_62, Fares.row, Product.row]
        exact fin 2 (bad (by simp [Product.right, k3])) (by decide)
      simp -implicitDefEqProofs (disch := omega) only [go_sem, Nat.reduceAdd, Nat.reduceMul, Nat.reduceSub, Nat.reduceBEq, Nat.reduceLeDiff, Nat.reduceLT, fn_transitref26_Fares, e34_1, w34_1, e34_3, w34_3, c34_4, e34_6, w34_6, e34_8, w34_8, c34_9, e34_11, w34_11, e34_13, w34_13, e34_15, w34_15, e34_17, w34_17, e34_19, w34_19, c34_20, e34_22, w34_22, e34_24, w34_24, e34_26, w34_26, e34_28, w34_28, c34_29, e34_31, w34_31, c34_32, e34_34, w34_34, c34_35, c34_36, c34_37, c34_38, c34_39, e34_41, w34_41, c34_42, e34_44, w34_44, c34_45, c34_46, c34_47, c34_48, e34_50, w34_50, c34_51, c34_52, c34_53, c34_54, c34_55, e34_57, w34_57, c34_58, c34_59, c34_60, c34_61, c34_62, Fares.row, Product.row]
      first | refine callD (transitref26_in_ok _ _ _) ?_ | refine callQD (transitref26_in_ok _ _ _) ?_
      simp -implicitDefEqProofs (disch := omega) only [go_sem, Nat.reduceAdd, Nat.reduceMul, Nat.reduceSub, Nat.reduceBEq, Nat.reduceLeDiff, Nat.reduceLT, fn_transitref26_Fares, e34_1, w34_1, e34_3, w34_3, c34_4, e34_6, w34_6, e34_8, w34_8, c34_9, e34_11, w34_11, e34_13, w34_13, e34_15, w34_15, e34_17, w34_17, e34_19, w34_19, c34_20, e34_22, w34_22, e34_24, w34_24, e34_26, w34_26, e34_28, w34_28, c34_29, e34_31, w34_31, c34_32, e34_34, w34_34, c34_35, c34_36, c34_37, c34_38, c34_39, e34_41, w34_41, c34_42, e34_44, w34_44, c34_45, c34_46, c34_47, c34_48, e34_50, w34_50, c34_51, c34_52, c34_53, c34_54, c34_55, e34_57, w34_57, c34_58, c34_59, c34_60, c34_61, c34_62, Fares.row, Product.row]
      refine ifB (fun k4 => ?_) (fun k4 => ?_)
      rotate_left
      · simp -implicitDefEqProofs (disch := omega) only [go_sem, Nat.reduceAdd, Nat.reduceMul, Nat.reduceSub, Nat.reduceBEq, Nat.reduceLeDiff, Nat.reduceLT, fn_transitref26_Fares, e34_1, w34_1, e34_3, w34_3, c34_4, e34_6, w34_6, e34_8, w34_8, c34_9, e34_11, w34_11, e34_13, w34_13, e34_15, w34_15, e34_17, w34_17, e34_19, w34_19, c34_20, e34_22, w34_22, e34_24, w34_24, e34_26, w34_26, e34_28, w34_28, c34_29, e34_31, w34_31, c34_32, e34_34, w34_34, c34_35, c34_36, c34_37, c34_38, c34_39, e34_41, w34_41, c34_42, e34_44, w34_44, c34_45, c34_46, c34_47, c34_48, e34_50, w34_50, c34_51, c34_52, c34_53, c34_54, c34_55, e34_57, w34_57, c34_58, c34_59, c34_60, c34_61, c34_62, Fares.row, Product.row]
        exact fin 2 (bad (by simp [Product.right, k4])) (by decide)
      simp -implicitDefEqProofs (disch := omega) only [go_sem, Nat.reduceAdd, Nat.reduceMul, Nat.reduceSub, Nat.reduceBEq, Nat.reduceLeDiff, Nat.reduceLT, fn_transitref26_Fares, e34_1, w34_1, e34_3, w34_3, c34_4, e34_6, w34_6, e34_8, w34_8, c34_9, e34_11, w34_11, e34_13, w34_13, e34_15, w34_15, e34_17, w34_17, e34_19, w34_19, c34_20, e34_22, w34_22, e34_24, w34_24, e34_26, w34_26, e34_28, w34_28, c34_29, e34_31, w34_31, c34_32, e34_34, w34_34, c34_35, c34_36, c34_37, c34_38, c34_39, e34_41, w34_41, c34_42, e34_44, w34_44, c34_45, c34_46, c34_47, c34_48, e34_50, w34_50, c34_51, c34_52, c34_53, c34_54, c34_55, e34_57, w34_57, c34_58, c34_59, c34_60, c34_61, c34_62, Fares.row, Product.row]
      first | refine callD (transitref26_in_ok _ _ _) ?_ | refine callQD (transitref26_in_ok _ _ _) ?_
      simp -implicitDefEqProofs (disch := omega) only [go_sem, Nat.reduceAdd, Nat.reduceMul, Nat.reduceSub, Nat.reduceBEq, Nat.reduceLeDiff, Nat.reduceLT, fn_transitref26_Fares, e34_1, w34_1, e34_3, w34_3, c34_4, e34_6, w34_6, e34_8, w34_8, c34_9, e34_11, w34_11, e34_13, w34_13, e34_15, w34_15, e34_17, w34_17, e34_19, w34_19, c34_20, e34_22, w34_22, e34_24, w34_24, e34_26, w34_26, e34_28, w34_28, c34_29, e34_31, w34_31, c34_32, e34_34, w34_34, c34_35, c34_36, c34_37, c34_38, c34_39, e34_41, w34_41, c34_42, e34_44, w34_44, c34_45, c34_46, c34_47, c34_48, e34_50, w34_50, c34_51, c34_52, c34_53, c34_54, c34_55, e34_57, w34_57, c34_58, c34_59, c34_60, c34_61, c34_62, Fares.row, Product.row]
      refine ifB (fun k5 => ?_) (fun k5 => ?_)
      rotate_left
      · simp -implicitDefEqProofs (disch := omega) only [go_sem, Nat.reduceAdd, Nat.reduceMul, Nat.reduceSub, Nat.reduceBEq, Nat.reduceLeDiff, Nat.reduceLT, fn_transitref26_Fares, e34_1, w34_1, e34_3, w34_3, c34_4, e34_6, w34_6, e34_8, w34_8, c34_9, e34_11, w34_11, e34_13, w34_13, e34_15, w34_15, e34_17, w34_17, e34_19, w34_19, c34_20, e34_22, w34_22, e34_24, w34_24, e34_26, w34_26, e34_28, w34_28, c34_29, e34_31, w34_31, c34_32, e34_34, w34_34, c34_35, c34_36, c34_37, c34_38, c34_39, e34_41, w34_41, c34_42, e34_44, w34_44, c34_45, c34_46, c34_47, c34_48, e34_50, w34_50, c34_51, c34_52, c34_53, c34_54, c34_55, e34_57, w34_57, c34_58, c34_59, c34_60, c34_61, c34_62, Fares.row, Product.row]
        exact fin 2 (bad (by simp [Product.right, k5])) (by decide)
      simp -implicitDefEqProofs (disch := omega) only [go_sem, Nat.reduceAdd, Nat.reduceMul, Nat.reduceSub, Nat.reduceBEq, Nat.reduceLeDiff, Nat.reduceLT, fn_transitref26_Fares, e34_1, w34_1, e34_3, w34_3, c34_4, e34_6, w34_6, e34_8, w34_8, c34_9, e34_11, w34_11, e34_13, w34_13, e34_15, w34_15, e34_17, w34_17, e34_19, w34_19, c34_20, e34_22, w34_22, e34_24, w34_24, e34_26, w34_26, e34_28, w34_28, c34_29, e34_31, w34_31, c34_32, e34_34, w34_34, c34_35, c34_36, c34_37, c34_38, c34_39, e34_41, w34_41, c34_42, e34_44, w34_44, c34_45, c34_46, c34_47, c34_48, e34_50, w34_50, c34_51, c34_52, c34_53, c34_54, c34_55, e34_57, w34_57, c34_58, c34_59, c34_60, c34_61, c34_62, Fares.row, Product.row]
      refine next_pop hi rfl ⟨fun k hk => ?_, rfl, rfl⟩
      rcases Nat.lt_or_ge k i with hlt | hge
      · exact hall k hlt
      · have : k = i := by omega
        subst this
        rw [herr, if_neg g1', if_neg g2, if_neg (by simp [Product.right, k1, k2, k3, k4, k5])]
  · rintro vs M ⟨hall, rfl, rfl⟩
    simp -implicitDefEqProofs (disch := omega) only [go_sem, Nat.reduceAdd, Nat.reduceMul, Nat.reduceSub, Nat.reduceBEq, Nat.reduceLeDiff, Nat.reduceLT, fn_transitref26_Fares, e34_1, w34_1, e34_3, w34_3, c34_4, e34_6, w34_6, e34_8, w34_8, c34_9, e34_11, w34_11, e34_13, w34_13, e34_15, w34_15, e34_17, w34_17, e34_19, w34_19, c34_20, e34_22, w34_22, e34_24, w34_24, e34_26, w34_26, e34_28, w34_28, c34_29, e34_31, w34_31, c34_32, e34_34, w34_34, c34_35, c34_36, c34_37, c34_38, c34_39, e34_41, w34_41, c34_42, e34_44, w34_44, c34_45, c34_46, c34_47, c34_48, e34_50, w34_50, c34_51, c34_52, c34_53, c34_54, c34_55, e34_57, w34_57, c34_58, c34_59, c34_60, c34_61, c34_62, Fares.row, Product.row, dec_irrefl, firstErr_none hall, pairV]

end Go.Vm.C

