/- Contracts: numbers, fares, covering, the price of a ticket. -/
import Derived.Test.YtojpmklnmaomlaaT2

namespace Go.Vm.C
open Go.Vm
set_option maxHeartbeats 1000000
set_option maxRecDepth 10000
set_option linter.unusedSimpArgs false
set_option linter.unusedVariables false

/-! ### The fares' small functions -/
theorem fare_within_ok (a b d : Int) (ha : I64 a) (hb : I64 b) (hd : I64 d) (h0 : 0 ≤ d) : PCalls PR i_fare_within [.int .i64 a, .int .i64 b, .int .i64 d] (fun v => v = .bool (decide (b - a ≤ d))) := by
  obtain ⟨a1, a2⟩ := ha
  obtain ⟨b1, b2⟩ := hb
  obtain ⟨d1, d2⟩ := hd
  refine acalls_pop fn_fare_within_ok (by simp [fn_fare_within]) ?_
  simp -implicitDefEqProofs (disch := omega) only [go_sem, Nat.reduceAdd, Nat.reduceMul, Nat.reduceSub, Nat.reduceBEq, Nat.reduceLeDiff, Nat.reduceLT, fn_fare_within, e78_1, w78_1, e78_3, w78_3, c78_4, c78_5, open_if]
  repeat' (refine BIf_dec (fun h => ?_) (fun h => ?_))
  all_goals
    rw [Bool.eq_iff_iff]
    simp only [decide_eq_true_eq, u64_wrap, i64_wrap, true_iff, false_iff, Bool.false_eq_true]
    omega

theorem transitref35_within_ok (a b d : Int) (ha : I64 a) (hb : I64 b) (hd : I64 d) (h0 : 0 ≤ d) : PCalls PR i_transitref35_within [.int .i64 a, .int .i64 b, .int .i64 d] (fun v => v = .bool (decide (b - a ≤ d))) := by
  obtain ⟨a1, a2⟩ := ha
  obtain ⟨b1, b2⟩ := hb
  obtain ⟨d1, d2⟩ := hd
  refine acalls_pop fn_transitref35_within_ok (by simp [fn_transitref35_within]) ?_
  simp -implicitDefEqProofs (disch := omega) only [go_sem, Nat.reduceAdd, Nat.reduceMul, Nat.reduceSub, Nat.reduceBEq, Nat.reduceLeDiff, Nat.reduceLT, fn_transitref35_within, e59_1, w59_1, e59_3, w59_3, c59_4, e59_6, w59_6, e59_8, w59_8, c59_9, c59_10, c59_11]
  refine ifD (fun h => ?_) (fun h => ?_)
  all_goals
    simp -implicitDefEqProofs (disch := omega) only [go_sem, Nat.reduceAdd, Nat.reduceMul, Nat.reduceSub, Nat.reduceBEq, Nat.reduceLeDiff, Nat.reduceLT, fn_transitref35_within, e59_1, w59_1, e59_3, w59_3, c59_4, e59_6, w59_6, e59_8, w59_8, c59_9, c59_10, c59_11]
    rw [Bool.eq_iff_iff]
    simp only [decide_eq_true_eq, u64_wrap, i64_wrap, true_iff, false_iff, Bool.false_eq_true]
    omega

/-- The fare of a sum. -/
def capped (f : Fares) (s : Int) : Int := if 0 < f.limit ∧ f.limit < s then f.limit else s

theorem fare_capped_ok (f : Fares) (s : Int) : PCalls PR i_fare_capped [.agg f.row, .int .i64 s] (fun v => v = .int .i64 (capped f s)) := by
  refine acalls_pop fn_fare_capped_ok (by simp [fn_fare_capped]) ?_
  simp -implicitDefEqProofs (disch := omega) only [go_sem, Nat.reduceAdd, Nat.reduceMul, Nat.reduceSub, Nat.reduceBEq, Nat.reduceLeDiff, Nat.reduceLT, fn_fare_capped, e40_1, w40_1, e40_3, w40_3, c40_4, e40_6, w40_6, e40_8, w40_8, c40_9, c40_10, c40_11, Fares.row]
  refine ifD (fun h => ?_) (fun h => ?_)
  · simp -implicitDefEqProofs (disch := omega) only [go_sem, Nat.reduceAdd, Nat.reduceMul, Nat.reduceSub, Nat.reduceBEq, Nat.reduceLeDiff, Nat.reduceLT, fn_fare_capped, e40_1, w40_1, e40_3, w40_3, c40_4, e40_6, w40_6, e40_8, w40_8, c40_9, c40_10, c40_11, Fares.row]
    refine ifD (fun h2 => ?_) (fun h2 => ?_)
    · simp -implicitDefEqProofs (disch := omega) only [go_sem, Nat.reduceAdd, Nat.reduceMul, Nat.reduceSub, Nat.reduceBEq, Nat.reduceLeDiff, Nat.reduceLT, fn_fare_capped, e40_1, w40_1, e40_3, w40_3, c40_4, e40_6, w40_6, e40_8, w40_8, c40_9, c40_10, c40_11, Fares.row, capped]
      rw [if_pos ⟨h, h2⟩]
    · simp -implicitDefEqProofs (disch := omega) only [go_sem, Nat.reduceAdd, Nat.reduceMul, Nat.reduceSub, Nat.reduceBEq, Nat.reduceLeDiff, Nat.reduceLT, fn_fare_capped, e40_1, w40_1, e40_3, w40_3, c40_4, e40_6, w40_6, e40_8, w40_8, c40_9, c40_10, c40_11, Fares.row, capped]
      rw [if_neg (fun e => h2 e.2)]
  · simp -implicitDefEqProofs (disch := omega) only [go_sem, Nat.reduceAdd, Nat.reduceMul, Nat.reduceSub, Nat.reduceBEq, Nat.reduceLeDiff, Nat.reduceLT, fn_fare_capped, e40_1, w40_1, e40_3, w40_3, c40_4, e40_6, w40_6, e40_8, w40_8, c40_9, c40_10, c40_11, Fares.row, capped]
    rw [if_neg (fun e => h e.1)]

theorem transitref35_Capped_ok (f : Fares) (s : Int) (h0 : 0 ≤ f.limit) : PCalls PR i_transitref35_Capped [.agg f.row, .int .i64 s] (fun v => v = .int .i64 (capped f s)) := by
  refine acalls_pop fn_transitref35_Capped_ok (by simp [fn_transitref35_Capped]) ?_
  simp -implicitDefEqProofs (disch := omega) only [go_sem, Nat.reduceAdd, Nat.reduceMul, Nat.reduceSub, Nat.reduceBEq, Nat.reduceLeDiff, Nat.reduceLT, fn_transitref35_Capped, e31_1, w31_1, e31_3, w31_3, c31_4, e31_6, w31_6, e31_8, w31_8, c31_9, c31_10, c31_11, Fares.row]
  refine ifD (fun h => ?_) (fun h => ?_)
  · simp -implicitDefEqProofs (disch := omega) only [go_sem, Nat.reduceAdd, Nat.reduceMul, Nat.reduceSub, Nat.reduceBEq, Nat.reduceLeDiff, Nat.reduceLT, fn_transitref35_Capped, e31_1, w31_1, e31_3, w31_3, c31_4, e31_6, w31_6, e31_8, w31_8, c31_9, c31_10, c31_11, Fares.row, capped]
    rw [if_neg (fun e => by omega)]
  · simp -implicitDefEqProofs (disch := omega) only [go_sem, Nat.reduceAdd, Nat.reduceMul, Nat.reduceSub, Nat.reduceBEq, Nat.reduceLeDiff, Nat.reduceLT, fn_transitref35_Capped, e31_1, w31_1, e31_3, w31_3, c31_4, e31_6, w31_6, e31_8, w31_8, c31_9, c31_10, c31_11, Fares.row, capped]
    split <;> omega

theorem transitref26_in_ok (n low high : Int) : PCalls PR i_transitref26_in [.int .i64 n, .int .i64 low, .int .i64 high] (fun v => v = .bool (within n low high)) := by
  refine acalls_pop fn_transitref26_in_ok (by simp [fn_transitref26_in]) ?_
  simp -implicitDefEqProofs (disch := omega) only [go_sem, Nat.reduceAdd, Nat.reduceMul, Nat.reduceSub, Nat.reduceBEq, Nat.reduceLeDiff, Nat.reduceLT, fn_transitref26_in, e56_1, w56_1, e56_3, w56_3, c56_4, c56_5]
  refine ifD (fun h => ?_) (fun h => ?_)
  · simp -implicitDefEqProofs (disch := omega) only [go_sem, Nat.reduceAdd, Nat.reduceMul, Nat.reduceSub, Nat.reduceBEq, Nat.reduceLeDiff, Nat.reduceLT, fn_transitref26_in, e56_1, w56_1, e56_3, w56_3, c56_4, c56_5, within, h]
  · simp -implicitDefEqProofs (disch := omega) only [go_sem, Nat.reduceAdd, Nat.reduceMul, Nat.reduceSub, Nat.reduceBEq, Nat.reduceLeDiff, Nat.reduceLT, fn_transitref26_in, e56_1, w56_1, e56_3, w56_3, c56_4, c56_5, within, h]

theorem transitref26_ValidID_ok (s : List UInt8) (hs : s.length ≤ maxLen) : PCalls PR i_transitref26_ValidID [.str s] (fun v => v = .bool (okName s)) := by
  have hm : maxLen = 9223372036854775807 := by rfl
  refine acalls_pop fn_transitref26_ValidID_ok (by simp [fn_transitref26_ValidID]) ?_
  simp -implicitDefEqProofs (disch := omega) only [go_sem, Nat.reduceAdd, Nat.reduceMul, Nat.reduceSub, Nat.reduceBEq, Nat.reduceLeDiff, Nat.reduceLT, fn_transitref26_ValidID, e57_1, w57_1, e57_3, w57_3, c57_4, e57_6, w57_6, e57_8, w57_8, e57_10, w57_10, e57_12, w57_12, e57_14, w57_14, e57_16, w57_16, c57_17, e57_19, w57_19, c57_20, c57_21, c57_22, e57_24, w57_24, c57_25, c57_26, c57_27, c57_28, c57_29, e57_31, w57_31, c57_32, c57_33, c57_34, c57_35]
  refine ifD (fun h => ?_) (fun h1 => ?_)
  · have : okName s = false := by
      have : ¬ 0 < s.length := by omega
      simp [okName, this]
    simp -implicitDefEqProofs (disch := omega) only [go_sem, Nat.reduceAdd, Nat.reduceMul, Nat.reduceSub, Nat.reduceBEq, Nat.reduceLeDiff, Nat.reduceLT, fn_transitref26_ValidID, e57_1, w57_1, e57_3, w57_3, c57_4, e57_6, w57_6, e57_8, w57_8, e57_10, w57_10, e57_12, w57_12, e57_14, w57_14, e57_16, w57_16, c57_17, e57_19, w57_19, c57_20, c57_21, c57_22, e57_24, w57_24, c57_25, c57_26, c57_27, c57_28, c57_29, e57_31, w57_31, c57_32, c57_33, c57_34, c57_35, this]
  simp -implicitDefEqProofs (disch := omega) only [go_sem, Nat.reduceAdd, Nat.reduceMul, Nat.reduceSub, Nat.reduceBEq, Nat.reduceLeDiff, Nat.reduceLT, fn_transitref26_ValidID, e57_1, w57_1, e57_3, w57_3, c57_4, e57_6, w57_6, e57_8, w57_8, e57_10, w57_10, e57_12, w57_12, e57_14, w57_14, e57_16, w57_16, c57_17, e57_19, w57_19, c57_20, c57_21, c57_22, e57_24, w57_24, c57_25, c57_26, c57_27, c57_28, c57_29, e57_31, w57_31, c57_32, c57_33, c57_34, c57_35]
  refine ifD (fun h => ?_) (fun h2 => ?_)
  · have : okName s = false := by
      have : ¬ s.length ≤ 32 := by omega
      simp [okName, this]
    simp -implicitDefEqProofs (disch := omega) only [go_sem, Nat.reduceAdd, Nat.reduceMul, Nat.reduceSub, Nat.reduceBEq, Nat.reduceLeDiff, Nat.reduceLT, fn_transitref26_ValidID, e57_1, w57_1, e57_3, w57_3, c57_4, e57_6, w57_6, e57_8, w57_8, e57_10, w57_10, e57_12, w57_12, e57_14, w57_14, e57_16, w57_16, c57_17, e57_19, w57_19, c57_20, c57_21, c57_22, e57_24, w57_24, c57_25, c57_26, c57_27, c57_28, c57_29, e57_31, w57_31, c57_32, c57_33, c57_34, c57_35, this]
  simp -implicitDefEqProofs (disch := omega) only [go_sem, Nat.reduceAdd, Nat.reduceMul, Nat.reduceSub, Nat.reduceBEq, Nat.reduceLeDiff, Nat.reduceLT, fn_transitref26_ValidID, e57_1, w57_1, e57_3, w57_3, c57_4, e57_6, w57_6, e57_8, w57_8, e57_10, w57_10, e57_12, w57_12, e57_14, w57_14, e57_16, w57_16, c57_17, e57_19, w57_19, c57_20, c57_21, c57_22, e57_24, w57_24, c57_25, c57_26, c57_27, c57_28, c57_29, e57_31, w57_31, c57_32, c57_33, c57_34, c57_35]
  refine wpC_forL s (fun i vs M => (s.take i).all okChar = true ∧ vs = [.str s, .int .i64 i] ∧ M = []) ⟨by simp, rfl, rfl⟩ ?_ ?_
  · rintro i c vs M hc hi hd ⟨hall, rfl, rfl⟩
    simp -implicitDefEqProofs (disch := omega) only [go_sem, Nat.reduceAdd, Nat.reduceMul, Nat.reduceSub, Nat.reduceBEq, Nat.reduceLeDiff, Nat.reduceLT, fn_transitref26_ValidID, e57_1, w57_1, e57_3, w57_3, c57_4, e57_6, w57_6, e57_8, w57_8, e57_10, w57_10, e57_12, w57_12, e57_14, w57_14, e57_16, w57_16, c57_17, e57_19, w57_19, c57_20, c57_21, c57_22, e57_24, w57_24, c57_25, c57_26, c57_27, c57_28, c57_29, e57_31, w57_31, c57_32, c57_33, c57_34, c57_35, open_if, hd, hc]
    repeat' (refine BIf_dec (fun h => ?_) (fun h => ?_))
    all_goals first
      | (refine next_stay hi ⟨?_, rfl, rfl⟩
         rw [all_take_succ hc, hall, (okChar_iff c).2 (by omega)]; rfl)
      | (rw [okName_false hc (okChar_false c (by omega))])
  · rintro vs M ⟨hall, rfl, rfl⟩
    rw [List.take_length] at hall
    simp -implicitDefEqProofs (disch := omega) only [go_sem, Nat.reduceAdd, Nat.reduceMul, Nat.reduceSub, Nat.reduceBEq, Nat.reduceLeDiff, Nat.reduceLT, fn_transitref26_ValidID, e57_1, w57_1, e57_3, w57_3, c57_4, e57_6, w57_6, e57_8, w57_8, e57_10, w57_10, e57_12, w57_12, e57_14, w57_14, e57_16, w57_16, c57_17, e57_19, w57_19, c57_20, c57_21, c57_22, e57_24, w57_24, c57_25, c57_26, c57_27, c57_28, c57_29, e57_31, w57_31, c57_32, c57_33, c57_34, c57_35, dec_irrefl]
    have h3 : 0 < s.length := by omega
    have h4 : s.length ≤ 32 := by omega
    simp [okName, hall, h3, h4]

theorem transitref26_Fares_ok (f : Fares) (hf : f.wf) : PCalls PR i_transitref26_Fares [.agg f.row] (fun v => v = pairV (checkRes f)) := by
  refine acalls_pop fn_transitref26_Fares_ok (by simp [fn_transitref26_Fares]) ?_
  simp -implicitDefEqProofs (disch := omega) only [go_sem, Nat.reduceAdd, Nat.reduceMul, Nat.reduceSub, Nat.reduceBEq, Nat.reduceLeDiff, Nat.reduceLT, fn_transitref26_Fares, e42_1, w42_1, e42_3, w42_3, c42_4, e42_6, w42_6, e42_8, w42_8, c42_9, e42_11, w42_11, e42_13, w42_13, e42_15, w42_15, e42_17, w42_17, e42_19, w42_19, c42_20, e42_22, w42_22, e42_24, w42_24, e42_26, w42_26, e42_28, w42_28, c42_29, e42_31, w42_31, c42_32, e42_34, w42_34, c42_35, c42_36, c42_37, c42_38, c42_39, e42_41, w42_41, c42_42, e42_44, w42_44, c42_45, c42_46, c42_47, c42_48, e42_50, w42_50, c42_51, c42_52, c42_53, c42_54, c42_55, e42_57, w42_57, c42_58, c42_59, c42_60, c42_61, c42_62, Fares.row]
  first | refine callD (transitref26_in_ok _ _ _) ?_ | refine callQD (transitref26_in_ok _ _ _) ?_
  simp -implicitDefEqProofs (disch := omega) only [go_sem, Nat.reduceAdd, Nat.reduceMul, Nat.reduceSub, Nat.reduceBEq, Nat.reduceLeDiff, Nat.reduceLT, fn_transitref26_Fares, e42_1, w42_1, e42_3, w42_3, c42_4, e42_6, w42_6, e42_8, w42_8, c42_9, e42_11, w42_11, e42_13, w42_13, e42_15, w42_15, e42_17, w42_17, e42_19, w42_19, c42_20, e42_22, w42_22, e42_24, w42_24, e42_26, w42_26, e42_28, w42_28, c42_29, e42_31, w42_31, c42_32, e42_34, w42_34, c42_35, c42_36, c42_37, c42_38, c42_39, e42_41, w42_41, c42_42, e42_44, w42_44, c42_45, c42_46, c42_47, c42_48, e42_50, w42_50, c42_51, c42_52, c42_53, c42_54, c42_55, e42_57, w42_57, c42_58, c42_59, c42_60, c42_61, c42_62]
  refine ifB (fun h1 => ?_) (fun h1 => ?_)
  rotate_left
  · simp -implicitDefEqProofs (disch := omega) only [go_sem, Nat.reduceAdd, Nat.reduceMul, Nat.reduceSub, Nat.reduceBEq, Nat.reduceLeDiff, Nat.reduceLT, fn_transitref26_Fares, e42_1, w42_1, e42_3, w42_3, c42_4, e42_6, w42_6, e42_8, w42_8, c42_9, e42_11, w42_11, e42_13, w42_13, e42_15, w42_15, e42_17, w42_17, e42_19, w42_19, c42_20, e42_22, w42_22, e42_24, w42_24, e42_26, w42_26, e42_28, w42_28, c42_29, e42_31, w42_31, c42_32, e42_34, w42_34, c42_35, c42_36, c42_37, c42_38, c42_39, e42_41, w42_41, c42_42, e42_44, w42_44, c42_45, c42_46, c42_47, c42_48, e42_50, w42_50, c42_51, c42_52, c42_53, c42_54, c42_55, e42_57, w42_57, c42_58, c42_59, c42_60, c42_61, c42_62, pairV, checkRes, h1]
    rfl
  simp -implicitDefEqProofs (disch := omega) only [go_sem, Nat.reduceAdd, Nat.reduceMul, Nat.reduceSub, Nat.reduceBEq, Nat.reduceLeDiff, Nat.reduceLT, fn_transitref26_Fares, e42_1, w42_1, e42_3, w42_3, c42_4, e42_6, w42_6, e42_8, w42_8, c42_9, e42_11, w42_11, e42_13, w42_13, e42_15, w42_15, e42_17, w42_17, e42_19, w42_19, c42_20, e42_22, w42_22, e42_24, w42_24, e42_26, w42_26, e42_28, w42_28, c42_29, e42_31, w42_31, c42_32, e42_34, w42_34, c42_35, c42_36, c42_37, c42_38, c42_39, e42_41, w42_41, c42_42, e42_44, w42_44, c42_45, c42_46, c42_47, c42_48, e42_50, w42_50, c42_51, c42_52, c42_53, c42_54, c42_55, e42_57, w42_57, c42_58, c42_59, c42_60, c42_61, c42_62]
  first | refine callD (transitref26_in_ok _ _ _) ?_ | refine callQD (transitref26_in_ok _ _ _) ?_
  simp -implicitDefEqProofs (disch := omega) only [go_sem, Nat.reduceAdd, Nat.reduceMul, Nat.reduceSub, Nat.reduceBEq, Nat.reduceLeDiff, Nat.reduceLT, fn_transitref26_Fares, e42_1, w42_1, e42_3, w42_3, c42_4, e42_6, w42_6, e42_8, w42_8, c42_9, e42_11, w42_11, e42_13, w42_13, e42_15, w42_15, e42_17, w42_17, e42_19, w42_19, c42_20, e42_22, w42_22, e42_24, w42_24, e42_26, w42_26, e42_28, w42_28, c42_29, e42_31, w42_31, c42_32, e42_34, w42_34, c42_35, c42_36, c42_37, c42_38, c42_39, e42_41, w42_41, c42_42, e42_44, w42_44, c42_45, c42_46, c42_47, c42_48, e42_50, w42_50, c42_51, c42_52, c42_53, c42_54, c42_55, e42_57, w42_57, c42_58, c42_59, c42_60, c42_61, c42_62]
  refine ifB (fun h2 => ?_) (fun h2 => ?_)
  rotate_left
  · simp -implicitDefEqProofs (disch := omega) only [go_sem, Nat.reduceAdd, Nat.reduceMul, Nat.reduceSub, Nat.reduceBEq, Nat.reduceLeDiff, Nat.reduceLT, fn_transitref26_Fares, e42_1, w42_1, e42_3, w42_3, c42_4, e42_6, w42_6, e42_8, w42_8, c42_9, e42_11, w42_11, e42_13, w42_13, e42_15, w42_15, e42_17, w42_17, e42_19, w42_19, c42_20, e42_22, w42_22, e42_24, w42_24, e42_26, w42_26, e42_28, w42_28, c42_29, e42_31, w42_31, c42_32, e42_34, w42_34, c42_35, c42_36, c42_37, c42_38, c42_39, e42_41, w42_41, c42_42, e42_44, w42_44, c42_45, c42_46, c42_47, c42_48, e42_50, w42_50, c42_51, c42_52, c42_53, c42_54, c42_55, e42_57, w42_57, c42_58, c42_59, c42_60, c42_61, c42_62, pairV, checkRes, h1, h2]
    rfl
  simp -implicitDefEqProofs (disch := omega) only [go_sem, Nat.reduceAdd, Nat.reduceMul, Nat.reduceSub, Nat.reduceBEq, Nat.reduceLeDiff, Nat.reduceLT, fn_transitref26_Fares, e42_1, w42_1, e42_3, w42_3, c42_4, e42_6, w42_6, e42_8, w42_8, c42_9, e42_11, w42_11, e42_13, w42_13, e42_15, w42_15, e42_17, w42_17, e42_19, w42_19, c42_20, e42_22, w42_22, e42_24, w42_24, e42_26, w42_26, e42_28, w42_28, c42_29, e42_31, w42_31, c42_32, e42_34, w42_34, c42_35, c42_36, c42_37, c42_38, c42_39, e42_41, w42_41, c42_42, e42_44, w42_44, c42_45, c42_46, c42_47, c42_48, e42_50, w42_50, c42_51, c42_52, c42_53, c42_54, c42_55, e42_57, w42_57, c42_58, c42_59, c42_60, c42_61, c42_62]
  first | refine callD (transitref26_in_ok _ _ _) ?_ | refine callQD (transitref26_in_ok _ _ _) ?_
  simp -implicitDefEqProofs (disch := omega) only [go_sem, Nat.reduceAdd, Nat.reduceMul, Nat.reduceSub, Nat.reduceBEq, Nat.reduceLeDiff, Nat.reduceLT, fn_transitref26_Fares, e42_1, w42_1, e42_3, w42_3, c42_4, e42_6, w42_6, e42_8, w42_8, c42_9, e42_11, w42_11, e42_13, w42_13, e42_15, w42_15, e42_17, w42_17, e42_19, w42_19, c42_20, e42_22, w42_22, e42_24, w42_24, e42_26, w42_26, e42_28, w42_28, c42_29, e42_31, w42_31, c42_32, e42_34, w42_34, c42_35, c42_36, c42_37, c42_38, c42_39, e42_41, w42_41, c42_42, e42_44, w42_44, c42_45, c42_46, c42_47, c42_48, e42_50, w42_50, c42_51, c42_52, c42_53, c42_54, c42_55, e42_57, w42_57, c42_58, c42_59, c42_60, c42_61, c42_62]
  refine ifB (fun h3 => ?_) (fun h3 => ?_)
  rotate_left
  · simp -implicitDefEqProofs (disch := omega) only [go_sem, Nat.reduceAdd, Nat.reduceMul, Nat.reduceSub, Nat.reduceBEq, Nat.reduceLeDiff, Nat.reduceLT, fn_transitref26_Fares, e42_1, w42_1, e42_3, w42_3, c42_4, e42_6, w42_6, e42_8, w42_8, c42_9, e42_11, w42_11, e42_13, w42_13, e42_15, w42_15, e42_17, w42_17, e42_19, w42_19, c42_20, e42_22, w42_22, e42_24, w42_24, e42_26, w42_26, e42_28, w42_28, c42_29, e42_31, w42_31, c42_32, e42_34, w42_34, c42_35, c42_36, c42_37, c42_38, c42_39, e42_41, w42_41, c42_42, e42_44, w42_44, c42_45, c42_46, c42_47, c42_48, e42_50, w42_50, c42_51, c42_52, c42_53, c42_54, c42_55, e42_57, w42_57, c42_58, c42_59, c42_60, c42_61, c42_62, pairV, checkRes, h1, h2, h3]
    rfl
  simp -implicitDefEqProofs (disch := omega) only [go_sem, Nat.reduceAdd, Nat.reduceMul, Nat.reduceSub, Nat.reduceBEq, Nat.reduceLeDiff, Nat.reduceLT, fn_transitref26_Fares, e42_1, w42_1, e42_3, w42_3, c42_4, e42_6, w42_6, e42_8, w42_8, c42_9, e42_11, w42_11, e42_13, w42_13, e42_15, w42_15, e42_17, w42_17, e42_19, w42_19, c42_20, e42_22, w42_22, e42_24, w42_24, e42_26, w42_26, e42_28, w42_28, c42_29, e42_31, w42_31, c42_32, e42_34, w42_34, c42_35, c42_36, c42_37, c42_38, c42_39, e42_41, w42_41, c42_42, e42_44, w42_44, c42_45, c42_46, c42_47, c42_48, e42_50, w42_50, c42_51, c42_52, c42_53, c42_54, c42_55, e42_57, w42_57, c42_58, c42_59, c42_60, c42_61, c42_62]
  refine ifD (fun h4 => ?_) (fun h4 => ?_)
  · have : 16 < f.products.length := by omega
    simp -implicitDefEqProofs (disch := omega) only [go_sem, Nat.reduceAdd, Nat.reduceMul, Nat.reduceSub, Nat.reduceBEq, Nat.reduceLeDiff, Nat.reduceLT, fn_transitref26_Fares, e42_1, w42_1, e42_3, w42_3, c42_4, e42_6, w42_6, e42_8, w42_8, c42_9, e42_11, w42_11, e42_13, w42_13, e42_15, w42_15, e42_17, w42_17, e42_19, w42_19, c42_20, e42_22, w42_22, e42_24, w42_24, e42_26, w42_26, e42_28, w42_28, c42_29, e42_31, w42_31, c42_32, e42_34, w42_34, c42_35, c42_36, c42_37, c42_38, c42_39, e42_41, w42_41, c42_42, e42_44, w42_44, c42_45, c42_46, c42_47, c42_48, e42_50, w42_50, c42_51, c42_52, c42_53, c42_54, c42_55, e42_57, w42_57, c42_58, c42_59, c42_60, c42_61, c42_62, pairV, checkRes, h1, h2, h3, this]
    rfl
  have h4' : ¬ 16 < f.products.length := by omega
  have hres : checkRes f = firstErr (prodErr f.products) f.products.length := by simp [checkRes, h1, h2, h3, h4']
  simp -implicitDefEqProofs (disch := omega) only [go_sem, Nat.reduceAdd, Nat.reduceMul, Nat.reduceSub, Nat.reduceBEq, Nat.reduceLeDiff, Nat.reduceLT, fn_transitref26_Fares, e42_1, w42_1, e42_3, w42_3, c42_4, e42_6, w42_6, e42_8, w42_8, c42_9, e42_11, w42_11, e42_13, w42_13, e42_15, w42_15, e42_17, w42_17, e42_19, w42_19, c42_20, e42_22, w42_22, e42_24, w42_24, e42_26, w42_26, e42_28, w42_28, c42_29, e42_31, w42_31, c42_32, e42_34, w42_34, c42_35, c42_36, c42_37, c42_38, c42_39, e42_41, w42_41, c42_42, e42_44, w42_44, c42_45, c42_46, c42_47, c42_48, e42_50, w42_50, c42_51, c42_52, c42_53, c42_54, c42_55, e42_57, w42_57, c42_58, c42_59, c42_60, c42_61, c42_62, hres]
  refine wpC_forL f.products (fun i vs M => (∀ k, k < i → prodErr f.products k = 0) ∧ vs = [.ptr 0 0, .int .i64 i] ∧ M = [.box f.row]) ⟨fun k hk => absurd hk (Nat.not_lt_zero k), rfl, rfl⟩ ?_ ?_
  · rintro i p vs M hp hi hd ⟨hall, rfl, rfl⟩
    have fin : ∀ e, prodErr f.products i = e → e ≠ 0 → V.tuple [.int .i64 i, .int .i64 e] = pairV (firstErr (prodErr f.products) f.products.length) := fun e h1 h2 => by
      rw [firstErr_at hi hall (by rw [h1]; exact h2), h1]; rfl
    have herr : prodErr f.products i = if okName p.id = false then 12 else if p.id ∈ (f.products.take i).map Product.id then 6 else if p.right = false then 2 else 0 := by simp only [prodErr, hp]
    simp -implicitDefEqProofs (disch := omega) only [go_sem, Nat.reduceAdd, Nat.reduceMul, Nat.reduceSub, Nat.reduceBEq, Nat.reduceLeDiff, Nat.reduceLT, fn_transitref26_Fares, e42_1, w42_1, e42_3, w42_3, c42_4, e42_6, w42_6, e42_8, w42_8, c42_9, e42_11, w42_11, e42_13, w42_13, e42_15, w42_15, e42_17, w42_17, e42_19, w42_19, c42_20, e42_22, w42_22, e42_24, w42_24, e42_26, w42_26, e42_28, w42_28, c42_29, e42_31, w42_31, c42_32, e42_34, w42_34, c42_35, c42_36, c42_37, c42_38, c42_39, e42_41, w42_41, c42_42, e42_44, w42_44, c42_45, c42_46, c42_47, c42_48, e42_50, w42_50, c42_51, c42_52, c42_53, c42_54, c42_55, e42_57, w42_57, c42_58, c42_59, c42_60, c42_61, c42_62, Fares.row, Product.row, hd, hp]
    first | refine callD (transitref26_ValidID_ok _ (hf.1 p (List.mem_of_getElem? hp)).1) ?_ | refine callQD (transitref26_ValidID_ok _ (hf.1 p (List.mem_of_getElem? hp)).1) ?_
    simp -implicitDefEqProofs (disch := omega) only [go_sem, Nat.reduceAdd, Nat.reduceMul, Nat.reduceSub, Nat.reduceBEq, Nat.reduceLeDiff, Nat.reduceLT, fn_transitref26_Fares, e42_1, w42_1, e42_3, w42_3, c42_4, e42_6, w42_6, e42_8, w42_8, c42_9, e42_11, w42_11, e42_13, w42_13, e42_15, w42_15, e42_17, w42_17, e42_19, w42_19, c42_20, e42_22, w42_22, e42_24, w42_24, e42_26, w42_26, e42_28, w42_28, c42_29, e42_31, w42_31, c42_32, e42_34, w42_34, c42_35, c42_36, c42_37, c42_38, c42_39, e42_41, w42_41, c42_42, e42_44, w42_44, c42_45, c42_46, c42_47, c42_48, e42_50, w42_50, c42_51, c42_52, c42_53, c42_54, c42_55, e42_57, w42_57, c42_58, c42_59, c42_60, c42_61, c42_62, Fares.row, Product.row]
    refine ifB (fun g1 => ?_) (fun g1 => ?_)
    rotate_left
    · simp -implicitDefEqProofs (disch := omega) only [go_sem, Nat.reduceAdd, Nat.reduceMul, Nat.reduceSub, Nat.reduceBEq, Nat.reduceLeDiff, Nat.reduceLT, fn_transitref26_Fares, e42_1, w42_1, e42_3, w42_3, c42_4, e42_6, w42_6, e42_8, w42_8, c42_9, e42_11, w42_11, e42_13, w42_13, e42_15, w42_15, e42_17, w42_17, e42_19, w42_19, c42_20, e42_22, w42_22, e42_24, w42_24, e42_26, w42_26, e42_28, w42_28, c42_29, e42_31, w42_31, c42_32, e42_34, w42_34, c42_35, c42_36, c42_37, c42_38, c42_39, e42_41, w42_41, c42_42, e42_44, w42_44, c42_45, c42_46, c42_47, c42_48, e42_50, w42_50, c42_51, c42_52, c42_53, c42_54, c42_55, e42_57, w42_57, c42_58, c42_59, c42_60, c42_61, c42_62, Fares.row, Product.row]
      exact fin 12 (by rw [herr, if_pos g1]) (by decide)
    have g1' : ¬ okName p.id = false := by simp [g1]
    simp -implicitDefEqProofs (disch := omega) only [go_sem, Nat.reduceAdd, Nat.reduceMul, Nat.reduceSub, Nat.reduceBEq, Nat.reduceLeDiff, Nat.reduceLT, fn_transitref26_Fares, e42_1, w42_1, e42_3, w42_3, c42_4, e42_6, w42_6, e42_8, w42_8, c42_9, e42_11, w42_11, e42_13, w42_13, e42_15, w42_15, e42_17, w42_17, e42_19, w42_19, c42_20, e42_22, w42_22, e42_24, w42_24, e42_26, w42_26, e42_28, w42_28, c42_29, e42_31, w42_31, c42_32, e42_34, w42_34, c42_35, c42_36, c42_37, c42_38, c42_39, e42_41, w42_41, c42_42, e42_44, w42_44, c42_45, c42_46, c42_47, c42_48, e42_50, w42_50, c42_51, c42_52, c42_53, c42_54, c42_55, e42_57, w42_57, c42_58, c42_59, c42_60, c42_61, c42_62, Fares.row, Product.row]
    refine wpC_for i (fun k vs M => p.id ∉ (f.products.take k).map Product.id ∧ vs = [.ptr 0 0, .int .i64 i, .ptr 1 0, .int .i64 k] ∧ M = [.box f.row, .box p.row]) ⟨by simp, rfl, rfl⟩ ?_ ?_
    · rintro k vs M hk hdk ⟨hno, rfl, rfl⟩
      obtain ⟨q, hq⟩ : ∃ q, f.products[k]? = some q := ⟨f.products[k], by simp⟩
      simp -implicitDefEqProofs (disch := omega) only [go_sem, Nat.reduceAdd, Nat.reduceMul, Nat.reduceSub, Nat.reduceBEq, Nat.reduceLeDiff, Nat.reduceLT, fn_transitref26_Fares, e42_1, w42_1, e42_3, w42_3, c42_4, e42_6, w42_6, e42_8, w42_8, c42_9, e42_11, w42_11, e42_13, w42_13, e42_15, w42_15, e42_17, w42_17, e42_19, w42_19, c42_20, e42_22, w42_22, e42_24, w42_24, e42_26, w42_26, e42_28, w42_28, c42_29, e42_31, w42_31, c42_32, e42_34, w42_34, c42_35, c42_36, c42_37, c42_38, c42_39, e42_41, w42_41, c42_42, e42_44, w42_44, c42_45, c42_46, c42_47, c42_48, e42_50, w42_50, c42_51, c42_52, c42_53, c42_54, c42_55, e42_57, w42_57, c42_58, c42_59, c42_60, c42_61, c42_62, Fares.row, Product.row, hdk, hp, hq]
      refine ifD (fun g2 => ?_) (fun g2 => ?_)
      · simp -implicitDefEqProofs (disch := omega) only [go_sem, Nat.reduceAdd, Nat.reduceMul, Nat.reduceSub, Nat.reduceBEq, Nat.reduceLeDiff, Nat.reduceLT, fn_transitref26_Fares, e42_1, w42_1, e42_3, w42_3, c42_4, e42_6, w42_6, e42_8, w42_8, c42_9, e42_11, w42_11, e42_13, w42_13, e42_15, w42_15, e42_17, w42_17, e42_19, w42_19, c42_20, e42_22, w42_22, e42_24, w42_24, e42_26, w42_26, e42_28, w42_28, c42_29, e42_31, w42_31, c42_32, e42_34, w42_34, c42_35, c42_36, c42_37, c42_38, c42_39, e42_41, w42_41, c42_42, e42_44, w42_44, c42_45, c42_46, c42_47, c42_48, e42_50, w42_50, c42_51, c42_52, c42_53, c42_54, c42_55, e42_57, w42_57, c42_58, c42_59, c42_60, c42_61, c42_62, Fares.row, Product.row]
        refine fin 6 ?_ (by decide)
        rw [herr, if_neg g1', if_pos]
        rw [List.mem_map]
        exact ⟨q, List.mem_of_getElem? (i := k) (by rw [List.getElem?_take_of_lt hk]; exact hq), g2⟩
      · simp -implicitDefEqProofs (disch := omega) only [go_sem, Nat.reduceAdd, Nat.reduceMul, Nat.reduceSub, Nat.reduceBEq, Nat.reduceLeDiff, Nat.reduceLT, fn_transitref26_Fares, e42_1, w42_1, e42_3, w42_3, c42_4, e42_6, w42_6, e42_8, w42_8, c42_9, e42_11, w42_11, e42_13, w42_13, e42_15, w42_15, e42_17, w42_17, e42_19, w42_19, c42_20, e42_22, w42_22, e42_24, w42_24, e42_26, w42_26, e42_28, w42_28, c42_29, e42_31, w42_31, c42_32, e42_34, w42_34, c42_35, c42_36, c42_37, c42_38, c42_39, e42_41, w42_41, c42_42, e42_44, w42_44, c42_45, c42_46, c42_47, c42_48, e42_50, w42_50, c42_51, c42_52, c42_53, c42_54, c42_55, e42_57, w42_57, c42_58, c42_59, c42_60, c42_61, c42_62, Fares.row, Product.row]
        refine next_stay hk ⟨?_, rfl, rfl⟩
        rw [List.take_add_one, hq, List.map_append]
        simp only [List.mem_append, not_or]
        exact ⟨hno, by simpa using fun e => g2 e.symm⟩
    · rintro vs M ⟨g2, rfl, rfl⟩
      simp -implicitDefEqProofs (disch := omega) only [go_sem, Nat.reduceAdd, Nat.reduceMul, Nat.reduceSub, Nat.reduceBEq, Nat.reduceLeDiff, Nat.reduceLT, fn_transitref26_Fares, e42_1, w42_1, e42_3, w42_3, c42_4, e42_6, w42_6, e42_8, w42_8, c42_9, e42_11, w42_11, e42_13, w42_13, e42_15, w42_15, e42_17, w42_17, e42_19, w42_19, c42_20, e42_22, w42_22, e42_24, w42_24, e42_26, w42_26, e42_28, w42_28, c42_29, e42_31, w42_31, c42_32, e42_34, w42_34, c42_35, c42_36, c42_37, c42_38, c42_39, e42_41, w42_41, c42_42, e42_44, w42_44, c42_45, c42_46, c42_47, c42_48, e42_50, w42_50, c42_51, c42_52, c42_53, c42_54, c42_55, e42_57, w42_57, c42_58, c42_59, c42_60, c42_61, c42_62, Fares.row, Product.row, dec_irrefl, hp]
      have bad : p.right = false → prodErr f.products i = 2 := fun h => by rw [herr, if_neg g1', if_neg g2, if_pos h]
      first | refine callD (transitref26_in_ok _ _ _) ?_ | refine callQD (transitref26_in_ok _ _ _) ?_
      simp -implicitDefEqProofs (disch := omega) only [go_sem, Nat.reduceAdd, Nat.reduceMul, Nat.reduceSub, Nat.reduceBEq, Nat.reduceLeDiff, Nat.reduceLT, fn_transitref26_Fares, e42_1, w42_1, e42_3, w42_3, c42_4, e42_6, w42_6, e42_8, w42_8, c42_9, e42_11, w42_11, e42_13, w42_13, e42_15, w42_15, e42_17, w42_17, e42_19, w42_19, c42_20, e42_22, w42_22, e42_24, w42_24, e42_26, w42_26, e42_28, w42_28, c42_29, e42_31, w42_31, c42_32, e42_34, w42_34, c42_35, c42_36, c42_37, c42_38, c42_39, e42_41, w42_41, c42_42, e42_44, w42_44, c42_45, c42_46, c42_47, c42_48, e42_50, w42_50, c42_51, c42_52, c42_53, c42_54, c42_55, e42_57, w42_57, c42_58, c42_59, c42_60, c42_61, c42_62, Fares.row, Product.row]
      refine ifB (fun k1 => ?_) (fun k1 => ?_)
      rotate_left
      · simp -implicitDefEqProofs (disch := omega) only [go_sem, Nat.reduceAdd, Nat.reduceMul, Nat.reduceSub, Nat.reduceBEq, Nat.reduceLeDiff, Nat.reduceLT, fn_transitref26_Fares, e42_1, w42_1, e42_3, w42_3, c42_4, e42_6, w42_6, e42_8, w42_8, c42_9, e42_11, w42_11, e42_13, w42_13, e42_15, w42_15, e42_17, w42_17, e42_19, w42_19, c42_20, e42_22, w42_22, e42_24, w42_24, e42_26, w42_26, e42_28, w42_28, c42_29, e42_31, w42_31, c42_32, e42_34, w42_34, c42_35, c42_36, c42_37, c42_38, c42_39, e42_41, w42_41, c42_42, e42_44, w42_44, c42_45, c42_46, c42_47, c42_48, e42_50, w42_50, c42_51, c42_52, c42_53, c42_54, c42_55, e42_57, w42_57, c42_58, c42_59, c42_60, c42_61, c42_62, Fares.row, Product.row]
        exact fin 2 (bad (by simp [Product.right, k1])) (by decide)
      simp -implicitDefEqProofs (disch := omega) only [go_sem, Nat.reduceAdd, Nat.reduceMul, Nat.reduceSub, Nat.reduceBEq, Nat.reduceLeDiff, Nat.reduceLT, fn_transitref26_Fares, e42_1, w42_1, e42_3, w42_3, c42_4, e42_6, w42_6, e42_8, w42_8, c42_9, e42_11, w42_11, e42_13, w42_13, e42_15, w42_15, e42_17, w42_17, e42_19, w42_19, c42_20, e42_22, w42_22, e42_24, w42_24, e42_26, w42_26, e42_28, w42_28, c42_29, e42_31, w42_31, c42_32, e42_34, w42_34, c42_35, c42_36, c42_37, c42_38, c42_39, e42_41, w42_41, c42_42, e42_44, w42_44, c42_45, c42_46, c42_47, c42_48, e42_50, w42_50, c42_51, c42_52, c42_53, c42_54, c42_55, e42_57, w42_57, c42_58, c42_59, c42_60, c42_61, c42_62, Fares.row, Product.row]
      first | refine callD (transitref26_in_ok _ _ _) ?_ | refine callQD (transitref26_in_ok _ _ _) ?_
      simp -implicitDefEqProofs (disch := omega) only [go_sem, Nat.reduceAdd, Nat.reduceMul, Nat.reduceSub, Nat.reduceBEq, Nat.reduceLeDiff, Nat.reduceLT, fn_transitref26_Fares, e42_1, w42_1, e42_3, w42_3, c42_4, e42_6, w42_6, e42_8, w42_8, c42_9, e42_11, w42_11, e42_13, w42_13, e42_15, w42_15, e42_17, w42_17, e42_19, w42_19, c42_20, e42_22, w42_22, e42_24, w42_24, e42_26, w42_26, e42_28, w42_28, c42_29, e42_31, w42_31, c42_32, e42_34, w42_34, c42_35, c42_36, c42_37, c42_38, c42_39, e42_41, w42_41, c42_42, e42_44, w42_44, c42_45, c42_46, c42_47, c42_48, e42_50, w42_50, c42_51, c42_52, c42_53, c42_54, c42_55, e42_57, w42_57, c42_58, c42_59, c42_60, c42_61, c42_62, Fares.row, Product.row]
      refine ifB (fun k2 => ?_) (fun k2 => ?_)
      rotate_left
      · simp -implicitDefEqProofs (disch := omega) only [go_sem, Nat.reduceAdd, Nat.reduceMul, Nat.reduceSub, Nat.reduceBEq, Nat.reduceLeDiff, Nat.reduceLT, fn_transitref26_Fares, e42_1, w42_1, e42_3, w42_3, c42_4, e42_6, w42_6, e42_8, w42_8, c42_9, e42_11, w42_11, e42_13, w42_13, e42_15, w42_15, e42_17, w42_17, e42_19, w42_19, c42_20, e42_22, w42_22, e42_24, w42_24, e42_26, w42_26, e42_28, w42_28, c42_29, e42_31, w42_31, c42_32, e42_34, w42_34, c42_35, c42_36, c42_37, c42_38, c42_39, e42_41, w42_41, c42_42, e42_44, w42_44, c42_45, c42_46, c42_47, c42_48, e42_50, w42_50, c42_51, c42_52, c42_53, c42_54, c42_55, e42_57, w42_57, c42_58, c42_59, c42_60, c42_61, c42_62, Fares.row, Product.row]
        exact fin 2 (bad (by simp [Product.right, k2])) (by decide)
      simp -implicitDefEqProofs (disch := omega) only [go_sem, Nat.reduceAdd, Nat.reduceMul, Nat.reduceSub, Nat.reduceBEq, Nat.reduceLeDiff, Nat.reduceLT, fn_transitref26_Fares, e42_1, w42_1, e42_3, w42_3, c42_4, e42_6, w42_6, e42_8, w42_8, c42_9, e42_11, w42_11, e42_13, w42_13, e42_15, w42_15, e42_17, w42_17, e42_19, w42_19, c42_20, e42_22, w42_22, e42_24, w42_24, e42_26, w42_26, e42_28, w42_28, c42_29, e42_31, w42_31, c42_32, e42_34, w42_34, c42_35, c42_36, c42_37, c42_38, c42_39, e42_41, w42_41, c42_42, e42_44, w42_44, c42_45, c42_46, c42_47, c42_48, e42_50, w42_50, c42_51, c42_52, c42_53, c42_54, c42_55, e42_57, w42_57, c42_58, c42_59, c42_60, c42_61, c42_62, Fares.row, Product.row]
      first | refine callD (transitref26_in_ok _ _ _) ?_ | refine callQD (transitref26_in_ok _ _ _) ?_
      simp -implicitDefEqProofs (disch := omega) only [go_sem, Nat.reduceAdd, Nat.reduceMul, Nat.reduceSub, Nat.reduceBEq, Nat.reduceLeDiff, Nat.reduceLT, fn_transitref26_Fares, e42_1, w42_1, e42_3, w42_3, c42_4, e42_6, w42_6, e42_8, w42_8, c42_9, e42_11, w42_11, e42_13, w42_13, e42_15, w42_15, e42_17, w42_17, e42_19, w42_19, c42_20, e42_22, w42_22, e42_24, w42_24, e42_26, w42_26, e42_28, w42_28, c42_29, e42_31, w42_31, c42_32, e42_34, w42_34, c42_35, c42_36, c42_37, c42_38, c42_39, e42_41, w42_41, c42_42, e42_44, w42_44, c42_45, c42_46, c42_47, c42_48, e42_50, w42_50, c42_51, c42_52, c42_53, c42_54, c42_55, e42_57, w42_57, c42_58, c42_59, c42_60, c42_61, c42_62, Fares.row, Product.row]
      refine ifB (fun k3 => ?_) (fun k3 => ?_)
      rotate_left
      · simp -implicitDefEqProofs (disch := omega) only [go_sem, Nat.reduceAdd, Nat.reduceMul, Nat.reduceSub, Nat.reduceBEq, Nat.reduceLeDiff, Nat.reduceLT, fn_transitref26_Fares, e42_1, w42_1, e42_3, w42_3, c42_4, e42_6, w42_6, e42_8, w42_8, c42_9, e42_11, w42_11, e42_13, w42_13, e42_15, w42_15, e42_17, w42_17, e42_19, w42_19, c42_20, e42_22, w42_22, e42_24, w42_24, e42_26, w42_26, e42_28, w42_28, c42_29, e42_31, w42_31, c42_32, e42_34, w42_34, c42_35, c42_36, c42_37, c42_38, c42_39, e42_41, w42_41, c42_42, e42_44, w42_44, c42_45, c42_46, c42_47, c42_48, e42_50, w42_50, c42_51, c42_52, c42_53, c42_54, c42_55, e42_57, w42_57, c42_58, c42_59, c42_60, c42_61, c42_62, Fares.row, Product.row]
        exact fin 2 (bad (by simp [Product.right, k3])) (by decide)
      simp -implicitDefEqProofs (disch := omega) only [go_sem, Nat.reduceAdd, Nat.reduceMul, Nat.reduceSub, Nat.reduceBEq, Nat.reduceLeDiff, Nat.reduceLT, fn_transitref26_Fares, e42_1, w42_1, e42_3, w42_3, c42_4, e42_6, w42_6, e42_8, w42_8, c42_9, e42_11, w42_11, e42_13, w42_13, e42_15, w42_15, e42_17, w42_17, e42_19, w42_19, c42_20, e42_22, w42_22, e42_24, w42_24, e42_26, w42_26, e42_28, w42_28, c42_29, e42_31, w42_31, c42_32, e42_34, w42_34, c42_35, c42_36, c42_37, c42_38, c42_39, e42_41, w42_41, c42_42, e42_44, w42_44, c42_45, c42_46, c42_47, c42_48, e42_50, w42_50, c42_51, c42_52, c42_53, c42_54, c42_55, e42_57, w42_57, c42_58, c42_59, c42_60, c42_61, c42_62, Fares.row, Product.row]
      first | refine callD (transitref26_in_ok _ _ _) ?_ | refine callQD (transitref26_in_ok _ _ _) ?_
      simp -implicitDefEqProofs (disch := omega) only [go_sem, Nat.reduceAdd, Nat.reduceMul, Nat.reduceSub, Nat.reduceBEq, Nat.reduceLeDiff, Nat.reduceLT, fn_transitref26_Fares, e42_1, w42_1, e42_3, w42_3, c42_4, e42_6, w42_6, e42_8, w42_8, c42_9, e42_11, w42_11, e42_13, w42_13, e42_15, w42_15, e42_17, w42_17, e42_19, w42_19, c42_20, e42_22, w42_22, e42_24, w42_24, e42_26, w42_26, e42_28, w42_28, c42_29, e42_31, w42_31, c42_32, e42_34, w42_34, c42_35, c42_36, c42_37, c42_38, c42_39, e42_41, w42_41, c42_42, e42_44, w42_44, c42_45, c42_46, c42_47, c42_48, e42_50, w42_50, c42_51, c42_52, c42_53, c42_54, c42_55, e42_57, w42_57, c42_58, c42_59, c42_60, c42_61, c42_62, Fares.row, Product.row]
      refine ifB (fun k4 => ?_) (fun k4 => ?_)
      rotate_left
      · simp -implicitDefEqProofs (disch := omega) only [go_sem, Nat.reduceAdd, Nat.reduceMul, Nat.reduceSub, Nat.reduceBEq, Nat.reduceLeDiff, Nat.reduceLT, fn_transitref26_Fares, e42_1, w42_1, e42_3, w42_3, c42_4, e42_6, w42_6, e42_8, w42_8, c42_9, e42_11, w42_11, e42_13, w42_13, e42_15, w42_15, e42_17, w42_17, e42_19, w42_19, c42_20, e42_22, w42_22, e42_24, w42_24, e42_26, w42_26, e42_28, w42_28, c42_29, e42_31, w42_31, c42_32, e42_34, w42_34, c42_35, c42_36, c42_37, c42_38, c42_39, e42_41, w42_41, c42_42, e42_44, w42_44, c42_45, c42_46, c42_47, c42_48, e42_50, w42_50, c42_51, c42_52, c42_53, c42_54, c42_55, e42_57, w42_57, c42_58, c42_59, c42_60, c42_61, c42_62, Fares.row, Product.row]
        exact fin 2 (bad (by simp [Product.right, k4])) (by decide)
      simp -implicitDefEqProofs (disch := omega) only [go_sem, Nat.reduceAdd, Nat.reduceMul, Nat.reduceSub, Nat.reduceBEq, Nat.reduceLeDiff, Nat.reduceLT, fn_transitref26_Fares, e42_1, w42_1, e42_3, w42_3, c42_4, e42_6, w42_6, e42_8, w42_8, c42_9, e42_11, w42_11, e42_13, w42_13, e42_15, w42_15, e42_17, w42_17, e42_19, w42_19, c42_20, e42_22, w42_22, e42_24, w42_24, e42_26, w42_26, e42_28, w42_28, c42_29, e42_31, w42_31, c42_32, e42_34, w42_34, c42_35, c42_36, c42_37, c42_38, c42_39, e42_41, w42_41, c42_42, e42_44, w42_44, c42_45, c42_46, c42_47, c42_48, e42_50, w42_50, c42_51, c42_52, c42_53, c42_54, c42_55, e42_57, w42_57, c42_58, c42_59, c42_60, c42_61, c42_62, Fares.row, Product.row]
      first | refine callD (transitref26_in_ok _ _ _) ?_ | refine callQD (transitref26_in_ok _ _ _) ?_
      simp -implicitDefEqProofs (disch := omega) only [go_sem, Nat.reduceAdd, Nat.reduceMul, Nat.reduceSub, Nat.reduceBEq, Nat.reduceLeDiff, Nat.reduceLT, fn_transitref26_Fares, e42_1, w42_1, e42_3, w42_3, c42_4, e42_6, w42_6, e42_8, w42_8, c42_9, e42_11, w42_11, e42_13, w42_13, e42_15, w42_15, e42_17, w42_17, e42_19, w42_19, c42_20, e42_22, w42_22, e42_24, w42_24, e42_26, w42_26, e42_28, w42_28, c42_29, e42_31, w42_31, c42_32, e42_34, w42_34, c42_35, c42_36, c42_37, c42_38, c42_39, e42_41, w42_41, c42_42, e42_44, w42_44, c42_45, c42_46, c42_47, c42_48, e42_50, w42_50, c42_51, c42_52, c42_53, c42_54, c42_55, e42_57, w42_57, c42_58, c42_59, c42_60, c42_61, c42_62, Fares.row, Product.row]
      refine ifB (fun k5 => ?_) (fun k5 => ?_)
      rotate_left
      · simp -implicitDefEqProofs (disch := omega) only [go_sem, Nat.reduceAdd, Nat.reduceMul, Nat.reduceSub, Nat.reduceBEq, Nat.reduceLeDiff, Nat.reduceLT, fn_transitref26_Fares, e42_1, w42_1, e42_3, w42_3, c42_4, e42_6, w42_6, e42_8, w42_8, c42_9, e42_11, w42_11, e42_13, w42_13, e42_15, w42_15, e42_17, w42_17, e42_19, w42_19, c42_20, e42_22, w42_22, e42_24, w42_24, e42_26, w42_26, e42_28, w42_28, c42_29, e42_31, w42_31, c42_32, e42_34, w42_34, c42_35, c42_36, c42_37, c42_38, c42_39, e42_41, w42_41, c42_42, e42_44, w42_44, c42_45, c42_46, c42_47, c42_48, e42_50, w42_50, c42_51, c42_52, c42_53, c42_54, c42_55, e42_57, w42_57, c42_58, c42_59, c42_60, c42_61, c42_62, Fares.row, Product.row]
        exact fin 2 (bad (by simp [Product.right, k5])) (by decide)
      simp -implicitDefEqProofs (disch := omega) only [go_sem, Nat.reduceAdd, Nat.reduceMul, Nat.reduceSub, Nat.reduceBEq, Nat.reduceLeDiff, Nat.reduceLT, fn_transitref26_Fares, e42_1, w42_1, e42_3, w42_3, c42_4, e42_6, w42_6, e42_8, w42_8, c42_9, e42_11, w42_11, e42_13, w42_13, e42_15, w42_15, e42_17, w42_17, e42_19, w42_19, c42_20, e42_22, w42_22, e42_24, w42_24, e42_26, w42_26, e42_28, w42_28, c42_29, e42_31, w42_31, c42_32, e42_34, w42_34, c42_35, c42_36, c42_37, c42_38, c42_39, e42_41, w42_41, c42_42, e42_44, w42_44, c42_45, c42_46, c42_47, c42_48, e42_50, w42_50, c42_51, c42_52, c42_53, c42_54, c42_55, e42_57, w42_57, c42_58, c42_59, c42_60, c42_61, c42_62, Fares.row, Product.row]
      refine next_pop hi rfl ⟨fun k hk => ?_, rfl, rfl⟩
      rcases Nat.lt_or_ge k i with hlt | hge
      · exact hall k hlt
      · have : k = i := by omega
        subst this
        rw [herr, if_neg g1', if_neg g2, if_neg (by simp [Product.right, k1, k2, k3, k4, k5])]
  · rintro vs M ⟨hall, rfl, rfl⟩
    simp -implicitDefEqProofs (disch := omega) only [go_sem, Nat.reduceAdd, Nat.reduceMul, Nat.reduceSub, Nat.reduceBEq, Nat.reduceLeDiff, Nat.reduceLT, fn_transitref26_Fares, e42_1, w42_1, e42_3, w42_3, c42_4, e42_6, w42_6, e42_8, w42_8, c42_9, e42_11, w42_11, e42_13, w42_13, e42_15, w42_15, e42_17, w42_17, e42_19, w42_19, c42_20, e42_22, w42_22, e42_24, w42_24, e42_26, w42_26, e42_28, w42_28, c42_29, e42_31, w42_31, c42_32, e42_34, w42_34, c42_35, c42_36, c42_37, c42_38, c42_39, e42_41, w42_41, c42_42, e42_44, w42_44, c42_45, c42_46, c42_47, c42_48, e42_50, w42_50, c42_51, c42_52, c42_53, c42_54, c42_55, e42_57, w42_57, c42_58, c42_59, c42_60, c42_61, c42_62, Fares.row, Product.row, dec_irrefl, firstErr_none hall, pairV]

/-! ### Sets of ints -/
theorem bset_bv (a : Int) : bset a = (BitVec.ofInt 64 a).toNat := by rw [bset, BitVec.toNat_ofInt]; rfl
theorem bset_wrap (n : Int) : bset (IntKind.i64.wrap n) = bset n := by rw [i64_wrap, bset, bset]; split <;> omega
theorem bset_nat (n : Nat) (h : n < 18446744073709551616) : bset (n : Int) = n := by rw [bset]; omega
theorem wrap_I64 (n : Int) : I64 (IntKind.i64.wrap n) := by rw [i64_wrap, I64]; split <;> omega
theorem bset_or (a b : Int) : bset (orK .i64 a b) = bset a ||| bset b := by
  show bset (IntKind.i64.wrap ((BitVec.ofInt 64 a ||| BitVec.ofInt 64 b).toNat : Int)) = _
  rw [bset_wrap, bset_nat _ (BitVec.isLt _), BitVec.toNat_or, ← bset_bv, ← bset_bv]
theorem bset_andNot (a b : Int) : bset (andNotK .i64 a b) = minus (bset a) (bset b) := by
  show bset (IntKind.i64.wrap ((BitVec.ofInt 64 a &&& ~~~ BitVec.ofInt 64 b).toNat : Int)) = _
  rw [bset_wrap, bset_nat _ (BitVec.isLt _), bset_bv, bset_bv]
  apply Nat.eq_of_testBit_eq
  intro j
  rw [minus_bit, BitVec.testBit_toNat, BitVec.testBit_toNat, BitVec.testBit_toNat, BitVec.getLsbD_and, BitVec.getLsbD_not]
  by_cases hj : j < 64
  · simp [hj]
  · rw [BitVec.getLsbD_of_ge _ _ (by omega)]; simp
theorem bset_zero {a : Int} (h : I64 a) : bset a = 0 ↔ a = 0 := by obtain ⟨h1, h2⟩ := h; rw [bset]; omega
theorem andNot_I64 (a b : Int) : I64 (andNotK .i64 a b) := wrap_I64 _

theorem shr_u64 (a i : Nat) (h : i < 64) : binV .shr .none (.int .u64 a) (.int .i64 i) = some (.int .u64 (a / 2 ^ i : Nat)) := by
  have h1 : decide ((i : Int) < 0) = false := decide_eq_false (by omega)
  have h2 : min i IntKind.u64.bits = i := Nat.min_eq_left (Nat.le_of_lt h)
  simp only [binV, shiftV, h1, cond_false, Int.toNat_natCast, h2]
  rw [show ((2 : Int) ^ i) = ((2 ^ i : Nat) : Int) by simp, Int.ofNat_fdiv]

theorem transitref35_bits_ok (z : Int) : PCalls PR i_transitref35_bits [.int .i64 z] (fun v => v = .int .i64 (pop 64 (bset z) : Nat)) := by
  refine acalls_pop fn_transitref35_bits_ok (by simp [fn_transitref35_bits]) ?_
  simp -implicitDefEqProofs (disch := omega) only [go_sem, Nat.reduceAdd, Nat.reduceMul, Nat.reduceSub, Nat.reduceBEq, Nat.reduceLeDiff, Nat.reduceLT, fn_transitref35_bits, e58_1, w58_1, e58_3, w58_3, e58_5, w58_5, e58_7, w58_7, e58_9, w58_9, e58_11, w58_11, c58_12, e58_14, w58_14, c58_15, c58_16, c58_17, c58_18, c58_19, e58_21, w58_21, c58_22, c58_23, c58_24, c58_25]
  refine wpC_for 64 (fun i vs M => vs = [.int .i64 z, .int .i64 ((elems (bset z) i).length : Nat), .int .i64 i] ∧ M = []) ⟨rfl, rfl⟩ ?_ ?_
  · rintro i vs M hi hd ⟨rfl, rfl⟩
    have hd : decide ((i : Int) < 64) = true := hd
    have hb := bset_lt z
    have hle := elems_le (bset z) i
    have hand : andK .u64 ((bset z / 2 ^ i : Nat) : Int) 1 = ((bset z / 2 ^ i % 2 : Nat) : Int) := by
      have : bset z / 2 ^ i ≤ bset z := Nat.div_le_self ..
      have := andK_nat (bset z / 2 ^ i) 1 (by omega) (by omega)
      rw [Nat.and_one_is_mod] at this
      exact this
    simp -implicitDefEqProofs (disch := omega) only [go_sem, Nat.reduceAdd, Nat.reduceMul, Nat.reduceSub, Nat.reduceBEq, Nat.reduceLeDiff, Nat.reduceLT, fn_transitref35_bits, e58_1, w58_1, e58_3, w58_3, e58_5, w58_5, e58_7, w58_7, e58_9, w58_9, e58_11, w58_11, c58_12, e58_14, w58_14, c58_15, c58_16, c58_17, c58_18, c58_19, e58_21, w58_21, c58_22, c58_23, c58_24, c58_25, hd, conv_bset, shr_u64 _ i hi, hand]
    have ht := Nat.testBit_eq_decide_div_mod_eq (x := bset z) (i := i)
    refine ifD (fun h => ?_) (fun h => ?_)
    · have h' : (bset z).testBit i = true := by rw [ht]; exact decide_eq_true (by omega)
      simp -implicitDefEqProofs (disch := omega) only [go_sem, Nat.reduceAdd, Nat.reduceMul, Nat.reduceSub, Nat.reduceBEq, Nat.reduceLeDiff, Nat.reduceLT, fn_transitref35_bits, e58_1, w58_1, e58_3, w58_3, e58_5, w58_5, e58_7, w58_7, e58_9, w58_9, e58_11, w58_11, c58_12, e58_14, w58_14, c58_15, c58_16, c58_17, c58_18, c58_19, e58_21, w58_21, c58_22, c58_23, c58_24, c58_25]
      refine next_stay hi ⟨?_, rfl⟩
      simp only [elems_succ, h', if_true, List.length_append] <;> rfl
    · have h' : (bset z).testBit i = false := by rw [ht]; exact decide_eq_false (by omega)
      simp -implicitDefEqProofs (disch := omega) only [go_sem, Nat.reduceAdd, Nat.reduceMul, Nat.reduceSub, Nat.reduceBEq, Nat.reduceLeDiff, Nat.reduceLT, fn_transitref35_bits, e58_1, w58_1, e58_3, w58_3, e58_5, w58_5, e58_7, w58_7, e58_9, w58_9, e58_11, w58_11, c58_12, e58_14, w58_14, c58_15, c58_16, c58_17, c58_18, c58_19, e58_21, w58_21, c58_22, c58_23, c58_24, c58_25]
      refine next_stay hi ⟨?_, rfl⟩
      simp only [elems_succ, h', Bool.false_eq_true, if_false, List.append_nil] <;> rfl
  · rintro vs M ⟨rfl, rfl⟩
    simp -implicitDefEqProofs (disch := omega) only [go_sem, Nat.reduceAdd, Nat.reduceMul, Nat.reduceSub, Nat.reduceBEq, Nat.reduceLeDiff, Nat.reduceLT, fn_transitref35_bits, e58_1, w58_1, e58_3, w58_3, e58_5, w58_5, e58_7, w58_7, e58_9, w58_9, e58_11, w58_11, c58_12, e58_14, w58_14, c58_15, c58_16, c58_17, c58_18, c58_19, e58_21, w58_21, c58_22, c58_23, c58_24, c58_25, d64, elems_len]

/-- The rides from i to k. -/
def part (l : List Ride) (i k : Nat) : List Ride := (l.drop i).take (k + 1 - i)
theorem part_len {l : List Ride} {i k : Nat} (h : k < l.length) : (part l i k).length = k + 1 - i := by simp [part]; omega
theorem part_get {l : List Ride} {i k j : Nat} (h : j < k + 1 - i) : (part l i k)[j]? = l[i + j]? := by rw [part, List.getElem?_take_of_lt h, List.getElem?_drop]
theorem part_mem {l : List Ride} {i k : Nat} {r : Ride} (h : r ∈ part l i k) : r ∈ l := List.mem_of_mem_drop (List.mem_of_mem_take h)
theorem part_map (l : List Ride) (i k : Nat) : ((l.map Ride.row).drop i).take (k + 1 - i) = (part l i k).map Ride.row := by rw [part, List.map_take, List.map_drop]

theorem transitref35_Covers_ok (p : Product) (l : List Ride) (c : Cap) (i k : Nat) (hp : p.wf) (h0 : 0 ≤ p.seconds) (hl : ∀ r ∈ l, r.wf) (hlen : l.length ≤ maxLen) (hik : i ≤ k) (hk : k < l.length) :
    PCalls PR i_transitref35_Covers [.agg p.row, .slice (l.map Ride.row) c, .int .i64 i, .int .i64 k] (fun v => v = .bool (covers p (part l i k))) := by
  have hm : maxLen = 9223372036854775807 := by rfl
  obtain ⟨_, _, hpr, hpz, hps, hpm⟩ := hp
  refine acalls_pop fn_transitref35_Covers_ok (by simp [fn_transitref35_Covers]) ?_
  have hpl := part_len (l := l) (i := i) hk
  obtain ⟨a, b, ha, hb⟩ := first_last (l := part l i k) (by omega)
  have ha' : l[i]? = some a := by rw [part_get (by omega)] at ha; exact ha
  have hb' : l[k]? = some b := by rw [part_get (by omega), hpl, show i + (k + 1 - i - 1) = k by omega] at hb; exact hb
  have hspan : spanOf (part l i k) = b.depart - a.depart := by simp only [spanOf, ha, hb]
  simp -implicitDefEqProofs (disch := omega) only [go_sem, Nat.reduceAdd, Nat.reduceMul, Nat.reduceSub, Nat.reduceBEq, Nat.reduceLeDiff, Nat.reduceLT, fn_transitref35_Covers, e43_1, w43_1, e43_3, w43_3, e43_5, w43_5, e43_7, w43_7, e43_9, w43_9, e43_11, w43_11, c43_12, c43_13, e43_15, w43_15, c43_16, c43_17, c43_18, c43_19, c43_20, e43_22, w43_22, c43_23, c43_24, c43_25, c43_26, Product.row]
  refine wpC_for (k + 1 - i) (fun j vs M => ∃ z m, bset z = zonesOf ((part l i k).take j) ∧ bset m = modesOf ((part l i k).take j) ∧ I64 m ∧ vs = [.slice (l.map Ride.row) c, .int .i64 i, .int .i64 k, .ptr 0 0, .int .i64 z, .int .i64 m, .int .i64 (i + j : Nat)] ∧ M = [.box p.row])
    ⟨0, 0, rfl, rfl, by constructor <;> omega, rfl, rfl⟩ ?_ ?_
  · rintro j vs M hj hd ⟨z, m, hz, hm2, hm3, rfl, rfl⟩
    obtain ⟨r, hr⟩ : ∃ r, l[i + j]? = some r := ⟨l[i + j]'(by omega), by simp⟩
    have hr' : (part l i k)[j]? = some r := by rw [part_get hj]; exact hr
    have hx : decide (((i + j : Nat) : Int) ≤ (k : Int)) = true := decide_eq_true (by omega)
    simp -implicitDefEqProofs (disch := omega) only [go_sem, Nat.reduceAdd, Nat.reduceMul, Nat.reduceSub, Nat.reduceBEq, Nat.reduceLeDiff, Nat.reduceLT, fn_transitref35_Covers, e43_1, w43_1, e43_3, w43_3, e43_5, w43_5, e43_7, w43_7, e43_9, w43_9, e43_11, w43_11, c43_12, c43_13, e43_15, w43_15, c43_16, c43_17, c43_18, c43_19, c43_20, e43_22, w43_22, c43_23, c43_24, c43_25, c43_26, hx, hr, Ride.row]
    refine next_stay hj ⟨_, _, ?_, ?_, ?_, rfl, rfl⟩
    · rw [bset_or, hz, zonesOf_snoc _ _ _ hr']
    · rw [bset_or, hm2, modesOf_snoc _ _ _ hr']
    · exact wrap_I64 _
  · rintro vs M ⟨z, m, hz, hm2, hm3, rfl, rfl⟩
    rw [List.take_of_length_le (by omega)] at hz hm2
    have hx : decide (((i + (k + 1 - i) : Nat) : Int) ≤ (k : Int)) = false := decide_eq_false (by omega)
    simp -implicitDefEqProofs (disch := omega) only [go_sem, Nat.reduceAdd, Nat.reduceMul, Nat.reduceSub, Nat.reduceBEq, Nat.reduceLeDiff, Nat.reduceLT, fn_transitref35_Covers, e43_1, w43_1, e43_3, w43_3, e43_5, w43_5, e43_7, w43_7, e43_9, w43_9, e43_11, w43_11, c43_12, c43_13, e43_15, w43_15, c43_16, c43_17, c43_18, c43_19, c43_20, e43_22, w43_22, c43_23, c43_24, c43_25, c43_26, hx, Product.row]
    have hlen' : ((part l i k).length : Int) = (k : Int) - i + 1 := by omega
    refine ifD (fun g1 => ?_) (fun g1 => ?_)
    rotate_left
    · simp -implicitDefEqProofs (disch := omega) only [go_sem, Nat.reduceAdd, Nat.reduceMul, Nat.reduceSub, Nat.reduceBEq, Nat.reduceLeDiff, Nat.reduceLT, fn_transitref35_Covers, e43_1, w43_1, e43_3, w43_3, e43_5, w43_5, e43_7, w43_7, e43_9, w43_9, e43_11, w43_11, c43_12, c43_13, e43_15, w43_15, c43_16, c43_17, c43_18, c43_19, c43_20, e43_22, w43_22, c43_23, c43_24, c43_25, c43_26, Product.row]
      have : ¬ ((part l i k).length : Int) ≤ p.rides := by omega
      simp [covers, this]
    simp -implicitDefEqProofs (disch := omega) only [go_sem, Nat.reduceAdd, Nat.reduceMul, Nat.reduceSub, Nat.reduceBEq, Nat.reduceLeDiff, Nat.reduceLT, fn_transitref35_Covers, e43_1, w43_1, e43_3, w43_3, e43_5, w43_5, e43_7, w43_7, e43_9, w43_9, e43_11, w43_11, c43_12, c43_13, e43_15, w43_15, c43_16, c43_17, c43_18, c43_19, c43_20, e43_22, w43_22, c43_23, c43_24, c43_25, c43_26, Product.row]
    first | refine callD (transitref35_bits_ok z) ?_ | refine callQD (transitref35_bits_ok z) ?_
    simp -implicitDefEqProofs (disch := omega) only [go_sem, Nat.reduceAdd, Nat.reduceMul, Nat.reduceSub, Nat.reduceBEq, Nat.reduceLeDiff, Nat.reduceLT, fn_transitref35_Covers, e43_1, w43_1, e43_3, w43_3, e43_5, w43_5, e43_7, w43_7, e43_9, w43_9, e43_11, w43_11, c43_12, c43_13, e43_15, w43_15, c43_16, c43_17, c43_18, c43_19, c43_20, e43_22, w43_22, c43_23, c43_24, c43_25, c43_26, Product.row]
    refine ifD (fun g2 => ?_) (fun g2 => ?_)
    rotate_left
    · simp -implicitDefEqProofs (disch := omega) only [go_sem, Nat.reduceAdd, Nat.reduceMul, Nat.reduceSub, Nat.reduceBEq, Nat.reduceLeDiff, Nat.reduceLT, fn_transitref35_Covers, e43_1, w43_1, e43_3, w43_3, e43_5, w43_5, e43_7, w43_7, e43_9, w43_9, e43_11, w43_11, c43_12, c43_13, e43_15, w43_15, c43_16, c43_17, c43_18, c43_19, c43_20, e43_22, w43_22, c43_23, c43_24, c43_25, c43_26, Product.row]
      rw [hz] at g2
      simp [covers, g2]
    simp -implicitDefEqProofs (disch := omega) only [go_sem, Nat.reduceAdd, Nat.reduceMul, Nat.reduceSub, Nat.reduceBEq, Nat.reduceLeDiff, Nat.reduceLT, fn_transitref35_Covers, e43_1, w43_1, e43_3, w43_3, e43_5, w43_5, e43_7, w43_7, e43_9, w43_9, e43_11, w43_11, c43_12, c43_13, e43_15, w43_15, c43_16, c43_17, c43_18, c43_19, c43_20, e43_22, w43_22, c43_23, c43_24, c43_25, c43_26, Product.row, ha', hb', Ride.row]
    first | refine callD (transitref35_within_ok _ _ _ (hl a (List.mem_of_getElem? ha')).1 (hl b (List.mem_of_getElem? hb')).1 hps h0) ?_ | refine callQD (transitref35_within_ok _ _ _ (hl a (List.mem_of_getElem? ha')).1 (hl b (List.mem_of_getElem? hb')).1 hps h0) ?_
    simp -implicitDefEqProofs (disch := omega) only [go_sem, Nat.reduceAdd, Nat.reduceMul, Nat.reduceSub, Nat.reduceBEq, Nat.reduceLeDiff, Nat.reduceLT, fn_transitref35_Covers, e43_1, w43_1, e43_3, w43_3, e43_5, w43_5, e43_7, w43_7, e43_9, w43_9, e43_11, w43_11, c43_12, c43_13, e43_15, w43_15, c43_16, c43_17, c43_18, c43_19, c43_20, e43_22, w43_22, c43_23, c43_24, c43_25, c43_26, Product.row]
    refine ifD (fun g3 => ?_) (fun g3 => ?_)
    rotate_left
    · simp -implicitDefEqProofs (disch := omega) only [go_sem, Nat.reduceAdd, Nat.reduceMul, Nat.reduceSub, Nat.reduceBEq, Nat.reduceLeDiff, Nat.reduceLT, fn_transitref35_Covers, e43_1, w43_1, e43_3, w43_3, e43_5, w43_5, e43_7, w43_7, e43_9, w43_9, e43_11, w43_11, c43_12, c43_13, e43_15, w43_15, c43_16, c43_17, c43_18, c43_19, c43_20, e43_22, w43_22, c43_23, c43_24, c43_25, c43_26, Product.row]
      rw [← hspan] at g3
      simp [covers, g3]
    simp -implicitDefEqProofs (disch := omega) only [go_sem, Nat.reduceAdd, Nat.reduceMul, Nat.reduceSub, Nat.reduceBEq, Nat.reduceLeDiff, Nat.reduceLT, fn_transitref35_Covers, e43_1, w43_1, e43_3, w43_3, e43_5, w43_5, e43_7, w43_7, e43_9, w43_9, e43_11, w43_11, c43_12, c43_13, e43_15, w43_15, c43_16, c43_17, c43_18, c43_19, c43_20, e43_22, w43_22, c43_23, c43_24, c43_25, c43_26, Product.row]
    rw [hz] at g2
    rw [← hspan] at g3
    have e1 : 0 < (part l i k).length := by omega
    have e2 : ((part l i k).length : Int) ≤ p.rides := by omega
    simp only [covers, e1, e2, g2, g3, decide_true, Bool.true_and]
    exact decide_eq_decide.2 (by rw [← hm2, ← bset_andNot, bset_zero (andNot_I64 _ _)])

/-! ### Tickets -/
/-- The price of a ticket whose first ride is i. -/
def ticket (f : Fares) (p : Product) (l : List Ride) (i : Nat) : Int :=
  match l[i - 1]?, l[i]? with
  | some a, some b => if 0 < i ∧ b.depart - a.arrive ≤ f.within then max 0 (p.price - f.discount) else p.price
  | _, _ => p.price

theorem ticket_range {f : Fares} {p : Product} {l : List Ride} {i : Nat} (h : 0 ≤ p.price ∧ p.price ≤ 1000000) (hd : 0 ≤ f.discount) : 0 ≤ ticket f p l i ∧ ticket f p l i ≤ 1000000 := by
  unfold ticket
  split
  · split <;> omega
  · omega

theorem fare_ticketPrice_ok (f : Fares) (p : Product) (l : List Ride) (c : Cap) (i : Nat) (hf : f.wf) (hok : f.Ok) (hp : 0 ≤ p.price ∧ p.price ≤ 1000000) (hl : ∀ r ∈ l, r.wf) (hi : i < l.length) (hlen : l.length ≤ maxLen) :
    PCalls PR i_fare_ticketPrice [.agg f.row, .agg p.row, .slice (l.map Ride.row) c, .int .i64 i] (fun v => v = .int .i64 (ticket f p l i)) := by
  have hm : maxLen = 9223372036854775807 := by rfl
  obtain ⟨d1, d2⟩ := hok.discount
  refine acalls_pop fn_fare_ticketPrice_ok (by simp [fn_fare_ticketPrice]) ?_
  obtain ⟨b, hb⟩ : ∃ b, l[i]? = some b := ⟨l[i], by simp⟩
  obtain ⟨a, ha⟩ : ∃ a, l[i - 1]? = some a := ⟨l[i - 1], by simp⟩
  have ht : ticket f p l i = if 0 < i ∧ b.depart - a.arrive ≤ f.within then max 0 (p.price - f.discount) else p.price := by simp only [ticket, ha, hb]
  simp -implicitDefEqProofs (disch := omega) only [go_sem, Nat.reduceAdd, Nat.reduceMul, Nat.reduceSub, Nat.reduceBEq, Nat.reduceLeDiff, Nat.reduceLT, fn_fare_ticketPrice, e54_1, w54_1, e54_3, w54_3, c54_4, e54_6, w54_6, e54_8, w54_8, c54_9, c54_10, c54_11, Fares.row, Product.row]
  refine ifD (fun h1 => ?_) (fun h1 => ?_)
  rotate_left
  · simp -implicitDefEqProofs (disch := omega) only [go_sem, Nat.reduceAdd, Nat.reduceMul, Nat.reduceSub, Nat.reduceBEq, Nat.reduceLeDiff, Nat.reduceLT, fn_fare_ticketPrice, e54_1, w54_1, e54_3, w54_3, c54_4, e54_6, w54_6, e54_8, w54_8, c54_9, c54_10, c54_11, Fares.row, Product.row, ht]
    rw [if_neg (fun e => by omega)]
  simp -implicitDefEqProofs (disch := omega) only [go_sem, Nat.reduceAdd, Nat.reduceMul, Nat.reduceSub, Nat.reduceBEq, Nat.reduceLeDiff, Nat.reduceLT, fn_fare_ticketPrice, e54_1, w54_1, e54_3, w54_3, c54_4, e54_6, w54_6, e54_8, w54_8, c54_9, c54_10, c54_11, Fares.row, Product.row, ha, hb, Ride.row]
  first | refine callD (fare_within_ok _ _ _ (hl a (List.mem_of_getElem? ha)).2.1 (hl b (List.mem_of_getElem? hb)).1 hf.2.2.2.1 hok.within.1) ?_ | refine callQD (fare_within_ok _ _ _ (hl a (List.mem_of_getElem? ha)).2.1 (hl b (List.mem_of_getElem? hb)).1 hf.2.2.2.1 hok.within.1) ?_
  simp -implicitDefEqProofs (disch := omega) only [go_sem, Nat.reduceAdd, Nat.reduceMul, Nat.reduceSub, Nat.reduceBEq, Nat.reduceLeDiff, Nat.reduceLT, fn_fare_ticketPrice, e54_1, w54_1, e54_3, w54_3, c54_4, e54_6, w54_6, e54_8, w54_8, c54_9, c54_10, c54_11]
  refine ifD (fun h2 => ?_) (fun h2 => ?_)
  · simp -implicitDefEqProofs (disch := omega) only [go_sem, Nat.reduceAdd, Nat.reduceMul, Nat.reduceSub, Nat.reduceBEq, Nat.reduceLeDiff, Nat.reduceLT, fn_fare_ticketPrice, e54_1, w54_1, e54_3, w54_3, c54_4, e54_6, w54_6, e54_8, w54_8, c54_9, c54_10, c54_11, Fares.row, Product.row, ht]
    rw [if_pos ⟨by omega, h2⟩]
  · simp -implicitDefEqProofs (disch := omega) only [go_sem, Nat.reduceAdd, Nat.reduceMul, Nat.reduceSub, Nat.reduceBEq, Nat.reduceLeDiff, Nat.reduceLT, fn_fare_ticketPrice, e54_1, w54_1, e54_3, w54_3, c54_4, e54_6, w54_6, e54_8, w54_8, c54_9, c54_10, c54_11, Fares.row, Product.row, ht]
    rw [if_neg (fun e => h2 e.2)]

theorem transitref35_Ticket_ok (f : Fares) (p : Product) (l : List Ride) (c : Cap) (i : Nat) (hf : f.wf) (hok : f.Ok) (hp : 0 ≤ p.price ∧ p.price ≤ 1000000) (hl : ∀ r ∈ l, r.wf) (hi : i < l.length) (hlen : l.length ≤ maxLen) :
    PCalls PR i_transitref35_Ticket [.agg f.row, .agg p.row, .slice (l.map Ride.row) c, .int .i64 i] (fun v => v = .int .i64 (ticket f p l i)) := by
  have hm : maxLen = 9223372036854775807 := by rfl
  obtain ⟨d1, d2⟩ := hok.discount
  refine acalls_pop fn_transitref35_Ticket_ok (by simp [fn_transitref35_Ticket]) ?_
  obtain ⟨b, hb⟩ : ∃ b, l[i]? = some b := ⟨l[i], by simp⟩
  obtain ⟨a, ha⟩ : ∃ a, l[i - 1]? = some a := ⟨l[i - 1], by simp⟩
  have ht : ticket f p l i = if 0 < i ∧ b.depart - a.arrive ≤ f.within then max 0 (p.price - f.discount) else p.price := by simp only [ticket, ha, hb]
  simp -implicitDefEqProofs (disch := omega) only [go_sem, Nat.reduceAdd, Nat.reduceMul, Nat.reduceSub, Nat.reduceBEq, Nat.reduceLeDiff, Nat.reduceLT, fn_transitref35_Ticket, e44_1, w44_1, e44_3, w44_3, c44_4, e44_6, w44_6, e44_8, w44_8, c44_9, c44_10, c44_11, Fares.row, Product.row]
  refine ifD (fun h1 => ?_) (fun h1 => ?_)
  rotate_left
  · simp -implicitDefEqProofs (disch := omega) only [go_sem, Nat.reduceAdd, Nat.reduceMul, Nat.reduceSub, Nat.reduceBEq, Nat.reduceLeDiff, Nat.reduceLT, fn_transitref35_Ticket, e44_1, w44_1, e44_3, w44_3, c44_4, e44_6, w44_6, e44_8, w44_8, c44_9, c44_10, c44_11, Fares.row, Product.row, ht]
    rw [if_neg (fun e => by omega)]
  simp -implicitDefEqProofs (disch := omega) only [go_sem, Nat.reduceAdd, Nat.reduceMul, Nat.reduceSub, Nat.reduceBEq, Nat.reduceLeDiff, Nat.reduceLT, fn_transitref35_Ticket, e44_1, w44_1, e44_3, w44_3, c44_4, e44_6, w44_6, e44_8, w44_8, c44_9, c44_10, c44_11, Fares.row, Product.row, ha, hb, Ride.row]
  first | refine callD (transitref35_within_ok _ _ _ (hl a (List.mem_of_getElem? ha)).2.1 (hl b (List.mem_of_getElem? hb)).1 hf.2.2.2.1 hok.within.1) ?_ | refine callQD (transitref35_within_ok _ _ _ (hl a (List.mem_of_getElem? ha)).2.1 (hl b (List.mem_of_getElem? hb)).1 hf.2.2.2.1 hok.within.1) ?_
  simp -implicitDefEqProofs (disch := omega) only [go_sem, Nat.reduceAdd, Nat.reduceMul, Nat.reduceSub, Nat.reduceBEq, Nat.reduceLeDiff, Nat.reduceLT, fn_transitref35_Ticket, e44_1, w44_1, e44_3, w44_3, c44_4, e44_6, w44_6, e44_8, w44_8, c44_9, c44_10, c44_11]
  refine ifD (fun h2 => ?_) (fun h2 => ?_)
  · simp -implicitDefEqProofs (disch := omega) only [go_sem, Nat.reduceAdd, Nat.reduceMul, Nat.reduceSub, Nat.reduceBEq, Nat.reduceLeDiff, Nat.reduceLT, fn_transitref35_Ticket, e44_1, w44_1, e44_3, w44_3, c44_4, e44_6, w44_6, e44_8, w44_8, c44_9, c44_10, c44_11, Fares.row, Product.row, ht]
    rw [if_pos ⟨by omega, h2⟩]
  · simp -implicitDefEqProofs (disch := omega) only [go_sem, Nat.reduceAdd, Nat.reduceMul, Nat.reduceSub, Nat.reduceBEq, Nat.reduceLeDiff, Nat.reduceLT, fn_transitref35_Ticket, e44_1, w44_1, e44_3, w44_3, c44_4, e44_6, w44_6, e44_8, w44_8, c44_9, c44_10, c44_11, Fares.row, Product.row, ht]
    rw [if_neg (fun e => h2 e.2)]

structure Ticket where
  product : Int
  first : Int
  last : Int
  price : Int
  deriving DecidableEq
def Ticket.row (t : Ticket) : List V := [.int .i64 t.product, .int .i64 t.first, .int .i64 t.last, .int .i64 t.price]
def Ticket.wf (t : Ticket) : Prop := I64 t.product ∧ I64 t.first ∧ I64 t.last ∧ I64 t.price

/-- The sum of the prices. -/
def total (l : List Ticket) : Int := (l.map Ticket.price).sum

/-! ### Whether fares are valid -/
def faresOk (f : Fares) : Bool := decide ((checkRes f).2 = 0)

theorem transitref35_Valid_ok (f : Fares) (hf : f.wf) : PCalls PR i_transitref35_Valid [.agg f.row] (fun v => v = .bool (faresOk f)) := by
  refine acalls_pop fn_transitref35_Valid_ok (by simp [fn_transitref35_Valid]) ?_
  simp -implicitDefEqProofs (disch := omega) only [go_sem, Nat.reduceAdd, Nat.reduceMul, Nat.reduceSub, Nat.reduceBEq, Nat.reduceLeDiff, Nat.reduceLT, fn_transitref35_Valid, e29_1, w29_1, e29_3, w29_3, e29_5, w29_5, c29_6, c29_7, c29_8, Fares.row]
  first | refine callD (transitref26_Fares_ok f hf) ?_ | refine callQD (transitref26_Fares_ok f hf) ?_
  simp -implicitDefEqProofs (disch := omega) only [go_sem, Nat.reduceAdd, Nat.reduceMul, Nat.reduceSub, Nat.reduceBEq, Nat.reduceLeDiff, Nat.reduceLT, fn_transitref35_Valid, e29_1, w29_1, e29_3, w29_3, e29_5, w29_5, c29_6, c29_7, c29_8, pairV, faresOk]

/-- The error of fares and of a number of rides. -/
def validRes (f : Fares) (n : Nat) : Int := if (checkRes f).2 ≠ 0 then 20 else if 8 < n then 33 else 0

theorem fare_valid_ok (f : Fares) (l : List Ride) (c : Cap) (hf : f.wf) : PCalls PR i_fare_valid [.agg f.row, .slice (l.map Ride.row) c] (fun v => v = .int .i64 (validRes f l.length)) := by
  refine acalls_pop fn_fare_valid_ok (by simp [fn_fare_valid]) ?_
  simp -implicitDefEqProofs (disch := omega) only [go_sem, Nat.reduceAdd, Nat.reduceMul, Nat.reduceSub, Nat.reduceBEq, Nat.reduceLeDiff, Nat.reduceLT, fn_fare_valid, e38_1, w38_1, e38_3, w38_3, e38_5, w38_5, c38_6, e38_8, w38_8, c38_9, e38_11, w38_11, c38_12, e38_14, w38_14, e38_16, w38_16, c38_17, c38_18, c38_19, c38_20, Fares.row]
  first | refine callD (product_Check_ok f hf) ?_ | refine callQD (product_Check_ok f hf) ?_
  simp -implicitDefEqProofs (disch := omega) only [go_sem, Nat.reduceAdd, Nat.reduceMul, Nat.reduceSub, Nat.reduceBEq, Nat.reduceLeDiff, Nat.reduceLT, fn_fare_valid, e38_1, w38_1, e38_3, w38_3, e38_5, w38_5, c38_6, e38_8, w38_8, c38_9, e38_11, w38_11, c38_12, e38_14, w38_14, e38_16, w38_16, c38_17, c38_18, c38_19, c38_20, pairV]
  refine ifD (fun h1 => ?_) (fun h1 => ?_)
  rotate_left
  · simp -implicitDefEqProofs (disch := omega) only [go_sem, Nat.reduceAdd, Nat.reduceMul, Nat.reduceSub, Nat.reduceBEq, Nat.reduceLeDiff, Nat.reduceLT, fn_fare_valid, e38_1, w38_1, e38_3, w38_3, e38_5, w38_5, c38_6, e38_8, w38_8, c38_9, e38_11, w38_11, c38_12, e38_14, w38_14, e38_16, w38_16, c38_17, c38_18, c38_19, c38_20, validRes]
    rw [if_pos h1]
  simp -implicitDefEqProofs (disch := omega) only [go_sem, Nat.reduceAdd, Nat.reduceMul, Nat.reduceSub, Nat.reduceBEq, Nat.reduceLeDiff, Nat.reduceLT, fn_fare_valid, e38_1, w38_1, e38_3, w38_3, e38_5, w38_5, c38_6, e38_8, w38_8, c38_9, e38_11, w38_11, c38_12, e38_14, w38_14, e38_16, w38_16, c38_17, c38_18, c38_19, c38_20]
  refine ifD (fun h2 => ?_) (fun h2 => ?_)
  · simp -implicitDefEqProofs (disch := omega) only [go_sem, Nat.reduceAdd, Nat.reduceMul, Nat.reduceSub, Nat.reduceBEq, Nat.reduceLeDiff, Nat.reduceLT, fn_fare_valid, e38_1, w38_1, e38_3, w38_3, e38_5, w38_5, c38_6, e38_8, w38_8, c38_9, e38_11, w38_11, c38_12, e38_14, w38_14, e38_16, w38_16, c38_17, c38_18, c38_19, c38_20, validRes]
    rw [if_neg (by simp [h1]), if_pos (by omega)]
  · simp -implicitDefEqProofs (disch := omega) only [go_sem, Nat.reduceAdd, Nat.reduceMul, Nat.reduceSub, Nat.reduceBEq, Nat.reduceLeDiff, Nat.reduceLT, fn_fare_valid, e38_1, w38_1, e38_3, w38_3, e38_5, w38_5, c38_6, e38_8, w38_8, c38_9, e38_11, w38_11, c38_12, e38_14, w38_14, e38_16, w38_16, c38_17, c38_18, c38_19, c38_20, validRes]
    rw [if_neg (by simp [h1]), if_neg (by omega)]

end Go.Vm.C

