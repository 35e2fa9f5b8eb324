/- Contracts: numbers and identifiers. -/
import Derived.Test.YtcgejpmgaaghkaaC1

namespace Go.Vm.C
open Go.Vm
set_option maxHeartbeats 1000000
set_option maxRecDepth 10000
set_option linter.unusedSimpArgs false
set_option linter.unusedVariables false

/-! ### Numbers and identifiers -/
def within (n low high : Int) : Bool := decide (low ≤ n) && decide (n ≤ high)

theorem product_within_ok (n low high : Int) : PCalls PR i_product_within [.int .i64 n, .int .i64 low, .int .i64 high] (fun v => v = .bool (within n low high)) := by
  refine acalls_pop fn_product_within_ok (by simp [fn_product_within]) ?_
  simp -implicitDefEqProofs (disch := omega) only [go_sem, Nat.reduceAdd, Nat.reduceMul, Nat.reduceSub, Nat.reduceBEq, Nat.reduceLeDiff, Nat.reduceLT, fn_product_within, e23_1, w23_1, e23_3, w23_3, c23_4, c23_5]
  cases h : decide (low ≤ n)
  · simp -implicitDefEqProofs (disch := omega) only [go_sem, Nat.reduceAdd, Nat.reduceMul, Nat.reduceSub, Nat.reduceBEq, Nat.reduceLeDiff, Nat.reduceLT, within, h]
  · simp -implicitDefEqProofs (disch := omega) only [go_sem, Nat.reduceAdd, Nat.reduceMul, Nat.reduceSub, Nat.reduceBEq, Nat.reduceLeDiff, Nat.reduceLT, within, h]

theorem transitref21_within_ok (n low high : Int) : PCalls PR i_transitref21_within [.int .i64 n, .int .i64 low, .int .i64 high] (fun v => v = .bool (within n low high)) := by
  refine acalls_pop fn_transitref21_within_ok (by simp [fn_transitref21_within]) ?_
  simp -implicitDefEqProofs (disch := omega) only [go_sem, Nat.reduceAdd, Nat.reduceMul, Nat.reduceSub, Nat.reduceBEq, Nat.reduceLeDiff, Nat.reduceLT, fn_transitref21_within, e25_1, w25_1, e25_3, w25_3, c25_4, c25_5]
  cases h : decide (low ≤ n)
  · simp -implicitDefEqProofs (disch := omega) only [go_sem, Nat.reduceAdd, Nat.reduceMul, Nat.reduceSub, Nat.reduceBEq, Nat.reduceLeDiff, Nat.reduceLT, within, h]
  · simp -implicitDefEqProofs (disch := omega) only [go_sem, Nat.reduceAdd, Nat.reduceMul, Nat.reduceSub, Nat.reduceBEq, Nat.reduceLeDiff, Nat.reduceLT, within, h]

/-- A character of an identifier. -/
def letter (c : UInt8) : Bool :=
  (decide (97 ≤ c.toNat) && decide (c.toNat ≤ 122)) || (decide (65 ≤ c.toNat) && decide (c.toNat ≤ 90)) || (decide (48 ≤ c.toNat) && decide (c.toNat ≤ 57))
def mark (c : UInt8) : Bool := decide (c.toNat = 45) || decide (c.toNat = 95) || decide (c.toNat = 46)
def okChar (c : UInt8) : Bool := letter c || mark c
def okName (s : List UInt8) : Bool := s.all okChar && decide (0 < s.length) && decide (s.length ≤ 32)

theorem all_take_succ {s : List UInt8} {i : Nat} {c : UInt8} (h : s[i]? = some c) (p : UInt8 → Bool) : (s.take (i + 1)).all p = ((s.take i).all p && p c) := by
  rw [List.take_add_one, h]
  simp [List.all_append]

theorem all_false {s : List UInt8} {i : Nat} {c : UInt8} (h : s[i]? = some c) {p : UInt8 → Bool} (hp : p c = false) : s.all p = false := by
  rw [List.all_eq_false]
  exact ⟨c, List.mem_of_getElem? h, by simp [hp]⟩

theorem okChar_iff (c : UInt8) : okChar c = true ↔ (97 ≤ c.toNat ∧ c.toNat ≤ 122) ∨ (65 ≤ c.toNat ∧ c.toNat ≤ 90) ∨ (48 ≤ c.toNat ∧ c.toNat ≤ 57) ∨ c.toNat = 45 ∨ c.toNat = 95 ∨ c.toNat = 46 := by
  simp only [okChar, letter, mark, Bool.or_eq_true, Bool.and_eq_true, decide_eq_true_eq]
  omega

theorem okName_false {s : List UInt8} {i : Nat} {c : UInt8} (h : s[i]? = some c) (hc : okChar c = false) : okName s = false := by
  rw [okName, all_false h hc]; rfl
theorem okChar_false (c : UInt8) (h : ¬ ((97 ≤ c.toNat ∧ c.toNat ≤ 122) ∨ (65 ≤ c.toNat ∧ c.toNat ≤ 90) ∨ (48 ≤ c.toNat ∧ c.toNat ≤ 57) ∨ c.toNat = 45 ∨ c.toNat = 95 ∨ c.toNat = 46)) : okChar c = false := by
  rw [← Bool.not_eq_true, okChar_iff]; exact h

theorem ident_Valid_ok (s : List UInt8) (hs : s.length ≤ maxLen) : PCalls PR i_ident_Valid [.str s] (fun v => v = .bool (okName s)) := by
  have hm : maxLen = 9223372036854775807 := by rfl
  refine acalls_pop fn_ident_Valid_ok (by simp [fn_ident_Valid]) ?_
  simp -implicitDefEqProofs (disch := omega) only [go_sem, Nat.reduceAdd, Nat.reduceMul, Nat.reduceSub, Nat.reduceBEq, Nat.reduceLeDiff, Nat.reduceLT, fn_ident_Valid, e24_1, w24_1, e24_3, w24_3, e24_5, w24_5, e24_7, w24_7, e24_9, w24_9, e24_11, w24_11, e24_13, w24_13, e24_15, w24_15, e24_17, w24_17, e24_19, w24_19, e24_21, w24_21, c24_22, c24_23, c24_24, c24_25, c24_26, c24_27, c24_28, c24_29, e24_31, w24_31, c24_32, c24_33, c24_34, c24_35, c24_36, e24_38, w24_38, c24_39, c24_40, c24_41]
  refine wpC_forL s (fun i vs M => (s.take i).all okChar = true ∧ vs = [.str s, .int .i64 i] ∧ M = []) ⟨by simp, rfl, rfl⟩ ?_ ?_
  · rintro i c vs M hc hi hd ⟨hall, rfl, rfl⟩
    simp -implicitDefEqProofs (disch := omega) only [go_sem, Nat.reduceAdd, Nat.reduceMul, Nat.reduceSub, Nat.reduceBEq, Nat.reduceLeDiff, Nat.reduceLT, fn_ident_Valid, e24_1, w24_1, e24_3, w24_3, e24_5, w24_5, e24_7, w24_7, e24_9, w24_9, e24_11, w24_11, e24_13, w24_13, e24_15, w24_15, e24_17, w24_17, e24_19, w24_19, e24_21, w24_21, c24_22, c24_23, c24_24, c24_25, c24_26, c24_27, c24_28, c24_29, e24_31, w24_31, c24_32, c24_33, c24_34, c24_35, c24_36, e24_38, w24_38, c24_39, c24_40, c24_41, open_if, hd, hc]
    repeat' (refine BIf_dec (fun h => ?_) (fun h => ?_))
    all_goals first
      | (refine next_stay hi ⟨?_, rfl, rfl⟩
         rw [all_take_succ hc, hall, (okChar_iff c).2 (by omega)]; rfl)
      | (rw [okName_false hc (okChar_false c (by omega))])
  · rintro vs M ⟨hall, rfl, rfl⟩
    rw [List.take_length] at hall
    simp -implicitDefEqProofs (disch := omega) only [go_sem, Nat.reduceAdd, Nat.reduceMul, Nat.reduceSub, Nat.reduceBEq, Nat.reduceLeDiff, Nat.reduceLT, fn_ident_Valid, e24_1, w24_1, e24_3, w24_3, e24_5, w24_5, e24_7, w24_7, e24_9, w24_9, e24_11, w24_11, e24_13, w24_13, e24_15, w24_15, e24_17, w24_17, e24_19, w24_19, e24_21, w24_21, c24_22, c24_23, c24_24, c24_25, c24_26, c24_27, c24_28, c24_29, e24_31, w24_31, c24_32, c24_33, c24_34, c24_35, c24_36, e24_38, w24_38, c24_39, c24_40, c24_41, dec_irrefl]
    refine ifD (fun h => ?_) (fun h => ?_)
    · have h3 : 0 < s.length := by omega
      simp -implicitDefEqProofs (disch := omega) only [go_sem, Nat.reduceAdd, Nat.reduceMul, Nat.reduceSub, Nat.reduceBEq, Nat.reduceLeDiff, Nat.reduceLT, fn_ident_Valid, e24_1, w24_1, e24_3, w24_3, e24_5, w24_5, e24_7, w24_7, e24_9, w24_9, e24_11, w24_11, e24_13, w24_13, e24_15, w24_15, e24_17, w24_17, e24_19, w24_19, e24_21, w24_21, c24_22, c24_23, c24_24, c24_25, c24_26, c24_27, c24_28, c24_29, e24_31, w24_31, c24_32, c24_33, c24_34, c24_35, c24_36, e24_38, w24_38, c24_39, c24_40, c24_41, okName, hall, h3]
      exact decide_eq_decide.2 (by omega)
    · have h3 : ¬ 0 < s.length := by omega
      simp -implicitDefEqProofs (disch := omega) only [go_sem, Nat.reduceAdd, Nat.reduceMul, Nat.reduceSub, Nat.reduceBEq, Nat.reduceLeDiff, Nat.reduceLT, fn_ident_Valid, e24_1, w24_1, e24_3, w24_3, e24_5, w24_5, e24_7, w24_7, e24_9, w24_9, e24_11, w24_11, e24_13, w24_13, e24_15, w24_15, e24_17, w24_17, e24_19, w24_19, e24_21, w24_21, c24_22, c24_23, c24_24, c24_25, c24_26, c24_27, c24_28, c24_29, e24_31, w24_31, c24_32, c24_33, c24_34, c24_35, c24_36, e24_38, w24_38, c24_39, c24_40, c24_41]
      simp [okName, h3]

theorem transitref15_Name_ok (s : List UInt8) (hs : s.length ≤ maxLen) : PCalls PR i_transitref15_Name [.str s] (fun v => v = .bool (okName s)) := by
  have hm : maxLen = 9223372036854775807 := by rfl
  refine acalls_pop fn_transitref15_Name_ok (by simp [fn_transitref15_Name]) ?_
  simp -implicitDefEqProofs (disch := omega) only [go_sem, Nat.reduceAdd, Nat.reduceMul, Nat.reduceSub, Nat.reduceBEq, Nat.reduceLeDiff, Nat.reduceLT, fn_transitref15_Name, e26_1, w26_1, e26_3, w26_3, c26_4, e26_6, w26_6, e26_8, w26_8, e26_10, w26_10, e26_12, w26_12, e26_14, w26_14, c26_15, e26_17, w26_17, c26_18, c26_19, e26_21, w26_21, c26_22, c26_23, c26_24, c26_25, c26_26, e26_28, w26_28, c26_29, c26_30, c26_31, c26_32]
  refine ifD (fun h => ?_) (fun h1 => ?_)
  · have : okName s = false := by
      have : ¬ 0 < s.length := by omega
      simp [okName, this]
    simp -implicitDefEqProofs (disch := omega) only [go_sem, Nat.reduceAdd, Nat.reduceMul, Nat.reduceSub, Nat.reduceBEq, Nat.reduceLeDiff, Nat.reduceLT, fn_transitref15_Name, e26_1, w26_1, e26_3, w26_3, c26_4, e26_6, w26_6, e26_8, w26_8, e26_10, w26_10, e26_12, w26_12, e26_14, w26_14, c26_15, e26_17, w26_17, c26_18, c26_19, e26_21, w26_21, c26_22, c26_23, c26_24, c26_25, c26_26, e26_28, w26_28, c26_29, c26_30, c26_31, c26_32, this]
  simp -implicitDefEqProofs (disch := omega) only [go_sem, Nat.reduceAdd, Nat.reduceMul, Nat.reduceSub, Nat.reduceBEq, Nat.reduceLeDiff, Nat.reduceLT, fn_transitref15_Name, e26_1, w26_1, e26_3, w26_3, c26_4, e26_6, w26_6, e26_8, w26_8, e26_10, w26_10, e26_12, w26_12, e26_14, w26_14, c26_15, e26_17, w26_17, c26_18, c26_19, e26_21, w26_21, c26_22, c26_23, c26_24, c26_25, c26_26, e26_28, w26_28, c26_29, c26_30, c26_31, c26_32]
  refine ifD (fun h => ?_) (fun h2 => ?_)
  · have : okName s = false := by
      have : ¬ s.length ≤ 32 := by omega
      simp [okName, this]
    simp -implicitDefEqProofs (disch := omega) only [go_sem, Nat.reduceAdd, Nat.reduceMul, Nat.reduceSub, Nat.reduceBEq, Nat.reduceLeDiff, Nat.reduceLT, fn_transitref15_Name, e26_1, w26_1, e26_3, w26_3, c26_4, e26_6, w26_6, e26_8, w26_8, e26_10, w26_10, e26_12, w26_12, e26_14, w26_14, c26_15, e26_17, w26_17, c26_18, c26_19, e26_21, w26_21, c26_22, c26_23, c26_24, c26_25, c26_26, e26_28, w26_28, c26_29, c26_30, c26_31, c26_32, this]
  simp -implicitDefEqProofs (disch := omega) only [go_sem, Nat.reduceAdd, Nat.reduceMul, Nat.reduceSub, Nat.reduceBEq, Nat.reduceLeDiff, Nat.reduceLT, fn_transitref15_Name, e26_1, w26_1, e26_3, w26_3, c26_4, e26_6, w26_6, e26_8, w26_8, e26_10, w26_10, e26_12, w26_12, e26_14, w26_14, c26_15, e26_17, w26_17, c26_18, c26_19, e26_21, w26_21, c26_22, c26_23, c26_24, c26_25, c26_26, e26_28, w26_28, c26_29, c26_30, c26_31, c26_32]
  refine wpC_forL s (fun i vs M => (s.take i).all okChar = true ∧ vs = [.str s, .int .i64 i] ∧ M = []) ⟨by simp, rfl, rfl⟩ ?_ ?_
  · rintro i c vs M hc hi hd ⟨hall, rfl, rfl⟩
    simp -implicitDefEqProofs (disch := omega) only [go_sem, Nat.reduceAdd, Nat.reduceMul, Nat.reduceSub, Nat.reduceBEq, Nat.reduceLeDiff, Nat.reduceLT, fn_transitref15_Name, e26_1, w26_1, e26_3, w26_3, c26_4, e26_6, w26_6, e26_8, w26_8, e26_10, w26_10, e26_12, w26_12, e26_14, w26_14, c26_15, e26_17, w26_17, c26_18, c26_19, e26_21, w26_21, c26_22, c26_23, c26_24, c26_25, c26_26, e26_28, w26_28, c26_29, c26_30, c26_31, c26_32, open_if, hd, hc]
    repeat' (refine BIf_dec (fun h => ?_) (fun h => ?_))
    all_goals first
      | (refine next_stay hi ⟨?_, rfl, rfl⟩
         rw [all_take_succ hc, hall, (okChar_iff c).2 (by omega)]; rfl)
      | (rw [okName_false hc (okChar_false c (by omega))])
  · rintro vs M ⟨hall, rfl, rfl⟩
    rw [List.take_length] at hall
    simp -implicitDefEqProofs (disch := omega) only [go_sem, Nat.reduceAdd, Nat.reduceMul, Nat.reduceSub, Nat.reduceBEq, Nat.reduceLeDiff, Nat.reduceLT, fn_transitref15_Name, e26_1, w26_1, e26_3, w26_3, c26_4, e26_6, w26_6, e26_8, w26_8, e26_10, w26_10, e26_12, w26_12, e26_14, w26_14, c26_15, e26_17, w26_17, c26_18, c26_19, e26_21, w26_21, c26_22, c26_23, c26_24, c26_25, c26_26, e26_28, w26_28, c26_29, c26_30, c26_31, c26_32, dec_irrefl]
    have h3 : 0 < s.length := by omega
    have h4 : s.length ≤ 32 := by omega
    simp [okName, hall, h3, h4]

end Go.Vm.C

