/- Contracts: numbers, identifiers and sets of small integers. -/
import Derived.Test.YtojpmklnmaomlaaC1
import Derived.Test.YtojpmklnmaomlaaR0
import Derived.Test.YtojpmklnmaomlaaR1
import Derived.Test.YtojpmklnmaomlaaR2

namespace Go.Vm.C
open Go.Vm
set_option maxHeartbeats 1000000
set_option maxRecDepth 10000
set_option linter.unusedSimpArgs false
set_option linter.unusedVariables false

/-! ### Numbers and identifiers -/
def within (n low high : Int) : Bool := decide (low ≤ n) && decide (n ≤ high)

theorem product_within_ok (n low high : Int) : PCalls PR i_product_within [.int .i64 n, .int .i64 low, .int .i64 high] (fun v => v = .bool (within n low high)) := by
  refine acalls_pop fn_product_within_ok (by simp [fn_product_within]) ?_
  simp -implicitDefEqProofs (disch := omega) only [go_sem, Nat.reduceAdd, Nat.reduceMul, Nat.reduceSub, Nat.reduceBEq, Nat.reduceLeDiff, Nat.reduceLT, fn_product_within, e71_1, w71_1, e71_3, w71_3, c71_4, c71_5]
  cases h : decide (low ≤ n)
  · simp -implicitDefEqProofs (disch := omega) only [go_sem, Nat.reduceAdd, Nat.reduceMul, Nat.reduceSub, Nat.reduceBEq, Nat.reduceLeDiff, Nat.reduceLT, within, h]
  · simp -implicitDefEqProofs (disch := omega) only [go_sem, Nat.reduceAdd, Nat.reduceMul, Nat.reduceSub, Nat.reduceBEq, Nat.reduceLeDiff, Nat.reduceLT, within, h]

theorem transitref21_within_ok (n low high : Int) : PCalls PR i_transitref21_within [.int .i64 n, .int .i64 low, .int .i64 high] (fun v => v = .bool (within n low high)) := by
  refine acalls_pop fn_transitref21_within_ok (by simp [fn_transitref21_within]) ?_
  simp -implicitDefEqProofs (disch := omega) only [go_sem, Nat.reduceAdd, Nat.reduceMul, Nat.reduceSub, Nat.reduceBEq, Nat.reduceLeDiff, Nat.reduceLT, fn_transitref21_within, e46_1, w46_1, e46_3, w46_3, c46_4, c46_5]
  cases h : decide (low ≤ n)
  · simp -implicitDefEqProofs (disch := omega) only [go_sem, Nat.reduceAdd, Nat.reduceMul, Nat.reduceSub, Nat.reduceBEq, Nat.reduceLeDiff, Nat.reduceLT, within, h]
  · simp -implicitDefEqProofs (disch := omega) only [go_sem, Nat.reduceAdd, Nat.reduceMul, Nat.reduceSub, Nat.reduceBEq, Nat.reduceLeDiff, Nat.reduceLT, within, h]

/-- A character of an identifier. -/
def letter (c : UInt8) : Bool :=
  (decide (97 ≤ c.toNat) && decide (c.toNat ≤ 122)) || (decide (65 ≤ c.toNat) && decide (c.toNat ≤ 90)) || (decide (48 ≤ c.toNat) && decide (c.toNat ≤ 57))
def mark (c : UInt8) : Bool := decide (c.toNat = 45) || decide (c.toNat = 95) || decide (c.toNat = 46)
def okChar (c : UInt8) : Bool := letter c || mark c
def okName (s : List UInt8) : Bool := s.all okChar && decide (0 < s.length) && decide (s.length ≤ 32)

theorem all_take_succ {s : List UInt8} {i : Nat} {c : UInt8} (h : s[i]? = some c) (p : UInt8 → Bool) : (s.take (i + 1)).all p = ((s.take i).all p && p c) := by
  rw [List.take_add_one, h]
  simp [List.all_append]

theorem all_false {s : List UInt8} {i : Nat} {c : UInt8} (h : s[i]? = some c) {p : UInt8 → Bool} (hp : p c = false) : s.all p = false := by
  rw [List.all_eq_false]
  exact ⟨c, List.mem_of_getElem? h, by simp [hp]⟩

theorem okChar_iff (c : UInt8) : okChar c = true ↔ (97 ≤ c.toNat ∧ c.toNat ≤ 122) ∨ (65 ≤ c.toNat ∧ c.toNat ≤ 90) ∨ (48 ≤ c.toNat ∧ c.toNat ≤ 57) ∨ c.toNat = 45 ∨ c.toNat = 95 ∨ c.toNat = 46 := by
  simp only [okChar, letter, mark, Bool.or_eq_true, Bool.and_eq_true, decide_eq_true_eq]
  omega

theorem okName_false {s : List UInt8} {i : Nat} {c : UInt8} (h : s[i]? = some c) (hc : okChar c = false) : okName s = false := by
  rw [okName, all_false h hc]; rfl
theorem okChar_false (c : UInt8) (h : ¬ ((97 ≤ c.toNat ∧ c.toNat ≤ 122) ∨ (65 ≤ c.toNat ∧ c.toNat ≤ 90) ∨ (48 ≤ c.toNat ∧ c.toNat ≤ 57) ∨ c.toNat = 45 ∨ c.toNat = 95 ∨ c.toNat = 46)) : okChar c = false := by
  rw [← Bool.not_eq_true, okChar_iff]; exact h

theorem ident_Valid_ok (s : List UInt8) (hs : s.length ≤ maxLen) : PCalls PR i_ident_Valid [.str s] (fun v => v = .bool (okName s)) := by
  have hm : maxLen = 9223372036854775807 := by rfl
  refine acalls_pop fn_ident_Valid_ok (by simp [fn_ident_Valid]) ?_
  simp -implicitDefEqProofs (disch := omega) only [go_sem, Nat.reduceAdd, Nat.reduceMul, Nat.reduceSub, Nat.reduceBEq, Nat.reduceLeDiff, Nat.reduceLT, fn_ident_Valid, e72_1, w72_1, e72_3, w72_3, e72_5, w72_5, e72_7, w72_7, e72_9, w72_9, e72_11, w72_11, e72_13, w72_13, e72_15, w72_15, e72_17, w72_17, e72_19, w72_19, e72_21, w72_21, c72_22, c72_23, c72_24, c72_25, c72_26, c72_27, c72_28, c72_29, e72_31, w72_31, c72_32, c72_33, c72_34, c72_35, c72_36, e72_38, w72_38, c72_39, c72_40, c72_41]
  refine wpC_forL s (fun i vs M => (s.take i).all okChar = true ∧ vs = [.str s, .int .i64 i] ∧ M = []) ⟨by simp, rfl, rfl⟩ ?_ ?_
  · rintro i c vs M hc hi hd ⟨hall, rfl, rfl⟩
    simp -implicitDefEqProofs (disch := omega) only [go_sem, Nat.reduceAdd, Nat.reduceMul, Nat.reduceSub, Nat.reduceBEq, Nat.reduceLeDiff, Nat.reduceLT, fn_ident_Valid, e72_1, w72_1, e72_3, w72_3, e72_5, w72_5, e72_7, w72_7, e72_9, w72_9, e72_11, w72_11, e72_13, w72_13, e72_15, w72_15, e72_17, w72_17, e72_19, w72_19, e72_21, w72_21, c72_22, c72_23, c72_24, c72_25, c72_26, c72_27, c72_28, c72_29, e72_31, w72_31, c72_32, c72_33, c72_34, c72_35, c72_36, e72_38, w72_38, c72_39, c72_40, c72_41, open_if, hd, hc]
    repeat' (refine BIf_dec (fun h => ?_) (fun h => ?_))
    all_goals first
      | (refine next_stay hi ⟨?_, rfl, rfl⟩
         rw [all_take_succ hc, hall, (okChar_iff c).2 (by omega)]; rfl)
      | (rw [okName_false hc (okChar_false c (by omega))])
  · rintro vs M ⟨hall, rfl, rfl⟩
    rw [List.take_length] at hall
    simp -implicitDefEqProofs (disch := omega) only [go_sem, Nat.reduceAdd, Nat.reduceMul, Nat.reduceSub, Nat.reduceBEq, Nat.reduceLeDiff, Nat.reduceLT, fn_ident_Valid, e72_1, w72_1, e72_3, w72_3, e72_5, w72_5, e72_7, w72_7, e72_9, w72_9, e72_11, w72_11, e72_13, w72_13, e72_15, w72_15, e72_17, w72_17, e72_19, w72_19, e72_21, w72_21, c72_22, c72_23, c72_24, c72_25, c72_26, c72_27, c72_28, c72_29, e72_31, w72_31, c72_32, c72_33, c72_34, c72_35, c72_36, e72_38, w72_38, c72_39, c72_40, c72_41, dec_irrefl]
    refine ifD (fun h => ?_) (fun h => ?_)
    · have h3 : 0 < s.length := by omega
      simp -implicitDefEqProofs (disch := omega) only [go_sem, Nat.reduceAdd, Nat.reduceMul, Nat.reduceSub, Nat.reduceBEq, Nat.reduceLeDiff, Nat.reduceLT, fn_ident_Valid, e72_1, w72_1, e72_3, w72_3, e72_5, w72_5, e72_7, w72_7, e72_9, w72_9, e72_11, w72_11, e72_13, w72_13, e72_15, w72_15, e72_17, w72_17, e72_19, w72_19, e72_21, w72_21, c72_22, c72_23, c72_24, c72_25, c72_26, c72_27, c72_28, c72_29, e72_31, w72_31, c72_32, c72_33, c72_34, c72_35, c72_36, e72_38, w72_38, c72_39, c72_40, c72_41, okName, hall, h3]
      exact decide_eq_decide.2 (by omega)
    · have h3 : ¬ 0 < s.length := by omega
      simp -implicitDefEqProofs (disch := omega) only [go_sem, Nat.reduceAdd, Nat.reduceMul, Nat.reduceSub, Nat.reduceBEq, Nat.reduceLeDiff, Nat.reduceLT, fn_ident_Valid, e72_1, w72_1, e72_3, w72_3, e72_5, w72_5, e72_7, w72_7, e72_9, w72_9, e72_11, w72_11, e72_13, w72_13, e72_15, w72_15, e72_17, w72_17, e72_19, w72_19, e72_21, w72_21, c72_22, c72_23, c72_24, c72_25, c72_26, c72_27, c72_28, c72_29, e72_31, w72_31, c72_32, c72_33, c72_34, c72_35, c72_36, e72_38, w72_38, c72_39, c72_40, c72_41]
      simp [okName, h3]

theorem transitref15_Name_ok (s : List UInt8) (hs : s.length ≤ maxLen) : PCalls PR i_transitref15_Name [.str s] (fun v => v = .bool (okName s)) := by
  have hm : maxLen = 9223372036854775807 := by rfl
  refine acalls_pop fn_transitref15_Name_ok (by simp [fn_transitref15_Name]) ?_
  simp -implicitDefEqProofs (disch := omega) only [go_sem, Nat.reduceAdd, Nat.reduceMul, Nat.reduceSub, Nat.reduceBEq, Nat.reduceLeDiff, Nat.reduceLT, fn_transitref15_Name, e47_1, w47_1, e47_3, w47_3, c47_4, e47_6, w47_6, e47_8, w47_8, e47_10, w47_10, e47_12, w47_12, e47_14, w47_14, c47_15, e47_17, w47_17, c47_18, c47_19, e47_21, w47_21, c47_22, c47_23, c47_24, c47_25, c47_26, e47_28, w47_28, c47_29, c47_30, c47_31, c47_32]
  refine ifD (fun h => ?_) (fun h1 => ?_)
  · have : okName s = false := by
      have : ¬ 0 < s.length := by omega
      simp [okName, this]
    simp -implicitDefEqProofs (disch := omega) only [go_sem, Nat.reduceAdd, Nat.reduceMul, Nat.reduceSub, Nat.reduceBEq, Nat.reduceLeDiff, Nat.reduceLT, fn_transitref15_Name, e47_1, w47_1, e47_3, w47_3, c47_4, e47_6, w47_6, e47_8, w47_8, e47_10, w47_10, e47_12, w47_12, e47_14, w47_14, c47_15, e47_17, w47_17, c47_18, c47_19, e47_21, w47_21, c47_22, c47_23, c47_24, c47_25, c47_26, e47_28, w47_28, c47_29, c47_30, c47_31, c47_32, this]
  simp -implicitDefEqProofs (disch := omega) only [go_sem, Nat.reduceAdd, Nat.reduceMul, Nat.reduceSub, Nat.reduceBEq, Nat.reduceLeDiff, Nat.reduceLT, fn_transitref15_Name, e47_1, w47_1, e47_3, w47_3, c47_4, e47_6, w47_6, e47_8, w47_8, e47_10, w47_10, e47_12, w47_12, e47_14, w47_14, c47_15, e47_17, w47_17, c47_18, c47_19, e47_21, w47_21, c47_22, c47_23, c47_24, c47_25, c47_26, e47_28, w47_28, c47_29, c47_30, c47_31, c47_32]
  refine ifD (fun h => ?_) (fun h2 => ?_)
  · have : okName s = false := by
      have : ¬ s.length ≤ 32 := by omega
      simp [okName, this]
    simp -implicitDefEqProofs (disch := omega) only [go_sem, Nat.reduceAdd, Nat.reduceMul, Nat.reduceSub, Nat.reduceBEq, Nat.reduceLeDiff, Nat.reduceLT, fn_transitref15_Name, e47_1, w47_1, e47_3, w47_3, c47_4, e47_6, w47_6, e47_8, w47_8, e47_10, w47_10, e47_12, w47_12, e47_14, w47_14, c47_15, e47_17, w47_17, c47_18, c47_19, e47_21, w47_21, c47_22, c47_23, c47_24, c47_25, c47_26, e47_28, w47_28, c47_29, c47_30, c47_31, c47_32, this]
  simp -implicitDefEqProofs (disch := omega) only [go_sem, Nat.reduceAdd, Nat.reduceMul, Nat.reduceSub, Nat.reduceBEq, Nat.reduceLeDiff, Nat.reduceLT, fn_transitref15_Name, e47_1, w47_1, e47_3, w47_3, c47_4, e47_6, w47_6, e47_8, w47_8, e47_10, w47_10, e47_12, w47_12, e47_14, w47_14, c47_15, e47_17, w47_17, c47_18, c47_19, e47_21, w47_21, c47_22, c47_23, c47_24, c47_25, c47_26, e47_28, w47_28, c47_29, c47_30, c47_31, c47_32]
  refine wpC_forL s (fun i vs M => (s.take i).all okChar = true ∧ vs = [.str s, .int .i64 i] ∧ M = []) ⟨by simp, rfl, rfl⟩ ?_ ?_
  · rintro i c vs M hc hi hd ⟨hall, rfl, rfl⟩
    simp -implicitDefEqProofs (disch := omega) only [go_sem, Nat.reduceAdd, Nat.reduceMul, Nat.reduceSub, Nat.reduceBEq, Nat.reduceLeDiff, Nat.reduceLT, fn_transitref15_Name, e47_1, w47_1, e47_3, w47_3, c47_4, e47_6, w47_6, e47_8, w47_8, e47_10, w47_10, e47_12, w47_12, e47_14, w47_14, c47_15, e47_17, w47_17, c47_18, c47_19, e47_21, w47_21, c47_22, c47_23, c47_24, c47_25, c47_26, e47_28, w47_28, c47_29, c47_30, c47_31, c47_32, open_if, hd, hc]
    repeat' (refine BIf_dec (fun h => ?_) (fun h => ?_))
    all_goals first
      | (refine next_stay hi ⟨?_, rfl, rfl⟩
         rw [all_take_succ hc, hall, (okChar_iff c).2 (by omega)]; rfl)
      | (rw [okName_false hc (okChar_false c (by omega))])
  · rintro vs M ⟨hall, rfl, rfl⟩
    rw [List.take_length] at hall
    simp -implicitDefEqProofs (disch := omega) only [go_sem, Nat.reduceAdd, Nat.reduceMul, Nat.reduceSub, Nat.reduceBEq, Nat.reduceLeDiff, Nat.reduceLT, fn_transitref15_Name, e47_1, w47_1, e47_3, w47_3, c47_4, e47_6, w47_6, e47_8, w47_8, e47_10, w47_10, e47_12, w47_12, e47_14, w47_14, c47_15, e47_17, w47_17, c47_18, c47_19, e47_21, w47_21, c47_22, c47_23, c47_24, c47_25, c47_26, e47_28, w47_28, c47_29, c47_30, c47_31, c47_32, dec_irrefl]
    have h3 : 0 < s.length := by omega
    have h4 : s.length ≤ 32 := by omega
    simp [okName, hall, h3, h4]

/-! ### Sets of small integers -/
theorem wrap_u64_nat (n : Nat) (h : n < 18446744073709551616) : IntKind.u64.wrap (n : Int) = n := wrap_u64 _ (by omega) (by omega)

theorem or_lt (a b : Nat) (ha : a < 18446744073709551616) (hb : b < 18446744073709551616) : a ||| b < 18446744073709551616 := Nat.or_lt_two_pow (n := 64) ha hb
theorem and_lt (a b : Nat) (ha : a < 18446744073709551616) : a &&& b < 18446744073709551616 := Nat.lt_of_le_of_lt Nat.and_le_left ha

theorem orK_nat (a b : Nat) (ha : a < 18446744073709551616) (hb : b < 18446744073709551616) : orK .u64 a b = ((a ||| b : Nat) : Int) := by
  have e : (BitVec.ofInt 64 (a : Int) ||| BitVec.ofInt 64 (b : Int)).toNat = a ||| b := by
    rw [BitVec.ofInt_natCast, BitVec.ofInt_natCast, BitVec.toNat_or, BitVec.toNat_ofNat, BitVec.toNat_ofNat, Nat.mod_eq_of_lt ha, Nat.mod_eq_of_lt hb]
  show IntKind.u64.wrap ((BitVec.ofInt 64 (a : Int) ||| BitVec.ofInt 64 (b : Int)).toNat : Int) = _
  rw [e]
  exact wrap_u64_nat _ (or_lt a b ha hb)

theorem andK_nat (a b : Nat) (ha : a < 18446744073709551616) (hb : b < 18446744073709551616) : andK .u64 a b = ((a &&& b : Nat) : Int) := by
  have e : (BitVec.ofInt 64 (a : Int) &&& BitVec.ofInt 64 (b : Int)).toNat = a &&& b := by
    rw [BitVec.ofInt_natCast, BitVec.ofInt_natCast, BitVec.toNat_and, BitVec.toNat_ofNat, BitVec.toNat_ofNat, Nat.mod_eq_of_lt ha, Nat.mod_eq_of_lt hb]
  show IntKind.u64.wrap ((BitVec.ofInt 64 (a : Int) &&& BitVec.ofInt 64 (b : Int)).toNat : Int) = _
  rw [e]
  exact wrap_u64_nat _ (and_lt a b ha)

/-- The elements of a that are not in b. -/
def minus (a b : Nat) : Nat := a ^^^ (a &&& b)

theorem minus_bit (a b j : Nat) : (minus a b).testBit j = (a.testBit j && !b.testBit j) := by
  rw [minus, Nat.testBit_xor, Nat.testBit_and]
  cases a.testBit j <;> cases b.testBit j <;> rfl

theorem bit_high {a j : Nat} (ha : a < 18446744073709551616) (hj : 64 ≤ j) : a.testBit j = false :=
  Nat.testBit_lt_two_pow (Nat.lt_of_lt_of_le ha (Nat.pow_le_pow_right (n := 2) (by omega) hj))

theorem lt_of_bits {a : Nat} (h : ∀ j, 64 ≤ j → a.testBit j = false) : a < 18446744073709551616 :=
  Nat.lt_pow_two_of_testBit (n := 64) a fun j hj => h j hj

theorem minus_lt (a b : Nat) (ha : a < 18446744073709551616) : minus a b < 18446744073709551616 :=
  lt_of_bits fun j hj => by rw [minus_bit, bit_high ha hj]; rfl

theorem andNotK_nat (a b : Nat) (ha : a < 18446744073709551616) (_hb : b < 18446744073709551616) : andNotK .u64 a b = ((minus a b : Nat) : Int) := by
  have e : (BitVec.ofInt 64 (a : Int) &&& ~~~ BitVec.ofInt 64 (b : Int)).toNat = minus a b := by
    apply Nat.eq_of_testBit_eq
    intro j
    rw [minus_bit, BitVec.ofInt_natCast, BitVec.ofInt_natCast, BitVec.testBit_toNat, BitVec.getLsbD_and, BitVec.getLsbD_not, BitVec.getLsbD_ofNat, BitVec.getLsbD_ofNat]
    by_cases hj : j < 64
    · simp [hj]
    · simp [hj, bit_high ha (Nat.le_of_not_lt hj)]
  show IntKind.u64.wrap ((BitVec.ofInt 64 (a : Int) &&& ~~~ BitVec.ofInt 64 (b : Int)).toNat : Int) = _
  rw [e]
  exact wrap_u64_nat _ (minus_lt a b ha)

/-- How many elements. -/
def pop : Nat → Nat → Nat
  | 0, _ => 0
  | k + 1, a => a % 2 + pop k (a / 2)

theorem pop_eq (k : Nat) : ∀ a, pop k a = (List.range k).countP a.testBit := by
  induction k with
  | zero => intro a; rfl
  | succ k ih =>
    intro a
    rw [pop, ih, List.range_succ_eq_map, List.countP_cons, List.countP_map, Nat.add_comm]
    congr 1
    · apply List.countP_congr
      intro j _
      simp [Function.comp, Nat.testBit_succ]
    · rw [Nat.testBit_zero]
      have := Nat.mod_two_eq_zero_or_one a
      rcases this with h | h <;> simp [h]

theorem pop_down (k : Nat) : ∀ a, a ≠ 0 → a < 2 ^ k → pop k (a &&& (a - 1)) + 1 = pop k a := by
  induction k with
  | zero => intro a h0 h; simp at h; omega
  | succ k ih =>
    intro a h0 h
    have hd : (a &&& (a - 1)) / 2 = (a / 2) &&& ((a - 1) / 2) := Nat.and_div_two
    have hm : (a &&& (a - 1)) % 2 = 0 := by
      rcases Nat.mod_two_eq_zero_or_one a with h1 | h1
      · have : ¬ (a &&& (a - 1)) % 2 = 1 := by rw [Nat.and_mod_two_eq_one]; omega
        omega
      · have : ¬ (a &&& (a - 1)) % 2 = 1 := by rw [Nat.and_mod_two_eq_one]; omega
        omega
    simp only [pop, hd, hm]
    rcases Nat.mod_two_eq_zero_or_one a with h1 | h1
    · have e : (a - 1) / 2 = a / 2 - 1 := by omega
      have := ih (a / 2) (by omega) (by rw [Nat.pow_succ] at h; omega)
      rw [e, h1]; omega
    · have e : (a - 1) / 2 = a / 2 := by omega
      rw [e, Nat.and_self, h1]; omega

theorem pop_le (k : Nat) : ∀ a, pop k a ≤ k := by
  induction k with
  | zero => intro a; simp [pop]
  | succ k ih => intro a; have := ih (a / 2); simp only [pop]; omega

theorem pop_zero (k : Nat) : pop k 0 = 0 := by
  induction k with
  | zero => rfl
  | succ k ih => simp [pop, ih]

attribute [irreducible] pop

/-- The set that an int stands for. -/
def bset (z : Int) : Nat := (z % 18446744073709551616).toNat
theorem bset_lt (z : Int) : bset z < 18446744073709551616 := by unfold bset; omega
theorem conv_bset (k : IntKind) (z : Int) : convV .u64 (.int k z) = some (.int .u64 (bset z : Nat)) := by
  have e : (2 : Int) ^ IntKind.u64.bits = 18446744073709551616 := by decide
  rw [conv_int]
  congr 2
  unfold IntKind.wrap bset
  simp only [e, show IntKind.u64.signed = false from rfl, Bool.false_and]
  simp only [Bool.false_eq_true, if_false]
  omega

theorem Set_Union_ok (a b : Nat) (ha : a < 18446744073709551616) (hb : b < 18446744073709551616) : PCalls PR i_bitset_Set_Union [.int .u64 a, .int .u64 b] (fun v => v = .int .u64 (a ||| b : Nat)) := by
  refine acalls_pop fn_bitset_Set_Union_ok (by simp [fn_bitset_Set_Union]) ?_
  simp -implicitDefEqProofs (disch := omega) only [go_sem, Nat.reduceAdd, Nat.reduceMul, Nat.reduceSub, Nat.reduceBEq, Nat.reduceLeDiff, Nat.reduceLT, fn_bitset_Set_Union, e75_1, w75_1, e75_3, w75_3, c75_4, c75_5, orK_nat a b ha hb]

theorem Set_Within_ok (a b : Nat) (ha : a < 18446744073709551616) (hb : b < 18446744073709551616) : PCalls PR i_bitset_Set_Within [.int .u64 a, .int .u64 b] (fun v => v = .bool (decide (minus a b = 0))) := by
  refine acalls_pop fn_bitset_Set_Within_ok (by simp [fn_bitset_Set_Within]) ?_
  simp -implicitDefEqProofs (disch := omega) only [go_sem, Nat.reduceAdd, Nat.reduceMul, Nat.reduceSub, Nat.reduceBEq, Nat.reduceLeDiff, Nat.reduceLT, fn_bitset_Set_Within, e77_1, w77_1, e77_3, w77_3, c77_4, c77_5, andNotK_nat a b ha hb]
  exact decide_eq_decide.2 (by omega)

theorem Set_Len_ok (a : Nat) (ha : a < 18446744073709551616) : PCalls PR i_bitset_Set_Len [.int .u64 a] (fun v => v = .int .i64 (pop 64 a : Nat)) := by
  refine acalls_pop fn_bitset_Set_Len_ok (by simp [fn_bitset_Set_Len]) ?_
  simp -implicitDefEqProofs (disch := omega) only [go_sem, Nat.reduceAdd, Nat.reduceMul, Nat.reduceSub, Nat.reduceBEq, Nat.reduceLeDiff, Nat.reduceLT, fn_bitset_Set_Len, e76_1, w76_1, e76_3, w76_3, e76_5, w76_5, c76_6, e76_8, w76_8, e76_10, w76_10, e76_12, w76_12, c76_13, c76_14, c76_15, c76_16, c76_17, e76_19, w76_19, c76_20, e76_22, w76_22, e76_24, w76_24, e76_26, w76_26, c76_27, c76_28, c76_29, c76_30, c76_31, c76_32]
  have hp0 := pop_zero 64
  have sub1 : ∀ b : Nat, b ≠ 0 → b < 18446744073709551616 → IntKind.u64.wrap ((b : Int) - 1) = ((b - 1 : Nat) : Int) := fun b h0 h1 => by
    rw [wrap_u64 _ (by omega) (by omega)]; omega
  have hp := pop_le 64 a
  refine ⟨fun n vs M => ∃ b k : Nat, n = pop 64 b ∧ b < 18446744073709551616 ∧ k + pop 64 b = pop 64 a ∧ vs = [.int .u64 b, .int .i64 k] ∧ M = [], ?_, ?_⟩
  · simp -implicitDefEqProofs (disch := omega) only [go_sem, Nat.reduceAdd, Nat.reduceMul, Nat.reduceSub, Nat.reduceBEq, Nat.reduceLeDiff, Nat.reduceLT, fn_bitset_Set_Len, e76_1, w76_1, e76_3, w76_3, e76_5, w76_5, c76_6, e76_8, w76_8, e76_10, w76_10, e76_12, w76_12, c76_13, c76_14, c76_15, c76_16, c76_17, e76_19, w76_19, c76_20, e76_22, w76_22, e76_24, w76_24, e76_26, w76_26, c76_27, c76_28, c76_29, c76_30, c76_31, c76_32]
    refine ifD (fun h => ?_) (fun h => ?_)
    · have : a = 0 := by omega
      subst this
      simp -implicitDefEqProofs (disch := omega) only [go_sem, Nat.reduceAdd, Nat.reduceMul, Nat.reduceSub, Nat.reduceBEq, Nat.reduceLeDiff, Nat.reduceLT, fn_bitset_Set_Len, e76_1, w76_1, e76_3, w76_3, e76_5, w76_5, c76_6, e76_8, w76_8, e76_10, w76_10, e76_12, w76_12, c76_13, c76_14, c76_15, c76_16, c76_17, e76_19, w76_19, c76_20, e76_22, w76_22, e76_24, w76_24, e76_26, w76_26, c76_27, c76_28, c76_29, c76_30, c76_31, c76_32, hp0]
      rfl
    · simp -implicitDefEqProofs (disch := omega) only [go_sem, Nat.reduceAdd, Nat.reduceMul, Nat.reduceSub, Nat.reduceBEq, Nat.reduceLeDiff, Nat.reduceLT, fn_bitset_Set_Len, e76_1, w76_1, e76_3, w76_3, e76_5, w76_5, c76_6, e76_8, w76_8, e76_10, w76_10, e76_12, w76_12, c76_13, c76_14, c76_15, c76_16, c76_17, e76_19, w76_19, c76_20, e76_22, w76_22, e76_24, w76_24, e76_26, w76_26, c76_27, c76_28, c76_29, c76_30, c76_31, c76_32]
      have h0 : a ≠ 0 := by omega
      have hd := pop_down 64 a h0 ha
      rw [sub1 a h0 ha, andK_nat a (a - 1) ha (by omega)]
      exact ⟨_, a &&& (a - 1), 1, rfl, and_lt _ _ ha, by omega, rfl⟩
  · rintro n vs M ⟨b, k, rfl, hb, hk, rfl, rfl⟩
    simp -implicitDefEqProofs (disch := omega) only [go_sem, Nat.reduceAdd, Nat.reduceMul, Nat.reduceSub, Nat.reduceBEq, Nat.reduceLeDiff, Nat.reduceLT, fn_bitset_Set_Len, e76_1, w76_1, e76_3, w76_3, e76_5, w76_5, c76_6, e76_8, w76_8, e76_10, w76_10, e76_12, w76_12, c76_13, c76_14, c76_15, c76_16, c76_17, e76_19, w76_19, c76_20, e76_22, w76_22, e76_24, w76_24, e76_26, w76_26, c76_27, c76_28, c76_29, c76_30, c76_31, c76_32]
    refine ifD (fun h => ?_) (fun h => ?_)
    · have : b = 0 := by omega
      subst this
      rw [hp0] at hk
      simp -implicitDefEqProofs (disch := omega) only [go_sem, Nat.reduceAdd, Nat.reduceMul, Nat.reduceSub, Nat.reduceBEq, Nat.reduceLeDiff, Nat.reduceLT, fn_bitset_Set_Len, e76_1, w76_1, e76_3, w76_3, e76_5, w76_5, c76_6, e76_8, w76_8, e76_10, w76_10, e76_12, w76_12, c76_13, c76_14, c76_15, c76_16, c76_17, e76_19, w76_19, c76_20, e76_22, w76_22, e76_24, w76_24, e76_26, w76_26, c76_27, c76_28, c76_29, c76_30, c76_31, c76_32]
      omega
    · simp -implicitDefEqProofs (disch := omega) only [go_sem, Nat.reduceAdd, Nat.reduceMul, Nat.reduceSub, Nat.reduceBEq, Nat.reduceLeDiff, Nat.reduceLT, fn_bitset_Set_Len, e76_1, w76_1, e76_3, w76_3, e76_5, w76_5, c76_6, e76_8, w76_8, e76_10, w76_10, e76_12, w76_12, c76_13, c76_14, c76_15, c76_16, c76_17, e76_19, w76_19, c76_20, e76_22, w76_22, e76_24, w76_24, e76_26, w76_26, c76_27, c76_28, c76_29, c76_30, c76_31, c76_32]
      have h0 : b ≠ 0 := by omega
      have hd := pop_down 64 b h0 hb
      rw [sub1 b h0 hb, andK_nat b (b - 1) hb (by omega)]
      exact ⟨_, by omega, b &&& (b - 1), k + 1, rfl, and_lt _ _ hb, by omega, rfl⟩

/-! ### The specification's sets -/
theorem d64 : decide (((64 : Nat) : Int) < 64) = false := by decide
/-- The elements in ascending order. -/
def elems (s i : Nat) : List Nat := (List.range i).filter s.testBit
theorem elems_succ (s i : Nat) : elems s (i + 1) = elems s i ++ if s.testBit i then [i] else [] := by
  simp only [elems, List.range_succ, List.filter_append]
  cases h : s.testBit i <;> simp [h]
theorem elems_len (s : Nat) : (elems s 64).length = pop 64 s := by rw [pop_eq, elems, List.countP_eq_length_filter]
theorem elems_le (s i : Nat) : (elems s i).length ≤ i := by
  have := List.length_filter_le s.testBit (List.range i)
  simpa [elems] using this

end Go.Vm.C

