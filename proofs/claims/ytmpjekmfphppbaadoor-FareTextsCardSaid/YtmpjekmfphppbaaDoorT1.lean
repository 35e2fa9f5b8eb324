/- Contracts: numbers, identifiers and sets of small integers. -/
import Derived.Test.YtmpjekmfphppbaaDoorC0
import Derived.Test.YtmpjekmfphppbaaDoorR0
import Derived.Test.YtmpjekmfphppbaaDoorR1

namespace Go.Vm.C
open Go.Vm
set_option maxHeartbeats 1000000
set_option maxRecDepth 10000
set_option linter.unusedSimpArgs false
set_option linter.unusedVariables false

/-! ### Numbers and identifiers -/
def within (n low high : Int) : Bool := decide (low ≤ n) && decide (n ≤ high)

theorem product_within_ok (n low high : Int) : PCalls PR i_product_within [.int .i64 n, .int .i64 low, .int .i64 high] (fun v => v = .bool (within n low high)) := by
  refine acalls_pop fn_product_within_ok (by simp [fn_product_within]) ?_
  simp -implicitDefEqProofs (disch := omega) only [go_sem, Nat.reduceAdd, Nat.reduceMul, Nat.reduceSub, Nat.reduceBEq, Nat.reduceLeDiff, Nat.reduceLT, fn_product_within, e27_1, w27_1, e27_3, w27_3, c27_4, c27_5]
  cases h : decide (low ≤ n)
  · simp -implicitDefEqProofs (disch := omega) only [go_sem, Nat.reduceAdd, Nat.reduceMul, Nat.reduceSub, Nat.reduceBEq, Nat.reduceLeDiff, Nat.reduceLT, within, h]
  · simp -implicitDefEqProofs (disch := omega) only [go_sem, Nat.reduceAdd, Nat.reduceMul, Nat.reduceSub, Nat.reduceBEq, Nat.reduceLeDiff, Nat.reduceLT, within, h]

/-- A character of an identifier. -/
def letter (c : UInt8) : Bool :=
  (decide (97 ≤ c.toNat) && decide (c.toNat ≤ 122)) || (decide (65 ≤ c.toNat) && decide (c.toNat ≤ 90)) || (decide (48 ≤ c.toNat) && decide (c.toNat ≤ 57))
def mark (c : UInt8) : Bool := decide (c.toNat = 45) || decide (c.toNat = 95) || decide (c.toNat = 46)
def okChar (c : UInt8) : Bool := letter c || mark c
def okName (s : List UInt8) : Bool := s.all okChar && decide (0 < s.length) && decide (s.length ≤ 32)

theorem all_take_succ {s : List UInt8} {i : Nat} {c : UInt8} (h : s[i]? = some c) (p : UInt8 → Bool) : (s.take (i + 1)).all p = ((s.take i).all p && p c) := by
  rw [List.take_add_one, h]
  simp [List.all_append]

theorem all_false {s : List UInt8} {i : Nat} {c : UInt8} (h : s[i]? = some c) {p : UInt8 → Bool} (hp : p c = false) : s.all p = false := by
  rw [List.all_eq_false]
  exact ⟨c, List.mem_of_getElem? h, by simp [hp]⟩

theorem okChar_iff (c : UInt8) : okChar c = true ↔ (97 ≤ c.toNat ∧ c.toNat ≤ 122) ∨ (65 ≤ c.toNat ∧ c.toNat ≤ 90) ∨ (48 ≤ c.toNat ∧ c.toNat ≤ 57) ∨ c.toNat = 45 ∨ c.toNat = 95 ∨ c.toNat = 46 := by
  simp only [okChar, letter, mark, Bool.or_eq_true, Bool.and_eq_true, decide_eq_true_eq]
  omega

theorem okName_false {s : List UInt8} {i : Nat} {c : UInt8} (h : s[i]? = some c) (hc : okChar c = false) : okName s = false := by
  rw [okName, all_false h hc]; rfl
theorem okChar_false (c : UInt8) (h : ¬ ((97 ≤ c.toNat ∧ c.toNat ≤ 122) ∨ (65 ≤ c.toNat ∧ c.toNat ≤ 90) ∨ (48 ≤ c.toNat ∧ c.toNat ≤ 57) ∨ c.toNat = 45 ∨ c.toNat = 95 ∨ c.toNat = 46)) : okChar c = false := by
  rw [← Bool.not_eq_true, okChar_iff]; exact h

theorem ident_Valid_ok (s : List UInt8) (hs : s.length ≤ maxLen) : PCalls PR i_ident_Valid [.str s] (fun v => v = .bool (okName s)) := by
  have hm : maxLen = 9223372036854775807 := by rfl
  refine acalls_pop fn_ident_Valid_ok (by simp [fn_ident_Valid]) ?_
  simp -implicitDefEqProofs (disch := omega) only [go_sem, Nat.reduceAdd, Nat.reduceMul, Nat.reduceSub, Nat.reduceBEq, Nat.reduceLeDiff, Nat.reduceLT, fn_ident_Valid, e28_1, w28_1, e28_3, w28_3, e28_5, w28_5, e28_7, w28_7, e28_9, w28_9, e28_11, w28_11, e28_13, w28_13, e28_15, w28_15, e28_17, w28_17, e28_19, w28_19, e28_21, w28_21, c28_22, c28_23, c28_24, c28_25, c28_26, c28_27, c28_28, c28_29, e28_31, w28_31, c28_32, c28_33, c28_34, c28_35, c28_36, e28_38, w28_38, c28_39, c28_40, c28_41]
  refine wpC_forL s (fun i vs M => (s.take i).all okChar = true ∧ vs = [.str s, .int .i64 i] ∧ M = []) ⟨by simp, rfl, rfl⟩ ?_ ?_
  · rintro i c vs M hc hi hd ⟨hall, rfl, rfl⟩
    simp -implicitDefEqProofs (disch := omega) only [go_sem, Nat.reduceAdd, Nat.reduceMul, Nat.reduceSub, Nat.reduceBEq, Nat.reduceLeDiff, Nat.reduceLT, fn_ident_Valid, e28_1, w28_1, e28_3, w28_3, e28_5, w28_5, e28_7, w28_7, e28_9, w28_9, e28_11, w28_11, e28_13, w28_13, e28_15, w28_15, e28_17, w28_17, e28_19, w28_19, e28_21, w28_21, c28_22, c28_23, c28_24, c28_25, c28_26, c28_27, c28_28, c28_29, e28_31, w28_31, c28_32, c28_33, c28_34, c28_35, c28_36, e28_38, w28_38, c28_39, c28_40, c28_41, open_if, hd, hc]
    repeat' (refine BIf_dec (fun h => ?_) (fun h => ?_))
    all_goals first
      | (refine next_stay hi ⟨?_, rfl, rfl⟩
         rw [all_take_succ hc, hall, (okChar_iff c).2 (by omega)]; rfl)
      | (rw [okName_false hc (okChar_false c (by omega))])
  · rintro vs M ⟨hall, rfl, rfl⟩
    rw [List.take_length] at hall
    simp -implicitDefEqProofs (disch := omega) only [go_sem, Nat.reduceAdd, Nat.reduceMul, Nat.reduceSub, Nat.reduceBEq, Nat.reduceLeDiff, Nat.reduceLT, fn_ident_Valid, e28_1, w28_1, e28_3, w28_3, e28_5, w28_5, e28_7, w28_7, e28_9, w28_9, e28_11, w28_11, e28_13, w28_13, e28_15, w28_15, e28_17, w28_17, e28_19, w28_19, e28_21, w28_21, c28_22, c28_23, c28_24, c28_25, c28_26, c28_27, c28_28, c28_29, e28_31, w28_31, c28_32, c28_33, c28_34, c28_35, c28_36, e28_38, w28_38, c28_39, c28_40, c28_41, dec_irrefl]
    refine ifD (fun h => ?_) (fun h => ?_)
    · have h3 : 0 < s.length := by omega
      simp -implicitDefEqProofs (disch := omega) only [go_sem, Nat.reduceAdd, Nat.reduceMul, Nat.reduceSub, Nat.reduceBEq, Nat.reduceLeDiff, Nat.reduceLT, fn_ident_Valid, e28_1, w28_1, e28_3, w28_3, e28_5, w28_5, e28_7, w28_7, e28_9, w28_9, e28_11, w28_11, e28_13, w28_13, e28_15, w28_15, e28_17, w28_17, e28_19, w28_19, e28_21, w28_21, c28_22, c28_23, c28_24, c28_25, c28_26, c28_27, c28_28, c28_29, e28_31, w28_31, c28_32, c28_33, c28_34, c28_35, c28_36, e28_38, w28_38, c28_39, c28_40, c28_41, okName, hall, h3]
      exact decide_eq_decide.2 (by omega)
    · have h3 : ¬ 0 < s.length := by omega
      simp -implicitDefEqProofs (disch := omega) only [go_sem, Nat.reduceAdd, Nat.reduceMul, Nat.reduceSub, Nat.reduceBEq, Nat.reduceLeDiff, Nat.reduceLT, fn_ident_Valid, e28_1, w28_1, e28_3, w28_3, e28_5, w28_5, e28_7, w28_7, e28_9, w28_9, e28_11, w28_11, e28_13, w28_13, e28_15, w28_15, e28_17, w28_17, e28_19, w28_19, e28_21, w28_21, c28_22, c28_23, c28_24, c28_25, c28_26, c28_27, c28_28, c28_29, e28_31, w28_31, c28_32, c28_33, c28_34, c28_35, c28_36, e28_38, w28_38, c28_39, c28_40, c28_41]
      simp [okName, h3]

/-! ### Sets of small integers -/
theorem wrap_u64_nat (n : Nat) (h : n < 18446744073709551616) : IntKind.u64.wrap (n : Int) = n := wrap_u64 _ (by omega) (by omega)

theorem or_lt (a b : Nat) (ha : a < 18446744073709551616) (hb : b < 18446744073709551616) : a ||| b < 18446744073709551616 := Nat.or_lt_two_pow (n := 64) ha hb
theorem and_lt (a b : Nat) (ha : a < 18446744073709551616) : a &&& b < 18446744073709551616 := Nat.lt_of_le_of_lt Nat.and_le_left ha

theorem orK_nat (a b : Nat) (ha : a < 18446744073709551616) (hb : b < 18446744073709551616) : orK .u64 a b = ((a ||| b : Nat) : Int) := by
  have e : (BitVec.ofInt 64 (a : Int) ||| BitVec.ofInt 64 (b : Int)).toNat = a ||| b := by
    rw [BitVec.ofInt_natCast, BitVec.ofInt_natCast, BitVec.toNat_or, BitVec.toNat_ofNat, BitVec.toNat_ofNat, Nat.mod_eq_of_lt ha, Nat.mod_eq_of_lt hb]
  show IntKind.u64.wrap ((BitVec.ofInt 64 (a : Int) ||| BitVec.ofInt 64 (b : Int)).toNat : Int) = _
  rw [e]
  exact wrap_u64_nat _ (or_lt a b ha hb)

theorem andK_nat (a b : Nat) (ha : a < 18446744073709551616) (hb : b < 18446744073709551616) : andK .u64 a b = ((a &&& b : Nat) : Int) := by
  have e : (BitVec.ofInt 64 (a : Int) &&& BitVec.ofInt 64 (b : Int)).toNat = a &&& b := by
    rw [BitVec.ofInt_natCast, BitVec.ofInt_natCast, BitVec.toNat_and, BitVec.toNat_ofNat, BitVec.toNat_ofNat, Nat.mod_eq_of_lt ha, Nat.mod_eq_of_lt hb]
  show IntKind.u64.wrap ((BitVec.ofInt 64 (a : Int) &&& BitVec.ofInt 64 (b : Int)).toNat : Int) = _
  rw [e]
  exact wrap_u64_nat _ (and_lt a b ha)

/-- The elements of a that are not in b. -/
def minus (a b : Nat) : Nat := a ^^^ (a &&& b)

theorem minus_bit (a b j : Nat) : (minus a b).testBit j = (a.testBit j && !b.testBit j) := by
  rw [minus, Nat.testBit_xor, Nat.testBit_and]
  cases a.testBit j <;> cases b.testBit j <;> rfl

theorem bit_high {a j : Nat} (ha : a < 18446744073709551616) (hj : 64 ≤ j) : a.testBit j = false :=
  Nat.testBit_lt_two_pow (Nat.lt_of_lt_of_le ha (Nat.pow_le_pow_right (n := 2) (by omega) hj))

theorem lt_of_bits {a : Nat} (h : ∀ j, 64 ≤ j → a.testBit j = false) : a < 18446744073709551616 :=
  Nat.lt_pow_two_of_testBit (n := 64) a fun j hj => h j hj

theorem minus_lt (a b : Nat) (ha : a < 18446744073709551616) : minus a b < 18446744073709551616 :=
  lt_of_bits fun j hj => by rw [minus_bit, bit_high ha hj]; rfl

theorem andNotK_nat (a b : Nat) (ha : a < 18446744073709551616) (_hb : b < 18446744073709551616) : andNotK .u64 a b = ((minus a b : Nat) : Int) := by
  have e : (BitVec.ofInt 64 (a : Int) &&& ~~~ BitVec.ofInt 64 (b : Int)).toNat = minus a b := by
    apply Nat.eq_of_testBit_eq
    intro j
    rw [minus_bit, BitVec.ofInt_natCast, BitVec.ofInt_natCast, BitVec.testBit_toNat, BitVec.getLsbD_and, BitVec.getLsbD_not, BitVec.getLsbD_ofNat, BitVec.getLsbD_ofNat]
    by_cases hj : j < 64
    · simp [hj]
    · simp [hj, bit_high ha (Nat.le_of_not_lt hj)]
  show IntKind.u64.wrap ((BitVec.ofInt 64 (a : Int) &&& ~~~ BitVec.ofInt 64 (b : Int)).toNat : Int) = _
  rw [e]
  exact wrap_u64_nat _ (minus_lt a b ha)

/-- How many elements. -/
def pop : Nat → Nat → Nat
  | 0, _ => 0
  | k + 1, a => a % 2 + pop k (a / 2)

theorem pop_eq (k : Nat) : ∀ a, pop k a = (List.range k).countP a.testBit := by
  induction k with
  | zero => intro a; rfl
  | succ k ih =>
    intro a
    rw [pop, ih, List.range_succ_eq_map, List.countP_cons, List.countP_map, Nat.add_comm]
    congr 1
    · apply List.countP_congr
      intro j _
      simp [Function.comp, Nat.testBit_succ]
    · rw [Nat.testBit_zero]
      have := Nat.mod_two_eq_zero_or_one a
      rcases this with h | h <;> simp [h]

theorem pop_down (k : Nat) : ∀ a, a ≠ 0 → a < 2 ^ k → pop k (a &&& (a - 1)) + 1 = pop k a := by
  induction k with
  | zero => intro a h0 h; simp at h; omega
  | succ k ih =>
    intro a h0 h
    have hd : (a &&& (a - 1)) / 2 = (a / 2) &&& ((a - 1) / 2) := Nat.and_div_two
    have hm : (a &&& (a - 1)) % 2 = 0 := by
      rcases Nat.mod_two_eq_zero_or_one a with h1 | h1
      · have : ¬ (a &&& (a - 1)) % 2 = 1 := by rw [Nat.and_mod_two_eq_one]; omega
        omega
      · have : ¬ (a &&& (a - 1)) % 2 = 1 := by rw [Nat.and_mod_two_eq_one]; omega
        omega
    simp only [pop, hd, hm]
    rcases Nat.mod_two_eq_zero_or_one a with h1 | h1
    · have e : (a - 1) / 2 = a / 2 - 1 := by omega
      have := ih (a / 2) (by omega) (by rw [Nat.pow_succ] at h; omega)
      rw [e, h1]; omega
    · have e : (a - 1) / 2 = a / 2 := by omega
      rw [e, Nat.and_self, h1]; omega

theorem pop_le (k : Nat) : ∀ a, pop k a ≤ k := by
  induction k with
  | zero => intro a; simp [pop]
  | succ k ih => intro a; have := ih (a / 2); simp only [pop]; omega

theorem pop_zero (k : Nat) : pop k 0 = 0 := by
  induction k with
  | zero => rfl
  | succ k ih => simp [pop, ih]

attribute [irreducible] pop

/-- The set that an int stands for. -/
def bset (z : Int) : Nat := (z % 18446744073709551616).toNat
theorem bset_lt (z : Int) : bset z < 18446744073709551616 := by unfold bset; omega
theorem conv_bset (k : IntKind) (z : Int) : convV .u64 (.int k z) = some (.int .u64 (bset z : Nat)) := by
  have e : (2 : Int) ^ IntKind.u64.bits = 18446744073709551616 := by decide
  rw [conv_int]
  congr 2
  unfold IntKind.wrap bset
  simp only [e, show IntKind.u64.signed = false from rfl, Bool.false_and]
  simp only [Bool.false_eq_true, if_false]
  omega

theorem Set_Union_ok (a b : Nat) (ha : a < 18446744073709551616) (hb : b < 18446744073709551616) : PCalls PR i_bitset_Set_Union [.int .u64 a, .int .u64 b] (fun v => v = .int .u64 (a ||| b : Nat)) := by
  refine acalls_pop fn_bitset_Set_Union_ok (by simp [fn_bitset_Set_Union]) ?_
  simp -implicitDefEqProofs (disch := omega) only [go_sem, Nat.reduceAdd, Nat.reduceMul, Nat.reduceSub, Nat.reduceBEq, Nat.reduceLeDiff, Nat.reduceLT, fn_bitset_Set_Union, e35_1, w35_1, e35_3, w35_3, c35_4, c35_5, orK_nat a b ha hb]

theorem Set_Within_ok (a b : Nat) (ha : a < 18446744073709551616) (hb : b < 18446744073709551616) : PCalls PR i_bitset_Set_Within [.int .u64 a, .int .u64 b] (fun v => v = .bool (decide (minus a b = 0))) := by
  refine acalls_pop fn_bitset_Set_Within_ok (by simp [fn_bitset_Set_Within]) ?_
  simp -implicitDefEqProofs (disch := omega) only [go_sem, Nat.reduceAdd, Nat.reduceMul, Nat.reduceSub, Nat.reduceBEq, Nat.reduceLeDiff, Nat.reduceLT, fn_bitset_Set_Within, e37_1, w37_1, e37_3, w37_3, c37_4, c37_5, andNotK_nat a b ha hb]
  exact decide_eq_decide.2 (by omega)

theorem Set_Len_ok (a : Nat) (ha : a < 18446744073709551616) : PCalls PR i_bitset_Set_Len [.int .u64 a] (fun v => v = .int .i64 (pop 64 a : Nat)) := by
  refine acalls_pop fn_bitset_Set_Len_ok (by simp [fn_bitset_Set_Len]) ?_
  simp -implicitDefEqProofs (disch := omega) only [go_sem, Nat.reduceAdd, Nat.reduceMul, Nat.reduceSub, Nat.reduceBEq, Nat.reduceLeDiff, Nat.reduceLT, fn_bitset_Set_Len, e36_1, w36_1, e36_3, w36_3, e36_5, w36_5, c36_6, e36_8, w36_8, e36_10, w36_10, e36_12, w36_12, c36_13, c36_14, c36_15, c36_16, c36_17, e36_19, w36_19, c36_20, e36_22, w36_22, e36_24, w36_24, e36_26, w36_26, c36_27, c36_28, c36_29, c36_30, c36_31, c36_32]
  have hp0 := pop_zero 64
  have sub1 : ∀ b : Nat, b ≠ 0 → b < 18446744073709551616 → IntKind.u64.wrap ((b : Int) - 1) = ((b - 1 : Nat) : Int) := fun b h0 h1 => by
    rw [wrap_u64 _ (by omega) (by omega)]; omega
  have hp := pop_le 64 a
  refine ⟨fun n vs M => ∃ b k : Nat, n = pop 64 b ∧ b < 18446744073709551616 ∧ k + pop 64 b = pop 64 a ∧ vs = [.int .u64 b, .int .i64 k] ∧ M = [], ?_, ?_⟩
  · simp -implicitDefEqProofs (disch := omega) only [go_sem, Nat.reduceAdd, Nat.reduceMul, Nat.reduceSub, Nat.reduceBEq, Nat.reduceLeDiff, Nat.reduceLT, fn_bitset_Set_Len, e36_1, w36_1, e36_3, w36_3, e36_5, w36_5, c36_6, e36_8, w36_8, e36_10, w36_10, e36_12, w36_12, c36_13, c36_14, c36_15, c36_16, c36_17, e36_19, w36_19, c36_20, e36_22, w36_22, e36_24, w36_24, e36_26, w36_26, c36_27, c36_28, c36_29, c36_30, c36_31, c36_32]
    refine ifD (fun h => ?_) (fun h => ?_)
    · have : a = 0 := by omega
      subst this
      simp -implicitDefEqProofs (disch := omega) only [go_sem, Nat.reduceAdd, Nat.reduceMul, Nat.reduceSub, Nat.reduceBEq, Nat.reduceLeDiff, Nat.reduceLT, fn_bitset_Set_Len, e36_1, w36_1, e36_3, w36_3, e36_5, w36_5, c36_6, e36_8, w36_8, e36_10, w36_10, e36_12, w36_12, c36_13, c36_14, c36_15, c36_16, c36_17, e36_19, w36_19, c36_20, e36_22, w36_22, e36_24, w36_24, e36_26, w36_26, c36_27, c36_28, c36_29, c36_30, c36_31, c36_32, hp0]
      rfl
    · simp -implicitDefEqProofs (disch := omega) only [go_sem, Nat.reduceAdd, Nat.reduceMul, Nat.reduceSub, Nat.reduceBEq, Nat.reduceLeDiff, Nat.reduceLT, fn_bitset_Set_Len, e36_1, w36_1, e36_3, w36_3, e36_5, w36_5, c36_6, e36_8, w36_8, e36_10, w36_10, e36_12, w36_12, c36_13, c36_14, c36_15, c36_16, c36_17, e36_19, w36_19, c36_20, e36_22, w36_22, e36_24, w36_24, e36_26, w36_26, c36_27, c36_28, c36_29, c36_30, c36_31, c36_32]
      have h0 : a ≠ 0 := by omega
      have hd := pop_down 64 a h0 ha
      rw [sub1 a h0 ha, andK_nat a (a - 1) ha (by omega)]
      exact ⟨_, a &&& (a - 1), 1, rfl, and_lt _ _ ha, by omega, rfl⟩
  · rintro n vs M ⟨b, k, rfl, hb, hk, rfl, rfl⟩
    simp -implicitDefEqProofs (disch := omega) only [go_sem, Nat.reduceAdd, Nat.reduceMul, Nat.reduceSub, Nat.reduceBEq, Nat.reduceLeDiff, Nat.reduceLT, fn_bitset_Set_Len, e36_1, w36_1, e36_3, w36_3, e36_5, w36_5, c36_6, e36_8, w36_8, e36_10, w36_10, e36_12, w36_12, c36_13, c36_14, c36_15, c36_16, c36_17, e36_19, w36_19, c36_20, e36_22, w36_22, e36_24, w36_24, e36_26, w36_26, c36_27, c36_28, c36_29, c36_30, c36_31, c36_32]
    refine ifD (fun h => ?_) (fun h => ?_)
    · have : b = 0 := by omega
      subst this
      rw [hp0] at hk
      simp -implicitDefEqProofs (disch := omega) only [go_sem, Nat.reduceAdd, Nat.reduceMul, Nat.reduceSub, Nat.reduceBEq, Nat.reduceLeDiff, Nat.reduceLT, fn_bitset_Set_Len, e36_1, w36_1, e36_3, w36_3, e36_5, w36_5, c36_6, e36_8, w36_8, e36_10, w36_10, e36_12, w36_12, c36_13, c36_14, c36_15, c36_16, c36_17, e36_19, w36_19, c36_20, e36_22, w36_22, e36_24, w36_24, e36_26, w36_26, c36_27, c36_28, c36_29, c36_30, c36_31, c36_32]
      omega
    · simp -implicitDefEqProofs (disch := omega) only [go_sem, Nat.reduceAdd, Nat.reduceMul, Nat.reduceSub, Nat.reduceBEq, Nat.reduceLeDiff, Nat.reduceLT, fn_bitset_Set_Len, e36_1, w36_1, e36_3, w36_3, e36_5, w36_5, c36_6, e36_8, w36_8, e36_10, w36_10, e36_12, w36_12, c36_13, c36_14, c36_15, c36_16, c36_17, e36_19, w36_19, c36_20, e36_22, w36_22, e36_24, w36_24, e36_26, w36_26, c36_27, c36_28, c36_29, c36_30, c36_31, c36_32]
      have h0 : b ≠ 0 := by omega
      have hd := pop_down 64 b h0 hb
      rw [sub1 b h0 hb, andK_nat b (b - 1) hb (by omega)]
      exact ⟨_, by omega, b &&& (b - 1), k + 1, rfl, and_lt _ _ hb, by omega, rfl⟩

/-! ### The specification's sets -/
theorem two_pow_lt {i : Nat} (hi : i < 64) : 2 ^ i < 18446744073709551616 := Nat.pow_lt_pow_right (a := 2) (by omega) hi
theorem two_pow_pos (i : Nat) : 0 < 2 ^ i := Nat.pow_pos (by omega)

theorem add_bit {s i : Nat} (hs : s < 18446744073709551616) (hi : i < 64) (h : s.testBit i = false) : s + 2 ^ i = s ||| 2 ^ i := by
  have hp := two_pow_lt hi
  have hz : BitVec.ofNat 64 s &&& BitVec.ofNat 64 (2 ^ i) = 0#64 := by
    apply BitVec.eq_of_getLsbD_eq
    intro j hj
    rw [BitVec.getLsbD_and, BitVec.getLsbD_ofNat, BitVec.getLsbD_ofNat, BitVec.getLsbD_zero, Nat.testBit_two_pow]
    by_cases e : i = j
    · subst e; simp [h]
    · simp [e]
  have hor := BitVec.add_eq_or_of_and_eq_zero _ _ hz
  have := congrArg BitVec.toNat hor
  rw [BitVec.toNat_add, BitVec.toNat_or, BitVec.toNat_ofNat, BitVec.toNat_ofNat, Nat.mod_eq_of_lt hs, Nat.mod_eq_of_lt hp] at this
  rw [← this, Nat.mod_eq_of_lt]
  -- no carry out: the bits part in two
  have h1 : (s ||| 2 ^ i) < 18446744073709551616 := or_lt _ _ hs hp
  rcases Nat.lt_or_ge (s + 2 ^ i) (2 ^ 64) with h2 | h2
  · exact h2
  · exfalso
    have h3 : (s + 2 ^ i) % 2 ^ 64 = s + 2 ^ i - 2 ^ 64 := by omega
    rw [h3] at this
    have h4 : s ≤ s ||| 2 ^ i := Nat.left_le_or
    omega

theorem or_same {s i : Nat} (h : s.testBit i = true) : s ||| 2 ^ i = s := by
  apply Nat.eq_of_testBit_eq
  intro j
  rw [Nat.testBit_or, Nat.testBit_two_pow]
  by_cases e : i = j
  · subst e; simp [h]
  · simp [e]

theorem d64 : decide (((64 : Nat) : Int) < 64) = false := by decide
theorem mod_full {t : Nat} (ht : t < 18446744073709551616) : t % 2 ^ 64 = t := Nat.mod_eq_of_lt ht
theorem mod_pow_lt {t i : Nat} (ht : t < 18446744073709551616) : t % 2 ^ i < 18446744073709551616 := Nat.lt_of_le_of_lt (Nat.mod_le ..) ht

theorem mod_step (t i j : Nat) : (t % 2 ^ (i + 1)).testBit j = ((t % 2 ^ i).testBit j || (decide (i = j) && t.testBit i)) := by
  rw [Nat.testBit_mod_two_pow, Nat.testBit_mod_two_pow]
  by_cases e : i = j
  · subst e; simp
  · by_cases hl : j < i
    · simp [e, hl, show j < i + 1 by omega]
    · simp [e, hl, show ¬ j < i + 1 by omega]

/-- The elements in ascending order. -/
def elems (s i : Nat) : List Nat := (List.range i).filter s.testBit
theorem elems_succ (s i : Nat) : elems s (i + 1) = elems s i ++ if s.testBit i then [i] else [] := by
  simp only [elems, List.range_succ, List.filter_append]
  cases h : s.testBit i <;> simp [h]
theorem elems_len (s : Nat) : (elems s 64).length = pop 64 s := by rw [pop_eq, elems, List.countP_eq_length_filter]
theorem elems_le (s i : Nat) : (elems s i).length ≤ i := by
  have := List.length_filter_le s.testBit (List.range i)
  simpa [elems] using this

def intRow (n : Nat) : List V := [.int .i64 n]

end Go.Vm.C

