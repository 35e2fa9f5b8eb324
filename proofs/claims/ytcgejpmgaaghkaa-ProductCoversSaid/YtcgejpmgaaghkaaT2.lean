/- Contracts: sets of small integers. -/
import Derived.Test.YtcgejpmgaaghkaaT1

namespace Go.Vm.C
open Go.Vm
set_option maxHeartbeats 1000000
set_option maxRecDepth 10000
set_option linter.unusedSimpArgs false
set_option linter.unusedVariables false

/-! ### Sets of small integers -/
theorem wrap_u64_nat (n : Nat) (h : n < 18446744073709551616) : IntKind.u64.wrap (n : Int) = n := wrap_u64 _ (by omega) (by omega)

theorem or_lt (a b : Nat) (ha : a < 18446744073709551616) (hb : b < 18446744073709551616) : a ||| b < 18446744073709551616 := Nat.or_lt_two_pow (n := 64) ha hb
theorem and_lt (a b : Nat) (ha : a < 18446744073709551616) : a &&& b < 18446744073709551616 := Nat.lt_of_le_of_lt Nat.and_le_left ha

theorem orK_nat (a b : Nat) (ha : a < 18446744073709551616) (hb : b < 18446744073709551616) : orK .u64 a b = ((a ||| b : Nat) : Int) := by
  have e : (BitVec.ofInt 64 (a : Int) ||| BitVec.ofInt 64 (b : Int)).toNat = a ||| b := by
    rw [BitVec.ofInt_natCast, BitVec.ofInt_natCast, BitVec.toNat_or, BitVec.toNat_ofNat, BitVec.toNat_ofNat, Nat.mod_eq_of_lt ha, Nat.mod_eq_of_lt hb]
  show IntKind.u64.wrap ((BitVec.ofInt 64 (a : Int) ||| BitVec.ofInt 64 (b : Int)).toNat : Int) = _
  rw [e]
  exact wrap_u64_nat _ (or_lt a b ha hb)

theorem andK_nat (a b : Nat) (ha : a < 18446744073709551616) (hb : b < 18446744073709551616) : andK .u64 a b = ((a &&& b : Nat) : Int) := by
  have e : (BitVec.ofInt 64 (a : Int) &&& BitVec.ofInt 64 (b : Int)).toNat = a &&& b := by
    rw [BitVec.ofInt_natCast, BitVec.ofInt_natCast, BitVec.toNat_and, BitVec.toNat_ofNat, BitVec.toNat_ofNat, Nat.mod_eq_of_lt ha, Nat.mod_eq_of_lt hb]
  show IntKind.u64.wrap ((BitVec.ofInt 64 (a : Int) &&& BitVec.ofInt 64 (b : Int)).toNat : Int) = _
  rw [e]
  exact wrap_u64_nat _ (and_lt a b ha)

/-- The elements of a that are not in b. -/
def minus (a b : Nat) : Nat := a ^^^ (a &&& b)

theorem minus_bit (a b j : Nat) : (minus a b).testBit j = (a.testBit j && !b.testBit j) := by
  rw [minus, Nat.testBit_xor, Nat.testBit_and]
  cases a.testBit j <;> cases b.testBit j <;> rfl

theorem bit_high {a j : Nat} (ha : a < 18446744073709551616) (hj : 64 ≤ j) : a.testBit j = false :=
  Nat.testBit_lt_two_pow (Nat.lt_of_lt_of_le ha (Nat.pow_le_pow_right (n := 2) (by omega) hj))

theorem lt_of_bits {a : Nat} (h : ∀ j, 64 ≤ j → a.testBit j = false) : a < 18446744073709551616 :=
  Nat.lt_pow_two_of_testBit (n := 64) a fun j hj => h j hj

theorem minus_lt (a b : Nat) (ha : a < 18446744073709551616) : minus a b < 18446744073709551616 :=
  lt_of_bits fun j hj => by rw [minus_bit, bit_high ha hj]; rfl

theorem andNotK_nat (a b : Nat) (ha : a < 18446744073709551616) (_hb : b < 18446744073709551616) : andNotK .u64 a b = ((minus a b : Nat) : Int) := by
  have e : (BitVec.ofInt 64 (a : Int) &&& ~~~ BitVec.ofInt 64 (b : Int)).toNat = minus a b := by
    apply Nat.eq_of_testBit_eq
    intro j
    rw [minus_bit, BitVec.ofInt_natCast, BitVec.ofInt_natCast, BitVec.testBit_toNat, BitVec.getLsbD_and, BitVec.getLsbD_not, BitVec.getLsbD_ofNat, BitVec.getLsbD_ofNat]
    by_cases hj : j < 64
    · simp [hj]
    · simp [hj, bit_high ha (Nat.le_of_not_lt hj)]
  show IntKind.u64.wrap ((BitVec.ofInt 64 (a : Int) &&& ~~~ BitVec.ofInt 64 (b : Int)).toNat : Int) = _
  rw [e]
  exact wrap_u64_nat _ (minus_lt a b ha)

/-- How many elements. -/
def pop : Nat → Nat → Nat
  | 0, _ => 0
  | k + 1, a => a % 2 + pop k (a / 2)

theorem pop_eq (k : Nat) : ∀ a, pop k a = (List.range k).countP a.testBit := by
  induction k with
  | zero => intro a; rfl
  | succ k ih =>
    intro a
    rw [pop, ih, List.range_succ_eq_map, List.countP_cons, List.countP_map, Nat.add_comm]
    congr 1
    · apply List.countP_congr
      intro j _
      simp [Function.comp, Nat.testBit_succ]
    · rw [Nat.testBit_zero]
      have := Nat.mod_two_eq_zero_or_one a
      rcases this with h | h <;> simp [h]

theorem pop_down (k : Nat) : ∀ a, a ≠ 0 → a < 2 ^ k → pop k (a &&& (a - 1)) + 1 = pop k a := by
  induction k with
  | zero => intro a h0 h; simp at h; omega
  | succ k ih =>
    intro a h0 h
    have hd : (a &&& (a - 1)) / 2 = (a / 2) &&& ((a - 1) / 2) := Nat.and_div_two
    have hm : (a &&& (a - 1)) % 2 = 0 := by
      rcases Nat.mod_two_eq_zero_or_one a with h1 | h1
      · have : ¬ (a &&& (a - 1)) % 2 = 1 := by rw [Nat.and_mod_two_eq_one]; omega
        omega
      · have : ¬ (a &&& (a - 1)) % 2 = 1 := by rw [Nat.and_mod_two_eq_one]; omega
        omega
    simp only [pop, hd, hm]
    rcases Nat.mod_two_eq_zero_or_one a with h1 | h1
    · have e : (a - 1) / 2 = a / 2 - 1 := by omega
      have := ih (a / 2) (by omega) (by rw [Nat.pow_succ] at h; omega)
      rw [e, h1]; omega
    · have e : (a - 1) / 2 = a / 2 := by omega
      rw [e, Nat.and_self, h1]; omega

theorem pop_le (k : Nat) : ∀ a, pop k a ≤ k := by
  induction k with
  | zero => intro a; simp [pop]
  | succ k ih => intro a; have := ih (a / 2); simp only [pop]; omega

theorem pop_zero (k : Nat) : pop k 0 = 0 := by
  induction k with
  | zero => rfl
  | succ k ih => simp [pop, ih]

attribute [irreducible] pop

/-- The set that an int stands for. -/
def bset (z : Int) : Nat := (z % 18446744073709551616).toNat
theorem bset_lt (z : Int) : bset z < 18446744073709551616 := by unfold bset; omega
theorem conv_bset (k : IntKind) (z : Int) : convV .u64 (.int k z) = some (.int .u64 (bset z : Nat)) := by
  have e : (2 : Int) ^ IntKind.u64.bits = 18446744073709551616 := by decide
  rw [conv_int]
  congr 2
  unfold IntKind.wrap bset
  simp only [e, show IntKind.u64.signed = false from rfl, Bool.false_and]
  simp only [Bool.false_eq_true, if_false]
  omega

theorem Set_Union_ok (a b : Nat) (ha : a < 18446744073709551616) (hb : b < 18446744073709551616) : PCalls PR i_bitset_Set_Union [.int .u64 a, .int .u64 b] (fun v => v = .int .u64 (a ||| b : Nat)) := by
  refine acalls_pop fn_bitset_Set_Union_ok (by simp [fn_bitset_Set_Union]) ?_
  simp -implicitDefEqProofs (disch := omega) only [go_sem, Nat.reduceAdd, Nat.reduceMul, Nat.reduceSub, Nat.reduceBEq, Nat.reduceLeDiff, Nat.reduceLT, fn_bitset_Set_Union, e29_1, w29_1, e29_3, w29_3, c29_4, c29_5, orK_nat a b ha hb]

theorem Set_Within_ok (a b : Nat) (ha : a < 18446744073709551616) (hb : b < 18446744073709551616) : PCalls PR i_bitset_Set_Within [.int .u64 a, .int .u64 b] (fun v => v = .bool (decide (minus a b = 0))) := by
  refine acalls_pop fn_bitset_Set_Within_ok (by simp [fn_bitset_Set_Within]) ?_
  simp -implicitDefEqProofs (disch := omega) only [go_sem, Nat.reduceAdd, Nat.reduceMul, Nat.reduceSub, Nat.reduceBEq, Nat.reduceLeDiff, Nat.reduceLT, fn_bitset_Set_Within, e31_1, w31_1, e31_3, w31_3, c31_4, c31_5, andNotK_nat a b ha hb]
  exact decide_eq_decide.2 (by omega)

theorem Set_Len_ok (a : Nat) (ha : a < 18446744073709551616) : PCalls PR i_bitset_Set_Len [.int .u64 a] (fun v => v = .int .i64 (pop 64 a : Nat)) := by
  refine acalls_pop fn_bitset_Set_Len_ok (by simp [fn_bitset_Set_Len]) ?_
  simp -implicitDefEqProofs (disch := omega) only [go_sem, Nat.reduceAdd, Nat.reduceMul, Nat.reduceSub, Nat.reduceBEq, Nat.reduceLeDiff, Nat.reduceLT, fn_bitset_Set_Len, e30_1, w30_1, e30_3, w30_3, e30_5, w30_5, c30_6, e30_8, w30_8, e30_10, w30_10, e30_12, w30_12, c30_13, c30_14, c30_15, c30_16, c30_17, e30_19, w30_19, c30_20, e30_22, w30_22, e30_24, w30_24, e30_26, w30_26, c30_27, c30_28, c30_29, c30_30, c30_31, c30_32]
  have hp0 := pop_zero 64
  have sub1 : ∀ b : Nat, b ≠ 0 → b < 18446744073709551616 → IntKind.u64.wrap ((b : Int) - 1) = ((b - 1 : Nat) : Int) := fun b h0 h1 => by
    rw [wrap_u64 _ (by omega) (by omega)]; omega
  have hp := pop_le 64 a
  refine ⟨fun n vs M => ∃ b k : Nat, n = pop 64 b ∧ b < 18446744073709551616 ∧ k + pop 64 b = pop 64 a ∧ vs = [.int .u64 b, .int .i64 k] ∧ M = [], ?_, ?_⟩
  · simp -implicitDefEqProofs (disch := omega) only [go_sem, Nat.reduceAdd, Nat.reduceMul, Nat.reduceSub, Nat.reduceBEq, Nat.reduceLeDiff, Nat.reduceLT, fn_bitset_Set_Len, e30_1, w30_1, e30_3, w30_3, e30_5, w30_5, c30_6, e30_8, w30_8, e30_10, w30_10, e30_12, w30_12, c30_13, c30_14, c30_15, c30_16, c30_17, e30_19, w30_19, c30_20, e30_22, w30_22, e30_24, w30_24, e30_26, w30_26, c30_27, c30_28, c30_29, c30_30, c30_31, c30_32]
    refine ifD (fun h => ?_) (fun h => ?_)
    · have : a = 0 := by omega
      subst this
      simp -implicitDefEqProofs (disch := omega) only [go_sem, Nat.reduceAdd, Nat.reduceMul, Nat.reduceSub, Nat.reduceBEq, Nat.reduceLeDiff, Nat.reduceLT, fn_bitset_Set_Len, e30_1, w30_1, e30_3, w30_3, e30_5, w30_5, c30_6, e30_8, w30_8, e30_10, w30_10, e30_12, w30_12, c30_13, c30_14, c30_15, c30_16, c30_17, e30_19, w30_19, c30_20, e30_22, w30_22, e30_24, w30_24, e30_26, w30_26, c30_27, c30_28, c30_29, c30_30, c30_31, c30_32, hp0]
      rfl
    · simp -implicitDefEqProofs (disch := omega) only [go_sem, Nat.reduceAdd, Nat.reduceMul, Nat.reduceSub, Nat.reduceBEq, Nat.reduceLeDiff, Nat.reduceLT, fn_bitset_Set_Len, e30_1, w30_1, e30_3, w30_3, e30_5, w30_5, c30_6, e30_8, w30_8, e30_10, w30_10, e30_12, w30_12, c30_13, c30_14, c30_15, c30_16, c30_17, e30_19, w30_19, c30_20, e30_22, w30_22, e30_24, w30_24, e30_26, w30_26, c30_27, c30_28, c30_29, c30_30, c30_31, c30_32]
      have h0 : a ≠ 0 := by omega
      have hd := pop_down 64 a h0 ha
      rw [sub1 a h0 ha, andK_nat a (a - 1) ha (by omega)]
      exact ⟨_, a &&& (a - 1), 1, rfl, and_lt _ _ ha, by omega, rfl⟩
  · rintro n vs M ⟨b, k, rfl, hb, hk, rfl, rfl⟩
    simp -implicitDefEqProofs (disch := omega) only [go_sem, Nat.reduceAdd, Nat.reduceMul, Nat.reduceSub, Nat.reduceBEq, Nat.reduceLeDiff, Nat.reduceLT, fn_bitset_Set_Len, e30_1, w30_1, e30_3, w30_3, e30_5, w30_5, c30_6, e30_8, w30_8, e30_10, w30_10, e30_12, w30_12, c30_13, c30_14, c30_15, c30_16, c30_17, e30_19, w30_19, c30_20, e30_22, w30_22, e30_24, w30_24, e30_26, w30_26, c30_27, c30_28, c30_29, c30_30, c30_31, c30_32]
    refine ifD (fun h => ?_) (fun h => ?_)
    · have : b = 0 := by omega
      subst this
      rw [hp0] at hk
      simp -implicitDefEqProofs (disch := omega) only [go_sem, Nat.reduceAdd, Nat.reduceMul, Nat.reduceSub, Nat.reduceBEq, Nat.reduceLeDiff, Nat.reduceLT, fn_bitset_Set_Len, e30_1, w30_1, e30_3, w30_3, e30_5, w30_5, c30_6, e30_8, w30_8, e30_10, w30_10, e30_12, w30_12, c30_13, c30_14, c30_15, c30_16, c30_17, e30_19, w30_19, c30_20, e30_22, w30_22, e30_24, w30_24, e30_26, w30_26, c30_27, c30_28, c30_29, c30_30, c30_31, c30_32]
      omega
    · simp -implicitDefEqProofs (disch := omega) only [go_sem, Nat.reduceAdd, Nat.reduceMul, Nat.reduceSub, Nat.reduceBEq, Nat.reduceLeDiff, Nat.reduceLT, fn_bitset_Set_Len, e30_1, w30_1, e30_3, w30_3, e30_5, w30_5, c30_6, e30_8, w30_8, e30_10, w30_10, e30_12, w30_12, c30_13, c30_14, c30_15, c30_16, c30_17, e30_19, w30_19, c30_20, e30_22, w30_22, e30_24, w30_24, e30_26, w30_26, c30_27, c30_28, c30_29, c30_30, c30_31, c30_32]
      have h0 : b ≠ 0 := by omega
      have hd := pop_down 64 b h0 hb
      rw [sub1 b h0 hb, andK_nat b (b - 1) hb (by omega)]
      exact ⟨_, by omega, b &&& (b - 1), k + 1, rfl, and_lt _ _ hb, by omega, rfl⟩

/-! ### The specification's sets -/
theorem two_pow_lt {i : Nat} (hi : i < 64) : 2 ^ i < 18446744073709551616 := Nat.pow_lt_pow_right (a := 2) (by omega) hi
theorem two_pow_pos (i : Nat) : 0 < 2 ^ i := Nat.pow_pos (by omega)

theorem Power_ok (i : Nat) (hi : i < 64) : PCalls PR i_transitref06_Power [.int .i64 i] (fun v => v = .int .u64 (2 ^ i : Nat)) := by
  refine acalls_pop fn_transitref06_Power_ok (by simp [fn_transitref06_Power]) ?_
  simp -implicitDefEqProofs (disch := omega) only [go_sem, Nat.reduceAdd, Nat.reduceMul, Nat.reduceSub, Nat.reduceBEq, Nat.reduceLeDiff, Nat.reduceLT, fn_transitref06_Power, e40_1, w40_1, e40_3, w40_3, e40_5, w40_5, e40_7, w40_7, e40_9, w40_9, c40_10, e40_12, w40_12, c40_13, c40_14, c40_15, c40_16, c40_17, e40_19, w40_19, c40_20, c40_21, c40_22, c40_23]
  refine wpC_for i (fun k vs M => vs = [.int .i64 i, .int .u64 (2 ^ k : Nat), .int .i64 k] ∧ M = []) ⟨rfl, rfl⟩ ?_ ?_
  · rintro k vs M hk hd ⟨rfl, rfl⟩
    have hw : IntKind.u64.wrap (((2 ^ k : Nat) : Int) * 2) = ((2 ^ (k + 1) : Nat) : Int) := by
      have := two_pow_lt (show k + 1 < 64 by omega)
      have e : 2 ^ (k + 1) = 2 ^ k * 2 := Nat.pow_succ ..
      rw [wrap_u64 _ (by omega) (by omega)]
      omega
    simp -implicitDefEqProofs (disch := omega) only [go_sem, Nat.reduceAdd, Nat.reduceMul, Nat.reduceSub, Nat.reduceBEq, Nat.reduceLeDiff, Nat.reduceLT, fn_transitref06_Power, e40_1, w40_1, e40_3, w40_3, e40_5, w40_5, e40_7, w40_7, e40_9, w40_9, c40_10, e40_12, w40_12, c40_13, c40_14, c40_15, c40_16, c40_17, e40_19, w40_19, c40_20, c40_21, c40_22, c40_23, hd, hw]
    exact next_stay hk ⟨rfl, rfl⟩
  · rintro vs M ⟨rfl, rfl⟩
    simp -implicitDefEqProofs (disch := omega) only [go_sem, Nat.reduceAdd, Nat.reduceMul, Nat.reduceSub, Nat.reduceBEq, Nat.reduceLeDiff, Nat.reduceLT, fn_transitref06_Power, e40_1, w40_1, e40_3, w40_3, e40_5, w40_5, e40_7, w40_7, e40_9, w40_9, c40_10, e40_12, w40_12, c40_13, c40_14, c40_15, c40_16, c40_17, e40_19, w40_19, c40_20, c40_21, c40_22, c40_23, dec_irrefl]

theorem Has_ok (s i : Nat) (hs : s < 18446744073709551616) (hi : i < 64) : PCalls PR i_transitref06_Has [.int .u64 s, .int .i64 i] (fun v => v = .bool (s.testBit i)) := by
  refine acalls_pop fn_transitref06_Has_ok (by simp [fn_transitref06_Has]) ?_
  have h0 : decide ((0 : Int) ≤ (i : Int)) = true := decide_eq_true (by omega)
  have h1 : decide ((i : Int) < 64) = true := decide_eq_true (by omega)
  simp -implicitDefEqProofs (disch := omega) only [go_sem, Nat.reduceAdd, Nat.reduceMul, Nat.reduceSub, Nat.reduceBEq, Nat.reduceLeDiff, Nat.reduceLT, fn_transitref06_Has, e37_1, w37_1, e37_3, w37_3, c37_4, c37_5, h0, h1]
  first | refine callD (Power_ok i hi) ?_ | refine callQD (Power_ok i hi) ?_
  have hp := two_pow_pos i
  have hle : s / 2 ^ i ≤ s := Nat.div_le_self ..
  have hq : binV .quo .none (.int .u64 (s : Int)) (.int .u64 ((2 ^ i : Nat) : Int)) = some (.int .u64 ((s / 2 ^ i : Nat) : Int)) := by
    rw [bin_quo _ _ _ _ (by omega), ← Int.ofNat_tdiv, wrap_u64_nat _ (by omega)]
  have hr : binV .rem .none (.int .u64 ((s / 2 ^ i : Nat) : Int)) (.int .u64 2) = some (.int .u64 ((s / 2 ^ i % 2 : Nat) : Int)) := by
    rw [bin_rem _ _ _ _ (by omega)]; rfl
  simp -implicitDefEqProofs (disch := omega) only [go_sem, Nat.reduceAdd, Nat.reduceMul, Nat.reduceSub, Nat.reduceBEq, Nat.reduceLeDiff, Nat.reduceLT, fn_transitref06_Has, e37_1, w37_1, e37_3, w37_3, c37_4, c37_5, hq, hr]
  rw [Nat.testBit_eq_decide_div_mod_eq]
  exact decide_eq_decide.2 (by omega)

theorem add_bit {s i : Nat} (hs : s < 18446744073709551616) (hi : i < 64) (h : s.testBit i = false) : s + 2 ^ i = s ||| 2 ^ i := by
  have hp := two_pow_lt hi
  have hz : BitVec.ofNat 64 s &&& BitVec.ofNat 64 (2 ^ i) = 0#64 := by
    apply BitVec.eq_of_getLsbD_eq
    intro j hj
    rw [BitVec.getLsbD_and, BitVec.getLsbD_ofNat, BitVec.getLsbD_ofNat, BitVec.getLsbD_zero, Nat.testBit_two_pow]
    by_cases e : i = j
    · subst e; simp [h]
    · simp [e]
  have hor := BitVec.add_eq_or_of_and_eq_zero _ _ hz
  have := congrArg BitVec.toNat hor
  rw [BitVec.toNat_add, BitVec.toNat_or, BitVec.toNat_ofNat, BitVec.toNat_ofNat, Nat.mod_eq_of_lt hs, Nat.mod_eq_of_lt hp] at this
  rw [← this, Nat.mod_eq_of_lt]
  -- no carry out: the bits part in two
  have h1 : (s ||| 2 ^ i) < 18446744073709551616 := or_lt _ _ hs hp
  rcases Nat.lt_or_ge (s + 2 ^ i) (2 ^ 64) with h2 | h2
  · exact h2
  · exfalso
    have h3 : (s + 2 ^ i) % 2 ^ 64 = s + 2 ^ i - 2 ^ 64 := by omega
    rw [h3] at this
    have h4 : s ≤ s ||| 2 ^ i := Nat.left_le_or
    omega

theorem or_same {s i : Nat} (h : s.testBit i = true) : s ||| 2 ^ i = s := by
  apply Nat.eq_of_testBit_eq
  intro j
  rw [Nat.testBit_or, Nat.testBit_two_pow]
  by_cases e : i = j
  · subst e; simp [h]
  · simp [e]

theorem With_ok (s i : Nat) (hs : s < 18446744073709551616) (hi : i < 64) : PCalls PR i_transitref06_With [.int .u64 s, .int .i64 i] (fun v => v = .int .u64 (s ||| 2 ^ i : Nat)) := by
  refine acalls_pop fn_transitref06_With_ok (by simp [fn_transitref06_With]) ?_
  have h0 : decide ((i : Int) < 0) = false := decide_eq_false (by omega)
  have h1 : decide (63 < (i : Int)) = false := decide_eq_false (by omega)
  simp -implicitDefEqProofs (disch := omega) only [go_sem, Nat.reduceAdd, Nat.reduceMul, Nat.reduceSub, Nat.reduceBEq, Nat.reduceLeDiff, Nat.reduceLT, fn_transitref06_With, e38_1, w38_1, e38_3, w38_3, c38_4, e38_6, w38_6, e38_8, w38_8, c38_9, c38_10, c38_11, h0, h1]
  first | refine callD (Has_ok s i hs hi) ?_ | refine callQD (Has_ok s i hs hi) ?_
  simp -implicitDefEqProofs (disch := omega) only [go_sem, Nat.reduceAdd, Nat.reduceMul, Nat.reduceSub, Nat.reduceBEq, Nat.reduceLeDiff, Nat.reduceLT, fn_transitref06_With, e38_1, w38_1, e38_3, w38_3, c38_4, e38_6, w38_6, e38_8, w38_8, c38_9, c38_10, c38_11]
  refine ifB (fun h => ?_) (fun h => ?_)
  · simp -implicitDefEqProofs (disch := omega) only [go_sem, Nat.reduceAdd, Nat.reduceMul, Nat.reduceSub, Nat.reduceBEq, Nat.reduceLeDiff, Nat.reduceLT, fn_transitref06_With, e38_1, w38_1, e38_3, w38_3, c38_4, e38_6, w38_6, e38_8, w38_8, c38_9, c38_10, c38_11, or_same h]
  · simp -implicitDefEqProofs (disch := omega) only [go_sem, Nat.reduceAdd, Nat.reduceMul, Nat.reduceSub, Nat.reduceBEq, Nat.reduceLeDiff, Nat.reduceLT, fn_transitref06_With, e38_1, w38_1, e38_3, w38_3, c38_4, e38_6, w38_6, e38_8, w38_8, c38_9, c38_10, c38_11]
    first | refine callD (Power_ok i hi) ?_ | refine callQD (Power_ok i hi) ?_
    simp -implicitDefEqProofs (disch := omega) only [go_sem, Nat.reduceAdd, Nat.reduceMul, Nat.reduceSub, Nat.reduceBEq, Nat.reduceLeDiff, Nat.reduceLT, fn_transitref06_With, e38_1, w38_1, e38_3, w38_3, c38_4, e38_6, w38_6, e38_8, w38_8, c38_9, c38_10, c38_11]
    rw [← add_bit hs hi h, ← Int.natCast_add, wrap_u64_nat]
    rw [add_bit hs hi h]
    exact or_lt _ _ hs (two_pow_lt hi)

theorem Without_ok (s i : Nat) (hs : s < 18446744073709551616) (hi : i < 64) : PCalls PR i_transitref06_Without [.int .u64 s, .int .i64 i] (fun v => v = .int .u64 (minus s (2 ^ i) : Nat)) := by
  refine acalls_pop fn_transitref06_Without_ok (by simp [fn_transitref06_Without]) ?_
  simp -implicitDefEqProofs (disch := omega) only [go_sem, Nat.reduceAdd, Nat.reduceMul, Nat.reduceSub, Nat.reduceBEq, Nat.reduceLeDiff, Nat.reduceLT, fn_transitref06_Without, e39_1, w39_1, e39_3, w39_3, c39_4, e39_6, w39_6, e39_8, w39_8, c39_9, c39_10, c39_11]
  first | refine callD (Has_ok s i hs hi) ?_ | refine callQD (Has_ok s i hs hi) ?_
  simp -implicitDefEqProofs (disch := omega) only [go_sem, Nat.reduceAdd, Nat.reduceMul, Nat.reduceSub, Nat.reduceBEq, Nat.reduceLeDiff, Nat.reduceLT, fn_transitref06_Without, e39_1, w39_1, e39_3, w39_3, c39_4, e39_6, w39_6, e39_8, w39_8, c39_9, c39_10, c39_11]
  refine ifB (fun h => ?_) (fun h => ?_)
  · simp -implicitDefEqProofs (disch := omega) only [go_sem, Nat.reduceAdd, Nat.reduceMul, Nat.reduceSub, Nat.reduceBEq, Nat.reduceLeDiff, Nat.reduceLT, fn_transitref06_Without, e39_1, w39_1, e39_3, w39_3, c39_4, e39_6, w39_6, e39_8, w39_8, c39_9, c39_10, c39_11]
    first | refine callD (Power_ok i hi) ?_ | refine callQD (Power_ok i hi) ?_
    simp -implicitDefEqProofs (disch := omega) only [go_sem, Nat.reduceAdd, Nat.reduceMul, Nat.reduceSub, Nat.reduceBEq, Nat.reduceLeDiff, Nat.reduceLT, fn_transitref06_Without, e39_1, w39_1, e39_3, w39_3, c39_4, e39_6, w39_6, e39_8, w39_8, c39_9, c39_10, c39_11]
    have hb : (minus s (2 ^ i)).testBit i = false := by rw [minus_bit, Nat.testBit_two_pow_self]; simp
    have ha := add_bit (minus_lt s (2 ^ i) hs) hi hb
    have he : minus s (2 ^ i) ||| 2 ^ i = s := by
      apply Nat.eq_of_testBit_eq
      intro j
      rw [Nat.testBit_or, minus_bit, Nat.testBit_two_pow]
      by_cases e : i = j
      · subst e; simp [h]
      · simp [e]
    rw [he] at ha
    generalize hm : minus s (2 ^ i) = m at *
    generalize 2 ^ i = p at *
    rw [wrap_u64 _ (by omega) (by omega)]
    omega
  · have : minus s (2 ^ i) = s := by
      apply Nat.eq_of_testBit_eq
      intro j
      rw [minus_bit, Nat.testBit_two_pow]
      by_cases e : i = j
      · subst e; simp [h]
      · simp [e]
    simp -implicitDefEqProofs (disch := omega) only [go_sem, Nat.reduceAdd, Nat.reduceMul, Nat.reduceSub, Nat.reduceBEq, Nat.reduceLeDiff, Nat.reduceLT, fn_transitref06_Without, e39_1, w39_1, e39_3, w39_3, c39_4, e39_6, w39_6, e39_8, w39_8, c39_9, c39_10, c39_11, this]

theorem d64 : decide (((64 : Nat) : Int) < 64) = false := by decide
theorem mod_full {t : Nat} (ht : t < 18446744073709551616) : t % 2 ^ 64 = t := Nat.mod_eq_of_lt ht
theorem mod_pow_lt {t i : Nat} (ht : t < 18446744073709551616) : t % 2 ^ i < 18446744073709551616 := Nat.lt_of_le_of_lt (Nat.mod_le ..) ht

theorem mod_step (t i j : Nat) : (t % 2 ^ (i + 1)).testBit j = ((t % 2 ^ i).testBit j || (decide (i = j) && t.testBit i)) := by
  rw [Nat.testBit_mod_two_pow, Nat.testBit_mod_two_pow]
  by_cases e : i = j
  · subst e; simp
  · by_cases hl : j < i
    · simp [e, hl, show j < i + 1 by omega]
    · simp [e, hl, show ¬ j < i + 1 by omega]

theorem transitref06_Union_ok (s t : Nat) (hs : s < 18446744073709551616) (ht : t < 18446744073709551616) : PCalls PR i_transitref06_Union [.int .u64 s, .int .u64 t] (fun v => v = .int .u64 (s ||| t : Nat)) := by
  refine acalls_pop fn_transitref06_Union_ok (by simp [fn_transitref06_Union]) ?_
  simp -implicitDefEqProofs (disch := omega) only [go_sem, Nat.reduceAdd, Nat.reduceMul, Nat.reduceSub, Nat.reduceBEq, Nat.reduceLeDiff, Nat.reduceLT, fn_transitref06_Union, e32_1, w32_1, e32_3, w32_3, e32_5, w32_5, e32_7, w32_7, e32_9, w32_9, c32_10, e32_12, w32_12, c32_13, c32_14, c32_15, c32_16, c32_17, e32_19, w32_19, c32_20, c32_21, c32_22]
  refine wpC_for 64 (fun i vs M => vs = [.int .u64 (s ||| (t % 2 ^ i) : Nat), .int .u64 t, .int .i64 i] ∧ M = []) ⟨by rw [Nat.pow_zero, Nat.mod_one, Nat.or_zero]; rfl, rfl⟩ ?_ ?_
  · rintro i vs M hi hd ⟨rfl, rfl⟩
    have hd : decide ((i : Int) < 64) = true := hd
    have hl : (s ||| (t % 2 ^ i)) < 18446744073709551616 := or_lt _ _ hs (mod_pow_lt ht)
    simp -implicitDefEqProofs (disch := omega) only [go_sem, Nat.reduceAdd, Nat.reduceMul, Nat.reduceSub, Nat.reduceBEq, Nat.reduceLeDiff, Nat.reduceLT, fn_transitref06_Union, e32_1, w32_1, e32_3, w32_3, e32_5, w32_5, e32_7, w32_7, e32_9, w32_9, c32_10, e32_12, w32_12, c32_13, c32_14, c32_15, c32_16, c32_17, e32_19, w32_19, c32_20, c32_21, c32_22, hd]
    first | refine callD (Has_ok t i ht hi) ?_ | refine callQD (Has_ok t i ht hi) ?_
    simp -implicitDefEqProofs (disch := omega) only [go_sem, Nat.reduceAdd, Nat.reduceMul, Nat.reduceSub, Nat.reduceBEq, Nat.reduceLeDiff, Nat.reduceLT, fn_transitref06_Union, e32_1, w32_1, e32_3, w32_3, e32_5, w32_5, e32_7, w32_7, e32_9, w32_9, c32_10, e32_12, w32_12, c32_13, c32_14, c32_15, c32_16, c32_17, e32_19, w32_19, c32_20, c32_21, c32_22]
    refine ifB (fun h => ?_) (fun h => ?_)
    · simp -implicitDefEqProofs (disch := omega) only [go_sem, Nat.reduceAdd, Nat.reduceMul, Nat.reduceSub, Nat.reduceBEq, Nat.reduceLeDiff, Nat.reduceLT, fn_transitref06_Union, e32_1, w32_1, e32_3, w32_3, e32_5, w32_5, e32_7, w32_7, e32_9, w32_9, c32_10, e32_12, w32_12, c32_13, c32_14, c32_15, c32_16, c32_17, e32_19, w32_19, c32_20, c32_21, c32_22]
      first | refine callD (With_ok _ i hl hi) ?_ | refine callQD (With_ok _ i hl hi) ?_
      simp -implicitDefEqProofs (disch := omega) only [go_sem, Nat.reduceAdd, Nat.reduceMul, Nat.reduceSub, Nat.reduceBEq, Nat.reduceLeDiff, Nat.reduceLT, fn_transitref06_Union, e32_1, w32_1, e32_3, w32_3, e32_5, w32_5, e32_7, w32_7, e32_9, w32_9, c32_10, e32_12, w32_12, c32_13, c32_14, c32_15, c32_16, c32_17, e32_19, w32_19, c32_20, c32_21, c32_22]
      have e : s ||| (t % 2 ^ i) ||| 2 ^ i = s ||| (t % 2 ^ (i + 1)) := by
        apply Nat.eq_of_testBit_eq
        intro j
        rw [Nat.testBit_or, Nat.testBit_or, Nat.testBit_or, Nat.testBit_two_pow, mod_step, h, Bool.and_true, Bool.or_assoc]
      exact next_stay hi ⟨by rw [e]; rfl, rfl⟩
    · have e : t % 2 ^ (i + 1) = t % 2 ^ i := by
        apply Nat.eq_of_testBit_eq
        intro j
        rw [mod_step, h, Bool.and_false, Bool.or_false]
      simp -implicitDefEqProofs (disch := omega) only [go_sem, Nat.reduceAdd, Nat.reduceMul, Nat.reduceSub, Nat.reduceBEq, Nat.reduceLeDiff, Nat.reduceLT, fn_transitref06_Union, e32_1, w32_1, e32_3, w32_3, e32_5, w32_5, e32_7, w32_7, e32_9, w32_9, c32_10, e32_12, w32_12, c32_13, c32_14, c32_15, c32_16, c32_17, e32_19, w32_19, c32_20, c32_21, c32_22]
      exact next_stay hi ⟨by rw [e]; rfl, rfl⟩
  · rintro vs M ⟨rfl, rfl⟩
    rw [mod_full ht]
    simp -implicitDefEqProofs (disch := omega) only [go_sem, Nat.reduceAdd, Nat.reduceMul, Nat.reduceSub, Nat.reduceBEq, Nat.reduceLeDiff, Nat.reduceLT, fn_transitref06_Union, e32_1, w32_1, e32_3, w32_3, e32_5, w32_5, e32_7, w32_7, e32_9, w32_9, c32_10, e32_12, w32_12, c32_13, c32_14, c32_15, c32_16, c32_17, e32_19, w32_19, c32_20, c32_21, c32_22, d64]

theorem transitref06_Minus_ok (s t : Nat) (hs : s < 18446744073709551616) (ht : t < 18446744073709551616) : PCalls PR i_transitref06_Minus [.int .u64 s, .int .u64 t] (fun v => v = .int .u64 (minus s t : Nat)) := by
  refine acalls_pop fn_transitref06_Minus_ok (by simp [fn_transitref06_Minus]) ?_
  simp -implicitDefEqProofs (disch := omega) only [go_sem, Nat.reduceAdd, Nat.reduceMul, Nat.reduceSub, Nat.reduceBEq, Nat.reduceLeDiff, Nat.reduceLT, fn_transitref06_Minus, e34_1, w34_1, e34_3, w34_3, e34_5, w34_5, e34_7, w34_7, e34_9, w34_9, c34_10, e34_12, w34_12, c34_13, c34_14, c34_15, c34_16, c34_17, e34_19, w34_19, c34_20, c34_21, c34_22]
  refine wpC_for 64 (fun i vs M => vs = [.int .u64 (minus s (t % 2 ^ i) : Nat), .int .u64 t, .int .i64 i] ∧ M = []) ⟨by rw [Nat.pow_zero, Nat.mod_one, minus, Nat.and_zero, Nat.xor_zero]; rfl, rfl⟩ ?_ ?_
  · rintro i vs M hi hd ⟨rfl, rfl⟩
    have hd : decide ((i : Int) < 64) = true := hd
    have hl := minus_lt s (t % 2 ^ i) hs
    simp -implicitDefEqProofs (disch := omega) only [go_sem, Nat.reduceAdd, Nat.reduceMul, Nat.reduceSub, Nat.reduceBEq, Nat.reduceLeDiff, Nat.reduceLT, fn_transitref06_Minus, e34_1, w34_1, e34_3, w34_3, e34_5, w34_5, e34_7, w34_7, e34_9, w34_9, c34_10, e34_12, w34_12, c34_13, c34_14, c34_15, c34_16, c34_17, e34_19, w34_19, c34_20, c34_21, c34_22, hd]
    first | refine callD (Has_ok t i ht hi) ?_ | refine callQD (Has_ok t i ht hi) ?_
    simp -implicitDefEqProofs (disch := omega) only [go_sem, Nat.reduceAdd, Nat.reduceMul, Nat.reduceSub, Nat.reduceBEq, Nat.reduceLeDiff, Nat.reduceLT, fn_transitref06_Minus, e34_1, w34_1, e34_3, w34_3, e34_5, w34_5, e34_7, w34_7, e34_9, w34_9, c34_10, e34_12, w34_12, c34_13, c34_14, c34_15, c34_16, c34_17, e34_19, w34_19, c34_20, c34_21, c34_22]
    refine ifB (fun h => ?_) (fun h => ?_)
    · simp -implicitDefEqProofs (disch := omega) only [go_sem, Nat.reduceAdd, Nat.reduceMul, Nat.reduceSub, Nat.reduceBEq, Nat.reduceLeDiff, Nat.reduceLT, fn_transitref06_Minus, e34_1, w34_1, e34_3, w34_3, e34_5, w34_5, e34_7, w34_7, e34_9, w34_9, c34_10, e34_12, w34_12, c34_13, c34_14, c34_15, c34_16, c34_17, e34_19, w34_19, c34_20, c34_21, c34_22]
      first | refine callD (Without_ok _ i hl hi) ?_ | refine callQD (Without_ok _ i hl hi) ?_
      simp -implicitDefEqProofs (disch := omega) only [go_sem, Nat.reduceAdd, Nat.reduceMul, Nat.reduceSub, Nat.reduceBEq, Nat.reduceLeDiff, Nat.reduceLT, fn_transitref06_Minus, e34_1, w34_1, e34_3, w34_3, e34_5, w34_5, e34_7, w34_7, e34_9, w34_9, c34_10, e34_12, w34_12, c34_13, c34_14, c34_15, c34_16, c34_17, e34_19, w34_19, c34_20, c34_21, c34_22]
      have e : minus (minus s (t % 2 ^ i)) (2 ^ i) = minus s (t % 2 ^ (i + 1)) := by
        apply Nat.eq_of_testBit_eq
        intro j
        rw [minus_bit, minus_bit, minus_bit, Nat.testBit_two_pow, mod_step, h, Bool.and_true, Bool.not_or, Bool.and_assoc]
      exact next_stay hi ⟨by rw [e]; rfl, rfl⟩
    · have e : t % 2 ^ (i + 1) = t % 2 ^ i := by
        apply Nat.eq_of_testBit_eq
        intro j
        rw [mod_step, h, Bool.and_false, Bool.or_false]
      simp -implicitDefEqProofs (disch := omega) only [go_sem, Nat.reduceAdd, Nat.reduceMul, Nat.reduceSub, Nat.reduceBEq, Nat.reduceLeDiff, Nat.reduceLT, fn_transitref06_Minus, e34_1, w34_1, e34_3, w34_3, e34_5, w34_5, e34_7, w34_7, e34_9, w34_9, c34_10, e34_12, w34_12, c34_13, c34_14, c34_15, c34_16, c34_17, e34_19, w34_19, c34_20, c34_21, c34_22]
      exact next_stay hi ⟨by rw [e]; rfl, rfl⟩
  · rintro vs M ⟨rfl, rfl⟩
    rw [mod_full ht]
    simp -implicitDefEqProofs (disch := omega) only [go_sem, Nat.reduceAdd, Nat.reduceMul, Nat.reduceSub, Nat.reduceBEq, Nat.reduceLeDiff, Nat.reduceLT, fn_transitref06_Minus, e34_1, w34_1, e34_3, w34_3, e34_5, w34_5, e34_7, w34_7, e34_9, w34_9, c34_10, e34_12, w34_12, c34_13, c34_14, c34_15, c34_16, c34_17, e34_19, w34_19, c34_20, c34_21, c34_22, d64]

/-- The elements in ascending order. -/
def elems (s i : Nat) : List Nat := (List.range i).filter s.testBit
theorem elems_succ (s i : Nat) : elems s (i + 1) = elems s i ++ if s.testBit i then [i] else [] := by
  simp only [elems, List.range_succ, List.filter_append]
  cases h : s.testBit i <;> simp [h]
theorem elems_len (s : Nat) : (elems s 64).length = pop 64 s := by rw [pop_eq, elems, List.countP_eq_length_filter]
theorem elems_le (s i : Nat) : (elems s i).length ≤ i := by
  have := List.length_filter_le s.testBit (List.range i)
  simpa [elems] using this

def intRow (n : Nat) : List V := [.int .i64 n]

theorem transitref06_List_ok (s : Nat) (hs : s < 18446744073709551616) : PCalls PR i_transitref06_List [.int .u64 s] (fun v => v = .slice ((elems s 64).map intRow) .unk) := by
  refine acalls_pop fn_transitref06_List_ok (by simp [fn_transitref06_List]) ?_
  simp -implicitDefEqProofs (disch := omega) only [go_sem, Nat.reduceAdd, Nat.reduceMul, Nat.reduceSub, Nat.reduceBEq, Nat.reduceLeDiff, Nat.reduceLT, fn_transitref06_List, e33_1, w33_1, e33_3, w33_3, e33_5, w33_5, e33_7, w33_7, e33_9, w33_9, e33_11, w33_11, c33_12, e33_14, w33_14, c33_15, c33_16, c33_17, c33_18, c33_19, e33_21, w33_21, c33_22, c33_23, c33_24, c33_25]
  refine wpC_for 64 (fun i vs M => ∃ ver, vs = [.int .u64 s, .mslice 0 ver 0 (elems s i).length, .int .i64 i] ∧ M = [.arr 1 ((elems s i).map intRow) ver 0]) ⟨0, rfl, rfl⟩ ?_ ?_
  · rintro i vs M hi hd ⟨ver, rfl, rfl⟩
    have hd : decide ((i : Int) < 64) = true := hd
    simp -implicitDefEqProofs (disch := omega) only [go_sem, Nat.reduceAdd, Nat.reduceMul, Nat.reduceSub, Nat.reduceBEq, Nat.reduceLeDiff, Nat.reduceLT, fn_transitref06_List, e33_1, w33_1, e33_3, w33_3, e33_5, w33_5, e33_7, w33_7, e33_9, w33_9, e33_11, w33_11, c33_12, e33_14, w33_14, c33_15, c33_16, c33_17, c33_18, c33_19, e33_21, w33_21, c33_22, c33_23, c33_24, c33_25, hd]
    first | refine callD (Has_ok s i hs hi) ?_ | refine callQD (Has_ok s i hs hi) ?_
    simp -implicitDefEqProofs (disch := omega) only [go_sem, Nat.reduceAdd, Nat.reduceMul, Nat.reduceSub, Nat.reduceBEq, Nat.reduceLeDiff, Nat.reduceLT, fn_transitref06_List, e33_1, w33_1, e33_3, w33_3, e33_5, w33_5, e33_7, w33_7, e33_9, w33_9, e33_11, w33_11, c33_12, e33_14, w33_14, c33_15, c33_16, c33_17, c33_18, c33_19, e33_21, w33_21, c33_22, c33_23, c33_24, c33_25]
    have hl := elems_le s i
    refine ifB (fun h => ?_) (fun h => ?_)
    · simp -implicitDefEqProofs (disch := omega) only [go_sem, Nat.reduceAdd, Nat.reduceMul, Nat.reduceSub, Nat.reduceBEq, Nat.reduceLeDiff, Nat.reduceLT, fn_transitref06_List, e33_1, w33_1, e33_3, w33_3, e33_5, w33_5, e33_7, w33_7, e33_9, w33_9, e33_11, w33_11, c33_12, e33_14, w33_14, c33_15, c33_16, c33_17, c33_18, c33_19, e33_21, w33_21, c33_22, c33_23, c33_24, c33_25]
      refine next_stay hi ⟨ver + 1, ?_, ?_⟩
      · simp only [elems_succ, h, if_true, List.length_append]; rfl
      · simp only [elems_succ, h, if_true, List.map_append]; rfl
    · simp -implicitDefEqProofs (disch := omega) only [go_sem, Nat.reduceAdd, Nat.reduceMul, Nat.reduceSub, Nat.reduceBEq, Nat.reduceLeDiff, Nat.reduceLT, fn_transitref06_List, e33_1, w33_1, e33_3, w33_3, e33_5, w33_5, e33_7, w33_7, e33_9, w33_9, e33_11, w33_11, c33_12, e33_14, w33_14, c33_15, c33_16, c33_17, c33_18, c33_19, e33_21, w33_21, c33_22, c33_23, c33_24, c33_25]
      refine next_stay hi ⟨ver, ?_, ?_⟩
      · simp only [elems_succ, h, Bool.false_eq_true, if_false, List.append_nil]; rfl
      · simp only [elems_succ, h, Bool.false_eq_true, if_false, List.append_nil]
  · rintro vs M ⟨ver, rfl, rfl⟩
    simp -implicitDefEqProofs (disch := omega) only [go_sem, Nat.reduceAdd, Nat.reduceMul, Nat.reduceSub, Nat.reduceBEq, Nat.reduceLeDiff, Nat.reduceLT, fn_transitref06_List, e33_1, w33_1, e33_3, w33_3, e33_5, w33_5, e33_7, w33_7, e33_9, w33_9, e33_11, w33_11, c33_12, e33_14, w33_14, c33_15, c33_16, c33_17, c33_18, c33_19, e33_21, w33_21, c33_22, c33_23, c33_24, c33_25, d64]

end Go.Vm.C

