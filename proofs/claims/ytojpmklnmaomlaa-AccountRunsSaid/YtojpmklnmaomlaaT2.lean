/- Contracts: products, options and the check of fares. -/
import Derived.Test.YtojpmklnmaomlaaT1

namespace Go.Vm.C
open Go.Vm
set_option maxHeartbeats 1000000
set_option maxRecDepth 10000
set_option linter.unusedSimpArgs false
set_option linter.unusedVariables false

/-! ### Times -/
theorem u64_wrap (n : Int) : IntKind.u64.wrap n = n % 18446744073709551616 := by
  have e : (2 : Int) ^ IntKind.u64.bits = 18446744073709551616 := by decide
  unfold IntKind.wrap
  simp only [e, show IntKind.u64.signed = false from rfl, Bool.false_and]
  simp

theorem i64_wrap (n : Int) : IntKind.i64.wrap n = if n % 18446744073709551616 ≥ 9223372036854775808 then n % 18446744073709551616 - 18446744073709551616 else n % 18446744073709551616 := by
  have e : (2 : Int) ^ IntKind.i64.bits = 18446744073709551616 := by decide
  have e' : (2 : Int) ^ (IntKind.i64.bits - 1) = 9223372036854775808 := by decide
  unfold IntKind.wrap
  simp only [e, e', show IntKind.i64.signed = true from rfl, Bool.true_and, decide_eq_true_eq]

theorem product_later_ok (a b d : Int) (ha : I64 a) (hb : I64 b) (hd : I64 d) : PCalls PR i_product_later [.int .i64 a, .int .i64 b, .int .i64 d] (fun v => v = .bool (decide (d < b - a))) := by
  obtain ⟨a1, a2⟩ := ha
  obtain ⟨b1, b2⟩ := hb
  obtain ⟨d1, d2⟩ := hd
  refine acalls_pop fn_product_later_ok (by simp [fn_product_later]) ?_
  simp -implicitDefEqProofs (disch := omega) only [go_sem, Nat.reduceAdd, Nat.reduceMul, Nat.reduceSub, Nat.reduceBEq, Nat.reduceLeDiff, Nat.reduceLT, fn_product_later, e73_1, w73_1, e73_3, w73_3, c73_4, e73_6, w73_6, e73_8, w73_8, c73_9, c73_10, c73_11, open_if]
  repeat' (refine BIf_dec (fun h => ?_) (fun h => ?_))
  all_goals
    rw [Bool.eq_iff_iff]
    simp only [decide_eq_true_eq, u64_wrap, i64_wrap, true_iff, false_iff, Bool.false_eq_true]
    omega

/-! ### Products and rides -/
structure Product where
  id : List UInt8
  price : Int
  rides : Int
  zones : Int
  seconds : Int
  modes : Int

def Product.row (p : Product) : List V := [.str p.id, .int .i64 p.price, .int .i64 p.rides, .int .i64 p.zones, .int .i64 p.seconds, .int .i64 p.modes]
def Product.wf (p : Product) : Prop := p.id.length ≤ maxLen ∧ I64 p.price ∧ I64 p.rides ∧ I64 p.zones ∧ I64 p.seconds ∧ I64 p.modes
def Product.right (p : Product) : Bool := within p.price 0 1000000 && (within p.rides 1 8 && (within p.zones 1 16 && (within p.seconds 0 86400 && within p.modes 1 255)))

structure Ride where
  depart : Int
  arrive : Int
  zones : Int
  modes : Int

def Ride.row (r : Ride) : List V := [.int .i64 r.depart, .int .i64 r.arrive, .int .i64 r.zones, .int .i64 r.modes]
def Ride.wf (r : Ride) : Prop := I64 r.depart ∧ I64 r.arrive ∧ I64 r.zones ∧ I64 r.modes

theorem transitref21_Right_ok (p : Product) : PCalls PR i_transitref21_Right [.agg p.row] (fun v => v = .bool p.right) := by
  refine acalls_pop fn_transitref21_Right_ok (by simp [fn_transitref21_Right]) ?_
  simp -implicitDefEqProofs (disch := omega) only [go_sem, Nat.reduceAdd, Nat.reduceMul, Nat.reduceSub, Nat.reduceBEq, Nat.reduceLeDiff, Nat.reduceLT, fn_transitref21_Right, e48_1, w48_1, e48_3, w48_3, c48_4, c48_5, Product.row]
  first | refine callD (transitref21_within_ok _ _ _) ?_ | refine callQD (transitref21_within_ok _ _ _) ?_
  simp -implicitDefEqProofs (disch := omega) only [go_sem, Nat.reduceAdd, Nat.reduceMul, Nat.reduceSub, Nat.reduceBEq, Nat.reduceLeDiff, Nat.reduceLT, fn_transitref21_Right, e48_1, w48_1, e48_3, w48_3, c48_4, c48_5]
  refine ifB (fun h1 => ?_) (fun h1 => ?_)
  · simp -implicitDefEqProofs (disch := omega) only [go_sem, Nat.reduceAdd, Nat.reduceMul, Nat.reduceSub, Nat.reduceBEq, Nat.reduceLeDiff, Nat.reduceLT, fn_transitref21_Right, e48_1, w48_1, e48_3, w48_3, c48_4, c48_5]
    first | refine callD (transitref21_within_ok _ _ _) ?_ | refine callQD (transitref21_within_ok _ _ _) ?_
    simp -implicitDefEqProofs (disch := omega) only [go_sem, Nat.reduceAdd, Nat.reduceMul, Nat.reduceSub, Nat.reduceBEq, Nat.reduceLeDiff, Nat.reduceLT, fn_transitref21_Right, e48_1, w48_1, e48_3, w48_3, c48_4, c48_5]
    refine ifB (fun h2 => ?_) (fun h2 => ?_)
    · simp -implicitDefEqProofs (disch := omega) only [go_sem, Nat.reduceAdd, Nat.reduceMul, Nat.reduceSub, Nat.reduceBEq, Nat.reduceLeDiff, Nat.reduceLT, fn_transitref21_Right, e48_1, w48_1, e48_3, w48_3, c48_4, c48_5]
      first | refine callD (transitref21_within_ok _ _ _) ?_ | refine callQD (transitref21_within_ok _ _ _) ?_
      simp -implicitDefEqProofs (disch := omega) only [go_sem, Nat.reduceAdd, Nat.reduceMul, Nat.reduceSub, Nat.reduceBEq, Nat.reduceLeDiff, Nat.reduceLT, fn_transitref21_Right, e48_1, w48_1, e48_3, w48_3, c48_4, c48_5]
      refine ifB (fun h3 => ?_) (fun h3 => ?_)
      · simp -implicitDefEqProofs (disch := omega) only [go_sem, Nat.reduceAdd, Nat.reduceMul, Nat.reduceSub, Nat.reduceBEq, Nat.reduceLeDiff, Nat.reduceLT, fn_transitref21_Right, e48_1, w48_1, e48_3, w48_3, c48_4, c48_5]
        first | refine callD (transitref21_within_ok _ _ _) ?_ | refine callQD (transitref21_within_ok _ _ _) ?_
        simp -implicitDefEqProofs (disch := omega) only [go_sem, Nat.reduceAdd, Nat.reduceMul, Nat.reduceSub, Nat.reduceBEq, Nat.reduceLeDiff, Nat.reduceLT, fn_transitref21_Right, e48_1, w48_1, e48_3, w48_3, c48_4, c48_5]
        refine ifB (fun h4 => ?_) (fun h4 => ?_)
        · simp -implicitDefEqProofs (disch := omega) only [go_sem, Nat.reduceAdd, Nat.reduceMul, Nat.reduceSub, Nat.reduceBEq, Nat.reduceLeDiff, Nat.reduceLT, fn_transitref21_Right, e48_1, w48_1, e48_3, w48_3, c48_4, c48_5]
          first | refine callD (transitref21_within_ok _ _ _) ?_ | refine callQD (transitref21_within_ok _ _ _) ?_
          simp -implicitDefEqProofs (disch := omega) only [go_sem, Nat.reduceAdd, Nat.reduceMul, Nat.reduceSub, Nat.reduceBEq, Nat.reduceLeDiff, Nat.reduceLT, fn_transitref21_Right, e48_1, w48_1, e48_3, w48_3, c48_4, c48_5, Product.right, h1, h2, h3, h4]
        · simp -implicitDefEqProofs (disch := omega) only [go_sem, Nat.reduceAdd, Nat.reduceMul, Nat.reduceSub, Nat.reduceBEq, Nat.reduceLeDiff, Nat.reduceLT, fn_transitref21_Right, e48_1, w48_1, e48_3, w48_3, c48_4, c48_5, Product.right, h1, h2, h3, h4]
      · simp -implicitDefEqProofs (disch := omega) only [go_sem, Nat.reduceAdd, Nat.reduceMul, Nat.reduceSub, Nat.reduceBEq, Nat.reduceLeDiff, Nat.reduceLT, fn_transitref21_Right, e48_1, w48_1, e48_3, w48_3, c48_4, c48_5, Product.right, h1, h2, h3]
    · simp -implicitDefEqProofs (disch := omega) only [go_sem, Nat.reduceAdd, Nat.reduceMul, Nat.reduceSub, Nat.reduceBEq, Nat.reduceLeDiff, Nat.reduceLT, fn_transitref21_Right, e48_1, w48_1, e48_3, w48_3, c48_4, c48_5, Product.right, h1, h2]
  · simp -implicitDefEqProofs (disch := omega) only [go_sem, Nat.reduceAdd, Nat.reduceMul, Nat.reduceSub, Nat.reduceBEq, Nat.reduceLeDiff, Nat.reduceLT, fn_transitref21_Right, e48_1, w48_1, e48_3, w48_3, c48_4, c48_5, Product.right, h1]

def zonesOf (l : List Ride) : Nat := l.foldl (fun a r => a ||| bset r.zones) 0
def modesOf (l : List Ride) : Nat := l.foldl (fun a r => a ||| bset r.modes) 0

theorem fold_lt (f : Ride → Int) : ∀ (l : List Ride) (a : Nat), a < 18446744073709551616 → l.foldl (fun a r => a ||| bset (f r)) a < 18446744073709551616
  | [], _, h => h
  | r :: l, a, h => fold_lt f l _ (or_lt _ _ h (bset_lt _))
theorem zonesOf_lt (l : List Ride) : zonesOf l < 18446744073709551616 := fold_lt (·.zones) l 0 (by omega)
theorem modesOf_lt (l : List Ride) : modesOf l < 18446744073709551616 := fold_lt (·.modes) l 0 (by omega)
theorem zonesOf_snoc (l : List Ride) (i : Nat) (r : Ride) (h : l[i]? = some r) : zonesOf (l.take (i + 1)) = zonesOf (l.take i) ||| bset r.zones := by
  rw [zonesOf, List.take_add_one, h, List.foldl_append]; rfl
theorem modesOf_snoc (l : List Ride) (i : Nat) (r : Ride) (h : l[i]? = some r) : modesOf (l.take (i + 1)) = modesOf (l.take i) ||| bset r.modes := by
  rw [modesOf, List.take_add_one, h, List.foldl_append]; rfl

/-- The time from the first to the last departure. -/
def spanOf (l : List Ride) : Int :=
  match l[0]?, l[l.length - 1]? with
  | some a, some b => b.depart - a.depart
  | _, _ => 0

def covers (p : Product) (l : List Ride) : Bool :=
  decide (0 < l.length) && (decide ((l.length : Int) ≤ p.rides) && (decide (spanOf l ≤ p.seconds) && (decide ((pop 64 (zonesOf l) : Int) ≤ p.zones) && decide (minus (modesOf l) (bset p.modes) = 0))))

theorem Covers_add (p : Product) (r r' : Ride) (z m : Nat) (hz : z < 18446744073709551616) (hm : m < 18446744073709551616) :
    ACalls PR i_product_Covers_1 [.agg r.row, .ptr 1 0, .ptr 2 0] [.box p.row, .box [.int .u64 z], .box [.int .u64 m], .box r'.row] (fun v M' => v = .tuple [] ∧ M' = [.box p.row, .box [.int .u64 (z ||| bset r.zones : Nat)], .box [.int .u64 (m ||| bset r.modes : Nat)], .box r'.row]) := by
  refine acalls_pop fn_product_Covers_1_ok (by simp [fn_product_Covers_1]) ?_
  simp -implicitDefEqProofs (disch := omega) only [go_sem, Nat.reduceAdd, Nat.reduceMul, Nat.reduceSub, Nat.reduceBEq, Nat.reduceLeDiff, Nat.reduceLT, fn_product_Covers_1, e74_1, w74_1, e74_3, w74_3, e74_5, w74_5, c74_6, c74_7, Ride.row, conv_bset]
  first | refine callD (Set_Union_ok _ _ hz (bset_lt _)) ?_ | refine callQD (Set_Union_ok _ _ hz (bset_lt _)) ?_
  simp -implicitDefEqProofs (disch := omega) only [go_sem, Nat.reduceAdd, Nat.reduceMul, Nat.reduceSub, Nat.reduceBEq, Nat.reduceLeDiff, Nat.reduceLT, fn_product_Covers_1, e74_1, w74_1, e74_3, w74_3, e74_5, w74_5, c74_6, c74_7, Ride.row, conv_bset]
  first | refine callD (Set_Union_ok _ _ hm (bset_lt _)) ?_ | refine callQD (Set_Union_ok _ _ hm (bset_lt _)) ?_
  simp -implicitDefEqProofs (disch := omega) only [go_sem, Nat.reduceAdd, Nat.reduceMul, Nat.reduceSub, Nat.reduceBEq, Nat.reduceLeDiff, Nat.reduceLT, fn_product_Covers_1, e74_1, w74_1, e74_3, w74_3, e74_5, w74_5, c74_6, c74_7, Ride.row, Product.row]

theorem first_last {α : Type} {l : List α} (h : 0 < l.length) : ∃ a b, l[0]? = some a ∧ l[l.length - 1]? = some b :=
  ⟨l[0], l[l.length - 1], by simp [h], by simp [h]⟩

theorem product_Covers_ok (p : Product) (l : List Ride) (c : Cap) (hp : p.wf) (hl : ∀ r ∈ l, r.wf) (hlen : l.length ≤ maxLen) : PCalls PR i_product_Covers [.agg p.row, .slice (l.map Ride.row) c] (fun v => v = .bool (covers p l)) := by
  have hm : maxLen = 9223372036854775807 := by rfl
  obtain ⟨_, _, hpr, hpz, hps, hpm⟩ := hp
  refine acalls_pop fn_product_Covers_ok (by simp [fn_product_Covers]) ?_
  simp -implicitDefEqProofs (disch := omega) only [go_sem, Nat.reduceAdd, Nat.reduceMul, Nat.reduceSub, Nat.reduceBEq, Nat.reduceLeDiff, Nat.reduceLT, fn_product_Covers, e53_1, w53_1, e53_3, w53_3, e53_5, w53_5, c53_6, e53_8, w53_8, e53_10, w53_10, e53_12, w53_12, e53_14, w53_14, e53_16, w53_16, c53_17, e53_19, w53_19, e53_21, w53_21, c53_22, c53_23, e53_25, w53_25, c53_26, c53_27, c53_28, c53_29, c53_30, c53_31, e53_33, w53_33, c53_34, c53_35, c53_36, c53_37, c53_38, c53_39, c53_40, Product.row]
  refine ifD (fun h => ?_) (fun h => ?_)
  · have : covers p l = false := by
      have : ¬ 0 < l.length := by omega
      simp [covers, this]
    simp -implicitDefEqProofs (disch := omega) only [go_sem, Nat.reduceAdd, Nat.reduceMul, Nat.reduceSub, Nat.reduceBEq, Nat.reduceLeDiff, Nat.reduceLT, fn_product_Covers, e53_1, w53_1, e53_3, w53_3, e53_5, w53_5, c53_6, e53_8, w53_8, e53_10, w53_10, e53_12, w53_12, e53_14, w53_14, e53_16, w53_16, c53_17, e53_19, w53_19, e53_21, w53_21, c53_22, c53_23, e53_25, w53_25, c53_26, c53_27, c53_28, c53_29, c53_30, c53_31, e53_33, w53_33, c53_34, c53_35, c53_36, c53_37, c53_38, c53_39, c53_40, this]
  have h0 : 0 < l.length := by omega
  obtain ⟨a, b, ha, hb⟩ := first_last h0
  simp -implicitDefEqProofs (disch := omega) only [go_sem, Nat.reduceAdd, Nat.reduceMul, Nat.reduceSub, Nat.reduceBEq, Nat.reduceLeDiff, Nat.reduceLT, fn_product_Covers, e53_1, w53_1, e53_3, w53_3, e53_5, w53_5, c53_6, e53_8, w53_8, e53_10, w53_10, e53_12, w53_12, e53_14, w53_14, e53_16, w53_16, c53_17, e53_19, w53_19, e53_21, w53_21, c53_22, c53_23, e53_25, w53_25, c53_26, c53_27, c53_28, c53_29, c53_30, c53_31, e53_33, w53_33, c53_34, c53_35, c53_36, c53_37, c53_38, c53_39, c53_40]
  refine ifD (fun h1 => ?_) (fun h1 => ?_)
  · have : covers p l = false := by
      have : ¬ (l.length : Int) ≤ p.rides := by omega
      simp [covers, this]
    simp -implicitDefEqProofs (disch := omega) only [go_sem, Nat.reduceAdd, Nat.reduceMul, Nat.reduceSub, Nat.reduceBEq, Nat.reduceLeDiff, Nat.reduceLT, fn_product_Covers, e53_1, w53_1, e53_3, w53_3, e53_5, w53_5, c53_6, e53_8, w53_8, e53_10, w53_10, e53_12, w53_12, e53_14, w53_14, e53_16, w53_16, c53_17, e53_19, w53_19, e53_21, w53_21, c53_22, c53_23, e53_25, w53_25, c53_26, c53_27, c53_28, c53_29, c53_30, c53_31, e53_33, w53_33, c53_34, c53_35, c53_36, c53_37, c53_38, c53_39, c53_40, this]
  simp -implicitDefEqProofs (disch := omega) only [go_sem, Nat.reduceAdd, Nat.reduceMul, Nat.reduceSub, Nat.reduceBEq, Nat.reduceLeDiff, Nat.reduceLT, fn_product_Covers, e53_1, w53_1, e53_3, w53_3, e53_5, w53_5, c53_6, e53_8, w53_8, e53_10, w53_10, e53_12, w53_12, e53_14, w53_14, e53_16, w53_16, c53_17, e53_19, w53_19, e53_21, w53_21, c53_22, c53_23, e53_25, w53_25, c53_26, c53_27, c53_28, c53_29, c53_30, c53_31, e53_33, w53_33, c53_34, c53_35, c53_36, c53_37, c53_38, c53_39, c53_40, ha, hb, Ride.row, dec_le]
  first | refine callD (product_later_ok _ _ _ ?_ ?_ hps) ?_ | refine callQD (product_later_ok _ _ _ ?_ ?_ hps) ?_
  · exact (hl a (List.mem_of_getElem? ha)).1
  · exact (hl b (List.mem_of_getElem? hb)).1
  have hspan : spanOf l = b.depart - a.depart := by simp only [spanOf, ha, hb]
  simp -implicitDefEqProofs (disch := omega) only [go_sem, Nat.reduceAdd, Nat.reduceMul, Nat.reduceSub, Nat.reduceBEq, Nat.reduceLeDiff, Nat.reduceLT, fn_product_Covers, e53_1, w53_1, e53_3, w53_3, e53_5, w53_5, c53_6, e53_8, w53_8, e53_10, w53_10, e53_12, w53_12, e53_14, w53_14, e53_16, w53_16, c53_17, e53_19, w53_19, e53_21, w53_21, c53_22, c53_23, e53_25, w53_25, c53_26, c53_27, c53_28, c53_29, c53_30, c53_31, e53_33, w53_33, c53_34, c53_35, c53_36, c53_37, c53_38, c53_39, c53_40]
  refine ifD (fun h2 => ?_) (fun h2 => ?_)
  · have : covers p l = false := by
      have : ¬ spanOf l ≤ p.seconds := by omega
      simp [covers, this]
    simp -implicitDefEqProofs (disch := omega) only [go_sem, Nat.reduceAdd, Nat.reduceMul, Nat.reduceSub, Nat.reduceBEq, Nat.reduceLeDiff, Nat.reduceLT, fn_product_Covers, e53_1, w53_1, e53_3, w53_3, e53_5, w53_5, c53_6, e53_8, w53_8, e53_10, w53_10, e53_12, w53_12, e53_14, w53_14, e53_16, w53_16, c53_17, e53_19, w53_19, e53_21, w53_21, c53_22, c53_23, e53_25, w53_25, c53_26, c53_27, c53_28, c53_29, c53_30, c53_31, e53_33, w53_33, c53_34, c53_35, c53_36, c53_37, c53_38, c53_39, c53_40, this]
  simp -implicitDefEqProofs (disch := omega) only [go_sem, Nat.reduceAdd, Nat.reduceMul, Nat.reduceSub, Nat.reduceBEq, Nat.reduceLeDiff, Nat.reduceLT, fn_product_Covers, e53_1, w53_1, e53_3, w53_3, e53_5, w53_5, c53_6, e53_8, w53_8, e53_10, w53_10, e53_12, w53_12, e53_14, w53_14, e53_16, w53_16, c53_17, e53_19, w53_19, e53_21, w53_21, c53_22, c53_23, e53_25, w53_25, c53_26, c53_27, c53_28, c53_29, c53_30, c53_31, e53_33, w53_33, c53_34, c53_35, c53_36, c53_37, c53_38, c53_39, c53_40]
  refine wpC_forL l (fun i vs M => vs = [.ptr 0 0, .ptr 1 0, .ptr 2 0, .fn i_product_Covers_1 [.ptr 1 0, .ptr 2 0], .slice (l.map Ride.row) c, .int .i64 l.length, .int .i64 i] ∧
    M = [.box p.row, .box [.int .u64 (zonesOf (l.take i))], .box [.int .u64 (modesOf (l.take i))]]) ⟨rfl, rfl⟩ ?_ ?_
  · rintro i r vs M hr hi hd ⟨rfl, rfl⟩
    simp -implicitDefEqProofs (disch := omega) only [go_sem, Nat.reduceAdd, Nat.reduceMul, Nat.reduceSub, Nat.reduceBEq, Nat.reduceLeDiff, Nat.reduceLT, fn_product_Covers, e53_1, w53_1, e53_3, w53_3, e53_5, w53_5, c53_6, e53_8, w53_8, e53_10, w53_10, e53_12, w53_12, e53_14, w53_14, e53_16, w53_16, c53_17, e53_19, w53_19, e53_21, w53_21, c53_22, c53_23, e53_25, w53_25, c53_26, c53_27, c53_28, c53_29, c53_30, c53_31, e53_33, w53_33, c53_34, c53_35, c53_36, c53_37, c53_38, c53_39, c53_40, hd, hr, Ride.row]
    refine callA (Covers_add p r r _ _ (zonesOf_lt _) (modesOf_lt _)) ?_
    rintro v M' ⟨rfl, rfl⟩
    simp -implicitDefEqProofs (disch := omega) only [go_sem, Nat.reduceAdd, Nat.reduceMul, Nat.reduceSub, Nat.reduceBEq, Nat.reduceLeDiff, Nat.reduceLT, fn_product_Covers, e53_1, w53_1, e53_3, w53_3, e53_5, w53_5, c53_6, e53_8, w53_8, e53_10, w53_10, e53_12, w53_12, e53_14, w53_14, e53_16, w53_16, c53_17, e53_19, w53_19, e53_21, w53_21, c53_22, c53_23, e53_25, w53_25, c53_26, c53_27, c53_28, c53_29, c53_30, c53_31, e53_33, w53_33, c53_34, c53_35, c53_36, c53_37, c53_38, c53_39, c53_40]
    refine next_pop hi rfl ⟨rfl, ?_⟩
    rw [zonesOf_snoc l i r hr, modesOf_snoc l i r hr]
    rfl
  · rintro vs M ⟨rfl, rfl⟩
    simp -implicitDefEqProofs (disch := omega) only [go_sem, Nat.reduceAdd, Nat.reduceMul, Nat.reduceSub, Nat.reduceBEq, Nat.reduceLeDiff, Nat.reduceLT, fn_product_Covers, e53_1, w53_1, e53_3, w53_3, e53_5, w53_5, c53_6, e53_8, w53_8, e53_10, w53_10, e53_12, w53_12, e53_14, w53_14, e53_16, w53_16, c53_17, e53_19, w53_19, e53_21, w53_21, c53_22, c53_23, e53_25, w53_25, c53_26, c53_27, c53_28, c53_29, c53_30, c53_31, e53_33, w53_33, c53_34, c53_35, c53_36, c53_37, c53_38, c53_39, c53_40, dec_irrefl, List.take_length]
    first | refine callD (Set_Len_ok _ (zonesOf_lt l)) ?_ | refine callQD (Set_Len_ok _ (zonesOf_lt l)) ?_
    simp -implicitDefEqProofs (disch := omega) only [go_sem, Nat.reduceAdd, Nat.reduceMul, Nat.reduceSub, Nat.reduceBEq, Nat.reduceLeDiff, Nat.reduceLT, fn_product_Covers, e53_1, w53_1, e53_3, w53_3, e53_5, w53_5, c53_6, e53_8, w53_8, e53_10, w53_10, e53_12, w53_12, e53_14, w53_14, e53_16, w53_16, c53_17, e53_19, w53_19, e53_21, w53_21, c53_22, c53_23, e53_25, w53_25, c53_26, c53_27, c53_28, c53_29, c53_30, c53_31, e53_33, w53_33, c53_34, c53_35, c53_36, c53_37, c53_38, c53_39, c53_40, Product.row]
    refine ifD (fun h3 => ?_) (fun h3 => ?_)
    · simp -implicitDefEqProofs (disch := omega) only [go_sem, Nat.reduceAdd, Nat.reduceMul, Nat.reduceSub, Nat.reduceBEq, Nat.reduceLeDiff, Nat.reduceLT, fn_product_Covers, e53_1, w53_1, e53_3, w53_3, e53_5, w53_5, c53_6, e53_8, w53_8, e53_10, w53_10, e53_12, w53_12, e53_14, w53_14, e53_16, w53_16, c53_17, e53_19, w53_19, e53_21, w53_21, c53_22, c53_23, e53_25, w53_25, c53_26, c53_27, c53_28, c53_29, c53_30, c53_31, e53_33, w53_33, c53_34, c53_35, c53_36, c53_37, c53_38, c53_39, c53_40, Product.row, conv_bset]
      first | refine callD (Set_Within_ok _ _ (modesOf_lt l) (bset_lt _)) ?_ | refine callQD (Set_Within_ok _ _ (modesOf_lt l) (bset_lt _)) ?_
      simp -implicitDefEqProofs (disch := omega) only [go_sem, Nat.reduceAdd, Nat.reduceMul, Nat.reduceSub, Nat.reduceBEq, Nat.reduceLeDiff, Nat.reduceLT, fn_product_Covers, e53_1, w53_1, e53_3, w53_3, e53_5, w53_5, c53_6, e53_8, w53_8, e53_10, w53_10, e53_12, w53_12, e53_14, w53_14, e53_16, w53_16, c53_17, e53_19, w53_19, e53_21, w53_21, c53_22, c53_23, e53_25, w53_25, c53_26, c53_27, c53_28, c53_29, c53_30, c53_31, e53_33, w53_33, c53_34, c53_35, c53_36, c53_37, c53_38, c53_39, c53_40, Product.row, memUnder]
      have e1 : (l.length : Int) ≤ p.rides := by omega
      have e2 : spanOf l ≤ p.seconds := by omega
      simp [covers, h0, e1, e2, h3]
    · simp -implicitDefEqProofs (disch := omega) only [go_sem, Nat.reduceAdd, Nat.reduceMul, Nat.reduceSub, Nat.reduceBEq, Nat.reduceLeDiff, Nat.reduceLT, fn_product_Covers, e53_1, w53_1, e53_3, w53_3, e53_5, w53_5, c53_6, e53_8, w53_8, e53_10, w53_10, e53_12, w53_12, e53_14, w53_14, e53_16, w53_16, c53_17, e53_19, w53_19, e53_21, w53_21, c53_22, c53_23, e53_25, w53_25, c53_26, c53_27, c53_28, c53_29, c53_30, c53_31, e53_33, w53_33, c53_34, c53_35, c53_36, c53_37, c53_38, c53_39, c53_40, Product.row]
      simp [covers, h3]

/-! ### Fares -/
structure Fares where
  products : List Product
  tag : Cap
  discount : Int
  within : Int
  limit : Int

def Fares.row (f : Fares) : List V := [.slice (f.products.map Product.row) f.tag, .int .i64 f.discount, .int .i64 f.within, .int .i64 f.limit]
def Fares.wf (f : Fares) : Prop := (∀ p ∈ f.products, p.wf) ∧ f.products.length ≤ maxLen ∧ I64 f.discount ∧ I64 f.within ∧ I64 f.limit

/-- Test an element. -/
def at? {α : Type} (t : α → Bool) (l : List α) (i : Nat) : Bool := ((l[i]?).map t).getD false
theorem at?_eq {α : Type} {t : α → Bool} {l : List α} {i : Nat} {x : α} (h : l[i]? = some x) : at? t l i = t x := by simp [at?, h]

/-! ### Maps from strings to true -/
def strMap (ids : List (List UInt8)) : List (V × V) := ids.map fun s => (.str s, .bool true)

theorem keysOk_strs (s : List UInt8) : ∀ ids, keysOk .str (.str s) (strMap ids) = true
  | [] => rfl
  | i :: ids => by
    show ((cellEq .str (.str s) (.str i)).isSome && keysOk .str (.str s) (strMap ids)) = true
    rw [keysOk_strs s ids]
    rfl
theorem mapGet_strs (s : List UInt8) : ∀ ids, mapGet .str (.str s) (strMap ids) = if s ∈ ids then some (.bool true) else none
  | [] => rfl
  | i :: ids => by
    show (bif (cellEq .str (.str s) (.str i)).getD false then some (V.bool true) else mapGet .str (.str s) (strMap ids)) = _
    rw [mapGet_strs s ids]
    by_cases h : s = i
    · subst h; simp [cellEq]
    · simp [cellEq, h]
theorem mapSet_strs (s : List UInt8) : ∀ ids, s ∉ ids → mapSet .str (.str s) (.bool true) (strMap ids) = strMap (ids ++ [s])
  | [], _ => rfl
  | i :: ids, h => by
    have h1 : s ≠ i := fun e => h (by simp [e])
    have h2 := mapSet_strs s ids (fun e => h (by simp [e]))
    show (bif (cellEq .str (.str s) (.str i)).getD false then _ else (V.str i, V.bool true) :: mapSet .str (.str s) (.bool true) (strMap ids)) = _
    rw [h2]
    simp [cellEq, h1, strMap]
theorem lookE_strs (s : List UInt8) (ids : List (List UInt8)) : lookE .str (.bool false) false (.str s) (strMap ids) = some (.bool (decide (s ∈ ids))) := by
  simp only [lookE, lookupV, mapFind, isKey, cond_true, List.getElem?_cons_zero, keysOk_strs, mapGet_strs, cellsV]
  by_cases hs : s ∈ ids <;> simp [hs]
theorem updE_strs {s : List UInt8} {ids : List (List UInt8)} (hs : s ∉ ids) : updE .str (.str s) (.bool true) (strMap ids) = some (strMap (ids ++ [s])) := by
  simp only [updE, isKey, keysOk_strs, V.isPure, Bool.and_self, cond_true, mapSet_strs s ids hs]

/-! ### Check -/
/-- The error of the product i. -/
def prodErr (l : List Product) (i : Nat) : Int :=
  match l[i]? with
  | none => 0
  | some p => if okName p.id = false then 12 else if p.id ∈ (l.take i).map Product.id then 6 else if p.right = false then 2 else 0

def checkRes (f : Fares) : Int × Int :=
  if within f.discount 0 1000000 = true ∧ within f.within 0 86400 = true ∧ within f.limit 0 1000000 = true then
    if 16 < f.products.length then (0, 5) else firstErr (prodErr f.products) f.products.length
  else (-1, 2)

def pairV (p : Int × Int) : V := .tuple [.int .i64 p.1, .int .i64 p.2]

theorem product_Check_ok (f : Fares) (hf : f.wf) : PCalls PR i_product_Check [.agg f.row] (fun v => v = pairV (checkRes f)) := by
  refine acalls_pop fn_product_Check_ok (by simp [fn_product_Check]) ?_
  simp -implicitDefEqProofs (disch := omega) only [go_sem, Nat.reduceAdd, Nat.reduceMul, Nat.reduceSub, Nat.reduceBEq, Nat.reduceLeDiff, Nat.reduceLT, fn_product_Check, e51_1, w51_1, e51_3, w51_3, c51_4, e51_6, w51_6, e51_8, w51_8, c51_9, e51_11, w51_11, e51_13, w51_13, e51_15, w51_15, e51_17, w51_17, c51_18, e51_20, w51_20, e51_22, w51_22, c51_23, e51_25, w51_25, e51_27, w51_27, c51_28, e51_30, w51_30, e51_32, w51_32, c51_33, e51_35, w51_35, e51_37, w51_37, c51_38, c51_39, c51_40, c51_41, c51_42, e51_44, w51_44, c51_45, c51_46, c51_47, c51_48, c51_49, c51_50, e51_52, w51_52, c51_53, c51_54, c51_55, c51_56, c51_57, c51_58, Fares.row]
  first | refine callD (product_within_ok _ _ _) ?_ | refine callQD (product_within_ok _ _ _) ?_
  simp -implicitDefEqProofs (disch := omega) only [go_sem, Nat.reduceAdd, Nat.reduceMul, Nat.reduceSub, Nat.reduceBEq, Nat.reduceLeDiff, Nat.reduceLT, fn_product_Check, e51_1, w51_1, e51_3, w51_3, c51_4, e51_6, w51_6, e51_8, w51_8, c51_9, e51_11, w51_11, e51_13, w51_13, e51_15, w51_15, e51_17, w51_17, c51_18, e51_20, w51_20, e51_22, w51_22, c51_23, e51_25, w51_25, e51_27, w51_27, c51_28, e51_30, w51_30, e51_32, w51_32, c51_33, e51_35, w51_35, e51_37, w51_37, c51_38, c51_39, c51_40, c51_41, c51_42, e51_44, w51_44, c51_45, c51_46, c51_47, c51_48, c51_49, c51_50, e51_52, w51_52, c51_53, c51_54, c51_55, c51_56, c51_57, c51_58]
  refine ifB (fun h1 => ?_) (fun h1 => ?_)
  rotate_left
  · simp -implicitDefEqProofs (disch := omega) only [go_sem, Nat.reduceAdd, Nat.reduceMul, Nat.reduceSub, Nat.reduceBEq, Nat.reduceLeDiff, Nat.reduceLT, fn_product_Check, e51_1, w51_1, e51_3, w51_3, c51_4, e51_6, w51_6, e51_8, w51_8, c51_9, e51_11, w51_11, e51_13, w51_13, e51_15, w51_15, e51_17, w51_17, c51_18, e51_20, w51_20, e51_22, w51_22, c51_23, e51_25, w51_25, e51_27, w51_27, c51_28, e51_30, w51_30, e51_32, w51_32, c51_33, e51_35, w51_35, e51_37, w51_37, c51_38, c51_39, c51_40, c51_41, c51_42, e51_44, w51_44, c51_45, c51_46, c51_47, c51_48, c51_49, c51_50, e51_52, w51_52, c51_53, c51_54, c51_55, c51_56, c51_57, c51_58, pairV, checkRes, h1]
    rfl
  simp -implicitDefEqProofs (disch := omega) only [go_sem, Nat.reduceAdd, Nat.reduceMul, Nat.reduceSub, Nat.reduceBEq, Nat.reduceLeDiff, Nat.reduceLT, fn_product_Check, e51_1, w51_1, e51_3, w51_3, c51_4, e51_6, w51_6, e51_8, w51_8, c51_9, e51_11, w51_11, e51_13, w51_13, e51_15, w51_15, e51_17, w51_17, c51_18, e51_20, w51_20, e51_22, w51_22, c51_23, e51_25, w51_25, e51_27, w51_27, c51_28, e51_30, w51_30, e51_32, w51_32, c51_33, e51_35, w51_35, e51_37, w51_37, c51_38, c51_39, c51_40, c51_41, c51_42, e51_44, w51_44, c51_45, c51_46, c51_47, c51_48, c51_49, c51_50, e51_52, w51_52, c51_53, c51_54, c51_55, c51_56, c51_57, c51_58]
  first | refine callD (product_within_ok _ _ _) ?_ | refine callQD (product_within_ok _ _ _) ?_
  simp -implicitDefEqProofs (disch := omega) only [go_sem, Nat.reduceAdd, Nat.reduceMul, Nat.reduceSub, Nat.reduceBEq, Nat.reduceLeDiff, Nat.reduceLT, fn_product_Check, e51_1, w51_1, e51_3, w51_3, c51_4, e51_6, w51_6, e51_8, w51_8, c51_9, e51_11, w51_11, e51_13, w51_13, e51_15, w51_15, e51_17, w51_17, c51_18, e51_20, w51_20, e51_22, w51_22, c51_23, e51_25, w51_25, e51_27, w51_27, c51_28, e51_30, w51_30, e51_32, w51_32, c51_33, e51_35, w51_35, e51_37, w51_37, c51_38, c51_39, c51_40, c51_41, c51_42, e51_44, w51_44, c51_45, c51_46, c51_47, c51_48, c51_49, c51_50, e51_52, w51_52, c51_53, c51_54, c51_55, c51_56, c51_57, c51_58]
  refine ifB (fun h2 => ?_) (fun h2 => ?_)
  rotate_left
  · simp -implicitDefEqProofs (disch := omega) only [go_sem, Nat.reduceAdd, Nat.reduceMul, Nat.reduceSub, Nat.reduceBEq, Nat.reduceLeDiff, Nat.reduceLT, fn_product_Check, e51_1, w51_1, e51_3, w51_3, c51_4, e51_6, w51_6, e51_8, w51_8, c51_9, e51_11, w51_11, e51_13, w51_13, e51_15, w51_15, e51_17, w51_17, c51_18, e51_20, w51_20, e51_22, w51_22, c51_23, e51_25, w51_25, e51_27, w51_27, c51_28, e51_30, w51_30, e51_32, w51_32, c51_33, e51_35, w51_35, e51_37, w51_37, c51_38, c51_39, c51_40, c51_41, c51_42, e51_44, w51_44, c51_45, c51_46, c51_47, c51_48, c51_49, c51_50, e51_52, w51_52, c51_53, c51_54, c51_55, c51_56, c51_57, c51_58, pairV, checkRes, h1, h2]
    rfl
  simp -implicitDefEqProofs (disch := omega) only [go_sem, Nat.reduceAdd, Nat.reduceMul, Nat.reduceSub, Nat.reduceBEq, Nat.reduceLeDiff, Nat.reduceLT, fn_product_Check, e51_1, w51_1, e51_3, w51_3, c51_4, e51_6, w51_6, e51_8, w51_8, c51_9, e51_11, w51_11, e51_13, w51_13, e51_15, w51_15, e51_17, w51_17, c51_18, e51_20, w51_20, e51_22, w51_22, c51_23, e51_25, w51_25, e51_27, w51_27, c51_28, e51_30, w51_30, e51_32, w51_32, c51_33, e51_35, w51_35, e51_37, w51_37, c51_38, c51_39, c51_40, c51_41, c51_42, e51_44, w51_44, c51_45, c51_46, c51_47, c51_48, c51_49, c51_50, e51_52, w51_52, c51_53, c51_54, c51_55, c51_56, c51_57, c51_58]
  first | refine callD (product_within_ok _ _ _) ?_ | refine callQD (product_within_ok _ _ _) ?_
  simp -implicitDefEqProofs (disch := omega) only [go_sem, Nat.reduceAdd, Nat.reduceMul, Nat.reduceSub, Nat.reduceBEq, Nat.reduceLeDiff, Nat.reduceLT, fn_product_Check, e51_1, w51_1, e51_3, w51_3, c51_4, e51_6, w51_6, e51_8, w51_8, c51_9, e51_11, w51_11, e51_13, w51_13, e51_15, w51_15, e51_17, w51_17, c51_18, e51_20, w51_20, e51_22, w51_22, c51_23, e51_25, w51_25, e51_27, w51_27, c51_28, e51_30, w51_30, e51_32, w51_32, c51_33, e51_35, w51_35, e51_37, w51_37, c51_38, c51_39, c51_40, c51_41, c51_42, e51_44, w51_44, c51_45, c51_46, c51_47, c51_48, c51_49, c51_50, e51_52, w51_52, c51_53, c51_54, c51_55, c51_56, c51_57, c51_58]
  refine ifB (fun h3 => ?_) (fun h3 => ?_)
  rotate_left
  · simp -implicitDefEqProofs (disch := omega) only [go_sem, Nat.reduceAdd, Nat.reduceMul, Nat.reduceSub, Nat.reduceBEq, Nat.reduceLeDiff, Nat.reduceLT, fn_product_Check, e51_1, w51_1, e51_3, w51_3, c51_4, e51_6, w51_6, e51_8, w51_8, c51_9, e51_11, w51_11, e51_13, w51_13, e51_15, w51_15, e51_17, w51_17, c51_18, e51_20, w51_20, e51_22, w51_22, c51_23, e51_25, w51_25, e51_27, w51_27, c51_28, e51_30, w51_30, e51_32, w51_32, c51_33, e51_35, w51_35, e51_37, w51_37, c51_38, c51_39, c51_40, c51_41, c51_42, e51_44, w51_44, c51_45, c51_46, c51_47, c51_48, c51_49, c51_50, e51_52, w51_52, c51_53, c51_54, c51_55, c51_56, c51_57, c51_58, pairV, checkRes, h1, h2, h3]
    rfl
  simp -implicitDefEqProofs (disch := omega) only [go_sem, Nat.reduceAdd, Nat.reduceMul, Nat.reduceSub, Nat.reduceBEq, Nat.reduceLeDiff, Nat.reduceLT, fn_product_Check, e51_1, w51_1, e51_3, w51_3, c51_4, e51_6, w51_6, e51_8, w51_8, c51_9, e51_11, w51_11, e51_13, w51_13, e51_15, w51_15, e51_17, w51_17, c51_18, e51_20, w51_20, e51_22, w51_22, c51_23, e51_25, w51_25, e51_27, w51_27, c51_28, e51_30, w51_30, e51_32, w51_32, c51_33, e51_35, w51_35, e51_37, w51_37, c51_38, c51_39, c51_40, c51_41, c51_42, e51_44, w51_44, c51_45, c51_46, c51_47, c51_48, c51_49, c51_50, e51_52, w51_52, c51_53, c51_54, c51_55, c51_56, c51_57, c51_58]
  refine ifD (fun h4 => ?_) (fun h4 => ?_)
  · have : 16 < f.products.length := by omega
    simp -implicitDefEqProofs (disch := omega) only [go_sem, Nat.reduceAdd, Nat.reduceMul, Nat.reduceSub, Nat.reduceBEq, Nat.reduceLeDiff, Nat.reduceLT, fn_product_Check, e51_1, w51_1, e51_3, w51_3, c51_4, e51_6, w51_6, e51_8, w51_8, c51_9, e51_11, w51_11, e51_13, w51_13, e51_15, w51_15, e51_17, w51_17, c51_18, e51_20, w51_20, e51_22, w51_22, c51_23, e51_25, w51_25, e51_27, w51_27, c51_28, e51_30, w51_30, e51_32, w51_32, c51_33, e51_35, w51_35, e51_37, w51_37, c51_38, c51_39, c51_40, c51_41, c51_42, e51_44, w51_44, c51_45, c51_46, c51_47, c51_48, c51_49, c51_50, e51_52, w51_52, c51_53, c51_54, c51_55, c51_56, c51_57, c51_58, pairV, checkRes, h1, h2, h3, this]
    rfl
  have h4' : ¬ 16 < f.products.length := by omega
  have hres : checkRes f = firstErr (prodErr f.products) f.products.length := by simp [checkRes, h1, h2, h3, h4']
  simp -implicitDefEqProofs (disch := omega) only [go_sem, Nat.reduceAdd, Nat.reduceMul, Nat.reduceSub, Nat.reduceBEq, Nat.reduceLeDiff, Nat.reduceLT, fn_product_Check, e51_1, w51_1, e51_3, w51_3, c51_4, e51_6, w51_6, e51_8, w51_8, c51_9, e51_11, w51_11, e51_13, w51_13, e51_15, w51_15, e51_17, w51_17, c51_18, e51_20, w51_20, e51_22, w51_22, c51_23, e51_25, w51_25, e51_27, w51_27, c51_28, e51_30, w51_30, e51_32, w51_32, c51_33, e51_35, w51_35, e51_37, w51_37, c51_38, c51_39, c51_40, c51_41, c51_42, e51_44, w51_44, c51_45, c51_46, c51_47, c51_48, c51_49, c51_50, e51_52, w51_52, c51_53, c51_54, c51_55, c51_56, c51_57, c51_58, hres]
  refine wpC_forL f.products (fun i vs M => (∀ k, k < i → prodErr f.products k = 0) ∧ vs = [.map 1, .slice (f.products.map Product.row) f.tag, .int .i64 f.products.length, .int .i64 i] ∧
    M = [.box f.row, .map (strMap ((f.products.take i).map Product.id))]) ⟨fun k hk => absurd hk (Nat.not_lt_zero k), rfl, rfl⟩ ?_ ?_
  · rintro i p vs M hp hi hd ⟨hall, rfl, rfl⟩
    have fin : ∀ e, prodErr f.products i = e → e ≠ 0 → V.tuple [.int .i64 i, .int .i64 e] = pairV (firstErr (prodErr f.products) f.products.length) := fun e h1 h2 => by
      rw [firstErr_at hi hall (by rw [h1]; exact h2), h1]; rfl
    have herr : prodErr f.products i = if okName p.id = false then 12 else if p.id ∈ (f.products.take i).map Product.id then 6 else if p.right = false then 2 else 0 := by simp only [prodErr, hp]
    simp -implicitDefEqProofs (disch := omega) only [go_sem, Nat.reduceAdd, Nat.reduceMul, Nat.reduceSub, Nat.reduceBEq, Nat.reduceLeDiff, Nat.reduceLT, fn_product_Check, e51_1, w51_1, e51_3, w51_3, c51_4, e51_6, w51_6, e51_8, w51_8, c51_9, e51_11, w51_11, e51_13, w51_13, e51_15, w51_15, e51_17, w51_17, c51_18, e51_20, w51_20, e51_22, w51_22, c51_23, e51_25, w51_25, e51_27, w51_27, c51_28, e51_30, w51_30, e51_32, w51_32, c51_33, e51_35, w51_35, e51_37, w51_37, c51_38, c51_39, c51_40, c51_41, c51_42, e51_44, w51_44, c51_45, c51_46, c51_47, c51_48, c51_49, c51_50, e51_52, w51_52, c51_53, c51_54, c51_55, c51_56, c51_57, c51_58, hd, hp, Product.row]
    first | refine callD (ident_Valid_ok _ (hf.1 p (List.mem_of_getElem? hp)).1) ?_ | refine callQD (ident_Valid_ok _ (hf.1 p (List.mem_of_getElem? hp)).1) ?_
    simp -implicitDefEqProofs (disch := omega) only [go_sem, Nat.reduceAdd, Nat.reduceMul, Nat.reduceSub, Nat.reduceBEq, Nat.reduceLeDiff, Nat.reduceLT, fn_product_Check, e51_1, w51_1, e51_3, w51_3, c51_4, e51_6, w51_6, e51_8, w51_8, c51_9, e51_11, w51_11, e51_13, w51_13, e51_15, w51_15, e51_17, w51_17, c51_18, e51_20, w51_20, e51_22, w51_22, c51_23, e51_25, w51_25, e51_27, w51_27, c51_28, e51_30, w51_30, e51_32, w51_32, c51_33, e51_35, w51_35, e51_37, w51_37, c51_38, c51_39, c51_40, c51_41, c51_42, e51_44, w51_44, c51_45, c51_46, c51_47, c51_48, c51_49, c51_50, e51_52, w51_52, c51_53, c51_54, c51_55, c51_56, c51_57, c51_58]
    refine ifB (fun g1 => ?_) (fun g1 => ?_)
    rotate_left
    · simp -implicitDefEqProofs (disch := omega) only [go_sem, Nat.reduceAdd, Nat.reduceMul, Nat.reduceSub, Nat.reduceBEq, Nat.reduceLeDiff, Nat.reduceLT, fn_product_Check, e51_1, w51_1, e51_3, w51_3, c51_4, e51_6, w51_6, e51_8, w51_8, c51_9, e51_11, w51_11, e51_13, w51_13, e51_15, w51_15, e51_17, w51_17, c51_18, e51_20, w51_20, e51_22, w51_22, c51_23, e51_25, w51_25, e51_27, w51_27, c51_28, e51_30, w51_30, e51_32, w51_32, c51_33, e51_35, w51_35, e51_37, w51_37, c51_38, c51_39, c51_40, c51_41, c51_42, e51_44, w51_44, c51_45, c51_46, c51_47, c51_48, c51_49, c51_50, e51_52, w51_52, c51_53, c51_54, c51_55, c51_56, c51_57, c51_58]
      exact fin 12 (by rw [herr, if_pos g1]) (by decide)
    have g1' : ¬ okName p.id = false := by simp [g1]
    simp -implicitDefEqProofs (disch := omega) only [go_sem, Nat.reduceAdd, Nat.reduceMul, Nat.reduceSub, Nat.reduceBEq, Nat.reduceLeDiff, Nat.reduceLT, fn_product_Check, e51_1, w51_1, e51_3, w51_3, c51_4, e51_6, w51_6, e51_8, w51_8, c51_9, e51_11, w51_11, e51_13, w51_13, e51_15, w51_15, e51_17, w51_17, c51_18, e51_20, w51_20, e51_22, w51_22, c51_23, e51_25, w51_25, e51_27, w51_27, c51_28, e51_30, w51_30, e51_32, w51_32, c51_33, e51_35, w51_35, e51_37, w51_37, c51_38, c51_39, c51_40, c51_41, c51_42, e51_44, w51_44, c51_45, c51_46, c51_47, c51_48, c51_49, c51_50, e51_52, w51_52, c51_53, c51_54, c51_55, c51_56, c51_57, c51_58, lookE_strs]
    refine ifD (fun g2 => ?_) (fun g2 => ?_)
    · simp -implicitDefEqProofs (disch := omega) only [go_sem, Nat.reduceAdd, Nat.reduceMul, Nat.reduceSub, Nat.reduceBEq, Nat.reduceLeDiff, Nat.reduceLT, fn_product_Check, e51_1, w51_1, e51_3, w51_3, c51_4, e51_6, w51_6, e51_8, w51_8, c51_9, e51_11, w51_11, e51_13, w51_13, e51_15, w51_15, e51_17, w51_17, c51_18, e51_20, w51_20, e51_22, w51_22, c51_23, e51_25, w51_25, e51_27, w51_27, c51_28, e51_30, w51_30, e51_32, w51_32, c51_33, e51_35, w51_35, e51_37, w51_37, c51_38, c51_39, c51_40, c51_41, c51_42, e51_44, w51_44, c51_45, c51_46, c51_47, c51_48, c51_49, c51_50, e51_52, w51_52, c51_53, c51_54, c51_55, c51_56, c51_57, c51_58]
      exact fin 6 (by rw [herr, if_neg g1', if_pos g2]) (by decide)
    have bad : p.right = false → prodErr f.products i = 2 := fun h => by rw [herr, if_neg g1', if_neg g2, if_pos h]
    simp -implicitDefEqProofs (disch := omega) only [go_sem, Nat.reduceAdd, Nat.reduceMul, Nat.reduceSub, Nat.reduceBEq, Nat.reduceLeDiff, Nat.reduceLT, fn_product_Check, e51_1, w51_1, e51_3, w51_3, c51_4, e51_6, w51_6, e51_8, w51_8, c51_9, e51_11, w51_11, e51_13, w51_13, e51_15, w51_15, e51_17, w51_17, c51_18, e51_20, w51_20, e51_22, w51_22, c51_23, e51_25, w51_25, e51_27, w51_27, c51_28, e51_30, w51_30, e51_32, w51_32, c51_33, e51_35, w51_35, e51_37, w51_37, c51_38, c51_39, c51_40, c51_41, c51_42, e51_44, w51_44, c51_45, c51_46, c51_47, c51_48, c51_49, c51_50, e51_52, w51_52, c51_53, c51_54, c51_55, c51_56, c51_57, c51_58]
    first | refine callD (product_within_ok _ _ _) ?_ | refine callQD (product_within_ok _ _ _) ?_
    simp -implicitDefEqProofs (disch := omega) only [go_sem, Nat.reduceAdd, Nat.reduceMul, Nat.reduceSub, Nat.reduceBEq, Nat.reduceLeDiff, Nat.reduceLT, fn_product_Check, e51_1, w51_1, e51_3, w51_3, c51_4, e51_6, w51_6, e51_8, w51_8, c51_9, e51_11, w51_11, e51_13, w51_13, e51_15, w51_15, e51_17, w51_17, c51_18, e51_20, w51_20, e51_22, w51_22, c51_23, e51_25, w51_25, e51_27, w51_27, c51_28, e51_30, w51_30, e51_32, w51_32, c51_33, e51_35, w51_35, e51_37, w51_37, c51_38, c51_39, c51_40, c51_41, c51_42, e51_44, w51_44, c51_45, c51_46, c51_47, c51_48, c51_49, c51_50, e51_52, w51_52, c51_53, c51_54, c51_55, c51_56, c51_57, c51_58]
    refine ifB (fun k1 => ?_) (fun k1 => ?_)
    rotate_left
    · simp -implicitDefEqProofs (disch := omega) only [go_sem, Nat.reduceAdd, Nat.reduceMul, Nat.reduceSub, Nat.reduceBEq, Nat.reduceLeDiff, Nat.reduceLT, fn_product_Check, e51_1, w51_1, e51_3, w51_3, c51_4, e51_6, w51_6, e51_8, w51_8, c51_9, e51_11, w51_11, e51_13, w51_13, e51_15, w51_15, e51_17, w51_17, c51_18, e51_20, w51_20, e51_22, w51_22, c51_23, e51_25, w51_25, e51_27, w51_27, c51_28, e51_30, w51_30, e51_32, w51_32, c51_33, e51_35, w51_35, e51_37, w51_37, c51_38, c51_39, c51_40, c51_41, c51_42, e51_44, w51_44, c51_45, c51_46, c51_47, c51_48, c51_49, c51_50, e51_52, w51_52, c51_53, c51_54, c51_55, c51_56, c51_57, c51_58]
      exact fin 2 (bad (by simp [Product.right, k1])) (by decide)
    simp -implicitDefEqProofs (disch := omega) only [go_sem, Nat.reduceAdd, Nat.reduceMul, Nat.reduceSub, Nat.reduceBEq, Nat.reduceLeDiff, Nat.reduceLT, fn_product_Check, e51_1, w51_1, e51_3, w51_3, c51_4, e51_6, w51_6, e51_8, w51_8, c51_9, e51_11, w51_11, e51_13, w51_13, e51_15, w51_15, e51_17, w51_17, c51_18, e51_20, w51_20, e51_22, w51_22, c51_23, e51_25, w51_25, e51_27, w51_27, c51_28, e51_30, w51_30, e51_32, w51_32, c51_33, e51_35, w51_35, e51_37, w51_37, c51_38, c51_39, c51_40, c51_41, c51_42, e51_44, w51_44, c51_45, c51_46, c51_47, c51_48, c51_49, c51_50, e51_52, w51_52, c51_53, c51_54, c51_55, c51_56, c51_57, c51_58]
    first | refine callD (product_within_ok _ _ _) ?_ | refine callQD (product_within_ok _ _ _) ?_
    simp -implicitDefEqProofs (disch := omega) only [go_sem, Nat.reduceAdd, Nat.reduceMul, Nat.reduceSub, Nat.reduceBEq, Nat.reduceLeDiff, Nat.reduceLT, fn_product_Check, e51_1, w51_1, e51_3, w51_3, c51_4, e51_6, w51_6, e51_8, w51_8, c51_9, e51_11, w51_11, e51_13, w51_13, e51_15, w51_15, e51_17, w51_17, c51_18, e51_20, w51_20, e51_22, w51_22, c51_23, e51_25, w51_25, e51_27, w51_27, c51_28, e51_30, w51_30, e51_32, w51_32, c51_33, e51_35, w51_35, e51_37, w51_37, c51_38, c51_39, c51_40, c51_41, c51_42, e51_44, w51_44, c51_45, c51_46, c51_47, c51_48, c51_49, c51_50, e51_52, w51_52, c51_53, c51_54, c51_55, c51_56, c51_57, c51_58]
    refine ifB (fun k2 => ?_) (fun k2 => ?_)
    rotate_left
    · simp -implicitDefEqProofs (disch := omega) only [go_sem, Nat.reduceAdd, Nat.reduceMul, Nat.reduceSub, Nat.reduceBEq, Nat.reduceLeDiff, Nat.reduceLT, fn_product_Check, e51_1, w51_1, e51_3, w51_3, c51_4, e51_6, w51_6, e51_8, w51_8, c51_9, e51_11, w51_11, e51_13, w51_13, e51_15, w51_15, e51_17, w51_17, c51_18, e51_20, w51_20, e51_22, w51_22, c51_23, e51_25, w51_25, e51_27, w51_27, c51_28, e51_30, w51_30, e51_32, w51_32, c51_33, e51_35, w51_35, e51_37, w51_37, c51_38, c51_39, c51_40, c51_41, c51_42, e51_44, w51_44, c51_45, c51_46, c51_47, c51_48, c51_49, c51_50, e51_52, w51_52, c51_53, c51_54, c51_55, c51_56, c51_57, c51_58]
      exact fin 2 (bad (by simp [Product.right, k2])) (by decide)
    simp -implicitDefEqProofs (disch := omega) only [go_sem, Nat.reduceAdd, Nat.reduceMul, Nat.reduceSub, Nat.reduceBEq, Nat.reduceLeDiff, Nat.reduceLT, fn_product_Check, e51_1, w51_1, e51_3, w51_3, c51_4, e51_6, w51_6, e51_8, w51_8, c51_9, e51_11, w51_11, e51_13, w51_13, e51_15, w51_15, e51_17, w51_17, c51_18, e51_20, w51_20, e51_22, w51_22, c51_23, e51_25, w51_25, e51_27, w51_27, c51_28, e51_30, w51_30, e51_32, w51_32, c51_33, e51_35, w51_35, e51_37, w51_37, c51_38, c51_39, c51_40, c51_41, c51_42, e51_44, w51_44, c51_45, c51_46, c51_47, c51_48, c51_49, c51_50, e51_52, w51_52, c51_53, c51_54, c51_55, c51_56, c51_57, c51_58]
    first | refine callD (product_within_ok _ _ _) ?_ | refine callQD (product_within_ok _ _ _) ?_
    simp -implicitDefEqProofs (disch := omega) only [go_sem, Nat.reduceAdd, Nat.reduceMul, Nat.reduceSub, Nat.reduceBEq, Nat.reduceLeDiff, Nat.reduceLT, fn_product_Check, e51_1, w51_1, e51_3, w51_3, c51_4, e51_6, w51_6, e51_8, w51_8, c51_9, e51_11, w51_11, e51_13, w51_13, e51_15, w51_15, e51_17, w51_17, c51_18, e51_20, w51_20, e51_22, w51_22, c51_23, e51_25, w51_25, e51_27, w51_27, c51_28, e51_30, w51_30, e51_32, w51_32, c51_33, e51_35, w51_35, e51_37, w51_37, c51_38, c51_39, c51_40, c51_41, c51_42, e51_44, w51_44, c51_45, c51_46, c51_47, c51_48, c51_49, c51_50, e51_52, w51_52, c51_53, c51_54, c51_55, c51_56, c51_57, c51_58]
    refine ifB (fun k3 => ?_) (fun k3 => ?_)
    rotate_left
    · simp -implicitDefEqProofs (disch := omega) only [go_sem, Nat.reduceAdd, Nat.reduceMul, Nat.reduceSub, Nat.reduceBEq, Nat.reduceLeDiff, Nat.reduceLT, fn_product_Check, e51_1, w51_1, e51_3, w51_3, c51_4, e51_6, w51_6, e51_8, w51_8, c51_9, e51_11, w51_11, e51_13, w51_13, e51_15, w51_15, e51_17, w51_17, c51_18, e51_20, w51_20, e51_22, w51_22, c51_23, e51_25, w51_25, e51_27, w51_27, c51_28, e51_30, w51_30, e51_32, w51_32, c51_33, e51_35, w51_35, e51_37, w51_37, c51_38, c51_39, c51_40, c51_41, c51_42, e51_44, w51_44, c51_45, c51_46, c51_47, c51_48, c51_49, c51_50, e51_52, w51_52, c51_53, c51_54, c51_55, c51_56, c51_57, c51_58]
      exact fin 2 (bad (by simp [Product.right, k3])) (by decide)
    simp -implicitDefEqProofs (disch := omega) only [go_sem, Nat.reduceAdd, Nat.reduceMul, Nat.reduceSub, Nat.reduceBEq, Nat.reduceLeDiff, Nat.reduceLT, fn_product_Check, e51_1, w51_1, e51_3, w51_3, c51_4, e51_6, w51_6, e51_8, w51_8, c51_9, e51_11, w51_11, e51_13, w51_13, e51_15, w51_15, e51_17, w51_17, c51_18, e51_20, w51_20, e51_22, w51_22, c51_23, e51_25, w51_25, e51_27, w51_27, c51_28, e51_30, w51_30, e51_32, w51_32, c51_33, e51_35, w51_35, e51_37, w51_37, c51_38, c51_39, c51_40, c51_41, c51_42, e51_44, w51_44, c51_45, c51_46, c51_47, c51_48, c51_49, c51_50, e51_52, w51_52, c51_53, c51_54, c51_55, c51_56, c51_57, c51_58]
    first | refine callD (product_within_ok _ _ _) ?_ | refine callQD (product_within_ok _ _ _) ?_
    simp -implicitDefEqProofs (disch := omega) only [go_sem, Nat.reduceAdd, Nat.reduceMul, Nat.reduceSub, Nat.reduceBEq, Nat.reduceLeDiff, Nat.reduceLT, fn_product_Check, e51_1, w51_1, e51_3, w51_3, c51_4, e51_6, w51_6, e51_8, w51_8, c51_9, e51_11, w51_11, e51_13, w51_13, e51_15, w51_15, e51_17, w51_17, c51_18, e51_20, w51_20, e51_22, w51_22, c51_23, e51_25, w51_25, e51_27, w51_27, c51_28, e51_30, w51_30, e51_32, w51_32, c51_33, e51_35, w51_35, e51_37, w51_37, c51_38, c51_39, c51_40, c51_41, c51_42, e51_44, w51_44, c51_45, c51_46, c51_47, c51_48, c51_49, c51_50, e51_52, w51_52, c51_53, c51_54, c51_55, c51_56, c51_57, c51_58]
    refine ifB (fun k4 => ?_) (fun k4 => ?_)
    rotate_left
    · simp -implicitDefEqProofs (disch := omega) only [go_sem, Nat.reduceAdd, Nat.reduceMul, Nat.reduceSub, Nat.reduceBEq, Nat.reduceLeDiff, Nat.reduceLT, fn_product_Check, e51_1, w51_1, e51_3, w51_3, c51_4, e51_6, w51_6, e51_8, w51_8, c51_9, e51_11, w51_11, e51_13, w51_13, e51_15, w51_15, e51_17, w51_17, c51_18, e51_20, w51_20, e51_22, w51_22, c51_23, e51_25, w51_25, e51_27, w51_27, c51_28, e51_30, w51_30, e51_32, w51_32, c51_33, e51_35, w51_35, e51_37, w51_37, c51_38, c51_39, c51_40, c51_41, c51_42, e51_44, w51_44, c51_45, c51_46, c51_47, c51_48, c51_49, c51_50, e51_52, w51_52, c51_53, c51_54, c51_55, c51_56, c51_57, c51_58]
      exact fin 2 (bad (by simp [Product.right, k4])) (by decide)
    simp -implicitDefEqProofs (disch := omega) only [go_sem, Nat.reduceAdd, Nat.reduceMul, Nat.reduceSub, Nat.reduceBEq, Nat.reduceLeDiff, Nat.reduceLT, fn_product_Check, e51_1, w51_1, e51_3, w51_3, c51_4, e51_6, w51_6, e51_8, w51_8, c51_9, e51_11, w51_11, e51_13, w51_13, e51_15, w51_15, e51_17, w51_17, c51_18, e51_20, w51_20, e51_22, w51_22, c51_23, e51_25, w51_25, e51_27, w51_27, c51_28, e51_30, w51_30, e51_32, w51_32, c51_33, e51_35, w51_35, e51_37, w51_37, c51_38, c51_39, c51_40, c51_41, c51_42, e51_44, w51_44, c51_45, c51_46, c51_47, c51_48, c51_49, c51_50, e51_52, w51_52, c51_53, c51_54, c51_55, c51_56, c51_57, c51_58]
    first | refine callD (product_within_ok _ _ _) ?_ | refine callQD (product_within_ok _ _ _) ?_
    simp -implicitDefEqProofs (disch := omega) only [go_sem, Nat.reduceAdd, Nat.reduceMul, Nat.reduceSub, Nat.reduceBEq, Nat.reduceLeDiff, Nat.reduceLT, fn_product_Check, e51_1, w51_1, e51_3, w51_3, c51_4, e51_6, w51_6, e51_8, w51_8, c51_9, e51_11, w51_11, e51_13, w51_13, e51_15, w51_15, e51_17, w51_17, c51_18, e51_20, w51_20, e51_22, w51_22, c51_23, e51_25, w51_25, e51_27, w51_27, c51_28, e51_30, w51_30, e51_32, w51_32, c51_33, e51_35, w51_35, e51_37, w51_37, c51_38, c51_39, c51_40, c51_41, c51_42, e51_44, w51_44, c51_45, c51_46, c51_47, c51_48, c51_49, c51_50, e51_52, w51_52, c51_53, c51_54, c51_55, c51_56, c51_57, c51_58]
    refine ifB (fun k5 => ?_) (fun k5 => ?_)
    rotate_left
    · simp -implicitDefEqProofs (disch := omega) only [go_sem, Nat.reduceAdd, Nat.reduceMul, Nat.reduceSub, Nat.reduceBEq, Nat.reduceLeDiff, Nat.reduceLT, fn_product_Check, e51_1, w51_1, e51_3, w51_3, c51_4, e51_6, w51_6, e51_8, w51_8, c51_9, e51_11, w51_11, e51_13, w51_13, e51_15, w51_15, e51_17, w51_17, c51_18, e51_20, w51_20, e51_22, w51_22, c51_23, e51_25, w51_25, e51_27, w51_27, c51_28, e51_30, w51_30, e51_32, w51_32, c51_33, e51_35, w51_35, e51_37, w51_37, c51_38, c51_39, c51_40, c51_41, c51_42, e51_44, w51_44, c51_45, c51_46, c51_47, c51_48, c51_49, c51_50, e51_52, w51_52, c51_53, c51_54, c51_55, c51_56, c51_57, c51_58]
      exact fin 2 (bad (by simp [Product.right, k5])) (by decide)
    simp -implicitDefEqProofs (disch := omega) only [go_sem, Nat.reduceAdd, Nat.reduceMul, Nat.reduceSub, Nat.reduceBEq, Nat.reduceLeDiff, Nat.reduceLT, fn_product_Check, e51_1, w51_1, e51_3, w51_3, c51_4, e51_6, w51_6, e51_8, w51_8, c51_9, e51_11, w51_11, e51_13, w51_13, e51_15, w51_15, e51_17, w51_17, c51_18, e51_20, w51_20, e51_22, w51_22, c51_23, e51_25, w51_25, e51_27, w51_27, c51_28, e51_30, w51_30, e51_32, w51_32, c51_33, e51_35, w51_35, e51_37, w51_37, c51_38, c51_39, c51_40, c51_41, c51_42, e51_44, w51_44, c51_45, c51_46, c51_47, c51_48, c51_49, c51_50, e51_52, w51_52, c51_53, c51_54, c51_55, c51_56, c51_57, c51_58, updE_strs g2]
    refine next_pop hi rfl ⟨fun k hk => ?_, rfl, ?_⟩
    · rcases Nat.lt_or_ge k i with hlt | hge
      · exact hall k hlt
      · have : k = i := by omega
        subst this
        rw [herr, if_neg g1', if_neg g2, if_neg (by simp [Product.right, k1, k2, k3, k4, k5])]
    · have e : (f.products.take (i + 1)).map Product.id = (f.products.take i).map Product.id ++ [p.id] := by rw [List.take_add_one, hp, List.map_append] <;> rfl
      rw [e]; rfl
  · rintro vs M ⟨hall, rfl, rfl⟩
    simp -implicitDefEqProofs (disch := omega) only [go_sem, Nat.reduceAdd, Nat.reduceMul, Nat.reduceSub, Nat.reduceBEq, Nat.reduceLeDiff, Nat.reduceLT, fn_product_Check, e51_1, w51_1, e51_3, w51_3, c51_4, e51_6, w51_6, e51_8, w51_8, c51_9, e51_11, w51_11, e51_13, w51_13, e51_15, w51_15, e51_17, w51_17, c51_18, e51_20, w51_20, e51_22, w51_22, c51_23, e51_25, w51_25, e51_27, w51_27, c51_28, e51_30, w51_30, e51_32, w51_32, c51_33, e51_35, w51_35, e51_37, w51_37, c51_38, c51_39, c51_40, c51_41, c51_42, e51_44, w51_44, c51_45, c51_46, c51_47, c51_48, c51_49, c51_50, e51_52, w51_52, c51_53, c51_54, c51_55, c51_56, c51_57, c51_58, dec_irrefl, firstErr_none hall, pairV]

theorem transitref21_Check_ok (f : Fares) (hf : f.wf) : PCalls PR i_transitref21_Check [.agg f.row] (fun v => v = pairV (checkRes f)) := by
  refine acalls_pop fn_transitref21_Check_ok (by simp [fn_transitref21_Check]) ?_
  simp -implicitDefEqProofs (disch := omega) only [go_sem, Nat.reduceAdd, Nat.reduceMul, Nat.reduceSub, Nat.reduceBEq, Nat.reduceLeDiff, Nat.reduceLT, fn_transitref21_Check, e33_1, w33_1, e33_3, w33_3, c33_4, e33_6, w33_6, e33_8, w33_8, e33_10, w33_10, c33_11, e33_13, w33_13, e33_15, w33_15, e33_17, w33_17, e33_19, w33_19, c33_20, e33_22, w33_22, e33_24, w33_24, e33_26, w33_26, e33_28, w33_28, c33_29, e33_31, w33_31, c33_32, e33_34, w33_34, c33_35, c33_36, c33_37, c33_38, c33_39, e33_41, w33_41, c33_42, e33_44, w33_44, c33_45, c33_46, c33_47, e33_49, w33_49, c33_50, c33_51, c33_52, c33_53, c33_54, e33_56, w33_56, c33_57, c33_58, c33_59, c33_60, c33_61, c33_62, Fares.row]
  first | refine callD (transitref21_within_ok _ _ _) ?_ | refine callQD (transitref21_within_ok _ _ _) ?_
  simp -implicitDefEqProofs (disch := omega) only [go_sem, Nat.reduceAdd, Nat.reduceMul, Nat.reduceSub, Nat.reduceBEq, Nat.reduceLeDiff, Nat.reduceLT, fn_transitref21_Check, e33_1, w33_1, e33_3, w33_3, c33_4, e33_6, w33_6, e33_8, w33_8, e33_10, w33_10, c33_11, e33_13, w33_13, e33_15, w33_15, e33_17, w33_17, e33_19, w33_19, c33_20, e33_22, w33_22, e33_24, w33_24, e33_26, w33_26, e33_28, w33_28, c33_29, e33_31, w33_31, c33_32, e33_34, w33_34, c33_35, c33_36, c33_37, c33_38, c33_39, e33_41, w33_41, c33_42, e33_44, w33_44, c33_45, c33_46, c33_47, e33_49, w33_49, c33_50, c33_51, c33_52, c33_53, c33_54, e33_56, w33_56, c33_57, c33_58, c33_59, c33_60, c33_61, c33_62]
  refine ifB (fun h1 => ?_) (fun h1 => ?_)
  rotate_left
  · simp -implicitDefEqProofs (disch := omega) only [go_sem, Nat.reduceAdd, Nat.reduceMul, Nat.reduceSub, Nat.reduceBEq, Nat.reduceLeDiff, Nat.reduceLT, fn_transitref21_Check, e33_1, w33_1, e33_3, w33_3, c33_4, e33_6, w33_6, e33_8, w33_8, e33_10, w33_10, c33_11, e33_13, w33_13, e33_15, w33_15, e33_17, w33_17, e33_19, w33_19, c33_20, e33_22, w33_22, e33_24, w33_24, e33_26, w33_26, e33_28, w33_28, c33_29, e33_31, w33_31, c33_32, e33_34, w33_34, c33_35, c33_36, c33_37, c33_38, c33_39, e33_41, w33_41, c33_42, e33_44, w33_44, c33_45, c33_46, c33_47, e33_49, w33_49, c33_50, c33_51, c33_52, c33_53, c33_54, e33_56, w33_56, c33_57, c33_58, c33_59, c33_60, c33_61, c33_62, pairV, checkRes, h1]
    rfl
  simp -implicitDefEqProofs (disch := omega) only [go_sem, Nat.reduceAdd, Nat.reduceMul, Nat.reduceSub, Nat.reduceBEq, Nat.reduceLeDiff, Nat.reduceLT, fn_transitref21_Check, e33_1, w33_1, e33_3, w33_3, c33_4, e33_6, w33_6, e33_8, w33_8, e33_10, w33_10, c33_11, e33_13, w33_13, e33_15, w33_15, e33_17, w33_17, e33_19, w33_19, c33_20, e33_22, w33_22, e33_24, w33_24, e33_26, w33_26, e33_28, w33_28, c33_29, e33_31, w33_31, c33_32, e33_34, w33_34, c33_35, c33_36, c33_37, c33_38, c33_39, e33_41, w33_41, c33_42, e33_44, w33_44, c33_45, c33_46, c33_47, e33_49, w33_49, c33_50, c33_51, c33_52, c33_53, c33_54, e33_56, w33_56, c33_57, c33_58, c33_59, c33_60, c33_61, c33_62]
  first | refine callD (transitref21_within_ok _ _ _) ?_ | refine callQD (transitref21_within_ok _ _ _) ?_
  simp -implicitDefEqProofs (disch := omega) only [go_sem, Nat.reduceAdd, Nat.reduceMul, Nat.reduceSub, Nat.reduceBEq, Nat.reduceLeDiff, Nat.reduceLT, fn_transitref21_Check, e33_1, w33_1, e33_3, w33_3, c33_4, e33_6, w33_6, e33_8, w33_8, e33_10, w33_10, c33_11, e33_13, w33_13, e33_15, w33_15, e33_17, w33_17, e33_19, w33_19, c33_20, e33_22, w33_22, e33_24, w33_24, e33_26, w33_26, e33_28, w33_28, c33_29, e33_31, w33_31, c33_32, e33_34, w33_34, c33_35, c33_36, c33_37, c33_38, c33_39, e33_41, w33_41, c33_42, e33_44, w33_44, c33_45, c33_46, c33_47, e33_49, w33_49, c33_50, c33_51, c33_52, c33_53, c33_54, e33_56, w33_56, c33_57, c33_58, c33_59, c33_60, c33_61, c33_62]
  refine ifB (fun h2 => ?_) (fun h2 => ?_)
  rotate_left
  · simp -implicitDefEqProofs (disch := omega) only [go_sem, Nat.reduceAdd, Nat.reduceMul, Nat.reduceSub, Nat.reduceBEq, Nat.reduceLeDiff, Nat.reduceLT, fn_transitref21_Check, e33_1, w33_1, e33_3, w33_3, c33_4, e33_6, w33_6, e33_8, w33_8, e33_10, w33_10, c33_11, e33_13, w33_13, e33_15, w33_15, e33_17, w33_17, e33_19, w33_19, c33_20, e33_22, w33_22, e33_24, w33_24, e33_26, w33_26, e33_28, w33_28, c33_29, e33_31, w33_31, c33_32, e33_34, w33_34, c33_35, c33_36, c33_37, c33_38, c33_39, e33_41, w33_41, c33_42, e33_44, w33_44, c33_45, c33_46, c33_47, e33_49, w33_49, c33_50, c33_51, c33_52, c33_53, c33_54, e33_56, w33_56, c33_57, c33_58, c33_59, c33_60, c33_61, c33_62, pairV, checkRes, h1, h2]
    rfl
  simp -implicitDefEqProofs (disch := omega) only [go_sem, Nat.reduceAdd, Nat.reduceMul, Nat.reduceSub, Nat.reduceBEq, Nat.reduceLeDiff, Nat.reduceLT, fn_transitref21_Check, e33_1, w33_1, e33_3, w33_3, c33_4, e33_6, w33_6, e33_8, w33_8, e33_10, w33_10, c33_11, e33_13, w33_13, e33_15, w33_15, e33_17, w33_17, e33_19, w33_19, c33_20, e33_22, w33_22, e33_24, w33_24, e33_26, w33_26, e33_28, w33_28, c33_29, e33_31, w33_31, c33_32, e33_34, w33_34, c33_35, c33_36, c33_37, c33_38, c33_39, e33_41, w33_41, c33_42, e33_44, w33_44, c33_45, c33_46, c33_47, e33_49, w33_49, c33_50, c33_51, c33_52, c33_53, c33_54, e33_56, w33_56, c33_57, c33_58, c33_59, c33_60, c33_61, c33_62]
  first | refine callD (transitref21_within_ok _ _ _) ?_ | refine callQD (transitref21_within_ok _ _ _) ?_
  simp -implicitDefEqProofs (disch := omega) only [go_sem, Nat.reduceAdd, Nat.reduceMul, Nat.reduceSub, Nat.reduceBEq, Nat.reduceLeDiff, Nat.reduceLT, fn_transitref21_Check, e33_1, w33_1, e33_3, w33_3, c33_4, e33_6, w33_6, e33_8, w33_8, e33_10, w33_10, c33_11, e33_13, w33_13, e33_15, w33_15, e33_17, w33_17, e33_19, w33_19, c33_20, e33_22, w33_22, e33_24, w33_24, e33_26, w33_26, e33_28, w33_28, c33_29, e33_31, w33_31, c33_32, e33_34, w33_34, c33_35, c33_36, c33_37, c33_38, c33_39, e33_41, w33_41, c33_42, e33_44, w33_44, c33_45, c33_46, c33_47, e33_49, w33_49, c33_50, c33_51, c33_52, c33_53, c33_54, e33_56, w33_56, c33_57, c33_58, c33_59, c33_60, c33_61, c33_62]
  refine ifB (fun h3 => ?_) (fun h3 => ?_)
  rotate_left
  · simp -implicitDefEqProofs (disch := omega) only [go_sem, Nat.reduceAdd, Nat.reduceMul, Nat.reduceSub, Nat.reduceBEq, Nat.reduceLeDiff, Nat.reduceLT, fn_transitref21_Check, e33_1, w33_1, e33_3, w33_3, c33_4, e33_6, w33_6, e33_8, w33_8, e33_10, w33_10, c33_11, e33_13, w33_13, e33_15, w33_15, e33_17, w33_17, e33_19, w33_19, c33_20, e33_22, w33_22, e33_24, w33_24, e33_26, w33_26, e33_28, w33_28, c33_29, e33_31, w33_31, c33_32, e33_34, w33_34, c33_35, c33_36, c33_37, c33_38, c33_39, e33_41, w33_41, c33_42, e33_44, w33_44, c33_45, c33_46, c33_47, e33_49, w33_49, c33_50, c33_51, c33_52, c33_53, c33_54, e33_56, w33_56, c33_57, c33_58, c33_59, c33_60, c33_61, c33_62, pairV, checkRes, h1, h2, h3]
    rfl
  simp -implicitDefEqProofs (disch := omega) only [go_sem, Nat.reduceAdd, Nat.reduceMul, Nat.reduceSub, Nat.reduceBEq, Nat.reduceLeDiff, Nat.reduceLT, fn_transitref21_Check, e33_1, w33_1, e33_3, w33_3, c33_4, e33_6, w33_6, e33_8, w33_8, e33_10, w33_10, c33_11, e33_13, w33_13, e33_15, w33_15, e33_17, w33_17, e33_19, w33_19, c33_20, e33_22, w33_22, e33_24, w33_24, e33_26, w33_26, e33_28, w33_28, c33_29, e33_31, w33_31, c33_32, e33_34, w33_34, c33_35, c33_36, c33_37, c33_38, c33_39, e33_41, w33_41, c33_42, e33_44, w33_44, c33_45, c33_46, c33_47, e33_49, w33_49, c33_50, c33_51, c33_52, c33_53, c33_54, e33_56, w33_56, c33_57, c33_58, c33_59, c33_60, c33_61, c33_62]
  refine ifD (fun h4 => ?_) (fun h4 => ?_)
  · have : 16 < f.products.length := by omega
    simp -implicitDefEqProofs (disch := omega) only [go_sem, Nat.reduceAdd, Nat.reduceMul, Nat.reduceSub, Nat.reduceBEq, Nat.reduceLeDiff, Nat.reduceLT, fn_transitref21_Check, e33_1, w33_1, e33_3, w33_3, c33_4, e33_6, w33_6, e33_8, w33_8, e33_10, w33_10, c33_11, e33_13, w33_13, e33_15, w33_15, e33_17, w33_17, e33_19, w33_19, c33_20, e33_22, w33_22, e33_24, w33_24, e33_26, w33_26, e33_28, w33_28, c33_29, e33_31, w33_31, c33_32, e33_34, w33_34, c33_35, c33_36, c33_37, c33_38, c33_39, e33_41, w33_41, c33_42, e33_44, w33_44, c33_45, c33_46, c33_47, e33_49, w33_49, c33_50, c33_51, c33_52, c33_53, c33_54, e33_56, w33_56, c33_57, c33_58, c33_59, c33_60, c33_61, c33_62, pairV, checkRes, h1, h2, h3, this]
    rfl
  have h4' : ¬ 16 < f.products.length := by omega
  have hres : checkRes f = firstErr (prodErr f.products) f.products.length := by simp [checkRes, h1, h2, h3, h4']
  simp -implicitDefEqProofs (disch := omega) only [go_sem, Nat.reduceAdd, Nat.reduceMul, Nat.reduceSub, Nat.reduceBEq, Nat.reduceLeDiff, Nat.reduceLT, fn_transitref21_Check, e33_1, w33_1, e33_3, w33_3, c33_4, e33_6, w33_6, e33_8, w33_8, e33_10, w33_10, c33_11, e33_13, w33_13, e33_15, w33_15, e33_17, w33_17, e33_19, w33_19, c33_20, e33_22, w33_22, e33_24, w33_24, e33_26, w33_26, e33_28, w33_28, c33_29, e33_31, w33_31, c33_32, e33_34, w33_34, c33_35, c33_36, c33_37, c33_38, c33_39, e33_41, w33_41, c33_42, e33_44, w33_44, c33_45, c33_46, c33_47, e33_49, w33_49, c33_50, c33_51, c33_52, c33_53, c33_54, e33_56, w33_56, c33_57, c33_58, c33_59, c33_60, c33_61, c33_62, hres]
  refine wpC_forL f.products (fun i vs M => (∀ k, k < i → prodErr f.products k = 0) ∧ vs = [.slice (f.products.map Product.row) f.tag, .int .i64 i] ∧ M = [.box f.row]) ⟨fun k hk => absurd hk (Nat.not_lt_zero k), rfl, rfl⟩ ?_ ?_
  · rintro i p vs M hp hi hd ⟨hall, rfl, rfl⟩
    have fin : ∀ e, prodErr f.products i = e → e ≠ 0 → V.tuple [.int .i64 i, .int .i64 e] = pairV (firstErr (prodErr f.products) f.products.length) := fun e h1 h2 => by
      rw [firstErr_at hi hall (by rw [h1]; exact h2), h1]; rfl
    have herr : prodErr f.products i = if okName p.id = false then 12 else if p.id ∈ (f.products.take i).map Product.id then 6 else if p.right = false then 2 else 0 := by simp only [prodErr, hp]
    simp -implicitDefEqProofs (disch := omega) only [go_sem, Nat.reduceAdd, Nat.reduceMul, Nat.reduceSub, Nat.reduceBEq, Nat.reduceLeDiff, Nat.reduceLT, fn_transitref21_Check, e33_1, w33_1, e33_3, w33_3, c33_4, e33_6, w33_6, e33_8, w33_8, e33_10, w33_10, c33_11, e33_13, w33_13, e33_15, w33_15, e33_17, w33_17, e33_19, w33_19, c33_20, e33_22, w33_22, e33_24, w33_24, e33_26, w33_26, e33_28, w33_28, c33_29, e33_31, w33_31, c33_32, e33_34, w33_34, c33_35, c33_36, c33_37, c33_38, c33_39, e33_41, w33_41, c33_42, e33_44, w33_44, c33_45, c33_46, c33_47, e33_49, w33_49, c33_50, c33_51, c33_52, c33_53, c33_54, e33_56, w33_56, c33_57, c33_58, c33_59, c33_60, c33_61, c33_62, hd, hp, Product.row]
    first | refine callD (transitref15_Name_ok _ (hf.1 p (List.mem_of_getElem? hp)).1) ?_ | refine callQD (transitref15_Name_ok _ (hf.1 p (List.mem_of_getElem? hp)).1) ?_
    simp -implicitDefEqProofs (disch := omega) only [go_sem, Nat.reduceAdd, Nat.reduceMul, Nat.reduceSub, Nat.reduceBEq, Nat.reduceLeDiff, Nat.reduceLT, fn_transitref21_Check, e33_1, w33_1, e33_3, w33_3, c33_4, e33_6, w33_6, e33_8, w33_8, e33_10, w33_10, c33_11, e33_13, w33_13, e33_15, w33_15, e33_17, w33_17, e33_19, w33_19, c33_20, e33_22, w33_22, e33_24, w33_24, e33_26, w33_26, e33_28, w33_28, c33_29, e33_31, w33_31, c33_32, e33_34, w33_34, c33_35, c33_36, c33_37, c33_38, c33_39, e33_41, w33_41, c33_42, e33_44, w33_44, c33_45, c33_46, c33_47, e33_49, w33_49, c33_50, c33_51, c33_52, c33_53, c33_54, e33_56, w33_56, c33_57, c33_58, c33_59, c33_60, c33_61, c33_62]
    refine ifB (fun g1 => ?_) (fun g1 => ?_)
    rotate_left
    · simp -implicitDefEqProofs (disch := omega) only [go_sem, Nat.reduceAdd, Nat.reduceMul, Nat.reduceSub, Nat.reduceBEq, Nat.reduceLeDiff, Nat.reduceLT, fn_transitref21_Check, e33_1, w33_1, e33_3, w33_3, c33_4, e33_6, w33_6, e33_8, w33_8, e33_10, w33_10, c33_11, e33_13, w33_13, e33_15, w33_15, e33_17, w33_17, e33_19, w33_19, c33_20, e33_22, w33_22, e33_24, w33_24, e33_26, w33_26, e33_28, w33_28, c33_29, e33_31, w33_31, c33_32, e33_34, w33_34, c33_35, c33_36, c33_37, c33_38, c33_39, e33_41, w33_41, c33_42, e33_44, w33_44, c33_45, c33_46, c33_47, e33_49, w33_49, c33_50, c33_51, c33_52, c33_53, c33_54, e33_56, w33_56, c33_57, c33_58, c33_59, c33_60, c33_61, c33_62]
      exact fin 12 (by rw [herr, if_pos g1]) (by decide)
    have g1' : ¬ okName p.id = false := by simp [g1]
    simp -implicitDefEqProofs (disch := omega) only [go_sem, Nat.reduceAdd, Nat.reduceMul, Nat.reduceSub, Nat.reduceBEq, Nat.reduceLeDiff, Nat.reduceLT, fn_transitref21_Check, e33_1, w33_1, e33_3, w33_3, c33_4, e33_6, w33_6, e33_8, w33_8, e33_10, w33_10, c33_11, e33_13, w33_13, e33_15, w33_15, e33_17, w33_17, e33_19, w33_19, c33_20, e33_22, w33_22, e33_24, w33_24, e33_26, w33_26, e33_28, w33_28, c33_29, e33_31, w33_31, c33_32, e33_34, w33_34, c33_35, c33_36, c33_37, c33_38, c33_39, e33_41, w33_41, c33_42, e33_44, w33_44, c33_45, c33_46, c33_47, e33_49, w33_49, c33_50, c33_51, c33_52, c33_53, c33_54, e33_56, w33_56, c33_57, c33_58, c33_59, c33_60, c33_61, c33_62]
    refine wpC_for i (fun k vs M => p.id ∉ (f.products.take k).map Product.id ∧ vs = [.slice (f.products.map Product.row) f.tag, .int .i64 i, .int .i64 k] ∧ M = [.box f.row]) ⟨by simp, rfl, rfl⟩ ?_ ?_
    · rintro k vs M hk hdk ⟨hno, rfl, rfl⟩
      obtain ⟨q, hq⟩ : ∃ q, f.products[k]? = some q := ⟨f.products[k], by simp⟩
      simp -implicitDefEqProofs (disch := omega) only [go_sem, Nat.reduceAdd, Nat.reduceMul, Nat.reduceSub, Nat.reduceBEq, Nat.reduceLeDiff, Nat.reduceLT, fn_transitref21_Check, e33_1, w33_1, e33_3, w33_3, c33_4, e33_6, w33_6, e33_8, w33_8, e33_10, w33_10, c33_11, e33_13, w33_13, e33_15, w33_15, e33_17, w33_17, e33_19, w33_19, c33_20, e33_22, w33_22, e33_24, w33_24, e33_26, w33_26, e33_28, w33_28, c33_29, e33_31, w33_31, c33_32, e33_34, w33_34, c33_35, c33_36, c33_37, c33_38, c33_39, e33_41, w33_41, c33_42, e33_44, w33_44, c33_45, c33_46, c33_47, e33_49, w33_49, c33_50, c33_51, c33_52, c33_53, c33_54, e33_56, w33_56, c33_57, c33_58, c33_59, c33_60, c33_61, c33_62, hdk, hp, hq, Product.row]
      refine ifD (fun g2 => ?_) (fun g2 => ?_)
      · simp -implicitDefEqProofs (disch := omega) only [go_sem, Nat.reduceAdd, Nat.reduceMul, Nat.reduceSub, Nat.reduceBEq, Nat.reduceLeDiff, Nat.reduceLT, fn_transitref21_Check, e33_1, w33_1, e33_3, w33_3, c33_4, e33_6, w33_6, e33_8, w33_8, e33_10, w33_10, c33_11, e33_13, w33_13, e33_15, w33_15, e33_17, w33_17, e33_19, w33_19, c33_20, e33_22, w33_22, e33_24, w33_24, e33_26, w33_26, e33_28, w33_28, c33_29, e33_31, w33_31, c33_32, e33_34, w33_34, c33_35, c33_36, c33_37, c33_38, c33_39, e33_41, w33_41, c33_42, e33_44, w33_44, c33_45, c33_46, c33_47, e33_49, w33_49, c33_50, c33_51, c33_52, c33_53, c33_54, e33_56, w33_56, c33_57, c33_58, c33_59, c33_60, c33_61, c33_62]
        refine fin 6 ?_ (by decide)
        rw [herr, if_neg g1', if_pos]
        rw [List.mem_map]
        exact ⟨q, List.mem_of_getElem? (i := k) (by rw [List.getElem?_take_of_lt hk]; exact hq), g2⟩
      · simp -implicitDefEqProofs (disch := omega) only [go_sem, Nat.reduceAdd, Nat.reduceMul, Nat.reduceSub, Nat.reduceBEq, Nat.reduceLeDiff, Nat.reduceLT, fn_transitref21_Check, e33_1, w33_1, e33_3, w33_3, c33_4, e33_6, w33_6, e33_8, w33_8, e33_10, w33_10, c33_11, e33_13, w33_13, e33_15, w33_15, e33_17, w33_17, e33_19, w33_19, c33_20, e33_22, w33_22, e33_24, w33_24, e33_26, w33_26, e33_28, w33_28, c33_29, e33_31, w33_31, c33_32, e33_34, w33_34, c33_35, c33_36, c33_37, c33_38, c33_39, e33_41, w33_41, c33_42, e33_44, w33_44, c33_45, c33_46, c33_47, e33_49, w33_49, c33_50, c33_51, c33_52, c33_53, c33_54, e33_56, w33_56, c33_57, c33_58, c33_59, c33_60, c33_61, c33_62]
        refine next_stay hk ⟨?_, rfl, rfl⟩
        rw [List.take_add_one, hq, List.map_append]
        simp only [List.mem_append, not_or]
        exact ⟨hno, by simpa using fun e => g2 e.symm⟩
    · rintro vs M ⟨g2, rfl, rfl⟩
      simp -implicitDefEqProofs (disch := omega) only [go_sem, Nat.reduceAdd, Nat.reduceMul, Nat.reduceSub, Nat.reduceBEq, Nat.reduceLeDiff, Nat.reduceLT, fn_transitref21_Check, e33_1, w33_1, e33_3, w33_3, c33_4, e33_6, w33_6, e33_8, w33_8, e33_10, w33_10, c33_11, e33_13, w33_13, e33_15, w33_15, e33_17, w33_17, e33_19, w33_19, c33_20, e33_22, w33_22, e33_24, w33_24, e33_26, w33_26, e33_28, w33_28, c33_29, e33_31, w33_31, c33_32, e33_34, w33_34, c33_35, c33_36, c33_37, c33_38, c33_39, e33_41, w33_41, c33_42, e33_44, w33_44, c33_45, c33_46, c33_47, e33_49, w33_49, c33_50, c33_51, c33_52, c33_53, c33_54, e33_56, w33_56, c33_57, c33_58, c33_59, c33_60, c33_61, c33_62, dec_irrefl, hp]
      first | refine callD (transitref21_Right_ok p) ?_ | refine callQD (transitref21_Right_ok p) ?_
      simp -implicitDefEqProofs (disch := omega) only [go_sem, Nat.reduceAdd, Nat.reduceMul, Nat.reduceSub, Nat.reduceBEq, Nat.reduceLeDiff, Nat.reduceLT, fn_transitref21_Check, e33_1, w33_1, e33_3, w33_3, c33_4, e33_6, w33_6, e33_8, w33_8, e33_10, w33_10, c33_11, e33_13, w33_13, e33_15, w33_15, e33_17, w33_17, e33_19, w33_19, c33_20, e33_22, w33_22, e33_24, w33_24, e33_26, w33_26, e33_28, w33_28, c33_29, e33_31, w33_31, c33_32, e33_34, w33_34, c33_35, c33_36, c33_37, c33_38, c33_39, e33_41, w33_41, c33_42, e33_44, w33_44, c33_45, c33_46, c33_47, e33_49, w33_49, c33_50, c33_51, c33_52, c33_53, c33_54, e33_56, w33_56, c33_57, c33_58, c33_59, c33_60, c33_61, c33_62]
      refine ifB (fun g3 => ?_) (fun g3 => ?_)
      rotate_left
      · simp -implicitDefEqProofs (disch := omega) only [go_sem, Nat.reduceAdd, Nat.reduceMul, Nat.reduceSub, Nat.reduceBEq, Nat.reduceLeDiff, Nat.reduceLT, fn_transitref21_Check, e33_1, w33_1, e33_3, w33_3, c33_4, e33_6, w33_6, e33_8, w33_8, e33_10, w33_10, c33_11, e33_13, w33_13, e33_15, w33_15, e33_17, w33_17, e33_19, w33_19, c33_20, e33_22, w33_22, e33_24, w33_24, e33_26, w33_26, e33_28, w33_28, c33_29, e33_31, w33_31, c33_32, e33_34, w33_34, c33_35, c33_36, c33_37, c33_38, c33_39, e33_41, w33_41, c33_42, e33_44, w33_44, c33_45, c33_46, c33_47, e33_49, w33_49, c33_50, c33_51, c33_52, c33_53, c33_54, e33_56, w33_56, c33_57, c33_58, c33_59, c33_60, c33_61, c33_62]
        exact fin 2 (by rw [herr, if_neg g1', if_neg g2, if_pos g3]) (by decide)
      simp -implicitDefEqProofs (disch := omega) only [go_sem, Nat.reduceAdd, Nat.reduceMul, Nat.reduceSub, Nat.reduceBEq, Nat.reduceLeDiff, Nat.reduceLT, fn_transitref21_Check, e33_1, w33_1, e33_3, w33_3, c33_4, e33_6, w33_6, e33_8, w33_8, e33_10, w33_10, c33_11, e33_13, w33_13, e33_15, w33_15, e33_17, w33_17, e33_19, w33_19, c33_20, e33_22, w33_22, e33_24, w33_24, e33_26, w33_26, e33_28, w33_28, c33_29, e33_31, w33_31, c33_32, e33_34, w33_34, c33_35, c33_36, c33_37, c33_38, c33_39, e33_41, w33_41, c33_42, e33_44, w33_44, c33_45, c33_46, c33_47, e33_49, w33_49, c33_50, c33_51, c33_52, c33_53, c33_54, e33_56, w33_56, c33_57, c33_58, c33_59, c33_60, c33_61, c33_62]
      refine next_stay hi ⟨fun k hk => ?_, rfl, rfl⟩
      rcases Nat.lt_or_ge k i with hlt | hge
      · exact hall k hlt
      · have : k = i := by omega
        subst this
        rw [herr, if_neg g1', if_neg g2, if_neg (by simp [g3])]
  · rintro vs M ⟨hall, rfl, rfl⟩
    simp -implicitDefEqProofs (disch := omega) only [go_sem, Nat.reduceAdd, Nat.reduceMul, Nat.reduceSub, Nat.reduceBEq, Nat.reduceLeDiff, Nat.reduceLT, fn_transitref21_Check, e33_1, w33_1, e33_3, w33_3, c33_4, e33_6, w33_6, e33_8, w33_8, e33_10, w33_10, c33_11, e33_13, w33_13, e33_15, w33_15, e33_17, w33_17, e33_19, w33_19, c33_20, e33_22, w33_22, e33_24, w33_24, e33_26, w33_26, e33_28, w33_28, c33_29, e33_31, w33_31, c33_32, e33_34, w33_34, c33_35, c33_36, c33_37, c33_38, c33_39, e33_41, w33_41, c33_42, e33_44, w33_44, c33_45, c33_46, c33_47, e33_49, w33_49, c33_50, c33_51, c33_52, c33_53, c33_54, e33_56, w33_56, c33_57, c33_58, c33_59, c33_60, c33_61, c33_62, dec_irrefl, firstErr_none hall, pairV]

theorem firstErr_zero {e : Nat → Int} {n : Nat} (h : (firstErr e n).2 = 0) : ∀ k, k < n → e k = 0 := by
  intro k hk
  unfold firstErr at h
  cases hf : (List.range n).find? (fun k => decide (e k ≠ 0)) with
  | none =>
    rw [List.find?_eq_none] at hf
    have := hf k (List.mem_range.2 hk)
    simpa using this
  | some j =>
    rw [hf] at h
    have := List.find?_some hf
    simp only [ne_eq, decide_not, Bool.not_eq_true', decide_eq_false_iff_not] at this
    exact absurd h this

theorem within_iff {n a b : Int} : within n a b = true ↔ a ≤ n ∧ n ≤ b := by simp [within]

structure Fares.Ok (f : Fares) : Prop where
  discount : 0 ≤ f.discount ∧ f.discount ≤ 1000000
  within : 0 ≤ f.within ∧ f.within ≤ 86400
  limit : 0 ≤ f.limit ∧ f.limit ≤ 1000000
  len : f.products.length ≤ 16
  prods : ∀ p ∈ f.products, (0 ≤ p.price ∧ p.price ≤ 1000000) ∧ (1 ≤ p.rides ∧ p.rides ≤ 8) ∧ (1 ≤ p.zones ∧ p.zones ≤ 16) ∧ (0 ≤ p.seconds ∧ p.seconds ≤ 86400) ∧ (1 ≤ p.modes ∧ p.modes ≤ 255)

theorem checkRes_ok {f : Fares} (h : (checkRes f).2 = 0) : f.Ok := by
  unfold checkRes at h
  split at h
  · rename_i hw
    split at h
    · simp at h
    · rename_i hl
      have hz := firstErr_zero h
      refine ⟨within_iff.1 hw.1, within_iff.1 hw.2.1, within_iff.1 hw.2.2, by omega, fun p hp => ?_⟩
      obtain ⟨i, hi⟩ := List.getElem?_of_mem hp
      have := hz i (List.getElem?_eq_some_iff.1 hi).1
      simp only [prodErr, hi] at this
      split at this
      · simp at this
      · split at this
        · simp at this
        · split at this
          · simp at this
          · rename_i hr
            simp only [Bool.not_eq_false, Product.right, Bool.and_eq_true, within_iff] at hr
            exact hr
  · simp at h

def prV (p : Int × Bool) : V := .tuple [.int .i64 p.1, .bool p.2]

/-! ### Cheapest -/
/-! ### Lists of integers -/
end Go.Vm.C

