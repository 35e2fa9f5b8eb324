/- Contracts: products that cover rides. -/
import Derived.Test.YtcgejpmgaaghkaaT2

namespace Go.Vm.C
open Go.Vm
set_option maxHeartbeats 1000000
set_option maxRecDepth 10000
set_option linter.unusedSimpArgs false
set_option linter.unusedVariables false

/-! ### Times -/
theorem u64_wrap (n : Int) : IntKind.u64.wrap n = n % 18446744073709551616 := by
  have e : (2 : Int) ^ IntKind.u64.bits = 18446744073709551616 := by decide
  unfold IntKind.wrap
  simp only [e, show IntKind.u64.signed = false from rfl, Bool.false_and]
  simp

theorem i64_wrap (n : Int) : IntKind.i64.wrap n = if n % 18446744073709551616 ≥ 9223372036854775808 then n % 18446744073709551616 - 18446744073709551616 else n % 18446744073709551616 := by
  have e : (2 : Int) ^ IntKind.i64.bits = 18446744073709551616 := by decide
  have e' : (2 : Int) ^ (IntKind.i64.bits - 1) = 9223372036854775808 := by decide
  unfold IntKind.wrap
  simp only [e, e', show IntKind.i64.signed = true from rfl, Bool.true_and, decide_eq_true_eq]

theorem product_later_ok (a b d : Int) (ha : I64 a) (hb : I64 b) (hd : I64 d) : PCalls PR i_product_later [.int .i64 a, .int .i64 b, .int .i64 d] (fun v => v = .bool (decide (d < b - a))) := by
  obtain ⟨a1, a2⟩ := ha
  obtain ⟨b1, b2⟩ := hb
  obtain ⟨d1, d2⟩ := hd
  refine acalls_pop fn_product_later_ok (by simp [fn_product_later]) ?_
  simp -implicitDefEqProofs (disch := omega) only [go_sem, Nat.reduceAdd, Nat.reduceMul, Nat.reduceSub, Nat.reduceBEq, Nat.reduceLeDiff, Nat.reduceLT, fn_product_later, e27_1, w27_1, e27_3, w27_3, c27_4, e27_6, w27_6, e27_8, w27_8, c27_9, c27_10, c27_11, open_if]
  repeat' (refine BIf_dec (fun h => ?_) (fun h => ?_))
  all_goals
    rw [Bool.eq_iff_iff]
    simp only [decide_eq_true_eq, u64_wrap, i64_wrap, true_iff, false_iff, Bool.false_eq_true]
    omega

theorem transitref21_soon_ok (a b d : Int) (ha : I64 a) (hb : I64 b) (hd : I64 d) : PCalls PR i_transitref21_soon [.int .i64 a, .int .i64 b, .int .i64 d] (fun v => v = .bool (decide (b - a ≤ d))) := by
  obtain ⟨a1, a2⟩ := ha
  obtain ⟨b1, b2⟩ := hb
  obtain ⟨d1, d2⟩ := hd
  refine acalls_pop fn_transitref21_soon_ok (by simp [fn_transitref21_soon]) ?_
  simp -implicitDefEqProofs (disch := omega) only [go_sem, Nat.reduceAdd, Nat.reduceMul, Nat.reduceSub, Nat.reduceBEq, Nat.reduceLeDiff, Nat.reduceLT, fn_transitref21_soon, e35_1, w35_1, e35_3, w35_3, c35_4, e35_6, w35_6, e35_8, w35_8, c35_9, c35_10, c35_11, open_if]
  repeat' (refine BIf_dec (fun h => ?_) (fun h => ?_))
  all_goals
    rw [Bool.eq_iff_iff]
    simp only [decide_eq_true_eq, u64_wrap, i64_wrap, true_iff, false_iff, Bool.false_eq_true]
    omega

/-! ### Products and rides -/
structure Product where
  id : List UInt8
  price : Int
  rides : Int
  zones : Int
  seconds : Int
  modes : Int

def Product.row (p : Product) : List V := [.str p.id, .int .i64 p.price, .int .i64 p.rides, .int .i64 p.zones, .int .i64 p.seconds, .int .i64 p.modes]
def Product.wf (p : Product) : Prop := p.id.length ≤ maxLen ∧ I64 p.price ∧ I64 p.rides ∧ I64 p.zones ∧ I64 p.seconds ∧ I64 p.modes
def Product.right (p : Product) : Bool := within p.price 0 1000000 && (within p.rides 1 8 && (within p.zones 1 16 && (within p.seconds 0 86400 && within p.modes 1 255)))

structure Ride where
  depart : Int
  arrive : Int
  zones : Int
  modes : Int

def Ride.row (r : Ride) : List V := [.int .i64 r.depart, .int .i64 r.arrive, .int .i64 r.zones, .int .i64 r.modes]
def Ride.wf (r : Ride) : Prop := I64 r.depart ∧ I64 r.arrive ∧ I64 r.zones ∧ I64 r.modes

theorem transitref21_Right_ok (p : Product) : PCalls PR i_transitref21_Right [.agg p.row] (fun v => v = .bool p.right) := by
  refine acalls_pop fn_transitref21_Right_ok (by simp [fn_transitref21_Right]) ?_
  simp -implicitDefEqProofs (disch := omega) only [go_sem, Nat.reduceAdd, Nat.reduceMul, Nat.reduceSub, Nat.reduceBEq, Nat.reduceLeDiff, Nat.reduceLT, fn_transitref21_Right, e22_1, w22_1, e22_3, w22_3, c22_4, c22_5, Product.row]
  first | refine callD (transitref21_within_ok _ _ _) ?_ | refine callQD (transitref21_within_ok _ _ _) ?_
  simp -implicitDefEqProofs (disch := omega) only [go_sem, Nat.reduceAdd, Nat.reduceMul, Nat.reduceSub, Nat.reduceBEq, Nat.reduceLeDiff, Nat.reduceLT, fn_transitref21_Right, e22_1, w22_1, e22_3, w22_3, c22_4, c22_5]
  refine ifB (fun h1 => ?_) (fun h1 => ?_)
  · simp -implicitDefEqProofs (disch := omega) only [go_sem, Nat.reduceAdd, Nat.reduceMul, Nat.reduceSub, Nat.reduceBEq, Nat.reduceLeDiff, Nat.reduceLT, fn_transitref21_Right, e22_1, w22_1, e22_3, w22_3, c22_4, c22_5]
    first | refine callD (transitref21_within_ok _ _ _) ?_ | refine callQD (transitref21_within_ok _ _ _) ?_
    simp -implicitDefEqProofs (disch := omega) only [go_sem, Nat.reduceAdd, Nat.reduceMul, Nat.reduceSub, Nat.reduceBEq, Nat.reduceLeDiff, Nat.reduceLT, fn_transitref21_Right, e22_1, w22_1, e22_3, w22_3, c22_4, c22_5]
    refine ifB (fun h2 => ?_) (fun h2 => ?_)
    · simp -implicitDefEqProofs (disch := omega) only [go_sem, Nat.reduceAdd, Nat.reduceMul, Nat.reduceSub, Nat.reduceBEq, Nat.reduceLeDiff, Nat.reduceLT, fn_transitref21_Right, e22_1, w22_1, e22_3, w22_3, c22_4, c22_5]
      first | refine callD (transitref21_within_ok _ _ _) ?_ | refine callQD (transitref21_within_ok _ _ _) ?_
      simp -implicitDefEqProofs (disch := omega) only [go_sem, Nat.reduceAdd, Nat.reduceMul, Nat.reduceSub, Nat.reduceBEq, Nat.reduceLeDiff, Nat.reduceLT, fn_transitref21_Right, e22_1, w22_1, e22_3, w22_3, c22_4, c22_5]
      refine ifB (fun h3 => ?_) (fun h3 => ?_)
      · simp -implicitDefEqProofs (disch := omega) only [go_sem, Nat.reduceAdd, Nat.reduceMul, Nat.reduceSub, Nat.reduceBEq, Nat.reduceLeDiff, Nat.reduceLT, fn_transitref21_Right, e22_1, w22_1, e22_3, w22_3, c22_4, c22_5]
        first | refine callD (transitref21_within_ok _ _ _) ?_ | refine callQD (transitref21_within_ok _ _ _) ?_
        simp -implicitDefEqProofs (disch := omega) only [go_sem, Nat.reduceAdd, Nat.reduceMul, Nat.reduceSub, Nat.reduceBEq, Nat.reduceLeDiff, Nat.reduceLT, fn_transitref21_Right, e22_1, w22_1, e22_3, w22_3, c22_4, c22_5]
        refine ifB (fun h4 => ?_) (fun h4 => ?_)
        · simp -implicitDefEqProofs (disch := omega) only [go_sem, Nat.reduceAdd, Nat.reduceMul, Nat.reduceSub, Nat.reduceBEq, Nat.reduceLeDiff, Nat.reduceLT, fn_transitref21_Right, e22_1, w22_1, e22_3, w22_3, c22_4, c22_5]
          first | refine callD (transitref21_within_ok _ _ _) ?_ | refine callQD (transitref21_within_ok _ _ _) ?_
          simp -implicitDefEqProofs (disch := omega) only [go_sem, Nat.reduceAdd, Nat.reduceMul, Nat.reduceSub, Nat.reduceBEq, Nat.reduceLeDiff, Nat.reduceLT, fn_transitref21_Right, e22_1, w22_1, e22_3, w22_3, c22_4, c22_5, Product.right, h1, h2, h3, h4]
        · simp -implicitDefEqProofs (disch := omega) only [go_sem, Nat.reduceAdd, Nat.reduceMul, Nat.reduceSub, Nat.reduceBEq, Nat.reduceLeDiff, Nat.reduceLT, fn_transitref21_Right, e22_1, w22_1, e22_3, w22_3, c22_4, c22_5, Product.right, h1, h2, h3, h4]
      · simp -implicitDefEqProofs (disch := omega) only [go_sem, Nat.reduceAdd, Nat.reduceMul, Nat.reduceSub, Nat.reduceBEq, Nat.reduceLeDiff, Nat.reduceLT, fn_transitref21_Right, e22_1, w22_1, e22_3, w22_3, c22_4, c22_5, Product.right, h1, h2, h3]
    · simp -implicitDefEqProofs (disch := omega) only [go_sem, Nat.reduceAdd, Nat.reduceMul, Nat.reduceSub, Nat.reduceBEq, Nat.reduceLeDiff, Nat.reduceLT, fn_transitref21_Right, e22_1, w22_1, e22_3, w22_3, c22_4, c22_5, Product.right, h1, h2]
  · simp -implicitDefEqProofs (disch := omega) only [go_sem, Nat.reduceAdd, Nat.reduceMul, Nat.reduceSub, Nat.reduceBEq, Nat.reduceLeDiff, Nat.reduceLT, fn_transitref21_Right, e22_1, w22_1, e22_3, w22_3, c22_4, c22_5, Product.right, h1]

def zonesOf (l : List Ride) : Nat := l.foldl (fun a r => a ||| bset r.zones) 0
def modesOf (l : List Ride) : Nat := l.foldl (fun a r => a ||| bset r.modes) 0

theorem fold_lt (f : Ride → Int) : ∀ (l : List Ride) (a : Nat), a < 18446744073709551616 → l.foldl (fun a r => a ||| bset (f r)) a < 18446744073709551616
  | [], _, h => h
  | r :: l, a, h => fold_lt f l _ (or_lt _ _ h (bset_lt _))
theorem zonesOf_lt (l : List Ride) : zonesOf l < 18446744073709551616 := fold_lt (·.zones) l 0 (by omega)
theorem modesOf_lt (l : List Ride) : modesOf l < 18446744073709551616 := fold_lt (·.modes) l 0 (by omega)
theorem zonesOf_snoc (l : List Ride) (i : Nat) (r : Ride) (h : l[i]? = some r) : zonesOf (l.take (i + 1)) = zonesOf (l.take i) ||| bset r.zones := by
  rw [zonesOf, List.take_add_one, h, List.foldl_append]; rfl
theorem modesOf_snoc (l : List Ride) (i : Nat) (r : Ride) (h : l[i]? = some r) : modesOf (l.take (i + 1)) = modesOf (l.take i) ||| bset r.modes := by
  rw [modesOf, List.take_add_one, h, List.foldl_append]; rfl

/-- The time from the first to the last departure. -/
def spanOf (l : List Ride) : Int :=
  match l[0]?, l[l.length - 1]? with
  | some a, some b => b.depart - a.depart
  | _, _ => 0

def covers (p : Product) (l : List Ride) : Bool :=
  decide (0 < l.length) && (decide ((l.length : Int) ≤ p.rides) && (decide (spanOf l ≤ p.seconds) && (decide ((pop 64 (zonesOf l) : Int) ≤ p.zones) && decide (minus (modesOf l) (bset p.modes) = 0))))

theorem Covers_add (p : Product) (r r' : Ride) (z m : Nat) (hz : z < 18446744073709551616) (hm : m < 18446744073709551616) :
    ACalls PR i_product_Covers_1 [.agg r.row, .ptr 1 0, .ptr 2 0] [.box p.row, .box [.int .u64 z], .box [.int .u64 m], .box r'.row] (fun v M' => v = .tuple [] ∧ M' = [.box p.row, .box [.int .u64 (z ||| bset r.zones : Nat)], .box [.int .u64 (m ||| bset r.modes : Nat)], .box r'.row]) := by
  refine acalls_pop fn_product_Covers_1_ok (by simp [fn_product_Covers_1]) ?_
  simp -implicitDefEqProofs (disch := omega) only [go_sem, Nat.reduceAdd, Nat.reduceMul, Nat.reduceSub, Nat.reduceBEq, Nat.reduceLeDiff, Nat.reduceLT, fn_product_Covers_1, e28_1, w28_1, e28_3, w28_3, e28_5, w28_5, c28_6, c28_7, Ride.row, conv_bset]
  first | refine callD (Set_Union_ok _ _ hz (bset_lt _)) ?_ | refine callQD (Set_Union_ok _ _ hz (bset_lt _)) ?_
  simp -implicitDefEqProofs (disch := omega) only [go_sem, Nat.reduceAdd, Nat.reduceMul, Nat.reduceSub, Nat.reduceBEq, Nat.reduceLeDiff, Nat.reduceLT, fn_product_Covers_1, e28_1, w28_1, e28_3, w28_3, e28_5, w28_5, c28_6, c28_7, Ride.row, conv_bset]
  first | refine callD (Set_Union_ok _ _ hm (bset_lt _)) ?_ | refine callQD (Set_Union_ok _ _ hm (bset_lt _)) ?_
  simp -implicitDefEqProofs (disch := omega) only [go_sem, Nat.reduceAdd, Nat.reduceMul, Nat.reduceSub, Nat.reduceBEq, Nat.reduceLeDiff, Nat.reduceLT, fn_product_Covers_1, e28_1, w28_1, e28_3, w28_3, e28_5, w28_5, c28_6, c28_7, Ride.row, Product.row]

theorem first_last {α : Type} {l : List α} (h : 0 < l.length) : ∃ a b, l[0]? = some a ∧ l[l.length - 1]? = some b :=
  ⟨l[0], l[l.length - 1], by simp [h], by simp [h]⟩

theorem map_get {α β : Type} (f : α → β) (l : List α) (i : Nat) : (l.map f)[i]? = (l[i]?).map f := by simp

theorem product_Covers_ok (p : Product) (l : List Ride) (c : Cap) (hp : p.wf) (hl : ∀ r ∈ l, r.wf) (hlen : l.length ≤ maxLen) : PCalls PR i_product_Covers [.agg p.row, .slice (l.map Ride.row) c] (fun v => v = .bool (covers p l)) := by
  have hm : maxLen = 9223372036854775807 := by rfl
  obtain ⟨_, _, hpr, hpz, hps, hpm⟩ := hp
  refine acalls_pop fn_product_Covers_ok (by simp [fn_product_Covers]) ?_
  simp -implicitDefEqProofs (disch := omega) only [go_sem, Nat.reduceAdd, Nat.reduceMul, Nat.reduceSub, Nat.reduceBEq, Nat.reduceLeDiff, Nat.reduceLT, fn_product_Covers, e13_1, w13_1, e13_3, w13_3, e13_5, w13_5, c13_6, e13_8, w13_8, e13_10, w13_10, e13_12, w13_12, e13_14, w13_14, e13_16, w13_16, c13_17, e13_19, w13_19, e13_21, w13_21, c13_22, c13_23, e13_25, w13_25, c13_26, c13_27, c13_28, c13_29, c13_30, c13_31, e13_33, w13_33, c13_34, c13_35, c13_36, c13_37, c13_38, c13_39, c13_40, Product.row]
  refine ifD (fun h => ?_) (fun h => ?_)
  · have : covers p l = false := by
      have : ¬ 0 < l.length := by omega
      simp [covers, this]
    simp -implicitDefEqProofs (disch := omega) only [go_sem, Nat.reduceAdd, Nat.reduceMul, Nat.reduceSub, Nat.reduceBEq, Nat.reduceLeDiff, Nat.reduceLT, fn_product_Covers, e13_1, w13_1, e13_3, w13_3, e13_5, w13_5, c13_6, e13_8, w13_8, e13_10, w13_10, e13_12, w13_12, e13_14, w13_14, e13_16, w13_16, c13_17, e13_19, w13_19, e13_21, w13_21, c13_22, c13_23, e13_25, w13_25, c13_26, c13_27, c13_28, c13_29, c13_30, c13_31, e13_33, w13_33, c13_34, c13_35, c13_36, c13_37, c13_38, c13_39, c13_40, this]
  have h0 : 0 < l.length := by omega
  obtain ⟨a, b, ha, hb⟩ := first_last h0
  simp -implicitDefEqProofs (disch := omega) only [go_sem, Nat.reduceAdd, Nat.reduceMul, Nat.reduceSub, Nat.reduceBEq, Nat.reduceLeDiff, Nat.reduceLT, fn_product_Covers, e13_1, w13_1, e13_3, w13_3, e13_5, w13_5, c13_6, e13_8, w13_8, e13_10, w13_10, e13_12, w13_12, e13_14, w13_14, e13_16, w13_16, c13_17, e13_19, w13_19, e13_21, w13_21, c13_22, c13_23, e13_25, w13_25, c13_26, c13_27, c13_28, c13_29, c13_30, c13_31, e13_33, w13_33, c13_34, c13_35, c13_36, c13_37, c13_38, c13_39, c13_40]
  refine ifD (fun h1 => ?_) (fun h1 => ?_)
  · have : covers p l = false := by
      have : ¬ (l.length : Int) ≤ p.rides := by omega
      simp [covers, this]
    simp -implicitDefEqProofs (disch := omega) only [go_sem, Nat.reduceAdd, Nat.reduceMul, Nat.reduceSub, Nat.reduceBEq, Nat.reduceLeDiff, Nat.reduceLT, fn_product_Covers, e13_1, w13_1, e13_3, w13_3, e13_5, w13_5, c13_6, e13_8, w13_8, e13_10, w13_10, e13_12, w13_12, e13_14, w13_14, e13_16, w13_16, c13_17, e13_19, w13_19, e13_21, w13_21, c13_22, c13_23, e13_25, w13_25, c13_26, c13_27, c13_28, c13_29, c13_30, c13_31, e13_33, w13_33, c13_34, c13_35, c13_36, c13_37, c13_38, c13_39, c13_40, this]
  simp -implicitDefEqProofs (disch := omega) only [go_sem, Nat.reduceAdd, Nat.reduceMul, Nat.reduceSub, Nat.reduceBEq, Nat.reduceLeDiff, Nat.reduceLT, fn_product_Covers, e13_1, w13_1, e13_3, w13_3, e13_5, w13_5, c13_6, e13_8, w13_8, e13_10, w13_10, e13_12, w13_12, e13_14, w13_14, e13_16, w13_16, c13_17, e13_19, w13_19, e13_21, w13_21, c13_22, c13_23, e13_25, w13_25, c13_26, c13_27, c13_28, c13_29, c13_30, c13_31, e13_33, w13_33, c13_34, c13_35, c13_36, c13_37, c13_38, c13_39, c13_40, ha, hb, Ride.row, dec_le]
  first | refine callD (product_later_ok _ _ _ ?_ ?_ hps) ?_ | refine callQD (product_later_ok _ _ _ ?_ ?_ hps) ?_
  · exact (hl a (List.mem_of_getElem? ha)).1
  · exact (hl b (List.mem_of_getElem? hb)).1
  have hspan : spanOf l = b.depart - a.depart := by simp only [spanOf, ha, hb]
  simp -implicitDefEqProofs (disch := omega) only [go_sem, Nat.reduceAdd, Nat.reduceMul, Nat.reduceSub, Nat.reduceBEq, Nat.reduceLeDiff, Nat.reduceLT, fn_product_Covers, e13_1, w13_1, e13_3, w13_3, e13_5, w13_5, c13_6, e13_8, w13_8, e13_10, w13_10, e13_12, w13_12, e13_14, w13_14, e13_16, w13_16, c13_17, e13_19, w13_19, e13_21, w13_21, c13_22, c13_23, e13_25, w13_25, c13_26, c13_27, c13_28, c13_29, c13_30, c13_31, e13_33, w13_33, c13_34, c13_35, c13_36, c13_37, c13_38, c13_39, c13_40]
  refine ifD (fun h2 => ?_) (fun h2 => ?_)
  · have : covers p l = false := by
      have : ¬ spanOf l ≤ p.seconds := by omega
      simp [covers, this]
    simp -implicitDefEqProofs (disch := omega) only [go_sem, Nat.reduceAdd, Nat.reduceMul, Nat.reduceSub, Nat.reduceBEq, Nat.reduceLeDiff, Nat.reduceLT, fn_product_Covers, e13_1, w13_1, e13_3, w13_3, e13_5, w13_5, c13_6, e13_8, w13_8, e13_10, w13_10, e13_12, w13_12, e13_14, w13_14, e13_16, w13_16, c13_17, e13_19, w13_19, e13_21, w13_21, c13_22, c13_23, e13_25, w13_25, c13_26, c13_27, c13_28, c13_29, c13_30, c13_31, e13_33, w13_33, c13_34, c13_35, c13_36, c13_37, c13_38, c13_39, c13_40, this]
  simp -implicitDefEqProofs (disch := omega) only [go_sem, Nat.reduceAdd, Nat.reduceMul, Nat.reduceSub, Nat.reduceBEq, Nat.reduceLeDiff, Nat.reduceLT, fn_product_Covers, e13_1, w13_1, e13_3, w13_3, e13_5, w13_5, c13_6, e13_8, w13_8, e13_10, w13_10, e13_12, w13_12, e13_14, w13_14, e13_16, w13_16, c13_17, e13_19, w13_19, e13_21, w13_21, c13_22, c13_23, e13_25, w13_25, c13_26, c13_27, c13_28, c13_29, c13_30, c13_31, e13_33, w13_33, c13_34, c13_35, c13_36, c13_37, c13_38, c13_39, c13_40]
  refine wpC_forL l (fun i vs M => vs = [.ptr 0 0, .ptr 1 0, .ptr 2 0, .fn i_product_Covers_1 [.ptr 1 0, .ptr 2 0], .slice (l.map Ride.row) c, .int .i64 l.length, .int .i64 i] ∧
    M = [.box p.row, .box [.int .u64 (zonesOf (l.take i))], .box [.int .u64 (modesOf (l.take i))]]) ⟨rfl, rfl⟩ ?_ ?_
  · rintro i r vs M hr hi hd ⟨rfl, rfl⟩
    simp -implicitDefEqProofs (disch := omega) only [go_sem, Nat.reduceAdd, Nat.reduceMul, Nat.reduceSub, Nat.reduceBEq, Nat.reduceLeDiff, Nat.reduceLT, fn_product_Covers, e13_1, w13_1, e13_3, w13_3, e13_5, w13_5, c13_6, e13_8, w13_8, e13_10, w13_10, e13_12, w13_12, e13_14, w13_14, e13_16, w13_16, c13_17, e13_19, w13_19, e13_21, w13_21, c13_22, c13_23, e13_25, w13_25, c13_26, c13_27, c13_28, c13_29, c13_30, c13_31, e13_33, w13_33, c13_34, c13_35, c13_36, c13_37, c13_38, c13_39, c13_40, hd, hr, Ride.row]
    refine callA (Covers_add p r r _ _ (zonesOf_lt _) (modesOf_lt _)) ?_
    rintro v M' ⟨rfl, rfl⟩
    simp -implicitDefEqProofs (disch := omega) only [go_sem, Nat.reduceAdd, Nat.reduceMul, Nat.reduceSub, Nat.reduceBEq, Nat.reduceLeDiff, Nat.reduceLT, fn_product_Covers, e13_1, w13_1, e13_3, w13_3, e13_5, w13_5, c13_6, e13_8, w13_8, e13_10, w13_10, e13_12, w13_12, e13_14, w13_14, e13_16, w13_16, c13_17, e13_19, w13_19, e13_21, w13_21, c13_22, c13_23, e13_25, w13_25, c13_26, c13_27, c13_28, c13_29, c13_30, c13_31, e13_33, w13_33, c13_34, c13_35, c13_36, c13_37, c13_38, c13_39, c13_40]
    refine next_pop hi rfl ⟨rfl, ?_⟩
    rw [zonesOf_snoc l i r hr, modesOf_snoc l i r hr]
    rfl
  · rintro vs M ⟨rfl, rfl⟩
    simp -implicitDefEqProofs (disch := omega) only [go_sem, Nat.reduceAdd, Nat.reduceMul, Nat.reduceSub, Nat.reduceBEq, Nat.reduceLeDiff, Nat.reduceLT, fn_product_Covers, e13_1, w13_1, e13_3, w13_3, e13_5, w13_5, c13_6, e13_8, w13_8, e13_10, w13_10, e13_12, w13_12, e13_14, w13_14, e13_16, w13_16, c13_17, e13_19, w13_19, e13_21, w13_21, c13_22, c13_23, e13_25, w13_25, c13_26, c13_27, c13_28, c13_29, c13_30, c13_31, e13_33, w13_33, c13_34, c13_35, c13_36, c13_37, c13_38, c13_39, c13_40, dec_irrefl, List.take_length]
    first | refine callD (Set_Len_ok _ (zonesOf_lt l)) ?_ | refine callQD (Set_Len_ok _ (zonesOf_lt l)) ?_
    simp -implicitDefEqProofs (disch := omega) only [go_sem, Nat.reduceAdd, Nat.reduceMul, Nat.reduceSub, Nat.reduceBEq, Nat.reduceLeDiff, Nat.reduceLT, fn_product_Covers, e13_1, w13_1, e13_3, w13_3, e13_5, w13_5, c13_6, e13_8, w13_8, e13_10, w13_10, e13_12, w13_12, e13_14, w13_14, e13_16, w13_16, c13_17, e13_19, w13_19, e13_21, w13_21, c13_22, c13_23, e13_25, w13_25, c13_26, c13_27, c13_28, c13_29, c13_30, c13_31, e13_33, w13_33, c13_34, c13_35, c13_36, c13_37, c13_38, c13_39, c13_40, Product.row]
    refine ifD (fun h3 => ?_) (fun h3 => ?_)
    · simp -implicitDefEqProofs (disch := omega) only [go_sem, Nat.reduceAdd, Nat.reduceMul, Nat.reduceSub, Nat.reduceBEq, Nat.reduceLeDiff, Nat.reduceLT, fn_product_Covers, e13_1, w13_1, e13_3, w13_3, e13_5, w13_5, c13_6, e13_8, w13_8, e13_10, w13_10, e13_12, w13_12, e13_14, w13_14, e13_16, w13_16, c13_17, e13_19, w13_19, e13_21, w13_21, c13_22, c13_23, e13_25, w13_25, c13_26, c13_27, c13_28, c13_29, c13_30, c13_31, e13_33, w13_33, c13_34, c13_35, c13_36, c13_37, c13_38, c13_39, c13_40, Product.row, conv_bset]
      first | refine callD (Set_Within_ok _ _ (modesOf_lt l) (bset_lt _)) ?_ | refine callQD (Set_Within_ok _ _ (modesOf_lt l) (bset_lt _)) ?_
      simp -implicitDefEqProofs (disch := omega) only [go_sem, Nat.reduceAdd, Nat.reduceMul, Nat.reduceSub, Nat.reduceBEq, Nat.reduceLeDiff, Nat.reduceLT, fn_product_Covers, e13_1, w13_1, e13_3, w13_3, e13_5, w13_5, c13_6, e13_8, w13_8, e13_10, w13_10, e13_12, w13_12, e13_14, w13_14, e13_16, w13_16, c13_17, e13_19, w13_19, e13_21, w13_21, c13_22, c13_23, e13_25, w13_25, c13_26, c13_27, c13_28, c13_29, c13_30, c13_31, e13_33, w13_33, c13_34, c13_35, c13_36, c13_37, c13_38, c13_39, c13_40, Product.row, memUnder]
      have e1 : (l.length : Int) ≤ p.rides := by omega
      have e2 : spanOf l ≤ p.seconds := by omega
      simp [covers, h0, e1, e2, h3]
    · simp -implicitDefEqProofs (disch := omega) only [go_sem, Nat.reduceAdd, Nat.reduceMul, Nat.reduceSub, Nat.reduceBEq, Nat.reduceLeDiff, Nat.reduceLT, fn_product_Covers, e13_1, w13_1, e13_3, w13_3, e13_5, w13_5, c13_6, e13_8, w13_8, e13_10, w13_10, e13_12, w13_12, e13_14, w13_14, e13_16, w13_16, c13_17, e13_19, w13_19, e13_21, w13_21, c13_22, c13_23, e13_25, w13_25, c13_26, c13_27, c13_28, c13_29, c13_30, c13_31, e13_33, w13_33, c13_34, c13_35, c13_36, c13_37, c13_38, c13_39, c13_40, Product.row]
      simp [covers, h3]

theorem transitref21_Covers_ok (p : Product) (l : List Ride) (c : Cap) (hp : p.wf) (hl : ∀ r ∈ l, r.wf) (hlen : l.length ≤ maxLen) : PCalls PR i_transitref21_Covers [.agg p.row, .slice (l.map Ride.row) c] (fun v => v = .bool (covers p l)) := by
  have hm : maxLen = 9223372036854775807 := by rfl
  obtain ⟨_, _, hpr, hpz, hps, hpm⟩ := hp
  refine acalls_pop fn_transitref21_Covers_ok (by simp [fn_transitref21_Covers]) ?_
  simp -implicitDefEqProofs (disch := omega) only [go_sem, Nat.reduceAdd, Nat.reduceMul, Nat.reduceSub, Nat.reduceBEq, Nat.reduceLeDiff, Nat.reduceLT, fn_transitref21_Covers, e14_1, w14_1, e14_3, w14_3, c14_4, e14_6, w14_6, e14_8, w14_8, e14_10, w14_10, e14_12, w14_12, e14_14, w14_14, e14_16, w14_16, c14_17, c14_18, e14_20, w14_20, c14_21, c14_22, c14_23, c14_24, c14_25, e14_27, w14_27, c14_28, c14_29, c14_30, c14_31, c14_32, Product.row]
  refine ifD (fun h => ?_) (fun h => ?_)
  · have : covers p l = false := by
      have : ¬ 0 < l.length := by omega
      simp [covers, this]
    simp -implicitDefEqProofs (disch := omega) only [go_sem, Nat.reduceAdd, Nat.reduceMul, Nat.reduceSub, Nat.reduceBEq, Nat.reduceLeDiff, Nat.reduceLT, fn_transitref21_Covers, e14_1, w14_1, e14_3, w14_3, c14_4, e14_6, w14_6, e14_8, w14_8, e14_10, w14_10, e14_12, w14_12, e14_14, w14_14, e14_16, w14_16, c14_17, c14_18, e14_20, w14_20, c14_21, c14_22, c14_23, c14_24, c14_25, e14_27, w14_27, c14_28, c14_29, c14_30, c14_31, c14_32, this]
  have h0 : 0 < l.length := by omega
  obtain ⟨a, b, ha, hb⟩ := first_last h0
  simp -implicitDefEqProofs (disch := omega) only [go_sem, Nat.reduceAdd, Nat.reduceMul, Nat.reduceSub, Nat.reduceBEq, Nat.reduceLeDiff, Nat.reduceLT, fn_transitref21_Covers, e14_1, w14_1, e14_3, w14_3, c14_4, e14_6, w14_6, e14_8, w14_8, e14_10, w14_10, e14_12, w14_12, e14_14, w14_14, e14_16, w14_16, c14_17, c14_18, e14_20, w14_20, c14_21, c14_22, c14_23, c14_24, c14_25, e14_27, w14_27, c14_28, c14_29, c14_30, c14_31, c14_32]
  refine ifD (fun h1 => ?_) (fun h1 => ?_)
  · have : covers p l = false := by
      have : ¬ (l.length : Int) ≤ p.rides := by omega
      simp [covers, this]
    simp -implicitDefEqProofs (disch := omega) only [go_sem, Nat.reduceAdd, Nat.reduceMul, Nat.reduceSub, Nat.reduceBEq, Nat.reduceLeDiff, Nat.reduceLT, fn_transitref21_Covers, e14_1, w14_1, e14_3, w14_3, c14_4, e14_6, w14_6, e14_8, w14_8, e14_10, w14_10, e14_12, w14_12, e14_14, w14_14, e14_16, w14_16, c14_17, c14_18, e14_20, w14_20, c14_21, c14_22, c14_23, c14_24, c14_25, e14_27, w14_27, c14_28, c14_29, c14_30, c14_31, c14_32, this]
  simp -implicitDefEqProofs (disch := omega) only [go_sem, Nat.reduceAdd, Nat.reduceMul, Nat.reduceSub, Nat.reduceBEq, Nat.reduceLeDiff, Nat.reduceLT, fn_transitref21_Covers, e14_1, w14_1, e14_3, w14_3, c14_4, e14_6, w14_6, e14_8, w14_8, e14_10, w14_10, e14_12, w14_12, e14_14, w14_14, e14_16, w14_16, c14_17, c14_18, e14_20, w14_20, c14_21, c14_22, c14_23, c14_24, c14_25, e14_27, w14_27, c14_28, c14_29, c14_30, c14_31, c14_32]
  have hspan : spanOf l = b.depart - a.depart := by simp only [spanOf, ha, hb]
  have e1 : (l.length : Int) ≤ p.rides := by omega
  refine wpC_forL l (fun i vs M => vs = [.slice (l.map Ride.row) c, .ptr 0 0, .int .u64 (zonesOf (l.take i)), .int .u64 (modesOf (l.take i)), .int .i64 i] ∧ M = [.box p.row]) ⟨rfl, rfl⟩ ?_ ?_
  · rintro i r vs M hr hi hd ⟨rfl, rfl⟩
    simp -implicitDefEqProofs (disch := omega) only [go_sem, Nat.reduceAdd, Nat.reduceMul, Nat.reduceSub, Nat.reduceBEq, Nat.reduceLeDiff, Nat.reduceLT, fn_transitref21_Covers, e14_1, w14_1, e14_3, w14_3, c14_4, e14_6, w14_6, e14_8, w14_8, e14_10, w14_10, e14_12, w14_12, e14_14, w14_14, e14_16, w14_16, c14_17, c14_18, e14_20, w14_20, c14_21, c14_22, c14_23, c14_24, c14_25, e14_27, w14_27, c14_28, c14_29, c14_30, c14_31, c14_32, hd, hr, Ride.row, conv_bset]
    first | refine callD (transitref06_Union_ok _ _ (zonesOf_lt _) (bset_lt _)) ?_ | refine callQD (transitref06_Union_ok _ _ (zonesOf_lt _) (bset_lt _)) ?_
    simp -implicitDefEqProofs (disch := omega) only [go_sem, Nat.reduceAdd, Nat.reduceMul, Nat.reduceSub, Nat.reduceBEq, Nat.reduceLeDiff, Nat.reduceLT, fn_transitref21_Covers, e14_1, w14_1, e14_3, w14_3, c14_4, e14_6, w14_6, e14_8, w14_8, e14_10, w14_10, e14_12, w14_12, e14_14, w14_14, e14_16, w14_16, c14_17, c14_18, e14_20, w14_20, c14_21, c14_22, c14_23, c14_24, c14_25, e14_27, w14_27, c14_28, c14_29, c14_30, c14_31, c14_32, hd, hr, Ride.row, conv_bset]
    first | refine callD (transitref06_Union_ok _ _ (modesOf_lt _) (bset_lt _)) ?_ | refine callQD (transitref06_Union_ok _ _ (modesOf_lt _) (bset_lt _)) ?_
    simp -implicitDefEqProofs (disch := omega) only [go_sem, Nat.reduceAdd, Nat.reduceMul, Nat.reduceSub, Nat.reduceBEq, Nat.reduceLeDiff, Nat.reduceLT, fn_transitref21_Covers, e14_1, w14_1, e14_3, w14_3, c14_4, e14_6, w14_6, e14_8, w14_8, e14_10, w14_10, e14_12, w14_12, e14_14, w14_14, e14_16, w14_16, c14_17, c14_18, e14_20, w14_20, c14_21, c14_22, c14_23, c14_24, c14_25, e14_27, w14_27, c14_28, c14_29, c14_30, c14_31, c14_32]
    refine next_stay hi ⟨?_, rfl⟩
    rw [zonesOf_snoc l i r hr, modesOf_snoc l i r hr]
    rfl
  · rintro vs M ⟨rfl, rfl⟩
    simp -implicitDefEqProofs (disch := omega) only [go_sem, Nat.reduceAdd, Nat.reduceMul, Nat.reduceSub, Nat.reduceBEq, Nat.reduceLeDiff, Nat.reduceLT, fn_transitref21_Covers, e14_1, w14_1, e14_3, w14_3, c14_4, e14_6, w14_6, e14_8, w14_8, e14_10, w14_10, e14_12, w14_12, e14_14, w14_14, e14_16, w14_16, c14_17, c14_18, e14_20, w14_20, c14_21, c14_22, c14_23, c14_24, c14_25, e14_27, w14_27, c14_28, c14_29, c14_30, c14_31, c14_32, dec_irrefl, List.take_length]
    first | refine callD (transitref06_List_ok _ (zonesOf_lt l)) ?_ | refine callQD (transitref06_List_ok _ (zonesOf_lt l)) ?_
    simp -implicitDefEqProofs (disch := omega) only [go_sem, Nat.reduceAdd, Nat.reduceMul, Nat.reduceSub, Nat.reduceBEq, Nat.reduceLeDiff, Nat.reduceLT, fn_transitref21_Covers, e14_1, w14_1, e14_3, w14_3, c14_4, e14_6, w14_6, e14_8, w14_8, e14_10, w14_10, e14_12, w14_12, e14_14, w14_14, e14_16, w14_16, c14_17, c14_18, e14_20, w14_20, c14_21, c14_22, c14_23, c14_24, c14_25, e14_27, w14_27, c14_28, c14_29, c14_30, c14_31, c14_32, Product.row, elems_len]
    refine ifD (fun h3 => ?_) (fun h3 => ?_)
    · simp -implicitDefEqProofs (disch := omega) only [go_sem, Nat.reduceAdd, Nat.reduceMul, Nat.reduceSub, Nat.reduceBEq, Nat.reduceLeDiff, Nat.reduceLT, fn_transitref21_Covers, e14_1, w14_1, e14_3, w14_3, c14_4, e14_6, w14_6, e14_8, w14_8, e14_10, w14_10, e14_12, w14_12, e14_14, w14_14, e14_16, w14_16, c14_17, c14_18, e14_20, w14_20, c14_21, c14_22, c14_23, c14_24, c14_25, e14_27, w14_27, c14_28, c14_29, c14_30, c14_31, c14_32, Product.row, conv_bset]
      first | refine callD (transitref06_Minus_ok _ _ (modesOf_lt l) (bset_lt _)) ?_ | refine callQD (transitref06_Minus_ok _ _ (modesOf_lt l) (bset_lt _)) ?_
      simp -implicitDefEqProofs (disch := omega) only [go_sem, Nat.reduceAdd, Nat.reduceMul, Nat.reduceSub, Nat.reduceBEq, Nat.reduceLeDiff, Nat.reduceLT, fn_transitref21_Covers, e14_1, w14_1, e14_3, w14_3, c14_4, e14_6, w14_6, e14_8, w14_8, e14_10, w14_10, e14_12, w14_12, e14_14, w14_14, e14_16, w14_16, c14_17, c14_18, e14_20, w14_20, c14_21, c14_22, c14_23, c14_24, c14_25, e14_27, w14_27, c14_28, c14_29, c14_30, c14_31, c14_32, Product.row]
      refine ifD (fun h4 => ?_) (fun h4 => ?_)
      · simp -implicitDefEqProofs (disch := omega) only [go_sem, Nat.reduceAdd, Nat.reduceMul, Nat.reduceSub, Nat.reduceBEq, Nat.reduceLeDiff, Nat.reduceLT, fn_transitref21_Covers, e14_1, w14_1, e14_3, w14_3, c14_4, e14_6, w14_6, e14_8, w14_8, e14_10, w14_10, e14_12, w14_12, e14_14, w14_14, e14_16, w14_16, c14_17, c14_18, e14_20, w14_20, c14_21, c14_22, c14_23, c14_24, c14_25, e14_27, w14_27, c14_28, c14_29, c14_30, c14_31, c14_32, Product.row, ha, hb, Ride.row]
        first | refine callD (transitref21_soon_ok _ _ _ ?_ ?_ hps) ?_ | refine callQD (transitref21_soon_ok _ _ _ ?_ ?_ hps) ?_
        · exact (hl a (List.mem_of_getElem? ha)).1
        · exact (hl b (List.mem_of_getElem? hb)).1
        simp -implicitDefEqProofs (disch := omega) only [go_sem, Nat.reduceAdd, Nat.reduceMul, Nat.reduceSub, Nat.reduceBEq, Nat.reduceLeDiff, Nat.reduceLT, fn_transitref21_Covers, e14_1, w14_1, e14_3, w14_3, c14_4, e14_6, w14_6, e14_8, w14_8, e14_10, w14_10, e14_12, w14_12, e14_14, w14_14, e14_16, w14_16, c14_17, c14_18, e14_20, w14_20, c14_21, c14_22, c14_23, c14_24, c14_25, e14_27, w14_27, c14_28, c14_29, c14_30, c14_31, c14_32, Product.row]
        have h4' : minus (modesOf l) (bset p.modes) = 0 := by omega
        simp [covers, h0, e1, h3, h4', hspan]
      · simp -implicitDefEqProofs (disch := omega) only [go_sem, Nat.reduceAdd, Nat.reduceMul, Nat.reduceSub, Nat.reduceBEq, Nat.reduceLeDiff, Nat.reduceLT, fn_transitref21_Covers, e14_1, w14_1, e14_3, w14_3, c14_4, e14_6, w14_6, e14_8, w14_8, e14_10, w14_10, e14_12, w14_12, e14_14, w14_14, e14_16, w14_16, c14_17, c14_18, e14_20, w14_20, c14_21, c14_22, c14_23, c14_24, c14_25, e14_27, w14_27, c14_28, c14_29, c14_30, c14_31, c14_32, Product.row]
        have h4' : ¬ minus (modesOf l) (bset p.modes) = 0 := by omega
        simp [covers, h4']
    · simp -implicitDefEqProofs (disch := omega) only [go_sem, Nat.reduceAdd, Nat.reduceMul, Nat.reduceSub, Nat.reduceBEq, Nat.reduceLeDiff, Nat.reduceLT, fn_transitref21_Covers, e14_1, w14_1, e14_3, w14_3, c14_4, e14_6, w14_6, e14_8, w14_8, e14_10, w14_10, e14_12, w14_12, e14_14, w14_14, e14_16, w14_16, c14_17, c14_18, e14_20, w14_20, c14_21, c14_22, c14_23, c14_24, c14_25, e14_27, w14_27, c14_28, c14_29, c14_30, c14_31, c14_32, Product.row]
      simp [covers, h3]

end Go.Vm.C

