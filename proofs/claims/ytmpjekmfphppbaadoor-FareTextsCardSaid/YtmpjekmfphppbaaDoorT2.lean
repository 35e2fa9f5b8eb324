/- Contracts: products, options and the check of fares. -/
import Derived.Test.YtmpjekmfphppbaaDoorT1

namespace Go.Vm.C
open Go.Vm
set_option maxHeartbeats 1000000
set_option maxRecDepth 10000
set_option linter.unusedSimpArgs false
set_option linter.unusedVariables false

/-! ### Times -/
theorem u64_wrap (n : Int) : IntKind.u64.wrap n = n % 18446744073709551616 := by
  have e : (2 : Int) ^ IntKind.u64.bits = 18446744073709551616 := by decide
  unfold IntKind.wrap
  simp only [e, show IntKind.u64.signed = false from rfl, Bool.false_and]
  simp

theorem i64_wrap (n : Int) : IntKind.i64.wrap n = if n % 18446744073709551616 ≥ 9223372036854775808 then n % 18446744073709551616 - 18446744073709551616 else n % 18446744073709551616 := by
  have e : (2 : Int) ^ IntKind.i64.bits = 18446744073709551616 := by decide
  have e' : (2 : Int) ^ (IntKind.i64.bits - 1) = 9223372036854775808 := by decide
  unfold IntKind.wrap
  simp only [e, e', show IntKind.i64.signed = true from rfl, Bool.true_and, decide_eq_true_eq]

theorem product_later_ok (a b d : Int) (ha : I64 a) (hb : I64 b) (hd : I64 d) : PCalls PR i_product_later [.int .i64 a, .int .i64 b, .int .i64 d] (fun v => v = .bool (decide (d < b - a))) := by
  obtain ⟨a1, a2⟩ := ha
  obtain ⟨b1, b2⟩ := hb
  obtain ⟨d1, d2⟩ := hd
  refine acalls_pop fn_product_later_ok (by simp [fn_product_later]) ?_
  simp -implicitDefEqProofs (disch := omega) only [go_sem, Nat.reduceAdd, Nat.reduceMul, Nat.reduceSub, Nat.reduceBEq, Nat.reduceLeDiff, Nat.reduceLT, fn_product_later, e33_1, w33_1, e33_3, w33_3, c33_4, e33_6, w33_6, e33_8, w33_8, c33_9, c33_10, c33_11, open_if]
  repeat' (refine BIf_dec (fun h => ?_) (fun h => ?_))
  all_goals
    rw [Bool.eq_iff_iff]
    simp only [decide_eq_true_eq, u64_wrap, i64_wrap, true_iff, false_iff, Bool.false_eq_true]
    omega

/-! ### Products and rides -/
structure Product where
  id : List UInt8
  price : Int
  rides : Int
  zones : Int
  seconds : Int
  modes : Int

def Product.row (p : Product) : List V := [.str p.id, .int .i64 p.price, .int .i64 p.rides, .int .i64 p.zones, .int .i64 p.seconds, .int .i64 p.modes]
def Product.wf (p : Product) : Prop := p.id.length ≤ maxLen ∧ I64 p.price ∧ I64 p.rides ∧ I64 p.zones ∧ I64 p.seconds ∧ I64 p.modes
def Product.right (p : Product) : Bool := within p.price 0 1000000 && (within p.rides 1 8 && (within p.zones 1 16 && (within p.seconds 0 86400 && within p.modes 1 255)))

structure Ride where
  depart : Int
  arrive : Int
  zones : Int
  modes : Int

def Ride.row (r : Ride) : List V := [.int .i64 r.depart, .int .i64 r.arrive, .int .i64 r.zones, .int .i64 r.modes]
def Ride.wf (r : Ride) : Prop := I64 r.depart ∧ I64 r.arrive ∧ I64 r.zones ∧ I64 r.modes

def zonesOf (l : List Ride) : Nat := l.foldl (fun a r => a ||| bset r.zones) 0
def modesOf (l : List Ride) : Nat := l.foldl (fun a r => a ||| bset r.modes) 0

theorem fold_lt (f : Ride → Int) : ∀ (l : List Ride) (a : Nat), a < 18446744073709551616 → l.foldl (fun a r => a ||| bset (f r)) a < 18446744073709551616
  | [], _, h => h
  | r :: l, a, h => fold_lt f l _ (or_lt _ _ h (bset_lt _))
theorem zonesOf_lt (l : List Ride) : zonesOf l < 18446744073709551616 := fold_lt (·.zones) l 0 (by omega)
theorem modesOf_lt (l : List Ride) : modesOf l < 18446744073709551616 := fold_lt (·.modes) l 0 (by omega)
theorem zonesOf_snoc (l : List Ride) (i : Nat) (r : Ride) (h : l[i]? = some r) : zonesOf (l.take (i + 1)) = zonesOf (l.take i) ||| bset r.zones := by
  rw [zonesOf, List.take_add_one, h, List.foldl_append]; rfl
theorem modesOf_snoc (l : List Ride) (i : Nat) (r : Ride) (h : l[i]? = some r) : modesOf (l.take (i + 1)) = modesOf (l.take i) ||| bset r.modes := by
  rw [modesOf, List.take_add_one, h, List.foldl_append]; rfl

/-- The time from the first to the last departure. -/
def spanOf (l : List Ride) : Int :=
  match l[0]?, l[l.length - 1]? with
  | some a, some b => b.depart - a.depart
  | _, _ => 0

def covers (p : Product) (l : List Ride) : Bool :=
  decide (0 < l.length) && (decide ((l.length : Int) ≤ p.rides) && (decide (spanOf l ≤ p.seconds) && (decide ((pop 64 (zonesOf l) : Int) ≤ p.zones) && decide (minus (modesOf l) (bset p.modes) = 0))))

theorem Covers_add (p : Product) (r r' : Ride) (z m : Nat) (hz : z < 18446744073709551616) (hm : m < 18446744073709551616) :
    ACalls PR i_product_Covers_1 [.agg r.row, .ptr 1 0, .ptr 2 0] [.box p.row, .box [.int .u64 z], .box [.int .u64 m], .box r'.row] (fun v M' => v = .tuple [] ∧ M' = [.box p.row, .box [.int .u64 (z ||| bset r.zones : Nat)], .box [.int .u64 (m ||| bset r.modes : Nat)], .box r'.row]) := by
  refine acalls_pop fn_product_Covers_1_ok (by simp [fn_product_Covers_1]) ?_
  simp -implicitDefEqProofs (disch := omega) only [go_sem, Nat.reduceAdd, Nat.reduceMul, Nat.reduceSub, Nat.reduceBEq, Nat.reduceLeDiff, Nat.reduceLT, fn_product_Covers_1, e34_1, w34_1, e34_3, w34_3, e34_5, w34_5, c34_6, c34_7, Ride.row, conv_bset]
  first | refine callD (Set_Union_ok _ _ hz (bset_lt _)) ?_ | refine callQD (Set_Union_ok _ _ hz (bset_lt _)) ?_
  simp -implicitDefEqProofs (disch := omega) only [go_sem, Nat.reduceAdd, Nat.reduceMul, Nat.reduceSub, Nat.reduceBEq, Nat.reduceLeDiff, Nat.reduceLT, fn_product_Covers_1, e34_1, w34_1, e34_3, w34_3, e34_5, w34_5, c34_6, c34_7, Ride.row, conv_bset]
  first | refine callD (Set_Union_ok _ _ hm (bset_lt _)) ?_ | refine callQD (Set_Union_ok _ _ hm (bset_lt _)) ?_
  simp -implicitDefEqProofs (disch := omega) only [go_sem, Nat.reduceAdd, Nat.reduceMul, Nat.reduceSub, Nat.reduceBEq, Nat.reduceLeDiff, Nat.reduceLT, fn_product_Covers_1, e34_1, w34_1, e34_3, w34_3, e34_5, w34_5, c34_6, c34_7, Ride.row, Product.row]

theorem first_last {α : Type} {l : List α} (h : 0 < l.length) : ∃ a b, l[0]? = some a ∧ l[l.length - 1]? = some b :=
  ⟨l[0], l[l.length - 1], by simp [h], by simp [h]⟩

theorem map_get {α β : Type} (f : α → β) (l : List α) (i : Nat) : (l.map f)[i]? = (l[i]?).map f := by simp

theorem product_Covers_ok (p : Product) (l : List Ride) (c : Cap) (hp : p.wf) (hl : ∀ r ∈ l, r.wf) (hlen : l.length ≤ maxLen) : PCalls PR i_product_Covers [.agg p.row, .slice (l.map Ride.row) c] (fun v => v = .bool (covers p l)) := by
  have hm : maxLen = 9223372036854775807 := by rfl
  obtain ⟨_, _, hpr, hpz, hps, hpm⟩ := hp
  refine acalls_pop fn_product_Covers_ok (by simp [fn_product_Covers]) ?_
  simp -implicitDefEqProofs (disch := omega) only [go_sem, Nat.reduceAdd, Nat.reduceMul, Nat.reduceSub, Nat.reduceBEq, Nat.reduceLeDiff, Nat.reduceLT, fn_product_Covers, e24_1, w24_1, e24_3, w24_3, e24_5, w24_5, c24_6, e24_8, w24_8, e24_10, w24_10, e24_12, w24_12, e24_14, w24_14, e24_16, w24_16, c24_17, e24_19, w24_19, e24_21, w24_21, c24_22, c24_23, e24_25, w24_25, c24_26, c24_27, c24_28, c24_29, c24_30, c24_31, e24_33, w24_33, c24_34, c24_35, c24_36, c24_37, c24_38, c24_39, c24_40, Product.row]
  refine ifD (fun h => ?_) (fun h => ?_)
  · have : covers p l = false := by
      have : ¬ 0 < l.length := by omega
      simp [covers, this]
    simp -implicitDefEqProofs (disch := omega) only [go_sem, Nat.reduceAdd, Nat.reduceMul, Nat.reduceSub, Nat.reduceBEq, Nat.reduceLeDiff, Nat.reduceLT, fn_product_Covers, e24_1, w24_1, e24_3, w24_3, e24_5, w24_5, c24_6, e24_8, w24_8, e24_10, w24_10, e24_12, w24_12, e24_14, w24_14, e24_16, w24_16, c24_17, e24_19, w24_19, e24_21, w24_21, c24_22, c24_23, e24_25, w24_25, c24_26, c24_27, c24_28, c24_29, c24_30, c24_31, e24_33, w24_33, c24_34, c24_35, c24_36, c24_37, c24_38, c24_39, c24_40, this]
  have h0 : 0 < l.length := by omega
  obtain ⟨a, b, ha, hb⟩ := first_last h0
  simp -implicitDefEqProofs (disch := omega) only [go_sem, Nat.reduceAdd, Nat.reduceMul, Nat.reduceSub, Nat.reduceBEq, Nat.reduceLeDiff, Nat.reduceLT, fn_product_Covers, e24_1, w24_1, e24_3, w24_3, e24_5, w24_5, c24_6, e24_8, w24_8, e24_10, w24_10, e24_12, w24_12, e24_14, w24_14, e24_16, w24_16, c24_17, e24_19, w24_19, e24_21, w24_21, c24_22, c24_23, e24_25, w24_25, c24_26, c24_27, c24_28, c24_29, c24_30, c24_31, e24_33, w24_33, c24_34, c24_35, c24_36, c24_37, c24_38, c24_39, c24_40]
  refine ifD (fun h1 => ?_) (fun h1 => ?_)
  · have : covers p l = false := by
      have : ¬ (l.length : Int) ≤ p.rides := by omega
      simp [covers, this]
    simp -implicitDefEqProofs (disch := omega) only [go_sem, Nat.reduceAdd, Nat.reduceMul, Nat.reduceSub, Nat.reduceBEq, Nat.reduceLeDiff, Nat.reduceLT, fn_product_Covers, e24_1, w24_1, e24_3, w24_3, e24_5, w24_5, c24_6, e24_8, w24_8, e24_10, w24_10, e24_12, w24_12, e24_14, w24_14, e24_16, w24_16, c24_17, e24_19, w24_19, e24_21, w24_21, c24_22, c24_23, e24_25, w24_25, c24_26, c24_27, c24_28, c24_29, c24_30, c24_31, e24_33, w24_33, c24_34, c24_35, c24_36, c24_37, c24_38, c24_39, c24_40, this]
  simp -implicitDefEqProofs (disch := omega) only [go_sem, Nat.reduceAdd, Nat.reduceMul, Nat.reduceSub, Nat.reduceBEq, Nat.reduceLeDiff, Nat.reduceLT, fn_product_Covers, e24_1, w24_1, e24_3, w24_3, e24_5, w24_5, c24_6, e24_8, w24_8, e24_10, w24_10, e24_12, w24_12, e24_14, w24_14, e24_16, w24_16, c24_17, e24_19, w24_19, e24_21, w24_21, c24_22, c24_23, e24_25, w24_25, c24_26, c24_27, c24_28, c24_29, c24_30, c24_31, e24_33, w24_33, c24_34, c24_35, c24_36, c24_37, c24_38, c24_39, c24_40, ha, hb, Ride.row, dec_le]
  first | refine callD (product_later_ok _ _ _ ?_ ?_ hps) ?_ | refine callQD (product_later_ok _ _ _ ?_ ?_ hps) ?_
  · exact (hl a (List.mem_of_getElem? ha)).1
  · exact (hl b (List.mem_of_getElem? hb)).1
  have hspan : spanOf l = b.depart - a.depart := by simp only [spanOf, ha, hb]
  simp -implicitDefEqProofs (disch := omega) only [go_sem, Nat.reduceAdd, Nat.reduceMul, Nat.reduceSub, Nat.reduceBEq, Nat.reduceLeDiff, Nat.reduceLT, fn_product_Covers, e24_1, w24_1, e24_3, w24_3, e24_5, w24_5, c24_6, e24_8, w24_8, e24_10, w24_10, e24_12, w24_12, e24_14, w24_14, e24_16, w24_16, c24_17, e24_19, w24_19, e24_21, w24_21, c24_22, c24_23, e24_25, w24_25, c24_26, c24_27, c24_28, c24_29, c24_30, c24_31, e24_33, w24_33, c24_34, c24_35, c24_36, c24_37, c24_38, c24_39, c24_40]
  refine ifD (fun h2 => ?_) (fun h2 => ?_)
  · have : covers p l = false := by
      have : ¬ spanOf l ≤ p.seconds := by omega
      simp [covers, this]
    simp -implicitDefEqProofs (disch := omega) only [go_sem, Nat.reduceAdd, Nat.reduceMul, Nat.reduceSub, Nat.reduceBEq, Nat.reduceLeDiff, Nat.reduceLT, fn_product_Covers, e24_1, w24_1, e24_3, w24_3, e24_5, w24_5, c24_6, e24_8, w24_8, e24_10, w24_10, e24_12, w24_12, e24_14, w24_14, e24_16, w24_16, c24_17, e24_19, w24_19, e24_21, w24_21, c24_22, c24_23, e24_25, w24_25, c24_26, c24_27, c24_28, c24_29, c24_30, c24_31, e24_33, w24_33, c24_34, c24_35, c24_36, c24_37, c24_38, c24_39, c24_40, this]
  simp -implicitDefEqProofs (disch := omega) only [go_sem, Nat.reduceAdd, Nat.reduceMul, Nat.reduceSub, Nat.reduceBEq, Nat.reduceLeDiff, Nat.reduceLT, fn_product_Covers, e24_1, w24_1, e24_3, w24_3, e24_5, w24_5, c24_6, e24_8, w24_8, e24_10, w24_10, e24_12, w24_12, e24_14, w24_14, e24_16, w24_16, c24_17, e24_19, w24_19, e24_21, w24_21, c24_22, c24_23, e24_25, w24_25, c24_26, c24_27, c24_28, c24_29, c24_30, c24_31, e24_33, w24_33, c24_34, c24_35, c24_36, c24_37, c24_38, c24_39, c24_40]
  refine wpC_forL l (fun i vs M => vs = [.ptr 0 0, .ptr 1 0, .ptr 2 0, .fn i_product_Covers_1 [.ptr 1 0, .ptr 2 0], .slice (l.map Ride.row) c, .int .i64 l.length, .int .i64 i] ∧
    M = [.box p.row, .box [.int .u64 (zonesOf (l.take i))], .box [.int .u64 (modesOf (l.take i))]]) ⟨rfl, rfl⟩ ?_ ?_
  · rintro i r vs M hr hi hd ⟨rfl, rfl⟩
    simp -implicitDefEqProofs (disch := omega) only [go_sem, Nat.reduceAdd, Nat.reduceMul, Nat.reduceSub, Nat.reduceBEq, Nat.reduceLeDiff, Nat.reduceLT, fn_product_Covers, e24_1, w24_1, e24_3, w24_3, e24_5, w24_5, c24_6, e24_8, w24_8, e24_10, w24_10, e24_12, w24_12, e24_14, w24_14, e24_16, w24_16, c24_17, e24_19, w24_19, e24_21, w24_21, c24_22, c24_23, e24_25, w24_25, c24_26, c24_27, c24_28, c24_29, c24_30, c24_31, e24_33, w24_33, c24_34, c24_35, c24_36, c24_37, c24_38, c24_39, c24_40, hd, hr, Ride.row]
    refine callA (Covers_add p r r _ _ (zonesOf_lt _) (modesOf_lt _)) ?_
    rintro v M' ⟨rfl, rfl⟩
    simp -implicitDefEqProofs (disch := omega) only [go_sem, Nat.reduceAdd, Nat.reduceMul, Nat.reduceSub, Nat.reduceBEq, Nat.reduceLeDiff, Nat.reduceLT, fn_product_Covers, e24_1, w24_1, e24_3, w24_3, e24_5, w24_5, c24_6, e24_8, w24_8, e24_10, w24_10, e24_12, w24_12, e24_14, w24_14, e24_16, w24_16, c24_17, e24_19, w24_19, e24_21, w24_21, c24_22, c24_23, e24_25, w24_25, c24_26, c24_27, c24_28, c24_29, c24_30, c24_31, e24_33, w24_33, c24_34, c24_35, c24_36, c24_37, c24_38, c24_39, c24_40]
    refine next_pop hi rfl ⟨rfl, ?_⟩
    rw [zonesOf_snoc l i r hr, modesOf_snoc l i r hr]
    rfl
  · rintro vs M ⟨rfl, rfl⟩
    simp -implicitDefEqProofs (disch := omega) only [go_sem, Nat.reduceAdd, Nat.reduceMul, Nat.reduceSub, Nat.reduceBEq, Nat.reduceLeDiff, Nat.reduceLT, fn_product_Covers, e24_1, w24_1, e24_3, w24_3, e24_5, w24_5, c24_6, e24_8, w24_8, e24_10, w24_10, e24_12, w24_12, e24_14, w24_14, e24_16, w24_16, c24_17, e24_19, w24_19, e24_21, w24_21, c24_22, c24_23, e24_25, w24_25, c24_26, c24_27, c24_28, c24_29, c24_30, c24_31, e24_33, w24_33, c24_34, c24_35, c24_36, c24_37, c24_38, c24_39, c24_40, dec_irrefl, List.take_length]
    first | refine callD (Set_Len_ok _ (zonesOf_lt l)) ?_ | refine callQD (Set_Len_ok _ (zonesOf_lt l)) ?_
    simp -implicitDefEqProofs (disch := omega) only [go_sem, Nat.reduceAdd, Nat.reduceMul, Nat.reduceSub, Nat.reduceBEq, Nat.reduceLeDiff, Nat.reduceLT, fn_product_Covers, e24_1, w24_1, e24_3, w24_3, e24_5, w24_5, c24_6, e24_8, w24_8, e24_10, w24_10, e24_12, w24_12, e24_14, w24_14, e24_16, w24_16, c24_17, e24_19, w24_19, e24_21, w24_21, c24_22, c24_23, e24_25, w24_25, c24_26, c24_27, c24_28, c24_29, c24_30, c24_31, e24_33, w24_33, c24_34, c24_35, c24_36, c24_37, c24_38, c24_39, c24_40, Product.row]
    refine ifD (fun h3 => ?_) (fun h3 => ?_)
    · simp -implicitDefEqProofs (disch := omega) only [go_sem, Nat.reduceAdd, Nat.reduceMul, Nat.reduceSub, Nat.reduceBEq, Nat.reduceLeDiff, Nat.reduceLT, fn_product_Covers, e24_1, w24_1, e24_3, w24_3, e24_5, w24_5, c24_6, e24_8, w24_8, e24_10, w24_10, e24_12, w24_12, e24_14, w24_14, e24_16, w24_16, c24_17, e24_19, w24_19, e24_21, w24_21, c24_22, c24_23, e24_25, w24_25, c24_26, c24_27, c24_28, c24_29, c24_30, c24_31, e24_33, w24_33, c24_34, c24_35, c24_36, c24_37, c24_38, c24_39, c24_40, Product.row, conv_bset]
      first | refine callD (Set_Within_ok _ _ (modesOf_lt l) (bset_lt _)) ?_ | refine callQD (Set_Within_ok _ _ (modesOf_lt l) (bset_lt _)) ?_
      simp -implicitDefEqProofs (disch := omega) only [go_sem, Nat.reduceAdd, Nat.reduceMul, Nat.reduceSub, Nat.reduceBEq, Nat.reduceLeDiff, Nat.reduceLT, fn_product_Covers, e24_1, w24_1, e24_3, w24_3, e24_5, w24_5, c24_6, e24_8, w24_8, e24_10, w24_10, e24_12, w24_12, e24_14, w24_14, e24_16, w24_16, c24_17, e24_19, w24_19, e24_21, w24_21, c24_22, c24_23, e24_25, w24_25, c24_26, c24_27, c24_28, c24_29, c24_30, c24_31, e24_33, w24_33, c24_34, c24_35, c24_36, c24_37, c24_38, c24_39, c24_40, Product.row, memUnder]
      have e1 : (l.length : Int) ≤ p.rides := by omega
      have e2 : spanOf l ≤ p.seconds := by omega
      simp [covers, h0, e1, e2, h3]
    · simp -implicitDefEqProofs (disch := omega) only [go_sem, Nat.reduceAdd, Nat.reduceMul, Nat.reduceSub, Nat.reduceBEq, Nat.reduceLeDiff, Nat.reduceLT, fn_product_Covers, e24_1, w24_1, e24_3, w24_3, e24_5, w24_5, c24_6, e24_8, w24_8, e24_10, w24_10, e24_12, w24_12, e24_14, w24_14, e24_16, w24_16, c24_17, e24_19, w24_19, e24_21, w24_21, c24_22, c24_23, e24_25, w24_25, c24_26, c24_27, c24_28, c24_29, c24_30, c24_31, e24_33, w24_33, c24_34, c24_35, c24_36, c24_37, c24_38, c24_39, c24_40, Product.row]
      simp [covers, h3]

/-! ### Fares -/
structure Fares where
  products : List Product
  tag : Cap
  discount : Int
  within : Int
  limit : Int

def Fares.row (f : Fares) : List V := [.slice (f.products.map Product.row) f.tag, .int .i64 f.discount, .int .i64 f.within, .int .i64 f.limit]
def Fares.wf (f : Fares) : Prop := (∀ p ∈ f.products, p.wf) ∧ f.products.length ≤ maxLen ∧ I64 f.discount ∧ I64 f.within ∧ I64 f.limit

/-- The indices below i at which a test holds. -/
def idxs (t : Nat → Bool) (i : Nat) : List Nat := (List.range i).filter t
theorem idxs_succ (t : Nat → Bool) (i : Nat) : idxs t (i + 1) = idxs t i ++ if t i then [i] else [] := by
  simp only [idxs, List.range_succ, List.filter_append]
  cases h : t i <;> simp [h]
theorem idxs_le (t : Nat → Bool) (i : Nat) : (idxs t i).length ≤ i := by
  have := List.length_filter_le t (List.range i)
  simpa [idxs] using this
theorem idxs_mem {t : Nat → Bool} {i j : Nat} : j ∈ idxs t i ↔ j < i ∧ t j = true := by simp [idxs]

/-- Test an element. -/
def at? {α : Type} (t : α → Bool) (l : List α) (i : Nat) : Bool := ((l[i]?).map t).getD false
theorem at?_eq {α : Type} {t : α → Bool} {l : List α} {i : Nat} {x : α} (h : l[i]? = some x) : at? t l i = t x := by simp [at?, h]

def options (f : Fares) (l : List Ride) : List Nat := idxs (at? (fun p => covers p l) f.products) f.products.length

/-! ### Maps from strings to true -/
def strMap (ids : List (List UInt8)) : List (V × V) := ids.map fun s => (.str s, .bool true)

theorem keysOk_strs (s : List UInt8) : ∀ ids, keysOk .str (.str s) (strMap ids) = true
  | [] => rfl
  | i :: ids => by
    show ((cellEq .str (.str s) (.str i)).isSome && keysOk .str (.str s) (strMap ids)) = true
    rw [keysOk_strs s ids]
    rfl
theorem mapGet_strs (s : List UInt8) : ∀ ids, mapGet .str (.str s) (strMap ids) = if s ∈ ids then some (.bool true) else none
  | [] => rfl
  | i :: ids => by
    show (bif (cellEq .str (.str s) (.str i)).getD false then some (V.bool true) else mapGet .str (.str s) (strMap ids)) = _
    rw [mapGet_strs s ids]
    by_cases h : s = i
    · subst h; simp [cellEq]
    · simp [cellEq, h]
theorem mapSet_strs (s : List UInt8) : ∀ ids, s ∉ ids → mapSet .str (.str s) (.bool true) (strMap ids) = strMap (ids ++ [s])
  | [], _ => rfl
  | i :: ids, h => by
    have h1 : s ≠ i := fun e => h (by simp [e])
    have h2 := mapSet_strs s ids (fun e => h (by simp [e]))
    show (bif (cellEq .str (.str s) (.str i)).getD false then _ else (V.str i, V.bool true) :: mapSet .str (.str s) (.bool true) (strMap ids)) = _
    rw [h2]
    simp [cellEq, h1, strMap]
theorem lookE_strs (s : List UInt8) (ids : List (List UInt8)) : lookE .str (.bool false) false (.str s) (strMap ids) = some (.bool (decide (s ∈ ids))) := by
  simp only [lookE, lookupV, mapFind, isKey, cond_true, List.getElem?_cons_zero, keysOk_strs, mapGet_strs, cellsV]
  by_cases hs : s ∈ ids <;> simp [hs]
theorem updE_strs {s : List UInt8} {ids : List (List UInt8)} (hs : s ∉ ids) : updE .str (.str s) (.bool true) (strMap ids) = some (strMap (ids ++ [s])) := by
  simp only [updE, isKey, keysOk_strs, V.isPure, Bool.and_self, cond_true, mapSet_strs s ids hs]

/-! ### Check -/
/-- The error of the product i. -/
def prodErr (l : List Product) (i : Nat) : Int :=
  match l[i]? with
  | none => 0
  | some p => if okName p.id = false then 12 else if p.id ∈ (l.take i).map Product.id then 6 else if p.right = false then 2 else 0

def checkRes (f : Fares) : Int × Int :=
  if within f.discount 0 1000000 = true ∧ within f.within 0 86400 = true ∧ within f.limit 0 1000000 = true then
    if 16 < f.products.length then (0, 5) else firstErr (prodErr f.products) f.products.length
  else (-1, 2)

def pairV (p : Int × Int) : V := .tuple [.int .i64 p.1, .int .i64 p.2]

theorem product_Check_ok (f : Fares) (hf : f.wf) : PCalls PR i_product_Check [.agg f.row] (fun v => v = pairV (checkRes f)) := by
  refine acalls_pop fn_product_Check_ok (by simp [fn_product_Check]) ?_
  simp -implicitDefEqProofs (disch := omega) only [go_sem, Nat.reduceAdd, Nat.reduceMul, Nat.reduceSub, Nat.reduceBEq, Nat.reduceLeDiff, Nat.reduceLT, fn_product_Check, e19_1, w19_1, e19_3, w19_3, c19_4, e19_6, w19_6, e19_8, w19_8, c19_9, e19_11, w19_11, e19_13, w19_13, e19_15, w19_15, e19_17, w19_17, c19_18, e19_20, w19_20, e19_22, w19_22, c19_23, e19_25, w19_25, e19_27, w19_27, c19_28, e19_30, w19_30, e19_32, w19_32, c19_33, e19_35, w19_35, e19_37, w19_37, c19_38, c19_39, c19_40, c19_41, c19_42, e19_44, w19_44, c19_45, c19_46, c19_47, c19_48, c19_49, c19_50, e19_52, w19_52, c19_53, c19_54, c19_55, c19_56, c19_57, c19_58, Fares.row]
  first | refine callD (product_within_ok _ _ _) ?_ | refine callQD (product_within_ok _ _ _) ?_
  simp -implicitDefEqProofs (disch := omega) only [go_sem, Nat.reduceAdd, Nat.reduceMul, Nat.reduceSub, Nat.reduceBEq, Nat.reduceLeDiff, Nat.reduceLT, fn_product_Check, e19_1, w19_1, e19_3, w19_3, c19_4, e19_6, w19_6, e19_8, w19_8, c19_9, e19_11, w19_11, e19_13, w19_13, e19_15, w19_15, e19_17, w19_17, c19_18, e19_20, w19_20, e19_22, w19_22, c19_23, e19_25, w19_25, e19_27, w19_27, c19_28, e19_30, w19_30, e19_32, w19_32, c19_33, e19_35, w19_35, e19_37, w19_37, c19_38, c19_39, c19_40, c19_41, c19_42, e19_44, w19_44, c19_45, c19_46, c19_47, c19_48, c19_49, c19_50, e19_52, w19_52, c19_53, c19_54, c19_55, c19_56, c19_57, c19_58]
  refine ifB (fun h1 => ?_) (fun h1 => ?_)
  rotate_left
  · simp -implicitDefEqProofs (disch := omega) only [go_sem, Nat.reduceAdd, Nat.reduceMul, Nat.reduceSub, Nat.reduceBEq, Nat.reduceLeDiff, Nat.reduceLT, fn_product_Check, e19_1, w19_1, e19_3, w19_3, c19_4, e19_6, w19_6, e19_8, w19_8, c19_9, e19_11, w19_11, e19_13, w19_13, e19_15, w19_15, e19_17, w19_17, c19_18, e19_20, w19_20, e19_22, w19_22, c19_23, e19_25, w19_25, e19_27, w19_27, c19_28, e19_30, w19_30, e19_32, w19_32, c19_33, e19_35, w19_35, e19_37, w19_37, c19_38, c19_39, c19_40, c19_41, c19_42, e19_44, w19_44, c19_45, c19_46, c19_47, c19_48, c19_49, c19_50, e19_52, w19_52, c19_53, c19_54, c19_55, c19_56, c19_57, c19_58, pairV, checkRes, h1]
    rfl
  simp -implicitDefEqProofs (disch := omega) only [go_sem, Nat.reduceAdd, Nat.reduceMul, Nat.reduceSub, Nat.reduceBEq, Nat.reduceLeDiff, Nat.reduceLT, fn_product_Check, e19_1, w19_1, e19_3, w19_3, c19_4, e19_6, w19_6, e19_8, w19_8, c19_9, e19_11, w19_11, e19_13, w19_13, e19_15, w19_15, e19_17, w19_17, c19_18, e19_20, w19_20, e19_22, w19_22, c19_23, e19_25, w19_25, e19_27, w19_27, c19_28, e19_30, w19_30, e19_32, w19_32, c19_33, e19_35, w19_35, e19_37, w19_37, c19_38, c19_39, c19_40, c19_41, c19_42, e19_44, w19_44, c19_45, c19_46, c19_47, c19_48, c19_49, c19_50, e19_52, w19_52, c19_53, c19_54, c19_55, c19_56, c19_57, c19_58]
  first | refine callD (product_within_ok _ _ _) ?_ | refine callQD (product_within_ok _ _ _) ?_
  simp -implicitDefEqProofs (disch := omega) only [go_sem, Nat.reduceAdd, Nat.reduceMul, Nat.reduceSub, Nat.reduceBEq, Nat.reduceLeDiff, Nat.reduceLT, fn_product_Check, e19_1, w19_1, e19_3, w19_3, c19_4, e19_6, w19_6, e19_8, w19_8, c19_9, e19_11, w19_11, e19_13, w19_13, e19_15, w19_15, e19_17, w19_17, c19_18, e19_20, w19_20, e19_22, w19_22, c19_23, e19_25, w19_25, e19_27, w19_27, c19_28, e19_30, w19_30, e19_32, w19_32, c19_33, e19_35, w19_35, e19_37, w19_37, c19_38, c19_39, c19_40, c19_41, c19_42, e19_44, w19_44, c19_45, c19_46, c19_47, c19_48, c19_49, c19_50, e19_52, w19_52, c19_53, c19_54, c19_55, c19_56, c19_57, c19_58]
  refine ifB (fun h2 => ?_) (fun h2 => ?_)
  rotate_left
  · simp -implicitDefEqProofs (disch := omega) only [go_sem, Nat.reduceAdd, Nat.reduceMul, Nat.reduceSub, Nat.reduceBEq, Nat.reduceLeDiff, Nat.reduceLT, fn_product_Check, e19_1, w19_1, e19_3, w19_3, c19_4, e19_6, w19_6, e19_8, w19_8, c19_9, e19_11, w19_11, e19_13, w19_13, e19_15, w19_15, e19_17, w19_17, c19_18, e19_20, w19_20, e19_22, w19_22, c19_23, e19_25, w19_25, e19_27, w19_27, c19_28, e19_30, w19_30, e19_32, w19_32, c19_33, e19_35, w19_35, e19_37, w19_37, c19_38, c19_39, c19_40, c19_41, c19_42, e19_44, w19_44, c19_45, c19_46, c19_47, c19_48, c19_49, c19_50, e19_52, w19_52, c19_53, c19_54, c19_55, c19_56, c19_57, c19_58, pairV, checkRes, h1, h2]
    rfl
  simp -implicitDefEqProofs (disch := omega) only [go_sem, Nat.reduceAdd, Nat.reduceMul, Nat.reduceSub, Nat.reduceBEq, Nat.reduceLeDiff, Nat.reduceLT, fn_product_Check, e19_1, w19_1, e19_3, w19_3, c19_4, e19_6, w19_6, e19_8, w19_8, c19_9, e19_11, w19_11, e19_13, w19_13, e19_15, w19_15, e19_17, w19_17, c19_18, e19_20, w19_20, e19_22, w19_22, c19_23, e19_25, w19_25, e19_27, w19_27, c19_28, e19_30, w19_30, e19_32, w19_32, c19_33, e19_35, w19_35, e19_37, w19_37, c19_38, c19_39, c19_40, c19_41, c19_42, e19_44, w19_44, c19_45, c19_46, c19_47, c19_48, c19_49, c19_50, e19_52, w19_52, c19_53, c19_54, c19_55, c19_56, c19_57, c19_58]
  first | refine callD (product_within_ok _ _ _) ?_ | refine callQD (product_within_ok _ _ _) ?_
  simp -implicitDefEqProofs (disch := omega) only [go_sem, Nat.reduceAdd, Nat.reduceMul, Nat.reduceSub, Nat.reduceBEq, Nat.reduceLeDiff, Nat.reduceLT, fn_product_Check, e19_1, w19_1, e19_3, w19_3, c19_4, e19_6, w19_6, e19_8, w19_8, c19_9, e19_11, w19_11, e19_13, w19_13, e19_15, w19_15, e19_17, w19_17, c19_18, e19_20, w19_20, e19_22, w19_22, c19_23, e19_25, w19_25, e19_27, w19_27, c19_28, e19_30, w19_30, e19_32, w19_32, c19_33, e19_35, w19_35, e19_37, w19_37, c19_38, c19_39, c19_40, c19_41, c19_42, e19_44, w19_44, c19_45, c19_46, c19_47, c19_48, c19_49, c19_50, e19_52, w19_52, c19_53, c19_54, c19_55, c19_56, c19_57, c19_58]
  refine ifB (fun h3 => ?_) (fun h3 => ?_)
  rotate_left
  · simp -implicitDefEqProofs (disch := omega) only [go_sem, Nat.reduceAdd, Nat.reduceMul, Nat.reduceSub, Nat.reduceBEq, Nat.reduceLeDiff, Nat.reduceLT, fn_product_Check, e19_1, w19_1, e19_3, w19_3, c19_4, e19_6, w19_6, e19_8, w19_8, c19_9, e19_11, w19_11, e19_13, w19_13, e19_15, w19_15, e19_17, w19_17, c19_18, e19_20, w19_20, e19_22, w19_22, c19_23, e19_25, w19_25, e19_27, w19_27, c19_28, e19_30, w19_30, e19_32, w19_32, c19_33, e19_35, w19_35, e19_37, w19_37, c19_38, c19_39, c19_40, c19_41, c19_42, e19_44, w19_44, c19_45, c19_46, c19_47, c19_48, c19_49, c19_50, e19_52, w19_52, c19_53, c19_54, c19_55, c19_56, c19_57, c19_58, pairV, checkRes, h1, h2, h3]
    rfl
  simp -implicitDefEqProofs (disch := omega) only [go_sem, Nat.reduceAdd, Nat.reduceMul, Nat.reduceSub, Nat.reduceBEq, Nat.reduceLeDiff, Nat.reduceLT, fn_product_Check, e19_1, w19_1, e19_3, w19_3, c19_4, e19_6, w19_6, e19_8, w19_8, c19_9, e19_11, w19_11, e19_13, w19_13, e19_15, w19_15, e19_17, w19_17, c19_18, e19_20, w19_20, e19_22, w19_22, c19_23, e19_25, w19_25, e19_27, w19_27, c19_28, e19_30, w19_30, e19_32, w19_32, c19_33, e19_35, w19_35, e19_37, w19_37, c19_38, c19_39, c19_40, c19_41, c19_42, e19_44, w19_44, c19_45, c19_46, c19_47, c19_48, c19_49, c19_50, e19_52, w19_52, c19_53, c19_54, c19_55, c19_56, c19_57, c19_58]
  refine ifD (fun h4 => ?_) (fun h4 => ?_)
  · have : 16 < f.products.length := by omega
    simp -implicitDefEqProofs (disch := omega) only [go_sem, Nat.reduceAdd, Nat.reduceMul, Nat.reduceSub, Nat.reduceBEq, Nat.reduceLeDiff, Nat.reduceLT, fn_product_Check, e19_1, w19_1, e19_3, w19_3, c19_4, e19_6, w19_6, e19_8, w19_8, c19_9, e19_11, w19_11, e19_13, w19_13, e19_15, w19_15, e19_17, w19_17, c19_18, e19_20, w19_20, e19_22, w19_22, c19_23, e19_25, w19_25, e19_27, w19_27, c19_28, e19_30, w19_30, e19_32, w19_32, c19_33, e19_35, w19_35, e19_37, w19_37, c19_38, c19_39, c19_40, c19_41, c19_42, e19_44, w19_44, c19_45, c19_46, c19_47, c19_48, c19_49, c19_50, e19_52, w19_52, c19_53, c19_54, c19_55, c19_56, c19_57, c19_58, pairV, checkRes, h1, h2, h3, this]
    rfl
  have h4' : ¬ 16 < f.products.length := by omega
  have hres : checkRes f = firstErr (prodErr f.products) f.products.length := by simp [checkRes, h1, h2, h3, h4']
  simp -implicitDefEqProofs (disch := omega) only [go_sem, Nat.reduceAdd, Nat.reduceMul, Nat.reduceSub, Nat.reduceBEq, Nat.reduceLeDiff, Nat.reduceLT, fn_product_Check, e19_1, w19_1, e19_3, w19_3, c19_4, e19_6, w19_6, e19_8, w19_8, c19_9, e19_11, w19_11, e19_13, w19_13, e19_15, w19_15, e19_17, w19_17, c19_18, e19_20, w19_20, e19_22, w19_22, c19_23, e19_25, w19_25, e19_27, w19_27, c19_28, e19_30, w19_30, e19_32, w19_32, c19_33, e19_35, w19_35, e19_37, w19_37, c19_38, c19_39, c19_40, c19_41, c19_42, e19_44, w19_44, c19_45, c19_46, c19_47, c19_48, c19_49, c19_50, e19_52, w19_52, c19_53, c19_54, c19_55, c19_56, c19_57, c19_58, hres]
  refine wpC_forL f.products (fun i vs M => (∀ k, k < i → prodErr f.products k = 0) ∧ vs = [.map 1, .slice (f.products.map Product.row) f.tag, .int .i64 f.products.length, .int .i64 i] ∧
    M = [.box f.row, .map (strMap ((f.products.take i).map Product.id))]) ⟨fun k hk => absurd hk (Nat.not_lt_zero k), rfl, rfl⟩ ?_ ?_
  · rintro i p vs M hp hi hd ⟨hall, rfl, rfl⟩
    have fin : ∀ e, prodErr f.products i = e → e ≠ 0 → V.tuple [.int .i64 i, .int .i64 e] = pairV (firstErr (prodErr f.products) f.products.length) := fun e h1 h2 => by
      rw [firstErr_at hi hall (by rw [h1]; exact h2), h1]; rfl
    have herr : prodErr f.products i = if okName p.id = false then 12 else if p.id ∈ (f.products.take i).map Product.id then 6 else if p.right = false then 2 else 0 := by simp only [prodErr, hp]
    simp -implicitDefEqProofs (disch := omega) only [go_sem, Nat.reduceAdd, Nat.reduceMul, Nat.reduceSub, Nat.reduceBEq, Nat.reduceLeDiff, Nat.reduceLT, fn_product_Check, e19_1, w19_1, e19_3, w19_3, c19_4, e19_6, w19_6, e19_8, w19_8, c19_9, e19_11, w19_11, e19_13, w19_13, e19_15, w19_15, e19_17, w19_17, c19_18, e19_20, w19_20, e19_22, w19_22, c19_23, e19_25, w19_25, e19_27, w19_27, c19_28, e19_30, w19_30, e19_32, w19_32, c19_33, e19_35, w19_35, e19_37, w19_37, c19_38, c19_39, c19_40, c19_41, c19_42, e19_44, w19_44, c19_45, c19_46, c19_47, c19_48, c19_49, c19_50, e19_52, w19_52, c19_53, c19_54, c19_55, c19_56, c19_57, c19_58, hd, hp, Product.row]
    first | refine callD (ident_Valid_ok _ (hf.1 p (List.mem_of_getElem? hp)).1) ?_ | refine callQD (ident_Valid_ok _ (hf.1 p (List.mem_of_getElem? hp)).1) ?_
    simp -implicitDefEqProofs (disch := omega) only [go_sem, Nat.reduceAdd, Nat.reduceMul, Nat.reduceSub, Nat.reduceBEq, Nat.reduceLeDiff, Nat.reduceLT, fn_product_Check, e19_1, w19_1, e19_3, w19_3, c19_4, e19_6, w19_6, e19_8, w19_8, c19_9, e19_11, w19_11, e19_13, w19_13, e19_15, w19_15, e19_17, w19_17, c19_18, e19_20, w19_20, e19_22, w19_22, c19_23, e19_25, w19_25, e19_27, w19_27, c19_28, e19_30, w19_30, e19_32, w19_32, c19_33, e19_35, w19_35, e19_37, w19_37, c19_38, c19_39, c19_40, c19_41, c19_42, e19_44, w19_44, c19_45, c19_46, c19_47, c19_48, c19_49, c19_50, e19_52, w19_52, c19_53, c19_54, c19_55, c19_56, c19_57, c19_58]
    refine ifB (fun g1 => ?_) (fun g1 => ?_)
    rotate_left
    · simp -implicitDefEqProofs (disch := omega) only [go_sem, Nat.reduceAdd, Nat.reduceMul, Nat.reduceSub, Nat.reduceBEq, Nat.reduceLeDiff, Nat.reduceLT, fn_product_Check, e19_1, w19_1, e19_3, w19_3, c19_4, e19_6, w19_6, e19_8, w19_8, c19_9, e19_11, w19_11, e19_13, w19_13, e19_15, w19_15, e19_17, w19_17, c19_18, e19_20, w19_20, e19_22, w19_22, c19_23, e19_25, w19_25, e19_27, w19_27, c19_28, e19_30, w19_30, e19_32, w19_32, c19_33, e19_35, w19_35, e19_37, w19_37, c19_38, c19_39, c19_40, c19_41, c19_42, e19_44, w19_44, c19_45, c19_46, c19_47, c19_48, c19_49, c19_50, e19_52, w19_52, c19_53, c19_54, c19_55, c19_56, c19_57, c19_58]
      exact fin 12 (by rw [herr, if_pos g1]) (by decide)
    have g1' : ¬ okName p.id = false := by simp [g1]
    simp -implicitDefEqProofs (disch := omega) only [go_sem, Nat.reduceAdd, Nat.reduceMul, Nat.reduceSub, Nat.reduceBEq, Nat.reduceLeDiff, Nat.reduceLT, fn_product_Check, e19_1, w19_1, e19_3, w19_3, c19_4, e19_6, w19_6, e19_8, w19_8, c19_9, e19_11, w19_11, e19_13, w19_13, e19_15, w19_15, e19_17, w19_17, c19_18, e19_20, w19_20, e19_22, w19_22, c19_23, e19_25, w19_25, e19_27, w19_27, c19_28, e19_30, w19_30, e19_32, w19_32, c19_33, e19_35, w19_35, e19_37, w19_37, c19_38, c19_39, c19_40, c19_41, c19_42, e19_44, w19_44, c19_45, c19_46, c19_47, c19_48, c19_49, c19_50, e19_52, w19_52, c19_53, c19_54, c19_55, c19_56, c19_57, c19_58, lookE_strs]
    refine ifD (fun g2 => ?_) (fun g2 => ?_)
    · simp -implicitDefEqProofs (disch := omega) only [go_sem, Nat.reduceAdd, Nat.reduceMul, Nat.reduceSub, Nat.reduceBEq, Nat.reduceLeDiff, Nat.reduceLT, fn_product_Check, e19_1, w19_1, e19_3, w19_3, c19_4, e19_6, w19_6, e19_8, w19_8, c19_9, e19_11, w19_11, e19_13, w19_13, e19_15, w19_15, e19_17, w19_17, c19_18, e19_20, w19_20, e19_22, w19_22, c19_23, e19_25, w19_25, e19_27, w19_27, c19_28, e19_30, w19_30, e19_32, w19_32, c19_33, e19_35, w19_35, e19_37, w19_37, c19_38, c19_39, c19_40, c19_41, c19_42, e19_44, w19_44, c19_45, c19_46, c19_47, c19_48, c19_49, c19_50, e19_52, w19_52, c19_53, c19_54, c19_55, c19_56, c19_57, c19_58]
      exact fin 6 (by rw [herr, if_neg g1', if_pos g2]) (by decide)
    have bad : p.right = false → prodErr f.products i = 2 := fun h => by rw [herr, if_neg g1', if_neg g2, if_pos h]
    simp -implicitDefEqProofs (disch := omega) only [go_sem, Nat.reduceAdd, Nat.reduceMul, Nat.reduceSub, Nat.reduceBEq, Nat.reduceLeDiff, Nat.reduceLT, fn_product_Check, e19_1, w19_1, e19_3, w19_3, c19_4, e19_6, w19_6, e19_8, w19_8, c19_9, e19_11, w19_11, e19_13, w19_13, e19_15, w19_15, e19_17, w19_17, c19_18, e19_20, w19_20, e19_22, w19_22, c19_23, e19_25, w19_25, e19_27, w19_27, c19_28, e19_30, w19_30, e19_32, w19_32, c19_33, e19_35, w19_35, e19_37, w19_37, c19_38, c19_39, c19_40, c19_41, c19_42, e19_44, w19_44, c19_45, c19_46, c19_47, c19_48, c19_49, c19_50, e19_52, w19_52, c19_53, c19_54, c19_55, c19_56, c19_57, c19_58]
    first | refine callD (product_within_ok _ _ _) ?_ | refine callQD (product_within_ok _ _ _) ?_
    simp -implicitDefEqProofs (disch := omega) only [go_sem, Nat.reduceAdd, Nat.reduceMul, Nat.reduceSub, Nat.reduceBEq, Nat.reduceLeDiff, Nat.reduceLT, fn_product_Check, e19_1, w19_1, e19_3, w19_3, c19_4, e19_6, w19_6, e19_8, w19_8, c19_9, e19_11, w19_11, e19_13, w19_13, e19_15, w19_15, e19_17, w19_17, c19_18, e19_20, w19_20, e19_22, w19_22, c19_23, e19_25, w19_25, e19_27, w19_27, c19_28, e19_30, w19_30, e19_32, w19_32, c19_33, e19_35, w19_35, e19_37, w19_37, c19_38, c19_39, c19_40, c19_41, c19_42, e19_44, w19_44, c19_45, c19_46, c19_47, c19_48, c19_49, c19_50, e19_52, w19_52, c19_53, c19_54, c19_55, c19_56, c19_57, c19_58]
    refine ifB (fun k1 => ?_) (fun k1 => ?_)
    rotate_left
    · simp -implicitDefEqProofs (disch := omega) only [go_sem, Nat.reduceAdd, Nat.reduceMul, Nat.reduceSub, Nat.reduceBEq, Nat.reduceLeDiff, Nat.reduceLT, fn_product_Check, e19_1, w19_1, e19_3, w19_3, c19_4, e19_6, w19_6, e19_8, w19_8, c19_9, e19_11, w19_11, e19_13, w19_13, e19_15, w19_15, e19_17, w19_17, c19_18, e19_20, w19_20, e19_22, w19_22, c19_23, e19_25, w19_25, e19_27, w19_27, c19_28, e19_30, w19_30, e19_32, w19_32, c19_33, e19_35, w19_35, e19_37, w19_37, c19_38, c19_39, c19_40, c19_41, c19_42, e19_44, w19_44, c19_45, c19_46, c19_47, c19_48, c19_49, c19_50, e19_52, w19_52, c19_53, c19_54, c19_55, c19_56, c19_57, c19_58]
      exact fin 2 (bad (by simp [Product.right, k1])) (by decide)
    simp -implicitDefEqProofs (disch := omega) only [go_sem, Nat.reduceAdd, Nat.reduceMul, Nat.reduceSub, Nat.reduceBEq, Nat.reduceLeDiff, Nat.reduceLT, fn_product_Check, e19_1, w19_1, e19_3, w19_3, c19_4, e19_6, w19_6, e19_8, w19_8, c19_9, e19_11, w19_11, e19_13, w19_13, e19_15, w19_15, e19_17, w19_17, c19_18, e19_20, w19_20, e19_22, w19_22, c19_23, e19_25, w19_25, e19_27, w19_27, c19_28, e19_30, w19_30, e19_32, w19_32, c19_33, e19_35, w19_35, e19_37, w19_37, c19_38, c19_39, c19_40, c19_41, c19_42, e19_44, w19_44, c19_45, c19_46, c19_47, c19_48, c19_49, c19_50, e19_52, w19_52, c19_53, c19_54, c19_55, c19_56, c19_57, c19_58]
    first | refine callD (product_within_ok _ _ _) ?_ | refine callQD (product_within_ok _ _ _) ?_
    simp -implicitDefEqProofs (disch := omega) only [go_sem, Nat.reduceAdd, Nat.reduceMul, Nat.reduceSub, Nat.reduceBEq, Nat.reduceLeDiff, Nat.reduceLT, fn_product_Check, e19_1, w19_1, e19_3, w19_3, c19_4, e19_6, w19_6, e19_8, w19_8, c19_9, e19_11, w19_11, e19_13, w19_13, e19_15, w19_15, e19_17, w19_17, c19_18, e19_20, w19_20, e19_22, w19_22, c19_23, e19_25, w19_25, e19_27, w19_27, c19_28, e19_30, w19_30, e19_32, w19_32, c19_33, e19_35, w19_35, e19_37, w19_37, c19_38, c19_39, c19_40, c19_41, c19_42, e19_44, w19_44, c19_45, c19_46, c19_47, c19_48, c19_49, c19_50, e19_52, w19_52, c19_53, c19_54, c19_55, c19_56, c19_57, c19_58]
    refine ifB (fun k2 => ?_) (fun k2 => ?_)
    rotate_left
    · simp -implicitDefEqProofs (disch := omega) only [go_sem, Nat.reduceAdd, Nat.reduceMul, Nat.reduceSub, Nat.reduceBEq, Nat.reduceLeDiff, Nat.reduceLT, fn_product_Check, e19_1, w19_1, e19_3, w19_3, c19_4, e19_6, w19_6, e19_8, w19_8, c19_9, e19_11, w19_11, e19_13, w19_13, e19_15, w19_15, e19_17, w19_17, c19_18, e19_20, w19_20, e19_22, w19_22, c19_23, e19_25, w19_25, e19_27, w19_27, c19_28, e19_30, w19_30, e19_32, w19_32, c19_33, e19_35, w19_35, e19_37, w19_37, c19_38, c19_39, c19_40, c19_41, c19_42, e19_44, w19_44, c19_45, c19_46, c19_47, c19_48, c19_49, c19_50, e19_52, w19_52, c19_53, c19_54, c19_55, c19_56, c19_57, c19_58]
      exact fin 2 (bad (by simp [Product.right, k2])) (by decide)
    simp -implicitDefEqProofs (disch := omega) only [go_sem, Nat.reduceAdd, Nat.reduceMul, Nat.reduceSub, Nat.reduceBEq, Nat.reduceLeDiff, Nat.reduceLT, fn_product_Check, e19_1, w19_1, e19_3, w19_3, c19_4, e19_6, w19_6, e19_8, w19_8, c19_9, e19_11, w19_11, e19_13, w19_13, e19_15, w19_15, e19_17, w19_17, c19_18, e19_20, w19_20, e19_22, w19_22, c19_23, e19_25, w19_25, e19_27, w19_27, c19_28, e19_30, w19_30, e19_32, w19_32, c19_33, e19_35, w19_35, e19_37, w19_37, c19_38, c19_39, c19_40, c19_41, c19_42, e19_44, w19_44, c19_45, c19_46, c19_47, c19_48, c19_49, c19_50, e19_52, w19_52, c19_53, c19_54, c19_55, c19_56, c19_57, c19_58]
    first | refine callD (product_within_ok _ _ _) ?_ | refine callQD (product_within_ok _ _ _) ?_
    simp -implicitDefEqProofs (disch := omega) only [go_sem, Nat.reduceAdd, Nat.reduceMul, Nat.reduceSub, Nat.reduceBEq, Nat.reduceLeDiff, Nat.reduceLT, fn_product_Check, e19_1, w19_1, e19_3, w19_3, c19_4, e19_6, w19_6, e19_8, w19_8, c19_9, e19_11, w19_11, e19_13, w19_13, e19_15, w19_15, e19_17, w19_17, c19_18, e19_20, w19_20, e19_22, w19_22, c19_23, e19_25, w19_25, e19_27, w19_27, c19_28, e19_30, w19_30, e19_32, w19_32, c19_33, e19_35, w19_35, e19_37, w19_37, c19_38, c19_39, c19_40, c19_41, c19_42, e19_44, w19_44, c19_45, c19_46, c19_47, c19_48, c19_49, c19_50, e19_52, w19_52, c19_53, c19_54, c19_55, c19_56, c19_57, c19_58]
    refine ifB (fun k3 => ?_) (fun k3 => ?_)
    rotate_left
    · simp -implicitDefEqProofs (disch := omega) only [go_sem, Nat.reduceAdd, Nat.reduceMul, Nat.reduceSub, Nat.reduceBEq, Nat.reduceLeDiff, Nat.reduceLT, fn_product_Check, e19_1, w19_1, e19_3, w19_3, c19_4, e19_6, w19_6, e19_8, w19_8, c19_9, e19_11, w19_11, e19_13, w19_13, e19_15, w19_15, e19_17, w19_17, c19_18, e19_20, w19_20, e19_22, w19_22, c19_23, e19_25, w19_25, e19_27, w19_27, c19_28, e19_30, w19_30, e19_32, w19_32, c19_33, e19_35, w19_35, e19_37, w19_37, c19_38, c19_39, c19_40, c19_41, c19_42, e19_44, w19_44, c19_45, c19_46, c19_47, c19_48, c19_49, c19_50, e19_52, w19_52, c19_53, c19_54, c19_55, c19_56, c19_57, c19_58]
      exact fin 2 (bad (by simp [Product.right, k3])) (by decide)
    simp -implicitDefEqProofs (disch := omega) only [go_sem, Nat.reduceAdd, Nat.reduceMul, Nat.reduceSub, Nat.reduceBEq, Nat.reduceLeDiff, Nat.reduceLT, fn_product_Check, e19_1, w19_1, e19_3, w19_3, c19_4, e19_6, w19_6, e19_8, w19_8, c19_9, e19_11, w19_11, e19_13, w19_13, e19_15, w19_15, e19_17, w19_17, c19_18, e19_20, w19_20, e19_22, w19_22, c19_23, e19_25, w19_25, e19_27, w19_27, c19_28, e19_30, w19_30, e19_32, w19_32, c19_33, e19_35, w19_35, e19_37, w19_37, c19_38, c19_39, c19_40, c19_41, c19_42, e19_44, w19_44, c19_45, c19_46, c19_47, c19_48, c19_49, c19_50, e19_52, w19_52, c19_53, c19_54, c19_55, c19_56, c19_57, c19_58]
    first | refine callD (product_within_ok _ _ _) ?_ | refine callQD (product_within_ok _ _ _) ?_
    simp -implicitDefEqProofs (disch := omega) only [go_sem, Nat.reduceAdd, Nat.reduceMul, Nat.reduceSub, Nat.reduceBEq, Nat.reduceLeDiff, Nat.reduceLT, fn_product_Check, e19_1, w19_1, e19_3, w19_3, c19_4, e19_6, w19_6, e19_8, w19_8, c19_9, e19_11, w19_11, e19_13, w19_13, e19_15, w19_15, e19_17, w19_17, c19_18, e19_20, w19_20, e19_22, w19_22, c19_23, e19_25, w19_25, e19_27, w19_27, c19_28, e19_30, w19_30, e19_32, w19_32, c19_33, e19_35, w19_35, e19_37, w19_37, c19_38, c19_39, c19_40, c19_41, c19_42, e19_44, w19_44, c19_45, c19_46, c19_47, c19_48, c19_49, c19_50, e19_52, w19_52, c19_53, c19_54, c19_55, c19_56, c19_57, c19_58]
    refine ifB (fun k4 => ?_) (fun k4 => ?_)
    rotate_left
    · simp -implicitDefEqProofs (disch := omega) only [go_sem, Nat.reduceAdd, Nat.reduceMul, Nat.reduceSub, Nat.reduceBEq, Nat.reduceLeDiff, Nat.reduceLT, fn_product_Check, e19_1, w19_1, e19_3, w19_3, c19_4, e19_6, w19_6, e19_8, w19_8, c19_9, e19_11, w19_11, e19_13, w19_13, e19_15, w19_15, e19_17, w19_17, c19_18, e19_20, w19_20, e19_22, w19_22, c19_23, e19_25, w19_25, e19_27, w19_27, c19_28, e19_30, w19_30, e19_32, w19_32, c19_33, e19_35, w19_35, e19_37, w19_37, c19_38, c19_39, c19_40, c19_41, c19_42, e19_44, w19_44, c19_45, c19_46, c19_47, c19_48, c19_49, c19_50, e19_52, w19_52, c19_53, c19_54, c19_55, c19_56, c19_57, c19_58]
      exact fin 2 (bad (by simp [Product.right, k4])) (by decide)
    simp -implicitDefEqProofs (disch := omega) only [go_sem, Nat.reduceAdd, Nat.reduceMul, Nat.reduceSub, Nat.reduceBEq, Nat.reduceLeDiff, Nat.reduceLT, fn_product_Check, e19_1, w19_1, e19_3, w19_3, c19_4, e19_6, w19_6, e19_8, w19_8, c19_9, e19_11, w19_11, e19_13, w19_13, e19_15, w19_15, e19_17, w19_17, c19_18, e19_20, w19_20, e19_22, w19_22, c19_23, e19_25, w19_25, e19_27, w19_27, c19_28, e19_30, w19_30, e19_32, w19_32, c19_33, e19_35, w19_35, e19_37, w19_37, c19_38, c19_39, c19_40, c19_41, c19_42, e19_44, w19_44, c19_45, c19_46, c19_47, c19_48, c19_49, c19_50, e19_52, w19_52, c19_53, c19_54, c19_55, c19_56, c19_57, c19_58]
    first | refine callD (product_within_ok _ _ _) ?_ | refine callQD (product_within_ok _ _ _) ?_
    simp -implicitDefEqProofs (disch := omega) only [go_sem, Nat.reduceAdd, Nat.reduceMul, Nat.reduceSub, Nat.reduceBEq, Nat.reduceLeDiff, Nat.reduceLT, fn_product_Check, e19_1, w19_1, e19_3, w19_3, c19_4, e19_6, w19_6, e19_8, w19_8, c19_9, e19_11, w19_11, e19_13, w19_13, e19_15, w19_15, e19_17, w19_17, c19_18, e19_20, w19_20, e19_22, w19_22, c19_23, e19_25, w19_25, e19_27, w19_27, c19_28, e19_30, w19_30, e19_32, w19_32, c19_33, e19_35, w19_35, e19_37, w19_37, c19_38, c19_39, c19_40, c19_41, c19_42, e19_44, w19_44, c19_45, c19_46, c19_47, c19_48, c19_49, c19_50, e19_52, w19_52, c19_53, c19_54, c19_55, c19_56, c19_57, c19_58]
    refine ifB (fun k5 => ?_) (fun k5 => ?_)
    rotate_left
    · simp -implicitDefEqProofs (disch := omega) only [go_sem, Nat.reduceAdd, Nat.reduceMul, Nat.reduceSub, Nat.reduceBEq, Nat.reduceLeDiff, Nat.reduceLT, fn_product_Check, e19_1, w19_1, e19_3, w19_3, c19_4, e19_6, w19_6, e19_8, w19_8, c19_9, e19_11, w19_11, e19_13, w19_13, e19_15, w19_15, e19_17, w19_17, c19_18, e19_20, w19_20, e19_22, w19_22, c19_23, e19_25, w19_25, e19_27, w19_27, c19_28, e19_30, w19_30, e19_32, w19_32, c19_33, e19_35, w19_35, e19_37, w19_37, c19_38, c19_39, c19_40, c19_41, c19_42, e19_44, w19_44, c19_45, c19_46, c19_47, c19_48, c19_49, c19_50, e19_52, w19_52, c19_53, c19_54, c19_55, c19_56, c19_57, c19_58]
      exact fin 2 (bad (by simp [Product.right, k5])) (by decide)
    simp -implicitDefEqProofs (disch := omega) only [go_sem, Nat.reduceAdd, Nat.reduceMul, Nat.reduceSub, Nat.reduceBEq, Nat.reduceLeDiff, Nat.reduceLT, fn_product_Check, e19_1, w19_1, e19_3, w19_3, c19_4, e19_6, w19_6, e19_8, w19_8, c19_9, e19_11, w19_11, e19_13, w19_13, e19_15, w19_15, e19_17, w19_17, c19_18, e19_20, w19_20, e19_22, w19_22, c19_23, e19_25, w19_25, e19_27, w19_27, c19_28, e19_30, w19_30, e19_32, w19_32, c19_33, e19_35, w19_35, e19_37, w19_37, c19_38, c19_39, c19_40, c19_41, c19_42, e19_44, w19_44, c19_45, c19_46, c19_47, c19_48, c19_49, c19_50, e19_52, w19_52, c19_53, c19_54, c19_55, c19_56, c19_57, c19_58, updE_strs g2]
    refine next_pop hi rfl ⟨fun k hk => ?_, rfl, ?_⟩
    · rcases Nat.lt_or_ge k i with hlt | hge
      · exact hall k hlt
      · have : k = i := by omega
        subst this
        rw [herr, if_neg g1', if_neg g2, if_neg (by simp [Product.right, k1, k2, k3, k4, k5])]
    · have e : (f.products.take (i + 1)).map Product.id = (f.products.take i).map Product.id ++ [p.id] := by rw [List.take_add_one, hp, List.map_append] <;> rfl
      rw [e]; rfl
  · rintro vs M ⟨hall, rfl, rfl⟩
    simp -implicitDefEqProofs (disch := omega) only [go_sem, Nat.reduceAdd, Nat.reduceMul, Nat.reduceSub, Nat.reduceBEq, Nat.reduceLeDiff, Nat.reduceLT, fn_product_Check, e19_1, w19_1, e19_3, w19_3, c19_4, e19_6, w19_6, e19_8, w19_8, c19_9, e19_11, w19_11, e19_13, w19_13, e19_15, w19_15, e19_17, w19_17, c19_18, e19_20, w19_20, e19_22, w19_22, c19_23, e19_25, w19_25, e19_27, w19_27, c19_28, e19_30, w19_30, e19_32, w19_32, c19_33, e19_35, w19_35, e19_37, w19_37, c19_38, c19_39, c19_40, c19_41, c19_42, e19_44, w19_44, c19_45, c19_46, c19_47, c19_48, c19_49, c19_50, e19_52, w19_52, c19_53, c19_54, c19_55, c19_56, c19_57, c19_58, dec_irrefl, firstErr_none hall, pairV]

theorem firstErr_zero {e : Nat → Int} {n : Nat} (h : (firstErr e n).2 = 0) : ∀ k, k < n → e k = 0 := by
  intro k hk
  unfold firstErr at h
  cases hf : (List.range n).find? (fun k => decide (e k ≠ 0)) with
  | none =>
    rw [List.find?_eq_none] at hf
    have := hf k (List.mem_range.2 hk)
    simpa using this
  | some j =>
    rw [hf] at h
    have := List.find?_some hf
    simp only [ne_eq, decide_not, Bool.not_eq_true', decide_eq_false_iff_not] at this
    exact absurd h this

theorem within_iff {n a b : Int} : within n a b = true ↔ a ≤ n ∧ n ≤ b := by simp [within]

structure Fares.Ok (f : Fares) : Prop where
  discount : 0 ≤ f.discount ∧ f.discount ≤ 1000000
  within : 0 ≤ f.within ∧ f.within ≤ 86400
  limit : 0 ≤ f.limit ∧ f.limit ≤ 1000000
  len : f.products.length ≤ 16
  prods : ∀ p ∈ f.products, (0 ≤ p.price ∧ p.price ≤ 1000000) ∧ (1 ≤ p.rides ∧ p.rides ≤ 8) ∧ (1 ≤ p.zones ∧ p.zones ≤ 16) ∧ (0 ≤ p.seconds ∧ p.seconds ≤ 86400) ∧ (1 ≤ p.modes ∧ p.modes ≤ 255)

theorem checkRes_ok {f : Fares} (h : (checkRes f).2 = 0) : f.Ok := by
  unfold checkRes at h
  split at h
  · rename_i hw
    split at h
    · simp at h
    · rename_i hl
      have hz := firstErr_zero h
      refine ⟨within_iff.1 hw.1, within_iff.1 hw.2.1, within_iff.1 hw.2.2, by omega, fun p hp => ?_⟩
      obtain ⟨i, hi⟩ := List.getElem?_of_mem hp
      have := hz i (List.getElem?_eq_some_iff.1 hi).1
      simp only [prodErr, hi] at this
      split at this
      · simp at this
      · split at this
        · simp at this
        · split at this
          · simp at this
          · rename_i hr
            simp only [Bool.not_eq_false, Product.right, Bool.and_eq_true, within_iff] at hr
            exact hr
  · simp at h

def priceAt (f : Fares) (i : Nat) : Int := ((f.products[i]?).map Product.price).getD 0
theorem priceAt_eq {f : Fares} {i : Nat} {p : Product} (h : f.products[i]? = some p) : priceAt f i = p.price := by simp [priceAt, h]

/-- The price of a ticket. -/
def priceRes (f : Fares) (i : Int) (first : Bool) (wait : Int) : Int × Bool :=
  if (checkRes f).2 ≠ 0 ∨ i < 0 ∨ (f.products.length : Int) ≤ i then (0, false)
  else if first = true ∨ f.within < wait then (priceAt f i.toNat, true) else (max 0 (priceAt f i.toNat - f.discount), true)

def prV (p : Int × Bool) : V := .tuple [.int .i64 p.1, .bool p.2]

theorem priceRes_no {f : Fares} {i : Int} {first : Bool} {wait : Int} (h : (checkRes f).2 ≠ 0 ∨ i < 0 ∨ (f.products.length : Int) ≤ i) : priceRes f i first wait = (0, false) := by rw [priceRes, if_pos h]

/-! ### Cheapest -/
def better (pr : Nat → Int) (b i : Nat) : Nat := if pr i < pr b then i else b
def bestK (pr : Nat → Int) (l : List Nat) (k : Nat) : Nat := (l.take k).foldl (better pr) (l.headD 0)
theorem bestK_succ {pr : Nat → Int} {l : List Nat} {k i : Nat} (h : l[k]? = some i) : bestK pr l (k + 1) = better pr (bestK pr l k) i := by
  rw [bestK, List.take_add_one, h, List.foldl_append]; rfl
theorem bestK_zero {pr : Nat → Int} {l : List Nat} {i : Nat} (h : l[0]? = some i) : bestK pr l 0 = i := by
  cases l with
  | nil => simp at h
  | cons a r => simp at h; simp [bestK, h]
theorem bestK_mem {pr : Nat → Int} {l : List Nat} (h : 0 < l.length) : ∀ k, k ≤ l.length → bestK pr l k ∈ l
  | 0, _ => by
    cases l with
    | nil => simp at h
    | cons a r => simp [bestK]
  | k + 1, hk => by
    obtain ⟨i, hi⟩ : ∃ i, l[k]? = some i := ⟨l[k], by simp⟩
    rw [bestK_succ hi, better]
    split
    · exact List.mem_of_getElem? hi
    · exact bestK_mem h k (by omega)

/-- The cheapest product. -/
def cheapest (f : Fares) (l : List Ride) : Int × Int × Bool :=
  if (checkRes f).2 ≠ 0 ∨ (options f l).length = 0 then (0, 0, false)
  else let b := bestK (priceAt f) (options f l) (options f l).length; ((b : Int), priceAt f b, true)
def chV (p : Int × Int × Bool) : V := .tuple [.int .i64 p.1, .int .i64 p.2.1, .bool p.2.2]

/-- What is kept after k options. -/
def kept (f : Fares) (o : List Nat) (k : Nat) : Mem :=
  if k = 0 then [.box f.row, .box [.int .i64 0], .box [.int .i64 0], .box [.bool false]]
  else [.box f.row, .box [.int .i64 (bestK (priceAt f) o k)], .box [.int .i64 (priceAt f (bestK (priceAt f) o k))], .box [.bool true]]

theorem options_len (f : Fares) (l : List Ride) : (options f l).length ≤ f.products.length := idxs_le _ _
theorem options_lt {f : Fares} {l : List Ride} {i : Nat} (h : i ∈ options f l) : i < f.products.length := (idxs_mem.1 h).1

/-! ### Lists of integers -/
end Go.Vm.C

