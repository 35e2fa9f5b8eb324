/- The statement AccountCap. -/
import Derived.Test.YtojpmklnmaomlaaT11

namespace Go.Vm.C
open Go.Vm
set_option maxHeartbeats 1000000
set_option maxRecDepth 10000
set_option linter.unusedSimpArgs false
set_option linter.unusedVariables false

/-! ### What the arguments read as -/
def ctProduct : List CT := [.str, .int .i64, .int .i64, .int .i64, .int .i64, .int .i64]
def ctRide : List CT := [.int .i64, .int .i64, .int .i64, .int .i64]
def ctFares : List CT := [.slice ctProduct, .int .i64, .int .i64, .int .i64]

theorem read_product {vs : List V} (h : HasR ctProduct vs) : ∃ p : Product, vs = p.row ∧ p.wf := by
  obtain ⟨_, _, rfl, h1, h⟩ := hasR_cons h
  obtain ⟨_, _, rfl, h2, h⟩ := hasR_cons h
  obtain ⟨_, _, rfl, h3, h⟩ := hasR_cons h
  obtain ⟨_, _, rfl, h4, h⟩ := hasR_cons h
  obtain ⟨_, _, rfl, h5, h⟩ := hasR_cons h
  obtain ⟨_, _, rfl, h6, h⟩ := hasR_cons h
  cases hasR_nil h
  obtain ⟨s, rfl, hs⟩ := hasC_str h1
  obtain ⟨a, rfl, ha⟩ := hasC_i64 h2
  obtain ⟨b, rfl, hb⟩ := hasC_i64 h3
  obtain ⟨c, rfl, hc⟩ := hasC_i64 h4
  obtain ⟨d, rfl, hd⟩ := hasC_i64 h5
  obtain ⟨e, rfl, he⟩ := hasC_i64 h6
  exact ⟨⟨s, a, b, c, d, e⟩, rfl, hs, ha, hb, hc, hd, he⟩

theorem read_ride {vs : List V} (h : HasR ctRide vs) : ∃ r : Ride, vs = r.row ∧ r.wf := by
  obtain ⟨_, _, rfl, h1, h⟩ := hasR_cons h
  obtain ⟨_, _, rfl, h2, h⟩ := hasR_cons h
  obtain ⟨_, _, rfl, h3, h⟩ := hasR_cons h
  obtain ⟨_, _, rfl, h4, h⟩ := hasR_cons h
  cases hasR_nil h
  obtain ⟨a, rfl, ha⟩ := hasC_i64 h1
  obtain ⟨b, rfl, hb⟩ := hasC_i64 h2
  obtain ⟨c, rfl, hc⟩ := hasC_i64 h3
  obtain ⟨d, rfl, hd⟩ := hasC_i64 h4
  exact ⟨⟨a, b, c, d⟩, rfl, ha, hb, hc, hd⟩

theorem read_fares {vs : List V} (h : HasR ctFares vs) : ∃ f : Fares, vs = f.row ∧ f.wf := by
  obtain ⟨_, _, rfl, h1, h⟩ := hasR_cons h
  obtain ⟨_, _, rfl, h2, h⟩ := hasR_cons h
  obtain ⟨_, _, rfl, h3, h⟩ := hasR_cons h
  obtain ⟨_, _, rfl, h4, h⟩ := hasR_cons h
  cases hasR_nil h
  obtain ⟨l, c, rfl, hl, hlen, _⟩ := hasC_slice (fun vs h => read_product h) h1
  obtain ⟨a, rfl, ha⟩ := hasC_i64 h2
  obtain ⟨b, rfl, hb⟩ := hasC_i64 h3
  obtain ⟨d, rfl, hd⟩ := hasC_i64 h4
  exact ⟨⟨l, c, a, b, d⟩, rfl, hl, hlen, ha, hb, hd⟩

theorem read_rides {v : V} (h : HasC (.slice ctRide) v) : ∃ (l : List Ride) (c : Cap), v = .slice (l.map Ride.row) c ∧ (∀ r ∈ l, r.wf) ∧ l.length ≤ maxLen := by
  obtain ⟨l, c, rfl, hl, hlen, _⟩ := hasC_slice (fun vs h => read_ride h) h
  exact ⟨l, c, rfl, hl, hlen⟩

/-! ### The statements' functions -/
/-! ### The cap -/
def Within (L : List (Int × Int)) (B : Int) : Prop := ∀ d, 0 ≤ spentOn L d ∧ spentOn L d ≤ B
theorem within_nil {B : Int} (h : 0 ≤ B) : Within [] B := fun d => ⟨Int.le_refl 0, h⟩
theorem within_set {L : List (Int × Int)} {B d n : Int} (h : Within L B) (h0 : 0 ≤ n) (h1 : n ≤ B) : Within (setL L d n) B := by
  intro e
  rw [spentOn_set]
  split
  · exact ⟨h0, h1⟩
  · exact h e
theorem refund_within {L : List (Int × Int)} {B : Int} (h : Within L B) (d n : Int) : Within (refundRes L d n).2 B := by
  unfold refundRes
  cases hg : getL L d with
  | none => exact h
  | some s =>
    have hs := h d
    simp only [spentOn, hg, Option.getD_some] at hs
    simp only
    split
    · exact h
    · exact within_set h (by omega) (by omega)
theorem charge_cap {f : Fares} (hc : (checkRes f).2 = 0) (h0 : f.limit ≠ 0) {L : List (Int × Int)} (h : Within L f.limit) (d : Int) (l : List Ride) : Within (chargeRes f L d l).2.2 f.limit := by
  unfold chargeRes
  split
  · exact h
  · split
    · exact h
    · have hs := h d
      have hr := ref_range (l := l) hc
      have e : chargeAmt f L d l = min (fareRes f l).1 (f.limit - spentOn L d) := by rw [chargeAmt, if_pos h0]
      exact within_set h (by rw [e]; omega) (by rw [e]; omega)
theorem do_cap {f : Fares} (hc : (checkRes f).2 = 0) (h0 : f.limit ≠ 0) {L : List (Int × Int)} (h : Within L f.limit) (o : Oper) : Within (doRes f L o).2.2 f.limit := by
  unfold doRes
  split
  · exact refund_within h _ _
  · exact charge_cap hc h0 h _ _
theorem From.first {b : Blk} {N : Mem} (h : From [b] N) : N[0]? = some b := by
  have h1 := h.take
  cases N with
  | nil => simp at h1
  | cons c N => simp at h1; simp [h1]
theorem AccountCap_law (f : Fares) (l : List Oper) (c : Cap) (hf : f.wf) (ht : f.tag = .nil ∧ f.products = [] ∨ f.tag = .any ∨ f.tag = .full) (hl : ∀ o ∈ l, o.wf) : PCalls PR i_transitlaw37_AccountCap [.agg f.row, .slice (l.map Oper.row) c] (fun v => v = .bool true) := by
  have hown : memUnder ([.box f.row] : Mem).length [.box f.row] = true := by simp [memUnder, Blk.under, underL, V.under, Fares.row]
  simp only [Fares.row] at hown
  have hex : ∀ {N : Mem}, memUnder N.length N = true → ACalls PR i_transitlaw37_exampleHolds [] N (fun v M' => v = .bool true ∧ M' = N) := fun h => exampleHolds_ok h
  refine acalls_pop fn_transitlaw37_AccountCap_ok (by simp [fn_transitlaw37_AccountCap]) ?_
  simp -implicitDefEqProofs (disch := omega) only [go_sem, Nat.reduceAdd, Nat.reduceMul, Nat.reduceSub, Nat.reduceBEq, Nat.reduceLeDiff, Nat.reduceLT, fn_transitlaw37_AccountCap, e3_1, w3_1, e3_3, w3_3, c3_4, e3_6, w3_6, e3_8, w3_8, e3_10, w3_10, c3_11, e3_13, w3_13, e3_15, w3_15, e3_17, w3_17, e3_19, w3_19, e3_21, w3_21, e3_23, w3_23, e3_25, w3_25, e3_27, w3_27, e3_29, w3_29, e3_31, w3_31, c3_32, e3_34, w3_34, c3_35, c3_36, c3_37, c3_38, e3_40, w3_40, c3_41, c3_42, c3_43, c3_44, c3_45, c3_46, c3_47, e3_49, w3_49, c3_50, c3_51, c3_52, c3_53, c3_54, e3_56, w3_56, c3_57, c3_58, c3_59, c3_60, c3_61, c3_62, Fares.row]
  first | refine callD (large37_ok f l c hl) ?_ | refine callQD (large37_ok f l c hl) ?_
  simp -implicitDefEqProofs (disch := omega) only [go_sem, Nat.reduceAdd, Nat.reduceMul, Nat.reduceSub, Nat.reduceBEq, Nat.reduceLeDiff, Nat.reduceLT, fn_transitlaw37_AccountCap, e3_1, w3_1, e3_3, w3_3, c3_4, e3_6, w3_6, e3_8, w3_8, e3_10, w3_10, c3_11, e3_13, w3_13, e3_15, w3_15, e3_17, w3_17, e3_19, w3_19, e3_21, w3_21, e3_23, w3_23, e3_25, w3_25, e3_27, w3_27, e3_29, w3_29, e3_31, w3_31, c3_32, e3_34, w3_34, c3_35, c3_36, c3_37, c3_38, e3_40, w3_40, c3_41, c3_42, c3_43, c3_44, c3_45, c3_46, c3_47, e3_49, w3_49, c3_50, c3_51, c3_52, c3_53, c3_54, e3_56, w3_56, c3_57, c3_58, c3_59, c3_60, c3_61, c3_62]
  refine ifB (fun h1 => ?_) (fun h1 => ?_)
  · simp -implicitDefEqProofs (disch := omega) only [go_sem, Nat.reduceAdd, Nat.reduceMul, Nat.reduceSub, Nat.reduceBEq, Nat.reduceLeDiff, Nat.reduceLT, fn_transitlaw37_AccountCap, e3_1, w3_1, e3_3, w3_3, c3_4, e3_6, w3_6, e3_8, w3_8, e3_10, w3_10, c3_11, e3_13, w3_13, e3_15, w3_15, e3_17, w3_17, e3_19, w3_19, e3_21, w3_21, e3_23, w3_23, e3_25, w3_25, e3_27, w3_27, e3_29, w3_29, e3_31, w3_31, c3_32, e3_34, w3_34, c3_35, c3_36, c3_37, c3_38, e3_40, w3_40, c3_41, c3_42, c3_43, c3_44, c3_45, c3_46, c3_47, e3_49, w3_49, c3_50, c3_51, c3_52, c3_53, c3_54, e3_56, w3_56, c3_57, c3_58, c3_59, c3_60, c3_61, c3_62]
    refine callA (hex hown) ?_
    rintro v N ⟨rfl, rfl⟩
    simp -implicitDefEqProofs (disch := omega) only [go_sem, Nat.reduceAdd, Nat.reduceMul, Nat.reduceSub, Nat.reduceBEq, Nat.reduceLeDiff, Nat.reduceLT, fn_transitlaw37_AccountCap, e3_1, w3_1, e3_3, w3_3, c3_4, e3_6, w3_6, e3_8, w3_8, e3_10, w3_10, c3_11, e3_13, w3_13, e3_15, w3_15, e3_17, w3_17, e3_19, w3_19, e3_21, w3_21, e3_23, w3_23, e3_25, w3_25, e3_27, w3_27, e3_29, w3_29, e3_31, w3_31, c3_32, e3_34, w3_34, c3_35, c3_36, c3_37, c3_38, e3_40, w3_40, c3_41, c3_42, c3_43, c3_44, c3_45, c3_46, c3_47, e3_49, w3_49, c3_50, c3_51, c3_52, c3_53, c3_54, e3_56, w3_56, c3_57, c3_58, c3_59, c3_60, c3_61, c3_62]
  have hll : l.length ≤ 40 := by
    simp only [largeB, Bool.not_eq_false', Bool.and_eq_true, decide_eq_true_eq] at h1
    exact h1.1.2
  simp -implicitDefEqProofs (disch := omega) only [go_sem, Nat.reduceAdd, Nat.reduceMul, Nat.reduceSub, Nat.reduceBEq, Nat.reduceLeDiff, Nat.reduceLT, fn_transitlaw37_AccountCap, e3_1, w3_1, e3_3, w3_3, c3_4, e3_6, w3_6, e3_8, w3_8, e3_10, w3_10, c3_11, e3_13, w3_13, e3_15, w3_15, e3_17, w3_17, e3_19, w3_19, e3_21, w3_21, e3_23, w3_23, e3_25, w3_25, e3_27, w3_27, e3_29, w3_29, e3_31, w3_31, c3_32, e3_34, w3_34, c3_35, c3_36, c3_37, c3_38, e3_40, w3_40, c3_41, c3_42, c3_43, c3_44, c3_45, c3_46, c3_47, e3_49, w3_49, c3_50, c3_51, c3_52, c3_53, c3_54, e3_56, w3_56, c3_57, c3_58, c3_59, c3_60, c3_61, c3_62]
  refine ifD (fun h2 => ?_) (fun h2 => ?_)
  · simp -implicitDefEqProofs (disch := omega) only [go_sem, Nat.reduceAdd, Nat.reduceMul, Nat.reduceSub, Nat.reduceBEq, Nat.reduceLeDiff, Nat.reduceLT, fn_transitlaw37_AccountCap, e3_1, w3_1, e3_3, w3_3, c3_4, e3_6, w3_6, e3_8, w3_8, e3_10, w3_10, c3_11, e3_13, w3_13, e3_15, w3_15, e3_17, w3_17, e3_19, w3_19, e3_21, w3_21, e3_23, w3_23, e3_25, w3_25, e3_27, w3_27, e3_29, w3_29, e3_31, w3_31, c3_32, e3_34, w3_34, c3_35, c3_36, c3_37, c3_38, e3_40, w3_40, c3_41, c3_42, c3_43, c3_44, c3_45, c3_46, c3_47, e3_49, w3_49, c3_50, c3_51, c3_52, c3_53, c3_54, e3_56, w3_56, c3_57, c3_58, c3_59, c3_60, c3_61, c3_62]
    refine callA (hex hown) ?_
    rintro v N ⟨rfl, rfl⟩
    simp -implicitDefEqProofs (disch := omega) only [go_sem, Nat.reduceAdd, Nat.reduceMul, Nat.reduceSub, Nat.reduceBEq, Nat.reduceLeDiff, Nat.reduceLT, fn_transitlaw37_AccountCap, e3_1, w3_1, e3_3, w3_3, c3_4, e3_6, w3_6, e3_8, w3_8, e3_10, w3_10, c3_11, e3_13, w3_13, e3_15, w3_15, e3_17, w3_17, e3_19, w3_19, e3_21, w3_21, e3_23, w3_23, e3_25, w3_25, e3_27, w3_27, e3_29, w3_29, e3_31, w3_31, c3_32, e3_34, w3_34, c3_35, c3_36, c3_37, c3_38, e3_40, w3_40, c3_41, c3_42, c3_43, c3_44, c3_45, c3_46, c3_47, e3_49, w3_49, c3_50, c3_51, c3_52, c3_53, c3_54, e3_56, w3_56, c3_57, c3_58, c3_59, c3_60, c3_61, c3_62]
  simp -implicitDefEqProofs (disch := omega) only [go_sem, Nat.reduceAdd, Nat.reduceMul, Nat.reduceSub, Nat.reduceBEq, Nat.reduceLeDiff, Nat.reduceLT, fn_transitlaw37_AccountCap, e3_1, w3_1, e3_3, w3_3, c3_4, e3_6, w3_6, e3_8, w3_8, e3_10, w3_10, c3_11, e3_13, w3_13, e3_15, w3_15, e3_17, w3_17, e3_19, w3_19, e3_21, w3_21, e3_23, w3_23, e3_25, w3_25, e3_27, w3_27, e3_29, w3_29, e3_31, w3_31, c3_32, e3_34, w3_34, c3_35, c3_36, c3_37, c3_38, e3_40, w3_40, c3_41, c3_42, c3_43, c3_44, c3_45, c3_46, c3_47, e3_49, w3_49, c3_50, c3_51, c3_52, c3_53, c3_54, e3_56, w3_56, c3_57, c3_58, c3_59, c3_60, c3_61, c3_62]
  refine callA (account_New_ok f hf ht hown) ?_
  rintro v N ⟨⟨L, rfl⟩, hNu, hbad, hgood⟩
  have hT := From.app [.box [.slice (f.products.map Product.row) f.tag, .int .i64 f.discount, .int .i64 f.within, .int .i64 f.limit]] L
  by_cases hc : (checkRes f).2 = 0
  rotate_left
  · obtain rfl := hbad hc
    generalize [Blk.box _] ++ L = N at *
    simp -implicitDefEqProofs (disch := omega) only [go_sem, Nat.reduceAdd, Nat.reduceMul, Nat.reduceSub, Nat.reduceBEq, Nat.reduceLeDiff, Nat.reduceLT, fn_transitlaw37_AccountCap, e3_1, w3_1, e3_3, w3_3, c3_4, e3_6, w3_6, e3_8, w3_8, e3_10, w3_10, c3_11, e3_13, w3_13, e3_15, w3_15, e3_17, w3_17, e3_19, w3_19, e3_21, w3_21, e3_23, w3_23, e3_25, w3_25, e3_27, w3_27, e3_29, w3_29, e3_31, w3_31, c3_32, e3_34, w3_34, c3_35, c3_36, c3_37, c3_38, e3_40, w3_40, c3_41, c3_42, c3_43, c3_44, c3_45, c3_46, c3_47, e3_49, w3_49, c3_50, c3_51, c3_52, c3_53, c3_54, e3_56, w3_56, c3_57, c3_58, c3_59, c3_60, c3_61, c3_62]
    refine ifD (fun h3 => ?_) (fun h3 => ?_)
    · omega
    simp -implicitDefEqProofs (disch := omega) only [go_sem, Nat.reduceAdd, Nat.reduceMul, Nat.reduceSub, Nat.reduceBEq, Nat.reduceLeDiff, Nat.reduceLT, fn_transitlaw37_AccountCap, e3_1, w3_1, e3_3, w3_3, c3_4, e3_6, w3_6, e3_8, w3_8, e3_10, w3_10, c3_11, e3_13, w3_13, e3_15, w3_15, e3_17, w3_17, e3_19, w3_19, e3_21, w3_21, e3_23, w3_23, e3_25, w3_25, e3_27, w3_27, e3_29, w3_29, e3_31, w3_31, c3_32, e3_34, w3_34, c3_35, c3_36, c3_37, c3_38, e3_40, w3_40, c3_41, c3_42, c3_43, c3_44, c3_45, c3_46, c3_47, e3_49, w3_49, c3_50, c3_51, c3_52, c3_53, c3_54, e3_56, w3_56, c3_57, c3_58, c3_59, c3_60, c3_61, c3_62, eq_nil_nil]
    refine callA (hex hNu) ?_
    rintro v N ⟨rfl, rfl⟩
    simp -implicitDefEqProofs (disch := omega) only [go_sem, Nat.reduceAdd, Nat.reduceMul, Nat.reduceSub, Nat.reduceBEq, Nat.reduceLeDiff, Nat.reduceLT, fn_transitlaw37_AccountCap, e3_1, w3_1, e3_3, w3_3, c3_4, e3_6, w3_6, e3_8, w3_8, e3_10, w3_10, c3_11, e3_13, w3_13, e3_15, w3_15, e3_17, w3_17, e3_19, w3_19, e3_21, w3_21, e3_23, w3_23, e3_25, w3_25, e3_27, w3_27, e3_29, w3_29, e3_31, w3_31, c3_32, e3_34, w3_34, c3_35, c3_36, c3_37, c3_38, e3_40, w3_40, c3_41, c3_42, c3_43, c3_44, c3_45, c3_46, c3_47, e3_49, w3_49, c3_50, c3_51, c3_52, c3_53, c3_54, e3_56, w3_56, c3_57, c3_58, c3_59, c3_60, c3_61, c3_62]
  obtain ⟨id, mid, t, rfl, hid, hmid, hA⟩ := hgood hc
  have hwf := tag_wf hf t
  have hck : (checkRes ⟨f.products, t, f.discount, f.within, f.limit⟩).2 = 0 := by rw [checkRes_tag]; exact hc
  have hlim := (checkRes_ok hc).limit
  generalize [Blk.box _] ++ L = N at *
  simp -implicitDefEqProofs (disch := omega) only [go_sem, Nat.reduceAdd, Nat.reduceMul, Nat.reduceSub, Nat.reduceBEq, Nat.reduceLeDiff, Nat.reduceLT, fn_transitlaw37_AccountCap, e3_1, w3_1, e3_3, w3_3, c3_4, e3_6, w3_6, e3_8, w3_8, e3_10, w3_10, c3_11, e3_13, w3_13, e3_15, w3_15, e3_17, w3_17, e3_19, w3_19, e3_21, w3_21, e3_23, w3_23, e3_25, w3_25, e3_27, w3_27, e3_29, w3_29, e3_31, w3_31, c3_32, e3_34, w3_34, c3_35, c3_36, c3_37, c3_38, e3_40, w3_40, c3_41, c3_42, c3_43, c3_44, c3_45, c3_46, c3_47, e3_49, w3_49, c3_50, c3_51, c3_52, c3_53, c3_54, e3_56, w3_56, c3_57, c3_58, c3_59, c3_60, c3_61, c3_62]
  refine wpC_for l.length (fun i vs N => ∃ L, Acc N ⟨f.products, t, f.discount, f.within, f.limit⟩ id mid L ∧ From [.box [.slice (f.products.map Product.row) f.tag, .int .i64 f.discount, .int .i64 f.within, .int .i64 f.limit]] N ∧ Within L f.limit ∧ vs = [.slice (l.map Oper.row) c, .ptr 0 0, .ptr id 0, .int .i64 i]) ⟨[], hA, hT, within_nil hlim.1, rfl⟩ ?_ ?_
  rotate_left
  · rintro vs N ⟨L, hA, hT, hW, rfl⟩
    simp -implicitDefEqProofs (disch := omega) only [go_sem, Nat.reduceAdd, Nat.reduceMul, Nat.reduceSub, Nat.reduceBEq, Nat.reduceLeDiff, Nat.reduceLT, fn_transitlaw37_AccountCap, e3_1, w3_1, e3_3, w3_3, c3_4, e3_6, w3_6, e3_8, w3_8, e3_10, w3_10, c3_11, e3_13, w3_13, e3_15, w3_15, e3_17, w3_17, e3_19, w3_19, e3_21, w3_21, e3_23, w3_23, e3_25, w3_25, e3_27, w3_27, e3_29, w3_29, e3_31, w3_31, c3_32, e3_34, w3_34, c3_35, c3_36, c3_37, c3_38, e3_40, w3_40, c3_41, c3_42, c3_43, c3_44, c3_45, c3_46, c3_47, e3_49, w3_49, c3_50, c3_51, c3_52, c3_53, c3_54, e3_56, w3_56, c3_57, c3_58, c3_59, c3_60, c3_61, c3_62, dec_irrefl]
    refine callA (hex hA.own) ?_
    rintro v N ⟨rfl, rfl⟩
    simp -implicitDefEqProofs (disch := omega) only [go_sem, Nat.reduceAdd, Nat.reduceMul, Nat.reduceSub, Nat.reduceBEq, Nat.reduceLeDiff, Nat.reduceLT, fn_transitlaw37_AccountCap, e3_1, w3_1, e3_3, w3_3, c3_4, e3_6, w3_6, e3_8, w3_8, e3_10, w3_10, c3_11, e3_13, w3_13, e3_15, w3_15, e3_17, w3_17, e3_19, w3_19, e3_21, w3_21, e3_23, w3_23, e3_25, w3_25, e3_27, w3_27, e3_29, w3_29, e3_31, w3_31, c3_32, e3_34, w3_34, c3_35, c3_36, c3_37, c3_38, e3_40, w3_40, c3_41, c3_42, c3_43, c3_44, c3_45, c3_46, c3_47, e3_49, w3_49, c3_50, c3_51, c3_52, c3_53, c3_54, e3_56, w3_56, c3_57, c3_58, c3_59, c3_60, c3_61, c3_62]
  rintro i vs N hi hid' ⟨L, hA, hT, hW, rfl⟩
  obtain ⟨o, ho⟩ : ∃ o, l[i]? = some o := ⟨l[i], by simp⟩
  simp -implicitDefEqProofs (disch := omega) only [go_sem, Nat.reduceAdd, Nat.reduceMul, Nat.reduceSub, Nat.reduceBEq, Nat.reduceLeDiff, Nat.reduceLT, fn_transitlaw37_AccountCap, e3_1, w3_1, e3_3, w3_3, c3_4, e3_6, w3_6, e3_8, w3_8, e3_10, w3_10, c3_11, e3_13, w3_13, e3_15, w3_15, e3_17, w3_17, e3_19, w3_19, e3_21, w3_21, e3_23, w3_23, e3_25, w3_25, e3_27, w3_27, e3_29, w3_29, e3_31, w3_31, c3_32, e3_34, w3_34, c3_35, c3_36, c3_37, c3_38, e3_40, w3_40, c3_41, c3_42, c3_43, c3_44, c3_45, c3_46, c3_47, e3_49, w3_49, c3_50, c3_51, c3_52, c3_53, c3_54, e3_56, w3_56, c3_57, c3_58, c3_59, c3_60, c3_61, c3_62, hid', ho, Oper.row]
  have hb := hW o.day
  refine callA (do_ok hwf hck hA o (hl o (List.mem_of_getElem? ho)) ⟨hb.1, by omega⟩) ?_
  rintro v N' ⟨rfl, rfl⟩
  have hA := hA.set (doRes ⟨f.products, t, f.discount, f.within, f.limit⟩ L o).2.2
  have hT := hT.set hmid (.map (dayMap (doRes ⟨f.products, t, f.discount, f.within, f.limit⟩ L o).2.2))
  rw [doRes_tag] at hA hT ⊢
  have hW := do_cap hc h2 hW o
  generalize (doRes f L o).2.2 = L' at *
  generalize N.set mid (.map (dayMap L')) = N' at *
  have h0 := hT.first
  simp -implicitDefEqProofs (disch := omega) only [go_sem, Nat.reduceAdd, Nat.reduceMul, Nat.reduceSub, Nat.reduceBEq, Nat.reduceLeDiff, Nat.reduceLT, fn_transitlaw37_AccountCap, e3_1, w3_1, e3_3, w3_3, c3_4, e3_6, w3_6, e3_8, w3_8, e3_10, w3_10, c3_11, e3_13, w3_13, e3_15, w3_15, e3_17, w3_17, e3_19, w3_19, e3_21, w3_21, e3_23, w3_23, e3_25, w3_25, e3_27, w3_27, e3_29, w3_29, e3_31, w3_31, c3_32, e3_34, w3_34, c3_35, c3_36, c3_37, c3_38, e3_40, w3_40, c3_41, c3_42, c3_43, c3_44, c3_45, c3_46, c3_47, e3_49, w3_49, c3_50, c3_51, c3_52, c3_53, c3_54, e3_56, w3_56, c3_57, c3_58, c3_59, c3_60, c3_61, c3_62]
  refine wpC_for (i + 1) (fun k vs N => vs = [.slice (l.map Oper.row) c, .ptr 0 0, .ptr id 0, .int .i64 i, .int .i64 k] ∧ N = N') ⟨rfl, rfl⟩ ?_ ?_
  rotate_left
  · rintro vs N ⟨rfl, rfl⟩
    simp -implicitDefEqProofs (disch := omega) only [go_sem, Nat.reduceAdd, Nat.reduceMul, Nat.reduceSub, Nat.reduceBEq, Nat.reduceLeDiff, Nat.reduceLT, fn_transitlaw37_AccountCap, e3_1, w3_1, e3_3, w3_3, c3_4, e3_6, w3_6, e3_8, w3_8, e3_10, w3_10, c3_11, e3_13, w3_13, e3_15, w3_15, e3_17, w3_17, e3_19, w3_19, e3_21, w3_21, e3_23, w3_23, e3_25, w3_25, e3_27, w3_27, e3_29, w3_29, e3_31, w3_31, c3_32, e3_34, w3_34, c3_35, c3_36, c3_37, c3_38, e3_40, w3_40, c3_41, c3_42, c3_43, c3_44, c3_45, c3_46, c3_47, e3_49, w3_49, c3_50, c3_51, c3_52, c3_53, c3_54, e3_56, w3_56, c3_57, c3_58, c3_59, c3_60, c3_61, c3_62]
    refine ifD (fun h3 => ?_) (fun h3 => ?_)
    · omega
    simp -implicitDefEqProofs (disch := omega) only [go_sem, Nat.reduceAdd, Nat.reduceMul, Nat.reduceSub, Nat.reduceBEq, Nat.reduceLeDiff, Nat.reduceLT, fn_transitlaw37_AccountCap, e3_1, w3_1, e3_3, w3_3, c3_4, e3_6, w3_6, e3_8, w3_8, e3_10, w3_10, c3_11, e3_13, w3_13, e3_15, w3_15, e3_17, w3_17, e3_19, w3_19, e3_21, w3_21, e3_23, w3_23, e3_25, w3_25, e3_27, w3_27, e3_29, w3_29, e3_31, w3_31, c3_32, e3_34, w3_34, c3_35, c3_36, c3_37, c3_38, e3_40, w3_40, c3_41, c3_42, c3_43, c3_44, c3_45, c3_46, c3_47, e3_49, w3_49, c3_50, c3_51, c3_52, c3_53, c3_54, e3_56, w3_56, c3_57, c3_58, c3_59, c3_60, c3_61, c3_62]
    refine next_stay hi ⟨L', hA, hT, hW, ?_⟩
    simp only [vals, sget]; rfl
  rintro k vs N hk hkd ⟨rfl, rfl⟩
  obtain ⟨p, hp⟩ : ∃ p, l[k]? = some p := ⟨l[k], by simp⟩
  have hb := hW p.day
  simp -implicitDefEqProofs (disch := omega) only [go_sem, Nat.reduceAdd, Nat.reduceMul, Nat.reduceSub, Nat.reduceBEq, Nat.reduceLeDiff, Nat.reduceLT, fn_transitlaw37_AccountCap, e3_1, w3_1, e3_3, w3_3, c3_4, e3_6, w3_6, e3_8, w3_8, e3_10, w3_10, c3_11, e3_13, w3_13, e3_15, w3_15, e3_17, w3_17, e3_19, w3_19, e3_21, w3_21, e3_23, w3_23, e3_25, w3_25, e3_27, w3_27, e3_29, w3_29, e3_31, w3_31, c3_32, e3_34, w3_34, c3_35, c3_36, c3_37, c3_38, e3_40, w3_40, c3_41, c3_42, c3_43, c3_44, c3_45, c3_46, c3_47, e3_49, w3_49, c3_50, c3_51, c3_52, c3_53, c3_54, e3_56, w3_56, c3_57, c3_58, c3_59, c3_60, c3_61, c3_62]
  refine ifD (fun h3 => ?_) (fun h3 => ?_)
  rotate_left
  · omega
  simp -implicitDefEqProofs (disch := omega) only [go_sem, Nat.reduceAdd, Nat.reduceMul, Nat.reduceSub, Nat.reduceBEq, Nat.reduceLeDiff, Nat.reduceLT, fn_transitlaw37_AccountCap, e3_1, w3_1, e3_3, w3_3, c3_4, e3_6, w3_6, e3_8, w3_8, e3_10, w3_10, c3_11, e3_13, w3_13, e3_15, w3_15, e3_17, w3_17, e3_19, w3_19, e3_21, w3_21, e3_23, w3_23, e3_25, w3_25, e3_27, w3_27, e3_29, w3_29, e3_31, w3_31, c3_32, e3_34, w3_34, c3_35, c3_36, c3_37, c3_38, e3_40, w3_40, c3_41, c3_42, c3_43, c3_44, c3_45, c3_46, c3_47, e3_49, w3_49, c3_50, c3_51, c3_52, c3_53, c3_54, e3_56, w3_56, c3_57, c3_58, c3_59, c3_60, c3_61, c3_62, hp, Oper.row]
  refine callA (Account_Spent_ok hA p.day) ?_
  rintro v N' ⟨rfl, rfl⟩
  simp -implicitDefEqProofs (disch := omega) only [go_sem, Nat.reduceAdd, Nat.reduceMul, Nat.reduceSub, Nat.reduceBEq, Nat.reduceLeDiff, Nat.reduceLT, fn_transitlaw37_AccountCap, e3_1, w3_1, e3_3, w3_3, c3_4, e3_6, w3_6, e3_8, w3_8, e3_10, w3_10, c3_11, e3_13, w3_13, e3_15, w3_15, e3_17, w3_17, e3_19, w3_19, e3_21, w3_21, e3_23, w3_23, e3_25, w3_25, e3_27, w3_27, e3_29, w3_29, e3_31, w3_31, c3_32, e3_34, w3_34, c3_35, c3_36, c3_37, c3_38, e3_40, w3_40, c3_41, c3_42, c3_43, c3_44, c3_45, c3_46, c3_47, e3_49, w3_49, c3_50, c3_51, c3_52, c3_53, c3_54, e3_56, w3_56, c3_57, c3_58, c3_59, c3_60, c3_61, c3_62]
  refine callA (Account_Left_ok hA p.day hlim ⟨hb.1, by omega⟩) ?_
  rw [leftRes_tag]
  rintro v N ⟨rfl, rfl⟩
  by_cases hv : validB p.day = true
  · have e : leftRes f L' p.day = (f.limit - spentOn L' p.day, true) := by rw [leftRes, if_neg (by simp [h2, hv])]
    rw [e]
    simp only [validB, decide_eq_true_eq] at hv
    simp -implicitDefEqProofs (disch := omega) only [go_sem, Nat.reduceAdd, Nat.reduceMul, Nat.reduceSub, Nat.reduceBEq, Nat.reduceLeDiff, Nat.reduceLT, fn_transitlaw37_AccountCap, e3_1, w3_1, e3_3, w3_3, c3_4, e3_6, w3_6, e3_8, w3_8, e3_10, w3_10, c3_11, e3_13, w3_13, e3_15, w3_15, e3_17, w3_17, e3_19, w3_19, e3_21, w3_21, e3_23, w3_23, e3_25, w3_25, e3_27, w3_27, e3_29, w3_29, e3_31, w3_31, c3_32, e3_34, w3_34, c3_35, c3_36, c3_37, c3_38, e3_40, w3_40, c3_41, c3_42, c3_43, c3_44, c3_45, c3_46, c3_47, e3_49, w3_49, c3_50, c3_51, c3_52, c3_53, c3_54, e3_56, w3_56, c3_57, c3_58, c3_59, c3_60, c3_61, c3_62, prV]
    refine ifD (fun h4 => ?_) (fun h4 => ?_)
    · omega
    simp -implicitDefEqProofs (disch := omega) only [go_sem, Nat.reduceAdd, Nat.reduceMul, Nat.reduceSub, Nat.reduceBEq, Nat.reduceLeDiff, Nat.reduceLT, fn_transitlaw37_AccountCap, e3_1, w3_1, e3_3, w3_3, c3_4, e3_6, w3_6, e3_8, w3_8, e3_10, w3_10, c3_11, e3_13, w3_13, e3_15, w3_15, e3_17, w3_17, e3_19, w3_19, e3_21, w3_21, e3_23, w3_23, e3_25, w3_25, e3_27, w3_27, e3_29, w3_29, e3_31, w3_31, c3_32, e3_34, w3_34, c3_35, c3_36, c3_37, c3_38, e3_40, w3_40, c3_41, c3_42, c3_43, c3_44, c3_45, c3_46, c3_47, e3_49, w3_49, c3_50, c3_51, c3_52, c3_53, c3_54, e3_56, w3_56, c3_57, c3_58, c3_59, c3_60, c3_61, c3_62, h0]
    refine ifD (fun h5 => ?_) (fun h5 => ?_)
    · omega
    simp -implicitDefEqProofs (disch := omega) only [go_sem, Nat.reduceAdd, Nat.reduceMul, Nat.reduceSub, Nat.reduceBEq, Nat.reduceLeDiff, Nat.reduceLT, fn_transitlaw37_AccountCap, e3_1, w3_1, e3_3, w3_3, c3_4, e3_6, w3_6, e3_8, w3_8, e3_10, w3_10, c3_11, e3_13, w3_13, e3_15, w3_15, e3_17, w3_17, e3_19, w3_19, e3_21, w3_21, e3_23, w3_23, e3_25, w3_25, e3_27, w3_27, e3_29, w3_29, e3_31, w3_31, c3_32, e3_34, w3_34, c3_35, c3_36, c3_37, c3_38, e3_40, w3_40, c3_41, c3_42, c3_43, c3_44, c3_45, c3_46, c3_47, e3_49, w3_49, c3_50, c3_51, c3_52, c3_53, c3_54, e3_56, w3_56, c3_57, c3_58, c3_59, c3_60, c3_61, c3_62, h0]
    refine ifD (fun h6 => ?_) (fun h6 => ?_)
    rotate_left
    · omega
    have d1 : decide (p.day ≤ 36524) = true := decide_eq_true hv.2
    simp -implicitDefEqProofs (disch := omega) only [go_sem, Nat.reduceAdd, Nat.reduceMul, Nat.reduceSub, Nat.reduceBEq, Nat.reduceLeDiff, Nat.reduceLT, fn_transitlaw37_AccountCap, e3_1, w3_1, e3_3, w3_3, c3_4, e3_6, w3_6, e3_8, w3_8, e3_10, w3_10, c3_11, e3_13, w3_13, e3_15, w3_15, e3_17, w3_17, e3_19, w3_19, e3_21, w3_21, e3_23, w3_23, e3_25, w3_25, e3_27, w3_27, e3_29, w3_29, e3_31, w3_31, c3_32, e3_34, w3_34, c3_35, c3_36, c3_37, c3_38, e3_40, w3_40, c3_41, c3_42, c3_43, c3_44, c3_45, c3_46, c3_47, e3_49, w3_49, c3_50, c3_51, c3_52, c3_53, c3_54, e3_56, w3_56, c3_57, c3_58, c3_59, c3_60, c3_61, c3_62, h0, d1]
    refine ifD (fun h7 => ?_) (fun h7 => ?_)
    rotate_left
    · omega
    simp -implicitDefEqProofs (disch := omega) only [go_sem, Nat.reduceAdd, Nat.reduceMul, Nat.reduceSub, Nat.reduceBEq, Nat.reduceLeDiff, Nat.reduceLT, fn_transitlaw37_AccountCap, e3_1, w3_1, e3_3, w3_3, c3_4, e3_6, w3_6, e3_8, w3_8, e3_10, w3_10, c3_11, e3_13, w3_13, e3_15, w3_15, e3_17, w3_17, e3_19, w3_19, e3_21, w3_21, e3_23, w3_23, e3_25, w3_25, e3_27, w3_27, e3_29, w3_29, e3_31, w3_31, c3_32, e3_34, w3_34, c3_35, c3_36, c3_37, c3_38, e3_40, w3_40, c3_41, c3_42, c3_43, c3_44, c3_45, c3_46, c3_47, e3_49, w3_49, c3_50, c3_51, c3_52, c3_53, c3_54, e3_56, w3_56, c3_57, c3_58, c3_59, c3_60, c3_61, c3_62]
    refine next_stay hk ⟨?_, rfl⟩
    simp only [vals, sget]; rfl
  · have e : leftRes f L' p.day = (0, false) := by rw [leftRes, if_pos (.inr (by simpa using hv))]
    rw [e]
    simp only [validB, decide_eq_true_eq] at hv
    simp -implicitDefEqProofs (disch := omega) only [go_sem, Nat.reduceAdd, Nat.reduceMul, Nat.reduceSub, Nat.reduceBEq, Nat.reduceLeDiff, Nat.reduceLT, fn_transitlaw37_AccountCap, e3_1, w3_1, e3_3, w3_3, c3_4, e3_6, w3_6, e3_8, w3_8, e3_10, w3_10, c3_11, e3_13, w3_13, e3_15, w3_15, e3_17, w3_17, e3_19, w3_19, e3_21, w3_21, e3_23, w3_23, e3_25, w3_25, e3_27, w3_27, e3_29, w3_29, e3_31, w3_31, c3_32, e3_34, w3_34, c3_35, c3_36, c3_37, c3_38, e3_40, w3_40, c3_41, c3_42, c3_43, c3_44, c3_45, c3_46, c3_47, e3_49, w3_49, c3_50, c3_51, c3_52, c3_53, c3_54, e3_56, w3_56, c3_57, c3_58, c3_59, c3_60, c3_61, c3_62, prV]
    refine ifD (fun h4 => ?_) (fun h4 => ?_)
    · omega
    simp -implicitDefEqProofs (disch := omega) only [go_sem, Nat.reduceAdd, Nat.reduceMul, Nat.reduceSub, Nat.reduceBEq, Nat.reduceLeDiff, Nat.reduceLT, fn_transitlaw37_AccountCap, e3_1, w3_1, e3_3, w3_3, c3_4, e3_6, w3_6, e3_8, w3_8, e3_10, w3_10, c3_11, e3_13, w3_13, e3_15, w3_15, e3_17, w3_17, e3_19, w3_19, e3_21, w3_21, e3_23, w3_23, e3_25, w3_25, e3_27, w3_27, e3_29, w3_29, e3_31, w3_31, c3_32, e3_34, w3_34, c3_35, c3_36, c3_37, c3_38, e3_40, w3_40, c3_41, c3_42, c3_43, c3_44, c3_45, c3_46, c3_47, e3_49, w3_49, c3_50, c3_51, c3_52, c3_53, c3_54, e3_56, w3_56, c3_57, c3_58, c3_59, c3_60, c3_61, c3_62, h0]
    refine ifD (fun h5 => ?_) (fun h5 => ?_)
    · omega
    simp -implicitDefEqProofs (disch := omega) only [go_sem, Nat.reduceAdd, Nat.reduceMul, Nat.reduceSub, Nat.reduceBEq, Nat.reduceLeDiff, Nat.reduceLT, fn_transitlaw37_AccountCap, e3_1, w3_1, e3_3, w3_3, c3_4, e3_6, w3_6, e3_8, w3_8, e3_10, w3_10, c3_11, e3_13, w3_13, e3_15, w3_15, e3_17, w3_17, e3_19, w3_19, e3_21, w3_21, e3_23, w3_23, e3_25, w3_25, e3_27, w3_27, e3_29, w3_29, e3_31, w3_31, c3_32, e3_34, w3_34, c3_35, c3_36, c3_37, c3_38, e3_40, w3_40, c3_41, c3_42, c3_43, c3_44, c3_45, c3_46, c3_47, e3_49, w3_49, c3_50, c3_51, c3_52, c3_53, c3_54, e3_56, w3_56, c3_57, c3_58, c3_59, c3_60, c3_61, c3_62, h0]
    refine ifD (fun h6 => ?_) (fun h6 => ?_)
    · have d1 : decide (p.day ≤ 36524) = false := decide_eq_false (by omega)
      simp -implicitDefEqProofs (disch := omega) only [go_sem, Nat.reduceAdd, Nat.reduceMul, Nat.reduceSub, Nat.reduceBEq, Nat.reduceLeDiff, Nat.reduceLT, fn_transitlaw37_AccountCap, e3_1, w3_1, e3_3, w3_3, c3_4, e3_6, w3_6, e3_8, w3_8, e3_10, w3_10, c3_11, e3_13, w3_13, e3_15, w3_15, e3_17, w3_17, e3_19, w3_19, e3_21, w3_21, e3_23, w3_23, e3_25, w3_25, e3_27, w3_27, e3_29, w3_29, e3_31, w3_31, c3_32, e3_34, w3_34, c3_35, c3_36, c3_37, c3_38, e3_40, w3_40, c3_41, c3_42, c3_43, c3_44, c3_45, c3_46, c3_47, e3_49, w3_49, c3_50, c3_51, c3_52, c3_53, c3_54, e3_56, w3_56, c3_57, c3_58, c3_59, c3_60, c3_61, c3_62, h0, d1]
      refine next_stay hk ⟨?_, rfl⟩
      simp only [vals, sget]; rfl
    · simp -implicitDefEqProofs (disch := omega) only [go_sem, Nat.reduceAdd, Nat.reduceMul, Nat.reduceSub, Nat.reduceBEq, Nat.reduceLeDiff, Nat.reduceLT, fn_transitlaw37_AccountCap, e3_1, w3_1, e3_3, w3_3, c3_4, e3_6, w3_6, e3_8, w3_8, e3_10, w3_10, c3_11, e3_13, w3_13, e3_15, w3_15, e3_17, w3_17, e3_19, w3_19, e3_21, w3_21, e3_23, w3_23, e3_25, w3_25, e3_27, w3_27, e3_29, w3_29, e3_31, w3_31, c3_32, e3_34, w3_34, c3_35, c3_36, c3_37, c3_38, e3_40, w3_40, c3_41, c3_42, c3_43, c3_44, c3_45, c3_46, c3_47, e3_49, w3_49, c3_50, c3_51, c3_52, c3_53, c3_54, e3_56, w3_56, c3_57, c3_58, c3_59, c3_60, c3_61, c3_62, h0]
      refine next_stay hk ⟨?_, rfl⟩
      simp only [vals, sget]; rfl

/-! ### What the arguments read as -/
def ctOper : List CT := [.int .i64, .slice ctRide, .bool, .int .i64]
theorem read_oper {vs : List V} (h : HasR ctOper vs) : ∃ o : Oper, vs = o.row ∧ o.wf := by
  obtain ⟨_, _, rfl, h1, h⟩ := hasR_cons h
  obtain ⟨_, _, rfl, h2, h⟩ := hasR_cons h
  obtain ⟨_, _, rfl, h3, h⟩ := hasR_cons h
  obtain ⟨_, _, rfl, h4, h⟩ := hasR_cons h
  cases hasR_nil h
  obtain ⟨a, rfl, ha⟩ := hasC_i64 h1
  obtain ⟨l, c, rfl, hl, hlen⟩ := read_rides h2
  obtain ⟨b, rfl⟩ := hasC_bool h3
  obtain ⟨d, rfl, hd⟩ := hasC_i64 h4
  exact ⟨⟨a, l, c, b, d⟩, rfl, ha, hl, hlen, hd⟩
theorem read_opers {v : V} (h : HasC (.slice ctOper) v) : ∃ (l : List Oper) (c : Cap), v = .slice (l.map Oper.row) c ∧ (∀ r ∈ l, r.wf) ∧ l.length ≤ maxLen := by
  obtain ⟨l, c, rfl, hl, hlen, _⟩ := hasC_slice (fun vs h => read_oper h) h
  exact ⟨l, c, rfl, hl, hlen⟩
theorem read_fares2 {vs : List V} (h : HasR ctFares vs) : ∃ f : Fares, vs = f.row ∧ f.wf ∧ (f.tag = .nil ∧ f.products = [] ∨ f.tag = .any ∨ f.tag = .full) := by
  obtain ⟨_, _, rfl, h1, h⟩ := hasR_cons h
  obtain ⟨_, _, rfl, h2, h⟩ := hasR_cons h
  obtain ⟨_, _, rfl, h3, h⟩ := hasR_cons h
  obtain ⟨_, _, rfl, h4, h⟩ := hasR_cons h
  cases hasR_nil h
  obtain ⟨l, c, rfl, hl, hlen, htag⟩ := hasC_slice (fun vs h => read_product h) h1
  obtain ⟨a, rfl, ha⟩ := hasC_i64 h2
  obtain ⟨b, rfl, hb⟩ := hasC_i64 h3
  obtain ⟨d, rfl, hd⟩ := hasC_i64 h4
  refine ⟨⟨l, c, a, b, d⟩, rfl, ⟨hl, hlen, ha, hb, hd⟩, ?_⟩
  rcases htag with h | h
  · exact .inl h
  · exact .inr (.inl h)

end Go.Vm.C

