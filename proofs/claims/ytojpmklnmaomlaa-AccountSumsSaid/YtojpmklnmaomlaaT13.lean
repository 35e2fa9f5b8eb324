/- The statement AccountSums. -/
import Derived.Test.YtojpmklnmaomlaaT12

namespace Go.Vm.C
open Go.Vm
set_option maxHeartbeats 1000000
set_option maxRecDepth 10000
set_option linter.unusedSimpArgs false
set_option linter.unusedVariables false

/-! ### What was spent is the sum of the charges less the refunds -/
def delta (f : Fares) (L : List (Int × Int)) (o : Oper) : Int :=
  if o.refund = true then (if (refundRes L o.day o.amount).1 = 0 then -o.amount else 0) else (if (chargeRes f L o.day o.rides).2.1 = 0 then (chargeRes f L o.day o.rides).1 else 0)
theorem charge_err {f : Fares} {L : List (Int × Int)} {d : Int} {l : List Ride} (h : (chargeRes f L d l).2.1 = 0) : (fareRes f l).2.2 = 0 ∧ (chargeRes f L d l).1 = chargeAmt f L d l ∧ (chargeRes f L d l).2.2 = setL L d (spentOn L d + chargeAmt f L d l) := by
  unfold chargeRes at h ⊢
  split at h
  · simp at h
  · rename_i h1
    split at h
    · rename_i h2; exact absurd h h2
    · rename_i h2
      rw [if_neg h1, if_neg h2]
      exact ⟨by simpa using h2, rfl, rfl⟩
theorem charge_bad {f : Fares} {L : List (Int × Int)} {d : Int} {l : List Ride} (h : (chargeRes f L d l).2.1 ≠ 0) : (chargeRes f L d l).2.2 = L := by
  unfold chargeRes at h ⊢
  split
  · rfl
  · rename_i h1
    split
    · rfl
    · rename_i h2
      rw [if_neg h1, if_neg h2] at h
      exact absurd rfl h
theorem do_spent (f : Fares) (L : List (Int × Int)) (o : Oper) (d : Int) : spentOn (doRes f L o).2.2 d = spentOn L d + if o.day = d then delta f L o else 0 := by
  unfold doRes delta
  by_cases hr : o.refund = true
  · rw [if_pos hr, if_pos hr]
    simp only
    unfold refundRes
    cases hg : getL L o.day with
    | none => simp
    | some s =>
      simp only
      split
      · simp
      · simp only [spentOn_set]
        by_cases hd : o.day = d
        · subst hd
          simp [spentOn, hg]
          omega
        · rw [if_neg (fun e => hd e.symm), if_neg hd]; omega
  · rw [if_neg hr, if_neg hr]
    by_cases he : (chargeRes f L o.day o.rides).2.1 = 0
    · obtain ⟨_, e1, e2⟩ := charge_err he
      rw [if_pos he, e1, e2, spentOn_set]
      by_cases hd : o.day = d
      · subst hd; simp
      · rw [if_neg (fun e => hd e.symm), if_neg hd]; omega
    · rw [if_neg he, charge_bad he]
      simp
theorem charge_amt {f : Fares} (hc : (checkRes f).2 = 0) {L : List (Int × Int)} (h2 : f.limit ≠ 0 → Within L f.limit) (d : Int) (l : List Ride) : 0 ≤ chargeAmt f L d l ∧ chargeAmt f L d l ≤ (fareRes f l).1 ∧ (chargeAmt f L d l < (fareRes f l).1 → f.limit ≠ 0 ∧ spentOn L d + chargeAmt f L d l = f.limit) := by
  have hr := ref_range (l := l) hc
  unfold chargeAmt
  split
  · rename_i h0
    have := h2 h0 d
    refine ⟨by omega, by omega, fun h => ⟨h0, by omega⟩⟩
  · exact ⟨hr.1, Int.le_refl _, fun h => by omega⟩
theorem do_within {f : Fares} (hc : (checkRes f).2 = 0) {L : List (Int × Int)} {B : Int} (h : Within L B) (h2 : f.limit ≠ 0 → Within L f.limit) (o : Oper) : Within (doRes f L o).2.2 (B + 9000000) ∧ (f.limit ≠ 0 → Within (doRes f L o).2.2 f.limit) := by
  refine ⟨fun d => ?_, fun h0 => do_cap hc h0 (h2 h0) o⟩
  have up : Within L (B + 9000000) := fun d => by have := h d; omega
  unfold doRes
  split
  · exact refund_within up _ _ d
  · by_cases he : (chargeRes f L o.day o.rides).2.1 = 0
    · obtain ⟨_, e1, e2⟩ := charge_err he
      have ha := charge_amt hc h2 o.day o.rides
      have hr := ref_range (l := o.rides) hc
      have hb := h o.day
      rw [e2]
      exact within_set up (by omega) (by omega) d
    · rw [charge_bad he]
      exact up d
/-- The sum of the first n of s at a day. -/
def dsum (l : List Oper) (s : List Int) (d : Int) : Nat → Int
  | 0 => 0
  | n + 1 => dsum l s d n + match l[n]?, s[n]? with
    | some o, some x => if o.day = d then x else 0
    | _, _ => 0
theorem dsum_set (l : List Oper) (s : List Int) (d : Int) (i : Nat) (x : Int) : ∀ n, n ≤ i → dsum l (s.set i x) d n = dsum l s d n
  | 0, _ => rfl
  | n + 1, h => by
    rw [dsum, dsum, dsum_set l s d i x n (by omega), List.getElem?_set_ne (by omega)]
theorem dsum_step {l : List Oper} {s : List Int} {i : Nat} {o : Oper} (d : Int) (x : Int) (ho : l[i]? = some o) (hs : i < s.length) : dsum l (s.set i x) d (i + 1) = dsum l s d i + if o.day = d then x else 0 := by
  rw [dsum, dsum_set l s d i x i (Nat.le_refl _), ho, List.getElem?_set_self hs]
def iRow (n : Int) : List V := [.int .i64 n]
theorem memUnder_setA (n : Nat) : ∀ (M : Mem) (i : Nat) (sz : Nat) (rows : List (List V)) (ver fz : Nat), memUnder n M = true → memUnder n (M.set i (.arr sz rows ver fz)) = true
  | [], i, sz, rows, ver, fz, h => by simpa using h
  | B :: M, 0, sz, rows, ver, fz, h => by
    simp only [memUnder, Bool.and_eq_true, List.set_cons_zero] at h ⊢
    exact ⟨rfl, h.2⟩
  | B :: M, i + 1, sz, rows, ver, fz, h => by
    simp only [memUnder, Bool.and_eq_true, List.set_cons_succ] at h ⊢
    exact ⟨h.1, memUnder_setA n M i sz rows ver fz h.2⟩
theorem Acc.arr {M : Mem} {f : Fares} {id mid sid : Nat} {L : List (Int × Int)} (h : Acc M f id mid L) (h1 : sid ≠ id) (h2 : sid ≠ mid) (sz : Nat) (rows : List (List V)) (ver fz : Nat) : Acc (M.set sid (.arr sz rows ver fz)) f id mid L :=
  ⟨by rw [List.length_set]; exact memUnder_setA _ _ _ _ _ _ _ h.own, by rw [List.getElem?_set_ne h1]; exact h.box, by rw [List.getElem?_set_ne h2]; exact h.ents, h.ne⟩
theorem makeSlice_40 (n : Nat) (M : Mem) (hn : n ≤ 40) : makeSliceV [.int .i64 0] 1 8 (.int .i64 (n : Int)) (.int .i64 (n : Int)) M = some (.mslice M.length 0 0 n, M ++ [.arr 1 (List.replicate n [.int .i64 0]) 0 0]) := by
  have h1 : (n : Int) * ((8 : Nat) : Int) ≤ 40 * 8 := Int.mul_le_mul (by omega) (by omega) (by omega) (by omega)
  have a1 : decide (0 ≤ (n : Int)) = true := decide_eq_true (by omega)
  have a2 : decide ((n : Int) ≤ (n : Int)) = true := decide_eq_true (by omega)
  have a3 : decide ((n : Int) * ((8 : Nat) : Int) ≤ 2 ^ 48) = true := decide_eq_true (by omega)
  have a4 : decide ((n : Int) < 2 ^ 62) = true := decide_eq_true (by omega)
  simp only [makeSliceV, a1, a2, a3, a4, Int.toNat_natCast, Bool.and_self, cond_true]
/-- Where the walk stands before the operation i. -/
structure Sit (f : Fares) (t : Cap) (b : Blk) (l : List Oper) (id mid sid i : Nat) (L : List (Int × Int)) (s : List Int) (M : Mem) : Prop where
  acc : Acc M ⟨f.products, t, f.discount, f.within, f.limit⟩ id mid L
  from' : From [b] M
  arr : M[sid]? = some (.arr 1 (s.map iRow) 0 0)
  len : s.length = l.length
  rest : ∀ k, i ≤ k → k < s.length → s[k]? = some 0
  sums : ∀ d, spentOn L d = dsum l s d i
  bound : Within L (9000000 * i)
  cap : f.limit ≠ 0 → Within L f.limit
  small : ∀ x ∈ s, -1000000000 ≤ x ∧ x ≤ 1000000000
theorem dsum_small {l : List Oper} {s : List Int} (h : ∀ x ∈ s, -1000000000 ≤ x ∧ x ≤ 1000000000) (d : Int) : ∀ n : Nat, -1000000000 * (n : Int) ≤ dsum l s d n ∧ dsum l s d n ≤ 1000000000 * (n : Int)
  | 0 => by simp [dsum]
  | n + 1 => by
    have ih := dsum_small (l := l) h d n
    rw [dsum]
    split
    · rename_i o x ho hx
      have := h x (List.mem_of_getElem? hx)
      split <;> omega
    · omega
theorem delta_small {f : Fares} (hc : (checkRes f).2 = 0) {L : List (Int × Int)} {B : Int} (h : Within L B) (hB : B ≤ 1000000000) (h2 : f.limit ≠ 0 → Within L f.limit) (o : Oper) : -1000000000 ≤ delta f L o ∧ delta f L o ≤ 1000000000 := by
  unfold delta
  split
  · split
    · rename_i h3
      have hb := h o.day
      unfold refundRes at h3
      cases hg : getL L o.day with
      | none => rw [hg] at h3; simp at h3
      | some s =>
        rw [hg] at h3
        simp only at h3
        simp only [spentOn, hg, Option.getD_some] at hb
        split at h3
        · simp at h3
        · omega
    · omega
  · split
    · rename_i h3
      have ha := charge_amt hc h2 o.day o.rides
      have hr := ref_range (l := o.rides) hc
      rw [(charge_err h3).2.1]
      omega
    · omega
theorem Sit.next {f : Fares} (hc : (checkRes f).2 = 0) {t : Cap} {b : Blk} {l : List Oper} {id mid sid i : Nat} {L : List (Int × Int)} {s : List Int} {M K : Mem} {o : Oper} (h : Sit f t b l id mid sid i L s M) (ho : l[i]? = some o) (hi : i < 40)
    (ha : Acc K ⟨f.products, t, f.discount, f.within, f.limit⟩ id mid (doRes f L o).2.2) (hf : From [b] K) (hr : K[sid]? = some (.arr 1 ((s.set i (delta f L o)).map iRow) 0 0)) : Sit f t b l id mid sid (i + 1) (doRes f L o).2.2 (s.set i (delta f L o)) K := by
  have hlt := (List.getElem?_eq_some_iff.1 ho).1
  have hw := do_within hc h.bound h.cap o
  have hsl := h.len
  refine ⟨ha, hf, hr, by rw [List.length_set]; exact h.len, ?_, ?_, ?_, hw.2, ?_⟩
  · intro k h1 h2
    rw [List.length_set] at h2
    rw [List.getElem?_set_ne (by omega)]
    exact h.rest k (by omega) h2
  · intro d
    rw [do_spent, dsum_step d _ ho (by omega), h.sums d]
  · have := hw.1
    rwa [show (9000000 : Int) * (i : Int) + 9000000 = 9000000 * ((i + 1 : Nat) : Int) by omega] at this
  · intro x hx
    rcases List.mem_or_eq_of_mem_set hx with h3 | h3
    · exact h.small x h3
    · subst h3
      exact delta_small hc h.bound (by omega) h.cap o

theorem AccountSums_law (f : Fares) (l : List Oper) (c : Cap) (hf : f.wf) (ht : f.tag = .nil ∧ f.products = [] ∨ f.tag = .any ∨ f.tag = .full) (hl : ∀ o ∈ l, o.wf) : PCalls PR i_transitlaw37_AccountSums [.agg f.row, .slice (l.map Oper.row) c] (fun v => v = .bool true) := by
  have hown : memUnder ([.box f.row] : Mem).length [.box f.row] = true := by simp [memUnder, Blk.under, underL, V.under, Fares.row]
  simp only [Fares.row] at hown
  have hex : ∀ {N : Mem}, memUnder N.length N = true → ACalls PR i_transitlaw37_exampleHolds [] N (fun v M' => v = .bool true ∧ M' = N) := fun h => exampleHolds_ok h
  refine acalls_pop fn_transitlaw37_AccountSums_ok (by simp [fn_transitlaw37_AccountSums]) ?_
  simp -implicitDefEqProofs (disch := omega) only [go_sem, Nat.reduceAdd, Nat.reduceMul, Nat.reduceSub, Nat.reduceBEq, Nat.reduceLeDiff, Nat.reduceLT, fn_transitlaw37_AccountSums, e4_1, w4_1, e4_3, w4_3, c4_4, e4_6, w4_6, e4_8, w4_8, e4_10, w4_10, c4_11, e4_13, w4_13, e4_15, w4_15, e4_17, w4_17, e4_19, w4_19, e4_21, w4_21, e4_23, w4_23, e4_25, w4_25, c4_26, e4_28, w4_28, e4_30, w4_30, c4_31, e4_33, w4_33, e4_35, w4_35, e4_37, w4_37, e4_39, w4_39, e4_41, w4_41, e4_43, w4_43, e4_45, w4_45, e4_47, w4_47, c4_48, e4_50, w4_50, c4_51, c4_52, c4_53, c4_54, c4_55, e4_57, w4_57, c4_58, e4_60, w4_60, c4_61, c4_62, c4_63, c4_64, c4_65, c4_66, c4_67, e4_69, w4_69, c4_70, c4_71, c4_72, c4_73, c4_74, e4_76, w4_76, c4_77, c4_78, c4_79, c4_80, c4_81, c4_82, c4_83, Fares.row]
  first | refine callD (large37_ok f l c hl) ?_ | refine callQD (large37_ok f l c hl) ?_
  simp -implicitDefEqProofs (disch := omega) only [go_sem, Nat.reduceAdd, Nat.reduceMul, Nat.reduceSub, Nat.reduceBEq, Nat.reduceLeDiff, Nat.reduceLT, fn_transitlaw37_AccountSums, e4_1, w4_1, e4_3, w4_3, c4_4, e4_6, w4_6, e4_8, w4_8, e4_10, w4_10, c4_11, e4_13, w4_13, e4_15, w4_15, e4_17, w4_17, e4_19, w4_19, e4_21, w4_21, e4_23, w4_23, e4_25, w4_25, c4_26, e4_28, w4_28, e4_30, w4_30, c4_31, e4_33, w4_33, e4_35, w4_35, e4_37, w4_37, e4_39, w4_39, e4_41, w4_41, e4_43, w4_43, e4_45, w4_45, e4_47, w4_47, c4_48, e4_50, w4_50, c4_51, c4_52, c4_53, c4_54, c4_55, e4_57, w4_57, c4_58, e4_60, w4_60, c4_61, c4_62, c4_63, c4_64, c4_65, c4_66, c4_67, e4_69, w4_69, c4_70, c4_71, c4_72, c4_73, c4_74, e4_76, w4_76, c4_77, c4_78, c4_79, c4_80, c4_81, c4_82, c4_83]
  refine ifB (fun h1 => ?_) (fun h1 => ?_)
  · simp -implicitDefEqProofs (disch := omega) only [go_sem, Nat.reduceAdd, Nat.reduceMul, Nat.reduceSub, Nat.reduceBEq, Nat.reduceLeDiff, Nat.reduceLT, fn_transitlaw37_AccountSums, e4_1, w4_1, e4_3, w4_3, c4_4, e4_6, w4_6, e4_8, w4_8, e4_10, w4_10, c4_11, e4_13, w4_13, e4_15, w4_15, e4_17, w4_17, e4_19, w4_19, e4_21, w4_21, e4_23, w4_23, e4_25, w4_25, c4_26, e4_28, w4_28, e4_30, w4_30, c4_31, e4_33, w4_33, e4_35, w4_35, e4_37, w4_37, e4_39, w4_39, e4_41, w4_41, e4_43, w4_43, e4_45, w4_45, e4_47, w4_47, c4_48, e4_50, w4_50, c4_51, c4_52, c4_53, c4_54, c4_55, e4_57, w4_57, c4_58, e4_60, w4_60, c4_61, c4_62, c4_63, c4_64, c4_65, c4_66, c4_67, e4_69, w4_69, c4_70, c4_71, c4_72, c4_73, c4_74, e4_76, w4_76, c4_77, c4_78, c4_79, c4_80, c4_81, c4_82, c4_83]
    refine callA (hex hown) ?_
    rintro v N ⟨rfl, rfl⟩
    simp -implicitDefEqProofs (disch := omega) only [go_sem, Nat.reduceAdd, Nat.reduceMul, Nat.reduceSub, Nat.reduceBEq, Nat.reduceLeDiff, Nat.reduceLT, fn_transitlaw37_AccountSums, e4_1, w4_1, e4_3, w4_3, c4_4, e4_6, w4_6, e4_8, w4_8, e4_10, w4_10, c4_11, e4_13, w4_13, e4_15, w4_15, e4_17, w4_17, e4_19, w4_19, e4_21, w4_21, e4_23, w4_23, e4_25, w4_25, c4_26, e4_28, w4_28, e4_30, w4_30, c4_31, e4_33, w4_33, e4_35, w4_35, e4_37, w4_37, e4_39, w4_39, e4_41, w4_41, e4_43, w4_43, e4_45, w4_45, e4_47, w4_47, c4_48, e4_50, w4_50, c4_51, c4_52, c4_53, c4_54, c4_55, e4_57, w4_57, c4_58, e4_60, w4_60, c4_61, c4_62, c4_63, c4_64, c4_65, c4_66, c4_67, e4_69, w4_69, c4_70, c4_71, c4_72, c4_73, c4_74, e4_76, w4_76, c4_77, c4_78, c4_79, c4_80, c4_81, c4_82, c4_83]
  have hll : l.length ≤ 40 := by
    simp only [largeB, Bool.not_eq_false', Bool.and_eq_true, decide_eq_true_eq] at h1
    exact h1.1.2
  simp -implicitDefEqProofs (disch := omega) only [go_sem, Nat.reduceAdd, Nat.reduceMul, Nat.reduceSub, Nat.reduceBEq, Nat.reduceLeDiff, Nat.reduceLT, fn_transitlaw37_AccountSums, e4_1, w4_1, e4_3, w4_3, c4_4, e4_6, w4_6, e4_8, w4_8, e4_10, w4_10, c4_11, e4_13, w4_13, e4_15, w4_15, e4_17, w4_17, e4_19, w4_19, e4_21, w4_21, e4_23, w4_23, e4_25, w4_25, c4_26, e4_28, w4_28, e4_30, w4_30, c4_31, e4_33, w4_33, e4_35, w4_35, e4_37, w4_37, e4_39, w4_39, e4_41, w4_41, e4_43, w4_43, e4_45, w4_45, e4_47, w4_47, c4_48, e4_50, w4_50, c4_51, c4_52, c4_53, c4_54, c4_55, e4_57, w4_57, c4_58, e4_60, w4_60, c4_61, c4_62, c4_63, c4_64, c4_65, c4_66, c4_67, e4_69, w4_69, c4_70, c4_71, c4_72, c4_73, c4_74, e4_76, w4_76, c4_77, c4_78, c4_79, c4_80, c4_81, c4_82, c4_83, Fares.row]
  refine callA (account_New_ok f hf ht hown) ?_
  rintro v N ⟨⟨L, rfl⟩, hNu, hbad, hgood⟩
  have hT := From.app [.box [.slice (f.products.map Product.row) f.tag, .int .i64 f.discount, .int .i64 f.within, .int .i64 f.limit]] L
  by_cases hc : (checkRes f).2 = 0
  rotate_left
  · obtain rfl := hbad hc
    generalize [Blk.box _] ++ L = N at *
    simp -implicitDefEqProofs (disch := omega) only [go_sem, Nat.reduceAdd, Nat.reduceMul, Nat.reduceSub, Nat.reduceBEq, Nat.reduceLeDiff, Nat.reduceLT, fn_transitlaw37_AccountSums, e4_1, w4_1, e4_3, w4_3, c4_4, e4_6, w4_6, e4_8, w4_8, e4_10, w4_10, c4_11, e4_13, w4_13, e4_15, w4_15, e4_17, w4_17, e4_19, w4_19, e4_21, w4_21, e4_23, w4_23, e4_25, w4_25, c4_26, e4_28, w4_28, e4_30, w4_30, c4_31, e4_33, w4_33, e4_35, w4_35, e4_37, w4_37, e4_39, w4_39, e4_41, w4_41, e4_43, w4_43, e4_45, w4_45, e4_47, w4_47, c4_48, e4_50, w4_50, c4_51, c4_52, c4_53, c4_54, c4_55, e4_57, w4_57, c4_58, e4_60, w4_60, c4_61, c4_62, c4_63, c4_64, c4_65, c4_66, c4_67, e4_69, w4_69, c4_70, c4_71, c4_72, c4_73, c4_74, e4_76, w4_76, c4_77, c4_78, c4_79, c4_80, c4_81, c4_82, c4_83]
    refine ifD (fun h3 => ?_) (fun h3 => ?_)
    · omega
    simp -implicitDefEqProofs (disch := omega) only [go_sem, Nat.reduceAdd, Nat.reduceMul, Nat.reduceSub, Nat.reduceBEq, Nat.reduceLeDiff, Nat.reduceLT, fn_transitlaw37_AccountSums, e4_1, w4_1, e4_3, w4_3, c4_4, e4_6, w4_6, e4_8, w4_8, e4_10, w4_10, c4_11, e4_13, w4_13, e4_15, w4_15, e4_17, w4_17, e4_19, w4_19, e4_21, w4_21, e4_23, w4_23, e4_25, w4_25, c4_26, e4_28, w4_28, e4_30, w4_30, c4_31, e4_33, w4_33, e4_35, w4_35, e4_37, w4_37, e4_39, w4_39, e4_41, w4_41, e4_43, w4_43, e4_45, w4_45, e4_47, w4_47, c4_48, e4_50, w4_50, c4_51, c4_52, c4_53, c4_54, c4_55, e4_57, w4_57, c4_58, e4_60, w4_60, c4_61, c4_62, c4_63, c4_64, c4_65, c4_66, c4_67, e4_69, w4_69, c4_70, c4_71, c4_72, c4_73, c4_74, e4_76, w4_76, c4_77, c4_78, c4_79, c4_80, c4_81, c4_82, c4_83, eq_nil_nil]
    refine callA (hex hNu) ?_
    rintro v N ⟨rfl, rfl⟩
    simp -implicitDefEqProofs (disch := omega) only [go_sem, Nat.reduceAdd, Nat.reduceMul, Nat.reduceSub, Nat.reduceBEq, Nat.reduceLeDiff, Nat.reduceLT, fn_transitlaw37_AccountSums, e4_1, w4_1, e4_3, w4_3, c4_4, e4_6, w4_6, e4_8, w4_8, e4_10, w4_10, c4_11, e4_13, w4_13, e4_15, w4_15, e4_17, w4_17, e4_19, w4_19, e4_21, w4_21, e4_23, w4_23, e4_25, w4_25, c4_26, e4_28, w4_28, e4_30, w4_30, c4_31, e4_33, w4_33, e4_35, w4_35, e4_37, w4_37, e4_39, w4_39, e4_41, w4_41, e4_43, w4_43, e4_45, w4_45, e4_47, w4_47, c4_48, e4_50, w4_50, c4_51, c4_52, c4_53, c4_54, c4_55, e4_57, w4_57, c4_58, e4_60, w4_60, c4_61, c4_62, c4_63, c4_64, c4_65, c4_66, c4_67, e4_69, w4_69, c4_70, c4_71, c4_72, c4_73, c4_74, e4_76, w4_76, c4_77, c4_78, c4_79, c4_80, c4_81, c4_82, c4_83]
  obtain ⟨id, mid, t, rfl, hid, hmid, hA⟩ := hgood hc
  have hwf := tag_wf hf t
  have hck : (checkRes ⟨f.products, t, f.discount, f.within, f.limit⟩).2 = 0 := by rw [checkRes_tag]; exact hc
  have hlim := (checkRes_ok hc).limit
  generalize [Blk.box _] ++ L = N at *
  have hid2 : id < N.length := (List.getElem?_eq_some_iff.1 hA.box).1
  have hmid2 : mid < N.length := (List.getElem?_eq_some_iff.1 hA.ents).1
  have hlN := hT.le
  have hrep : List.replicate l.length [V.int .i64 0] = (List.replicate l.length (0 : Int)).map iRow := by simp [iRow]
  have hS : Sit f t (.box [.slice (f.products.map Product.row) f.tag, .int .i64 f.discount, .int .i64 f.within, .int .i64 f.limit]) l id mid N.length 0 [] (List.replicate l.length 0) (N ++ [.arr 1 ((List.replicate l.length (0 : Int)).map iRow) 0 0]) := by
    have hO : Own N := hA.own
    refine ⟨⟨hO.app rfl, app_get hA.box _, app_get hA.ents _, hA.ne⟩, ?_, by simp, by simp, ?_, fun d => rfl, fun d => ⟨Int.le_refl _, by simp [spentOn, getL]⟩, fun _ => within_nil hlim.1, fun x hx => by rw [List.eq_of_mem_replicate hx]; omega⟩
    · refine ⟨?_, by simp⟩
      rw [List.take_append_of_le_length (by simpa using hlN)]
      exact hT.take
    · intro k _ hk
      rw [List.getElem?_replicate, if_pos (by simpa using hk)]
  simp -implicitDefEqProofs (disch := omega) only [go_sem, Nat.reduceAdd, Nat.reduceMul, Nat.reduceSub, Nat.reduceBEq, Nat.reduceLeDiff, Nat.reduceLT, fn_transitlaw37_AccountSums, e4_1, w4_1, e4_3, w4_3, c4_4, e4_6, w4_6, e4_8, w4_8, e4_10, w4_10, c4_11, e4_13, w4_13, e4_15, w4_15, e4_17, w4_17, e4_19, w4_19, e4_21, w4_21, e4_23, w4_23, e4_25, w4_25, c4_26, e4_28, w4_28, e4_30, w4_30, c4_31, e4_33, w4_33, e4_35, w4_35, e4_37, w4_37, e4_39, w4_39, e4_41, w4_41, e4_43, w4_43, e4_45, w4_45, e4_47, w4_47, c4_48, e4_50, w4_50, c4_51, c4_52, c4_53, c4_54, c4_55, e4_57, w4_57, c4_58, e4_60, w4_60, c4_61, c4_62, c4_63, c4_64, c4_65, c4_66, c4_67, e4_69, w4_69, c4_70, c4_71, c4_72, c4_73, c4_74, e4_76, w4_76, c4_77, c4_78, c4_79, c4_80, c4_81, c4_82, c4_83, makeSlice_40 _ _ hll]
  rw [hrep]
  generalize hsid : N.length = sid at *
  refine wpC_for l.length (fun i vs M => ∃ L s, Sit f t (.box [.slice (f.products.map Product.row) f.tag, .int .i64 f.discount, .int .i64 f.within, .int .i64 f.limit]) l id mid sid i L s M ∧ vs = [.slice (l.map Oper.row) c, .ptr 0 0, .ptr id 0, .mslice sid 0 0 l.length, .int .i64 i]) ⟨[], _, hS, rfl⟩ ?_ ?_
  rotate_left
  · rintro vs M ⟨L, s, hS, rfl⟩
    simp -implicitDefEqProofs (disch := omega) only [go_sem, Nat.reduceAdd, Nat.reduceMul, Nat.reduceSub, Nat.reduceBEq, Nat.reduceLeDiff, Nat.reduceLT, fn_transitlaw37_AccountSums, e4_1, w4_1, e4_3, w4_3, c4_4, e4_6, w4_6, e4_8, w4_8, e4_10, w4_10, c4_11, e4_13, w4_13, e4_15, w4_15, e4_17, w4_17, e4_19, w4_19, e4_21, w4_21, e4_23, w4_23, e4_25, w4_25, c4_26, e4_28, w4_28, e4_30, w4_30, c4_31, e4_33, w4_33, e4_35, w4_35, e4_37, w4_37, e4_39, w4_39, e4_41, w4_41, e4_43, w4_43, e4_45, w4_45, e4_47, w4_47, c4_48, e4_50, w4_50, c4_51, c4_52, c4_53, c4_54, c4_55, e4_57, w4_57, c4_58, e4_60, w4_60, c4_61, c4_62, c4_63, c4_64, c4_65, c4_66, c4_67, e4_69, w4_69, c4_70, c4_71, c4_72, c4_73, c4_74, e4_76, w4_76, c4_77, c4_78, c4_79, c4_80, c4_81, c4_82, c4_83, dec_irrefl]
    refine callA (hex hS.acc.own) ?_
    rintro v N ⟨rfl, rfl⟩
    simp -implicitDefEqProofs (disch := omega) only [go_sem, Nat.reduceAdd, Nat.reduceMul, Nat.reduceSub, Nat.reduceBEq, Nat.reduceLeDiff, Nat.reduceLT, fn_transitlaw37_AccountSums, e4_1, w4_1, e4_3, w4_3, c4_4, e4_6, w4_6, e4_8, w4_8, e4_10, w4_10, c4_11, e4_13, w4_13, e4_15, w4_15, e4_17, w4_17, e4_19, w4_19, e4_21, w4_21, e4_23, w4_23, e4_25, w4_25, c4_26, e4_28, w4_28, e4_30, w4_30, c4_31, e4_33, w4_33, e4_35, w4_35, e4_37, w4_37, e4_39, w4_39, e4_41, w4_41, e4_43, w4_43, e4_45, w4_45, e4_47, w4_47, c4_48, e4_50, w4_50, c4_51, c4_52, c4_53, c4_54, c4_55, e4_57, w4_57, c4_58, e4_60, w4_60, c4_61, c4_62, c4_63, c4_64, c4_65, c4_66, c4_67, e4_69, w4_69, c4_70, c4_71, c4_72, c4_73, c4_74, e4_76, w4_76, c4_77, c4_78, c4_79, c4_80, c4_81, c4_82, c4_83]
  rintro i vs M hi hid' ⟨L, s, hS, rfl⟩
  obtain ⟨o, ho⟩ : ∃ o, l[i]? = some o := ⟨l[i], by simp⟩
  have how := hl o (List.mem_of_getElem? ho)
  have hb := hS.bound o.day
  simp -implicitDefEqProofs (disch := omega) only [go_sem, Nat.reduceAdd, Nat.reduceMul, Nat.reduceSub, Nat.reduceBEq, Nat.reduceLeDiff, Nat.reduceLT, fn_transitlaw37_AccountSums, e4_1, w4_1, e4_3, w4_3, c4_4, e4_6, w4_6, e4_8, w4_8, e4_10, w4_10, c4_11, e4_13, w4_13, e4_15, w4_15, e4_17, w4_17, e4_19, w4_19, e4_21, w4_21, e4_23, w4_23, e4_25, w4_25, c4_26, e4_28, w4_28, e4_30, w4_30, c4_31, e4_33, w4_33, e4_35, w4_35, e4_37, w4_37, e4_39, w4_39, e4_41, w4_41, e4_43, w4_43, e4_45, w4_45, e4_47, w4_47, c4_48, e4_50, w4_50, c4_51, c4_52, c4_53, c4_54, c4_55, e4_57, w4_57, c4_58, e4_60, w4_60, c4_61, c4_62, c4_63, c4_64, c4_65, c4_66, c4_67, e4_69, w4_69, c4_70, c4_71, c4_72, c4_73, c4_74, e4_76, w4_76, c4_77, c4_78, c4_79, c4_80, c4_81, c4_82, c4_83, hid', ho, Oper.row]
  refine callA (do_ok hwf hck hS.acc o how ⟨hb.1, by omega⟩) ?_
  rintro v M' ⟨rfl, rfl⟩
  rw [doRes_tag]
  have hA2 := hS.acc.set (doRes f L o).2.2
  have hT2 := hS.from'.set hmid (.map (dayMap (doRes f L o).2.2))
  have hAr2 : (M.set mid (.map (dayMap (doRes f L o).2.2)))[sid]? = some (.arr 1 (s.map iRow) 0 0) := by
    rw [List.getElem?_set_ne (by omega)]; exact hS.arr
  have h0 := hT2.first
  have hdo : ∀ d, spentOn (doRes f L o).2.2 d = spentOn L d + if o.day = d then delta f L o else 0 := do_spent f L o
  have hbd := do_within hc hS.bound hS.cap o
  have hsl := hS.len
  have hs0 : s[i]? = some 0 := hS.rest i (Nat.le_refl _) (by omega)
  generalize hKN : M.set mid (.map (dayMap (doRes f L o).2.2)) = K at *
  simp -implicitDefEqProofs (disch := omega) only [go_sem, Nat.reduceAdd, Nat.reduceMul, Nat.reduceSub, Nat.reduceBEq, Nat.reduceLeDiff, Nat.reduceLT, fn_transitlaw37_AccountSums, e4_1, w4_1, e4_3, w4_3, c4_4, e4_6, w4_6, e4_8, w4_8, e4_10, w4_10, c4_11, e4_13, w4_13, e4_15, w4_15, e4_17, w4_17, e4_19, w4_19, e4_21, w4_21, e4_23, w4_23, e4_25, w4_25, c4_26, e4_28, w4_28, e4_30, w4_30, c4_31, e4_33, w4_33, e4_35, w4_35, e4_37, w4_37, e4_39, w4_39, e4_41, w4_41, e4_43, w4_43, e4_45, w4_45, e4_47, w4_47, c4_48, e4_50, w4_50, c4_51, c4_52, c4_53, c4_54, c4_55, e4_57, w4_57, c4_58, e4_60, w4_60, c4_61, c4_62, c4_63, c4_64, c4_65, c4_66, c4_67, e4_69, w4_69, c4_70, c4_71, c4_72, c4_73, c4_74, e4_76, w4_76, c4_77, c4_78, c4_79, c4_80, c4_81, c4_82, c4_83, pairV, h0, ho, Oper.row]
  refine callP (transitref35_Price_ok f o.rides o.cap hf how.2.1) ?_
  rintro v ⟨e', rfl⟩
  have hAK : Acc K ⟨f.products, t, f.discount, f.within, f.limit⟩ id mid (doRes f L o).2.2 := hA2
  have hstore : ∀ x : Int, (s.map iRow).set i [.int .i64 x] = (s.set i x).map iRow := fun x => by rw [List.map_set]; rfl
  have hget : (s.map iRow)[i]? = some [.int .i64 0] := by rw [List.getElem?_map, hs0]; rfl
  have hml : (s.map iRow).length = l.length := by rw [List.length_map]; exact hsl
  simp -implicitDefEqProofs (disch := omega) only [go_sem, Nat.reduceAdd, Nat.reduceMul, Nat.reduceSub, Nat.reduceBEq, Nat.reduceLeDiff, Nat.reduceLT, fn_transitlaw37_AccountSums, e4_1, w4_1, e4_3, w4_3, c4_4, e4_6, w4_6, e4_8, w4_8, e4_10, w4_10, c4_11, e4_13, w4_13, e4_15, w4_15, e4_17, w4_17, e4_19, w4_19, e4_21, w4_21, e4_23, w4_23, e4_25, w4_25, c4_26, e4_28, w4_28, e4_30, w4_30, c4_31, e4_33, w4_33, e4_35, w4_35, e4_37, w4_37, e4_39, w4_39, e4_41, w4_41, e4_43, w4_43, e4_45, w4_45, e4_47, w4_47, c4_48, e4_50, w4_50, c4_51, c4_52, c4_53, c4_54, c4_55, e4_57, w4_57, c4_58, e4_60, w4_60, c4_61, c4_62, c4_63, c4_64, c4_65, c4_66, c4_67, e4_69, w4_69, c4_70, c4_71, c4_72, c4_73, c4_74, e4_76, w4_76, c4_77, c4_78, c4_79, c4_80, c4_81, c4_82, c4_83, fareV, ho, Oper.row]
  by_cases hr : o.refund = true
  · have ed : (doRes f L o).2.1 = (refundRes L o.day o.amount).1 := by rw [doRes, if_pos hr]
    rw [hr]
    simp -implicitDefEqProofs (disch := omega) only [go_sem, Nat.reduceAdd, Nat.reduceMul, Nat.reduceSub, Nat.reduceBEq, Nat.reduceLeDiff, Nat.reduceLT, fn_transitlaw37_AccountSums, e4_1, w4_1, e4_3, w4_3, c4_4, e4_6, w4_6, e4_8, w4_8, e4_10, w4_10, c4_11, e4_13, w4_13, e4_15, w4_15, e4_17, w4_17, e4_19, w4_19, e4_21, w4_21, e4_23, w4_23, e4_25, w4_25, c4_26, e4_28, w4_28, e4_30, w4_30, c4_31, e4_33, w4_33, e4_35, w4_35, e4_37, w4_37, e4_39, w4_39, e4_41, w4_41, e4_43, w4_43, e4_45, w4_45, e4_47, w4_47, c4_48, e4_50, w4_50, c4_51, c4_52, c4_53, c4_54, c4_55, e4_57, w4_57, c4_58, e4_60, w4_60, c4_61, c4_62, c4_63, c4_64, c4_65, c4_66, c4_67, e4_69, w4_69, c4_70, c4_71, c4_72, c4_73, c4_74, e4_76, w4_76, c4_77, c4_78, c4_79, c4_80, c4_81, c4_82, c4_83, ho, Oper.row, hr, ed]
    refine ifD (fun h4 => ?_) (fun h4 => ?_)
    · have edl : delta f L o = -o.amount := by rw [delta, if_pos hr, if_pos h4]
      have hsm := delta_small hc hS.bound (by omega) hS.cap o
      rw [edl] at hsm
      simp -implicitDefEqProofs (disch := omega) only [go_sem, Nat.reduceAdd, Nat.reduceMul, Nat.reduceSub, Nat.reduceBEq, Nat.reduceLeDiff, Nat.reduceLT, fn_transitlaw37_AccountSums, e4_1, w4_1, e4_3, w4_3, c4_4, e4_6, w4_6, e4_8, w4_8, e4_10, w4_10, c4_11, e4_13, w4_13, e4_15, w4_15, e4_17, w4_17, e4_19, w4_19, e4_21, w4_21, e4_23, w4_23, e4_25, w4_25, c4_26, e4_28, w4_28, e4_30, w4_30, c4_31, e4_33, w4_33, e4_35, w4_35, e4_37, w4_37, e4_39, w4_39, e4_41, w4_41, e4_43, w4_43, e4_45, w4_45, e4_47, w4_47, c4_48, e4_50, w4_50, c4_51, c4_52, c4_53, c4_54, c4_55, e4_57, w4_57, c4_58, e4_60, w4_60, c4_61, c4_62, c4_63, c4_64, c4_65, c4_66, c4_67, e4_69, w4_69, c4_70, c4_71, c4_72, c4_73, c4_74, e4_76, w4_76, c4_77, c4_78, c4_79, c4_80, c4_81, c4_82, c4_83, ho, Oper.row, hAr2, hget, hml, dec_lt hi, iRow]
      rw [hstore, show (0 : Int) - o.amount = delta f L o by omega]
      have hKM : (K.set sid (.arr 1 ((s.set i (delta f L o)).map iRow) 0 0))[sid]? = some (.arr 1 ((s.set i (delta f L o)).map iRow) 0 0) := by rw [List.getElem?_set_self (List.getElem?_eq_some_iff.1 hAr2).1]
      have hS2 := hS.next hc ho (by omega) (hAK.arr (by omega) (by omega) 1 ((s.set i (delta f L o)).map iRow) 0 0) (hT2.set (show ([Blk.box [.slice (f.products.map Product.row) f.tag, .int .i64 f.discount, .int .i64 f.within, .int .i64 f.limit]] : Mem).length ≤ sid by simp; omega) (.arr 1 ((s.set i (delta f L o)).map iRow) 0 0)) hKM
      generalize hK2 : K.set sid (.arr 1 ((s.set i (delta f L o)).map iRow) 0 0) = K2 at *
      generalize s.set i (delta f L o) = s' at *
      have h02 := hS2.from'.first
      have hsl2 := hS2.len
      have hA3 := hS2.arr
      refine wpC_for (i + 1) (fun k vs M => vs = [.slice (l.map Oper.row) c, .ptr 0 0, .ptr id 0, .mslice sid 0 0 l.length, .int .i64 i, .int .i64 (dsum l s' o.day k), .int .i64 k] ∧ M = K2) ⟨rfl, rfl⟩ ?_ ?_
      · rintro k vs M2 hk hkd ⟨rfl, rfl⟩
        obtain ⟨p, hp⟩ : ∃ p, l[k]? = some p := ⟨l[k], by simp⟩
        obtain ⟨x, hx⟩ : ∃ x, s'[k]? = some x := ⟨s'[k], by simp⟩
        have hds := dsum_small (l := l) hS2.small o.day k
        have hx2 : (s'.map iRow)[k]? = some [.int .i64 x] := by rw [List.getElem?_map, hx]; rfl
        have hxs := hS2.small x (List.mem_of_getElem? hx)
        have hst : dsum l s' o.day (k + 1) = dsum l s' o.day k + if p.day = o.day then x else 0 := by rw [dsum, hp, hx]
        simp -implicitDefEqProofs (disch := omega) only [go_sem, Nat.reduceAdd, Nat.reduceMul, Nat.reduceSub, Nat.reduceBEq, Nat.reduceLeDiff, Nat.reduceLT, fn_transitlaw37_AccountSums, e4_1, w4_1, e4_3, w4_3, c4_4, e4_6, w4_6, e4_8, w4_8, e4_10, w4_10, c4_11, e4_13, w4_13, e4_15, w4_15, e4_17, w4_17, e4_19, w4_19, e4_21, w4_21, e4_23, w4_23, e4_25, w4_25, c4_26, e4_28, w4_28, e4_30, w4_30, c4_31, e4_33, w4_33, e4_35, w4_35, e4_37, w4_37, e4_39, w4_39, e4_41, w4_41, e4_43, w4_43, e4_45, w4_45, e4_47, w4_47, c4_48, e4_50, w4_50, c4_51, c4_52, c4_53, c4_54, c4_55, e4_57, w4_57, c4_58, e4_60, w4_60, c4_61, c4_62, c4_63, c4_64, c4_65, c4_66, c4_67, e4_69, w4_69, c4_70, c4_71, c4_72, c4_73, c4_74, e4_76, w4_76, c4_77, c4_78, c4_79, c4_80, c4_81, c4_82, c4_83]
        refine ifD (fun h5 => ?_) (fun h5 => ?_)
        rotate_left
        · omega
        simp -implicitDefEqProofs (disch := omega) only [go_sem, Nat.reduceAdd, Nat.reduceMul, Nat.reduceSub, Nat.reduceBEq, Nat.reduceLeDiff, Nat.reduceLT, fn_transitlaw37_AccountSums, e4_1, w4_1, e4_3, w4_3, c4_4, e4_6, w4_6, e4_8, w4_8, e4_10, w4_10, c4_11, e4_13, w4_13, e4_15, w4_15, e4_17, w4_17, e4_19, w4_19, e4_21, w4_21, e4_23, w4_23, e4_25, w4_25, c4_26, e4_28, w4_28, e4_30, w4_30, c4_31, e4_33, w4_33, e4_35, w4_35, e4_37, w4_37, e4_39, w4_39, e4_41, w4_41, e4_43, w4_43, e4_45, w4_45, e4_47, w4_47, c4_48, e4_50, w4_50, c4_51, c4_52, c4_53, c4_54, c4_55, e4_57, w4_57, c4_58, e4_60, w4_60, c4_61, c4_62, c4_63, c4_64, c4_65, c4_66, c4_67, e4_69, w4_69, c4_70, c4_71, c4_72, c4_73, c4_74, e4_76, w4_76, c4_77, c4_78, c4_79, c4_80, c4_81, c4_82, c4_83, hp, ho, Oper.row]
        refine ifD (fun h6 => ?_) (fun h6 => ?_)
        · rw [if_pos h6] at hst
          simp -implicitDefEqProofs (disch := omega) only [go_sem, Nat.reduceAdd, Nat.reduceMul, Nat.reduceSub, Nat.reduceBEq, Nat.reduceLeDiff, Nat.reduceLT, fn_transitlaw37_AccountSums, e4_1, w4_1, e4_3, w4_3, c4_4, e4_6, w4_6, e4_8, w4_8, e4_10, w4_10, c4_11, e4_13, w4_13, e4_15, w4_15, e4_17, w4_17, e4_19, w4_19, e4_21, w4_21, e4_23, w4_23, e4_25, w4_25, c4_26, e4_28, w4_28, e4_30, w4_30, c4_31, e4_33, w4_33, e4_35, w4_35, e4_37, w4_37, e4_39, w4_39, e4_41, w4_41, e4_43, w4_43, e4_45, w4_45, e4_47, w4_47, c4_48, e4_50, w4_50, c4_51, c4_52, c4_53, c4_54, c4_55, e4_57, w4_57, c4_58, e4_60, w4_60, c4_61, c4_62, c4_63, c4_64, c4_65, c4_66, c4_67, e4_69, w4_69, c4_70, c4_71, c4_72, c4_73, c4_74, e4_76, w4_76, c4_77, c4_78, c4_79, c4_80, c4_81, c4_82, c4_83, hA3, hx, iRow, hsl2, List.length_map, hx2, dec_lt (show k < l.length by omega)]
          refine next_stay hk ?_
          refine ⟨?_, rfl⟩
          rw [hst]
          simp only [vals, sget]; rfl
        · rw [if_neg h6, Int.add_zero] at hst
          simp -implicitDefEqProofs (disch := omega) only [go_sem, Nat.reduceAdd, Nat.reduceMul, Nat.reduceSub, Nat.reduceBEq, Nat.reduceLeDiff, Nat.reduceLT, fn_transitlaw37_AccountSums, e4_1, w4_1, e4_3, w4_3, c4_4, e4_6, w4_6, e4_8, w4_8, e4_10, w4_10, c4_11, e4_13, w4_13, e4_15, w4_15, e4_17, w4_17, e4_19, w4_19, e4_21, w4_21, e4_23, w4_23, e4_25, w4_25, c4_26, e4_28, w4_28, e4_30, w4_30, c4_31, e4_33, w4_33, e4_35, w4_35, e4_37, w4_37, e4_39, w4_39, e4_41, w4_41, e4_43, w4_43, e4_45, w4_45, e4_47, w4_47, c4_48, e4_50, w4_50, c4_51, c4_52, c4_53, c4_54, c4_55, e4_57, w4_57, c4_58, e4_60, w4_60, c4_61, c4_62, c4_63, c4_64, c4_65, c4_66, c4_67, e4_69, w4_69, c4_70, c4_71, c4_72, c4_73, c4_74, e4_76, w4_76, c4_77, c4_78, c4_79, c4_80, c4_81, c4_82, c4_83]
          refine next_stay hk ?_
          refine ⟨?_, rfl⟩
          rw [hst]
          simp only [vals, sget]; rfl
      · rintro vs M2 ⟨rfl, rfl⟩
        simp -implicitDefEqProofs (disch := omega) only [go_sem, Nat.reduceAdd, Nat.reduceMul, Nat.reduceSub, Nat.reduceBEq, Nat.reduceLeDiff, Nat.reduceLT, fn_transitlaw37_AccountSums, e4_1, w4_1, e4_3, w4_3, c4_4, e4_6, w4_6, e4_8, w4_8, e4_10, w4_10, c4_11, e4_13, w4_13, e4_15, w4_15, e4_17, w4_17, e4_19, w4_19, e4_21, w4_21, e4_23, w4_23, e4_25, w4_25, c4_26, e4_28, w4_28, e4_30, w4_30, c4_31, e4_33, w4_33, e4_35, w4_35, e4_37, w4_37, e4_39, w4_39, e4_41, w4_41, e4_43, w4_43, e4_45, w4_45, e4_47, w4_47, c4_48, e4_50, w4_50, c4_51, c4_52, c4_53, c4_54, c4_55, e4_57, w4_57, c4_58, e4_60, w4_60, c4_61, c4_62, c4_63, c4_64, c4_65, c4_66, c4_67, e4_69, w4_69, c4_70, c4_71, c4_72, c4_73, c4_74, e4_76, w4_76, c4_77, c4_78, c4_79, c4_80, c4_81, c4_82, c4_83]
        refine ifD (fun h5 => ?_) (fun h5 => ?_)
        · omega
        simp -implicitDefEqProofs (disch := omega) only [go_sem, Nat.reduceAdd, Nat.reduceMul, Nat.reduceSub, Nat.reduceBEq, Nat.reduceLeDiff, Nat.reduceLT, fn_transitlaw37_AccountSums, e4_1, w4_1, e4_3, w4_3, c4_4, e4_6, w4_6, e4_8, w4_8, e4_10, w4_10, c4_11, e4_13, w4_13, e4_15, w4_15, e4_17, w4_17, e4_19, w4_19, e4_21, w4_21, e4_23, w4_23, e4_25, w4_25, c4_26, e4_28, w4_28, e4_30, w4_30, c4_31, e4_33, w4_33, e4_35, w4_35, e4_37, w4_37, e4_39, w4_39, e4_41, w4_41, e4_43, w4_43, e4_45, w4_45, e4_47, w4_47, c4_48, e4_50, w4_50, c4_51, c4_52, c4_53, c4_54, c4_55, e4_57, w4_57, c4_58, e4_60, w4_60, c4_61, c4_62, c4_63, c4_64, c4_65, c4_66, c4_67, e4_69, w4_69, c4_70, c4_71, c4_72, c4_73, c4_74, e4_76, w4_76, c4_77, c4_78, c4_79, c4_80, c4_81, c4_82, c4_83, ho, Oper.row]
        refine callA (Account_Spent_ok hS2.acc o.day) ?_
        rintro v N' ⟨rfl, rfl⟩
        rw [hS2.sums o.day]
        simp -implicitDefEqProofs (disch := omega) only [go_sem, Nat.reduceAdd, Nat.reduceMul, Nat.reduceSub, Nat.reduceBEq, Nat.reduceLeDiff, Nat.reduceLT, fn_transitlaw37_AccountSums, e4_1, w4_1, e4_3, w4_3, c4_4, e4_6, w4_6, e4_8, w4_8, e4_10, w4_10, c4_11, e4_13, w4_13, e4_15, w4_15, e4_17, w4_17, e4_19, w4_19, e4_21, w4_21, e4_23, w4_23, e4_25, w4_25, c4_26, e4_28, w4_28, e4_30, w4_30, c4_31, e4_33, w4_33, e4_35, w4_35, e4_37, w4_37, e4_39, w4_39, e4_41, w4_41, e4_43, w4_43, e4_45, w4_45, e4_47, w4_47, c4_48, e4_50, w4_50, c4_51, c4_52, c4_53, c4_54, c4_55, e4_57, w4_57, c4_58, e4_60, w4_60, c4_61, c4_62, c4_63, c4_64, c4_65, c4_66, c4_67, e4_69, w4_69, c4_70, c4_71, c4_72, c4_73, c4_74, e4_76, w4_76, c4_77, c4_78, c4_79, c4_80, c4_81, c4_82, c4_83]
        refine next_stay hi ?_
        refine ⟨(doRes f L o).2.2, s', hS2, ?_⟩
        simp only [vals, sget]; rfl
    · have hzero : s.set i (delta f L o) = s := by
        have : delta f L o = 0 := by rw [delta, if_pos hr, if_neg h4]
        rw [this]
        apply List.ext_getElem?
        intro j
        by_cases hj : i = j
        · subst hj; rw [List.getElem?_set_self (by omega), hs0]
        · rw [List.getElem?_set_ne hj]
      have hS2 := hS.next hc ho (by omega) (hAK) (hT2) (by rw [hzero]; exact hAr2)
      generalize s.set i (delta f L o) = s' at *
      have h02 := hS2.from'.first
      have hsl2 := hS2.len
      have hA3 := hS2.arr
      simp -implicitDefEqProofs (disch := omega) only [go_sem, Nat.reduceAdd, Nat.reduceMul, Nat.reduceSub, Nat.reduceBEq, Nat.reduceLeDiff, Nat.reduceLT, fn_transitlaw37_AccountSums, e4_1, w4_1, e4_3, w4_3, c4_4, e4_6, w4_6, e4_8, w4_8, e4_10, w4_10, c4_11, e4_13, w4_13, e4_15, w4_15, e4_17, w4_17, e4_19, w4_19, e4_21, w4_21, e4_23, w4_23, e4_25, w4_25, c4_26, e4_28, w4_28, e4_30, w4_30, c4_31, e4_33, w4_33, e4_35, w4_35, e4_37, w4_37, e4_39, w4_39, e4_41, w4_41, e4_43, w4_43, e4_45, w4_45, e4_47, w4_47, c4_48, e4_50, w4_50, c4_51, c4_52, c4_53, c4_54, c4_55, e4_57, w4_57, c4_58, e4_60, w4_60, c4_61, c4_62, c4_63, c4_64, c4_65, c4_66, c4_67, e4_69, w4_69, c4_70, c4_71, c4_72, c4_73, c4_74, e4_76, w4_76, c4_77, c4_78, c4_79, c4_80, c4_81, c4_82, c4_83]
      refine wpC_for (i + 1) (fun k vs M => vs = [.slice (l.map Oper.row) c, .ptr 0 0, .ptr id 0, .mslice sid 0 0 l.length, .int .i64 i, .int .i64 (dsum l s' o.day k), .int .i64 k] ∧ M = K) ⟨rfl, rfl⟩ ?_ ?_
      · rintro k vs M2 hk hkd ⟨rfl, rfl⟩
        obtain ⟨p, hp⟩ : ∃ p, l[k]? = some p := ⟨l[k], by simp⟩
        obtain ⟨x, hx⟩ : ∃ x, s'[k]? = some x := ⟨s'[k], by simp⟩
        have hds := dsum_small (l := l) hS2.small o.day k
        have hx2 : (s'.map iRow)[k]? = some [.int .i64 x] := by rw [List.getElem?_map, hx]; rfl
        have hxs := hS2.small x (List.mem_of_getElem? hx)
        have hst : dsum l s' o.day (k + 1) = dsum l s' o.day k + if p.day = o.day then x else 0 := by rw [dsum, hp, hx]
        simp -implicitDefEqProofs (disch := omega) only [go_sem, Nat.reduceAdd, Nat.reduceMul, Nat.reduceSub, Nat.reduceBEq, Nat.reduceLeDiff, Nat.reduceLT, fn_transitlaw37_AccountSums, e4_1, w4_1, e4_3, w4_3, c4_4, e4_6, w4_6, e4_8, w4_8, e4_10, w4_10, c4_11, e4_13, w4_13, e4_15, w4_15, e4_17, w4_17, e4_19, w4_19, e4_21, w4_21, e4_23, w4_23, e4_25, w4_25, c4_26, e4_28, w4_28, e4_30, w4_30, c4_31, e4_33, w4_33, e4_35, w4_35, e4_37, w4_37, e4_39, w4_39, e4_41, w4_41, e4_43, w4_43, e4_45, w4_45, e4_47, w4_47, c4_48, e4_50, w4_50, c4_51, c4_52, c4_53, c4_54, c4_55, e4_57, w4_57, c4_58, e4_60, w4_60, c4_61, c4_62, c4_63, c4_64, c4_65, c4_66, c4_67, e4_69, w4_69, c4_70, c4_71, c4_72, c4_73, c4_74, e4_76, w4_76, c4_77, c4_78, c4_79, c4_80, c4_81, c4_82, c4_83]
        refine ifD (fun h5 => ?_) (fun h5 => ?_)
        rotate_left
        · omega
        simp -implicitDefEqProofs (disch := omega) only [go_sem, Nat.reduceAdd, Nat.reduceMul, Nat.reduceSub, Nat.reduceBEq, Nat.reduceLeDiff, Nat.reduceLT, fn_transitlaw37_AccountSums, e4_1, w4_1, e4_3, w4_3, c4_4, e4_6, w4_6, e4_8, w4_8, e4_10, w4_10, c4_11, e4_13, w4_13, e4_15, w4_15, e4_17, w4_17, e4_19, w4_19, e4_21, w4_21, e4_23, w4_23, e4_25, w4_25, c4_26, e4_28, w4_28, e4_30, w4_30, c4_31, e4_33, w4_33, e4_35, w4_35, e4_37, w4_37, e4_39, w4_39, e4_41, w4_41, e4_43, w4_43, e4_45, w4_45, e4_47, w4_47, c4_48, e4_50, w4_50, c4_51, c4_52, c4_53, c4_54, c4_55, e4_57, w4_57, c4_58, e4_60, w4_60, c4_61, c4_62, c4_63, c4_64, c4_65, c4_66, c4_67, e4_69, w4_69, c4_70, c4_71, c4_72, c4_73, c4_74, e4_76, w4_76, c4_77, c4_78, c4_79, c4_80, c4_81, c4_82, c4_83, hp, ho, Oper.row]
        refine ifD (fun h6 => ?_) (fun h6 => ?_)
        · rw [if_pos h6] at hst
          simp -implicitDefEqProofs (disch := omega) only [go_sem, Nat.reduceAdd, Nat.reduceMul, Nat.reduceSub, Nat.reduceBEq, Nat.reduceLeDiff, Nat.reduceLT, fn_transitlaw37_AccountSums, e4_1, w4_1, e4_3, w4_3, c4_4, e4_6, w4_6, e4_8, w4_8, e4_10, w4_10, c4_11, e4_13, w4_13, e4_15, w4_15, e4_17, w4_17, e4_19, w4_19, e4_21, w4_21, e4_23, w4_23, e4_25, w4_25, c4_26, e4_28, w4_28, e4_30, w4_30, c4_31, e4_33, w4_33, e4_35, w4_35, e4_37, w4_37, e4_39, w4_39, e4_41, w4_41, e4_43, w4_43, e4_45, w4_45, e4_47, w4_47, c4_48, e4_50, w4_50, c4_51, c4_52, c4_53, c4_54, c4_55, e4_57, w4_57, c4_58, e4_60, w4_60, c4_61, c4_62, c4_63, c4_64, c4_65, c4_66, c4_67, e4_69, w4_69, c4_70, c4_71, c4_72, c4_73, c4_74, e4_76, w4_76, c4_77, c4_78, c4_79, c4_80, c4_81, c4_82, c4_83, hA3, hx, iRow, hsl2, List.length_map, hx2, dec_lt (show k < l.length by omega)]
          refine next_stay hk ?_
          refine ⟨?_, rfl⟩
          rw [hst]
          simp only [vals, sget]; rfl
        · rw [if_neg h6, Int.add_zero] at hst
          simp -implicitDefEqProofs (disch := omega) only [go_sem, Nat.reduceAdd, Nat.reduceMul, Nat.reduceSub, Nat.reduceBEq, Nat.reduceLeDiff, Nat.reduceLT, fn_transitlaw37_AccountSums, e4_1, w4_1, e4_3, w4_3, c4_4, e4_6, w4_6, e4_8, w4_8, e4_10, w4_10, c4_11, e4_13, w4_13, e4_15, w4_15, e4_17, w4_17, e4_19, w4_19, e4_21, w4_21, e4_23, w4_23, e4_25, w4_25, c4_26, e4_28, w4_28, e4_30, w4_30, c4_31, e4_33, w4_33, e4_35, w4_35, e4_37, w4_37, e4_39, w4_39, e4_41, w4_41, e4_43, w4_43, e4_45, w4_45, e4_47, w4_47, c4_48, e4_50, w4_50, c4_51, c4_52, c4_53, c4_54, c4_55, e4_57, w4_57, c4_58, e4_60, w4_60, c4_61, c4_62, c4_63, c4_64, c4_65, c4_66, c4_67, e4_69, w4_69, c4_70, c4_71, c4_72, c4_73, c4_74, e4_76, w4_76, c4_77, c4_78, c4_79, c4_80, c4_81, c4_82, c4_83]
          refine next_stay hk ?_
          refine ⟨?_, rfl⟩
          rw [hst]
          simp only [vals, sget]; rfl
      · rintro vs M2 ⟨rfl, rfl⟩
        simp -implicitDefEqProofs (disch := omega) only [go_sem, Nat.reduceAdd, Nat.reduceMul, Nat.reduceSub, Nat.reduceBEq, Nat.reduceLeDiff, Nat.reduceLT, fn_transitlaw37_AccountSums, e4_1, w4_1, e4_3, w4_3, c4_4, e4_6, w4_6, e4_8, w4_8, e4_10, w4_10, c4_11, e4_13, w4_13, e4_15, w4_15, e4_17, w4_17, e4_19, w4_19, e4_21, w4_21, e4_23, w4_23, e4_25, w4_25, c4_26, e4_28, w4_28, e4_30, w4_30, c4_31, e4_33, w4_33, e4_35, w4_35, e4_37, w4_37, e4_39, w4_39, e4_41, w4_41, e4_43, w4_43, e4_45, w4_45, e4_47, w4_47, c4_48, e4_50, w4_50, c4_51, c4_52, c4_53, c4_54, c4_55, e4_57, w4_57, c4_58, e4_60, w4_60, c4_61, c4_62, c4_63, c4_64, c4_65, c4_66, c4_67, e4_69, w4_69, c4_70, c4_71, c4_72, c4_73, c4_74, e4_76, w4_76, c4_77, c4_78, c4_79, c4_80, c4_81, c4_82, c4_83]
        refine ifD (fun h5 => ?_) (fun h5 => ?_)
        · omega
        simp -implicitDefEqProofs (disch := omega) only [go_sem, Nat.reduceAdd, Nat.reduceMul, Nat.reduceSub, Nat.reduceBEq, Nat.reduceLeDiff, Nat.reduceLT, fn_transitlaw37_AccountSums, e4_1, w4_1, e4_3, w4_3, c4_4, e4_6, w4_6, e4_8, w4_8, e4_10, w4_10, c4_11, e4_13, w4_13, e4_15, w4_15, e4_17, w4_17, e4_19, w4_19, e4_21, w4_21, e4_23, w4_23, e4_25, w4_25, c4_26, e4_28, w4_28, e4_30, w4_30, c4_31, e4_33, w4_33, e4_35, w4_35, e4_37, w4_37, e4_39, w4_39, e4_41, w4_41, e4_43, w4_43, e4_45, w4_45, e4_47, w4_47, c4_48, e4_50, w4_50, c4_51, c4_52, c4_53, c4_54, c4_55, e4_57, w4_57, c4_58, e4_60, w4_60, c4_61, c4_62, c4_63, c4_64, c4_65, c4_66, c4_67, e4_69, w4_69, c4_70, c4_71, c4_72, c4_73, c4_74, e4_76, w4_76, c4_77, c4_78, c4_79, c4_80, c4_81, c4_82, c4_83, ho, Oper.row]
        refine callA (Account_Spent_ok hS2.acc o.day) ?_
        rintro v N' ⟨rfl, rfl⟩
        rw [hS2.sums o.day]
        simp -implicitDefEqProofs (disch := omega) only [go_sem, Nat.reduceAdd, Nat.reduceMul, Nat.reduceSub, Nat.reduceBEq, Nat.reduceLeDiff, Nat.reduceLT, fn_transitlaw37_AccountSums, e4_1, w4_1, e4_3, w4_3, c4_4, e4_6, w4_6, e4_8, w4_8, e4_10, w4_10, c4_11, e4_13, w4_13, e4_15, w4_15, e4_17, w4_17, e4_19, w4_19, e4_21, w4_21, e4_23, w4_23, e4_25, w4_25, c4_26, e4_28, w4_28, e4_30, w4_30, c4_31, e4_33, w4_33, e4_35, w4_35, e4_37, w4_37, e4_39, w4_39, e4_41, w4_41, e4_43, w4_43, e4_45, w4_45, e4_47, w4_47, c4_48, e4_50, w4_50, c4_51, c4_52, c4_53, c4_54, c4_55, e4_57, w4_57, c4_58, e4_60, w4_60, c4_61, c4_62, c4_63, c4_64, c4_65, c4_66, c4_67, e4_69, w4_69, c4_70, c4_71, c4_72, c4_73, c4_74, e4_76, w4_76, c4_77, c4_78, c4_79, c4_80, c4_81, c4_82, c4_83]
        refine next_stay hi ?_
        refine ⟨(doRes f L o).2.2, s', hS2, ?_⟩
        simp only [vals, sget]; rfl
  · have hr' : o.refund = false := by simpa using hr
    have ed : (doRes f L o).2.1 = (chargeRes f L o.day o.rides).2.1 := by rw [doRes, if_neg hr]
    have ed1 : (doRes f L o).1 = (chargeRes f L o.day o.rides).1 := by rw [doRes, if_neg hr]
    rw [hr']
    simp -implicitDefEqProofs (disch := omega) only [go_sem, Nat.reduceAdd, Nat.reduceMul, Nat.reduceSub, Nat.reduceBEq, Nat.reduceLeDiff, Nat.reduceLT, fn_transitlaw37_AccountSums, e4_1, w4_1, e4_3, w4_3, c4_4, e4_6, w4_6, e4_8, w4_8, e4_10, w4_10, c4_11, e4_13, w4_13, e4_15, w4_15, e4_17, w4_17, e4_19, w4_19, e4_21, w4_21, e4_23, w4_23, e4_25, w4_25, c4_26, e4_28, w4_28, e4_30, w4_30, c4_31, e4_33, w4_33, e4_35, w4_35, e4_37, w4_37, e4_39, w4_39, e4_41, w4_41, e4_43, w4_43, e4_45, w4_45, e4_47, w4_47, c4_48, e4_50, w4_50, c4_51, c4_52, c4_53, c4_54, c4_55, e4_57, w4_57, c4_58, e4_60, w4_60, c4_61, c4_62, c4_63, c4_64, c4_65, c4_66, c4_67, e4_69, w4_69, c4_70, c4_71, c4_72, c4_73, c4_74, e4_76, w4_76, c4_77, c4_78, c4_79, c4_80, c4_81, c4_82, c4_83, ho, Oper.row, hr', ed]
    refine ifD (fun h4 => ?_) (fun h4 => ?_)
    · obtain ⟨c1, c2, c3⟩ := charge_err h4
      have hca := charge_amt hc hS.cap o.day o.rides
      have edl : delta f L o = chargeAmt f L o.day o.rides := by rw [delta, if_neg hr, if_pos h4, c2]
      have hKM : (K.set sid (.arr 1 ((s.set i (delta f L o)).map iRow) 0 0))[sid]? = some (.arr 1 ((s.set i (delta f L o)).map iRow) 0 0) := by rw [List.getElem?_set_self (List.getElem?_eq_some_iff.1 hAr2).1]
      have hS2 := hS.next hc ho (by omega) (hAK.arr (by omega) (by omega) 1 ((s.set i (delta f L o)).map iRow) 0 0) (hT2.set (show ([Blk.box [.slice (f.products.map Product.row) f.tag, .int .i64 f.discount, .int .i64 f.within, .int .i64 f.limit]] : Mem).length ≤ sid by simp; omega) (.arr 1 ((s.set i (delta f L o)).map iRow) 0 0)) hKM
      simp -implicitDefEqProofs (disch := omega) only [go_sem, Nat.reduceAdd, Nat.reduceMul, Nat.reduceSub, Nat.reduceBEq, Nat.reduceLeDiff, Nat.reduceLT, fn_transitlaw37_AccountSums, e4_1, w4_1, e4_3, w4_3, c4_4, e4_6, w4_6, e4_8, w4_8, e4_10, w4_10, c4_11, e4_13, w4_13, e4_15, w4_15, e4_17, w4_17, e4_19, w4_19, e4_21, w4_21, e4_23, w4_23, e4_25, w4_25, c4_26, e4_28, w4_28, e4_30, w4_30, c4_31, e4_33, w4_33, e4_35, w4_35, e4_37, w4_37, e4_39, w4_39, e4_41, w4_41, e4_43, w4_43, e4_45, w4_45, e4_47, w4_47, c4_48, e4_50, w4_50, c4_51, c4_52, c4_53, c4_54, c4_55, e4_57, w4_57, c4_58, e4_60, w4_60, c4_61, c4_62, c4_63, c4_64, c4_65, c4_66, c4_67, e4_69, w4_69, c4_70, c4_71, c4_72, c4_73, c4_74, e4_76, w4_76, c4_77, c4_78, c4_79, c4_80, c4_81, c4_82, c4_83, c1, ed1, c2]
      refine ifD (fun h5 => ?_) (fun h5 => ?_)
      · omega
      simp -implicitDefEqProofs (disch := omega) only [go_sem, Nat.reduceAdd, Nat.reduceMul, Nat.reduceSub, Nat.reduceBEq, Nat.reduceLeDiff, Nat.reduceLT, fn_transitlaw37_AccountSums, e4_1, w4_1, e4_3, w4_3, c4_4, e4_6, w4_6, e4_8, w4_8, e4_10, w4_10, c4_11, e4_13, w4_13, e4_15, w4_15, e4_17, w4_17, e4_19, w4_19, e4_21, w4_21, e4_23, w4_23, e4_25, w4_25, c4_26, e4_28, w4_28, e4_30, w4_30, c4_31, e4_33, w4_33, e4_35, w4_35, e4_37, w4_37, e4_39, w4_39, e4_41, w4_41, e4_43, w4_43, e4_45, w4_45, e4_47, w4_47, c4_48, e4_50, w4_50, c4_51, c4_52, c4_53, c4_54, c4_55, e4_57, w4_57, c4_58, e4_60, w4_60, c4_61, c4_62, c4_63, c4_64, c4_65, c4_66, c4_67, e4_69, w4_69, c4_70, c4_71, c4_72, c4_73, c4_74, e4_76, w4_76, c4_77, c4_78, c4_79, c4_80, c4_81, c4_82, c4_83]
      refine ifD (fun h6 => ?_) (fun h6 => ?_)
      · omega
      simp -implicitDefEqProofs (disch := omega) only [go_sem, Nat.reduceAdd, Nat.reduceMul, Nat.reduceSub, Nat.reduceBEq, Nat.reduceLeDiff, Nat.reduceLT, fn_transitlaw37_AccountSums, e4_1, w4_1, e4_3, w4_3, c4_4, e4_6, w4_6, e4_8, w4_8, e4_10, w4_10, c4_11, e4_13, w4_13, e4_15, w4_15, e4_17, w4_17, e4_19, w4_19, e4_21, w4_21, e4_23, w4_23, e4_25, w4_25, c4_26, e4_28, w4_28, e4_30, w4_30, c4_31, e4_33, w4_33, e4_35, w4_35, e4_37, w4_37, e4_39, w4_39, e4_41, w4_41, e4_43, w4_43, e4_45, w4_45, e4_47, w4_47, c4_48, e4_50, w4_50, c4_51, c4_52, c4_53, c4_54, c4_55, e4_57, w4_57, c4_58, e4_60, w4_60, c4_61, c4_62, c4_63, c4_64, c4_65, c4_66, c4_67, e4_69, w4_69, c4_70, c4_71, c4_72, c4_73, c4_74, e4_76, w4_76, c4_77, c4_78, c4_79, c4_80, c4_81, c4_82, c4_83]
      refine ifD (fun h7 => ?_) (fun h7 => ?_)
      · obtain ⟨g1, g2⟩ := hca.2.2 h7
        have hsp : spentOn (doRes f L o).2.2 o.day = f.limit := by rw [hdo, if_pos rfl, edl]; exact g2
        simp -implicitDefEqProofs (disch := omega) only [go_sem, Nat.reduceAdd, Nat.reduceMul, Nat.reduceSub, Nat.reduceBEq, Nat.reduceLeDiff, Nat.reduceLT, fn_transitlaw37_AccountSums, e4_1, w4_1, e4_3, w4_3, c4_4, e4_6, w4_6, e4_8, w4_8, e4_10, w4_10, c4_11, e4_13, w4_13, e4_15, w4_15, e4_17, w4_17, e4_19, w4_19, e4_21, w4_21, e4_23, w4_23, e4_25, w4_25, c4_26, e4_28, w4_28, e4_30, w4_30, c4_31, e4_33, w4_33, e4_35, w4_35, e4_37, w4_37, e4_39, w4_39, e4_41, w4_41, e4_43, w4_43, e4_45, w4_45, e4_47, w4_47, c4_48, e4_50, w4_50, c4_51, c4_52, c4_53, c4_54, c4_55, e4_57, w4_57, c4_58, e4_60, w4_60, c4_61, c4_62, c4_63, c4_64, c4_65, c4_66, c4_67, e4_69, w4_69, c4_70, c4_71, c4_72, c4_73, c4_74, e4_76, w4_76, c4_77, c4_78, c4_79, c4_80, c4_81, c4_82, c4_83, h0]
        refine ifD (fun h8 => ?_) (fun h8 => ?_)
        · exact absurd h8 g1
        simp -implicitDefEqProofs (disch := omega) only [go_sem, Nat.reduceAdd, Nat.reduceMul, Nat.reduceSub, Nat.reduceBEq, Nat.reduceLeDiff, Nat.reduceLT, fn_transitlaw37_AccountSums, e4_1, w4_1, e4_3, w4_3, c4_4, e4_6, w4_6, e4_8, w4_8, e4_10, w4_10, c4_11, e4_13, w4_13, e4_15, w4_15, e4_17, w4_17, e4_19, w4_19, e4_21, w4_21, e4_23, w4_23, e4_25, w4_25, c4_26, e4_28, w4_28, e4_30, w4_30, c4_31, e4_33, w4_33, e4_35, w4_35, e4_37, w4_37, e4_39, w4_39, e4_41, w4_41, e4_43, w4_43, e4_45, w4_45, e4_47, w4_47, c4_48, e4_50, w4_50, c4_51, c4_52, c4_53, c4_54, c4_55, e4_57, w4_57, c4_58, e4_60, w4_60, c4_61, c4_62, c4_63, c4_64, c4_65, c4_66, c4_67, e4_69, w4_69, c4_70, c4_71, c4_72, c4_73, c4_74, e4_76, w4_76, c4_77, c4_78, c4_79, c4_80, c4_81, c4_82, c4_83, ho, Oper.row]
        refine ⟨_, Account_Spent_ok hAK o.day, ?_⟩
        rw [hsp]
        simp -implicitDefEqProofs (disch := omega) only [go_sem, Nat.reduceAdd, Nat.reduceMul, Nat.reduceSub, Nat.reduceBEq, Nat.reduceLeDiff, Nat.reduceLT, fn_transitlaw37_AccountSums, e4_1, w4_1, e4_3, w4_3, c4_4, e4_6, w4_6, e4_8, w4_8, e4_10, w4_10, c4_11, e4_13, w4_13, e4_15, w4_15, e4_17, w4_17, e4_19, w4_19, e4_21, w4_21, e4_23, w4_23, e4_25, w4_25, c4_26, e4_28, w4_28, e4_30, w4_30, c4_31, e4_33, w4_33, e4_35, w4_35, e4_37, w4_37, e4_39, w4_39, e4_41, w4_41, e4_43, w4_43, e4_45, w4_45, e4_47, w4_47, c4_48, e4_50, w4_50, c4_51, c4_52, c4_53, c4_54, c4_55, e4_57, w4_57, c4_58, e4_60, w4_60, c4_61, c4_62, c4_63, c4_64, c4_65, c4_66, c4_67, e4_69, w4_69, c4_70, c4_71, c4_72, c4_73, c4_74, e4_76, w4_76, c4_77, c4_78, c4_79, c4_80, c4_81, c4_82, c4_83, h0, hAr2, hget, hml, dec_lt hi, iRow]
        rw [← edl, hstore]
        simp -implicitDefEqProofs (disch := omega) only [go_sem, Nat.reduceAdd, Nat.reduceMul, Nat.reduceSub, Nat.reduceBEq, Nat.reduceLeDiff, Nat.reduceLT, ho, Oper.row, hr']
        generalize hK2 : K.set sid (.arr 1 ((s.set i (delta f L o)).map iRow) 0 0) = K2 at *
        generalize s.set i (delta f L o) = s' at *
        have h02 := hS2.from'.first
        have hsl2 := hS2.len
        have hA3 := hS2.arr
        refine wpC_for (i + 1) (fun k vs M => vs = [.slice (l.map Oper.row) c, .ptr 0 0, .ptr id 0, .mslice sid 0 0 l.length, .int .i64 i, .int .i64 (dsum l s' o.day k), .int .i64 k] ∧ M = K2) ⟨rfl, rfl⟩ ?_ ?_
        · rintro k vs M2 hk hkd ⟨rfl, rfl⟩
          obtain ⟨p, hp⟩ : ∃ p, l[k]? = some p := ⟨l[k], by simp⟩
          obtain ⟨x, hx⟩ : ∃ x, s'[k]? = some x := ⟨s'[k], by simp⟩
          have hds := dsum_small (l := l) hS2.small o.day k
          have hx2 : (s'.map iRow)[k]? = some [.int .i64 x] := by rw [List.getElem?_map, hx]; rfl
          have hxs := hS2.small x (List.mem_of_getElem? hx)
          have hst : dsum l s' o.day (k + 1) = dsum l s' o.day k + if p.day = o.day then x else 0 := by rw [dsum, hp, hx]
          simp -implicitDefEqProofs (disch := omega) only [go_sem, Nat.reduceAdd, Nat.reduceMul, Nat.reduceSub, Nat.reduceBEq, Nat.reduceLeDiff, Nat.reduceLT, fn_transitlaw37_AccountSums, e4_1, w4_1, e4_3, w4_3, c4_4, e4_6, w4_6, e4_8, w4_8, e4_10, w4_10, c4_11, e4_13, w4_13, e4_15, w4_15, e4_17, w4_17, e4_19, w4_19, e4_21, w4_21, e4_23, w4_23, e4_25, w4_25, c4_26, e4_28, w4_28, e4_30, w4_30, c4_31, e4_33, w4_33, e4_35, w4_35, e4_37, w4_37, e4_39, w4_39, e4_41, w4_41, e4_43, w4_43, e4_45, w4_45, e4_47, w4_47, c4_48, e4_50, w4_50, c4_51, c4_52, c4_53, c4_54, c4_55, e4_57, w4_57, c4_58, e4_60, w4_60, c4_61, c4_62, c4_63, c4_64, c4_65, c4_66, c4_67, e4_69, w4_69, c4_70, c4_71, c4_72, c4_73, c4_74, e4_76, w4_76, c4_77, c4_78, c4_79, c4_80, c4_81, c4_82, c4_83]
          refine ifD (fun h5 => ?_) (fun h5 => ?_)
          rotate_left
          · omega
          simp -implicitDefEqProofs (disch := omega) only [go_sem, Nat.reduceAdd, Nat.reduceMul, Nat.reduceSub, Nat.reduceBEq, Nat.reduceLeDiff, Nat.reduceLT, fn_transitlaw37_AccountSums, e4_1, w4_1, e4_3, w4_3, c4_4, e4_6, w4_6, e4_8, w4_8, e4_10, w4_10, c4_11, e4_13, w4_13, e4_15, w4_15, e4_17, w4_17, e4_19, w4_19, e4_21, w4_21, e4_23, w4_23, e4_25, w4_25, c4_26, e4_28, w4_28, e4_30, w4_30, c4_31, e4_33, w4_33, e4_35, w4_35, e4_37, w4_37, e4_39, w4_39, e4_41, w4_41, e4_43, w4_43, e4_45, w4_45, e4_47, w4_47, c4_48, e4_50, w4_50, c4_51, c4_52, c4_53, c4_54, c4_55, e4_57, w4_57, c4_58, e4_60, w4_60, c4_61, c4_62, c4_63, c4_64, c4_65, c4_66, c4_67, e4_69, w4_69, c4_70, c4_71, c4_72, c4_73, c4_74, e4_76, w4_76, c4_77, c4_78, c4_79, c4_80, c4_81, c4_82, c4_83, hp, ho, Oper.row]
          refine ifD (fun h6 => ?_) (fun h6 => ?_)
          · rw [if_pos h6] at hst
            simp -implicitDefEqProofs (disch := omega) only [go_sem, Nat.reduceAdd, Nat.reduceMul, Nat.reduceSub, Nat.reduceBEq, Nat.reduceLeDiff, Nat.reduceLT, fn_transitlaw37_AccountSums, e4_1, w4_1, e4_3, w4_3, c4_4, e4_6, w4_6, e4_8, w4_8, e4_10, w4_10, c4_11, e4_13, w4_13, e4_15, w4_15, e4_17, w4_17, e4_19, w4_19, e4_21, w4_21, e4_23, w4_23, e4_25, w4_25, c4_26, e4_28, w4_28, e4_30, w4_30, c4_31, e4_33, w4_33, e4_35, w4_35, e4_37, w4_37, e4_39, w4_39, e4_41, w4_41, e4_43, w4_43, e4_45, w4_45, e4_47, w4_47, c4_48, e4_50, w4_50, c4_51, c4_52, c4_53, c4_54, c4_55, e4_57, w4_57, c4_58, e4_60, w4_60, c4_61, c4_62, c4_63, c4_64, c4_65, c4_66, c4_67, e4_69, w4_69, c4_70, c4_71, c4_72, c4_73, c4_74, e4_76, w4_76, c4_77, c4_78, c4_79, c4_80, c4_81, c4_82, c4_83, hA3, hx, iRow, hsl2, List.length_map, hx2, dec_lt (show k < l.length by omega)]
            refine next_stay hk ?_
            refine ⟨?_, rfl⟩
            rw [hst]
            simp only [vals, sget]; rfl
          · rw [if_neg h6, Int.add_zero] at hst
            simp -implicitDefEqProofs (disch := omega) only [go_sem, Nat.reduceAdd, Nat.reduceMul, Nat.reduceSub, Nat.reduceBEq, Nat.reduceLeDiff, Nat.reduceLT, fn_transitlaw37_AccountSums, e4_1, w4_1, e4_3, w4_3, c4_4, e4_6, w4_6, e4_8, w4_8, e4_10, w4_10, c4_11, e4_13, w4_13, e4_15, w4_15, e4_17, w4_17, e4_19, w4_19, e4_21, w4_21, e4_23, w4_23, e4_25, w4_25, c4_26, e4_28, w4_28, e4_30, w4_30, c4_31, e4_33, w4_33, e4_35, w4_35, e4_37, w4_37, e4_39, w4_39, e4_41, w4_41, e4_43, w4_43, e4_45, w4_45, e4_47, w4_47, c4_48, e4_50, w4_50, c4_51, c4_52, c4_53, c4_54, c4_55, e4_57, w4_57, c4_58, e4_60, w4_60, c4_61, c4_62, c4_63, c4_64, c4_65, c4_66, c4_67, e4_69, w4_69, c4_70, c4_71, c4_72, c4_73, c4_74, e4_76, w4_76, c4_77, c4_78, c4_79, c4_80, c4_81, c4_82, c4_83]
            refine next_stay hk ?_
            refine ⟨?_, rfl⟩
            rw [hst]
            simp only [vals, sget]; rfl
        · rintro vs M2 ⟨rfl, rfl⟩
          simp -implicitDefEqProofs (disch := omega) only [go_sem, Nat.reduceAdd, Nat.reduceMul, Nat.reduceSub, Nat.reduceBEq, Nat.reduceLeDiff, Nat.reduceLT, fn_transitlaw37_AccountSums, e4_1, w4_1, e4_3, w4_3, c4_4, e4_6, w4_6, e4_8, w4_8, e4_10, w4_10, c4_11, e4_13, w4_13, e4_15, w4_15, e4_17, w4_17, e4_19, w4_19, e4_21, w4_21, e4_23, w4_23, e4_25, w4_25, c4_26, e4_28, w4_28, e4_30, w4_30, c4_31, e4_33, w4_33, e4_35, w4_35, e4_37, w4_37, e4_39, w4_39, e4_41, w4_41, e4_43, w4_43, e4_45, w4_45, e4_47, w4_47, c4_48, e4_50, w4_50, c4_51, c4_52, c4_53, c4_54, c4_55, e4_57, w4_57, c4_58, e4_60, w4_60, c4_61, c4_62, c4_63, c4_64, c4_65, c4_66, c4_67, e4_69, w4_69, c4_70, c4_71, c4_72, c4_73, c4_74, e4_76, w4_76, c4_77, c4_78, c4_79, c4_80, c4_81, c4_82, c4_83]
          refine ifD (fun h5 => ?_) (fun h5 => ?_)
          · omega
          simp -implicitDefEqProofs (disch := omega) only [go_sem, Nat.reduceAdd, Nat.reduceMul, Nat.reduceSub, Nat.reduceBEq, Nat.reduceLeDiff, Nat.reduceLT, fn_transitlaw37_AccountSums, e4_1, w4_1, e4_3, w4_3, c4_4, e4_6, w4_6, e4_8, w4_8, e4_10, w4_10, c4_11, e4_13, w4_13, e4_15, w4_15, e4_17, w4_17, e4_19, w4_19, e4_21, w4_21, e4_23, w4_23, e4_25, w4_25, c4_26, e4_28, w4_28, e4_30, w4_30, c4_31, e4_33, w4_33, e4_35, w4_35, e4_37, w4_37, e4_39, w4_39, e4_41, w4_41, e4_43, w4_43, e4_45, w4_45, e4_47, w4_47, c4_48, e4_50, w4_50, c4_51, c4_52, c4_53, c4_54, c4_55, e4_57, w4_57, c4_58, e4_60, w4_60, c4_61, c4_62, c4_63, c4_64, c4_65, c4_66, c4_67, e4_69, w4_69, c4_70, c4_71, c4_72, c4_73, c4_74, e4_76, w4_76, c4_77, c4_78, c4_79, c4_80, c4_81, c4_82, c4_83, ho, Oper.row]
          refine callA (Account_Spent_ok hS2.acc o.day) ?_
          rintro v N' ⟨rfl, rfl⟩
          rw [hS2.sums o.day]
          simp -implicitDefEqProofs (disch := omega) only [go_sem, Nat.reduceAdd, Nat.reduceMul, Nat.reduceSub, Nat.reduceBEq, Nat.reduceLeDiff, Nat.reduceLT, fn_transitlaw37_AccountSums, e4_1, w4_1, e4_3, w4_3, c4_4, e4_6, w4_6, e4_8, w4_8, e4_10, w4_10, c4_11, e4_13, w4_13, e4_15, w4_15, e4_17, w4_17, e4_19, w4_19, e4_21, w4_21, e4_23, w4_23, e4_25, w4_25, c4_26, e4_28, w4_28, e4_30, w4_30, c4_31, e4_33, w4_33, e4_35, w4_35, e4_37, w4_37, e4_39, w4_39, e4_41, w4_41, e4_43, w4_43, e4_45, w4_45, e4_47, w4_47, c4_48, e4_50, w4_50, c4_51, c4_52, c4_53, c4_54, c4_55, e4_57, w4_57, c4_58, e4_60, w4_60, c4_61, c4_62, c4_63, c4_64, c4_65, c4_66, c4_67, e4_69, w4_69, c4_70, c4_71, c4_72, c4_73, c4_74, e4_76, w4_76, c4_77, c4_78, c4_79, c4_80, c4_81, c4_82, c4_83]
          refine next_stay hi ?_
          refine ⟨(doRes f L o).2.2, s', hS2, ?_⟩
          simp only [vals, sget]; rfl
      · simp -implicitDefEqProofs (disch := omega) only [go_sem, Nat.reduceAdd, Nat.reduceMul, Nat.reduceSub, Nat.reduceBEq, Nat.reduceLeDiff, Nat.reduceLT, fn_transitlaw37_AccountSums, e4_1, w4_1, e4_3, w4_3, c4_4, e4_6, w4_6, e4_8, w4_8, e4_10, w4_10, c4_11, e4_13, w4_13, e4_15, w4_15, e4_17, w4_17, e4_19, w4_19, e4_21, w4_21, e4_23, w4_23, e4_25, w4_25, c4_26, e4_28, w4_28, e4_30, w4_30, c4_31, e4_33, w4_33, e4_35, w4_35, e4_37, w4_37, e4_39, w4_39, e4_41, w4_41, e4_43, w4_43, e4_45, w4_45, e4_47, w4_47, c4_48, e4_50, w4_50, c4_51, c4_52, c4_53, c4_54, c4_55, e4_57, w4_57, c4_58, e4_60, w4_60, c4_61, c4_62, c4_63, c4_64, c4_65, c4_66, c4_67, e4_69, w4_69, c4_70, c4_71, c4_72, c4_73, c4_74, e4_76, w4_76, c4_77, c4_78, c4_79, c4_80, c4_81, c4_82, c4_83, hAr2, hget, hml, dec_lt hi, iRow]
        rw [← edl, hstore]
        simp -implicitDefEqProofs (disch := omega) only [go_sem, Nat.reduceAdd, Nat.reduceMul, Nat.reduceSub, Nat.reduceBEq, Nat.reduceLeDiff, Nat.reduceLT, ho, Oper.row, hr']
        generalize hK2 : K.set sid (.arr 1 ((s.set i (delta f L o)).map iRow) 0 0) = K2 at *
        generalize s.set i (delta f L o) = s' at *
        have h02 := hS2.from'.first
        have hsl2 := hS2.len
        have hA3 := hS2.arr
        refine wpC_for (i + 1) (fun k vs M => vs = [.slice (l.map Oper.row) c, .ptr 0 0, .ptr id 0, .mslice sid 0 0 l.length, .int .i64 i, .int .i64 (dsum l s' o.day k), .int .i64 k] ∧ M = K2) ⟨rfl, rfl⟩ ?_ ?_
        · rintro k vs M2 hk hkd ⟨rfl, rfl⟩
          obtain ⟨p, hp⟩ : ∃ p, l[k]? = some p := ⟨l[k], by simp⟩
          obtain ⟨x, hx⟩ : ∃ x, s'[k]? = some x := ⟨s'[k], by simp⟩
          have hds := dsum_small (l := l) hS2.small o.day k
          have hx2 : (s'.map iRow)[k]? = some [.int .i64 x] := by rw [List.getElem?_map, hx]; rfl
          have hxs := hS2.small x (List.mem_of_getElem? hx)
          have hst : dsum l s' o.day (k + 1) = dsum l s' o.day k + if p.day = o.day then x else 0 := by rw [dsum, hp, hx]
          simp -implicitDefEqProofs (disch := omega) only [go_sem, Nat.reduceAdd, Nat.reduceMul, Nat.reduceSub, Nat.reduceBEq, Nat.reduceLeDiff, Nat.reduceLT, fn_transitlaw37_AccountSums, e4_1, w4_1, e4_3, w4_3, c4_4, e4_6, w4_6, e4_8, w4_8, e4_10, w4_10, c4_11, e4_13, w4_13, e4_15, w4_15, e4_17, w4_17, e4_19, w4_19, e4_21, w4_21, e4_23, w4_23, e4_25, w4_25, c4_26, e4_28, w4_28, e4_30, w4_30, c4_31, e4_33, w4_33, e4_35, w4_35, e4_37, w4_37, e4_39, w4_39, e4_41, w4_41, e4_43, w4_43, e4_45, w4_45, e4_47, w4_47, c4_48, e4_50, w4_50, c4_51, c4_52, c4_53, c4_54, c4_55, e4_57, w4_57, c4_58, e4_60, w4_60, c4_61, c4_62, c4_63, c4_64, c4_65, c4_66, c4_67, e4_69, w4_69, c4_70, c4_71, c4_72, c4_73, c4_74, e4_76, w4_76, c4_77, c4_78, c4_79, c4_80, c4_81, c4_82, c4_83]
          refine ifD (fun h5 => ?_) (fun h5 => ?_)
          rotate_left
          · omega
          simp -implicitDefEqProofs (disch := omega) only [go_sem, Nat.reduceAdd, Nat.reduceMul, Nat.reduceSub, Nat.reduceBEq, Nat.reduceLeDiff, Nat.reduceLT, fn_transitlaw37_AccountSums, e4_1, w4_1, e4_3, w4_3, c4_4, e4_6, w4_6, e4_8, w4_8, e4_10, w4_10, c4_11, e4_13, w4_13, e4_15, w4_15, e4_17, w4_17, e4_19, w4_19, e4_21, w4_21, e4_23, w4_23, e4_25, w4_25, c4_26, e4_28, w4_28, e4_30, w4_30, c4_31, e4_33, w4_33, e4_35, w4_35, e4_37, w4_37, e4_39, w4_39, e4_41, w4_41, e4_43, w4_43, e4_45, w4_45, e4_47, w4_47, c4_48, e4_50, w4_50, c4_51, c4_52, c4_53, c4_54, c4_55, e4_57, w4_57, c4_58, e4_60, w4_60, c4_61, c4_62, c4_63, c4_64, c4_65, c4_66, c4_67, e4_69, w4_69, c4_70, c4_71, c4_72, c4_73, c4_74, e4_76, w4_76, c4_77, c4_78, c4_79, c4_80, c4_81, c4_82, c4_83, hp, ho, Oper.row]
          refine ifD (fun h6 => ?_) (fun h6 => ?_)
          · rw [if_pos h6] at hst
            simp -implicitDefEqProofs (disch := omega) only [go_sem, Nat.reduceAdd, Nat.reduceMul, Nat.reduceSub, Nat.reduceBEq, Nat.reduceLeDiff, Nat.reduceLT, fn_transitlaw37_AccountSums, e4_1, w4_1, e4_3, w4_3, c4_4, e4_6, w4_6, e4_8, w4_8, e4_10, w4_10, c4_11, e4_13, w4_13, e4_15, w4_15, e4_17, w4_17, e4_19, w4_19, e4_21, w4_21, e4_23, w4_23, e4_25, w4_25, c4_26, e4_28, w4_28, e4_30, w4_30, c4_31, e4_33, w4_33, e4_35, w4_35, e4_37, w4_37, e4_39, w4_39, e4_41, w4_41, e4_43, w4_43, e4_45, w4_45, e4_47, w4_47, c4_48, e4_50, w4_50, c4_51, c4_52, c4_53, c4_54, c4_55, e4_57, w4_57, c4_58, e4_60, w4_60, c4_61, c4_62, c4_63, c4_64, c4_65, c4_66, c4_67, e4_69, w4_69, c4_70, c4_71, c4_72, c4_73, c4_74, e4_76, w4_76, c4_77, c4_78, c4_79, c4_80, c4_81, c4_82, c4_83, hA3, hx, iRow, hsl2, List.length_map, hx2, dec_lt (show k < l.length by omega)]
            refine next_stay hk ?_
            refine ⟨?_, rfl⟩
            rw [hst]
            simp only [vals, sget]; rfl
          · rw [if_neg h6, Int.add_zero] at hst
            simp -implicitDefEqProofs (disch := omega) only [go_sem, Nat.reduceAdd, Nat.reduceMul, Nat.reduceSub, Nat.reduceBEq, Nat.reduceLeDiff, Nat.reduceLT, fn_transitlaw37_AccountSums, e4_1, w4_1, e4_3, w4_3, c4_4, e4_6, w4_6, e4_8, w4_8, e4_10, w4_10, c4_11, e4_13, w4_13, e4_15, w4_15, e4_17, w4_17, e4_19, w4_19, e4_21, w4_21, e4_23, w4_23, e4_25, w4_25, c4_26, e4_28, w4_28, e4_30, w4_30, c4_31, e4_33, w4_33, e4_35, w4_35, e4_37, w4_37, e4_39, w4_39, e4_41, w4_41, e4_43, w4_43, e4_45, w4_45, e4_47, w4_47, c4_48, e4_50, w4_50, c4_51, c4_52, c4_53, c4_54, c4_55, e4_57, w4_57, c4_58, e4_60, w4_60, c4_61, c4_62, c4_63, c4_64, c4_65, c4_66, c4_67, e4_69, w4_69, c4_70, c4_71, c4_72, c4_73, c4_74, e4_76, w4_76, c4_77, c4_78, c4_79, c4_80, c4_81, c4_82, c4_83]
            refine next_stay hk ?_
            refine ⟨?_, rfl⟩
            rw [hst]
            simp only [vals, sget]; rfl
        · rintro vs M2 ⟨rfl, rfl⟩
          simp -implicitDefEqProofs (disch := omega) only [go_sem, Nat.reduceAdd, Nat.reduceMul, Nat.reduceSub, Nat.reduceBEq, Nat.reduceLeDiff, Nat.reduceLT, fn_transitlaw37_AccountSums, e4_1, w4_1, e4_3, w4_3, c4_4, e4_6, w4_6, e4_8, w4_8, e4_10, w4_10, c4_11, e4_13, w4_13, e4_15, w4_15, e4_17, w4_17, e4_19, w4_19, e4_21, w4_21, e4_23, w4_23, e4_25, w4_25, c4_26, e4_28, w4_28, e4_30, w4_30, c4_31, e4_33, w4_33, e4_35, w4_35, e4_37, w4_37, e4_39, w4_39, e4_41, w4_41, e4_43, w4_43, e4_45, w4_45, e4_47, w4_47, c4_48, e4_50, w4_50, c4_51, c4_52, c4_53, c4_54, c4_55, e4_57, w4_57, c4_58, e4_60, w4_60, c4_61, c4_62, c4_63, c4_64, c4_65, c4_66, c4_67, e4_69, w4_69, c4_70, c4_71, c4_72, c4_73, c4_74, e4_76, w4_76, c4_77, c4_78, c4_79, c4_80, c4_81, c4_82, c4_83]
          refine ifD (fun h5 => ?_) (fun h5 => ?_)
          · omega
          simp -implicitDefEqProofs (disch := omega) only [go_sem, Nat.reduceAdd, Nat.reduceMul, Nat.reduceSub, Nat.reduceBEq, Nat.reduceLeDiff, Nat.reduceLT, fn_transitlaw37_AccountSums, e4_1, w4_1, e4_3, w4_3, c4_4, e4_6, w4_6, e4_8, w4_8, e4_10, w4_10, c4_11, e4_13, w4_13, e4_15, w4_15, e4_17, w4_17, e4_19, w4_19, e4_21, w4_21, e4_23, w4_23, e4_25, w4_25, c4_26, e4_28, w4_28, e4_30, w4_30, c4_31, e4_33, w4_33, e4_35, w4_35, e4_37, w4_37, e4_39, w4_39, e4_41, w4_41, e4_43, w4_43, e4_45, w4_45, e4_47, w4_47, c4_48, e4_50, w4_50, c4_51, c4_52, c4_53, c4_54, c4_55, e4_57, w4_57, c4_58, e4_60, w4_60, c4_61, c4_62, c4_63, c4_64, c4_65, c4_66, c4_67, e4_69, w4_69, c4_70, c4_71, c4_72, c4_73, c4_74, e4_76, w4_76, c4_77, c4_78, c4_79, c4_80, c4_81, c4_82, c4_83, ho, Oper.row]
          refine callA (Account_Spent_ok hS2.acc o.day) ?_
          rintro v N' ⟨rfl, rfl⟩
          rw [hS2.sums o.day]
          simp -implicitDefEqProofs (disch := omega) only [go_sem, Nat.reduceAdd, Nat.reduceMul, Nat.reduceSub, Nat.reduceBEq, Nat.reduceLeDiff, Nat.reduceLT, fn_transitlaw37_AccountSums, e4_1, w4_1, e4_3, w4_3, c4_4, e4_6, w4_6, e4_8, w4_8, e4_10, w4_10, c4_11, e4_13, w4_13, e4_15, w4_15, e4_17, w4_17, e4_19, w4_19, e4_21, w4_21, e4_23, w4_23, e4_25, w4_25, c4_26, e4_28, w4_28, e4_30, w4_30, c4_31, e4_33, w4_33, e4_35, w4_35, e4_37, w4_37, e4_39, w4_39, e4_41, w4_41, e4_43, w4_43, e4_45, w4_45, e4_47, w4_47, c4_48, e4_50, w4_50, c4_51, c4_52, c4_53, c4_54, c4_55, e4_57, w4_57, c4_58, e4_60, w4_60, c4_61, c4_62, c4_63, c4_64, c4_65, c4_66, c4_67, e4_69, w4_69, c4_70, c4_71, c4_72, c4_73, c4_74, e4_76, w4_76, c4_77, c4_78, c4_79, c4_80, c4_81, c4_82, c4_83]
          refine next_stay hi ?_
          refine ⟨(doRes f L o).2.2, s', hS2, ?_⟩
          simp only [vals, sget]; rfl
    · have hzero : s.set i (delta f L o) = s := by
        have : delta f L o = 0 := by rw [delta, if_neg hr, if_neg h4]
        rw [this]
        apply List.ext_getElem?
        intro j
        by_cases hj : i = j
        · subst hj; rw [List.getElem?_set_self (by omega), hs0]
        · rw [List.getElem?_set_ne hj]
      simp -implicitDefEqProofs (disch := omega) only [go_sem, Nat.reduceAdd, Nat.reduceMul, Nat.reduceSub, Nat.reduceBEq, Nat.reduceLeDiff, Nat.reduceLT, fn_transitlaw37_AccountSums, e4_1, w4_1, e4_3, w4_3, c4_4, e4_6, w4_6, e4_8, w4_8, e4_10, w4_10, c4_11, e4_13, w4_13, e4_15, w4_15, e4_17, w4_17, e4_19, w4_19, e4_21, w4_21, e4_23, w4_23, e4_25, w4_25, c4_26, e4_28, w4_28, e4_30, w4_30, c4_31, e4_33, w4_33, e4_35, w4_35, e4_37, w4_37, e4_39, w4_39, e4_41, w4_41, e4_43, w4_43, e4_45, w4_45, e4_47, w4_47, c4_48, e4_50, w4_50, c4_51, c4_52, c4_53, c4_54, c4_55, e4_57, w4_57, c4_58, e4_60, w4_60, c4_61, c4_62, c4_63, c4_64, c4_65, c4_66, c4_67, e4_69, w4_69, c4_70, c4_71, c4_72, c4_73, c4_74, e4_76, w4_76, c4_77, c4_78, c4_79, c4_80, c4_81, c4_82, c4_83, ho, Oper.row, hr']
      have hS2 := hS.next hc ho (by omega) (hAK) (hT2) (by rw [hzero]; exact hAr2)
      generalize s.set i (delta f L o) = s' at *
      have h02 := hS2.from'.first
      have hsl2 := hS2.len
      have hA3 := hS2.arr
      refine wpC_for (i + 1) (fun k vs M => vs = [.slice (l.map Oper.row) c, .ptr 0 0, .ptr id 0, .mslice sid 0 0 l.length, .int .i64 i, .int .i64 (dsum l s' o.day k), .int .i64 k] ∧ M = K) ⟨rfl, rfl⟩ ?_ ?_
      · rintro k vs M2 hk hkd ⟨rfl, rfl⟩
        obtain ⟨p, hp⟩ : ∃ p, l[k]? = some p := ⟨l[k], by simp⟩
        obtain ⟨x, hx⟩ : ∃ x, s'[k]? = some x := ⟨s'[k], by simp⟩
        have hds := dsum_small (l := l) hS2.small o.day k
        have hx2 : (s'.map iRow)[k]? = some [.int .i64 x] := by rw [List.getElem?_map, hx]; rfl
        have hxs := hS2.small x (List.mem_of_getElem? hx)
        have hst : dsum l s' o.day (k + 1) = dsum l s' o.day k + if p.day = o.day then x else 0 := by rw [dsum, hp, hx]
        simp -implicitDefEqProofs (disch := omega) only [go_sem, Nat.reduceAdd, Nat.reduceMul, Nat.reduceSub, Nat.reduceBEq, Nat.reduceLeDiff, Nat.reduceLT, fn_transitlaw37_AccountSums, e4_1, w4_1, e4_3, w4_3, c4_4, e4_6, w4_6, e4_8, w4_8, e4_10, w4_10, c4_11, e4_13, w4_13, e4_15, w4_15, e4_17, w4_17, e4_19, w4_19, e4_21, w4_21, e4_23, w4_23, e4_25, w4_25, c4_26, e4_28, w4_28, e4_30, w4_30, c4_31, e4_33, w4_33, e4_35, w4_35, e4_37, w4_37, e4_39, w4_39, e4_41, w4_41, e4_43, w4_43, e4_45, w4_45, e4_47, w4_47, c4_48, e4_50, w4_50, c4_51, c4_52, c4_53, c4_54, c4_55, e4_57, w4_57, c4_58, e4_60, w4_60, c4_61, c4_62, c4_63, c4_64, c4_65, c4_66, c4_67, e4_69, w4_69, c4_70, c4_71, c4_72, c4_73, c4_74, e4_76, w4_76, c4_77, c4_78, c4_79, c4_80, c4_81, c4_82, c4_83]
        refine ifD (fun h5 => ?_) (fun h5 => ?_)
        rotate_left
        · omega
        simp -implicitDefEqProofs (disch := omega) only [go_sem, Nat.reduceAdd, Nat.reduceMul, Nat.reduceSub, Nat.reduceBEq, Nat.reduceLeDiff, Nat.reduceLT, fn_transitlaw37_AccountSums, e4_1, w4_1, e4_3, w4_3, c4_4, e4_6, w4_6, e4_8, w4_8, e4_10, w4_10, c4_11, e4_13, w4_13, e4_15, w4_15, e4_17, w4_17, e4_19, w4_19, e4_21, w4_21, e4_23, w4_23, e4_25, w4_25, c4_26, e4_28, w4_28, e4_30, w4_30, c4_31, e4_33, w4_33, e4_35, w4_35, e4_37, w4_37, e4_39, w4_39, e4_41, w4_41, e4_43, w4_43, e4_45, w4_45, e4_47, w4_47, c4_48, e4_50, w4_50, c4_51, c4_52, c4_53, c4_54, c4_55, e4_57, w4_57, c4_58, e4_60, w4_60, c4_61, c4_62, c4_63, c4_64, c4_65, c4_66, c4_67, e4_69, w4_69, c4_70, c4_71, c4_72, c4_73, c4_74, e4_76, w4_76, c4_77, c4_78, c4_79, c4_80, c4_81, c4_82, c4_83, hp, ho, Oper.row]
        refine ifD (fun h6 => ?_) (fun h6 => ?_)
        · rw [if_pos h6] at hst
          simp -implicitDefEqProofs (disch := omega) only [go_sem, Nat.reduceAdd, Nat.reduceMul, Nat.reduceSub, Nat.reduceBEq, Nat.reduceLeDiff, Nat.reduceLT, fn_transitlaw37_AccountSums, e4_1, w4_1, e4_3, w4_3, c4_4, e4_6, w4_6, e4_8, w4_8, e4_10, w4_10, c4_11, e4_13, w4_13, e4_15, w4_15, e4_17, w4_17, e4_19, w4_19, e4_21, w4_21, e4_23, w4_23, e4_25, w4_25, c4_26, e4_28, w4_28, e4_30, w4_30, c4_31, e4_33, w4_33, e4_35, w4_35, e4_37, w4_37, e4_39, w4_39, e4_41, w4_41, e4_43, w4_43, e4_45, w4_45, e4_47, w4_47, c4_48, e4_50, w4_50, c4_51, c4_52, c4_53, c4_54, c4_55, e4_57, w4_57, c4_58, e4_60, w4_60, c4_61, c4_62, c4_63, c4_64, c4_65, c4_66, c4_67, e4_69, w4_69, c4_70, c4_71, c4_72, c4_73, c4_74, e4_76, w4_76, c4_77, c4_78, c4_79, c4_80, c4_81, c4_82, c4_83, hA3, hx, iRow, hsl2, List.length_map, hx2, dec_lt (show k < l.length by omega)]
          refine next_stay hk ?_
          refine ⟨?_, rfl⟩
          rw [hst]
          simp only [vals, sget]; rfl
        · rw [if_neg h6, Int.add_zero] at hst
          simp -implicitDefEqProofs (disch := omega) only [go_sem, Nat.reduceAdd, Nat.reduceMul, Nat.reduceSub, Nat.reduceBEq, Nat.reduceLeDiff, Nat.reduceLT, fn_transitlaw37_AccountSums, e4_1, w4_1, e4_3, w4_3, c4_4, e4_6, w4_6, e4_8, w4_8, e4_10, w4_10, c4_11, e4_13, w4_13, e4_15, w4_15, e4_17, w4_17, e4_19, w4_19, e4_21, w4_21, e4_23, w4_23, e4_25, w4_25, c4_26, e4_28, w4_28, e4_30, w4_30, c4_31, e4_33, w4_33, e4_35, w4_35, e4_37, w4_37, e4_39, w4_39, e4_41, w4_41, e4_43, w4_43, e4_45, w4_45, e4_47, w4_47, c4_48, e4_50, w4_50, c4_51, c4_52, c4_53, c4_54, c4_55, e4_57, w4_57, c4_58, e4_60, w4_60, c4_61, c4_62, c4_63, c4_64, c4_65, c4_66, c4_67, e4_69, w4_69, c4_70, c4_71, c4_72, c4_73, c4_74, e4_76, w4_76, c4_77, c4_78, c4_79, c4_80, c4_81, c4_82, c4_83]
          refine next_stay hk ?_
          refine ⟨?_, rfl⟩
          rw [hst]
          simp only [vals, sget]; rfl
      · rintro vs M2 ⟨rfl, rfl⟩
        simp -implicitDefEqProofs (disch := omega) only [go_sem, Nat.reduceAdd, Nat.reduceMul, Nat.reduceSub, Nat.reduceBEq, Nat.reduceLeDiff, Nat.reduceLT, fn_transitlaw37_AccountSums, e4_1, w4_1, e4_3, w4_3, c4_4, e4_6, w4_6, e4_8, w4_8, e4_10, w4_10, c4_11, e4_13, w4_13, e4_15, w4_15, e4_17, w4_17, e4_19, w4_19, e4_21, w4_21, e4_23, w4_23, e4_25, w4_25, c4_26, e4_28, w4_28, e4_30, w4_30, c4_31, e4_33, w4_33, e4_35, w4_35, e4_37, w4_37, e4_39, w4_39, e4_41, w4_41, e4_43, w4_43, e4_45, w4_45, e4_47, w4_47, c4_48, e4_50, w4_50, c4_51, c4_52, c4_53, c4_54, c4_55, e4_57, w4_57, c4_58, e4_60, w4_60, c4_61, c4_62, c4_63, c4_64, c4_65, c4_66, c4_67, e4_69, w4_69, c4_70, c4_71, c4_72, c4_73, c4_74, e4_76, w4_76, c4_77, c4_78, c4_79, c4_80, c4_81, c4_82, c4_83]
        refine ifD (fun h5 => ?_) (fun h5 => ?_)
        · omega
        simp -implicitDefEqProofs (disch := omega) only [go_sem, Nat.reduceAdd, Nat.reduceMul, Nat.reduceSub, Nat.reduceBEq, Nat.reduceLeDiff, Nat.reduceLT, fn_transitlaw37_AccountSums, e4_1, w4_1, e4_3, w4_3, c4_4, e4_6, w4_6, e4_8, w4_8, e4_10, w4_10, c4_11, e4_13, w4_13, e4_15, w4_15, e4_17, w4_17, e4_19, w4_19, e4_21, w4_21, e4_23, w4_23, e4_25, w4_25, c4_26, e4_28, w4_28, e4_30, w4_30, c4_31, e4_33, w4_33, e4_35, w4_35, e4_37, w4_37, e4_39, w4_39, e4_41, w4_41, e4_43, w4_43, e4_45, w4_45, e4_47, w4_47, c4_48, e4_50, w4_50, c4_51, c4_52, c4_53, c4_54, c4_55, e4_57, w4_57, c4_58, e4_60, w4_60, c4_61, c4_62, c4_63, c4_64, c4_65, c4_66, c4_67, e4_69, w4_69, c4_70, c4_71, c4_72, c4_73, c4_74, e4_76, w4_76, c4_77, c4_78, c4_79, c4_80, c4_81, c4_82, c4_83, ho, Oper.row]
        refine callA (Account_Spent_ok hS2.acc o.day) ?_
        rintro v N' ⟨rfl, rfl⟩
        rw [hS2.sums o.day]
        simp -implicitDefEqProofs (disch := omega) only [go_sem, Nat.reduceAdd, Nat.reduceMul, Nat.reduceSub, Nat.reduceBEq, Nat.reduceLeDiff, Nat.reduceLT, fn_transitlaw37_AccountSums, e4_1, w4_1, e4_3, w4_3, c4_4, e4_6, w4_6, e4_8, w4_8, e4_10, w4_10, c4_11, e4_13, w4_13, e4_15, w4_15, e4_17, w4_17, e4_19, w4_19, e4_21, w4_21, e4_23, w4_23, e4_25, w4_25, c4_26, e4_28, w4_28, e4_30, w4_30, c4_31, e4_33, w4_33, e4_35, w4_35, e4_37, w4_37, e4_39, w4_39, e4_41, w4_41, e4_43, w4_43, e4_45, w4_45, e4_47, w4_47, c4_48, e4_50, w4_50, c4_51, c4_52, c4_53, c4_54, c4_55, e4_57, w4_57, c4_58, e4_60, w4_60, c4_61, c4_62, c4_63, c4_64, c4_65, c4_66, c4_67, e4_69, w4_69, c4_70, c4_71, c4_72, c4_73, c4_74, e4_76, w4_76, c4_77, c4_78, c4_79, c4_80, c4_81, c4_82, c4_83]
        refine next_stay hi ?_
        refine ⟨(doRes f L o).2.2, s', hS2, ?_⟩
        simp only [vals, sget]; rfl

end Go.Vm.C

