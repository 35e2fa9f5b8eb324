/- The statement AccountRuns. -/
import Derived.Test.YtojpmklnmaomlaaT14

namespace Go.Vm.C
open Go.Vm
set_option maxHeartbeats 1000000
set_option maxRecDepth 10000
set_option linter.unusedSimpArgs false
set_option linter.unusedVariables false

/-! ### The statement AccountRuns -/
structure Run (f : Fares) (t : Cap) (id mid k i : Nat) (L : List (Int × Int)) (a : RA) (M : Mem) : Prop where
  acc : Acc M ⟨f.products, t, f.discount, f.within, f.limit⟩ id mid L
  box : M[k]? = some (.box a.row)
  ne1 : k ≠ id
  ne2 : k ≠ mid
  ri : RI L a
  fares : a.fares = f
  bound : Within L (9000000 * (i : Int))
  cap : f.limit ≠ 0 → Within L f.limit
  len : L.length ≤ i
theorem Run.days_le {f : Fares} {t : Cap} {id mid k i : Nat} {L : List (Int × Int)} {a : RA} {M : Mem} (h : Run f t id mid k i L a M) : a.days.length ≤ i := by
  rw [h.ri.days, sortD_len]; exact h.len
theorem Run.spent_bd {f : Fares} {t : Cap} {id mid k i : Nat} {L : List (Int × Int)} {a : RA} {M : Mem} (h : Run f t id mid k i L a M) (hi : i ≤ 41) : ∀ x ∈ a.spent, 0 ≤ x ∧ x ≤ 1000000000 := by
  intro x hx
  rw [h.ri.spent] at hx
  obtain ⟨d, _, rfl⟩ := List.mem_map.1 hx
  have := h.bound d
  omega
theorem memU_set {n : Nat} {B : Blk} (hB : B.under n = true) : ∀ (M : Mem) (i : Nat), memUnder n M = true → memUnder n (M.set i B) = true
  | [], i, h => by simpa using h
  | C :: M, 0, h => by
    simp only [memUnder, Bool.and_eq_true, List.set_cons_zero] at h ⊢
    exact ⟨hB, h.2⟩
  | C :: M, i + 1, h => by
    simp only [memUnder, Bool.and_eq_true, List.set_cons_succ] at h ⊢
    exact ⟨h.1, memU_set hB M i h.2⟩
theorem AccountRuns_law (f : Fares) (l : List Oper) (c : Cap) (hf : f.wf) (ht : f.tag = .nil ∧ f.products = [] ∨ f.tag = .any ∨ f.tag = .full) (hl : ∀ o ∈ l, o.wf) : PCalls PR i_transitlaw37_AccountRuns [.agg f.row, .slice (l.map Oper.row) c] (fun v => v = .bool true) := by
  have hown : memUnder ([.box f.row] : Mem).length [.box f.row] = true := by simp [memUnder, Blk.under, underL, V.under, Fares.row]
  simp only [Fares.row] at hown
  have hex : ∀ {N : Mem}, memUnder N.length N = true → ACalls PR i_transitlaw37_exampleHolds [] N (fun v M' => v = .bool true ∧ M' = N) := fun h => exampleHolds_ok h
  have hnew := ref_New_ok f hf
  simp only [Fares.row] at hnew
  refine acalls_pop fn_transitlaw37_AccountRuns_ok (by simp [fn_transitlaw37_AccountRuns]) ?_
  simp -implicitDefEqProofs (disch := omega) only [go_sem, Nat.reduceAdd, Nat.reduceMul, Nat.reduceSub, Nat.reduceBEq, Nat.reduceLeDiff, Nat.reduceLT, fn_transitlaw37_AccountRuns, e5_1, w5_1, e5_3, w5_3, c5_4, e5_6, w5_6, e5_8, w5_8, e5_10, w5_10, e5_12, w5_12, c5_13, e5_15, w5_15, e5_17, w5_17, e5_19, w5_19, e5_21, w5_21, e5_23, w5_23, e5_25, w5_25, e5_27, w5_27, e5_29, w5_29, e5_31, w5_31, c5_32, e5_34, w5_34, e5_36, w5_36, e5_38, w5_38, e5_40, w5_40, c5_41, e5_43, w5_43, c5_44, c5_45, c5_46, c5_47, c5_48, c5_49, c5_50, e5_52, w5_52, c5_53, c5_54, c5_55, c5_56, c5_57, e5_59, w5_59, c5_60, c5_61, c5_62, c5_63, c5_64, c5_65, c5_66, Fares.row]
  first | refine callD (large37_ok f l c hl) ?_ | refine callQD (large37_ok f l c hl) ?_
  simp -implicitDefEqProofs (disch := omega) only [go_sem, Nat.reduceAdd, Nat.reduceMul, Nat.reduceSub, Nat.reduceBEq, Nat.reduceLeDiff, Nat.reduceLT, fn_transitlaw37_AccountRuns, e5_1, w5_1, e5_3, w5_3, c5_4, e5_6, w5_6, e5_8, w5_8, e5_10, w5_10, e5_12, w5_12, c5_13, e5_15, w5_15, e5_17, w5_17, e5_19, w5_19, e5_21, w5_21, e5_23, w5_23, e5_25, w5_25, e5_27, w5_27, e5_29, w5_29, e5_31, w5_31, c5_32, e5_34, w5_34, e5_36, w5_36, e5_38, w5_38, e5_40, w5_40, c5_41, e5_43, w5_43, c5_44, c5_45, c5_46, c5_47, c5_48, c5_49, c5_50, e5_52, w5_52, c5_53, c5_54, c5_55, c5_56, c5_57, e5_59, w5_59, c5_60, c5_61, c5_62, c5_63, c5_64, c5_65, c5_66]
  refine ifB (fun h1 => ?_) (fun h1 => ?_)
  · simp -implicitDefEqProofs (disch := omega) only [go_sem, Nat.reduceAdd, Nat.reduceMul, Nat.reduceSub, Nat.reduceBEq, Nat.reduceLeDiff, Nat.reduceLT, fn_transitlaw37_AccountRuns, e5_1, w5_1, e5_3, w5_3, c5_4, e5_6, w5_6, e5_8, w5_8, e5_10, w5_10, e5_12, w5_12, c5_13, e5_15, w5_15, e5_17, w5_17, e5_19, w5_19, e5_21, w5_21, e5_23, w5_23, e5_25, w5_25, e5_27, w5_27, e5_29, w5_29, e5_31, w5_31, c5_32, e5_34, w5_34, e5_36, w5_36, e5_38, w5_38, e5_40, w5_40, c5_41, e5_43, w5_43, c5_44, c5_45, c5_46, c5_47, c5_48, c5_49, c5_50, e5_52, w5_52, c5_53, c5_54, c5_55, c5_56, c5_57, e5_59, w5_59, c5_60, c5_61, c5_62, c5_63, c5_64, c5_65, c5_66]
    refine callA (hex hown) ?_
    rintro v N ⟨rfl, rfl⟩
    simp -implicitDefEqProofs (disch := omega) only [go_sem, Nat.reduceAdd, Nat.reduceMul, Nat.reduceSub, Nat.reduceBEq, Nat.reduceLeDiff, Nat.reduceLT, fn_transitlaw37_AccountRuns, e5_1, w5_1, e5_3, w5_3, c5_4, e5_6, w5_6, e5_8, w5_8, e5_10, w5_10, e5_12, w5_12, c5_13, e5_15, w5_15, e5_17, w5_17, e5_19, w5_19, e5_21, w5_21, e5_23, w5_23, e5_25, w5_25, e5_27, w5_27, e5_29, w5_29, e5_31, w5_31, c5_32, e5_34, w5_34, e5_36, w5_36, e5_38, w5_38, e5_40, w5_40, c5_41, e5_43, w5_43, c5_44, c5_45, c5_46, c5_47, c5_48, c5_49, c5_50, e5_52, w5_52, c5_53, c5_54, c5_55, c5_56, c5_57, e5_59, w5_59, c5_60, c5_61, c5_62, c5_63, c5_64, c5_65, c5_66]
  have hll : l.length ≤ 40 := by
    simp only [largeB, Bool.not_eq_false', Bool.and_eq_true, decide_eq_true_eq] at h1
    exact h1.1.2
  simp -implicitDefEqProofs (disch := omega) only [go_sem, Nat.reduceAdd, Nat.reduceMul, Nat.reduceSub, Nat.reduceBEq, Nat.reduceLeDiff, Nat.reduceLT, fn_transitlaw37_AccountRuns, e5_1, w5_1, e5_3, w5_3, c5_4, e5_6, w5_6, e5_8, w5_8, e5_10, w5_10, e5_12, w5_12, c5_13, e5_15, w5_15, e5_17, w5_17, e5_19, w5_19, e5_21, w5_21, e5_23, w5_23, e5_25, w5_25, e5_27, w5_27, e5_29, w5_29, e5_31, w5_31, c5_32, e5_34, w5_34, e5_36, w5_36, e5_38, w5_38, e5_40, w5_40, c5_41, e5_43, w5_43, c5_44, c5_45, c5_46, c5_47, c5_48, c5_49, c5_50, e5_52, w5_52, c5_53, c5_54, c5_55, c5_56, c5_57, e5_59, w5_59, c5_60, c5_61, c5_62, c5_63, c5_64, c5_65, c5_66, Fares.row]
  refine callA (account_New_ok f hf ht hown) ?_
  rintro v N ⟨⟨L, rfl⟩, hNu, hbad, hgood⟩
  have hT := From.app [.box [.slice (f.products.map Product.row) f.tag, .int .i64 f.discount, .int .i64 f.within, .int .i64 f.limit]] L
  by_cases hc : (checkRes f).2 = 0
  rotate_left
  · obtain rfl := hbad hc
    rw [if_neg hc] at hnew
    generalize [Blk.box _] ++ L = N at *
    have h0 := hT.first
    simp -implicitDefEqProofs (disch := omega) only [go_sem, Nat.reduceAdd, Nat.reduceMul, Nat.reduceSub, Nat.reduceBEq, Nat.reduceLeDiff, Nat.reduceLT, fn_transitlaw37_AccountRuns, e5_1, w5_1, e5_3, w5_3, c5_4, e5_6, w5_6, e5_8, w5_8, e5_10, w5_10, e5_12, w5_12, c5_13, e5_15, w5_15, e5_17, w5_17, e5_19, w5_19, e5_21, w5_21, e5_23, w5_23, e5_25, w5_25, e5_27, w5_27, e5_29, w5_29, e5_31, w5_31, c5_32, e5_34, w5_34, e5_36, w5_36, e5_38, w5_38, e5_40, w5_40, c5_41, e5_43, w5_43, c5_44, c5_45, c5_46, c5_47, c5_48, c5_49, c5_50, e5_52, w5_52, c5_53, c5_54, c5_55, c5_56, c5_57, e5_59, w5_59, c5_60, c5_61, c5_62, c5_63, c5_64, c5_65, c5_66, h0]
    first | refine callD (hnew) ?_ | refine callQD (hnew) ?_
    have hq : decide (true = !decide ((20 : Int) = 0)) = true := rfl
    have hO : Own N := hNu
    have hU2 : memUnder (N ++ [Blk.box zeroRA]).length (N ++ [Blk.box zeroRA]) = true := hO.app (by simp [memUnder, Blk.under, underL, V.under, zeroRA])
    simp only [zeroRA] at hU2
    simp -implicitDefEqProofs (disch := omega) only [go_sem, Nat.reduceAdd, Nat.reduceMul, Nat.reduceSub, Nat.reduceBEq, Nat.reduceLeDiff, Nat.reduceLT, fn_transitlaw37_AccountRuns, e5_1, w5_1, e5_3, w5_3, c5_4, e5_6, w5_6, e5_8, w5_8, e5_10, w5_10, e5_12, w5_12, c5_13, e5_15, w5_15, e5_17, w5_17, e5_19, w5_19, e5_21, w5_21, e5_23, w5_23, e5_25, w5_25, e5_27, w5_27, e5_29, w5_29, e5_31, w5_31, c5_32, e5_34, w5_34, e5_36, w5_36, e5_38, w5_38, e5_40, w5_40, c5_41, e5_43, w5_43, c5_44, c5_45, c5_46, c5_47, c5_48, c5_49, c5_50, e5_52, w5_52, c5_53, c5_54, c5_55, c5_56, c5_57, e5_59, w5_59, c5_60, c5_61, c5_62, c5_63, c5_64, c5_65, c5_66, zeroRA, get_at0, set_at0, eq_nil_nil, hq]
    refine wpC_for 0 (fun i vs M => vs = [.slice (l.map Oper.row) c, .nilp, .int .i64 20, .ptr N.length 0, .int .i64 0] ∧ M = N ++ [.box [.slice [] .nil, .int .i64 0, .int .i64 0, .int .i64 0, .slice [] .nil, .slice [] .nil]]) ⟨rfl, rfl⟩ ?_ ?_
    · rintro i vs M hi
      omega
    rintro vs M ⟨rfl, rfl⟩
    have hq2 : decide ((20 : Int) = 0) = false := rfl
    simp -implicitDefEqProofs (disch := omega) only [go_sem, Nat.reduceAdd, Nat.reduceMul, Nat.reduceSub, Nat.reduceBEq, Nat.reduceLeDiff, Nat.reduceLT, fn_transitlaw37_AccountRuns, e5_1, w5_1, e5_3, w5_3, c5_4, e5_6, w5_6, e5_8, w5_8, e5_10, w5_10, e5_12, w5_12, c5_13, e5_15, w5_15, e5_17, w5_17, e5_19, w5_19, e5_21, w5_21, e5_23, w5_23, e5_25, w5_25, e5_27, w5_27, e5_29, w5_29, e5_31, w5_31, c5_32, e5_34, w5_34, e5_36, w5_36, e5_38, w5_38, e5_40, w5_40, c5_41, e5_43, w5_43, c5_44, c5_45, c5_46, c5_47, c5_48, c5_49, c5_50, e5_52, w5_52, c5_53, c5_54, c5_55, c5_56, c5_57, e5_59, w5_59, c5_60, c5_61, c5_62, c5_63, c5_64, c5_65, c5_66, List.length_map]
    refine ifD (fun h3 => ?_) (fun h3 => ?_)
    · simp -implicitDefEqProofs (disch := omega) only [go_sem, Nat.reduceAdd, Nat.reduceMul, Nat.reduceSub, Nat.reduceBEq, Nat.reduceLeDiff, Nat.reduceLT, fn_transitlaw37_AccountRuns, e5_1, w5_1, e5_3, w5_3, c5_4, e5_6, w5_6, e5_8, w5_8, e5_10, w5_10, e5_12, w5_12, c5_13, e5_15, w5_15, e5_17, w5_17, e5_19, w5_19, e5_21, w5_21, e5_23, w5_23, e5_25, w5_25, e5_27, w5_27, e5_29, w5_29, e5_31, w5_31, c5_32, e5_34, w5_34, e5_36, w5_36, e5_38, w5_38, e5_40, w5_40, c5_41, e5_43, w5_43, c5_44, c5_45, c5_46, c5_47, c5_48, c5_49, c5_50, e5_52, w5_52, c5_53, c5_54, c5_55, c5_56, c5_57, e5_59, w5_59, c5_60, c5_61, c5_62, c5_63, c5_64, c5_65, c5_66, hq2]
      refine callA (hex hU2) ?_
      rintro v N' ⟨rfl, rfl⟩
      simp -implicitDefEqProofs (disch := omega) only [go_sem, Nat.reduceAdd, Nat.reduceMul, Nat.reduceSub, Nat.reduceBEq, Nat.reduceLeDiff, Nat.reduceLT, fn_transitlaw37_AccountRuns, e5_1, w5_1, e5_3, w5_3, c5_4, e5_6, w5_6, e5_8, w5_8, e5_10, w5_10, e5_12, w5_12, c5_13, e5_15, w5_15, e5_17, w5_17, e5_19, w5_19, e5_21, w5_21, e5_23, w5_23, e5_25, w5_25, e5_27, w5_27, e5_29, w5_29, e5_31, w5_31, c5_32, e5_34, w5_34, e5_36, w5_36, e5_38, w5_38, e5_40, w5_40, c5_41, e5_43, w5_43, c5_44, c5_45, c5_46, c5_47, c5_48, c5_49, c5_50, e5_52, w5_52, c5_53, c5_54, c5_55, c5_56, c5_57, e5_59, w5_59, c5_60, c5_61, c5_62, c5_63, c5_64, c5_65, c5_66]
    · simp -implicitDefEqProofs (disch := omega) only [go_sem, Nat.reduceAdd, Nat.reduceMul, Nat.reduceSub, Nat.reduceBEq, Nat.reduceLeDiff, Nat.reduceLT, fn_transitlaw37_AccountRuns, e5_1, w5_1, e5_3, w5_3, c5_4, e5_6, w5_6, e5_8, w5_8, e5_10, w5_10, e5_12, w5_12, c5_13, e5_15, w5_15, e5_17, w5_17, e5_19, w5_19, e5_21, w5_21, e5_23, w5_23, e5_25, w5_25, e5_27, w5_27, e5_29, w5_29, e5_31, w5_31, c5_32, e5_34, w5_34, e5_36, w5_36, e5_38, w5_38, e5_40, w5_40, c5_41, e5_43, w5_43, c5_44, c5_45, c5_46, c5_47, c5_48, c5_49, c5_50, e5_52, w5_52, c5_53, c5_54, c5_55, c5_56, c5_57, e5_59, w5_59, c5_60, c5_61, c5_62, c5_63, c5_64, c5_65, c5_66, hq2]
      refine callA (hex hU2) ?_
      rintro v N' ⟨rfl, rfl⟩
      simp -implicitDefEqProofs (disch := omega) only [go_sem, Nat.reduceAdd, Nat.reduceMul, Nat.reduceSub, Nat.reduceBEq, Nat.reduceLeDiff, Nat.reduceLT, fn_transitlaw37_AccountRuns, e5_1, w5_1, e5_3, w5_3, c5_4, e5_6, w5_6, e5_8, w5_8, e5_10, w5_10, e5_12, w5_12, c5_13, e5_15, w5_15, e5_17, w5_17, e5_19, w5_19, e5_21, w5_21, e5_23, w5_23, e5_25, w5_25, e5_27, w5_27, e5_29, w5_29, e5_31, w5_31, c5_32, e5_34, w5_34, e5_36, w5_36, e5_38, w5_38, e5_40, w5_40, c5_41, e5_43, w5_43, c5_44, c5_45, c5_46, c5_47, c5_48, c5_49, c5_50, e5_52, w5_52, c5_53, c5_54, c5_55, c5_56, c5_57, e5_59, w5_59, c5_60, c5_61, c5_62, c5_63, c5_64, c5_65, c5_66]
  obtain ⟨id, mid, t, rfl, hid, hmid, hA⟩ := hgood hc
  rw [if_pos hc] at hnew
  simp only [RA.row, List.map_nil] at hnew
  have hwf := tag_wf hf t
  have hck : (checkRes ⟨f.products, t, f.discount, f.within, f.limit⟩).2 = 0 := by rw [checkRes_tag]; exact hc
  have hlim := (checkRes_ok hc).limit
  generalize [Blk.box _] ++ L = N at *
  have h0 := hT.first
  simp -implicitDefEqProofs (disch := omega) only [go_sem, Nat.reduceAdd, Nat.reduceMul, Nat.reduceSub, Nat.reduceBEq, Nat.reduceLeDiff, Nat.reduceLT, fn_transitlaw37_AccountRuns, e5_1, w5_1, e5_3, w5_3, c5_4, e5_6, w5_6, e5_8, w5_8, e5_10, w5_10, e5_12, w5_12, c5_13, e5_15, w5_15, e5_17, w5_17, e5_19, w5_19, e5_21, w5_21, e5_23, w5_23, e5_25, w5_25, e5_27, w5_27, e5_29, w5_29, e5_31, w5_31, c5_32, e5_34, w5_34, e5_36, w5_36, e5_38, w5_38, e5_40, w5_40, c5_41, e5_43, w5_43, c5_44, c5_45, c5_46, c5_47, c5_48, c5_49, c5_50, e5_52, w5_52, c5_53, c5_54, c5_55, c5_56, c5_57, e5_59, w5_59, c5_60, c5_61, c5_62, c5_63, c5_64, c5_65, c5_66, h0]
  first | refine callD (hnew) ?_ | refine callQD (hnew) ?_
  simp -implicitDefEqProofs (disch := omega) only [go_sem, Nat.reduceAdd, Nat.reduceMul, Nat.reduceSub, Nat.reduceBEq, Nat.reduceLeDiff, Nat.reduceLT, fn_transitlaw37_AccountRuns, e5_1, w5_1, e5_3, w5_3, c5_4, e5_6, w5_6, e5_8, w5_8, e5_10, w5_10, e5_12, w5_12, c5_13, e5_15, w5_15, e5_17, w5_17, e5_19, w5_19, e5_21, w5_21, e5_23, w5_23, e5_25, w5_25, e5_27, w5_27, e5_29, w5_29, e5_31, w5_31, c5_32, e5_34, w5_34, e5_36, w5_36, e5_38, w5_38, e5_40, w5_40, c5_41, e5_43, w5_43, c5_44, c5_45, c5_46, c5_47, c5_48, c5_49, c5_50, e5_52, w5_52, c5_53, c5_54, c5_55, c5_56, c5_57, e5_59, w5_59, c5_60, c5_61, c5_62, c5_63, c5_64, c5_65, c5_66, get_at0, set_at0, eq_ptr_nil]
  have hOn : Own N := hA.own
  have hkl : N.length = N.length := rfl
  have hR0 : Run f t id mid N.length 0 [] ⟨f, [], [], .nil, .nil⟩ (N ++ [.box (RA.row ⟨f, [], [], .nil, .nil⟩)]) := by
    have h1 := (List.getElem?_eq_some_iff.1 hA.box).1
    have h2 := (List.getElem?_eq_some_iff.1 hA.ents).1
    exact ⟨⟨hOn.app (by simp [memUnder, Blk.under, underL, V.under, RA.row]), app_get hA.box _, app_get hA.ents _, hA.ne⟩, by rw [get_at0]; rfl, by omega, by omega, RI.start f, rfl, fun d => ⟨Int.le_refl _, by simp [spentOn, getL]⟩, fun _ => within_nil hlim.1, Nat.le_refl _⟩
  simp only [RA.row, List.map_nil] at hR0
  generalize N ++ [Blk.box _] = M0 at *
  generalize N.length = k at *
  refine wpC_forL l (fun i vs M => ∃ L a, Run f t id mid k i L a M ∧ vs = [.slice (l.map Oper.row) c, .ptr id 0, .int .i64 0, .ptr k 0, .int .i64 i]) ⟨[], _, hR0, rfl⟩ ?_ ?_
  rotate_left
  · rintro vs M ⟨L, a, hR, rfl⟩
    simp -implicitDefEqProofs (disch := omega) only [go_sem, Nat.reduceAdd, Nat.reduceMul, Nat.reduceSub, Nat.reduceBEq, Nat.reduceLeDiff, Nat.reduceLT, fn_transitlaw37_AccountRuns, e5_1, w5_1, e5_3, w5_3, c5_4, e5_6, w5_6, e5_8, w5_8, e5_10, w5_10, e5_12, w5_12, c5_13, e5_15, w5_15, e5_17, w5_17, e5_19, w5_19, e5_21, w5_21, e5_23, w5_23, e5_25, w5_25, e5_27, w5_27, e5_29, w5_29, e5_31, w5_31, c5_32, e5_34, w5_34, e5_36, w5_36, e5_38, w5_38, e5_40, w5_40, c5_41, e5_43, w5_43, c5_44, c5_45, c5_46, c5_47, c5_48, c5_49, c5_50, e5_52, w5_52, c5_53, c5_54, c5_55, c5_56, c5_57, e5_59, w5_59, c5_60, c5_61, c5_62, c5_63, c5_64, c5_65, c5_66, List.length_map, dec_irrefl]
    refine callA (hex hR.acc.own) ?_
    rintro v N' ⟨rfl, rfl⟩
    simp -implicitDefEqProofs (disch := omega) only [go_sem, Nat.reduceAdd, Nat.reduceMul, Nat.reduceSub, Nat.reduceBEq, Nat.reduceLeDiff, Nat.reduceLT, fn_transitlaw37_AccountRuns, e5_1, w5_1, e5_3, w5_3, c5_4, e5_6, w5_6, e5_8, w5_8, e5_10, w5_10, e5_12, w5_12, c5_13, e5_15, w5_15, e5_17, w5_17, e5_19, w5_19, e5_21, w5_21, e5_23, w5_23, e5_25, w5_25, e5_27, w5_27, e5_29, w5_29, e5_31, w5_31, c5_32, e5_34, w5_34, e5_36, w5_36, e5_38, w5_38, e5_40, w5_40, c5_41, e5_43, w5_43, c5_44, c5_45, c5_46, c5_47, c5_48, c5_49, c5_50, e5_52, w5_52, c5_53, c5_54, c5_55, c5_56, c5_57, e5_59, w5_59, c5_60, c5_61, c5_62, c5_63, c5_64, c5_65, c5_66]
  rintro i o vs M ho hi hd ⟨L, a, hR, rfl⟩
  have how := hl o (List.mem_of_getElem? ho)
  have hb := hR.bound o.day
  have e00 : decide ((0 : Int) = 0) = true := rfl
  simp -implicitDefEqProofs (disch := omega) only [go_sem, Nat.reduceAdd, Nat.reduceMul, Nat.reduceSub, Nat.reduceBEq, Nat.reduceLeDiff, Nat.reduceLT, fn_transitlaw37_AccountRuns, e5_1, w5_1, e5_3, w5_3, c5_4, e5_6, w5_6, e5_8, w5_8, e5_10, w5_10, e5_12, w5_12, c5_13, e5_15, w5_15, e5_17, w5_17, e5_19, w5_19, e5_21, w5_21, e5_23, w5_23, e5_25, w5_25, e5_27, w5_27, e5_29, w5_29, e5_31, w5_31, c5_32, e5_34, w5_34, e5_36, w5_36, e5_38, w5_38, e5_40, w5_40, c5_41, e5_43, w5_43, c5_44, c5_45, c5_46, c5_47, c5_48, c5_49, c5_50, e5_52, w5_52, c5_53, c5_54, c5_55, c5_56, c5_57, e5_59, w5_59, c5_60, c5_61, c5_62, c5_63, c5_64, c5_65, c5_66, List.length_map, hd, ho, Oper.row, e00]
  refine callA (do_ok hwf hck hR.acc o how ⟨hb.1, by omega⟩) ?_
  rintro v M' ⟨rfl, rfl⟩
  rw [doRes_tag]
  have hAK := hR.acc.set (doRes f L o).2.2
  have hKb : (M.set mid (.map (dayMap (doRes f L o).2.2)))[k]? = some (.box a.row) := by rw [List.getElem?_set_ne (fun e => hR.ne2 e.symm)]; exact hR.box
  have hbd := do_within hc hR.bound hR.cap o
  have hlen := doRes_len f L o
  have hda0 := hR.days_le
  have hsb0 := hR.spent_bd (by omega)
  have hsl0 := hR.ri.len
  generalize hKK : M.set mid (.map (dayMap (doRes f L o).2.2)) = K at *
  have hkK : k < K.length := (List.getElem?_eq_some_iff.1 hKb).1
  have hset : ∀ a2 : RA, Acc (K.set k (.box a2.row)) ⟨f.products, t, f.discount, f.within, f.limit⟩ id mid (doRes f L o).2.2 ∧ (K.set k (.box a2.row))[k]? = some (.box a2.row) := fun a2 => by
    refine ⟨⟨?_, ?_, ?_, hAK.ne⟩, by rw [List.getElem?_set_self hkK]⟩
    · rw [List.length_set]
      exact memU_set (B := .box a2.row) (by simp [Blk.under, underL, V.under, RA.row]) _ _ hAK.own
    · rw [List.getElem?_set_ne hR.ne1]; exact hAK.box
    · rw [List.getElem?_set_ne hR.ne2]; exact hAK.ents
  have hbd2 : Within (doRes f L o).2.2 (9000000 * ((i + 1 : Nat) : Int)) := by
    have := hbd.1
    rw [show (9000000 * ((i + 1 : Nat) : Int)) = 9000000 * (i : Int) + 9000000 by omega]
    exact this
  have hcap2 := hbd.2
  have hlen2 : (doRes f L o).2.2.length ≤ i + 1 := by have := hR.len; omega
  have hKb2 := hKb
  simp only [RA.row] at hKb2
  simp -implicitDefEqProofs (disch := omega) only [go_sem, Nat.reduceAdd, Nat.reduceMul, Nat.reduceSub, Nat.reduceBEq, Nat.reduceLeDiff, Nat.reduceLT, fn_transitlaw37_AccountRuns, e5_1, w5_1, e5_3, w5_3, c5_4, e5_6, w5_6, e5_8, w5_8, e5_10, w5_10, e5_12, w5_12, c5_13, e5_15, w5_15, e5_17, w5_17, e5_19, w5_19, e5_21, w5_21, e5_23, w5_23, e5_25, w5_25, e5_27, w5_27, e5_29, w5_29, e5_31, w5_31, c5_32, e5_34, w5_34, e5_36, w5_36, e5_38, w5_38, e5_40, w5_40, c5_41, e5_43, w5_43, c5_44, c5_45, c5_46, c5_47, c5_48, c5_49, c5_50, e5_52, w5_52, c5_53, c5_54, c5_55, c5_56, c5_57, e5_59, w5_59, c5_60, c5_61, c5_62, c5_63, c5_64, c5_65, c5_66, pairV, ho, Oper.row]
  refine ifB (fun hr => ?_) (fun hr => ?_)
  · have ed : doRes f L o = (0, (refundRes L o.day o.amount).1, (refundRes L o.day o.amount).2) := by rw [doRes, if_pos hr]
    obtain ⟨lk1, lk2, lk3⟩ := link_refund hR.ri o.day o.amount
    have cr := ref_Refund_ok a o.day o.amount (by omega) hsl0 hsb0
    rw [lk1] at cr
    have hs2 := hset (refundR a o.day o.amount).1
    rw [ed] at hs2 hbd2 hcap2 hlen2 ⊢
    generalize (refundR a o.day o.amount).1 = a2 at *
    generalize (refundRes L o.day o.amount).2 = L2 at *
    generalize (refundRes L o.day o.amount).1 = er at *
    obtain ⟨hA2, hB2⟩ := hs2
    simp only [RA.row] at cr
    simp -implicitDefEqProofs (disch := omega) only [go_sem, Nat.reduceAdd, Nat.reduceMul, Nat.reduceSub, Nat.reduceBEq, Nat.reduceLeDiff, Nat.reduceLT, fn_transitlaw37_AccountRuns, e5_1, w5_1, e5_3, w5_3, c5_4, e5_6, w5_6, e5_8, w5_8, e5_10, w5_10, e5_12, w5_12, c5_13, e5_15, w5_15, e5_17, w5_17, e5_19, w5_19, e5_21, w5_21, e5_23, w5_23, e5_25, w5_25, e5_27, w5_27, e5_29, w5_29, e5_31, w5_31, c5_32, e5_34, w5_34, e5_36, w5_36, e5_38, w5_38, e5_40, w5_40, c5_41, e5_43, w5_43, c5_44, c5_45, c5_46, c5_47, c5_48, c5_49, c5_50, e5_52, w5_52, c5_53, c5_54, c5_55, c5_56, c5_57, e5_59, w5_59, c5_60, c5_61, c5_62, c5_63, c5_64, c5_65, c5_66, ho, Oper.row, hKb2]
    first | refine callD (cr) ?_ | refine callQD (cr) ?_
    have hKR : ∀ B, K.set k B = K.set k B := fun _ => rfl
    generalize hK2 : K.set k (.box a2.row) = K2 at *
    simp only [RA.row] at hK2
    simp -implicitDefEqProofs (disch := omega) only [go_sem, Nat.reduceAdd, Nat.reduceMul, Nat.reduceSub, Nat.reduceBEq, Nat.reduceLeDiff, Nat.reduceLT, fn_transitlaw37_AccountRuns, e5_1, w5_1, e5_3, w5_3, c5_4, e5_6, w5_6, e5_8, w5_8, e5_10, w5_10, e5_12, w5_12, c5_13, e5_15, w5_15, e5_17, w5_17, e5_19, w5_19, e5_21, w5_21, e5_23, w5_23, e5_25, w5_25, e5_27, w5_27, e5_29, w5_29, e5_31, w5_31, c5_32, e5_34, w5_34, e5_36, w5_36, e5_38, w5_38, e5_40, w5_40, c5_41, e5_43, w5_43, c5_44, c5_45, c5_46, c5_47, c5_48, c5_49, c5_50, e5_52, w5_52, c5_53, c5_54, c5_55, c5_56, c5_57, e5_59, w5_59, c5_60, c5_61, c5_62, c5_63, c5_64, c5_65, c5_66, ho, Oper.row, hKb2, hK2]
    have hR2 : Run f t id mid k (i + 1) L2 a2 K2 := ⟨hA2, hB2, hR.ne1, hR.ne2, lk2, lk3.trans hR.fares, hbd2, hcap2, hlen2⟩
    have hda := hR2.days_le
    have hsb := hR2.spent_bd (by omega)
    have hsl2 := hR2.ri.len
    have hbb := hR2.bound o.day
    have hsum := sum_bd a2.spent hsb
    rw [hR2.ri.sum] at hsum
    have c1 := Account_Spent_ok hR2.acc o.day
    have c2 := ref_On_ok a2 o.day (by omega) hsl2
    rw [hR2.ri.on] at c2
    have c3 := Account_Total_ok hR2.acc (by omega)
    have c4 := ref_Total_ok a2 (by omega) hsb
    rw [hR2.ri.sum] at c4
    have c5 := Days_ok hR2.acc (by have := hR2.len; omega)
    have c6 := ref_SameInts_ok (sortD L2) a2.days .unk a2.c1 (by rw [← hR2.ri.days]; omega)
    rw [decide_eq_true hR2.ri.days.symm] at c6
    have c7 := Account_Left_ok hR2.acc o.day (by simpa using hlim) ⟨hbb.1, by omega⟩
    have c8 := ref_Left_ok a2 o.day (by omega) hsl2 (by rw [hR2.fares]; exact hlim) (by rw [hR2.ri.on]; omega)
    rw [hR2.ri.left, hR2.fares] at c8
    rw [leftRes_tag] at c7
    have hB3 := hR2.box
    simp only [RA.row] at c2 c4 c8 hB3
    simp only [prV] at c7 c8
    generalize leftRes f L2 o.day = E at *
    refine ⟨_, c1, ?_⟩
    simp -implicitDefEqProofs (disch := omega) only [go_sem, Nat.reduceAdd, Nat.reduceMul, Nat.reduceSub, Nat.reduceBEq, Nat.reduceLeDiff, Nat.reduceLT, fn_transitlaw37_AccountRuns, e5_1, w5_1, e5_3, w5_3, c5_4, e5_6, w5_6, e5_8, w5_8, e5_10, w5_10, e5_12, w5_12, c5_13, e5_15, w5_15, e5_17, w5_17, e5_19, w5_19, e5_21, w5_21, e5_23, w5_23, e5_25, w5_25, e5_27, w5_27, e5_29, w5_29, e5_31, w5_31, c5_32, e5_34, w5_34, e5_36, w5_36, e5_38, w5_38, e5_40, w5_40, c5_41, e5_43, w5_43, c5_44, c5_45, c5_46, c5_47, c5_48, c5_49, c5_50, e5_52, w5_52, c5_53, c5_54, c5_55, c5_56, c5_57, e5_59, w5_59, c5_60, c5_61, c5_62, c5_63, c5_64, c5_65, c5_66, ho, Oper.row, hB3]
    first | refine callD (c2) ?_ | refine callQD (c2) ?_
    simp -implicitDefEqProofs (disch := omega) only [go_sem, Nat.reduceAdd, Nat.reduceMul, Nat.reduceSub, Nat.reduceBEq, Nat.reduceLeDiff, Nat.reduceLT, fn_transitlaw37_AccountRuns, e5_1, w5_1, e5_3, w5_3, c5_4, e5_6, w5_6, e5_8, w5_8, e5_10, w5_10, e5_12, w5_12, c5_13, e5_15, w5_15, e5_17, w5_17, e5_19, w5_19, e5_21, w5_21, e5_23, w5_23, e5_25, w5_25, e5_27, w5_27, e5_29, w5_29, e5_31, w5_31, c5_32, e5_34, w5_34, e5_36, w5_36, e5_38, w5_38, e5_40, w5_40, c5_41, e5_43, w5_43, c5_44, c5_45, c5_46, c5_47, c5_48, c5_49, c5_50, e5_52, w5_52, c5_53, c5_54, c5_55, c5_56, c5_57, e5_59, w5_59, c5_60, c5_61, c5_62, c5_63, c5_64, c5_65, c5_66, ho, Oper.row, hB3]
    refine ⟨_, c3, ?_⟩
    simp -implicitDefEqProofs (disch := omega) only [go_sem, Nat.reduceAdd, Nat.reduceMul, Nat.reduceSub, Nat.reduceBEq, Nat.reduceLeDiff, Nat.reduceLT, fn_transitlaw37_AccountRuns, e5_1, w5_1, e5_3, w5_3, c5_4, e5_6, w5_6, e5_8, w5_8, e5_10, w5_10, e5_12, w5_12, c5_13, e5_15, w5_15, e5_17, w5_17, e5_19, w5_19, e5_21, w5_21, e5_23, w5_23, e5_25, w5_25, e5_27, w5_27, e5_29, w5_29, e5_31, w5_31, c5_32, e5_34, w5_34, e5_36, w5_36, e5_38, w5_38, e5_40, w5_40, c5_41, e5_43, w5_43, c5_44, c5_45, c5_46, c5_47, c5_48, c5_49, c5_50, e5_52, w5_52, c5_53, c5_54, c5_55, c5_56, c5_57, e5_59, w5_59, c5_60, c5_61, c5_62, c5_63, c5_64, c5_65, c5_66, ho, Oper.row, hB3]
    first | refine callD (c4) ?_ | refine callQD (c4) ?_
    simp -implicitDefEqProofs (disch := omega) only [go_sem, Nat.reduceAdd, Nat.reduceMul, Nat.reduceSub, Nat.reduceBEq, Nat.reduceLeDiff, Nat.reduceLT, fn_transitlaw37_AccountRuns, e5_1, w5_1, e5_3, w5_3, c5_4, e5_6, w5_6, e5_8, w5_8, e5_10, w5_10, e5_12, w5_12, c5_13, e5_15, w5_15, e5_17, w5_17, e5_19, w5_19, e5_21, w5_21, e5_23, w5_23, e5_25, w5_25, e5_27, w5_27, e5_29, w5_29, e5_31, w5_31, c5_32, e5_34, w5_34, e5_36, w5_36, e5_38, w5_38, e5_40, w5_40, c5_41, e5_43, w5_43, c5_44, c5_45, c5_46, c5_47, c5_48, c5_49, c5_50, e5_52, w5_52, c5_53, c5_54, c5_55, c5_56, c5_57, e5_59, w5_59, c5_60, c5_61, c5_62, c5_63, c5_64, c5_65, c5_66, ho, Oper.row, hB3]
    refine ⟨_, c5, ?_⟩
    simp -implicitDefEqProofs (disch := omega) only [go_sem, Nat.reduceAdd, Nat.reduceMul, Nat.reduceSub, Nat.reduceBEq, Nat.reduceLeDiff, Nat.reduceLT, fn_transitlaw37_AccountRuns, e5_1, w5_1, e5_3, w5_3, c5_4, e5_6, w5_6, e5_8, w5_8, e5_10, w5_10, e5_12, w5_12, c5_13, e5_15, w5_15, e5_17, w5_17, e5_19, w5_19, e5_21, w5_21, e5_23, w5_23, e5_25, w5_25, e5_27, w5_27, e5_29, w5_29, e5_31, w5_31, c5_32, e5_34, w5_34, e5_36, w5_36, e5_38, w5_38, e5_40, w5_40, c5_41, e5_43, w5_43, c5_44, c5_45, c5_46, c5_47, c5_48, c5_49, c5_50, e5_52, w5_52, c5_53, c5_54, c5_55, c5_56, c5_57, e5_59, w5_59, c5_60, c5_61, c5_62, c5_63, c5_64, c5_65, c5_66, ho, Oper.row, hB3]
    first | refine callD (c6) ?_ | refine callQD (c6) ?_
    simp -implicitDefEqProofs (disch := omega) only [go_sem, Nat.reduceAdd, Nat.reduceMul, Nat.reduceSub, Nat.reduceBEq, Nat.reduceLeDiff, Nat.reduceLT, fn_transitlaw37_AccountRuns, e5_1, w5_1, e5_3, w5_3, c5_4, e5_6, w5_6, e5_8, w5_8, e5_10, w5_10, e5_12, w5_12, c5_13, e5_15, w5_15, e5_17, w5_17, e5_19, w5_19, e5_21, w5_21, e5_23, w5_23, e5_25, w5_25, e5_27, w5_27, e5_29, w5_29, e5_31, w5_31, c5_32, e5_34, w5_34, e5_36, w5_36, e5_38, w5_38, e5_40, w5_40, c5_41, e5_43, w5_43, c5_44, c5_45, c5_46, c5_47, c5_48, c5_49, c5_50, e5_52, w5_52, c5_53, c5_54, c5_55, c5_56, c5_57, e5_59, w5_59, c5_60, c5_61, c5_62, c5_63, c5_64, c5_65, c5_66, ho, Oper.row, hB3]
    refine callA c7 ?_
    rintro v N' ⟨rfl, rfl⟩
    simp -implicitDefEqProofs (disch := omega) only [go_sem, Nat.reduceAdd, Nat.reduceMul, Nat.reduceSub, Nat.reduceBEq, Nat.reduceLeDiff, Nat.reduceLT, fn_transitlaw37_AccountRuns, e5_1, w5_1, e5_3, w5_3, c5_4, e5_6, w5_6, e5_8, w5_8, e5_10, w5_10, e5_12, w5_12, c5_13, e5_15, w5_15, e5_17, w5_17, e5_19, w5_19, e5_21, w5_21, e5_23, w5_23, e5_25, w5_25, e5_27, w5_27, e5_29, w5_29, e5_31, w5_31, c5_32, e5_34, w5_34, e5_36, w5_36, e5_38, w5_38, e5_40, w5_40, c5_41, e5_43, w5_43, c5_44, c5_45, c5_46, c5_47, c5_48, c5_49, c5_50, e5_52, w5_52, c5_53, c5_54, c5_55, c5_56, c5_57, e5_59, w5_59, c5_60, c5_61, c5_62, c5_63, c5_64, c5_65, c5_66, ho, Oper.row, hB3]
    first | refine callD (c8) ?_ | refine callQD (c8) ?_
    simp -implicitDefEqProofs (disch := omega) only [go_sem, Nat.reduceAdd, Nat.reduceMul, Nat.reduceSub, Nat.reduceBEq, Nat.reduceLeDiff, Nat.reduceLT, fn_transitlaw37_AccountRuns, e5_1, w5_1, e5_3, w5_3, c5_4, e5_6, w5_6, e5_8, w5_8, e5_10, w5_10, e5_12, w5_12, c5_13, e5_15, w5_15, e5_17, w5_17, e5_19, w5_19, e5_21, w5_21, e5_23, w5_23, e5_25, w5_25, e5_27, w5_27, e5_29, w5_29, e5_31, w5_31, c5_32, e5_34, w5_34, e5_36, w5_36, e5_38, w5_38, e5_40, w5_40, c5_41, e5_43, w5_43, c5_44, c5_45, c5_46, c5_47, c5_48, c5_49, c5_50, e5_52, w5_52, c5_53, c5_54, c5_55, c5_56, c5_57, e5_59, w5_59, c5_60, c5_61, c5_62, c5_63, c5_64, c5_65, c5_66, ho, Oper.row, hB3]
    exact next_stay hi ⟨L2, a2, hR2, rfl⟩
  · have ed : doRes f L o = chargeRes f L o.day o.rides := by rw [doRes, if_neg (by simp [hr])]
    obtain ⟨lk0, lk1, lk2, lk3⟩ := link_charge hR.ri (by rw [hR.fares]; exact hlim.1) o.day o.rides
    have cr := ref_Charge_ok a o.day o.rides o.cap (by rw [hR.fares]; exact hf) (by rw [hR.fares]; exact hc) how.2.1 (by omega) hsl0 hsb0 (by rw [hR.ri.on]; omega)
    rw [lk0, lk1] at cr
    rw [hR.fares] at cr lk2
    have hs2 := hset (chargeR a o.day o.rides).1
    rw [ed] at hs2 hbd2 hcap2 hlen2 ⊢
    generalize (chargeR a o.day o.rides).1 = a2 at *
    generalize (chargeRes f L o.day o.rides).2.2 = L2 at *
    generalize (chargeRes f L o.day o.rides).2.1 = er at *
    generalize (chargeRes f L o.day o.rides).1 = am at *
    obtain ⟨hA2, hB2⟩ := hs2
    simp only [RA.row] at cr
    simp -implicitDefEqProofs (disch := omega) only [go_sem, Nat.reduceAdd, Nat.reduceMul, Nat.reduceSub, Nat.reduceBEq, Nat.reduceLeDiff, Nat.reduceLT, fn_transitlaw37_AccountRuns, e5_1, w5_1, e5_3, w5_3, c5_4, e5_6, w5_6, e5_8, w5_8, e5_10, w5_10, e5_12, w5_12, c5_13, e5_15, w5_15, e5_17, w5_17, e5_19, w5_19, e5_21, w5_21, e5_23, w5_23, e5_25, w5_25, e5_27, w5_27, e5_29, w5_29, e5_31, w5_31, c5_32, e5_34, w5_34, e5_36, w5_36, e5_38, w5_38, e5_40, w5_40, c5_41, e5_43, w5_43, c5_44, c5_45, c5_46, c5_47, c5_48, c5_49, c5_50, e5_52, w5_52, c5_53, c5_54, c5_55, c5_56, c5_57, e5_59, w5_59, c5_60, c5_61, c5_62, c5_63, c5_64, c5_65, c5_66, ho, Oper.row, hKb2]
    first | refine callD (cr) ?_ | refine callQD (cr) ?_
    generalize hK2 : K.set k (.box a2.row) = K2 at *
    simp only [RA.row] at hK2
    simp -implicitDefEqProofs (disch := omega) only [go_sem, Nat.reduceAdd, Nat.reduceMul, Nat.reduceSub, Nat.reduceBEq, Nat.reduceLeDiff, Nat.reduceLT, fn_transitlaw37_AccountRuns, e5_1, w5_1, e5_3, w5_3, c5_4, e5_6, w5_6, e5_8, w5_8, e5_10, w5_10, e5_12, w5_12, c5_13, e5_15, w5_15, e5_17, w5_17, e5_19, w5_19, e5_21, w5_21, e5_23, w5_23, e5_25, w5_25, e5_27, w5_27, e5_29, w5_29, e5_31, w5_31, c5_32, e5_34, w5_34, e5_36, w5_36, e5_38, w5_38, e5_40, w5_40, c5_41, e5_43, w5_43, c5_44, c5_45, c5_46, c5_47, c5_48, c5_49, c5_50, e5_52, w5_52, c5_53, c5_54, c5_55, c5_56, c5_57, e5_59, w5_59, c5_60, c5_61, c5_62, c5_63, c5_64, c5_65, c5_66, ho, Oper.row, hKb2, hK2]
    have hR2 : Run f t id mid k (i + 1) L2 a2 K2 := ⟨hA2, hB2, hR.ne1, hR.ne2, lk2, lk3.trans hR.fares, hbd2, hcap2, hlen2⟩
    have hda := hR2.days_le
    have hsb := hR2.spent_bd (by omega)
    have hsl2 := hR2.ri.len
    have hbb := hR2.bound o.day
    have hsum := sum_bd a2.spent hsb
    rw [hR2.ri.sum] at hsum
    have c1 := Account_Spent_ok hR2.acc o.day
    have c2 := ref_On_ok a2 o.day (by omega) hsl2
    rw [hR2.ri.on] at c2
    have c3 := Account_Total_ok hR2.acc (by omega)
    have c4 := ref_Total_ok a2 (by omega) hsb
    rw [hR2.ri.sum] at c4
    have c5 := Days_ok hR2.acc (by have := hR2.len; omega)
    have c6 := ref_SameInts_ok (sortD L2) a2.days .unk a2.c1 (by rw [← hR2.ri.days]; omega)
    rw [decide_eq_true hR2.ri.days.symm] at c6
    have c7 := Account_Left_ok hR2.acc o.day (by simpa using hlim) ⟨hbb.1, by omega⟩
    have c8 := ref_Left_ok a2 o.day (by omega) hsl2 (by rw [hR2.fares]; exact hlim) (by rw [hR2.ri.on]; omega)
    rw [hR2.ri.left, hR2.fares] at c8
    rw [leftRes_tag] at c7
    have hB3 := hR2.box
    simp only [RA.row] at c2 c4 c8 hB3
    simp only [prV] at c7 c8
    generalize leftRes f L2 o.day = E at *
    refine ⟨_, c1, ?_⟩
    simp -implicitDefEqProofs (disch := omega) only [go_sem, Nat.reduceAdd, Nat.reduceMul, Nat.reduceSub, Nat.reduceBEq, Nat.reduceLeDiff, Nat.reduceLT, fn_transitlaw37_AccountRuns, e5_1, w5_1, e5_3, w5_3, c5_4, e5_6, w5_6, e5_8, w5_8, e5_10, w5_10, e5_12, w5_12, c5_13, e5_15, w5_15, e5_17, w5_17, e5_19, w5_19, e5_21, w5_21, e5_23, w5_23, e5_25, w5_25, e5_27, w5_27, e5_29, w5_29, e5_31, w5_31, c5_32, e5_34, w5_34, e5_36, w5_36, e5_38, w5_38, e5_40, w5_40, c5_41, e5_43, w5_43, c5_44, c5_45, c5_46, c5_47, c5_48, c5_49, c5_50, e5_52, w5_52, c5_53, c5_54, c5_55, c5_56, c5_57, e5_59, w5_59, c5_60, c5_61, c5_62, c5_63, c5_64, c5_65, c5_66, ho, Oper.row, hB3]
    first | refine callD (c2) ?_ | refine callQD (c2) ?_
    simp -implicitDefEqProofs (disch := omega) only [go_sem, Nat.reduceAdd, Nat.reduceMul, Nat.reduceSub, Nat.reduceBEq, Nat.reduceLeDiff, Nat.reduceLT, fn_transitlaw37_AccountRuns, e5_1, w5_1, e5_3, w5_3, c5_4, e5_6, w5_6, e5_8, w5_8, e5_10, w5_10, e5_12, w5_12, c5_13, e5_15, w5_15, e5_17, w5_17, e5_19, w5_19, e5_21, w5_21, e5_23, w5_23, e5_25, w5_25, e5_27, w5_27, e5_29, w5_29, e5_31, w5_31, c5_32, e5_34, w5_34, e5_36, w5_36, e5_38, w5_38, e5_40, w5_40, c5_41, e5_43, w5_43, c5_44, c5_45, c5_46, c5_47, c5_48, c5_49, c5_50, e5_52, w5_52, c5_53, c5_54, c5_55, c5_56, c5_57, e5_59, w5_59, c5_60, c5_61, c5_62, c5_63, c5_64, c5_65, c5_66, ho, Oper.row, hB3]
    refine ⟨_, c3, ?_⟩
    simp -implicitDefEqProofs (disch := omega) only [go_sem, Nat.reduceAdd, Nat.reduceMul, Nat.reduceSub, Nat.reduceBEq, Nat.reduceLeDiff, Nat.reduceLT, fn_transitlaw37_AccountRuns, e5_1, w5_1, e5_3, w5_3, c5_4, e5_6, w5_6, e5_8, w5_8, e5_10, w5_10, e5_12, w5_12, c5_13, e5_15, w5_15, e5_17, w5_17, e5_19, w5_19, e5_21, w5_21, e5_23, w5_23, e5_25, w5_25, e5_27, w5_27, e5_29, w5_29, e5_31, w5_31, c5_32, e5_34, w5_34, e5_36, w5_36, e5_38, w5_38, e5_40, w5_40, c5_41, e5_43, w5_43, c5_44, c5_45, c5_46, c5_47, c5_48, c5_49, c5_50, e5_52, w5_52, c5_53, c5_54, c5_55, c5_56, c5_57, e5_59, w5_59, c5_60, c5_61, c5_62, c5_63, c5_64, c5_65, c5_66, ho, Oper.row, hB3]
    first | refine callD (c4) ?_ | refine callQD (c4) ?_
    simp -implicitDefEqProofs (disch := omega) only [go_sem, Nat.reduceAdd, Nat.reduceMul, Nat.reduceSub, Nat.reduceBEq, Nat.reduceLeDiff, Nat.reduceLT, fn_transitlaw37_AccountRuns, e5_1, w5_1, e5_3, w5_3, c5_4, e5_6, w5_6, e5_8, w5_8, e5_10, w5_10, e5_12, w5_12, c5_13, e5_15, w5_15, e5_17, w5_17, e5_19, w5_19, e5_21, w5_21, e5_23, w5_23, e5_25, w5_25, e5_27, w5_27, e5_29, w5_29, e5_31, w5_31, c5_32, e5_34, w5_34, e5_36, w5_36, e5_38, w5_38, e5_40, w5_40, c5_41, e5_43, w5_43, c5_44, c5_45, c5_46, c5_47, c5_48, c5_49, c5_50, e5_52, w5_52, c5_53, c5_54, c5_55, c5_56, c5_57, e5_59, w5_59, c5_60, c5_61, c5_62, c5_63, c5_64, c5_65, c5_66, ho, Oper.row, hB3]
    refine ⟨_, c5, ?_⟩
    simp -implicitDefEqProofs (disch := omega) only [go_sem, Nat.reduceAdd, Nat.reduceMul, Nat.reduceSub, Nat.reduceBEq, Nat.reduceLeDiff, Nat.reduceLT, fn_transitlaw37_AccountRuns, e5_1, w5_1, e5_3, w5_3, c5_4, e5_6, w5_6, e5_8, w5_8, e5_10, w5_10, e5_12, w5_12, c5_13, e5_15, w5_15, e5_17, w5_17, e5_19, w5_19, e5_21, w5_21, e5_23, w5_23, e5_25, w5_25, e5_27, w5_27, e5_29, w5_29, e5_31, w5_31, c5_32, e5_34, w5_34, e5_36, w5_36, e5_38, w5_38, e5_40, w5_40, c5_41, e5_43, w5_43, c5_44, c5_45, c5_46, c5_47, c5_48, c5_49, c5_50, e5_52, w5_52, c5_53, c5_54, c5_55, c5_56, c5_57, e5_59, w5_59, c5_60, c5_61, c5_62, c5_63, c5_64, c5_65, c5_66, ho, Oper.row, hB3]
    first | refine callD (c6) ?_ | refine callQD (c6) ?_
    simp -implicitDefEqProofs (disch := omega) only [go_sem, Nat.reduceAdd, Nat.reduceMul, Nat.reduceSub, Nat.reduceBEq, Nat.reduceLeDiff, Nat.reduceLT, fn_transitlaw37_AccountRuns, e5_1, w5_1, e5_3, w5_3, c5_4, e5_6, w5_6, e5_8, w5_8, e5_10, w5_10, e5_12, w5_12, c5_13, e5_15, w5_15, e5_17, w5_17, e5_19, w5_19, e5_21, w5_21, e5_23, w5_23, e5_25, w5_25, e5_27, w5_27, e5_29, w5_29, e5_31, w5_31, c5_32, e5_34, w5_34, e5_36, w5_36, e5_38, w5_38, e5_40, w5_40, c5_41, e5_43, w5_43, c5_44, c5_45, c5_46, c5_47, c5_48, c5_49, c5_50, e5_52, w5_52, c5_53, c5_54, c5_55, c5_56, c5_57, e5_59, w5_59, c5_60, c5_61, c5_62, c5_63, c5_64, c5_65, c5_66, ho, Oper.row, hB3]
    refine callA c7 ?_
    rintro v N' ⟨rfl, rfl⟩
    simp -implicitDefEqProofs (disch := omega) only [go_sem, Nat.reduceAdd, Nat.reduceMul, Nat.reduceSub, Nat.reduceBEq, Nat.reduceLeDiff, Nat.reduceLT, fn_transitlaw37_AccountRuns, e5_1, w5_1, e5_3, w5_3, c5_4, e5_6, w5_6, e5_8, w5_8, e5_10, w5_10, e5_12, w5_12, c5_13, e5_15, w5_15, e5_17, w5_17, e5_19, w5_19, e5_21, w5_21, e5_23, w5_23, e5_25, w5_25, e5_27, w5_27, e5_29, w5_29, e5_31, w5_31, c5_32, e5_34, w5_34, e5_36, w5_36, e5_38, w5_38, e5_40, w5_40, c5_41, e5_43, w5_43, c5_44, c5_45, c5_46, c5_47, c5_48, c5_49, c5_50, e5_52, w5_52, c5_53, c5_54, c5_55, c5_56, c5_57, e5_59, w5_59, c5_60, c5_61, c5_62, c5_63, c5_64, c5_65, c5_66, ho, Oper.row, hB3]
    first | refine callD (c8) ?_ | refine callQD (c8) ?_
    simp -implicitDefEqProofs (disch := omega) only [go_sem, Nat.reduceAdd, Nat.reduceMul, Nat.reduceSub, Nat.reduceBEq, Nat.reduceLeDiff, Nat.reduceLT, fn_transitlaw37_AccountRuns, e5_1, w5_1, e5_3, w5_3, c5_4, e5_6, w5_6, e5_8, w5_8, e5_10, w5_10, e5_12, w5_12, c5_13, e5_15, w5_15, e5_17, w5_17, e5_19, w5_19, e5_21, w5_21, e5_23, w5_23, e5_25, w5_25, e5_27, w5_27, e5_29, w5_29, e5_31, w5_31, c5_32, e5_34, w5_34, e5_36, w5_36, e5_38, w5_38, e5_40, w5_40, c5_41, e5_43, w5_43, c5_44, c5_45, c5_46, c5_47, c5_48, c5_49, c5_50, e5_52, w5_52, c5_53, c5_54, c5_55, c5_56, c5_57, e5_59, w5_59, c5_60, c5_61, c5_62, c5_63, c5_64, c5_65, c5_66, ho, Oper.row, hB3]
    exact next_stay hi ⟨L2, a2, hR2, rfl⟩

end Go.Vm.C

