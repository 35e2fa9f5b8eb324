/- The statement InboxActive. -/
import Derived.Test.YtmbeokppfdalfaaT10

namespace Go.Vm.C
open Go.Vm
set_option maxHeartbeats 1000000
set_option maxRecDepth 10000
set_option linter.unusedSimpArgs false
set_option linter.unusedVariables false

/-! ### The statement InboxActive -/
theorem mem_insM {l : List Msg} {m x : Msg} : x ∈ insM l m ↔ x = m ∨ x ∈ l := by
  rw [insM, List.mem_append, List.mem_cons]
  have := List.take_append_drop (insPos l m l.length) l
  conv => rhs; rw [← this, List.mem_append]
  constructor
  · rintro (h | h | h) <;> simp [h]
  · rintro (h | h | h) <;> simp [h]
theorem mem_fold (cur : List Msg) : ∀ (l out : List Msg) (x : Msg), x ∈ l.foldl (actStep cur) out ↔ x ∈ out ∨ (x ∈ l ∧ overB cur x = false)
  | [], out, x => by simp
  | m :: l, out, x => by
    rw [List.foldl_cons, mem_fold cur l, actStep]
    by_cases h : overB cur m = true
    · rw [if_pos h]
      constructor
      · rintro (h1 | ⟨h1, h2⟩)
        · exact .inl h1
        · exact .inr ⟨by simp [h1], h2⟩
      · rintro (h1 | ⟨h1, h2⟩)
        · exact .inl h1
        · rcases List.mem_cons.1 h1 with rfl | h1
          · rw [h] at h2; cases h2
          · exact .inr ⟨h1, h2⟩
    · have h' : overB cur m = false := by simpa using h
      rw [if_neg h, mem_insM]
      constructor
      · rintro ((rfl | h1) | ⟨h1, h2⟩)
        · exact .inr ⟨by simp, h'⟩
        · exact .inl h1
        · exact .inr ⟨by simp [h1], h2⟩
      · rintro (h1 | ⟨h1, h2⟩)
        · exact .inl (.inr h1)
        · rcases List.mem_cons.1 h1 with rfl | h1
          · exact .inl (.inl rfl)
          · exact .inr ⟨h1, h2⟩
theorem mem_actL {cur : List Msg} {x : Msg} : x ∈ actL cur ↔ x ∈ cur ∧ overB cur x = false := by
  have := mem_fold cur cur [] x
  have e : actL cur = cur.foldl (actStep cur) [] := rfl
  rw [e, this]
  simp
theorem sameT_iff {a b : Msg} : sameT a b = true ↔ a.trip = b.trip ∧ a.day = b.day ∧ a.inst = b.inst := by simp [sameT]
theorem low_ex {cur : List Msg} (h0 : ∀ o ∈ cur, 0 ≤ o.src) : ∀ (n : Nat) (x : Msg), x.src ≤ n → overB cur x = true → ∃ o ∈ cur, o.src < x.src ∧ sameT o x = true ∧ overB cur o = false
  | 0, x, hx, h => by
    obtain ⟨o, ho, h1⟩ := List.any_eq_true.1 h
    simp only [Bool.and_eq_true, decide_eq_true_eq] at h1
    have := h0 o ho
    omega
  | n + 1, x, hx, h => by
    obtain ⟨o, ho, h1⟩ := List.any_eq_true.1 h
    simp only [Bool.and_eq_true, decide_eq_true_eq] at h1
    by_cases h2 : overB cur o = true
    · obtain ⟨p, hp, h3, h4, h5⟩ := low_ex h0 n o (by omega) h2
      refine ⟨p, hp, by omega, ?_, h5⟩
      rw [sameT_iff] at h1 h4 ⊢
      exact ⟨h4.1.trans h1.2.1, h4.2.1.trans h1.2.2.1, h4.2.2.trans h1.2.2.2⟩
    · exact ⟨o, ho, h1.1, h1.2, by simpa using h2⟩
theorem curB_own (b : Ibx) (now : Int) (m : Msg) : curB b now m.own = curB b now m := rfl

theorem InboxActive_law (pat : Int) (l : List Oper) (c : Cap) (now : Int) (hl : ∀ o ∈ l, o.wf) (hlen : l.length ≤ maxLen) (hn : I64 now) : PCalls PR i_transitlaw32_InboxActive [.int .i64 pat, .slice (l.map Oper.row) c, .int .i64 now] (fun v => v = .bool true) := by
  have hm : maxLen = 9223372036854775807 := by rfl
  refine acalls_pop fn_transitlaw32_InboxActive_ok (by simp [fn_transitlaw32_InboxActive]) ?_
  simp -implicitDefEqProofs (disch := omega) only [go_sem, Nat.reduceAdd, Nat.reduceMul, Nat.reduceSub, Nat.reduceBEq, Nat.reduceLeDiff, Nat.reduceLT, fn_transitlaw32_InboxActive, e5_1, w5_1, e5_3, w5_3, e5_5, w5_5, c5_6, e5_8, w5_8, e5_10, w5_10, e5_12, w5_12, c5_13, e5_15, w5_15, e5_17, w5_17, e5_19, w5_19, c5_20, e5_22, w5_22, e5_24, w5_24, c5_25, e5_27, w5_27, e5_29, w5_29, e5_31, w5_31, c5_32, e5_34, w5_34, e5_36, w5_36, c5_37, e5_39, w5_39, c5_40, c5_41, e5_43, w5_43, c5_44, c5_45, c5_46, c5_47, c5_48, c5_49, c5_50, c5_51, c5_52, e5_54, w5_54, c5_55, c5_56, c5_57, c5_58, c5_59, c5_60, e5_62, w5_62, e5_64, w5_64, c5_65, e5_67, w5_67, e5_69, w5_69, c5_70, e5_72, w5_72, c5_73, c5_74, e5_76, w5_76, c5_77, c5_78, c5_79, c5_80, c5_81, c5_82, e5_84, w5_84, c5_85, c5_86, c5_87, c5_88, c5_89, c5_90, c5_91, c5_92, slice_opers]
  refine callA (played_ok (M := []) rfl pat (l.take 40) _ (fun o ho => hl o (List.mem_of_mem_take ho)) (by simp; omega)) ?_
  rintro v N ⟨hb, hg⟩
  have hsh := shorts_ok l c hlen
  by_cases h0 : newErr 3 pat = 0
  rotate_left
  · obtain ⟨rfl, rfl⟩ := hb h0
    simp -implicitDefEqProofs (disch := omega) only [go_sem, Nat.reduceAdd, Nat.reduceMul, Nat.reduceSub, Nat.reduceBEq, Nat.reduceLeDiff, Nat.reduceLT, fn_transitlaw32_InboxActive, e5_1, w5_1, e5_3, w5_3, e5_5, w5_5, c5_6, e5_8, w5_8, e5_10, w5_10, e5_12, w5_12, c5_13, e5_15, w5_15, e5_17, w5_17, e5_19, w5_19, c5_20, e5_22, w5_22, e5_24, w5_24, c5_25, e5_27, w5_27, e5_29, w5_29, e5_31, w5_31, c5_32, e5_34, w5_34, e5_36, w5_36, c5_37, e5_39, w5_39, c5_40, c5_41, e5_43, w5_43, c5_44, c5_45, c5_46, c5_47, c5_48, c5_49, c5_50, c5_51, c5_52, e5_54, w5_54, c5_55, c5_56, c5_57, c5_58, c5_59, c5_60, e5_62, w5_62, e5_64, w5_64, c5_65, e5_67, w5_67, e5_69, w5_69, c5_70, e5_72, w5_72, c5_73, c5_74, e5_76, w5_76, c5_77, c5_78, c5_79, c5_80, c5_81, c5_82, e5_84, w5_84, c5_85, c5_86, c5_87, c5_88, c5_89, c5_90, c5_91, c5_92]
    first | refine callD (hsh) ?_ | refine callQD (hsh) ?_
    simp -implicitDefEqProofs (disch := omega) only [go_sem, Nat.reduceAdd, Nat.reduceMul, Nat.reduceSub, Nat.reduceBEq, Nat.reduceLeDiff, Nat.reduceLT, fn_transitlaw32_InboxActive, e5_1, w5_1, e5_3, w5_3, e5_5, w5_5, c5_6, e5_8, w5_8, e5_10, w5_10, e5_12, w5_12, c5_13, e5_15, w5_15, e5_17, w5_17, e5_19, w5_19, c5_20, e5_22, w5_22, e5_24, w5_24, c5_25, e5_27, w5_27, e5_29, w5_29, e5_31, w5_31, c5_32, e5_34, w5_34, e5_36, w5_36, c5_37, e5_39, w5_39, c5_40, c5_41, e5_43, w5_43, c5_44, c5_45, c5_46, c5_47, c5_48, c5_49, c5_50, c5_51, c5_52, e5_54, w5_54, c5_55, c5_56, c5_57, c5_58, c5_59, c5_60, e5_62, w5_62, e5_64, w5_64, c5_65, e5_67, w5_67, e5_69, w5_69, c5_70, e5_72, w5_72, c5_73, c5_74, e5_76, w5_76, c5_77, c5_78, c5_79, c5_80, c5_81, c5_82, e5_84, w5_84, c5_85, c5_86, c5_87, c5_88, c5_89, c5_90, c5_91, c5_92, nil_eq]
    refine ifB (fun h1 => ?_) (fun h1 => ?_)
    · simp -implicitDefEqProofs (disch := omega) only [go_sem, Nat.reduceAdd, Nat.reduceMul, Nat.reduceSub, Nat.reduceBEq, Nat.reduceLeDiff, Nat.reduceLT, fn_transitlaw32_InboxActive, e5_1, w5_1, e5_3, w5_3, e5_5, w5_5, c5_6, e5_8, w5_8, e5_10, w5_10, e5_12, w5_12, c5_13, e5_15, w5_15, e5_17, w5_17, e5_19, w5_19, c5_20, e5_22, w5_22, e5_24, w5_24, c5_25, e5_27, w5_27, e5_29, w5_29, e5_31, w5_31, c5_32, e5_34, w5_34, e5_36, w5_36, c5_37, e5_39, w5_39, c5_40, c5_41, e5_43, w5_43, c5_44, c5_45, c5_46, c5_47, c5_48, c5_49, c5_50, c5_51, c5_52, e5_54, w5_54, c5_55, c5_56, c5_57, c5_58, c5_59, c5_60, e5_62, w5_62, e5_64, w5_64, c5_65, e5_67, w5_67, e5_69, w5_69, c5_70, e5_72, w5_72, c5_73, c5_74, e5_76, w5_76, c5_77, c5_78, c5_79, c5_80, c5_81, c5_82, e5_84, w5_84, c5_85, c5_86, c5_87, c5_88, c5_89, c5_90, c5_91, c5_92, nil_eq]
      first | refine callD (example32_ok) ?_ | refine callQD (example32_ok) ?_
      simp -implicitDefEqProofs (disch := omega) only [go_sem, Nat.reduceAdd, Nat.reduceMul, Nat.reduceSub, Nat.reduceBEq, Nat.reduceLeDiff, Nat.reduceLT, fn_transitlaw32_InboxActive, e5_1, w5_1, e5_3, w5_3, e5_5, w5_5, c5_6, e5_8, w5_8, e5_10, w5_10, e5_12, w5_12, c5_13, e5_15, w5_15, e5_17, w5_17, e5_19, w5_19, c5_20, e5_22, w5_22, e5_24, w5_24, c5_25, e5_27, w5_27, e5_29, w5_29, e5_31, w5_31, c5_32, e5_34, w5_34, e5_36, w5_36, c5_37, e5_39, w5_39, c5_40, c5_41, e5_43, w5_43, c5_44, c5_45, c5_46, c5_47, c5_48, c5_49, c5_50, c5_51, c5_52, e5_54, w5_54, c5_55, c5_56, c5_57, c5_58, c5_59, c5_60, e5_62, w5_62, e5_64, w5_64, c5_65, e5_67, w5_67, e5_69, w5_69, c5_70, e5_72, w5_72, c5_73, c5_74, e5_76, w5_76, c5_77, c5_78, c5_79, c5_80, c5_81, c5_82, e5_84, w5_84, c5_85, c5_86, c5_87, c5_88, c5_89, c5_90, c5_91, c5_92]
    · simp -implicitDefEqProofs (disch := omega) only [go_sem, Nat.reduceAdd, Nat.reduceMul, Nat.reduceSub, Nat.reduceBEq, Nat.reduceLeDiff, Nat.reduceLT, fn_transitlaw32_InboxActive, e5_1, w5_1, e5_3, w5_3, e5_5, w5_5, c5_6, e5_8, w5_8, e5_10, w5_10, e5_12, w5_12, c5_13, e5_15, w5_15, e5_17, w5_17, e5_19, w5_19, c5_20, e5_22, w5_22, e5_24, w5_24, c5_25, e5_27, w5_27, e5_29, w5_29, e5_31, w5_31, c5_32, e5_34, w5_34, e5_36, w5_36, c5_37, e5_39, w5_39, c5_40, c5_41, e5_43, w5_43, c5_44, c5_45, c5_46, c5_47, c5_48, c5_49, c5_50, c5_51, c5_52, e5_54, w5_54, c5_55, c5_56, c5_57, c5_58, c5_59, c5_60, e5_62, w5_62, e5_64, w5_64, c5_65, e5_67, w5_67, e5_69, w5_69, c5_70, e5_72, w5_72, c5_73, c5_74, e5_76, w5_76, c5_77, c5_78, c5_79, c5_80, c5_81, c5_82, e5_84, w5_84, c5_85, c5_86, c5_87, c5_88, c5_89, c5_90, c5_91, c5_92]
      first | refine callD (example32_ok) ?_ | refine callQD (example32_ok) ?_
      simp -implicitDefEqProofs (disch := omega) only [go_sem, Nat.reduceAdd, Nat.reduceMul, Nat.reduceSub, Nat.reduceBEq, Nat.reduceLeDiff, Nat.reduceLT, fn_transitlaw32_InboxActive, e5_1, w5_1, e5_3, w5_3, e5_5, w5_5, c5_6, e5_8, w5_8, e5_10, w5_10, e5_12, w5_12, c5_13, e5_15, w5_15, e5_17, w5_17, e5_19, w5_19, c5_20, e5_22, w5_22, e5_24, w5_24, c5_25, e5_27, w5_27, e5_29, w5_29, e5_31, w5_31, c5_32, e5_34, w5_34, e5_36, w5_36, c5_37, e5_39, w5_39, c5_40, c5_41, e5_43, w5_43, c5_44, c5_45, c5_46, c5_47, c5_48, c5_49, c5_50, c5_51, c5_52, e5_54, w5_54, c5_55, c5_56, c5_57, c5_58, c5_59, c5_60, e5_62, w5_62, e5_64, w5_64, c5_65, e5_67, w5_67, e5_69, w5_69, c5_70, e5_72, w5_72, c5_73, c5_74, e5_76, w5_76, c5_77, c5_78, c5_79, c5_80, c5_81, c5_82, e5_84, w5_84, c5_85, c5_86, c5_87, c5_88, c5_89, c5_90, c5_91, c5_92]
  obtain ⟨rfl, _, hI⟩ := hg h0
  simp -implicitDefEqProofs (disch := omega) only [go_sem, Nat.reduceAdd, Nat.reduceMul, Nat.reduceSub, Nat.reduceBEq, Nat.reduceLeDiff, Nat.reduceLT, fn_transitlaw32_InboxActive, e5_1, w5_1, e5_3, w5_3, e5_5, w5_5, c5_6, e5_8, w5_8, e5_10, w5_10, e5_12, w5_12, c5_13, e5_15, w5_15, e5_17, w5_17, e5_19, w5_19, c5_20, e5_22, w5_22, e5_24, w5_24, c5_25, e5_27, w5_27, e5_29, w5_29, e5_31, w5_31, c5_32, e5_34, w5_34, e5_36, w5_36, c5_37, e5_39, w5_39, c5_40, c5_41, e5_43, w5_43, c5_44, c5_45, c5_46, c5_47, c5_48, c5_49, c5_50, c5_51, c5_52, e5_54, w5_54, c5_55, c5_56, c5_57, c5_58, c5_59, c5_60, e5_62, w5_62, e5_64, w5_64, c5_65, e5_67, w5_67, e5_69, w5_69, c5_70, e5_72, w5_72, c5_73, c5_74, e5_76, w5_76, c5_77, c5_78, c5_79, c5_80, c5_81, c5_82, e5_84, w5_84, c5_85, c5_86, c5_87, c5_88, c5_89, c5_90, c5_91, c5_92]
  first | refine callD (hsh) ?_ | refine callQD (hsh) ?_
  simp -implicitDefEqProofs (disch := omega) only [go_sem, Nat.reduceAdd, Nat.reduceMul, Nat.reduceSub, Nat.reduceBEq, Nat.reduceLeDiff, Nat.reduceLT, fn_transitlaw32_InboxActive, e5_1, w5_1, e5_3, w5_3, e5_5, w5_5, c5_6, e5_8, w5_8, e5_10, w5_10, e5_12, w5_12, c5_13, e5_15, w5_15, e5_17, w5_17, e5_19, w5_19, c5_20, e5_22, w5_22, e5_24, w5_24, c5_25, e5_27, w5_27, e5_29, w5_29, e5_31, w5_31, c5_32, e5_34, w5_34, e5_36, w5_36, c5_37, e5_39, w5_39, c5_40, c5_41, e5_43, w5_43, c5_44, c5_45, c5_46, c5_47, c5_48, c5_49, c5_50, c5_51, c5_52, e5_54, w5_54, c5_55, c5_56, c5_57, c5_58, c5_59, c5_60, e5_62, w5_62, e5_64, w5_64, c5_65, e5_67, w5_67, e5_69, w5_69, c5_70, e5_72, w5_72, c5_73, c5_74, e5_76, w5_76, c5_77, c5_78, c5_79, c5_80, c5_81, c5_82, e5_84, w5_84, c5_85, c5_86, c5_87, c5_88, c5_89, c5_90, c5_91, c5_92]
  refine ifB (fun h1 => ?_) (fun h1 => ?_)
  rotate_left
  · simp -implicitDefEqProofs (disch := omega) only [go_sem, Nat.reduceAdd, Nat.reduceMul, Nat.reduceSub, Nat.reduceBEq, Nat.reduceLeDiff, Nat.reduceLT, fn_transitlaw32_InboxActive, e5_1, w5_1, e5_3, w5_3, e5_5, w5_5, c5_6, e5_8, w5_8, e5_10, w5_10, e5_12, w5_12, c5_13, e5_15, w5_15, e5_17, w5_17, e5_19, w5_19, c5_20, e5_22, w5_22, e5_24, w5_24, c5_25, e5_27, w5_27, e5_29, w5_29, e5_31, w5_31, c5_32, e5_34, w5_34, e5_36, w5_36, c5_37, e5_39, w5_39, c5_40, c5_41, e5_43, w5_43, c5_44, c5_45, c5_46, c5_47, c5_48, c5_49, c5_50, c5_51, c5_52, e5_54, w5_54, c5_55, c5_56, c5_57, c5_58, c5_59, c5_60, e5_62, w5_62, e5_64, w5_64, c5_65, e5_67, w5_67, e5_69, w5_69, c5_70, e5_72, w5_72, c5_73, c5_74, e5_76, w5_76, c5_77, c5_78, c5_79, c5_80, c5_81, c5_82, e5_84, w5_84, c5_85, c5_86, c5_87, c5_88, c5_89, c5_90, c5_91, c5_92]
    first | refine callD (example32_ok) ?_ | refine callQD (example32_ok) ?_
    simp -implicitDefEqProofs (disch := omega) only [go_sem, Nat.reduceAdd, Nat.reduceMul, Nat.reduceSub, Nat.reduceBEq, Nat.reduceLeDiff, Nat.reduceLT, fn_transitlaw32_InboxActive, e5_1, w5_1, e5_3, w5_3, e5_5, w5_5, c5_6, e5_8, w5_8, e5_10, w5_10, e5_12, w5_12, c5_13, e5_15, w5_15, e5_17, w5_17, e5_19, w5_19, c5_20, e5_22, w5_22, e5_24, w5_24, c5_25, e5_27, w5_27, e5_29, w5_29, e5_31, w5_31, c5_32, e5_34, w5_34, e5_36, w5_36, c5_37, e5_39, w5_39, c5_40, c5_41, e5_43, w5_43, c5_44, c5_45, c5_46, c5_47, c5_48, c5_49, c5_50, c5_51, c5_52, e5_54, w5_54, c5_55, c5_56, c5_57, c5_58, c5_59, c5_60, e5_62, w5_62, e5_64, w5_64, c5_65, e5_67, w5_67, e5_69, w5_69, c5_70, e5_72, w5_72, c5_73, c5_74, e5_76, w5_76, c5_77, c5_78, c5_79, c5_80, c5_81, c5_82, e5_84, w5_84, c5_85, c5_86, c5_87, c5_88, c5_89, c5_90, c5_91, c5_92]
  simp only [shortB, Bool.and_eq_true, decide_eq_true_eq] at h1
  have ht : l.take 40 = l := List.take_of_length_le h1.1
  rw [ht] at hI
  have hok : (runI (startI 3 pat) l).Ok := runI_ok hl (startI_ok (n := 3) h0)
  have hsup := Sup.run l (Sup.start 3 pat)
  rw [Nat.zero_add] at hsup
  generalize runI (startI 3 pat) l = b at *
  have hlen2 := hsup.len
  have hkept := hok.kept
  have hown := hI.own
  have hlt := hI.lt
  simp only [List.length_nil, Nat.zero_add] at hI hlt
  simp -implicitDefEqProofs (disch := omega) only [go_sem, Nat.reduceAdd, Nat.reduceMul, Nat.reduceSub, Nat.reduceBEq, Nat.reduceLeDiff, Nat.reduceLT, fn_transitlaw32_InboxActive, e5_1, w5_1, e5_3, w5_3, e5_5, w5_5, c5_6, e5_8, w5_8, e5_10, w5_10, e5_12, w5_12, c5_13, e5_15, w5_15, e5_17, w5_17, e5_19, w5_19, c5_20, e5_22, w5_22, e5_24, w5_24, c5_25, e5_27, w5_27, e5_29, w5_29, e5_31, w5_31, c5_32, e5_34, w5_34, e5_36, w5_36, c5_37, e5_39, w5_39, c5_40, c5_41, e5_43, w5_43, c5_44, c5_45, c5_46, c5_47, c5_48, c5_49, c5_50, c5_51, c5_52, e5_54, w5_54, c5_55, c5_56, c5_57, c5_58, c5_59, c5_60, e5_62, w5_62, e5_64, w5_64, c5_65, e5_67, w5_67, e5_69, w5_69, c5_70, e5_72, w5_72, c5_73, c5_74, e5_76, w5_76, c5_77, c5_78, c5_79, c5_80, c5_81, c5_82, e5_84, w5_84, c5_85, c5_86, c5_87, c5_88, c5_89, c5_90, c5_91, c5_92, nil_ptr_eq]
  refine callA (Messages_ok hI hok) ?_
  rintro v N' ⟨rfl, rfl⟩
  simp -implicitDefEqProofs (disch := omega) only [go_sem, Nat.reduceAdd, Nat.reduceMul, Nat.reduceSub, Nat.reduceBEq, Nat.reduceLeDiff, Nat.reduceLT, fn_transitlaw32_InboxActive, e5_1, w5_1, e5_3, w5_3, e5_5, w5_5, c5_6, e5_8, w5_8, e5_10, w5_10, e5_12, w5_12, c5_13, e5_15, w5_15, e5_17, w5_17, e5_19, w5_19, c5_20, e5_22, w5_22, e5_24, w5_24, c5_25, e5_27, w5_27, e5_29, w5_29, e5_31, w5_31, c5_32, e5_34, w5_34, e5_36, w5_36, c5_37, e5_39, w5_39, c5_40, c5_41, e5_43, w5_43, c5_44, c5_45, c5_46, c5_47, c5_48, c5_49, c5_50, c5_51, c5_52, e5_54, w5_54, c5_55, c5_56, c5_57, c5_58, c5_59, c5_60, e5_62, w5_62, e5_64, w5_64, c5_65, e5_67, w5_67, e5_69, w5_69, c5_70, e5_72, w5_72, c5_73, c5_74, e5_76, w5_76, c5_77, c5_78, c5_79, c5_80, c5_81, c5_82, e5_84, w5_84, c5_85, c5_86, c5_87, c5_88, c5_89, c5_90, c5_91, c5_92]
  refine callA (Active_ok hI hok now hn) ?_
  rintro v N2 ⟨⟨cA, rfl⟩, rfl⟩
  -- what is known of the active messages
  have hcur : ∀ x, x ∈ keepM (curB b now) b.kept → ∃ y ∈ b.kept, curB b now y = true ∧ x = y.own := fun x hx => mem_keepM hx
  have hact : ∀ x, x ∈ activeL b now ↔ x ∈ keepM (curB b now) b.kept ∧ overB (keepM (curB b now) b.kept) x = false := fun x => mem_actL
  have hsrc0 : ∀ x ∈ keepM (curB b now) b.kept, 0 ≤ x.src ∧ x.src ≤ 7 := fun x hx => by
    obtain ⟨y, hy, _, rfl⟩ := hcur x hx
    exact checkM_src (hok.msg y hy).1
  have hcalls : ∀ x ∈ b.kept.map Msg.own, x.calls.length ≤ 1000 := fun x hx => by
    obtain ⟨y, hy, rfl⟩ := List.mem_map.1 hx
    have := (hok.msg y hy).2.1
    show y.calls.length ≤ 1000
    omega
  have hcallsA : ∀ x ∈ activeL b now, x.calls.length ≤ 1000 := fun x hx => by
    obtain ⟨y, hy, _, rfl⟩ := hcur x ((hact x).1 hx).1
    have := (hok.msg y hy).2.1
    show y.calls.length ≤ 1000
    omega
  have hlenA : (activeL b now).length ≤ b.kept.length := by
    have h2 := actUp_len (keepM (curB b now) b.kept) (keepM (curB b now) b.kept).length
    rw [actUp_all] at h2
    exact Nat.le_trans h2 (keepM_len _ _)
  have hact1 : ∀ x ∈ activeL b now, curB b now x = true ∧ ∃ y ∈ b.kept.map Msg.own, y.own = x.own := fun x hx => by
    obtain ⟨y, hy, h2, rfl⟩ := hcur x ((hact x).1 hx).1
    exact ⟨h2, y.own, List.mem_map.2 ⟨y, hy, rfl⟩, rfl⟩
  have hact2 : ∀ x ∈ activeL b now, ∀ y ∈ activeL b now, sameT x y = true → x.src = y.src := fun x hx y hy hs => by
    obtain ⟨x1, x2⟩ := (hact x).1 hx
    obtain ⟨y1, y2⟩ := (hact y).1 hy
    have no : ∀ u w, u ∈ keepM (curB b now) b.kept → overB (keepM (curB b now) b.kept) w = false → sameT u w = true → ¬ u.src < w.src := fun u w hu hw hs hlt => by
      have : overB (keepM (curB b now) b.kept) w = true := List.any_eq_true.2 ⟨u, hu, by simp [hlt, hs]⟩
      rw [hw] at this; cases this
    have h3 := no x y x1 y2 hs
    have h4 := no y x y1 x2 (by rw [sameT_iff] at hs ⊢; exact ⟨hs.1.symm, hs.2.1.symm, hs.2.2.symm⟩)
    omega
  have hact3 : ∀ y ∈ b.kept, curB b now y = true → (∃ x ∈ activeL b now, x.own = y.own.own) ∨ lowB (activeL b now) y.own = true := fun y hy h2 => by
    have hyc : y.own ∈ keepM (curB b now) b.kept := List.mem_map.2 ⟨y, List.mem_filter.2 ⟨hy, h2⟩, rfl⟩
    cases h3 : overB (keepM (curB b now) b.kept) y.own with
    | false => exact .inl ⟨y.own, (hact _).2 ⟨hyc, h3⟩, rfl⟩
    | true =>
      obtain ⟨o, ho, q1, q2, q3⟩ := low_ex (fun o ho => (hsrc0 o ho).1) 7 y.own (hsrc0 _ hyc).2 h3
      exact .inr (List.any_eq_true.2 ⟨o, (hact _).2 ⟨ho, q3⟩, by simp [q1, q2]⟩)
  clear hact hcur
  have hk1000 : (b.kept.map Msg.own).length ≤ 1000 := by simp; omega
  have hA1000 : (activeL b now).length ≤ 1000 := by omega
  generalize activeL b now = ac at *
  simp -implicitDefEqProofs (disch := omega) only [go_sem, Nat.reduceAdd, Nat.reduceMul, Nat.reduceSub, Nat.reduceBEq, Nat.reduceLeDiff, Nat.reduceLT, fn_transitlaw32_InboxActive, e5_1, w5_1, e5_3, w5_3, e5_5, w5_5, c5_6, e5_8, w5_8, e5_10, w5_10, e5_12, w5_12, c5_13, e5_15, w5_15, e5_17, w5_17, e5_19, w5_19, c5_20, e5_22, w5_22, e5_24, w5_24, c5_25, e5_27, w5_27, e5_29, w5_29, e5_31, w5_31, c5_32, e5_34, w5_34, e5_36, w5_36, c5_37, e5_39, w5_39, c5_40, c5_41, e5_43, w5_43, c5_44, c5_45, c5_46, c5_47, c5_48, c5_49, c5_50, c5_51, c5_52, e5_54, w5_54, c5_55, c5_56, c5_57, c5_58, c5_59, c5_60, e5_62, w5_62, e5_64, w5_64, c5_65, e5_67, w5_67, e5_69, w5_69, c5_70, e5_72, w5_72, c5_73, c5_74, e5_76, w5_76, c5_77, c5_78, c5_79, c5_80, c5_81, c5_82, e5_84, w5_84, c5_85, c5_86, c5_87, c5_88, c5_89, c5_90, c5_91, c5_92]
  refine ifD (fun h2 => ?_) (fun h2 => ?_)
  · omega
  simp -implicitDefEqProofs (disch := omega) only [go_sem, Nat.reduceAdd, Nat.reduceMul, Nat.reduceSub, Nat.reduceBEq, Nat.reduceLeDiff, Nat.reduceLT, fn_transitlaw32_InboxActive, e5_1, w5_1, e5_3, w5_3, e5_5, w5_5, c5_6, e5_8, w5_8, e5_10, w5_10, e5_12, w5_12, c5_13, e5_15, w5_15, e5_17, w5_17, e5_19, w5_19, c5_20, e5_22, w5_22, e5_24, w5_24, c5_25, e5_27, w5_27, e5_29, w5_29, e5_31, w5_31, c5_32, e5_34, w5_34, e5_36, w5_36, c5_37, e5_39, w5_39, c5_40, c5_41, e5_43, w5_43, c5_44, c5_45, c5_46, c5_47, c5_48, c5_49, c5_50, c5_51, c5_52, e5_54, w5_54, c5_55, c5_56, c5_57, c5_58, c5_59, c5_60, e5_62, w5_62, e5_64, w5_64, c5_65, e5_67, w5_67, e5_69, w5_69, c5_70, e5_72, w5_72, c5_73, c5_74, e5_76, w5_76, c5_77, c5_78, c5_79, c5_80, c5_81, c5_82, e5_84, w5_84, c5_85, c5_86, c5_87, c5_88, c5_89, c5_90, c5_91, c5_92]
  refine ifD (fun h3 => ?_) (fun h3 => ?_)
  · omega
  simp -implicitDefEqProofs (disch := omega) only [go_sem, Nat.reduceAdd, Nat.reduceMul, Nat.reduceSub, Nat.reduceBEq, Nat.reduceLeDiff, Nat.reduceLT, fn_transitlaw32_InboxActive, e5_1, w5_1, e5_3, w5_3, e5_5, w5_5, c5_6, e5_8, w5_8, e5_10, w5_10, e5_12, w5_12, c5_13, e5_15, w5_15, e5_17, w5_17, e5_19, w5_19, c5_20, e5_22, w5_22, e5_24, w5_24, c5_25, e5_27, w5_27, e5_29, w5_29, e5_31, w5_31, c5_32, e5_34, w5_34, e5_36, w5_36, c5_37, e5_39, w5_39, c5_40, c5_41, e5_43, w5_43, c5_44, c5_45, c5_46, c5_47, c5_48, c5_49, c5_50, c5_51, c5_52, e5_54, w5_54, c5_55, c5_56, c5_57, c5_58, c5_59, c5_60, e5_62, w5_62, e5_64, w5_64, c5_65, e5_67, w5_67, e5_69, w5_69, c5_70, e5_72, w5_72, c5_73, c5_74, e5_76, w5_76, c5_77, c5_78, c5_79, c5_80, c5_81, c5_82, e5_84, w5_84, c5_85, c5_86, c5_87, c5_88, c5_89, c5_90, c5_91, c5_92]
  have hp1 : ∀ (L : Mem) (vs : List V), underL N2.length vs = true → popOK N2.length vs (N2 ++ L) = true := fun L vs hvs => pop_own hown hvs
  refine wpC_forL ac (fun i vs M => vs = [.int .i64 now, .ptr 1 0, .slice ((b.kept.map Msg.own).map Msg.row) .unk, .slice (ac.map Msg.row) cA, .slice (ac.map Msg.row) cA, .int .i64 ac.length, .int .i64 i] ∧ M = N2) ⟨rfl, rfl⟩ ?_ ?_
  · rintro i x vs M hx hi hd ⟨rfl, rfl⟩
    have hxm := List.mem_of_getElem? hx
    obtain ⟨hcx, hhas⟩ := hact1 x hxm
    simp only [curB, Bool.and_eq_true, decide_eq_true_eq, Bool.not_eq_true'] at hcx
    have hI1 := hI.app [.box x.row] rfl
    have hf := Failed_ok hI1 hok x.src now hn
    rw [hcx.2.2] at hf
    have hh := has_ok (b.kept.map Msg.own) .unk x hk1000 hcalls
    simp only [Msg.row] at hf hh
    simp -implicitDefEqProofs (disch := omega) only [go_sem, Nat.reduceAdd, Nat.reduceMul, Nat.reduceSub, Nat.reduceBEq, Nat.reduceLeDiff, Nat.reduceLT, fn_transitlaw32_InboxActive, e5_1, w5_1, e5_3, w5_3, e5_5, w5_5, c5_6, e5_8, w5_8, e5_10, w5_10, e5_12, w5_12, c5_13, e5_15, w5_15, e5_17, w5_17, e5_19, w5_19, c5_20, e5_22, w5_22, e5_24, w5_24, c5_25, e5_27, w5_27, e5_29, w5_29, e5_31, w5_31, c5_32, e5_34, w5_34, e5_36, w5_36, c5_37, e5_39, w5_39, c5_40, c5_41, e5_43, w5_43, c5_44, c5_45, c5_46, c5_47, c5_48, c5_49, c5_50, c5_51, c5_52, e5_54, w5_54, c5_55, c5_56, c5_57, c5_58, c5_59, c5_60, e5_62, w5_62, e5_64, w5_64, c5_65, e5_67, w5_67, e5_69, w5_69, c5_70, e5_72, w5_72, c5_73, c5_74, e5_76, w5_76, c5_77, c5_78, c5_79, c5_80, c5_81, c5_82, e5_84, w5_84, c5_85, c5_86, c5_87, c5_88, c5_89, c5_90, c5_91, c5_92, hd, msg_at hx, get_at0, mset]
    refine ifD (fun g1 => ?_) (fun g1 => ?_)
    · omega
    simp -implicitDefEqProofs (disch := omega) only [go_sem, Nat.reduceAdd, Nat.reduceMul, Nat.reduceSub, Nat.reduceBEq, Nat.reduceLeDiff, Nat.reduceLT, fn_transitlaw32_InboxActive, e5_1, w5_1, e5_3, w5_3, e5_5, w5_5, c5_6, e5_8, w5_8, e5_10, w5_10, e5_12, w5_12, c5_13, e5_15, w5_15, e5_17, w5_17, e5_19, w5_19, c5_20, e5_22, w5_22, e5_24, w5_24, c5_25, e5_27, w5_27, e5_29, w5_29, e5_31, w5_31, c5_32, e5_34, w5_34, e5_36, w5_36, c5_37, e5_39, w5_39, c5_40, c5_41, e5_43, w5_43, c5_44, c5_45, c5_46, c5_47, c5_48, c5_49, c5_50, c5_51, c5_52, e5_54, w5_54, c5_55, c5_56, c5_57, c5_58, c5_59, c5_60, e5_62, w5_62, e5_64, w5_64, c5_65, e5_67, w5_67, e5_69, w5_69, c5_70, e5_72, w5_72, c5_73, c5_74, e5_76, w5_76, c5_77, c5_78, c5_79, c5_80, c5_81, c5_82, e5_84, w5_84, c5_85, c5_86, c5_87, c5_88, c5_89, c5_90, c5_91, c5_92, get_at0]
    refine ifD (fun g2 => ?_) (fun g2 => ?_)
    · omega
    simp -implicitDefEqProofs (disch := omega) only [go_sem, Nat.reduceAdd, Nat.reduceMul, Nat.reduceSub, Nat.reduceBEq, Nat.reduceLeDiff, Nat.reduceLT, fn_transitlaw32_InboxActive, e5_1, w5_1, e5_3, w5_3, e5_5, w5_5, c5_6, e5_8, w5_8, e5_10, w5_10, e5_12, w5_12, c5_13, e5_15, w5_15, e5_17, w5_17, e5_19, w5_19, c5_20, e5_22, w5_22, e5_24, w5_24, c5_25, e5_27, w5_27, e5_29, w5_29, e5_31, w5_31, c5_32, e5_34, w5_34, e5_36, w5_36, c5_37, e5_39, w5_39, c5_40, c5_41, e5_43, w5_43, c5_44, c5_45, c5_46, c5_47, c5_48, c5_49, c5_50, c5_51, c5_52, e5_54, w5_54, c5_55, c5_56, c5_57, c5_58, c5_59, c5_60, e5_62, w5_62, e5_64, w5_64, c5_65, e5_67, w5_67, e5_69, w5_69, c5_70, e5_72, w5_72, c5_73, c5_74, e5_76, w5_76, c5_77, c5_78, c5_79, c5_80, c5_81, c5_82, e5_84, w5_84, c5_85, c5_86, c5_87, c5_88, c5_89, c5_90, c5_91, c5_92, get_at0]
    refine callA hf ?_
    rintro v N3 ⟨rfl, rfl⟩
    simp -implicitDefEqProofs (disch := omega) only [go_sem, Nat.reduceAdd, Nat.reduceMul, Nat.reduceSub, Nat.reduceBEq, Nat.reduceLeDiff, Nat.reduceLT, fn_transitlaw32_InboxActive, e5_1, w5_1, e5_3, w5_3, e5_5, w5_5, c5_6, e5_8, w5_8, e5_10, w5_10, e5_12, w5_12, c5_13, e5_15, w5_15, e5_17, w5_17, e5_19, w5_19, c5_20, e5_22, w5_22, e5_24, w5_24, c5_25, e5_27, w5_27, e5_29, w5_29, e5_31, w5_31, c5_32, e5_34, w5_34, e5_36, w5_36, c5_37, e5_39, w5_39, c5_40, c5_41, e5_43, w5_43, c5_44, c5_45, c5_46, c5_47, c5_48, c5_49, c5_50, c5_51, c5_52, e5_54, w5_54, c5_55, c5_56, c5_57, c5_58, c5_59, c5_60, e5_62, w5_62, e5_64, w5_64, c5_65, e5_67, w5_67, e5_69, w5_69, c5_70, e5_72, w5_72, c5_73, c5_74, e5_76, w5_76, c5_77, c5_78, c5_79, c5_80, c5_81, c5_82, e5_84, w5_84, c5_85, c5_86, c5_87, c5_88, c5_89, c5_90, c5_91, c5_92, get_at0]
    refine callP hh ?_
    rintro v ⟨r, rfl, hr⟩
    have hr' : r = true := hr.2 hhas
    subst hr'
    simp -implicitDefEqProofs (disch := omega) only [go_sem, Nat.reduceAdd, Nat.reduceMul, Nat.reduceSub, Nat.reduceBEq, Nat.reduceLeDiff, Nat.reduceLT, fn_transitlaw32_InboxActive, e5_1, w5_1, e5_3, w5_3, e5_5, w5_5, c5_6, e5_8, w5_8, e5_10, w5_10, e5_12, w5_12, c5_13, e5_15, w5_15, e5_17, w5_17, e5_19, w5_19, c5_20, e5_22, w5_22, e5_24, w5_24, c5_25, e5_27, w5_27, e5_29, w5_29, e5_31, w5_31, c5_32, e5_34, w5_34, e5_36, w5_36, c5_37, e5_39, w5_39, c5_40, c5_41, e5_43, w5_43, c5_44, c5_45, c5_46, c5_47, c5_48, c5_49, c5_50, c5_51, c5_52, e5_54, w5_54, c5_55, c5_56, c5_57, c5_58, c5_59, c5_60, e5_62, w5_62, e5_64, w5_64, c5_65, e5_67, w5_67, e5_69, w5_69, c5_70, e5_72, w5_72, c5_73, c5_74, e5_76, w5_76, c5_77, c5_78, c5_79, c5_80, c5_81, c5_82, e5_84, w5_84, c5_85, c5_86, c5_87, c5_88, c5_89, c5_90, c5_91, c5_92]
    have hI1' : memUnder (M.length + 1) (M ++ [Blk.box x.row]) = true := by
      have := hI1.own
      rwa [show (M ++ [Blk.box x.row]).length = M.length + 1 from by simp] at this
    refine wpC_forL ac (fun j vs M1 => vs = [.int .i64 now, .ptr 1 0, .slice ((b.kept.map Msg.own).map Msg.row) .unk, .slice (ac.map Msg.row) cA, .ptr M.length 0, .slice (ac.map Msg.row) cA, .int .i64 ac.length, .int .i64 i, .slice (ac.map Msg.row) cA, .int .i64 ac.length, .int .i64 j] ∧ M1 = M ++ [.box x.row]) ⟨rfl, rfl⟩ ?_ ?_
    rotate_left
    · rintro vs M1 ⟨rfl, rfl⟩
      simp -implicitDefEqProofs (disch := omega) only [go_sem, Nat.reduceAdd, Nat.reduceMul, Nat.reduceSub, Nat.reduceBEq, Nat.reduceLeDiff, Nat.reduceLT, fn_transitlaw32_InboxActive, e5_1, w5_1, e5_3, w5_3, e5_5, w5_5, c5_6, e5_8, w5_8, e5_10, w5_10, e5_12, w5_12, c5_13, e5_15, w5_15, e5_17, w5_17, e5_19, w5_19, c5_20, e5_22, w5_22, e5_24, w5_24, c5_25, e5_27, w5_27, e5_29, w5_29, e5_31, w5_31, c5_32, e5_34, w5_34, e5_36, w5_36, c5_37, e5_39, w5_39, c5_40, c5_41, e5_43, w5_43, c5_44, c5_45, c5_46, c5_47, c5_48, c5_49, c5_50, c5_51, c5_52, e5_54, w5_54, c5_55, c5_56, c5_57, c5_58, c5_59, c5_60, e5_62, w5_62, e5_64, w5_64, c5_65, e5_67, w5_67, e5_69, w5_69, c5_70, e5_72, w5_72, c5_73, c5_74, e5_76, w5_76, c5_77, c5_78, c5_79, c5_80, c5_81, c5_82, e5_84, w5_84, c5_85, c5_86, c5_87, c5_88, c5_89, c5_90, c5_91, c5_92, dec_irrefl]
      refine next_pop hi (hp1 _ _ ?_) ⟨rfl, List.take_left⟩
      simp [vals, sget, underL, V.under, hlt.1]
    rintro j y vs M1 hy hj hdj ⟨rfl, rfl⟩
    have hst := transitref31_SameTarget_ok x y
    have hym := List.mem_of_getElem? hy
    have hp2 : ∀ (B : Blk) (n : Int), popOK (M.length + 1) (vals [(2, V.int .i64 now), (7, V.ptr 1 0), (8, V.slice ((b.kept.map Msg.own).map Msg.row) .unk), (9, V.slice (ac.map Msg.row) cA), (11, V.ptr M.length 0), (48, V.slice (ac.map Msg.row) cA), (49, V.int .i64 ac.length), (50, V.int .i64 i), (77, V.slice (ac.map Msg.row) cA), (78, V.int .i64 ac.length), (79, V.int .i64 n)] [2, 7, 8, 9, 11, 48, 49, 50, 77, 78, 79]) (M ++ [.box x.row, B]) = true := fun B n => by
      refine popOK_of (by simp) ?_ (by rw [take2]; exact hI1')
      have : decide (1 < M.length + 1) = true := decide_eq_true (by omega)
      simp [vals, sget, underL, V.under]
      omega
    simp only [Msg.row] at hst hp2
    simp -implicitDefEqProofs (disch := omega) only [go_sem, Nat.reduceAdd, Nat.reduceMul, Nat.reduceSub, Nat.reduceBEq, Nat.reduceLeDiff, Nat.reduceLT, fn_transitlaw32_InboxActive, e5_1, w5_1, e5_3, w5_3, e5_5, w5_5, c5_6, e5_8, w5_8, e5_10, w5_10, e5_12, w5_12, c5_13, e5_15, w5_15, e5_17, w5_17, e5_19, w5_19, c5_20, e5_22, w5_22, e5_24, w5_24, c5_25, e5_27, w5_27, e5_29, w5_29, e5_31, w5_31, c5_32, e5_34, w5_34, e5_36, w5_36, c5_37, e5_39, w5_39, c5_40, c5_41, e5_43, w5_43, c5_44, c5_45, c5_46, c5_47, c5_48, c5_49, c5_50, c5_51, c5_52, e5_54, w5_54, c5_55, c5_56, c5_57, c5_58, c5_59, c5_60, e5_62, w5_62, e5_64, w5_64, c5_65, e5_67, w5_67, e5_69, w5_69, c5_70, e5_72, w5_72, c5_73, c5_74, e5_76, w5_76, c5_77, c5_78, c5_79, c5_80, c5_81, c5_82, e5_84, w5_84, c5_85, c5_86, c5_87, c5_88, c5_89, c5_90, c5_91, c5_92, hdj, msg_at hy, List.append_assoc, get_at0, get_at, set_at, Msg.row]
    first | refine callD (hst) ?_ | refine callQD (hst) ?_
    simp -implicitDefEqProofs (disch := omega) only [go_sem, Nat.reduceAdd, Nat.reduceMul, Nat.reduceSub, Nat.reduceBEq, Nat.reduceLeDiff, Nat.reduceLT, fn_transitlaw32_InboxActive, e5_1, w5_1, e5_3, w5_3, e5_5, w5_5, c5_6, e5_8, w5_8, e5_10, w5_10, e5_12, w5_12, c5_13, e5_15, w5_15, e5_17, w5_17, e5_19, w5_19, c5_20, e5_22, w5_22, e5_24, w5_24, c5_25, e5_27, w5_27, e5_29, w5_29, e5_31, w5_31, c5_32, e5_34, w5_34, e5_36, w5_36, c5_37, e5_39, w5_39, c5_40, c5_41, e5_43, w5_43, c5_44, c5_45, c5_46, c5_47, c5_48, c5_49, c5_50, c5_51, c5_52, e5_54, w5_54, c5_55, c5_56, c5_57, c5_58, c5_59, c5_60, e5_62, w5_62, e5_64, w5_64, c5_65, e5_67, w5_67, e5_69, w5_69, c5_70, e5_72, w5_72, c5_73, c5_74, e5_76, w5_76, c5_77, c5_78, c5_79, c5_80, c5_81, c5_82, e5_84, w5_84, c5_85, c5_86, c5_87, c5_88, c5_89, c5_90, c5_91, c5_92]
    refine ifB (fun g3 => ?_) (fun g3 => ?_)
    · simp -implicitDefEqProofs (disch := omega) only [go_sem, Nat.reduceAdd, Nat.reduceMul, Nat.reduceSub, Nat.reduceBEq, Nat.reduceLeDiff, Nat.reduceLT, fn_transitlaw32_InboxActive, e5_1, w5_1, e5_3, w5_3, e5_5, w5_5, c5_6, e5_8, w5_8, e5_10, w5_10, e5_12, w5_12, c5_13, e5_15, w5_15, e5_17, w5_17, e5_19, w5_19, c5_20, e5_22, w5_22, e5_24, w5_24, c5_25, e5_27, w5_27, e5_29, w5_29, e5_31, w5_31, c5_32, e5_34, w5_34, e5_36, w5_36, c5_37, e5_39, w5_39, c5_40, c5_41, e5_43, w5_43, c5_44, c5_45, c5_46, c5_47, c5_48, c5_49, c5_50, c5_51, c5_52, e5_54, w5_54, c5_55, c5_56, c5_57, c5_58, c5_59, c5_60, e5_62, w5_62, e5_64, w5_64, c5_65, e5_67, w5_67, e5_69, w5_69, c5_70, e5_72, w5_72, c5_73, c5_74, e5_76, w5_76, c5_77, c5_78, c5_79, c5_80, c5_81, c5_82, e5_84, w5_84, c5_85, c5_86, c5_87, c5_88, c5_89, c5_90, c5_91, c5_92, get_at0, get_at]
      refine ifD (fun g4 => ?_) (fun g4 => ?_)
      · simp -implicitDefEqProofs (disch := omega) only [go_sem, Nat.reduceAdd, Nat.reduceMul, Nat.reduceSub, Nat.reduceBEq, Nat.reduceLeDiff, Nat.reduceLT, fn_transitlaw32_InboxActive, e5_1, w5_1, e5_3, w5_3, e5_5, w5_5, c5_6, e5_8, w5_8, e5_10, w5_10, e5_12, w5_12, c5_13, e5_15, w5_15, e5_17, w5_17, e5_19, w5_19, c5_20, e5_22, w5_22, e5_24, w5_24, c5_25, e5_27, w5_27, e5_29, w5_29, e5_31, w5_31, c5_32, e5_34, w5_34, e5_36, w5_36, c5_37, e5_39, w5_39, c5_40, c5_41, e5_43, w5_43, c5_44, c5_45, c5_46, c5_47, c5_48, c5_49, c5_50, c5_51, c5_52, e5_54, w5_54, c5_55, c5_56, c5_57, c5_58, c5_59, c5_60, e5_62, w5_62, e5_64, w5_64, c5_65, e5_67, w5_67, e5_69, w5_69, c5_70, e5_72, w5_72, c5_73, c5_74, e5_76, w5_76, c5_77, c5_78, c5_79, c5_80, c5_81, c5_82, e5_84, w5_84, c5_85, c5_86, c5_87, c5_88, c5_89, c5_90, c5_91, c5_92]
        exact next_pop hj (hp2 _ _) ⟨rfl, take2 _ _ _⟩
      · exact absurd (hact2 x hxm y hym g3) g4
    · simp -implicitDefEqProofs (disch := omega) only [go_sem, Nat.reduceAdd, Nat.reduceMul, Nat.reduceSub, Nat.reduceBEq, Nat.reduceLeDiff, Nat.reduceLT, fn_transitlaw32_InboxActive, e5_1, w5_1, e5_3, w5_3, e5_5, w5_5, c5_6, e5_8, w5_8, e5_10, w5_10, e5_12, w5_12, c5_13, e5_15, w5_15, e5_17, w5_17, e5_19, w5_19, c5_20, e5_22, w5_22, e5_24, w5_24, c5_25, e5_27, w5_27, e5_29, w5_29, e5_31, w5_31, c5_32, e5_34, w5_34, e5_36, w5_36, c5_37, e5_39, w5_39, c5_40, c5_41, e5_43, w5_43, c5_44, c5_45, c5_46, c5_47, c5_48, c5_49, c5_50, c5_51, c5_52, e5_54, w5_54, c5_55, c5_56, c5_57, c5_58, c5_59, c5_60, e5_62, w5_62, e5_64, w5_64, c5_65, e5_67, w5_67, e5_69, w5_69, c5_70, e5_72, w5_72, c5_73, c5_74, e5_76, w5_76, c5_77, c5_78, c5_79, c5_80, c5_81, c5_82, e5_84, w5_84, c5_85, c5_86, c5_87, c5_88, c5_89, c5_90, c5_91, c5_92]
      exact next_pop hj (hp2 _ _) ⟨rfl, take2 _ _ _⟩
  rintro vs M ⟨rfl, rfl⟩
  simp -implicitDefEqProofs (disch := omega) only [go_sem, Nat.reduceAdd, Nat.reduceMul, Nat.reduceSub, Nat.reduceBEq, Nat.reduceLeDiff, Nat.reduceLT, fn_transitlaw32_InboxActive, e5_1, w5_1, e5_3, w5_3, e5_5, w5_5, c5_6, e5_8, w5_8, e5_10, w5_10, e5_12, w5_12, c5_13, e5_15, w5_15, e5_17, w5_17, e5_19, w5_19, c5_20, e5_22, w5_22, e5_24, w5_24, c5_25, e5_27, w5_27, e5_29, w5_29, e5_31, w5_31, c5_32, e5_34, w5_34, e5_36, w5_36, c5_37, e5_39, w5_39, c5_40, c5_41, e5_43, w5_43, c5_44, c5_45, c5_46, c5_47, c5_48, c5_49, c5_50, c5_51, c5_52, e5_54, w5_54, c5_55, c5_56, c5_57, c5_58, c5_59, c5_60, e5_62, w5_62, e5_64, w5_64, c5_65, e5_67, w5_67, e5_69, w5_69, c5_70, e5_72, w5_72, c5_73, c5_74, e5_76, w5_76, c5_77, c5_78, c5_79, c5_80, c5_81, c5_82, e5_84, w5_84, c5_85, c5_86, c5_87, c5_88, c5_89, c5_90, c5_91, c5_92, dec_irrefl]
  refine wpC_forL b.kept (fun i vs M1 => vs = [.int .i64 now, .ptr 1 0, .slice (ac.map Msg.row) cA, .slice ((b.kept.map Msg.own).map Msg.row) .unk, .int .i64 b.kept.length, .int .i64 i] ∧ M1 = M) ⟨rfl, rfl⟩ ?_ ?_
  rotate_left
  · rintro vs M1 ⟨rfl, rfl⟩
    simp -implicitDefEqProofs (disch := omega) only [go_sem, Nat.reduceAdd, Nat.reduceMul, Nat.reduceSub, Nat.reduceBEq, Nat.reduceLeDiff, Nat.reduceLT, fn_transitlaw32_InboxActive, e5_1, w5_1, e5_3, w5_3, e5_5, w5_5, c5_6, e5_8, w5_8, e5_10, w5_10, e5_12, w5_12, c5_13, e5_15, w5_15, e5_17, w5_17, e5_19, w5_19, c5_20, e5_22, w5_22, e5_24, w5_24, c5_25, e5_27, w5_27, e5_29, w5_29, e5_31, w5_31, c5_32, e5_34, w5_34, e5_36, w5_36, c5_37, e5_39, w5_39, c5_40, c5_41, e5_43, w5_43, c5_44, c5_45, c5_46, c5_47, c5_48, c5_49, c5_50, c5_51, c5_52, e5_54, w5_54, c5_55, c5_56, c5_57, c5_58, c5_59, c5_60, e5_62, w5_62, e5_64, w5_64, c5_65, e5_67, w5_67, e5_69, w5_69, c5_70, e5_72, w5_72, c5_73, c5_74, e5_76, w5_76, c5_77, c5_78, c5_79, c5_80, c5_81, c5_82, e5_84, w5_84, c5_85, c5_86, c5_87, c5_88, c5_89, c5_90, c5_91, c5_92, dec_irrefl]
    first | refine callD (example32_ok) ?_ | refine callQD (example32_ok) ?_
    simp -implicitDefEqProofs (disch := omega) only [go_sem, Nat.reduceAdd, Nat.reduceMul, Nat.reduceSub, Nat.reduceBEq, Nat.reduceLeDiff, Nat.reduceLT, fn_transitlaw32_InboxActive, e5_1, w5_1, e5_3, w5_3, e5_5, w5_5, c5_6, e5_8, w5_8, e5_10, w5_10, e5_12, w5_12, c5_13, e5_15, w5_15, e5_17, w5_17, e5_19, w5_19, c5_20, e5_22, w5_22, e5_24, w5_24, c5_25, e5_27, w5_27, e5_29, w5_29, e5_31, w5_31, c5_32, e5_34, w5_34, e5_36, w5_36, c5_37, e5_39, w5_39, c5_40, c5_41, e5_43, w5_43, c5_44, c5_45, c5_46, c5_47, c5_48, c5_49, c5_50, c5_51, c5_52, e5_54, w5_54, c5_55, c5_56, c5_57, c5_58, c5_59, c5_60, e5_62, w5_62, e5_64, w5_64, c5_65, e5_67, w5_67, e5_69, w5_69, c5_70, e5_72, w5_72, c5_73, c5_74, e5_76, w5_76, c5_77, c5_78, c5_79, c5_80, c5_81, c5_82, e5_84, w5_84, c5_85, c5_86, c5_87, c5_88, c5_89, c5_90, c5_91, c5_92]
  rintro i y vs M1 hy hi hd ⟨rfl, rfl⟩
  have hgy : ((b.kept.map Msg.own).map Msg.row)[i]? = some y.own.row := by simp [hy]
  rw [own_row] at hgy
  have hI1 := hI.app [.box y.own.row] rfl
  have hf := Failed_ok hI1 hok y.src now hn
  have hh := has_ok ac cA y.own hA1000 hcallsA
  have hlw := lower_ok ac cA y.own hA1000
  have h3' := hact3 y (List.mem_of_getElem? hy)
  simp only [own_row] at hf hh hlw
  have done : ∀ (L : Mem) (n : Int), popOK M1.length (vals [(2, V.int .i64 now), (7, V.ptr 1 0), (9, V.slice (ac.map Msg.row) cA), (95, V.slice ((b.kept.map Msg.own).map Msg.row) .unk), (96, V.int .i64 b.kept.length), (97, V.int .i64 n)] [2, 7, 9, 95, 96, 97]) (M1 ++ L) = true := fun L n => by
    refine hp1 _ _ ?_
    simp [vals, sget, underL, V.under, hlt.1]
  simp -implicitDefEqProofs (disch := omega) only [go_sem, Nat.reduceAdd, Nat.reduceMul, Nat.reduceSub, Nat.reduceBEq, Nat.reduceLeDiff, Nat.reduceLT, fn_transitlaw32_InboxActive, e5_1, w5_1, e5_3, w5_3, e5_5, w5_5, c5_6, e5_8, w5_8, e5_10, w5_10, e5_12, w5_12, c5_13, e5_15, w5_15, e5_17, w5_17, e5_19, w5_19, c5_20, e5_22, w5_22, e5_24, w5_24, c5_25, e5_27, w5_27, e5_29, w5_29, e5_31, w5_31, c5_32, e5_34, w5_34, e5_36, w5_36, c5_37, e5_39, w5_39, c5_40, c5_41, e5_43, w5_43, c5_44, c5_45, c5_46, c5_47, c5_48, c5_49, c5_50, c5_51, c5_52, e5_54, w5_54, c5_55, c5_56, c5_57, c5_58, c5_59, c5_60, e5_62, w5_62, e5_64, w5_64, c5_65, e5_67, w5_67, e5_69, w5_69, c5_70, e5_72, w5_72, c5_73, c5_74, e5_76, w5_76, c5_77, c5_78, c5_79, c5_80, c5_81, c5_82, e5_84, w5_84, c5_85, c5_86, c5_87, c5_88, c5_89, c5_90, c5_91, c5_92, hd, hgy, get_at0, mset]
  refine ifD (fun g1 => ?_) (fun g1 => ?_)
  rotate_left
  · simp -implicitDefEqProofs (disch := omega) only [go_sem, Nat.reduceAdd, Nat.reduceMul, Nat.reduceSub, Nat.reduceBEq, Nat.reduceLeDiff, Nat.reduceLT, fn_transitlaw32_InboxActive, e5_1, w5_1, e5_3, w5_3, e5_5, w5_5, c5_6, e5_8, w5_8, e5_10, w5_10, e5_12, w5_12, c5_13, e5_15, w5_15, e5_17, w5_17, e5_19, w5_19, c5_20, e5_22, w5_22, e5_24, w5_24, c5_25, e5_27, w5_27, e5_29, w5_29, e5_31, w5_31, c5_32, e5_34, w5_34, e5_36, w5_36, c5_37, e5_39, w5_39, c5_40, c5_41, e5_43, w5_43, c5_44, c5_45, c5_46, c5_47, c5_48, c5_49, c5_50, c5_51, c5_52, e5_54, w5_54, c5_55, c5_56, c5_57, c5_58, c5_59, c5_60, e5_62, w5_62, e5_64, w5_64, c5_65, e5_67, w5_67, e5_69, w5_69, c5_70, e5_72, w5_72, c5_73, c5_74, e5_76, w5_76, c5_77, c5_78, c5_79, c5_80, c5_81, c5_82, e5_84, w5_84, c5_85, c5_86, c5_87, c5_88, c5_89, c5_90, c5_91, c5_92]
    exact next_pop hi (done _ _) ⟨rfl, List.take_left⟩
  simp -implicitDefEqProofs (disch := omega) only [go_sem, Nat.reduceAdd, Nat.reduceMul, Nat.reduceSub, Nat.reduceBEq, Nat.reduceLeDiff, Nat.reduceLT, fn_transitlaw32_InboxActive, e5_1, w5_1, e5_3, w5_3, e5_5, w5_5, c5_6, e5_8, w5_8, e5_10, w5_10, e5_12, w5_12, c5_13, e5_15, w5_15, e5_17, w5_17, e5_19, w5_19, c5_20, e5_22, w5_22, e5_24, w5_24, c5_25, e5_27, w5_27, e5_29, w5_29, e5_31, w5_31, c5_32, e5_34, w5_34, e5_36, w5_36, c5_37, e5_39, w5_39, c5_40, c5_41, e5_43, w5_43, c5_44, c5_45, c5_46, c5_47, c5_48, c5_49, c5_50, c5_51, c5_52, e5_54, w5_54, c5_55, c5_56, c5_57, c5_58, c5_59, c5_60, e5_62, w5_62, e5_64, w5_64, c5_65, e5_67, w5_67, e5_69, w5_69, c5_70, e5_72, w5_72, c5_73, c5_74, e5_76, w5_76, c5_77, c5_78, c5_79, c5_80, c5_81, c5_82, e5_84, w5_84, c5_85, c5_86, c5_87, c5_88, c5_89, c5_90, c5_91, c5_92, get_at0]
  refine ifD (fun g2 => ?_) (fun g2 => ?_)
  rotate_left
  · simp -implicitDefEqProofs (disch := omega) only [go_sem, Nat.reduceAdd, Nat.reduceMul, Nat.reduceSub, Nat.reduceBEq, Nat.reduceLeDiff, Nat.reduceLT, fn_transitlaw32_InboxActive, e5_1, w5_1, e5_3, w5_3, e5_5, w5_5, c5_6, e5_8, w5_8, e5_10, w5_10, e5_12, w5_12, c5_13, e5_15, w5_15, e5_17, w5_17, e5_19, w5_19, c5_20, e5_22, w5_22, e5_24, w5_24, c5_25, e5_27, w5_27, e5_29, w5_29, e5_31, w5_31, c5_32, e5_34, w5_34, e5_36, w5_36, c5_37, e5_39, w5_39, c5_40, c5_41, e5_43, w5_43, c5_44, c5_45, c5_46, c5_47, c5_48, c5_49, c5_50, c5_51, c5_52, e5_54, w5_54, c5_55, c5_56, c5_57, c5_58, c5_59, c5_60, e5_62, w5_62, e5_64, w5_64, c5_65, e5_67, w5_67, e5_69, w5_69, c5_70, e5_72, w5_72, c5_73, c5_74, e5_76, w5_76, c5_77, c5_78, c5_79, c5_80, c5_81, c5_82, e5_84, w5_84, c5_85, c5_86, c5_87, c5_88, c5_89, c5_90, c5_91, c5_92]
    exact next_pop hi (done _ _) ⟨rfl, List.take_left⟩
  simp -implicitDefEqProofs (disch := omega) only [go_sem, Nat.reduceAdd, Nat.reduceMul, Nat.reduceSub, Nat.reduceBEq, Nat.reduceLeDiff, Nat.reduceLT, fn_transitlaw32_InboxActive, e5_1, w5_1, e5_3, w5_3, e5_5, w5_5, c5_6, e5_8, w5_8, e5_10, w5_10, e5_12, w5_12, c5_13, e5_15, w5_15, e5_17, w5_17, e5_19, w5_19, c5_20, e5_22, w5_22, e5_24, w5_24, c5_25, e5_27, w5_27, e5_29, w5_29, e5_31, w5_31, c5_32, e5_34, w5_34, e5_36, w5_36, c5_37, e5_39, w5_39, c5_40, c5_41, e5_43, w5_43, c5_44, c5_45, c5_46, c5_47, c5_48, c5_49, c5_50, c5_51, c5_52, e5_54, w5_54, c5_55, c5_56, c5_57, c5_58, c5_59, c5_60, e5_62, w5_62, e5_64, w5_64, c5_65, e5_67, w5_67, e5_69, w5_69, c5_70, e5_72, w5_72, c5_73, c5_74, e5_76, w5_76, c5_77, c5_78, c5_79, c5_80, c5_81, c5_82, e5_84, w5_84, c5_85, c5_86, c5_87, c5_88, c5_89, c5_90, c5_91, c5_92, get_at0]
  refine callA hf ?_
  rintro v N3 ⟨rfl, rfl⟩
  simp -implicitDefEqProofs (disch := omega) only [go_sem, Nat.reduceAdd, Nat.reduceMul, Nat.reduceSub, Nat.reduceBEq, Nat.reduceLeDiff, Nat.reduceLT, fn_transitlaw32_InboxActive, e5_1, w5_1, e5_3, w5_3, e5_5, w5_5, c5_6, e5_8, w5_8, e5_10, w5_10, e5_12, w5_12, c5_13, e5_15, w5_15, e5_17, w5_17, e5_19, w5_19, c5_20, e5_22, w5_22, e5_24, w5_24, c5_25, e5_27, w5_27, e5_29, w5_29, e5_31, w5_31, c5_32, e5_34, w5_34, e5_36, w5_36, c5_37, e5_39, w5_39, c5_40, c5_41, e5_43, w5_43, c5_44, c5_45, c5_46, c5_47, c5_48, c5_49, c5_50, c5_51, c5_52, e5_54, w5_54, c5_55, c5_56, c5_57, c5_58, c5_59, c5_60, e5_62, w5_62, e5_64, w5_64, c5_65, e5_67, w5_67, e5_69, w5_69, c5_70, e5_72, w5_72, c5_73, c5_74, e5_76, w5_76, c5_77, c5_78, c5_79, c5_80, c5_81, c5_82, e5_84, w5_84, c5_85, c5_86, c5_87, c5_88, c5_89, c5_90, c5_91, c5_92, get_at0]
  refine ifB (fun g3 => ?_) (fun g3 => ?_)
  · simp -implicitDefEqProofs (disch := omega) only [go_sem, Nat.reduceAdd, Nat.reduceMul, Nat.reduceSub, Nat.reduceBEq, Nat.reduceLeDiff, Nat.reduceLT, fn_transitlaw32_InboxActive, e5_1, w5_1, e5_3, w5_3, e5_5, w5_5, c5_6, e5_8, w5_8, e5_10, w5_10, e5_12, w5_12, c5_13, e5_15, w5_15, e5_17, w5_17, e5_19, w5_19, c5_20, e5_22, w5_22, e5_24, w5_24, c5_25, e5_27, w5_27, e5_29, w5_29, e5_31, w5_31, c5_32, e5_34, w5_34, e5_36, w5_36, c5_37, e5_39, w5_39, c5_40, c5_41, e5_43, w5_43, c5_44, c5_45, c5_46, c5_47, c5_48, c5_49, c5_50, c5_51, c5_52, e5_54, w5_54, c5_55, c5_56, c5_57, c5_58, c5_59, c5_60, e5_62, w5_62, e5_64, w5_64, c5_65, e5_67, w5_67, e5_69, w5_69, c5_70, e5_72, w5_72, c5_73, c5_74, e5_76, w5_76, c5_77, c5_78, c5_79, c5_80, c5_81, c5_82, e5_84, w5_84, c5_85, c5_86, c5_87, c5_88, c5_89, c5_90, c5_91, c5_92]
    exact next_pop hi (done _ _) ⟨rfl, List.take_left⟩
  simp -implicitDefEqProofs (disch := omega) only [go_sem, Nat.reduceAdd, Nat.reduceMul, Nat.reduceSub, Nat.reduceBEq, Nat.reduceLeDiff, Nat.reduceLT, fn_transitlaw32_InboxActive, e5_1, w5_1, e5_3, w5_3, e5_5, w5_5, c5_6, e5_8, w5_8, e5_10, w5_10, e5_12, w5_12, c5_13, e5_15, w5_15, e5_17, w5_17, e5_19, w5_19, c5_20, e5_22, w5_22, e5_24, w5_24, c5_25, e5_27, w5_27, e5_29, w5_29, e5_31, w5_31, c5_32, e5_34, w5_34, e5_36, w5_36, c5_37, e5_39, w5_39, c5_40, c5_41, e5_43, w5_43, c5_44, c5_45, c5_46, c5_47, c5_48, c5_49, c5_50, c5_51, c5_52, e5_54, w5_54, c5_55, c5_56, c5_57, c5_58, c5_59, c5_60, e5_62, w5_62, e5_64, w5_64, c5_65, e5_67, w5_67, e5_69, w5_69, c5_70, e5_72, w5_72, c5_73, c5_74, e5_76, w5_76, c5_77, c5_78, c5_79, c5_80, c5_81, c5_82, e5_84, w5_84, c5_85, c5_86, c5_87, c5_88, c5_89, c5_90, c5_91, c5_92, get_at0]
  refine callP hh ?_
  rintro v ⟨r, rfl, hr⟩
  simp -implicitDefEqProofs (disch := omega) only [go_sem, Nat.reduceAdd, Nat.reduceMul, Nat.reduceSub, Nat.reduceBEq, Nat.reduceLeDiff, Nat.reduceLT, fn_transitlaw32_InboxActive, e5_1, w5_1, e5_3, w5_3, e5_5, w5_5, c5_6, e5_8, w5_8, e5_10, w5_10, e5_12, w5_12, c5_13, e5_15, w5_15, e5_17, w5_17, e5_19, w5_19, c5_20, e5_22, w5_22, e5_24, w5_24, c5_25, e5_27, w5_27, e5_29, w5_29, e5_31, w5_31, c5_32, e5_34, w5_34, e5_36, w5_36, c5_37, e5_39, w5_39, c5_40, c5_41, e5_43, w5_43, c5_44, c5_45, c5_46, c5_47, c5_48, c5_49, c5_50, c5_51, c5_52, e5_54, w5_54, c5_55, c5_56, c5_57, c5_58, c5_59, c5_60, e5_62, w5_62, e5_64, w5_64, c5_65, e5_67, w5_67, e5_69, w5_69, c5_70, e5_72, w5_72, c5_73, c5_74, e5_76, w5_76, c5_77, c5_78, c5_79, c5_80, c5_81, c5_82, e5_84, w5_84, c5_85, c5_86, c5_87, c5_88, c5_89, c5_90, c5_91, c5_92]
  refine ifB (fun g4 => ?_) (fun g4 => ?_)
  · simp -implicitDefEqProofs (disch := omega) only [go_sem, Nat.reduceAdd, Nat.reduceMul, Nat.reduceSub, Nat.reduceBEq, Nat.reduceLeDiff, Nat.reduceLT, fn_transitlaw32_InboxActive, e5_1, w5_1, e5_3, w5_3, e5_5, w5_5, c5_6, e5_8, w5_8, e5_10, w5_10, e5_12, w5_12, c5_13, e5_15, w5_15, e5_17, w5_17, e5_19, w5_19, c5_20, e5_22, w5_22, e5_24, w5_24, c5_25, e5_27, w5_27, e5_29, w5_29, e5_31, w5_31, c5_32, e5_34, w5_34, e5_36, w5_36, c5_37, e5_39, w5_39, c5_40, c5_41, e5_43, w5_43, c5_44, c5_45, c5_46, c5_47, c5_48, c5_49, c5_50, c5_51, c5_52, e5_54, w5_54, c5_55, c5_56, c5_57, c5_58, c5_59, c5_60, e5_62, w5_62, e5_64, w5_64, c5_65, e5_67, w5_67, e5_69, w5_69, c5_70, e5_72, w5_72, c5_73, c5_74, e5_76, w5_76, c5_77, c5_78, c5_79, c5_80, c5_81, c5_82, e5_84, w5_84, c5_85, c5_86, c5_87, c5_88, c5_89, c5_90, c5_91, c5_92]
    exact next_pop hi (done _ _) ⟨rfl, List.take_left⟩
  have hlow : lowB ac y.own = true := by
    rcases h3' (by simp [curB, g1, g2, g3]) with h5 | h5
    · have := hr.2 h5
      rw [g4] at this; cases this
    · exact h5
  simp -implicitDefEqProofs (disch := omega) only [go_sem, Nat.reduceAdd, Nat.reduceMul, Nat.reduceSub, Nat.reduceBEq, Nat.reduceLeDiff, Nat.reduceLT, fn_transitlaw32_InboxActive, e5_1, w5_1, e5_3, w5_3, e5_5, w5_5, c5_6, e5_8, w5_8, e5_10, w5_10, e5_12, w5_12, c5_13, e5_15, w5_15, e5_17, w5_17, e5_19, w5_19, c5_20, e5_22, w5_22, e5_24, w5_24, c5_25, e5_27, w5_27, e5_29, w5_29, e5_31, w5_31, c5_32, e5_34, w5_34, e5_36, w5_36, c5_37, e5_39, w5_39, c5_40, c5_41, e5_43, w5_43, c5_44, c5_45, c5_46, c5_47, c5_48, c5_49, c5_50, c5_51, c5_52, e5_54, w5_54, c5_55, c5_56, c5_57, c5_58, c5_59, c5_60, e5_62, w5_62, e5_64, w5_64, c5_65, e5_67, w5_67, e5_69, w5_69, c5_70, e5_72, w5_72, c5_73, c5_74, e5_76, w5_76, c5_77, c5_78, c5_79, c5_80, c5_81, c5_82, e5_84, w5_84, c5_85, c5_86, c5_87, c5_88, c5_89, c5_90, c5_91, c5_92, get_at0]
  first | refine callD (hlw) ?_ | refine callQD (hlw) ?_
  simp -implicitDefEqProofs (disch := omega) only [go_sem, Nat.reduceAdd, Nat.reduceMul, Nat.reduceSub, Nat.reduceBEq, Nat.reduceLeDiff, Nat.reduceLT, fn_transitlaw32_InboxActive, e5_1, w5_1, e5_3, w5_3, e5_5, w5_5, c5_6, e5_8, w5_8, e5_10, w5_10, e5_12, w5_12, c5_13, e5_15, w5_15, e5_17, w5_17, e5_19, w5_19, c5_20, e5_22, w5_22, e5_24, w5_24, c5_25, e5_27, w5_27, e5_29, w5_29, e5_31, w5_31, c5_32, e5_34, w5_34, e5_36, w5_36, c5_37, e5_39, w5_39, c5_40, c5_41, e5_43, w5_43, c5_44, c5_45, c5_46, c5_47, c5_48, c5_49, c5_50, c5_51, c5_52, e5_54, w5_54, c5_55, c5_56, c5_57, c5_58, c5_59, c5_60, e5_62, w5_62, e5_64, w5_64, c5_65, e5_67, w5_67, e5_69, w5_69, c5_70, e5_72, w5_72, c5_73, c5_74, e5_76, w5_76, c5_77, c5_78, c5_79, c5_80, c5_81, c5_82, e5_84, w5_84, c5_85, c5_86, c5_87, c5_88, c5_89, c5_90, c5_91, c5_92, hlow]
  exact next_pop hi (done _ _) ⟨rfl, List.take_left⟩

end Go.Vm.C

