/- The statement InboxSupersedes. -/
import Derived.Test.YtmbeokppfdalfaaT7

namespace Go.Vm.C
open Go.Vm
set_option maxHeartbeats 1000000
set_option maxRecDepth 10000
set_option linter.unusedSimpArgs false
set_option linter.unusedVariables false

/-! ### The statement InboxSupersedes -/
theorem superB_own (a b : Msg) : superB a.own b.own = superB a b := rfl
def Apart (x y : Msg) : Prop := superB x y = false ∧ superB y x = false ∧ (x.src = y.src → x.seq ≠ y.seq)
structure Sup (b : Ibx) (n : Nat) : Prop where
  len : b.kept.length ≤ n
  last : ∀ x ∈ b.kept, ∃ (k : Nat) (s : Src), x.src = k ∧ b.srcs[k]? = some s ∧ s.recv = true ∧ x.seq ≤ s.seq
  apart : b.kept.Pairwise Apart
theorem keepM_pairwise {p : Msg → Bool} {l : List Msg} (h : l.Pairwise Apart) : (keepM p l).Pairwise Apart := by
  rw [keepM, List.pairwise_map]
  exact h.filter p
theorem hear_recv (s : Src) (now : Int) : (hearS s now).recv = s.recv ∧ (hearS s now).seq = s.seq := by
  unfold hearS
  split <;> exact ⟨rfl, rfl⟩
theorem superB_seq {a b : Msg} (h : a.seq ≤ b.seq) : superB a b = false := by
  have : decide (b.seq < a.seq) = false := decide_eq_false (by omega)
  simp [superB, this]
theorem superB_src {a b : Msg} (h : a.src ≠ b.src) : superB a b = false := by simp [superB, h]
theorem Sup.step {b : Ibx} {n : Nat} (h : Sup b n) (o : Oper) : Sup (stepI b o) (n + 1) := by
  have same : Sup b (n + 1) := ⟨by have := h.len; omega, h.last, h.apart⟩
  unfold stepI
  split
  · rcases recv_cases b o.m o.now with ⟨_, e⟩ | ⟨_, h1, h2, h3, k, s, hk, hkl, hs, hno, e⟩
    · rw [e]; exact same
    rw [e]
    have hkeep := keepM_len (liveM o.m o.now) b.kept
    have hself : (b.srcs.set k (recvS s o.m o.now))[k]? = some (recvS s o.m o.now) := by rw [List.getElem?_set_self hkl]
    have older : ∀ y ∈ b.kept, y.src = k → y.seq < o.m.seq := fun y hy hyk => by
      obtain ⟨k2, s2, e1, e2, e3, e4⟩ := h.last y hy
      have : k2 = k := by omega
      subst this
      rw [hs] at e2
      simp only [Option.some.injEq] at e2
      subst e2
      refine Decidable.byContradiction fun hn => hno (.inl ⟨e3, by omega⟩)
    refine ⟨by simp only [List.length_append, List.length_cons, List.length_nil]; have := h.len; unfold recvK; omega, fun x hx => ?_, ?_⟩
    · rcases List.mem_append.1 hx with hx | hx
      · obtain ⟨y, hy, _, rfl⟩ := mem_keepM hx
        obtain ⟨k2, s2, e1, e2, e3, e4⟩ := h.last y hy
        by_cases hkk : k2 = k
        · subst hkk
          refine ⟨k2, _, e1, hself, rfl, ?_⟩
          have := older y hy e1
          show y.seq ≤ o.m.seq
          omega
        · exact ⟨k2, s2, e1, by rw [List.getElem?_set_ne (Ne.symm hkk)]; exact e2, e3, e4⟩
      · simp at hx
        subst hx
        exact ⟨k, _, hk, hself, rfl, Int.le_refl _⟩
    · refine List.pairwise_append.2 ⟨keepM_pairwise h.apart, by simp, fun x hx y hy => ?_⟩
      simp at hy
      subst hy
      obtain ⟨z, hz, hlive, rfl⟩ := mem_keepM hx
      simp only [liveM, Bool.and_eq_true, Bool.not_eq_true'] at hlive
      refine ⟨?_, hlive.1, fun hsrc => ?_⟩
      · by_cases hq : z.src = k
        · have := older z hz hq
          exact superB_seq (a := z.own) (b := o.m.own) (by show z.seq ≤ o.m.seq; omega)
        · exact superB_src (a := z.own) (b := o.m.own) (by show z.src ≠ o.m.src; omega)
      · have hq : z.src = k := by have : z.src = o.m.src := hsrc; omega
        have := older z hz hq
        show z.seq ≠ o.m.seq
        omega
  split
  · rcases beat_cases b o.src o.now with ⟨_, e⟩ | ⟨_, h2, k, s, hk0, hk, hs, e⟩
    · rw [e]; exact same
    rw [e]
    refine ⟨same.len, fun x hx => ?_, h.apart⟩
    obtain ⟨k2, s2, e1, e2, e3, e4⟩ := h.last x hx
    by_cases hkk : k2 = k
    · subst hkk
      rw [hs] at e2
      simp only [Option.some.injEq] at e2
      subst e2
      obtain ⟨q1, q2⟩ := hear_recv s o.now
      exact ⟨k2, _, e1, by rw [List.getElem?_set_self hk], by rw [q1]; exact e3, by rw [q2]; exact e4⟩
    · exact ⟨k2, s2, e1, by rw [List.getElem?_set_ne (Ne.symm hkk)]; exact e2, e3, e4⟩
  · exact same
theorem Sup.run : ∀ (l : List Oper) {b : Ibx} {n : Nat}, Sup b n → Sup (runI b l) (n + l.length)
  | [], b, n, h => h
  | o :: l, b, n, h => by
    have := Sup.run l (h.step o)
    rw [List.length_cons, show n + (l.length + 1) = n + 1 + l.length from by omega]
    exact this
theorem Sup.start (n : Nat) (pat : Int) : Sup (startI n pat) 0 := ⟨by simp [startI], fun x hx => by simp [startI] at hx, by simp [startI]⟩
theorem pop_own {N L : Mem} {vs : List V} (hU : memUnder N.length N = true) (hv : underL N.length vs = true) : popOK N.length vs (N ++ L) = true :=
  popOK_of (by simp) hv (by rw [show (N ++ L).take N.length = N from List.take_left]; exact hU)
theorem seqB_of {b : Ibx} {k : Nat} {s : Src} (h : b.srcs[k]? = some s) (hr : s.recv = true) : seqB b k = (s.seq, true) := by
  have hk := (List.getElem?_eq_some_iff.1 h).1
  simp only [seqB, Int.toNat_natCast, h]
  rw [if_pos ⟨by simp [isSrc, hk], hr⟩]
theorem slice_opers (l : List Oper) (c : Cap) (M : Mem) : sliceV 16 (.slice (l.map Oper.row) c) none (some (.int .i64 (min (l.length : Int) 40))) none M = some (.slice ((l.take 40).map Oper.row) (capS c (min (l.length : Int) 40).toNat l.length l.length false)) := by
  rw [slice_h 16 _ c .i64 _ M (by omega) (by simp; omega) (headLen_map (f := Oper.row) (n := 16) (fun _ => rfl) l)]
  have e : (min (l.length : Int) 40).toNat = min l.length 40 := by omega
  rw [← List.map_take, e, List.length_map]
  rw [show List.take (min l.length 40) l = List.take 40 l from by rw [Nat.min_comm, ← List.take_take, List.take_length]]

theorem InboxSupersedes_law (pat : Int) (l : List Oper) (c : Cap) (hl : ∀ o ∈ l, o.wf) (hlen : l.length ≤ maxLen) : PCalls PR i_transitlaw32_InboxSupersedes [.int .i64 pat, .slice (l.map Oper.row) c] (fun v => v = .bool true) := by
  have hm : maxLen = 9223372036854775807 := by rfl
  refine acalls_pop fn_transitlaw32_InboxSupersedes_ok (by simp [fn_transitlaw32_InboxSupersedes]) ?_
  simp -implicitDefEqProofs (disch := omega) only [go_sem, Nat.reduceAdd, Nat.reduceMul, Nat.reduceSub, Nat.reduceBEq, Nat.reduceLeDiff, Nat.reduceLT, fn_transitlaw32_InboxSupersedes, e7_1, w7_1, e7_3, w7_3, e7_5, w7_5, c7_6, e7_8, w7_8, e7_10, w7_10, e7_12, w7_12, c7_13, e7_15, w7_15, e7_17, w7_17, e7_19, w7_19, c7_20, e7_22, w7_22, e7_24, w7_24, e7_26, w7_26, c7_27, e7_29, w7_29, e7_31, w7_31, e7_33, w7_33, c7_34, e7_36, w7_36, e7_38, w7_38, c7_39, e7_41, w7_41, c7_42, c7_43, e7_45, w7_45, c7_46, c7_47, c7_48, c7_49, c7_50, c7_51, c7_52, c7_53, c7_54, c7_55, e7_57, w7_57, c7_58, c7_59, c7_60, c7_61, c7_62, c7_63, e7_65, w7_65, c7_66, c7_67, c7_68, c7_69, c7_70, c7_71, c7_72, slice_opers]
  refine callA (played_ok (M := []) rfl pat (l.take 40) _ (fun o ho => hl o (List.mem_of_mem_take ho)) (by simp; omega)) ?_
  rintro v N ⟨hb, hg⟩
  have hsh := shorts_ok l c hlen
  by_cases h0 : newErr 3 pat = 0
  rotate_left
  · obtain ⟨rfl, rfl⟩ := hb h0
    simp -implicitDefEqProofs (disch := omega) only [go_sem, Nat.reduceAdd, Nat.reduceMul, Nat.reduceSub, Nat.reduceBEq, Nat.reduceLeDiff, Nat.reduceLT, fn_transitlaw32_InboxSupersedes, e7_1, w7_1, e7_3, w7_3, e7_5, w7_5, c7_6, e7_8, w7_8, e7_10, w7_10, e7_12, w7_12, c7_13, e7_15, w7_15, e7_17, w7_17, e7_19, w7_19, c7_20, e7_22, w7_22, e7_24, w7_24, e7_26, w7_26, c7_27, e7_29, w7_29, e7_31, w7_31, e7_33, w7_33, c7_34, e7_36, w7_36, e7_38, w7_38, c7_39, e7_41, w7_41, c7_42, c7_43, e7_45, w7_45, c7_46, c7_47, c7_48, c7_49, c7_50, c7_51, c7_52, c7_53, c7_54, c7_55, e7_57, w7_57, c7_58, c7_59, c7_60, c7_61, c7_62, c7_63, e7_65, w7_65, c7_66, c7_67, c7_68, c7_69, c7_70, c7_71, c7_72]
    first | refine callD (hsh) ?_ | refine callQD (hsh) ?_
    simp -implicitDefEqProofs (disch := omega) only [go_sem, Nat.reduceAdd, Nat.reduceMul, Nat.reduceSub, Nat.reduceBEq, Nat.reduceLeDiff, Nat.reduceLT, fn_transitlaw32_InboxSupersedes, e7_1, w7_1, e7_3, w7_3, e7_5, w7_5, c7_6, e7_8, w7_8, e7_10, w7_10, e7_12, w7_12, c7_13, e7_15, w7_15, e7_17, w7_17, e7_19, w7_19, c7_20, e7_22, w7_22, e7_24, w7_24, e7_26, w7_26, c7_27, e7_29, w7_29, e7_31, w7_31, e7_33, w7_33, c7_34, e7_36, w7_36, e7_38, w7_38, c7_39, e7_41, w7_41, c7_42, c7_43, e7_45, w7_45, c7_46, c7_47, c7_48, c7_49, c7_50, c7_51, c7_52, c7_53, c7_54, c7_55, e7_57, w7_57, c7_58, c7_59, c7_60, c7_61, c7_62, c7_63, e7_65, w7_65, c7_66, c7_67, c7_68, c7_69, c7_70, c7_71, c7_72, nil_eq]
    refine ifB (fun h1 => ?_) (fun h1 => ?_)
    · simp -implicitDefEqProofs (disch := omega) only [go_sem, Nat.reduceAdd, Nat.reduceMul, Nat.reduceSub, Nat.reduceBEq, Nat.reduceLeDiff, Nat.reduceLT, fn_transitlaw32_InboxSupersedes, e7_1, w7_1, e7_3, w7_3, e7_5, w7_5, c7_6, e7_8, w7_8, e7_10, w7_10, e7_12, w7_12, c7_13, e7_15, w7_15, e7_17, w7_17, e7_19, w7_19, c7_20, e7_22, w7_22, e7_24, w7_24, e7_26, w7_26, c7_27, e7_29, w7_29, e7_31, w7_31, e7_33, w7_33, c7_34, e7_36, w7_36, e7_38, w7_38, c7_39, e7_41, w7_41, c7_42, c7_43, e7_45, w7_45, c7_46, c7_47, c7_48, c7_49, c7_50, c7_51, c7_52, c7_53, c7_54, c7_55, e7_57, w7_57, c7_58, c7_59, c7_60, c7_61, c7_62, c7_63, e7_65, w7_65, c7_66, c7_67, c7_68, c7_69, c7_70, c7_71, c7_72, nil_eq]
      first | refine callD (example32_ok) ?_ | refine callQD (example32_ok) ?_
      simp -implicitDefEqProofs (disch := omega) only [go_sem, Nat.reduceAdd, Nat.reduceMul, Nat.reduceSub, Nat.reduceBEq, Nat.reduceLeDiff, Nat.reduceLT, fn_transitlaw32_InboxSupersedes, e7_1, w7_1, e7_3, w7_3, e7_5, w7_5, c7_6, e7_8, w7_8, e7_10, w7_10, e7_12, w7_12, c7_13, e7_15, w7_15, e7_17, w7_17, e7_19, w7_19, c7_20, e7_22, w7_22, e7_24, w7_24, e7_26, w7_26, c7_27, e7_29, w7_29, e7_31, w7_31, e7_33, w7_33, c7_34, e7_36, w7_36, e7_38, w7_38, c7_39, e7_41, w7_41, c7_42, c7_43, e7_45, w7_45, c7_46, c7_47, c7_48, c7_49, c7_50, c7_51, c7_52, c7_53, c7_54, c7_55, e7_57, w7_57, c7_58, c7_59, c7_60, c7_61, c7_62, c7_63, e7_65, w7_65, c7_66, c7_67, c7_68, c7_69, c7_70, c7_71, c7_72]
    · simp -implicitDefEqProofs (disch := omega) only [go_sem, Nat.reduceAdd, Nat.reduceMul, Nat.reduceSub, Nat.reduceBEq, Nat.reduceLeDiff, Nat.reduceLT, fn_transitlaw32_InboxSupersedes, e7_1, w7_1, e7_3, w7_3, e7_5, w7_5, c7_6, e7_8, w7_8, e7_10, w7_10, e7_12, w7_12, c7_13, e7_15, w7_15, e7_17, w7_17, e7_19, w7_19, c7_20, e7_22, w7_22, e7_24, w7_24, e7_26, w7_26, c7_27, e7_29, w7_29, e7_31, w7_31, e7_33, w7_33, c7_34, e7_36, w7_36, e7_38, w7_38, c7_39, e7_41, w7_41, c7_42, c7_43, e7_45, w7_45, c7_46, c7_47, c7_48, c7_49, c7_50, c7_51, c7_52, c7_53, c7_54, c7_55, e7_57, w7_57, c7_58, c7_59, c7_60, c7_61, c7_62, c7_63, e7_65, w7_65, c7_66, c7_67, c7_68, c7_69, c7_70, c7_71, c7_72]
      first | refine callD (example32_ok) ?_ | refine callQD (example32_ok) ?_
      simp -implicitDefEqProofs (disch := omega) only [go_sem, Nat.reduceAdd, Nat.reduceMul, Nat.reduceSub, Nat.reduceBEq, Nat.reduceLeDiff, Nat.reduceLT, fn_transitlaw32_InboxSupersedes, e7_1, w7_1, e7_3, w7_3, e7_5, w7_5, c7_6, e7_8, w7_8, e7_10, w7_10, e7_12, w7_12, c7_13, e7_15, w7_15, e7_17, w7_17, e7_19, w7_19, c7_20, e7_22, w7_22, e7_24, w7_24, e7_26, w7_26, c7_27, e7_29, w7_29, e7_31, w7_31, e7_33, w7_33, c7_34, e7_36, w7_36, e7_38, w7_38, c7_39, e7_41, w7_41, c7_42, c7_43, e7_45, w7_45, c7_46, c7_47, c7_48, c7_49, c7_50, c7_51, c7_52, c7_53, c7_54, c7_55, e7_57, w7_57, c7_58, c7_59, c7_60, c7_61, c7_62, c7_63, e7_65, w7_65, c7_66, c7_67, c7_68, c7_69, c7_70, c7_71, c7_72]
  obtain ⟨rfl, _, hI⟩ := hg h0
  simp -implicitDefEqProofs (disch := omega) only [go_sem, Nat.reduceAdd, Nat.reduceMul, Nat.reduceSub, Nat.reduceBEq, Nat.reduceLeDiff, Nat.reduceLT, fn_transitlaw32_InboxSupersedes, e7_1, w7_1, e7_3, w7_3, e7_5, w7_5, c7_6, e7_8, w7_8, e7_10, w7_10, e7_12, w7_12, c7_13, e7_15, w7_15, e7_17, w7_17, e7_19, w7_19, c7_20, e7_22, w7_22, e7_24, w7_24, e7_26, w7_26, c7_27, e7_29, w7_29, e7_31, w7_31, e7_33, w7_33, c7_34, e7_36, w7_36, e7_38, w7_38, c7_39, e7_41, w7_41, c7_42, c7_43, e7_45, w7_45, c7_46, c7_47, c7_48, c7_49, c7_50, c7_51, c7_52, c7_53, c7_54, c7_55, e7_57, w7_57, c7_58, c7_59, c7_60, c7_61, c7_62, c7_63, e7_65, w7_65, c7_66, c7_67, c7_68, c7_69, c7_70, c7_71, c7_72]
  first | refine callD (hsh) ?_ | refine callQD (hsh) ?_
  simp -implicitDefEqProofs (disch := omega) only [go_sem, Nat.reduceAdd, Nat.reduceMul, Nat.reduceSub, Nat.reduceBEq, Nat.reduceLeDiff, Nat.reduceLT, fn_transitlaw32_InboxSupersedes, e7_1, w7_1, e7_3, w7_3, e7_5, w7_5, c7_6, e7_8, w7_8, e7_10, w7_10, e7_12, w7_12, c7_13, e7_15, w7_15, e7_17, w7_17, e7_19, w7_19, c7_20, e7_22, w7_22, e7_24, w7_24, e7_26, w7_26, c7_27, e7_29, w7_29, e7_31, w7_31, e7_33, w7_33, c7_34, e7_36, w7_36, e7_38, w7_38, c7_39, e7_41, w7_41, c7_42, c7_43, e7_45, w7_45, c7_46, c7_47, c7_48, c7_49, c7_50, c7_51, c7_52, c7_53, c7_54, c7_55, e7_57, w7_57, c7_58, c7_59, c7_60, c7_61, c7_62, c7_63, e7_65, w7_65, c7_66, c7_67, c7_68, c7_69, c7_70, c7_71, c7_72]
  refine ifB (fun h1 => ?_) (fun h1 => ?_)
  rotate_left
  · simp -implicitDefEqProofs (disch := omega) only [go_sem, Nat.reduceAdd, Nat.reduceMul, Nat.reduceSub, Nat.reduceBEq, Nat.reduceLeDiff, Nat.reduceLT, fn_transitlaw32_InboxSupersedes, e7_1, w7_1, e7_3, w7_3, e7_5, w7_5, c7_6, e7_8, w7_8, e7_10, w7_10, e7_12, w7_12, c7_13, e7_15, w7_15, e7_17, w7_17, e7_19, w7_19, c7_20, e7_22, w7_22, e7_24, w7_24, e7_26, w7_26, c7_27, e7_29, w7_29, e7_31, w7_31, e7_33, w7_33, c7_34, e7_36, w7_36, e7_38, w7_38, c7_39, e7_41, w7_41, c7_42, c7_43, e7_45, w7_45, c7_46, c7_47, c7_48, c7_49, c7_50, c7_51, c7_52, c7_53, c7_54, c7_55, e7_57, w7_57, c7_58, c7_59, c7_60, c7_61, c7_62, c7_63, e7_65, w7_65, c7_66, c7_67, c7_68, c7_69, c7_70, c7_71, c7_72]
    first | refine callD (example32_ok) ?_ | refine callQD (example32_ok) ?_
    simp -implicitDefEqProofs (disch := omega) only [go_sem, Nat.reduceAdd, Nat.reduceMul, Nat.reduceSub, Nat.reduceBEq, Nat.reduceLeDiff, Nat.reduceLT, fn_transitlaw32_InboxSupersedes, e7_1, w7_1, e7_3, w7_3, e7_5, w7_5, c7_6, e7_8, w7_8, e7_10, w7_10, e7_12, w7_12, c7_13, e7_15, w7_15, e7_17, w7_17, e7_19, w7_19, c7_20, e7_22, w7_22, e7_24, w7_24, e7_26, w7_26, c7_27, e7_29, w7_29, e7_31, w7_31, e7_33, w7_33, c7_34, e7_36, w7_36, e7_38, w7_38, c7_39, e7_41, w7_41, c7_42, c7_43, e7_45, w7_45, c7_46, c7_47, c7_48, c7_49, c7_50, c7_51, c7_52, c7_53, c7_54, c7_55, e7_57, w7_57, c7_58, c7_59, c7_60, c7_61, c7_62, c7_63, e7_65, w7_65, c7_66, c7_67, c7_68, c7_69, c7_70, c7_71, c7_72]
  simp only [shortB, Bool.and_eq_true, decide_eq_true_eq] at h1
  have ht : l.take 40 = l := List.take_of_length_le h1.1
  rw [ht] at hI
  have hok : (runI (startI 3 pat) l).Ok := runI_ok hl (startI_ok (n := 3) h0)
  have hsup := Sup.run l (Sup.start 3 pat)
  rw [Nat.zero_add] at hsup
  generalize runI (startI 3 pat) l = b at *
  have hlen2 := hsup.len
  have hown := hI.own
  have hlt := hI.lt
  simp only [List.length_nil, Nat.zero_add] at hI hlt
  simp -implicitDefEqProofs (disch := omega) only [go_sem, Nat.reduceAdd, Nat.reduceMul, Nat.reduceSub, Nat.reduceBEq, Nat.reduceLeDiff, Nat.reduceLT, fn_transitlaw32_InboxSupersedes, e7_1, w7_1, e7_3, w7_3, e7_5, w7_5, c7_6, e7_8, w7_8, e7_10, w7_10, e7_12, w7_12, c7_13, e7_15, w7_15, e7_17, w7_17, e7_19, w7_19, c7_20, e7_22, w7_22, e7_24, w7_24, e7_26, w7_26, c7_27, e7_29, w7_29, e7_31, w7_31, e7_33, w7_33, c7_34, e7_36, w7_36, e7_38, w7_38, c7_39, e7_41, w7_41, c7_42, c7_43, e7_45, w7_45, c7_46, c7_47, c7_48, c7_49, c7_50, c7_51, c7_52, c7_53, c7_54, c7_55, e7_57, w7_57, c7_58, c7_59, c7_60, c7_61, c7_62, c7_63, e7_65, w7_65, c7_66, c7_67, c7_68, c7_69, c7_70, c7_71, c7_72, nil_ptr_eq]
  refine callA (Messages_ok hI hok) ?_
  rintro v N' ⟨rfl, rfl⟩
  have hkl : (b.kept.map Msg.own).length = b.kept.length := by simp
  have hget : ∀ (i : Nat) (x : Msg), b.kept[i]? = some x → ((b.kept.map Msg.own).map Msg.row)[i]? = some x.own.row := fun i x h => by simp [h]
  simp -implicitDefEqProofs (disch := omega) only [go_sem, Nat.reduceAdd, Nat.reduceMul, Nat.reduceSub, Nat.reduceBEq, Nat.reduceLeDiff, Nat.reduceLT, fn_transitlaw32_InboxSupersedes, e7_1, w7_1, e7_3, w7_3, e7_5, w7_5, c7_6, e7_8, w7_8, e7_10, w7_10, e7_12, w7_12, c7_13, e7_15, w7_15, e7_17, w7_17, e7_19, w7_19, c7_20, e7_22, w7_22, e7_24, w7_24, e7_26, w7_26, c7_27, e7_29, w7_29, e7_31, w7_31, e7_33, w7_33, c7_34, e7_36, w7_36, e7_38, w7_38, c7_39, e7_41, w7_41, c7_42, c7_43, e7_45, w7_45, c7_46, c7_47, c7_48, c7_49, c7_50, c7_51, c7_52, c7_53, c7_54, c7_55, e7_57, w7_57, c7_58, c7_59, c7_60, c7_61, c7_62, c7_63, e7_65, w7_65, c7_66, c7_67, c7_68, c7_69, c7_70, c7_71, c7_72]
  refine ifD (fun h2 => ?_) (fun h2 => ?_)
  · omega
  simp -implicitDefEqProofs (disch := omega) only [go_sem, Nat.reduceAdd, Nat.reduceMul, Nat.reduceSub, Nat.reduceBEq, Nat.reduceLeDiff, Nat.reduceLT, fn_transitlaw32_InboxSupersedes, e7_1, w7_1, e7_3, w7_3, e7_5, w7_5, c7_6, e7_8, w7_8, e7_10, w7_10, e7_12, w7_12, c7_13, e7_15, w7_15, e7_17, w7_17, e7_19, w7_19, c7_20, e7_22, w7_22, e7_24, w7_24, e7_26, w7_26, c7_27, e7_29, w7_29, e7_31, w7_31, e7_33, w7_33, c7_34, e7_36, w7_36, e7_38, w7_38, c7_39, e7_41, w7_41, c7_42, c7_43, e7_45, w7_45, c7_46, c7_47, c7_48, c7_49, c7_50, c7_51, c7_52, c7_53, c7_54, c7_55, e7_57, w7_57, c7_58, c7_59, c7_60, c7_61, c7_62, c7_63, e7_65, w7_65, c7_66, c7_67, c7_68, c7_69, c7_70, c7_71, c7_72]
  have hu1 : decide (1 < N'.length) = true := decide_eq_true hlt.1
  refine wpC_forL b.kept (fun i vs M => vs = [.ptr 1 0, .slice ((b.kept.map Msg.own).map Msg.row) .unk, .slice ((b.kept.map Msg.own).map Msg.row) .unk, .int .i64 b.kept.length, .int .i64 i] ∧ M = N') ⟨rfl, rfl⟩ ?_ ?_
  rotate_left
  · rintro vs M ⟨rfl, rfl⟩
    simp -implicitDefEqProofs (disch := omega) only [go_sem, Nat.reduceAdd, Nat.reduceMul, Nat.reduceSub, Nat.reduceBEq, Nat.reduceLeDiff, Nat.reduceLT, fn_transitlaw32_InboxSupersedes, e7_1, w7_1, e7_3, w7_3, e7_5, w7_5, c7_6, e7_8, w7_8, e7_10, w7_10, e7_12, w7_12, c7_13, e7_15, w7_15, e7_17, w7_17, e7_19, w7_19, c7_20, e7_22, w7_22, e7_24, w7_24, e7_26, w7_26, c7_27, e7_29, w7_29, e7_31, w7_31, e7_33, w7_33, c7_34, e7_36, w7_36, e7_38, w7_38, c7_39, e7_41, w7_41, c7_42, c7_43, e7_45, w7_45, c7_46, c7_47, c7_48, c7_49, c7_50, c7_51, c7_52, c7_53, c7_54, c7_55, e7_57, w7_57, c7_58, c7_59, c7_60, c7_61, c7_62, c7_63, e7_65, w7_65, c7_66, c7_67, c7_68, c7_69, c7_70, c7_71, c7_72, dec_irrefl]
    first | refine callD (example32_ok) ?_ | refine callQD (example32_ok) ?_
    simp -implicitDefEqProofs (disch := omega) only [go_sem, Nat.reduceAdd, Nat.reduceMul, Nat.reduceSub, Nat.reduceBEq, Nat.reduceLeDiff, Nat.reduceLT, fn_transitlaw32_InboxSupersedes, e7_1, w7_1, e7_3, w7_3, e7_5, w7_5, c7_6, e7_8, w7_8, e7_10, w7_10, e7_12, w7_12, c7_13, e7_15, w7_15, e7_17, w7_17, e7_19, w7_19, c7_20, e7_22, w7_22, e7_24, w7_24, e7_26, w7_26, c7_27, e7_29, w7_29, e7_31, w7_31, e7_33, w7_33, c7_34, e7_36, w7_36, e7_38, w7_38, c7_39, e7_41, w7_41, c7_42, c7_43, e7_45, w7_45, c7_46, c7_47, c7_48, c7_49, c7_50, c7_51, c7_52, c7_53, c7_54, c7_55, e7_57, w7_57, c7_58, c7_59, c7_60, c7_61, c7_62, c7_63, e7_65, w7_65, c7_66, c7_67, c7_68, c7_69, c7_70, c7_71, c7_72]
  rintro i x vs M hx hi hd ⟨rfl, rfl⟩
  obtain ⟨k, s, ek, es, er, eq⟩ := hsup.last x (List.mem_of_getElem? hx)
  have hI1 := hI.app [.box x.own.row] rfl
  have hsq := Sequence_ok hI1 x.src
  rw [ek, seqB_of es er] at hsq
  have hlk := hkl
  have gx := hget i x hx
  rw [own_row] at gx
  simp only [own_row, ek] at hsq
  simp -implicitDefEqProofs (disch := omega) only [go_sem, Nat.reduceAdd, Nat.reduceMul, Nat.reduceSub, Nat.reduceBEq, Nat.reduceLeDiff, Nat.reduceLT, fn_transitlaw32_InboxSupersedes, e7_1, w7_1, e7_3, w7_3, e7_5, w7_5, c7_6, e7_8, w7_8, e7_10, w7_10, e7_12, w7_12, c7_13, e7_15, w7_15, e7_17, w7_17, e7_19, w7_19, c7_20, e7_22, w7_22, e7_24, w7_24, e7_26, w7_26, c7_27, e7_29, w7_29, e7_31, w7_31, e7_33, w7_33, c7_34, e7_36, w7_36, e7_38, w7_38, c7_39, e7_41, w7_41, c7_42, c7_43, e7_45, w7_45, c7_46, c7_47, c7_48, c7_49, c7_50, c7_51, c7_52, c7_53, c7_54, c7_55, e7_57, w7_57, c7_58, c7_59, c7_60, c7_61, c7_62, c7_63, e7_65, w7_65, c7_66, c7_67, c7_68, c7_69, c7_70, c7_71, c7_72, hd, gx, get_at0, mset, ek]
  refine callA hsq ?_
  rintro v N2 ⟨rfl, rfl⟩
  simp -implicitDefEqProofs (disch := omega) only [go_sem, Nat.reduceAdd, Nat.reduceMul, Nat.reduceSub, Nat.reduceBEq, Nat.reduceLeDiff, Nat.reduceLT, fn_transitlaw32_InboxSupersedes, e7_1, w7_1, e7_3, w7_3, e7_5, w7_5, c7_6, e7_8, w7_8, e7_10, w7_10, e7_12, w7_12, c7_13, e7_15, w7_15, e7_17, w7_17, e7_19, w7_19, c7_20, e7_22, w7_22, e7_24, w7_24, e7_26, w7_26, c7_27, e7_29, w7_29, e7_31, w7_31, e7_33, w7_33, c7_34, e7_36, w7_36, e7_38, w7_38, c7_39, e7_41, w7_41, c7_42, c7_43, e7_45, w7_45, c7_46, c7_47, c7_48, c7_49, c7_50, c7_51, c7_52, c7_53, c7_54, c7_55, e7_57, w7_57, c7_58, c7_59, c7_60, c7_61, c7_62, c7_63, e7_65, w7_65, c7_66, c7_67, c7_68, c7_69, c7_70, c7_71, c7_72, get_at0]
  refine ifD (fun h3 => ?_) (fun h3 => ?_)
  · omega
  simp -implicitDefEqProofs (disch := omega) only [go_sem, Nat.reduceAdd, Nat.reduceMul, Nat.reduceSub, Nat.reduceBEq, Nat.reduceLeDiff, Nat.reduceLT, fn_transitlaw32_InboxSupersedes, e7_1, w7_1, e7_3, w7_3, e7_5, w7_5, c7_6, e7_8, w7_8, e7_10, w7_10, e7_12, w7_12, c7_13, e7_15, w7_15, e7_17, w7_17, e7_19, w7_19, c7_20, e7_22, w7_22, e7_24, w7_24, e7_26, w7_26, c7_27, e7_29, w7_29, e7_31, w7_31, e7_33, w7_33, c7_34, e7_36, w7_36, e7_38, w7_38, c7_39, e7_41, w7_41, c7_42, c7_43, e7_45, w7_45, c7_46, c7_47, c7_48, c7_49, c7_50, c7_51, c7_52, c7_53, c7_54, c7_55, e7_57, w7_57, c7_58, c7_59, c7_60, c7_61, c7_62, c7_63, e7_65, w7_65, c7_66, c7_67, c7_68, c7_69, c7_70, c7_71, c7_72]
  have hI1' : memUnder (M ++ [Blk.box x.own.row]).length (M ++ [Blk.box x.own.row]) = true := hI1.own
  have hML : (M ++ [Blk.box x.own.row]).length = M.length + 1 := by simp
  rw [hML] at hI1'
  simp only [own_row, ek] at hI1'
  refine wpC_forL b.kept (fun j vs M1 => vs = [.ptr 1 0, .slice ((b.kept.map Msg.own).map Msg.row) .unk, .int .i64 i, .ptr M.length 0, .slice ((b.kept.map Msg.own).map Msg.row) .unk, .int .i64 b.kept.length, .int .i64 i, .slice ((b.kept.map Msg.own).map Msg.row) .unk, .int .i64 b.kept.length, .int .i64 j] ∧ M1 = M ++ [.box [.int .i64 k, .int .i64 x.seq, .int .i64 x.iss, .int .i64 x.exp, .int .i64 x.kind, .str x.trip, .int .i64 x.day, .int .i64 x.inst, .int .i64 x.callNo, .int .i64 x.secs, .int .i64 x.route, .bool x.free, .slice (x.calls.map Stay.row) .unk]]) ⟨rfl, rfl⟩ ?_ ?_
  rotate_left
  · rintro vs M1 ⟨rfl, rfl⟩
    simp -implicitDefEqProofs (disch := omega) only [go_sem, Nat.reduceAdd, Nat.reduceMul, Nat.reduceSub, Nat.reduceBEq, Nat.reduceLeDiff, Nat.reduceLT, fn_transitlaw32_InboxSupersedes, e7_1, w7_1, e7_3, w7_3, e7_5, w7_5, c7_6, e7_8, w7_8, e7_10, w7_10, e7_12, w7_12, c7_13, e7_15, w7_15, e7_17, w7_17, e7_19, w7_19, c7_20, e7_22, w7_22, e7_24, w7_24, e7_26, w7_26, c7_27, e7_29, w7_29, e7_31, w7_31, e7_33, w7_33, c7_34, e7_36, w7_36, e7_38, w7_38, c7_39, e7_41, w7_41, c7_42, c7_43, e7_45, w7_45, c7_46, c7_47, c7_48, c7_49, c7_50, c7_51, c7_52, c7_53, c7_54, c7_55, e7_57, w7_57, c7_58, c7_59, c7_60, c7_61, c7_62, c7_63, e7_65, w7_65, c7_66, c7_67, c7_68, c7_69, c7_70, c7_71, c7_72, dec_irrefl]
    refine next_pop hi (pop_own hown ?_) ⟨rfl, List.take_left⟩
    simp [vals, sget, underL, V.under, hlt.1]
  rintro j y vs M1 hy hj hdj ⟨rfl, rfl⟩
  have gy := hget j y hy
  rw [own_row] at gy
  have hsu := transitref31_Supersedes_ok x.own y.own
  simp only [own_row, ek] at hsu
  have hap : superB x y = false ∧ (j ≠ i → x.src = y.src → x.seq ≠ y.seq) := by
    have hp := List.pairwise_iff_getElem.1 hsup.apart
    obtain ⟨hi2, ex⟩ := List.getElem?_eq_some_iff.1 hx
    obtain ⟨hj2, ey⟩ := List.getElem?_eq_some_iff.1 hy
    rcases Nat.lt_trichotomy i j with hlt2 | heq | hgt
    · have := hp i j hi2 hj2 hlt2
      rw [ex, ey] at this
      exact ⟨this.1, fun _ => this.2.2⟩
    · subst heq
      rw [ex] at ey
      subst ey
      exact ⟨superB_seq (Int.le_refl _), fun h => absurd rfl h⟩
    · have := hp j i hj2 hi2 hgt
      rw [ex, ey] at this
      exact ⟨this.2.1, fun _ e => Ne.symm (this.2.2 e.symm)⟩
  rw [superB_own, hap.1] at hsu
  have hpop : ∀ B : Blk, ∀ vs, underL (M.length + 1) vs = true → popOK (M.length + 1) vs (M ++ [Blk.box [.int .i64 k, .int .i64 x.seq, .int .i64 x.iss, .int .i64 x.exp, .int .i64 x.kind, .str x.trip, .int .i64 x.day, .int .i64 x.inst, .int .i64 x.callNo, .int .i64 x.secs, .int .i64 x.route, .bool x.free, .slice (x.calls.map Stay.row) .unk], B]) = true := fun B vs hvs => by
    refine popOK_of (by simp) hvs ?_
    rw [take2]; exact hI1'
  simp -implicitDefEqProofs (disch := omega) only [go_sem, Nat.reduceAdd, Nat.reduceMul, Nat.reduceSub, Nat.reduceBEq, Nat.reduceLeDiff, Nat.reduceLT, fn_transitlaw32_InboxSupersedes, e7_1, w7_1, e7_3, w7_3, e7_5, w7_5, c7_6, e7_8, w7_8, e7_10, w7_10, e7_12, w7_12, c7_13, e7_15, w7_15, e7_17, w7_17, e7_19, w7_19, c7_20, e7_22, w7_22, e7_24, w7_24, e7_26, w7_26, c7_27, e7_29, w7_29, e7_31, w7_31, e7_33, w7_33, c7_34, e7_36, w7_36, e7_38, w7_38, c7_39, e7_41, w7_41, c7_42, c7_43, e7_45, w7_45, c7_46, c7_47, c7_48, c7_49, c7_50, c7_51, c7_52, c7_53, c7_54, c7_55, e7_57, w7_57, c7_58, c7_59, c7_60, c7_61, c7_62, c7_63, e7_65, w7_65, c7_66, c7_67, c7_68, c7_69, c7_70, c7_71, c7_72, hdj, gy, List.append_assoc, get_at0, get_at, set_at]
  first | refine callD (hsu) ?_ | refine callQD (hsu) ?_
  simp -implicitDefEqProofs (disch := omega) only [go_sem, Nat.reduceAdd, Nat.reduceMul, Nat.reduceSub, Nat.reduceBEq, Nat.reduceLeDiff, Nat.reduceLT, fn_transitlaw32_InboxSupersedes, e7_1, w7_1, e7_3, w7_3, e7_5, w7_5, c7_6, e7_8, w7_8, e7_10, w7_10, e7_12, w7_12, c7_13, e7_15, w7_15, e7_17, w7_17, e7_19, w7_19, c7_20, e7_22, w7_22, e7_24, w7_24, e7_26, w7_26, c7_27, e7_29, w7_29, e7_31, w7_31, e7_33, w7_33, c7_34, e7_36, w7_36, e7_38, w7_38, c7_39, e7_41, w7_41, c7_42, c7_43, e7_45, w7_45, c7_46, c7_47, c7_48, c7_49, c7_50, c7_51, c7_52, c7_53, c7_54, c7_55, e7_57, w7_57, c7_58, c7_59, c7_60, c7_61, c7_62, c7_63, e7_65, w7_65, c7_66, c7_67, c7_68, c7_69, c7_70, c7_71, c7_72]
  have hvs : ∀ n : Int, underL (M.length + 1) (vals [(5, V.ptr 1 0), (6, V.slice ((b.kept.map Msg.own).map Msg.row) .unk), (7, V.int .i64 i), (8, V.ptr M.length 0), (35, V.slice ((b.kept.map Msg.own).map Msg.row) .unk), (36, V.int .i64 b.kept.length), (37, V.int .i64 i), (57, V.slice ((b.kept.map Msg.own).map Msg.row) .unk), (58, V.int .i64 b.kept.length), (59, V.int .i64 n)] [5, 6, 7, 8, 35, 36, 37, 57, 58, 59]) = true := fun n => by
    have : decide (1 < M.length + 1) = true := decide_eq_true (by omega)
    simp [vals, sget, underL, V.under, this]
    omega
  refine ifD (fun h4 => ?_) (fun h4 => ?_)
  · simp -implicitDefEqProofs (disch := omega) only [go_sem, Nat.reduceAdd, Nat.reduceMul, Nat.reduceSub, Nat.reduceBEq, Nat.reduceLeDiff, Nat.reduceLT, fn_transitlaw32_InboxSupersedes, e7_1, w7_1, e7_3, w7_3, e7_5, w7_5, c7_6, e7_8, w7_8, e7_10, w7_10, e7_12, w7_12, c7_13, e7_15, w7_15, e7_17, w7_17, e7_19, w7_19, c7_20, e7_22, w7_22, e7_24, w7_24, e7_26, w7_26, c7_27, e7_29, w7_29, e7_31, w7_31, e7_33, w7_33, c7_34, e7_36, w7_36, e7_38, w7_38, c7_39, e7_41, w7_41, c7_42, c7_43, e7_45, w7_45, c7_46, c7_47, c7_48, c7_49, c7_50, c7_51, c7_52, c7_53, c7_54, c7_55, e7_57, w7_57, c7_58, c7_59, c7_60, c7_61, c7_62, c7_63, e7_65, w7_65, c7_66, c7_67, c7_68, c7_69, c7_70, c7_71, c7_72]
    exact next_pop hj (hpop _ _ (hvs _)) ⟨rfl, take2 _ _ _⟩
  simp -implicitDefEqProofs (disch := omega) only [go_sem, Nat.reduceAdd, Nat.reduceMul, Nat.reduceSub, Nat.reduceBEq, Nat.reduceLeDiff, Nat.reduceLT, fn_transitlaw32_InboxSupersedes, e7_1, w7_1, e7_3, w7_3, e7_5, w7_5, c7_6, e7_8, w7_8, e7_10, w7_10, e7_12, w7_12, c7_13, e7_15, w7_15, e7_17, w7_17, e7_19, w7_19, c7_20, e7_22, w7_22, e7_24, w7_24, e7_26, w7_26, c7_27, e7_29, w7_29, e7_31, w7_31, e7_33, w7_33, c7_34, e7_36, w7_36, e7_38, w7_38, c7_39, e7_41, w7_41, c7_42, c7_43, e7_45, w7_45, c7_46, c7_47, c7_48, c7_49, c7_50, c7_51, c7_52, c7_53, c7_54, c7_55, e7_57, w7_57, c7_58, c7_59, c7_60, c7_61, c7_62, c7_63, e7_65, w7_65, c7_66, c7_67, c7_68, c7_69, c7_70, c7_71, c7_72, get_at0, get_at]
  refine ifD (fun h5 => ?_) (fun h5 => ?_)
  rotate_left
  · simp -implicitDefEqProofs (disch := omega) only [go_sem, Nat.reduceAdd, Nat.reduceMul, Nat.reduceSub, Nat.reduceBEq, Nat.reduceLeDiff, Nat.reduceLT, fn_transitlaw32_InboxSupersedes, e7_1, w7_1, e7_3, w7_3, e7_5, w7_5, c7_6, e7_8, w7_8, e7_10, w7_10, e7_12, w7_12, c7_13, e7_15, w7_15, e7_17, w7_17, e7_19, w7_19, c7_20, e7_22, w7_22, e7_24, w7_24, e7_26, w7_26, c7_27, e7_29, w7_29, e7_31, w7_31, e7_33, w7_33, c7_34, e7_36, w7_36, e7_38, w7_38, c7_39, e7_41, w7_41, c7_42, c7_43, e7_45, w7_45, c7_46, c7_47, c7_48, c7_49, c7_50, c7_51, c7_52, c7_53, c7_54, c7_55, e7_57, w7_57, c7_58, c7_59, c7_60, c7_61, c7_62, c7_63, e7_65, w7_65, c7_66, c7_67, c7_68, c7_69, c7_70, c7_71, c7_72]
    exact next_pop hj (hpop _ _ (hvs _)) ⟨rfl, take2 _ _ _⟩
  simp -implicitDefEqProofs (disch := omega) only [go_sem, Nat.reduceAdd, Nat.reduceMul, Nat.reduceSub, Nat.reduceBEq, Nat.reduceLeDiff, Nat.reduceLT, fn_transitlaw32_InboxSupersedes, e7_1, w7_1, e7_3, w7_3, e7_5, w7_5, c7_6, e7_8, w7_8, e7_10, w7_10, e7_12, w7_12, c7_13, e7_15, w7_15, e7_17, w7_17, e7_19, w7_19, c7_20, e7_22, w7_22, e7_24, w7_24, e7_26, w7_26, c7_27, e7_29, w7_29, e7_31, w7_31, e7_33, w7_33, c7_34, e7_36, w7_36, e7_38, w7_38, c7_39, e7_41, w7_41, c7_42, c7_43, e7_45, w7_45, c7_46, c7_47, c7_48, c7_49, c7_50, c7_51, c7_52, c7_53, c7_54, c7_55, e7_57, w7_57, c7_58, c7_59, c7_60, c7_61, c7_62, c7_63, e7_65, w7_65, c7_66, c7_67, c7_68, c7_69, c7_70, c7_71, c7_72, get_at0, get_at]
  refine ifD (fun h6 => ?_) (fun h6 => ?_)
  · exact absurd h6 (hap.2 (by omega) (by omega))
  · simp -implicitDefEqProofs (disch := omega) only [go_sem, Nat.reduceAdd, Nat.reduceMul, Nat.reduceSub, Nat.reduceBEq, Nat.reduceLeDiff, Nat.reduceLT, fn_transitlaw32_InboxSupersedes, e7_1, w7_1, e7_3, w7_3, e7_5, w7_5, c7_6, e7_8, w7_8, e7_10, w7_10, e7_12, w7_12, c7_13, e7_15, w7_15, e7_17, w7_17, e7_19, w7_19, c7_20, e7_22, w7_22, e7_24, w7_24, e7_26, w7_26, c7_27, e7_29, w7_29, e7_31, w7_31, e7_33, w7_33, c7_34, e7_36, w7_36, e7_38, w7_38, c7_39, e7_41, w7_41, c7_42, c7_43, e7_45, w7_45, c7_46, c7_47, c7_48, c7_49, c7_50, c7_51, c7_52, c7_53, c7_54, c7_55, e7_57, w7_57, c7_58, c7_59, c7_60, c7_61, c7_62, c7_63, e7_65, w7_65, c7_66, c7_67, c7_68, c7_69, c7_70, c7_71, c7_72]
    exact next_pop hj (hpop _ _ (hvs _)) ⟨rfl, take2 _ _ _⟩

end Go.Vm.C

