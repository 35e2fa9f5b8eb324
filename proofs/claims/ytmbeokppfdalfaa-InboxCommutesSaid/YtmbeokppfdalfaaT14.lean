/- The statement InboxCommutes. -/
import Derived.Test.YtmbeokppfdalfaaT13

namespace Go.Vm.C
open Go.Vm
set_option maxHeartbeats 1000000
set_option maxRecDepth 10000
set_option linter.unusedSimpArgs false
set_option linter.unusedVariables false

/-! ### The statement InboxCommutes -/
/-- What is done to another inbox leaves this one, wherever it lies. -/
theorem InAt.fr2 {M N : Mem} {b b2 : Ibx} {id sid i2 s2 : Nat} (h : InAt M b id sid) (g : InAt M b2 i2 s2) (hf : Fr M N i2 s2) (n1 : id ≠ i2) (n2 : sid ≠ s2) (hN : memUnder N.length N = true) : InAt N b id sid := by
  obtain ⟨kv, hb, hk⟩ := h.box
  obtain ⟨kv2, gb, gk⟩ := g.box
  have get : ∀ {j : Nat} {B : Blk}, M[j]? = some B → j ≠ i2 → j ≠ s2 → N[j]? = some B := fun {j B} hj e1 e2 => by
    have hlt := (List.getElem?_eq_some_iff.1 hj).1
    rw [hf.2 j hlt e1 e2]
    exact hj
  refine ⟨hN, get h.src (fun e => ?_) n2, kv, get hb n1 (fun e => ?_), ?_⟩
  · have := h.src
    rw [e, gb] at this
    cases this
  · rw [e, g.src] at hb
    cases hb
  · rcases hk with ⟨c, rfl⟩ | ⟨kid, ver, rfl, h3⟩
    · exact .inl ⟨c, rfl⟩
    · refine .inr ⟨kid, ver, rfl, get h3 (fun e => ?_) (fun e => ?_)⟩
      · rw [e, gb] at h3
        cases h3
      · rw [e, g.src] at h3
        simp at h3
theorem InboxCommutes_law (pat : Int) (l : List Oper) (c : Cap) (a b : Msg) (now at' : Int) (hl : ∀ o ∈ l, o.wf) (hlen : l.length ≤ maxLen) (ha : a.wf) (hb : b.wf) (hat : I64 at') : PCalls PR i_transitlaw32_InboxCommutes [.int .i64 pat, .slice (l.map Oper.row) c, .agg (a.row ++ (b.row ++ [.int .i64 now, .int .i64 at']))] (fun v => v = .bool true) := by
  have hm : maxLen = 9223372036854775807 := by rfl
  have hsa := small_ok a
  have hsb := small_ok b
  simp only [Msg.row] at hsa hsb
  have hsh := shorts_ok l c hlen
  have hplay := fun {M : Mem} (hU : memUnder M.length M = true) (c' : Cap) => played_ok (M := M) hU pat (l.take 40) c' (fun o ho => hl o (List.mem_of_mem_take ho)) (by simp; omega)
  obtain ⟨R, hR⟩ : ∃ R : List V, R = a.row ++ (b.row ++ [.int .i64 now, .int .i64 at']) := ⟨_, rfl⟩
  have hRu : memUnder (List.length [Blk.box R]) [Blk.box R] = true := by rw [hR]; simp [memUnder, Blk.under, Msg.row, underL, V.under]
  simp only [Msg.row, List.cons_append, List.nil_append] at hR
  refine acalls_pop fn_transitlaw32_InboxCommutes_ok (by simp [fn_transitlaw32_InboxCommutes]) ?_
  simp -implicitDefEqProofs (disch := omega) only [go_sem, Nat.reduceAdd, Nat.reduceMul, Nat.reduceSub, Nat.reduceBEq, Nat.reduceLeDiff, Nat.reduceLT, fn_transitlaw32_InboxCommutes, e4_1, w4_1, e4_3, w4_3, e4_5, w4_5, c4_6, e4_8, w4_8, e4_10, w4_10, e4_12, w4_12, e4_14, w4_14, c4_15, e4_17, w4_17, e4_19, w4_19, c4_20, c4_21, c4_22, c4_23, c4_24, c4_25, c4_26, slice_opers, Msg.row]
  rw [← hR]
  refine callA (hplay hRu _) ?_
  rintro v N ⟨hb1, hg1⟩
  by_cases h0 : newErr 3 pat = 0
  rotate_left
  · obtain ⟨rfl, rfl⟩ := hb1 h0
    simp -implicitDefEqProofs (disch := omega) only [go_sem, Nat.reduceAdd, Nat.reduceMul, Nat.reduceSub, Nat.reduceBEq, Nat.reduceLeDiff, Nat.reduceLT, fn_transitlaw32_InboxCommutes, e4_1, w4_1, e4_3, w4_3, e4_5, w4_5, c4_6, e4_8, w4_8, e4_10, w4_10, e4_12, w4_12, e4_14, w4_14, c4_15, e4_17, w4_17, e4_19, w4_19, c4_20, c4_21, c4_22, c4_23, c4_24, c4_25, c4_26, slice_opers]
    refine callA (hplay hRu _) ?_
    rintro v N ⟨hb2, _⟩
    obtain ⟨rfl, rfl⟩ := hb2 h0
    rw [hR]
    simp -implicitDefEqProofs (disch := omega) only [go_sem, Nat.reduceAdd, Nat.reduceMul, Nat.reduceSub, Nat.reduceBEq, Nat.reduceLeDiff, Nat.reduceLT, fn_transitlaw32_InboxCommutes, e4_1, w4_1, e4_3, w4_3, e4_5, w4_5, c4_6, e4_8, w4_8, e4_10, w4_10, e4_12, w4_12, e4_14, w4_14, c4_15, e4_17, w4_17, e4_19, w4_19, c4_20, c4_21, c4_22, c4_23, c4_24, c4_25, c4_26]
    first | refine callD (hsh) ?_ | refine callQD (hsh) ?_
    simp -implicitDefEqProofs (disch := omega) only [go_sem, Nat.reduceAdd, Nat.reduceMul, Nat.reduceSub, Nat.reduceBEq, Nat.reduceLeDiff, Nat.reduceLT, fn_transitlaw32_InboxCommutes, e4_1, w4_1, e4_3, w4_3, e4_5, w4_5, c4_6, e4_8, w4_8, e4_10, w4_10, e4_12, w4_12, e4_14, w4_14, c4_15, e4_17, w4_17, e4_19, w4_19, c4_20, c4_21, c4_22, c4_23, c4_24, c4_25, c4_26]
    refine ifB (fun h1 => ?_) (fun h1 => ?_)
    rotate_left
    · simp -implicitDefEqProofs (disch := omega) only [go_sem, Nat.reduceAdd, Nat.reduceMul, Nat.reduceSub, Nat.reduceBEq, Nat.reduceLeDiff, Nat.reduceLT, fn_transitlaw32_InboxCommutes, e4_1, w4_1, e4_3, w4_3, e4_5, w4_5, c4_6, e4_8, w4_8, e4_10, w4_10, e4_12, w4_12, e4_14, w4_14, c4_15, e4_17, w4_17, e4_19, w4_19, c4_20, c4_21, c4_22, c4_23, c4_24, c4_25, c4_26]
      first | refine callD (example32_ok) ?_ | refine callQD (example32_ok) ?_
      simp -implicitDefEqProofs (disch := omega) only [go_sem, Nat.reduceAdd, Nat.reduceMul, Nat.reduceSub, Nat.reduceBEq, Nat.reduceLeDiff, Nat.reduceLT, fn_transitlaw32_InboxCommutes, e4_1, w4_1, e4_3, w4_3, e4_5, w4_5, c4_6, e4_8, w4_8, e4_10, w4_10, e4_12, w4_12, e4_14, w4_14, c4_15, e4_17, w4_17, e4_19, w4_19, c4_20, c4_21, c4_22, c4_23, c4_24, c4_25, c4_26]
    simp -implicitDefEqProofs (disch := omega) only [go_sem, Nat.reduceAdd, Nat.reduceMul, Nat.reduceSub, Nat.reduceBEq, Nat.reduceLeDiff, Nat.reduceLT, fn_transitlaw32_InboxCommutes, e4_1, w4_1, e4_3, w4_3, e4_5, w4_5, c4_6, e4_8, w4_8, e4_10, w4_10, e4_12, w4_12, e4_14, w4_14, c4_15, e4_17, w4_17, e4_19, w4_19, c4_20, c4_21, c4_22, c4_23, c4_24, c4_25, c4_26]
    first | refine callD (hsa) ?_ | refine callQD (hsa) ?_
    simp -implicitDefEqProofs (disch := omega) only [go_sem, Nat.reduceAdd, Nat.reduceMul, Nat.reduceSub, Nat.reduceBEq, Nat.reduceLeDiff, Nat.reduceLT, fn_transitlaw32_InboxCommutes, e4_1, w4_1, e4_3, w4_3, e4_5, w4_5, c4_6, e4_8, w4_8, e4_10, w4_10, e4_12, w4_12, e4_14, w4_14, c4_15, e4_17, w4_17, e4_19, w4_19, c4_20, c4_21, c4_22, c4_23, c4_24, c4_25, c4_26]
    refine ifB (fun h2 => ?_) (fun h2 => ?_)
    rotate_left
    · simp -implicitDefEqProofs (disch := omega) only [go_sem, Nat.reduceAdd, Nat.reduceMul, Nat.reduceSub, Nat.reduceBEq, Nat.reduceLeDiff, Nat.reduceLT, fn_transitlaw32_InboxCommutes, e4_1, w4_1, e4_3, w4_3, e4_5, w4_5, c4_6, e4_8, w4_8, e4_10, w4_10, e4_12, w4_12, e4_14, w4_14, c4_15, e4_17, w4_17, e4_19, w4_19, c4_20, c4_21, c4_22, c4_23, c4_24, c4_25, c4_26]
      first | refine callD (example32_ok) ?_ | refine callQD (example32_ok) ?_
      simp -implicitDefEqProofs (disch := omega) only [go_sem, Nat.reduceAdd, Nat.reduceMul, Nat.reduceSub, Nat.reduceBEq, Nat.reduceLeDiff, Nat.reduceLT, fn_transitlaw32_InboxCommutes, e4_1, w4_1, e4_3, w4_3, e4_5, w4_5, c4_6, e4_8, w4_8, e4_10, w4_10, e4_12, w4_12, e4_14, w4_14, c4_15, e4_17, w4_17, e4_19, w4_19, c4_20, c4_21, c4_22, c4_23, c4_24, c4_25, c4_26]
    simp -implicitDefEqProofs (disch := omega) only [go_sem, Nat.reduceAdd, Nat.reduceMul, Nat.reduceSub, Nat.reduceBEq, Nat.reduceLeDiff, Nat.reduceLT, fn_transitlaw32_InboxCommutes, e4_1, w4_1, e4_3, w4_3, e4_5, w4_5, c4_6, e4_8, w4_8, e4_10, w4_10, e4_12, w4_12, e4_14, w4_14, c4_15, e4_17, w4_17, e4_19, w4_19, c4_20, c4_21, c4_22, c4_23, c4_24, c4_25, c4_26]
    first | refine callD (hsb) ?_ | refine callQD (hsb) ?_
    simp -implicitDefEqProofs (disch := omega) only [go_sem, Nat.reduceAdd, Nat.reduceMul, Nat.reduceSub, Nat.reduceBEq, Nat.reduceLeDiff, Nat.reduceLT, fn_transitlaw32_InboxCommutes, e4_1, w4_1, e4_3, w4_3, e4_5, w4_5, c4_6, e4_8, w4_8, e4_10, w4_10, e4_12, w4_12, e4_14, w4_14, c4_15, e4_17, w4_17, e4_19, w4_19, c4_20, c4_21, c4_22, c4_23, c4_24, c4_25, c4_26]
    refine ifB (fun h3 => ?_) (fun h3 => ?_)
    rotate_left
    · simp -implicitDefEqProofs (disch := omega) only [go_sem, Nat.reduceAdd, Nat.reduceMul, Nat.reduceSub, Nat.reduceBEq, Nat.reduceLeDiff, Nat.reduceLT, fn_transitlaw32_InboxCommutes, e4_1, w4_1, e4_3, w4_3, e4_5, w4_5, c4_6, e4_8, w4_8, e4_10, w4_10, e4_12, w4_12, e4_14, w4_14, c4_15, e4_17, w4_17, e4_19, w4_19, c4_20, c4_21, c4_22, c4_23, c4_24, c4_25, c4_26]
      first | refine callD (example32_ok) ?_ | refine callQD (example32_ok) ?_
      simp -implicitDefEqProofs (disch := omega) only [go_sem, Nat.reduceAdd, Nat.reduceMul, Nat.reduceSub, Nat.reduceBEq, Nat.reduceLeDiff, Nat.reduceLT, fn_transitlaw32_InboxCommutes, e4_1, w4_1, e4_3, w4_3, e4_5, w4_5, c4_6, e4_8, w4_8, e4_10, w4_10, e4_12, w4_12, e4_14, w4_14, c4_15, e4_17, w4_17, e4_19, w4_19, c4_20, c4_21, c4_22, c4_23, c4_24, c4_25, c4_26]
    simp -implicitDefEqProofs (disch := omega) only [go_sem, Nat.reduceAdd, Nat.reduceMul, Nat.reduceSub, Nat.reduceBEq, Nat.reduceLeDiff, Nat.reduceLT, fn_transitlaw32_InboxCommutes, e4_1, w4_1, e4_3, w4_3, e4_5, w4_5, c4_6, e4_8, w4_8, e4_10, w4_10, e4_12, w4_12, e4_14, w4_14, c4_15, e4_17, w4_17, e4_19, w4_19, c4_20, c4_21, c4_22, c4_23, c4_24, c4_25, c4_26]
    refine ifD (fun h4 => ?_) (fun h4 => ?_)
    · simp -implicitDefEqProofs (disch := omega) only [go_sem, Nat.reduceAdd, Nat.reduceMul, Nat.reduceSub, Nat.reduceBEq, Nat.reduceLeDiff, Nat.reduceLT, fn_transitlaw32_InboxCommutes, e4_1, w4_1, e4_3, w4_3, e4_5, w4_5, c4_6, e4_8, w4_8, e4_10, w4_10, e4_12, w4_12, e4_14, w4_14, c4_15, e4_17, w4_17, e4_19, w4_19, c4_20, c4_21, c4_22, c4_23, c4_24, c4_25, c4_26, nil_eq]
      first | refine callD (example32_ok) ?_ | refine callQD (example32_ok) ?_
      simp -implicitDefEqProofs (disch := omega) only [go_sem, Nat.reduceAdd, Nat.reduceMul, Nat.reduceSub, Nat.reduceBEq, Nat.reduceLeDiff, Nat.reduceLT, fn_transitlaw32_InboxCommutes, e4_1, w4_1, e4_3, w4_3, e4_5, w4_5, c4_6, e4_8, w4_8, e4_10, w4_10, e4_12, w4_12, e4_14, w4_14, c4_15, e4_17, w4_17, e4_19, w4_19, c4_20, c4_21, c4_22, c4_23, c4_24, c4_25, c4_26]
    · simp -implicitDefEqProofs (disch := omega) only [go_sem, Nat.reduceAdd, Nat.reduceMul, Nat.reduceSub, Nat.reduceBEq, Nat.reduceLeDiff, Nat.reduceLT, fn_transitlaw32_InboxCommutes, e4_1, w4_1, e4_3, w4_3, e4_5, w4_5, c4_6, e4_8, w4_8, e4_10, w4_10, e4_12, w4_12, e4_14, w4_14, c4_15, e4_17, w4_17, e4_19, w4_19, c4_20, c4_21, c4_22, c4_23, c4_24, c4_25, c4_26, nil_eq]
      first | refine callD (example32_ok) ?_ | refine callQD (example32_ok) ?_
      simp -implicitDefEqProofs (disch := omega) only [go_sem, Nat.reduceAdd, Nat.reduceMul, Nat.reduceSub, Nat.reduceBEq, Nat.reduceLeDiff, Nat.reduceLT, fn_transitlaw32_InboxCommutes, e4_1, w4_1, e4_3, w4_3, e4_5, w4_5, c4_6, e4_8, w4_8, e4_10, w4_10, e4_12, w4_12, e4_14, w4_14, c4_15, e4_17, w4_17, e4_19, w4_19, c4_20, c4_21, c4_22, c4_23, c4_24, c4_25, c4_26]
  obtain ⟨rfl, hf1, hI1⟩ := hg1 h0
  have hN1 : N[0]? = some (.box R) := by
    rw [hf1.2 0 (by simp) (by simp) (by simp)]; rfl
  simp only [List.length_cons, List.length_nil, Nat.zero_add, Nat.reduceAdd] at hI1
  have hlt1 := hI1.lt
  simp -implicitDefEqProofs (disch := omega) only [go_sem, Nat.reduceAdd, Nat.reduceMul, Nat.reduceSub, Nat.reduceBEq, Nat.reduceLeDiff, Nat.reduceLT, fn_transitlaw32_InboxCommutes, e4_1, w4_1, e4_3, w4_3, e4_5, w4_5, c4_6, e4_8, w4_8, e4_10, w4_10, e4_12, w4_12, e4_14, w4_14, c4_15, e4_17, w4_17, e4_19, w4_19, c4_20, c4_21, c4_22, c4_23, c4_24, c4_25, c4_26, slice_opers]
  refine callA (hplay hI1.own _) ?_
  rintro v N2 ⟨_, hg2⟩
  obtain ⟨rfl, hf2, hJ2⟩ := hg2 h0
  have hI2 : InAt N2 _ 2 1 := hI1.fr (L := []) (by rw [List.append_nil]; exact hf2) (Nat.le_refl _) (Nat.le_succ _) hJ2.own
  have hN2 : N2[0]? = some (.box R) := by
    rw [hf2.2 0 (by omega) (by omega) (by omega)]; exact hN1
  have hokX : (runI (startI 3 pat) (l.take 40)).Ok := runI_ok (fun x hx => hl x (List.mem_of_mem_take hx)) (startI_ok (n := 3) h0)
  generalize runI (startI 3 pat) (l.take 40) = X at *
  obtain ⟨n, hn⟩ : ∃ n, n = N.length := ⟨_, rfl⟩
  rw [← hn] at hlt1 hJ2
  clear hf1 hf2 hI1 hN1
  have hlt2 := hJ2.lt
  have hN2' := hN2
  rw [hR] at hN2'
  rw [← hn]
  simp -implicitDefEqProofs (disch := omega) only [go_sem, Nat.reduceAdd, Nat.reduceMul, Nat.reduceSub, Nat.reduceBEq, Nat.reduceLeDiff, Nat.reduceLT, fn_transitlaw32_InboxCommutes, e4_1, w4_1, e4_3, w4_3, e4_5, w4_5, c4_6, e4_8, w4_8, e4_10, w4_10, e4_12, w4_12, e4_14, w4_14, c4_15, e4_17, w4_17, e4_19, w4_19, c4_20, c4_21, c4_22, c4_23, c4_24, c4_25, c4_26]
  first | refine callD (hsh) ?_ | refine callQD (hsh) ?_
  simp -implicitDefEqProofs (disch := omega) only [go_sem, Nat.reduceAdd, Nat.reduceMul, Nat.reduceSub, Nat.reduceBEq, Nat.reduceLeDiff, Nat.reduceLT, fn_transitlaw32_InboxCommutes, e4_1, w4_1, e4_3, w4_3, e4_5, w4_5, c4_6, e4_8, w4_8, e4_10, w4_10, e4_12, w4_12, e4_14, w4_14, c4_15, e4_17, w4_17, e4_19, w4_19, c4_20, c4_21, c4_22, c4_23, c4_24, c4_25, c4_26, hN2']
  refine ifB (fun h1 => ?_) (fun h1 => ?_)
  rotate_left
  · simp -implicitDefEqProofs (disch := omega) only [go_sem, Nat.reduceAdd, Nat.reduceMul, Nat.reduceSub, Nat.reduceBEq, Nat.reduceLeDiff, Nat.reduceLT, fn_transitlaw32_InboxCommutes, e4_1, w4_1, e4_3, w4_3, e4_5, w4_5, c4_6, e4_8, w4_8, e4_10, w4_10, e4_12, w4_12, e4_14, w4_14, c4_15, e4_17, w4_17, e4_19, w4_19, c4_20, c4_21, c4_22, c4_23, c4_24, c4_25, c4_26]
    first | refine callD (example32_ok) ?_ | refine callQD (example32_ok) ?_
    simp -implicitDefEqProofs (disch := omega) only [go_sem, Nat.reduceAdd, Nat.reduceMul, Nat.reduceSub, Nat.reduceBEq, Nat.reduceLeDiff, Nat.reduceLT, fn_transitlaw32_InboxCommutes, e4_1, w4_1, e4_3, w4_3, e4_5, w4_5, c4_6, e4_8, w4_8, e4_10, w4_10, e4_12, w4_12, e4_14, w4_14, c4_15, e4_17, w4_17, e4_19, w4_19, c4_20, c4_21, c4_22, c4_23, c4_24, c4_25, c4_26]
  simp -implicitDefEqProofs (disch := omega) only [go_sem, Nat.reduceAdd, Nat.reduceMul, Nat.reduceSub, Nat.reduceBEq, Nat.reduceLeDiff, Nat.reduceLT, fn_transitlaw32_InboxCommutes, e4_1, w4_1, e4_3, w4_3, e4_5, w4_5, c4_6, e4_8, w4_8, e4_10, w4_10, e4_12, w4_12, e4_14, w4_14, c4_15, e4_17, w4_17, e4_19, w4_19, c4_20, c4_21, c4_22, c4_23, c4_24, c4_25, c4_26, hN2']
  first | refine callD (hsa) ?_ | refine callQD (hsa) ?_
  simp -implicitDefEqProofs (disch := omega) only [go_sem, Nat.reduceAdd, Nat.reduceMul, Nat.reduceSub, Nat.reduceBEq, Nat.reduceLeDiff, Nat.reduceLT, fn_transitlaw32_InboxCommutes, e4_1, w4_1, e4_3, w4_3, e4_5, w4_5, c4_6, e4_8, w4_8, e4_10, w4_10, e4_12, w4_12, e4_14, w4_14, c4_15, e4_17, w4_17, e4_19, w4_19, c4_20, c4_21, c4_22, c4_23, c4_24, c4_25, c4_26, hN2']
  refine ifB (fun h2 => ?_) (fun h2 => ?_)
  rotate_left
  · simp -implicitDefEqProofs (disch := omega) only [go_sem, Nat.reduceAdd, Nat.reduceMul, Nat.reduceSub, Nat.reduceBEq, Nat.reduceLeDiff, Nat.reduceLT, fn_transitlaw32_InboxCommutes, e4_1, w4_1, e4_3, w4_3, e4_5, w4_5, c4_6, e4_8, w4_8, e4_10, w4_10, e4_12, w4_12, e4_14, w4_14, c4_15, e4_17, w4_17, e4_19, w4_19, c4_20, c4_21, c4_22, c4_23, c4_24, c4_25, c4_26]
    first | refine callD (example32_ok) ?_ | refine callQD (example32_ok) ?_
    simp -implicitDefEqProofs (disch := omega) only [go_sem, Nat.reduceAdd, Nat.reduceMul, Nat.reduceSub, Nat.reduceBEq, Nat.reduceLeDiff, Nat.reduceLT, fn_transitlaw32_InboxCommutes, e4_1, w4_1, e4_3, w4_3, e4_5, w4_5, c4_6, e4_8, w4_8, e4_10, w4_10, e4_12, w4_12, e4_14, w4_14, c4_15, e4_17, w4_17, e4_19, w4_19, c4_20, c4_21, c4_22, c4_23, c4_24, c4_25, c4_26]
  simp -implicitDefEqProofs (disch := omega) only [go_sem, Nat.reduceAdd, Nat.reduceMul, Nat.reduceSub, Nat.reduceBEq, Nat.reduceLeDiff, Nat.reduceLT, fn_transitlaw32_InboxCommutes, e4_1, w4_1, e4_3, w4_3, e4_5, w4_5, c4_6, e4_8, w4_8, e4_10, w4_10, e4_12, w4_12, e4_14, w4_14, c4_15, e4_17, w4_17, e4_19, w4_19, c4_20, c4_21, c4_22, c4_23, c4_24, c4_25, c4_26, hN2']
  first | refine callD (hsb) ?_ | refine callQD (hsb) ?_
  simp -implicitDefEqProofs (disch := omega) only [go_sem, Nat.reduceAdd, Nat.reduceMul, Nat.reduceSub, Nat.reduceBEq, Nat.reduceLeDiff, Nat.reduceLT, fn_transitlaw32_InboxCommutes, e4_1, w4_1, e4_3, w4_3, e4_5, w4_5, c4_6, e4_8, w4_8, e4_10, w4_10, e4_12, w4_12, e4_14, w4_14, c4_15, e4_17, w4_17, e4_19, w4_19, c4_20, c4_21, c4_22, c4_23, c4_24, c4_25, c4_26, hN2']
  refine ifB (fun h3 => ?_) (fun h3 => ?_)
  rotate_left
  · simp -implicitDefEqProofs (disch := omega) only [go_sem, Nat.reduceAdd, Nat.reduceMul, Nat.reduceSub, Nat.reduceBEq, Nat.reduceLeDiff, Nat.reduceLT, fn_transitlaw32_InboxCommutes, e4_1, w4_1, e4_3, w4_3, e4_5, w4_5, c4_6, e4_8, w4_8, e4_10, w4_10, e4_12, w4_12, e4_14, w4_14, c4_15, e4_17, w4_17, e4_19, w4_19, c4_20, c4_21, c4_22, c4_23, c4_24, c4_25, c4_26]
    first | refine callD (example32_ok) ?_ | refine callQD (example32_ok) ?_
    simp -implicitDefEqProofs (disch := omega) only [go_sem, Nat.reduceAdd, Nat.reduceMul, Nat.reduceSub, Nat.reduceBEq, Nat.reduceLeDiff, Nat.reduceLT, fn_transitlaw32_InboxCommutes, e4_1, w4_1, e4_3, w4_3, e4_5, w4_5, c4_6, e4_8, w4_8, e4_10, w4_10, e4_12, w4_12, e4_14, w4_14, c4_15, e4_17, w4_17, e4_19, w4_19, c4_20, c4_21, c4_22, c4_23, c4_24, c4_25, c4_26]
  simp -implicitDefEqProofs (disch := omega) only [go_sem, Nat.reduceAdd, Nat.reduceMul, Nat.reduceSub, Nat.reduceBEq, Nat.reduceLeDiff, Nat.reduceLT, fn_transitlaw32_InboxCommutes, e4_1, w4_1, e4_3, w4_3, e4_5, w4_5, c4_6, e4_8, w4_8, e4_10, w4_10, e4_12, w4_12, e4_14, w4_14, c4_15, e4_17, w4_17, e4_19, w4_19, c4_20, c4_21, c4_22, c4_23, c4_24, c4_25, c4_26, hN2']
  refine ifD (fun h4 => ?_) (fun h4 => ?_)
  · simp -implicitDefEqProofs (disch := omega) only [go_sem, Nat.reduceAdd, Nat.reduceMul, Nat.reduceSub, Nat.reduceBEq, Nat.reduceLeDiff, Nat.reduceLT, fn_transitlaw32_InboxCommutes, e4_1, w4_1, e4_3, w4_3, e4_5, w4_5, c4_6, e4_8, w4_8, e4_10, w4_10, e4_12, w4_12, e4_14, w4_14, c4_15, e4_17, w4_17, e4_19, w4_19, c4_20, c4_21, c4_22, c4_23, c4_24, c4_25, c4_26]
    first | refine callD (example32_ok) ?_ | refine callQD (example32_ok) ?_
    simp -implicitDefEqProofs (disch := omega) only [go_sem, Nat.reduceAdd, Nat.reduceMul, Nat.reduceSub, Nat.reduceBEq, Nat.reduceLeDiff, Nat.reduceLT, fn_transitlaw32_InboxCommutes, e4_1, w4_1, e4_3, w4_3, e4_5, w4_5, c4_6, e4_8, w4_8, e4_10, w4_10, e4_12, w4_12, e4_14, w4_14, c4_15, e4_17, w4_17, e4_19, w4_19, c4_20, c4_21, c4_22, c4_23, c4_24, c4_25, c4_26]
  simp -implicitDefEqProofs (disch := omega) only [go_sem, Nat.reduceAdd, Nat.reduceMul, Nat.reduceSub, Nat.reduceBEq, Nat.reduceLeDiff, Nat.reduceLT, fn_transitlaw32_InboxCommutes, e4_1, w4_1, e4_3, w4_3, e4_5, w4_5, c4_6, e4_8, w4_8, e4_10, w4_10, e4_12, w4_12, e4_14, w4_14, c4_15, e4_17, w4_17, e4_19, w4_19, c4_20, c4_21, c4_22, c4_23, c4_24, c4_25, c4_26, nil_ptr_eq, hN2']
  have ra := fun {M : Mem} {Y : Ibx} {id sid : Nat} (h : InAt M Y id sid) (hok : Y.Ok) => Receive_ok h hok a now ha.2.2.2.2.2.2.2.2.2.2.2.2 ha.2.2.2.2.2.1
  have rb := fun {M : Mem} {Y : Ibx} {id sid : Nat} (h : InAt M Y id sid) (hok : Y.Ok) => Receive_ok h hok b now hb.2.2.2.2.2.2.2.2.2.2.2.2 hb.2.2.2.2.2.1
  simp only [Msg.row] at ra rb
  refine callA (ra hI2 hokX) ?_
  rintro v N3 ⟨rfl, hf3, hI3⟩
  have hJ3 := hJ2.fr2 hI2 hf3 (by omega) (by omega) hI3.own
  have hokXa := hokX.recv ha now
  have hN3 : N3[0]? = some (.box R) := by rw [hf3.2 0 (by omega) (by omega) (by omega)]; exact hN2
  have hN3' := hN3
  rw [hR] at hN3'
  simp -implicitDefEqProofs (disch := omega) only [go_sem, Nat.reduceAdd, Nat.reduceMul, Nat.reduceSub, Nat.reduceBEq, Nat.reduceLeDiff, Nat.reduceLT, fn_transitlaw32_InboxCommutes, e4_1, w4_1, e4_3, w4_3, e4_5, w4_5, c4_6, e4_8, w4_8, e4_10, w4_10, e4_12, w4_12, e4_14, w4_14, c4_15, e4_17, w4_17, e4_19, w4_19, c4_20, c4_21, c4_22, c4_23, c4_24, c4_25, c4_26, hN3']
  refine callA (rb hI3 hokXa) ?_
  rintro v N4 ⟨rfl, hf4, hI4⟩
  have hJ4 := hJ3.fr2 hI3 hf4 (by omega) (by omega) hI4.own
  have hl3 := hf3.1
  have hl4 := hf4.1
  have hN4 : N4[0]? = some (.box R) := by rw [hf4.2 0 (by omega) (by omega) (by omega)]; exact hN3
  have hN4' := hN4
  rw [hR] at hN4'
  simp -implicitDefEqProofs (disch := omega) only [go_sem, Nat.reduceAdd, Nat.reduceMul, Nat.reduceSub, Nat.reduceBEq, Nat.reduceLeDiff, Nat.reduceLT, fn_transitlaw32_InboxCommutes, e4_1, w4_1, e4_3, w4_3, e4_5, w4_5, c4_6, e4_8, w4_8, e4_10, w4_10, e4_12, w4_12, e4_14, w4_14, c4_15, e4_17, w4_17, e4_19, w4_19, c4_20, c4_21, c4_22, c4_23, c4_24, c4_25, c4_26, hN4']
  refine callA (rb hJ4 hokX) ?_
  rintro v N5 ⟨rfl, hf5, hJ5⟩
  have hI5 := hI4.fr2 hJ4 hf5 (by omega) (by omega) hJ5.own
  have hokXb := hokX.recv hb now
  have hN5 : N5[0]? = some (.box R) := by rw [hf5.2 0 (by omega) (by omega) (by omega)]; exact hN4
  have hN5' := hN5
  rw [hR] at hN5'
  have hl5 := hf5.1
  simp -implicitDefEqProofs (disch := omega) only [go_sem, Nat.reduceAdd, Nat.reduceMul, Nat.reduceSub, Nat.reduceBEq, Nat.reduceLeDiff, Nat.reduceLT, fn_transitlaw32_InboxCommutes, e4_1, w4_1, e4_3, w4_3, e4_5, w4_5, c4_6, e4_8, w4_8, e4_10, w4_10, e4_12, w4_12, e4_14, w4_14, c4_15, e4_17, w4_17, e4_19, w4_19, c4_20, c4_21, c4_22, c4_23, c4_24, c4_25, c4_26, hN5']
  refine callA (ra hJ5 hokXb) ?_
  rintro v N6 ⟨rfl, hf6, hJ6⟩
  have hI6 := hI5.fr2 hJ5 hf6 (by omega) (by omega) hJ6.own
  have hN6 : N6[0]? = some (.box R) := by rw [hf6.2 0 (by omega) (by omega) (by omega)]; exact hN5
  rw [hR] at hN6
  have ok1 := hokXa.recv hb now
  have ok2 := hokXb.recv ha now
  simp -implicitDefEqProofs (disch := omega) only [go_sem, Nat.reduceAdd, Nat.reduceMul, Nat.reduceSub, Nat.reduceBEq, Nat.reduceLeDiff, Nat.reduceLT, fn_transitlaw32_InboxCommutes, e4_1, w4_1, e4_3, w4_3, e4_5, w4_5, c4_6, e4_8, w4_8, e4_10, w4_10, e4_12, w4_12, e4_14, w4_14, c4_15, e4_17, w4_17, e4_19, w4_19, c4_20, c4_21, c4_22, c4_23, c4_24, c4_25, c4_26]
  refine ifD (fun g1 => ?_) (fun g1 => ?_)
  rotate_left
  · simp -implicitDefEqProofs (disch := omega) only [go_sem, Nat.reduceAdd, Nat.reduceMul, Nat.reduceSub, Nat.reduceBEq, Nat.reduceLeDiff, Nat.reduceLT, fn_transitlaw32_InboxCommutes, e4_1, w4_1, e4_3, w4_3, e4_5, w4_5, c4_6, e4_8, w4_8, e4_10, w4_10, e4_12, w4_12, e4_14, w4_14, c4_15, e4_17, w4_17, e4_19, w4_19, c4_20, c4_21, c4_22, c4_23, c4_24, c4_25, c4_26]
    first | refine callD (example32_ok) ?_ | refine callQD (example32_ok) ?_
    simp -implicitDefEqProofs (disch := omega) only [go_sem, Nat.reduceAdd, Nat.reduceMul, Nat.reduceSub, Nat.reduceBEq, Nat.reduceLeDiff, Nat.reduceLT, fn_transitlaw32_InboxCommutes, e4_1, w4_1, e4_3, w4_3, e4_5, w4_5, c4_6, e4_8, w4_8, e4_10, w4_10, e4_12, w4_12, e4_14, w4_14, c4_15, e4_17, w4_17, e4_19, w4_19, c4_20, c4_21, c4_22, c4_23, c4_24, c4_25, c4_26]
  simp -implicitDefEqProofs (disch := omega) only [go_sem, Nat.reduceAdd, Nat.reduceMul, Nat.reduceSub, Nat.reduceBEq, Nat.reduceLeDiff, Nat.reduceLT, fn_transitlaw32_InboxCommutes, e4_1, w4_1, e4_3, w4_3, e4_5, w4_5, c4_6, e4_8, w4_8, e4_10, w4_10, e4_12, w4_12, e4_14, w4_14, c4_15, e4_17, w4_17, e4_19, w4_19, c4_20, c4_21, c4_22, c4_23, c4_24, c4_25, c4_26]
  refine ifD (fun g2 => ?_) (fun g2 => ?_)
  rotate_left
  · simp -implicitDefEqProofs (disch := omega) only [go_sem, Nat.reduceAdd, Nat.reduceMul, Nat.reduceSub, Nat.reduceBEq, Nat.reduceLeDiff, Nat.reduceLT, fn_transitlaw32_InboxCommutes, e4_1, w4_1, e4_3, w4_3, e4_5, w4_5, c4_6, e4_8, w4_8, e4_10, w4_10, e4_12, w4_12, e4_14, w4_14, c4_15, e4_17, w4_17, e4_19, w4_19, c4_20, c4_21, c4_22, c4_23, c4_24, c4_25, c4_26]
    first | refine callD (example32_ok) ?_ | refine callQD (example32_ok) ?_
    simp -implicitDefEqProofs (disch := omega) only [go_sem, Nat.reduceAdd, Nat.reduceMul, Nat.reduceSub, Nat.reduceBEq, Nat.reduceLeDiff, Nat.reduceLT, fn_transitlaw32_InboxCommutes, e4_1, w4_1, e4_3, w4_3, e4_5, w4_5, c4_6, e4_8, w4_8, e4_10, w4_10, e4_12, w4_12, e4_14, w4_14, c4_15, e4_17, w4_17, e4_19, w4_19, c4_20, c4_21, c4_22, c4_23, c4_24, c4_25, c4_26]
  simp -implicitDefEqProofs (disch := omega) only [go_sem, Nat.reduceAdd, Nat.reduceMul, Nat.reduceSub, Nat.reduceBEq, Nat.reduceLeDiff, Nat.reduceLT, fn_transitlaw32_InboxCommutes, e4_1, w4_1, e4_3, w4_3, e4_5, w4_5, c4_6, e4_8, w4_8, e4_10, w4_10, e4_12, w4_12, e4_14, w4_14, c4_15, e4_17, w4_17, e4_19, w4_19, c4_20, c4_21, c4_22, c4_23, c4_24, c4_25, c4_26]
  refine ifD (fun g3 => ?_) (fun g3 => ?_)
  rotate_left
  · simp -implicitDefEqProofs (disch := omega) only [go_sem, Nat.reduceAdd, Nat.reduceMul, Nat.reduceSub, Nat.reduceBEq, Nat.reduceLeDiff, Nat.reduceLT, fn_transitlaw32_InboxCommutes, e4_1, w4_1, e4_3, w4_3, e4_5, w4_5, c4_6, e4_8, w4_8, e4_10, w4_10, e4_12, w4_12, e4_14, w4_14, c4_15, e4_17, w4_17, e4_19, w4_19, c4_20, c4_21, c4_22, c4_23, c4_24, c4_25, c4_26]
    first | refine callD (example32_ok) ?_ | refine callQD (example32_ok) ?_
    simp -implicitDefEqProofs (disch := omega) only [go_sem, Nat.reduceAdd, Nat.reduceMul, Nat.reduceSub, Nat.reduceBEq, Nat.reduceLeDiff, Nat.reduceLT, fn_transitlaw32_InboxCommutes, e4_1, w4_1, e4_3, w4_3, e4_5, w4_5, c4_6, e4_8, w4_8, e4_10, w4_10, e4_12, w4_12, e4_14, w4_14, c4_15, e4_17, w4_17, e4_19, w4_19, c4_20, c4_21, c4_22, c4_23, c4_24, c4_25, c4_26]
  simp -implicitDefEqProofs (disch := omega) only [go_sem, Nat.reduceAdd, Nat.reduceMul, Nat.reduceSub, Nat.reduceBEq, Nat.reduceLeDiff, Nat.reduceLT, fn_transitlaw32_InboxCommutes, e4_1, w4_1, e4_3, w4_3, e4_5, w4_5, c4_6, e4_8, w4_8, e4_10, w4_10, e4_12, w4_12, e4_14, w4_14, c4_15, e4_17, w4_17, e4_19, w4_19, c4_20, c4_21, c4_22, c4_23, c4_24, c4_25, c4_26]
  refine ifD (fun g4 => ?_) (fun g4 => ?_)
  rotate_left
  · simp -implicitDefEqProofs (disch := omega) only [go_sem, Nat.reduceAdd, Nat.reduceMul, Nat.reduceSub, Nat.reduceBEq, Nat.reduceLeDiff, Nat.reduceLT, fn_transitlaw32_InboxCommutes, e4_1, w4_1, e4_3, w4_3, e4_5, w4_5, c4_6, e4_8, w4_8, e4_10, w4_10, e4_12, w4_12, e4_14, w4_14, c4_15, e4_17, w4_17, e4_19, w4_19, c4_20, c4_21, c4_22, c4_23, c4_24, c4_25, c4_26]
    first | refine callD (example32_ok) ?_ | refine callQD (example32_ok) ?_
    simp -implicitDefEqProofs (disch := omega) only [go_sem, Nat.reduceAdd, Nat.reduceMul, Nat.reduceSub, Nat.reduceBEq, Nat.reduceLeDiff, Nat.reduceLT, fn_transitlaw32_InboxCommutes, e4_1, w4_1, e4_3, w4_3, e4_5, w4_5, c4_6, e4_8, w4_8, e4_10, w4_10, e4_12, w4_12, e4_14, w4_14, c4_15, e4_17, w4_17, e4_19, w4_19, c4_20, c4_21, c4_22, c4_23, c4_24, c4_25, c4_26]
  have hcom := recv_comm (at' := at') g1 g2 g3 g4 h4
  obtain ⟨hal, hac⟩ := activeL_calls ok2 at'
  simp -implicitDefEqProofs (disch := omega) only [go_sem, Nat.reduceAdd, Nat.reduceMul, Nat.reduceSub, Nat.reduceBEq, Nat.reduceLeDiff, Nat.reduceLT, fn_transitlaw32_InboxCommutes, e4_1, w4_1, e4_3, w4_3, e4_5, w4_5, c4_6, e4_8, w4_8, e4_10, w4_10, e4_12, w4_12, e4_14, w4_14, c4_15, e4_17, w4_17, e4_19, w4_19, c4_20, c4_21, c4_22, c4_23, c4_24, c4_25, c4_26, hN6]
  refine callQM (Active_okc hI6 ok1 at' hat) ?_
  rw [hcom]
  simp -implicitDefEqProofs (disch := omega) only [go_sem, Nat.reduceAdd, Nat.reduceMul, Nat.reduceSub, Nat.reduceBEq, Nat.reduceLeDiff, Nat.reduceLT, fn_transitlaw32_InboxCommutes, e4_1, w4_1, e4_3, w4_3, e4_5, w4_5, c4_6, e4_8, w4_8, e4_10, w4_10, e4_12, w4_12, e4_14, w4_14, c4_15, e4_17, w4_17, e4_19, w4_19, c4_20, c4_21, c4_22, c4_23, c4_24, c4_25, c4_26, hN6]
  refine callA (Active_okc hJ6 ok2 at' hat) ?_
  rintro v N7 ⟨rfl, rfl⟩
  refine callP (Same_ok (activeL (recvI (recvI X b now) a now) at') (activeL (recvI (recvI X b now) a now) at') _ _ (by omega) hac) ?_
  rintro v ⟨r, rfl, hr⟩
  obtain rfl := hr.2 rfl
  simp -implicitDefEqProofs (disch := omega) only [go_sem, Nat.reduceAdd, Nat.reduceMul, Nat.reduceSub, Nat.reduceBEq, Nat.reduceLeDiff, Nat.reduceLT, fn_transitlaw32_InboxCommutes, e4_1, w4_1, e4_3, w4_3, e4_5, w4_5, c4_6, e4_8, w4_8, e4_10, w4_10, e4_12, w4_12, e4_14, w4_14, c4_15, e4_17, w4_17, e4_19, w4_19, c4_20, c4_21, c4_22, c4_23, c4_24, c4_25, c4_26]
  first | refine callD (example32_ok) ?_ | refine callQD (example32_ok) ?_
  simp -implicitDefEqProofs (disch := omega) only [go_sem, Nat.reduceAdd, Nat.reduceMul, Nat.reduceSub, Nat.reduceBEq, Nat.reduceLeDiff, Nat.reduceLT, fn_transitlaw32_InboxCommutes, e4_1, w4_1, e4_3, w4_3, e4_5, w4_5, c4_6, e4_8, w4_8, e4_10, w4_10, e4_12, w4_12, e4_14, w4_14, c4_15, e4_17, w4_17, e4_19, w4_19, c4_20, c4_21, c4_22, c4_23, c4_24, c4_25, c4_26]

end Go.Vm.C

