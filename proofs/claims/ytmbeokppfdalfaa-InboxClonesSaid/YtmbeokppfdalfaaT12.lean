/- The statement InboxClones. -/
import Derived.Test.YtmbeokppfdalfaaT11

namespace Go.Vm.C
open Go.Vm
set_option maxHeartbeats 1000000
set_option maxRecDepth 10000
set_option linter.unusedSimpArgs false
set_option linter.unusedVariables false

/-! ### Copies -/
def Ibx.own (b : Ibx) : Ibx := ⟨b.srcs, b.pat, b.kept.map Msg.own⟩
theorem app_clone {M : Mem} {sid : Nat} {l : List Src} (h : M[sid]? = some (.arr 4 (l.map Src.row) 0 0)) (h1 : 1 ≤ l.length) (h8 : l.length ≤ 8) : appV false 4 32 (.slice [] .nil) (.mslice sid 0 0 l.length) M = some (.mslice M.length 0 0 l.length, M ++ [.arr 4 (l.map Src.row) 0 0]) := by
  have ht : (l.map Src.row).take l.length = l.map Src.row := List.take_of_length_le (by simp)
  cases l with
  | nil => simp at h1
  | cons s r =>
    simp only [appV, rowsV, h, beq_self_eq_true, Bool.and_true, Nat.zero_add, List.length_map, Nat.le_refl, decide_true, cond_true, List.drop_zero, ht]
    simp only [List.map_cons, List.length_cons] at *
    have e : decide ((r.length + 1) * 64 ≤ 281474976710656) = true := decide_eq_true (by omega)
    simp [appendV, headLen]
    rw [e]
    rfl
theorem Clone_ok {M : Mem} {b : Ibx} {id sid : Nat} (h : InAt M b id sid) (hok : b.Ok) :
    ACalls PR i_inbox_Inbox_Clone [.ptr id 0] M (fun v N => v = .ptr (M.length + 1) 0 ∧ (∃ L, N = M ++ L ∧ memUnder (M.length + L.length) L = true) ∧ InAt N b.own (M.length + 1) M.length) := by
  obtain ⟨kv, hb, hk⟩ := h.box
  have hcl := app_clone h.src hok.n1 hok.n8
  have h1 := h.app [.arr 4 (b.srcs.map Src.row) 0 0] rfl
  have hb' := fun L => mget hb L
  have hms := Messages_ok h1 hok
  refine acalls_keep fn_inbox_Inbox_Clone_ok (by simp [fn_inbox_Inbox_Clone]) ?_
  simp only [wpKeep]
  simp -implicitDefEqProofs (disch := omega) only [go_sem, Nat.reduceAdd, Nat.reduceMul, Nat.reduceSub, Nat.reduceBEq, Nat.reduceLeDiff, Nat.reduceLT, fn_inbox_Inbox_Clone, e30_1, w30_1, e30_3, w30_3, c30_4, e30_6, w30_6, e30_8, w30_8, e30_10, w30_10, c30_11, c30_12, c30_13, c30_14, nil_ptr_eq, nc_ptr, hb, hb', hcl]
  refine callA hms ?_
  rintro v N ⟨rfl, rfl⟩
  simp -implicitDefEqProofs (disch := omega) only [go_sem, Nat.reduceAdd, Nat.reduceMul, Nat.reduceSub, Nat.reduceBEq, Nat.reduceLeDiff, Nat.reduceLT, fn_inbox_Inbox_Clone, e30_1, w30_1, e30_3, w30_3, c30_4, e30_6, w30_6, e30_8, w30_8, e30_10, w30_10, c30_11, c30_12, c30_13, c30_14, nc_ptr, hb', List.append_assoc]
  have hu : memUnder (M.length + 2) [.arr 4 (b.srcs.map Src.row) 0 0, .box [.mslice M.length 0 0 b.srcs.length, .int .i64 b.pat, .slice ((b.kept.map Msg.own).map Msg.row) .unk]] = true := by
    simp [memUnder, Blk.under, underL, V.under]
  refine ⟨⟨_, rfl, hu⟩, own_mem h.own _ hu, by rw [get_at0]; rfl, _, by rw [get_at]; rfl, .inl ⟨.unk, rfl⟩⟩
theorem Ibx.Ok.own {b : Ibx} (h : b.Ok) : b.own.Ok := ⟨h.n1, h.n8, h.pat, h.last, by simpa [Ibx.own] using h.kept, fun m hm => by
  obtain ⟨y, hy, rfl⟩ := List.mem_map.1 hm
  exact h.msg y hy⟩
theorem keepM_own (p : Msg → Bool) (hp : ∀ m, p m.own = p m) (l : List Msg) : keepM p (l.map Msg.own) = keepM p l := by
  rw [keepM, List.filter_map, List.map_map]
  have e : (p ∘ Msg.own) = p := funext hp
  rw [e]; rfl
theorem active_own (b : Ibx) (now : Int) : activeL b.own now = activeL b now := by
  unfold activeL
  have e : curB b.own now = curB b now := rfl
  rw [e]
  exact congrArg actL (keepM_own _ (fun _ => rfl) _)
/-- What is done to another inbox leaves this one. -/
theorem InAt.fr {M L N : Mem} {b : Ibx} {id sid i2 s2 : Nat} (h : InAt M b id sid) (hf : Fr (M ++ L) N i2 s2) (h1 : M.length ≤ i2) (h2 : M.length ≤ s2) (hN : memUnder N.length N = true) : InAt N b id sid := by
  obtain ⟨kv, hb, hk⟩ := h.box
  obtain ⟨q1, q2, _⟩ := h.lt
  have get : ∀ {j : Nat} {B : Blk}, M[j]? = some B → N[j]? = some B := fun {j B} hj => by
    have hlt := (List.getElem?_eq_some_iff.1 hj).1
    rw [hf.2 j (by simp; omega) (by omega) (by omega), List.getElem?_append_left hlt]
    exact hj
  refine ⟨hN, get h.src, kv, get hb, ?_⟩
  rcases hk with ⟨c, rfl⟩ | ⟨kid, ver, rfl, h3⟩
  · exact .inl ⟨c, rfl⟩
  · exact .inr ⟨kid, ver, rfl, get h3⟩
theorem activeL_calls {b : Ibx} (hok : b.Ok) (now : Int) : (activeL b now).length ≤ 256 ∧ ∀ x ∈ activeL b now, x.calls.length ≤ 1000 := by
  refine ⟨?_, fun x hx => ?_⟩
  · have h2 := actUp_len (keepM (curB b now) b.kept) (keepM (curB b now) b.kept).length
    rw [actUp_all] at h2
    exact Nat.le_trans h2 (Nat.le_trans (keepM_len _ _) hok.kept)
  · have hx2 : x ∈ keepM (curB b now) b.kept := (mem_actL.1 hx).1
    obtain ⟨y, hy, _, rfl⟩ := mem_keepM hx2
    have := (hok.msg y hy).2.1
    show y.calls.length ≤ 1000
    omega

/-! ### The statement InboxClones -/
theorem InboxClones_law (pat : Int) (l : List Oper) (c : Cap) (o : Oper) (hl : ∀ o ∈ l, o.wf) (hlen : l.length ≤ maxLen) (ho : o.wf) : PCalls PR i_transitlaw32_InboxClones [.int .i64 pat, .slice (l.map Oper.row) c, .agg o.row] (fun v => v = .bool true) := by
  have hm : maxLen = 9223372036854775807 := by rfl
  have hsm := small_ok o.m
  simp only [Msg.row] at hsm
  have hn : I64 o.now := ho.2.2.2
  refine acalls_pop fn_transitlaw32_InboxClones_ok (by simp [fn_transitlaw32_InboxClones]) ?_
  simp -implicitDefEqProofs (disch := omega) only [go_sem, Nat.reduceAdd, Nat.reduceMul, Nat.reduceSub, Nat.reduceBEq, Nat.reduceLeDiff, Nat.reduceLT, fn_transitlaw32_InboxClones, e8_1, w8_1, e8_3, w8_3, e8_5, w8_5, c8_6, e8_8, w8_8, e8_10, w8_10, e8_12, w8_12, e8_14, w8_14, c8_15, e8_17, w8_17, e8_19, w8_19, e8_21, w8_21, e8_23, w8_23, c8_24, c8_25, c8_26, c8_27, c8_28, c8_29, c8_30, c8_31, c8_32, slice_opers, Oper.row, Msg.row]
  refine callA (played_ok (M := [.box o.row]) (by simp [memUnder, Blk.under, Oper.row, Msg.row, underL, V.under]) pat (l.take 40) _ (fun o ho => hl o (List.mem_of_mem_take ho)) (by simp; omega)) ?_
  rintro v N ⟨hb, hg⟩
  have hsh := shorts_ok l c hlen
  by_cases h0 : newErr 3 pat = 0
  rotate_left
  · obtain ⟨rfl, rfl⟩ := hb h0
    simp -implicitDefEqProofs (disch := omega) only [go_sem, Nat.reduceAdd, Nat.reduceMul, Nat.reduceSub, Nat.reduceBEq, Nat.reduceLeDiff, Nat.reduceLT, fn_transitlaw32_InboxClones, e8_1, w8_1, e8_3, w8_3, e8_5, w8_5, c8_6, e8_8, w8_8, e8_10, w8_10, e8_12, w8_12, e8_14, w8_14, c8_15, e8_17, w8_17, e8_19, w8_19, e8_21, w8_21, e8_23, w8_23, c8_24, c8_25, c8_26, c8_27, c8_28, c8_29, c8_30, c8_31, c8_32]
    first | refine callD (hsh) ?_ | refine callQD (hsh) ?_
    simp -implicitDefEqProofs (disch := omega) only [go_sem, Nat.reduceAdd, Nat.reduceMul, Nat.reduceSub, Nat.reduceBEq, Nat.reduceLeDiff, Nat.reduceLT, fn_transitlaw32_InboxClones, e8_1, w8_1, e8_3, w8_3, e8_5, w8_5, c8_6, e8_8, w8_8, e8_10, w8_10, e8_12, w8_12, e8_14, w8_14, c8_15, e8_17, w8_17, e8_19, w8_19, e8_21, w8_21, e8_23, w8_23, c8_24, c8_25, c8_26, c8_27, c8_28, c8_29, c8_30, c8_31, c8_32, Oper.row, Msg.row]
    refine ifB (fun h1 => ?_) (fun h1 => ?_)
    rotate_left
    · simp -implicitDefEqProofs (disch := omega) only [go_sem, Nat.reduceAdd, Nat.reduceMul, Nat.reduceSub, Nat.reduceBEq, Nat.reduceLeDiff, Nat.reduceLT, fn_transitlaw32_InboxClones, e8_1, w8_1, e8_3, w8_3, e8_5, w8_5, c8_6, e8_8, w8_8, e8_10, w8_10, e8_12, w8_12, e8_14, w8_14, c8_15, e8_17, w8_17, e8_19, w8_19, e8_21, w8_21, e8_23, w8_23, c8_24, c8_25, c8_26, c8_27, c8_28, c8_29, c8_30, c8_31, c8_32]
      first | refine callD (example32_ok) ?_ | refine callQD (example32_ok) ?_
      simp -implicitDefEqProofs (disch := omega) only [go_sem, Nat.reduceAdd, Nat.reduceMul, Nat.reduceSub, Nat.reduceBEq, Nat.reduceLeDiff, Nat.reduceLT, fn_transitlaw32_InboxClones, e8_1, w8_1, e8_3, w8_3, e8_5, w8_5, c8_6, e8_8, w8_8, e8_10, w8_10, e8_12, w8_12, e8_14, w8_14, c8_15, e8_17, w8_17, e8_19, w8_19, e8_21, w8_21, e8_23, w8_23, c8_24, c8_25, c8_26, c8_27, c8_28, c8_29, c8_30, c8_31, c8_32]
    simp -implicitDefEqProofs (disch := omega) only [go_sem, Nat.reduceAdd, Nat.reduceMul, Nat.reduceSub, Nat.reduceBEq, Nat.reduceLeDiff, Nat.reduceLT, fn_transitlaw32_InboxClones, e8_1, w8_1, e8_3, w8_3, e8_5, w8_5, c8_6, e8_8, w8_8, e8_10, w8_10, e8_12, w8_12, e8_14, w8_14, c8_15, e8_17, w8_17, e8_19, w8_19, e8_21, w8_21, e8_23, w8_23, c8_24, c8_25, c8_26, c8_27, c8_28, c8_29, c8_30, c8_31, c8_32, Oper.row, Msg.row]
    first | refine callD (hsm) ?_ | refine callQD (hsm) ?_
    simp -implicitDefEqProofs (disch := omega) only [go_sem, Nat.reduceAdd, Nat.reduceMul, Nat.reduceSub, Nat.reduceBEq, Nat.reduceLeDiff, Nat.reduceLT, fn_transitlaw32_InboxClones, e8_1, w8_1, e8_3, w8_3, e8_5, w8_5, c8_6, e8_8, w8_8, e8_10, w8_10, e8_12, w8_12, e8_14, w8_14, c8_15, e8_17, w8_17, e8_19, w8_19, e8_21, w8_21, e8_23, w8_23, c8_24, c8_25, c8_26, c8_27, c8_28, c8_29, c8_30, c8_31, c8_32, nil_eq]
    refine ifB (fun h2 => ?_) (fun h2 => ?_)
    · simp -implicitDefEqProofs (disch := omega) only [go_sem, Nat.reduceAdd, Nat.reduceMul, Nat.reduceSub, Nat.reduceBEq, Nat.reduceLeDiff, Nat.reduceLT, fn_transitlaw32_InboxClones, e8_1, w8_1, e8_3, w8_3, e8_5, w8_5, c8_6, e8_8, w8_8, e8_10, w8_10, e8_12, w8_12, e8_14, w8_14, c8_15, e8_17, w8_17, e8_19, w8_19, e8_21, w8_21, e8_23, w8_23, c8_24, c8_25, c8_26, c8_27, c8_28, c8_29, c8_30, c8_31, c8_32, nil_eq]
      first | refine callD (example32_ok) ?_ | refine callQD (example32_ok) ?_
      simp -implicitDefEqProofs (disch := omega) only [go_sem, Nat.reduceAdd, Nat.reduceMul, Nat.reduceSub, Nat.reduceBEq, Nat.reduceLeDiff, Nat.reduceLT, fn_transitlaw32_InboxClones, e8_1, w8_1, e8_3, w8_3, e8_5, w8_5, c8_6, e8_8, w8_8, e8_10, w8_10, e8_12, w8_12, e8_14, w8_14, c8_15, e8_17, w8_17, e8_19, w8_19, e8_21, w8_21, e8_23, w8_23, c8_24, c8_25, c8_26, c8_27, c8_28, c8_29, c8_30, c8_31, c8_32]
    · simp -implicitDefEqProofs (disch := omega) only [go_sem, Nat.reduceAdd, Nat.reduceMul, Nat.reduceSub, Nat.reduceBEq, Nat.reduceLeDiff, Nat.reduceLT, fn_transitlaw32_InboxClones, e8_1, w8_1, e8_3, w8_3, e8_5, w8_5, c8_6, e8_8, w8_8, e8_10, w8_10, e8_12, w8_12, e8_14, w8_14, c8_15, e8_17, w8_17, e8_19, w8_19, e8_21, w8_21, e8_23, w8_23, c8_24, c8_25, c8_26, c8_27, c8_28, c8_29, c8_30, c8_31, c8_32]
      first | refine callD (example32_ok) ?_ | refine callQD (example32_ok) ?_
      simp -implicitDefEqProofs (disch := omega) only [go_sem, Nat.reduceAdd, Nat.reduceMul, Nat.reduceSub, Nat.reduceBEq, Nat.reduceLeDiff, Nat.reduceLT, fn_transitlaw32_InboxClones, e8_1, w8_1, e8_3, w8_3, e8_5, w8_5, c8_6, e8_8, w8_8, e8_10, w8_10, e8_12, w8_12, e8_14, w8_14, c8_15, e8_17, w8_17, e8_19, w8_19, e8_21, w8_21, e8_23, w8_23, c8_24, c8_25, c8_26, c8_27, c8_28, c8_29, c8_30, c8_31, c8_32]
  obtain ⟨rfl, hfr, hI⟩ := hg h0
  have hN0 : N[0]? = some (.box o.row) := by
    rw [hfr.2 0 (by simp) (by simp) (by simp)]; rfl
  simp only [List.length_cons, List.length_nil, Nat.zero_add, Nat.reduceAdd] at hI hfr
  simp only [Oper.row, Msg.row, List.cons_append, List.nil_append] at hN0
  simp -implicitDefEqProofs (disch := omega) only [go_sem, Nat.reduceAdd, Nat.reduceMul, Nat.reduceSub, Nat.reduceBEq, Nat.reduceLeDiff, Nat.reduceLT, fn_transitlaw32_InboxClones, e8_1, w8_1, e8_3, w8_3, e8_5, w8_5, c8_6, e8_8, w8_8, e8_10, w8_10, e8_12, w8_12, e8_14, w8_14, c8_15, e8_17, w8_17, e8_19, w8_19, e8_21, w8_21, e8_23, w8_23, c8_24, c8_25, c8_26, c8_27, c8_28, c8_29, c8_30, c8_31, c8_32]
  first | refine callD (hsh) ?_ | refine callQD (hsh) ?_
  simp -implicitDefEqProofs (disch := omega) only [go_sem, Nat.reduceAdd, Nat.reduceMul, Nat.reduceSub, Nat.reduceBEq, Nat.reduceLeDiff, Nat.reduceLT, fn_transitlaw32_InboxClones, e8_1, w8_1, e8_3, w8_3, e8_5, w8_5, c8_6, e8_8, w8_8, e8_10, w8_10, e8_12, w8_12, e8_14, w8_14, c8_15, e8_17, w8_17, e8_19, w8_19, e8_21, w8_21, e8_23, w8_23, c8_24, c8_25, c8_26, c8_27, c8_28, c8_29, c8_30, c8_31, c8_32, hN0]
  refine ifB (fun h1 => ?_) (fun h1 => ?_)
  rotate_left
  · simp -implicitDefEqProofs (disch := omega) only [go_sem, Nat.reduceAdd, Nat.reduceMul, Nat.reduceSub, Nat.reduceBEq, Nat.reduceLeDiff, Nat.reduceLT, fn_transitlaw32_InboxClones, e8_1, w8_1, e8_3, w8_3, e8_5, w8_5, c8_6, e8_8, w8_8, e8_10, w8_10, e8_12, w8_12, e8_14, w8_14, c8_15, e8_17, w8_17, e8_19, w8_19, e8_21, w8_21, e8_23, w8_23, c8_24, c8_25, c8_26, c8_27, c8_28, c8_29, c8_30, c8_31, c8_32]
    first | refine callD (example32_ok) ?_ | refine callQD (example32_ok) ?_
    simp -implicitDefEqProofs (disch := omega) only [go_sem, Nat.reduceAdd, Nat.reduceMul, Nat.reduceSub, Nat.reduceBEq, Nat.reduceLeDiff, Nat.reduceLT, fn_transitlaw32_InboxClones, e8_1, w8_1, e8_3, w8_3, e8_5, w8_5, c8_6, e8_8, w8_8, e8_10, w8_10, e8_12, w8_12, e8_14, w8_14, c8_15, e8_17, w8_17, e8_19, w8_19, e8_21, w8_21, e8_23, w8_23, c8_24, c8_25, c8_26, c8_27, c8_28, c8_29, c8_30, c8_31, c8_32]
  simp -implicitDefEqProofs (disch := omega) only [go_sem, Nat.reduceAdd, Nat.reduceMul, Nat.reduceSub, Nat.reduceBEq, Nat.reduceLeDiff, Nat.reduceLT, fn_transitlaw32_InboxClones, e8_1, w8_1, e8_3, w8_3, e8_5, w8_5, c8_6, e8_8, w8_8, e8_10, w8_10, e8_12, w8_12, e8_14, w8_14, c8_15, e8_17, w8_17, e8_19, w8_19, e8_21, w8_21, e8_23, w8_23, c8_24, c8_25, c8_26, c8_27, c8_28, c8_29, c8_30, c8_31, c8_32, hN0]
  first | refine callD (hsm) ?_ | refine callQD (hsm) ?_
  simp -implicitDefEqProofs (disch := omega) only [go_sem, Nat.reduceAdd, Nat.reduceMul, Nat.reduceSub, Nat.reduceBEq, Nat.reduceLeDiff, Nat.reduceLT, fn_transitlaw32_InboxClones, e8_1, w8_1, e8_3, w8_3, e8_5, w8_5, c8_6, e8_8, w8_8, e8_10, w8_10, e8_12, w8_12, e8_14, w8_14, c8_15, e8_17, w8_17, e8_19, w8_19, e8_21, w8_21, e8_23, w8_23, c8_24, c8_25, c8_26, c8_27, c8_28, c8_29, c8_30, c8_31, c8_32]
  refine ifB (fun h2 => ?_) (fun h2 => ?_)
  rotate_left
  · simp -implicitDefEqProofs (disch := omega) only [go_sem, Nat.reduceAdd, Nat.reduceMul, Nat.reduceSub, Nat.reduceBEq, Nat.reduceLeDiff, Nat.reduceLT, fn_transitlaw32_InboxClones, e8_1, w8_1, e8_3, w8_3, e8_5, w8_5, c8_6, e8_8, w8_8, e8_10, w8_10, e8_12, w8_12, e8_14, w8_14, c8_15, e8_17, w8_17, e8_19, w8_19, e8_21, w8_21, e8_23, w8_23, c8_24, c8_25, c8_26, c8_27, c8_28, c8_29, c8_30, c8_31, c8_32]
    first | refine callD (example32_ok) ?_ | refine callQD (example32_ok) ?_
    simp -implicitDefEqProofs (disch := omega) only [go_sem, Nat.reduceAdd, Nat.reduceMul, Nat.reduceSub, Nat.reduceBEq, Nat.reduceLeDiff, Nat.reduceLT, fn_transitlaw32_InboxClones, e8_1, w8_1, e8_3, w8_3, e8_5, w8_5, c8_6, e8_8, w8_8, e8_10, w8_10, e8_12, w8_12, e8_14, w8_14, c8_15, e8_17, w8_17, e8_19, w8_19, e8_21, w8_21, e8_23, w8_23, c8_24, c8_25, c8_26, c8_27, c8_28, c8_29, c8_30, c8_31, c8_32]
  simp only [shortB, Bool.and_eq_true, decide_eq_true_eq] at h1
  have ht : l.take 40 = l := List.take_of_length_le h1.1
  rw [ht] at hI
  have hok : (runI (startI 3 pat) l).Ok := runI_ok hl (startI_ok (n := 3) h0)
  generalize runI (startI 3 pat) l = b at *
  have hown := hI.own
  have hlt := hI.lt
  simp -implicitDefEqProofs (disch := omega) only [go_sem, Nat.reduceAdd, Nat.reduceMul, Nat.reduceSub, Nat.reduceBEq, Nat.reduceLeDiff, Nat.reduceLT, fn_transitlaw32_InboxClones, e8_1, w8_1, e8_3, w8_3, e8_5, w8_5, c8_6, e8_8, w8_8, e8_10, w8_10, e8_12, w8_12, e8_14, w8_14, c8_15, e8_17, w8_17, e8_19, w8_19, e8_21, w8_21, e8_23, w8_23, c8_24, c8_25, c8_26, c8_27, c8_28, c8_29, c8_30, c8_31, c8_32, nil_ptr_eq]
  refine callA (Clone_ok hI hok) ?_
  rintro v N2 ⟨rfl, ⟨L, rfl, hLu⟩, hC⟩
  have hokC := hok.own
  have hI2 := hI.app L hLu
  have hN0' := fun L => mget hN0 L
  have hkeptl : (b.kept.map Msg.own).length ≤ 1000 := by have := hok.kept; simp; omega
  have hkeptc : ∀ x ∈ b.kept.map Msg.own, x.calls.length ≤ 1000 := fun x hx => by
    obtain ⟨y, hy, rfl⟩ := List.mem_map.1 hx
    have := (hok.msg y hy).2.1
    show y.calls.length ≤ 1000
    omega
  obtain ⟨hal, hac⟩ := activeL_calls hok o.now
  simp -implicitDefEqProofs (disch := omega) only [go_sem, Nat.reduceAdd, Nat.reduceMul, Nat.reduceSub, Nat.reduceBEq, Nat.reduceLeDiff, Nat.reduceLT, fn_transitlaw32_InboxClones, e8_1, w8_1, e8_3, w8_3, e8_5, w8_5, c8_6, e8_8, w8_8, e8_10, w8_10, e8_12, w8_12, e8_14, w8_14, c8_15, e8_17, w8_17, e8_19, w8_19, e8_21, w8_21, e8_23, w8_23, c8_24, c8_25, c8_26, c8_27, c8_28, c8_29, c8_30, c8_31, c8_32, hN0']
  refine callQM (Messages_ok hI2 hok) ?_
  simp -implicitDefEqProofs (disch := omega) only [go_sem, Nat.reduceAdd, Nat.reduceMul, Nat.reduceSub, Nat.reduceBEq, Nat.reduceLeDiff, Nat.reduceLT, fn_transitlaw32_InboxClones, e8_1, w8_1, e8_3, w8_3, e8_5, w8_5, c8_6, e8_8, w8_8, e8_10, w8_10, e8_12, w8_12, e8_14, w8_14, c8_15, e8_17, w8_17, e8_19, w8_19, e8_21, w8_21, e8_23, w8_23, c8_24, c8_25, c8_26, c8_27, c8_28, c8_29, c8_30, c8_31, c8_32, hN0']
  refine callA (Active_ok hI2 hok o.now hn) ?_
  rintro v N3 ⟨⟨c1, rfl⟩, rfl⟩
  have own2 : ∀ l : List Msg, (l.map Msg.own).map Msg.own = l.map Msg.own := fun l => by rw [List.map_map]; rfl
  simp -implicitDefEqProofs (disch := omega) only [go_sem, Nat.reduceAdd, Nat.reduceMul, Nat.reduceSub, Nat.reduceBEq, Nat.reduceLeDiff, Nat.reduceLT, fn_transitlaw32_InboxClones, e8_1, w8_1, e8_3, w8_3, e8_5, w8_5, c8_6, e8_8, w8_8, e8_10, w8_10, e8_12, w8_12, e8_14, w8_14, c8_15, e8_17, w8_17, e8_19, w8_19, e8_21, w8_21, e8_23, w8_23, c8_24, c8_25, c8_26, c8_27, c8_28, c8_29, c8_30, c8_31, c8_32, nil_ptr_eq, hN0']
  refine callA (Messages_ok hC hokC) ?_
  rintro v N4 ⟨rfl, rfl⟩
  have e1 : b.own.kept.map Msg.own = b.kept.map Msg.own := own2 b.kept
  rw [e1]
  simp -implicitDefEqProofs (disch := omega) only [go_sem, Nat.reduceAdd, Nat.reduceMul, Nat.reduceSub, Nat.reduceBEq, Nat.reduceLeDiff, Nat.reduceLT, fn_transitlaw32_InboxClones, e8_1, w8_1, e8_3, w8_3, e8_5, w8_5, c8_6, e8_8, w8_8, e8_10, w8_10, e8_12, w8_12, e8_14, w8_14, c8_15, e8_17, w8_17, e8_19, w8_19, e8_21, w8_21, e8_23, w8_23, c8_24, c8_25, c8_26, c8_27, c8_28, c8_29, c8_30, c8_31, c8_32, hN0']
  refine callP (Same_ok (b.kept.map Msg.own) (b.kept.map Msg.own) .unk .unk hkeptl hkeptc) ?_
  rintro v ⟨r, rfl, hr⟩
  obtain rfl := hr.2 rfl
  simp -implicitDefEqProofs (disch := omega) only [go_sem, Nat.reduceAdd, Nat.reduceMul, Nat.reduceSub, Nat.reduceBEq, Nat.reduceLeDiff, Nat.reduceLT, fn_transitlaw32_InboxClones, e8_1, w8_1, e8_3, w8_3, e8_5, w8_5, c8_6, e8_8, w8_8, e8_10, w8_10, e8_12, w8_12, e8_14, w8_14, c8_15, e8_17, w8_17, e8_19, w8_19, e8_21, w8_21, e8_23, w8_23, c8_24, c8_25, c8_26, c8_27, c8_28, c8_29, c8_30, c8_31, c8_32, hN0']
  refine callA (Active_ok hC hokC o.now hn) ?_
  rintro v N5 ⟨⟨c2, rfl⟩, rfl⟩
  rw [active_own]
  simp -implicitDefEqProofs (disch := omega) only [go_sem, Nat.reduceAdd, Nat.reduceMul, Nat.reduceSub, Nat.reduceBEq, Nat.reduceLeDiff, Nat.reduceLT, fn_transitlaw32_InboxClones, e8_1, w8_1, e8_3, w8_3, e8_5, w8_5, c8_6, e8_8, w8_8, e8_10, w8_10, e8_12, w8_12, e8_14, w8_14, c8_15, e8_17, w8_17, e8_19, w8_19, e8_21, w8_21, e8_23, w8_23, c8_24, c8_25, c8_26, c8_27, c8_28, c8_29, c8_30, c8_31, c8_32, hN0']
  refine callP (Same_ok (activeL b o.now) (activeL b o.now) c2 c1 (by omega) hac) ?_
  rintro v ⟨r, rfl, hr⟩
  obtain rfl := hr.2 rfl
  simp -implicitDefEqProofs (disch := omega) only [go_sem, Nat.reduceAdd, Nat.reduceMul, Nat.reduceSub, Nat.reduceBEq, Nat.reduceLeDiff, Nat.reduceLT, fn_transitlaw32_InboxClones, e8_1, w8_1, e8_3, w8_3, e8_5, w8_5, c8_6, e8_8, w8_8, e8_10, w8_10, e8_12, w8_12, e8_14, w8_14, c8_15, e8_17, w8_17, e8_19, w8_19, e8_21, w8_21, e8_23, w8_23, c8_24, c8_25, c8_26, c8_27, c8_28, c8_29, c8_30, c8_31, c8_32, hN0']
  have hrc := Receive_ok hC hokC o.m o.now ho.2.1.2.2.2.2.2.2.2.2.2.2.2.2 ho.2.1.2.2.2.2.2.1
  simp only [Msg.row] at hrc
  refine callA hrc ?_
  rintro v N6 ⟨rfl, hf6, hC6⟩
  have hN06 : N6[0]? = some (.box [.int .i64 o.kind, .int .i64 o.m.src, .int .i64 o.m.seq, .int .i64 o.m.iss, .int .i64 o.m.exp, .int .i64 o.m.kind, .str o.m.trip, .int .i64 o.m.day, .int .i64 o.m.inst, .int .i64 o.m.callNo, .int .i64 o.m.secs, .int .i64 o.m.route, .bool o.m.free, .slice (o.m.calls.map Stay.row) o.m.tag, .int .i64 o.src, .int .i64 o.now]) := by
    rw [hf6.2 0 (by simp; omega) (by omega) (by omega)]; exact hN0' L
  simp -implicitDefEqProofs (disch := omega) only [go_sem, Nat.reduceAdd, Nat.reduceMul, Nat.reduceSub, Nat.reduceBEq, Nat.reduceLeDiff, Nat.reduceLT, fn_transitlaw32_InboxClones, e8_1, w8_1, e8_3, w8_3, e8_5, w8_5, c8_6, e8_8, w8_8, e8_10, w8_10, e8_12, w8_12, e8_14, w8_14, c8_15, e8_17, w8_17, e8_19, w8_19, e8_21, w8_21, e8_23, w8_23, c8_24, c8_25, c8_26, c8_27, c8_28, c8_29, c8_30, c8_31, c8_32, hN06]
  refine callA (Heartbeat_ok hC6 o.src o.now) ?_
  rintro v N7 ⟨rfl, hf7, _, hC7⟩
  have hf67 := hf6.trans hf7
  have hI7 : InAt N7 b 2 1 := hI.fr hf67 (by omega) (by omega) hC7.own
  have hN07 : N7[0]? = some (.box [.int .i64 o.kind, .int .i64 o.m.src, .int .i64 o.m.seq, .int .i64 o.m.iss, .int .i64 o.m.exp, .int .i64 o.m.kind, .str o.m.trip, .int .i64 o.m.day, .int .i64 o.m.inst, .int .i64 o.m.callNo, .int .i64 o.m.secs, .int .i64 o.m.route, .bool o.m.free, .slice (o.m.calls.map Stay.row) o.m.tag, .int .i64 o.src, .int .i64 o.now]) := by
    rw [hf67.2 0 (by simp; omega) (by omega) (by omega)]; exact hN0' L
  simp -implicitDefEqProofs (disch := omega) only [go_sem, Nat.reduceAdd, Nat.reduceMul, Nat.reduceSub, Nat.reduceBEq, Nat.reduceLeDiff, Nat.reduceLT, fn_transitlaw32_InboxClones, e8_1, w8_1, e8_3, w8_3, e8_5, w8_5, c8_6, e8_8, w8_8, e8_10, w8_10, e8_12, w8_12, e8_14, w8_14, c8_15, e8_17, w8_17, e8_19, w8_19, e8_21, w8_21, e8_23, w8_23, c8_24, c8_25, c8_26, c8_27, c8_28, c8_29, c8_30, c8_31, c8_32]
  refine callA (Messages_ok hI7 hok) ?_
  rintro v N8 ⟨rfl, rfl⟩
  simp -implicitDefEqProofs (disch := omega) only [go_sem, Nat.reduceAdd, Nat.reduceMul, Nat.reduceSub, Nat.reduceBEq, Nat.reduceLeDiff, Nat.reduceLT, fn_transitlaw32_InboxClones, e8_1, w8_1, e8_3, w8_3, e8_5, w8_5, c8_6, e8_8, w8_8, e8_10, w8_10, e8_12, w8_12, e8_14, w8_14, c8_15, e8_17, w8_17, e8_19, w8_19, e8_21, w8_21, e8_23, w8_23, c8_24, c8_25, c8_26, c8_27, c8_28, c8_29, c8_30, c8_31, c8_32]
  refine callP (Same_ok (b.kept.map Msg.own) (b.kept.map Msg.own) .unk .unk hkeptl hkeptc) ?_
  rintro v ⟨r, rfl, hr⟩
  obtain rfl := hr.2 rfl
  simp -implicitDefEqProofs (disch := omega) only [go_sem, Nat.reduceAdd, Nat.reduceMul, Nat.reduceSub, Nat.reduceBEq, Nat.reduceLeDiff, Nat.reduceLT, fn_transitlaw32_InboxClones, e8_1, w8_1, e8_3, w8_3, e8_5, w8_5, c8_6, e8_8, w8_8, e8_10, w8_10, e8_12, w8_12, e8_14, w8_14, c8_15, e8_17, w8_17, e8_19, w8_19, e8_21, w8_21, e8_23, w8_23, c8_24, c8_25, c8_26, c8_27, c8_28, c8_29, c8_30, c8_31, c8_32, hN07]
  refine callA (Active_ok hI7 hok o.now hn) ?_
  rintro v N9 ⟨⟨c3, rfl⟩, rfl⟩
  simp -implicitDefEqProofs (disch := omega) only [go_sem, Nat.reduceAdd, Nat.reduceMul, Nat.reduceSub, Nat.reduceBEq, Nat.reduceLeDiff, Nat.reduceLT, fn_transitlaw32_InboxClones, e8_1, w8_1, e8_3, w8_3, e8_5, w8_5, c8_6, e8_8, w8_8, e8_10, w8_10, e8_12, w8_12, e8_14, w8_14, c8_15, e8_17, w8_17, e8_19, w8_19, e8_21, w8_21, e8_23, w8_23, c8_24, c8_25, c8_26, c8_27, c8_28, c8_29, c8_30, c8_31, c8_32]
  refine callP (Same_ok (activeL b o.now) (activeL b o.now) c3 c1 (by omega) hac) ?_
  rintro v ⟨r, rfl, hr⟩
  obtain rfl := hr.2 rfl
  simp -implicitDefEqProofs (disch := omega) only [go_sem, Nat.reduceAdd, Nat.reduceMul, Nat.reduceSub, Nat.reduceBEq, Nat.reduceLeDiff, Nat.reduceLT, fn_transitlaw32_InboxClones, e8_1, w8_1, e8_3, w8_3, e8_5, w8_5, c8_6, e8_8, w8_8, e8_10, w8_10, e8_12, w8_12, e8_14, w8_14, c8_15, e8_17, w8_17, e8_19, w8_19, e8_21, w8_21, e8_23, w8_23, c8_24, c8_25, c8_26, c8_27, c8_28, c8_29, c8_30, c8_31, c8_32]
  first | refine callD (example32_ok) ?_ | refine callQD (example32_ok) ?_
  simp -implicitDefEqProofs (disch := omega) only [go_sem, Nat.reduceAdd, Nat.reduceMul, Nat.reduceSub, Nat.reduceBEq, Nat.reduceLeDiff, Nat.reduceLT, fn_transitlaw32_InboxClones, e8_1, w8_1, e8_3, w8_3, e8_5, w8_5, c8_6, e8_8, w8_8, e8_10, w8_10, e8_12, w8_12, e8_14, w8_14, c8_15, e8_17, w8_17, e8_19, w8_19, e8_21, w8_21, e8_23, w8_23, c8_24, c8_25, c8_26, c8_27, c8_28, c8_29, c8_30, c8_31, c8_32]

end Go.Vm.C

