/- Lists of active messages; contracts: the reference's inbox. -/
import Derived.Test.YtmbeokppfdalfaaT10

namespace Go.Vm.C
open Go.Vm
set_option maxHeartbeats 1000000
set_option maxRecDepth 10000
set_option linter.unusedSimpArgs false
set_option linter.unusedVariables false

/-! ### The statement InboxActive -/
theorem mem_insM {l : List Msg} {m x : Msg} : x ∈ insM l m ↔ x = m ∨ x ∈ l := by
  rw [insM, List.mem_append, List.mem_cons]
  have := List.take_append_drop (insPos l m l.length) l
  conv => rhs; rw [← this, List.mem_append]
  constructor
  · rintro (h | h | h) <;> simp [h]
  · rintro (h | h | h) <;> simp [h]
theorem mem_fold (cur : List Msg) : ∀ (l out : List Msg) (x : Msg), x ∈ l.foldl (actStep cur) out ↔ x ∈ out ∨ (x ∈ l ∧ overB cur x = false)
  | [], out, x => by simp
  | m :: l, out, x => by
    rw [List.foldl_cons, mem_fold cur l, actStep]
    by_cases h : overB cur m = true
    · rw [if_pos h]
      constructor
      · rintro (h1 | ⟨h1, h2⟩)
        · exact .inl h1
        · exact .inr ⟨by simp [h1], h2⟩
      · rintro (h1 | ⟨h1, h2⟩)
        · exact .inl h1
        · rcases List.mem_cons.1 h1 with rfl | h1
          · rw [h] at h2; cases h2
          · exact .inr ⟨h1, h2⟩
    · have h' : overB cur m = false := by simpa using h
      rw [if_neg h, mem_insM]
      constructor
      · rintro ((rfl | h1) | ⟨h1, h2⟩)
        · exact .inr ⟨by simp, h'⟩
        · exact .inl h1
        · exact .inr ⟨by simp [h1], h2⟩
      · rintro (h1 | ⟨h1, h2⟩)
        · exact .inl (.inr h1)
        · rcases List.mem_cons.1 h1 with rfl | h1
          · exact .inl (.inl rfl)
          · exact .inr ⟨h1, h2⟩
theorem mem_actL {cur : List Msg} {x : Msg} : x ∈ actL cur ↔ x ∈ cur ∧ overB cur x = false := by
  have := mem_fold cur cur [] x
  have e : actL cur = cur.foldl (actStep cur) [] := rfl
  rw [e, this]
  simp
theorem sameT_iff {a b : Msg} : sameT a b = true ↔ a.trip = b.trip ∧ a.day = b.day ∧ a.inst = b.inst := by simp [sameT]
theorem low_ex {cur : List Msg} (h0 : ∀ o ∈ cur, 0 ≤ o.src) : ∀ (n : Nat) (x : Msg), x.src ≤ n → overB cur x = true → ∃ o ∈ cur, o.src < x.src ∧ sameT o x = true ∧ overB cur o = false
  | 0, x, hx, h => by
    obtain ⟨o, ho, h1⟩ := List.any_eq_true.1 h
    simp only [Bool.and_eq_true, decide_eq_true_eq] at h1
    have := h0 o ho
    omega
  | n + 1, x, hx, h => by
    obtain ⟨o, ho, h1⟩ := List.any_eq_true.1 h
    simp only [Bool.and_eq_true, decide_eq_true_eq] at h1
    by_cases h2 : overB cur o = true
    · obtain ⟨p, hp, h3, h4, h5⟩ := low_ex h0 n o (by omega) h2
      refine ⟨p, hp, by omega, ?_, h5⟩
      rw [sameT_iff] at h1 h4 ⊢
      exact ⟨h4.1.trans h1.2.1, h4.2.1.trans h1.2.2.1, h4.2.2.trans h1.2.2.2⟩
    · exact ⟨o, ho, h1.1, h1.2, by simpa using h2⟩
theorem curB_own (b : Ibx) (now : Int) (m : Msg) : curB b now m.own = curB b now m := rfl

/-! ### Copies -/
def Ibx.own (b : Ibx) : Ibx := ⟨b.srcs, b.pat, b.kept.map Msg.own⟩
theorem app_clone {M : Mem} {sid : Nat} {l : List Src} (h : M[sid]? = some (.arr 4 (l.map Src.row) 0 0)) (h1 : 1 ≤ l.length) (h8 : l.length ≤ 8) : appV false 4 32 (.slice [] .nil) (.mslice sid 0 0 l.length) M = some (.mslice M.length 0 0 l.length, M ++ [.arr 4 (l.map Src.row) 0 0]) := by
  have ht : (l.map Src.row).take l.length = l.map Src.row := List.take_of_length_le (by simp)
  cases l with
  | nil => simp at h1
  | cons s r =>
    simp only [appV, rowsV, h, beq_self_eq_true, Bool.and_true, Nat.zero_add, List.length_map, Nat.le_refl, decide_true, cond_true, List.drop_zero, ht]
    simp only [List.map_cons, List.length_cons] at *
    have e : decide ((r.length + 1) * 64 ≤ 281474976710656) = true := decide_eq_true (by omega)
    simp [appendV, headLen]
    rw [e]
    rfl
theorem Ibx.Ok.own {b : Ibx} (h : b.Ok) : b.own.Ok := ⟨h.n1, h.n8, h.pat, h.last, by simpa [Ibx.own] using h.kept, fun m hm => by
  obtain ⟨y, hy, rfl⟩ := List.mem_map.1 hm
  exact h.msg y hy⟩
theorem keepM_own (p : Msg → Bool) (hp : ∀ m, p m.own = p m) (l : List Msg) : keepM p (l.map Msg.own) = keepM p l := by
  rw [keepM, List.filter_map, List.map_map]
  have e : (p ∘ Msg.own) = p := funext hp
  rw [e]; rfl
theorem active_own (b : Ibx) (now : Int) : activeL b.own now = activeL b now := by
  unfold activeL
  have e : curB b.own now = curB b now := rfl
  rw [e]
  exact congrArg actL (keepM_own _ (fun _ => rfl) _)
/-- What is done to another inbox leaves this one. -/
theorem InAt.fr {M L N : Mem} {b : Ibx} {id sid i2 s2 : Nat} (h : InAt M b id sid) (hf : Fr (M ++ L) N i2 s2) (h1 : M.length ≤ i2) (h2 : M.length ≤ s2) (hN : memUnder N.length N = true) : InAt N b id sid := by
  obtain ⟨kv, hb, hk⟩ := h.box
  obtain ⟨q1, q2, _⟩ := h.lt
  have get : ∀ {j : Nat} {B : Blk}, M[j]? = some B → N[j]? = some B := fun {j B} hj => by
    have hlt := (List.getElem?_eq_some_iff.1 hj).1
    rw [hf.2 j (by simp; omega) (by omega) (by omega), List.getElem?_append_left hlt]
    exact hj
  refine ⟨hN, get h.src, kv, get hb, ?_⟩
  rcases hk with ⟨c, rfl⟩ | ⟨kid, ver, rfl, h3⟩
  · exact .inl ⟨c, rfl⟩
  · exact .inr ⟨kid, ver, rfl, get h3⟩
theorem activeL_calls {b : Ibx} (hok : b.Ok) (now : Int) : (activeL b now).length ≤ 256 ∧ ∀ x ∈ activeL b now, x.calls.length ≤ 1000 := by
  refine ⟨?_, fun x hx => ?_⟩
  · have h2 := actUp_len (keepM (curB b now) b.kept) (keepM (curB b now) b.kept).length
    rw [actUp_all] at h2
    exact Nat.le_trans h2 (Nat.le_trans (keepM_len _ _) hok.kept)
  · have hx2 : x ∈ keepM (curB b now) b.kept := (mem_actL.1 hx).1
    obtain ⟨y, hy, _, rfl⟩ := mem_keepM hx2
    have := (hok.msg y hy).2.1
    show y.calls.length ≤ 1000
    omega

/-! ### The statement InboxClones -/
/-! ### The inbox of the reference -/
structure RBox.Ok (r : RBox) : Prop where
  n1 : 1 ≤ r.srcs.length
  n8 : r.srcs.length ≤ 8
  pat : 0 ≤ r.pat ∧ r.pat ≤ 86400
  heard : ∀ x ∈ r.srcs, -1 ≤ x.heard ∧ x.heard ≤ 3155932800
  kept : r.kept.length ≤ 256
  msg : ∀ m ∈ r.kept, m.calls.length ≤ 40 ∧ m.wf
theorem rsrc_at {l : List RSrc} {i : Nat} {x : RSrc} (h : l[i]? = some x) : (l.map RSrc.row)[i]? = some [.int .i64 x.heard, .int .i64 x.last] := by rw [List.getElem?_map, h]; rfl
theorem ref_moment_ok (n : Int) : PCalls PR i_transitref32_moment [.int .i64 n] (fun v => v = .bool (decide (momentB n))) := by
  refine acalls_pop fn_transitref32_moment_ok (by simp [fn_transitref32_moment]) ?_
  simp -implicitDefEqProofs (disch := omega) only [go_sem, Nat.reduceAdd, Nat.reduceMul, Nat.reduceSub, Nat.reduceBEq, Nat.reduceLeDiff, Nat.reduceLT, fn_transitref32_moment, e46_1, w46_1, e46_3, w46_3, c46_4, c46_5]
  refine ifD (fun h => ?_) (fun h => ?_)
  · simp -implicitDefEqProofs (disch := omega) only [go_sem, Nat.reduceAdd, Nat.reduceMul, Nat.reduceSub, Nat.reduceBEq, Nat.reduceLeDiff, Nat.reduceLT, fn_transitref32_moment, e46_1, w46_1, e46_3, w46_3, c46_4, c46_5]
    exact decide_eq_decide.2 (by unfold momentB; omega)
  · simp -implicitDefEqProofs (disch := omega) only [go_sem, Nat.reduceAdd, Nat.reduceMul, Nat.reduceSub, Nat.reduceBEq, Nat.reduceLeDiff, Nat.reduceLT, fn_transitref32_moment, e46_1, w46_1, e46_3, w46_3, c46_4, c46_5]
    symm
    exact decide_eq_false (by unfold momentB; omega)
def isR (r : RBox) (i : Int) : Prop := 0 ≤ i ∧ i < r.srcs.length
def rSeq (r : RBox) (i : Int) : Int × Bool :=
  match r.srcs[i.toNat]? with
  | some x => if 0 ≤ i ∧ x.last ≠ 0 then (x.last, true) else (0, false)
  | none => (0, false)
def rFail (r : RBox) (i now : Int) : Bool :=
  match r.srcs[i.toNat]? with
  | some x => decide (0 ≤ i) && (decide (x.heard < 0) || decide (x.heard < now ∧ r.pat < now - x.heard))
  | none => false
theorem rSeq_out {r : RBox} {i : Int} (h : i < 0 ∨ (r.srcs.length : Int) ≤ i) : rSeq r i = (0, false) := by
  unfold rSeq
  split
  · rename_i x hx
    have := (List.getElem?_eq_some_iff.1 hx).1
    rw [if_neg (by omega)]
  · rfl
theorem rFail_out {r : RBox} {i now : Int} (h : i < 0 ∨ (r.srcs.length : Int) ≤ i) : rFail r i now = false := by
  unfold rFail
  split
  · rename_i x hx
    have := (List.getElem?_eq_some_iff.1 hx).1
    rw [show decide (0 ≤ i) = false from decide_eq_false (by omega)]; rfl
  · rfl
theorem ref_Sequence_ok (r : RBox) (i : Int) : PCalls PR i_transitref32_Sequence [.agg r.row, .int .i64 i] (fun v => v = .tuple [.int .i64 (rSeq r i).1, .bool (rSeq r i).2]) := by
  refine acalls_pop fn_transitref32_Sequence_ok (by simp [fn_transitref32_Sequence]) ?_
  simp -implicitDefEqProofs (disch := omega) only [go_sem, Nat.reduceAdd, Nat.reduceMul, Nat.reduceSub, Nat.reduceBEq, Nat.reduceLeDiff, Nat.reduceLT, fn_transitref32_Sequence, e49_1, w49_1, e49_3, w49_3, c49_4, e49_6, w49_6, e49_8, w49_8, c49_9, c49_10, c49_11, RBox.row]
  refine ifD (fun h => ?_) (fun h => ?_)
  · simp -implicitDefEqProofs (disch := omega) only [go_sem, Nat.reduceAdd, Nat.reduceMul, Nat.reduceSub, Nat.reduceBEq, Nat.reduceLeDiff, Nat.reduceLT, fn_transitref32_Sequence, e49_1, w49_1, e49_3, w49_3, c49_4, e49_6, w49_6, e49_8, w49_8, c49_9, c49_10, c49_11, rSeq_out (r := r) (i := i) (.inl h)]
  simp -implicitDefEqProofs (disch := omega) only [go_sem, Nat.reduceAdd, Nat.reduceMul, Nat.reduceSub, Nat.reduceBEq, Nat.reduceLeDiff, Nat.reduceLT, fn_transitref32_Sequence, e49_1, w49_1, e49_3, w49_3, c49_4, e49_6, w49_6, e49_8, w49_8, c49_9, c49_10, c49_11, List.length_map]
  refine ifD (fun h2 => ?_) (fun h2 => ?_)
  · simp -implicitDefEqProofs (disch := omega) only [go_sem, Nat.reduceAdd, Nat.reduceMul, Nat.reduceSub, Nat.reduceBEq, Nat.reduceLeDiff, Nat.reduceLT, fn_transitref32_Sequence, e49_1, w49_1, e49_3, w49_3, c49_4, e49_6, w49_6, e49_8, w49_8, c49_9, c49_10, c49_11, rSeq_out (r := r) (i := i) (.inr h2)]
  obtain ⟨k, rfl⟩ : ∃ k : Nat, i = k := ⟨i.toNat, by omega⟩
  obtain ⟨x, hx⟩ : ∃ x, r.srcs[k]? = some x := ⟨r.srcs[k]'(by omega), by simp⟩
  simp -implicitDefEqProofs (disch := omega) only [go_sem, Nat.reduceAdd, Nat.reduceMul, Nat.reduceSub, Nat.reduceBEq, Nat.reduceLeDiff, Nat.reduceLT, fn_transitref32_Sequence, e49_1, w49_1, e49_3, w49_3, c49_4, e49_6, w49_6, e49_8, w49_8, c49_9, c49_10, c49_11, rsrc_at hx]
  refine ifD (fun h3 => ?_) (fun h3 => ?_)
  · have e : rSeq r k = (0, false) := by simp only [rSeq, Int.toNat_natCast, hx]; rw [if_neg (by omega)]
    simp -implicitDefEqProofs (disch := omega) only [go_sem, Nat.reduceAdd, Nat.reduceMul, Nat.reduceSub, Nat.reduceBEq, Nat.reduceLeDiff, Nat.reduceLT, fn_transitref32_Sequence, e49_1, w49_1, e49_3, w49_3, c49_4, e49_6, w49_6, e49_8, w49_8, c49_9, c49_10, c49_11, e]
  · have e : rSeq r k = (x.last, true) := by simp only [rSeq, Int.toNat_natCast, hx]; rw [if_pos ⟨by omega, h3⟩]
    simp -implicitDefEqProofs (disch := omega) only [go_sem, Nat.reduceAdd, Nat.reduceMul, Nat.reduceSub, Nat.reduceBEq, Nat.reduceLeDiff, Nat.reduceLT, fn_transitref32_Sequence, e49_1, w49_1, e49_3, w49_3, c49_4, e49_6, w49_6, e49_8, w49_8, c49_9, c49_10, c49_11, e, rsrc_at hx]
theorem ref_Failed_ok (r : RBox) (hok : r.Ok) (i now : Int) (hn : I64 now) : PCalls PR i_transitref32_Failed [.agg r.row, .int .i64 i, .int .i64 now] (fun v => v = .bool (rFail r i now)) := by
  obtain ⟨n1, n2⟩ := hn
  obtain ⟨p1, p2⟩ := hok.pat
  refine acalls_pop fn_transitref32_Failed_ok (by simp [fn_transitref32_Failed]) ?_
  simp -implicitDefEqProofs (disch := omega) only [go_sem, Nat.reduceAdd, Nat.reduceMul, Nat.reduceSub, Nat.reduceBEq, Nat.reduceLeDiff, Nat.reduceLT, fn_transitref32_Failed, e50_1, w50_1, e50_3, w50_3, c50_4, e50_6, w50_6, e50_8, w50_8, e50_10, w50_10, c50_11, c50_12, c50_13, c50_14, RBox.row]
  refine ifD (fun h => ?_) (fun h => ?_)
  · simp -implicitDefEqProofs (disch := omega) only [go_sem, Nat.reduceAdd, Nat.reduceMul, Nat.reduceSub, Nat.reduceBEq, Nat.reduceLeDiff, Nat.reduceLT, fn_transitref32_Failed, e50_1, w50_1, e50_3, w50_3, c50_4, e50_6, w50_6, e50_8, w50_8, e50_10, w50_10, c50_11, c50_12, c50_13, c50_14, rFail_out (r := r) (i := i) (now := now) (.inl h)]
  simp -implicitDefEqProofs (disch := omega) only [go_sem, Nat.reduceAdd, Nat.reduceMul, Nat.reduceSub, Nat.reduceBEq, Nat.reduceLeDiff, Nat.reduceLT, fn_transitref32_Failed, e50_1, w50_1, e50_3, w50_3, c50_4, e50_6, w50_6, e50_8, w50_8, e50_10, w50_10, c50_11, c50_12, c50_13, c50_14, List.length_map]
  refine ifD (fun h2 => ?_) (fun h2 => ?_)
  · simp -implicitDefEqProofs (disch := omega) only [go_sem, Nat.reduceAdd, Nat.reduceMul, Nat.reduceSub, Nat.reduceBEq, Nat.reduceLeDiff, Nat.reduceLT, fn_transitref32_Failed, e50_1, w50_1, e50_3, w50_3, c50_4, e50_6, w50_6, e50_8, w50_8, e50_10, w50_10, c50_11, c50_12, c50_13, c50_14, rFail_out (r := r) (i := i) (now := now) (.inr h2)]
  obtain ⟨k, rfl⟩ : ∃ k : Nat, i = k := ⟨i.toNat, by omega⟩
  obtain ⟨x, hx⟩ : ∃ x, r.srcs[k]? = some x := ⟨r.srcs[k]'(by omega), by simp⟩
  obtain ⟨q1, q2⟩ := hok.heard x (List.mem_of_getElem? hx)
  have e : rFail r k now = (decide (x.heard < 0) || decide (x.heard < now ∧ r.pat < now - x.heard)) := by simp only [rFail, Int.toNat_natCast, hx]; simp
  rw [e]
  simp -implicitDefEqProofs (disch := omega) only [go_sem, Nat.reduceAdd, Nat.reduceMul, Nat.reduceSub, Nat.reduceBEq, Nat.reduceLeDiff, Nat.reduceLT, fn_transitref32_Failed, e50_1, w50_1, e50_3, w50_3, c50_4, e50_6, w50_6, e50_8, w50_8, e50_10, w50_10, c50_11, c50_12, c50_13, c50_14, rsrc_at hx]
  refine ifD (fun h3 => ?_) (fun h3 => ?_)
  · simp -implicitDefEqProofs (disch := omega) only [go_sem, Nat.reduceAdd, Nat.reduceMul, Nat.reduceSub, Nat.reduceBEq, Nat.reduceLeDiff, Nat.reduceLT, fn_transitref32_Failed, e50_1, w50_1, e50_3, w50_3, c50_4, e50_6, w50_6, e50_8, w50_8, e50_10, w50_10, c50_11, c50_12, c50_13, c50_14]
    simp [h3]
  simp -implicitDefEqProofs (disch := omega) only [go_sem, Nat.reduceAdd, Nat.reduceMul, Nat.reduceSub, Nat.reduceBEq, Nat.reduceLeDiff, Nat.reduceLT, fn_transitref32_Failed, e50_1, w50_1, e50_3, w50_3, c50_4, e50_6, w50_6, e50_8, w50_8, e50_10, w50_10, c50_11, c50_12, c50_13, c50_14]
  refine ifD (fun h4 => ?_) (fun h4 => ?_)
  · simp -implicitDefEqProofs (disch := omega) only [go_sem, Nat.reduceAdd, Nat.reduceMul, Nat.reduceSub, Nat.reduceBEq, Nat.reduceLeDiff, Nat.reduceLT, fn_transitref32_Failed, e50_1, w50_1, e50_3, w50_3, c50_4, e50_6, w50_6, e50_8, w50_8, e50_10, w50_10, c50_11, c50_12, c50_13, c50_14, u64_wrap]
    simp only [show decide (x.heard < 0) = false from decide_eq_false h3, Bool.false_or]
    exact decide_eq_decide.2 (by omega)
  · simp -implicitDefEqProofs (disch := omega) only [go_sem, Nat.reduceAdd, Nat.reduceMul, Nat.reduceSub, Nat.reduceBEq, Nat.reduceLeDiff, Nat.reduceLT, fn_transitref32_Failed, e50_1, w50_1, e50_3, w50_3, c50_4, e50_6, w50_6, e50_8, w50_8, e50_10, w50_10, c50_11, c50_12, c50_13, c50_14]
    simp [h3, h4]
def rCur (r : RBox) (m : Msg) (now : Int) : Bool := decide (m.iss ≤ now) && (decide (now < m.exp) && !rFail r m.src now)
theorem ref_Current_ok (r : RBox) (hok : r.Ok) (m : Msg) (now : Int) (hn : I64 now) : PCalls PR i_transitref32_Current [.agg r.row, .agg m.row, .int .i64 now] (fun v => v = .bool (rCur r m now)) := by
  have hf := ref_Failed_ok r hok m.src now hn
  simp only [RBox.row] at hf
  refine acalls_pop fn_transitref32_Current_ok (by simp [fn_transitref32_Current]) ?_
  simp -implicitDefEqProofs (disch := omega) only [go_sem, Nat.reduceAdd, Nat.reduceMul, Nat.reduceSub, Nat.reduceBEq, Nat.reduceLeDiff, Nat.reduceLT, fn_transitref32_Current, e65_1, w65_1, e65_3, w65_3, c65_4, c65_5, RBox.row, Msg.row]
  refine ifD (fun h => ?_) (fun h => ?_)
  rotate_left
  · simp -implicitDefEqProofs (disch := omega) only [go_sem, Nat.reduceAdd, Nat.reduceMul, Nat.reduceSub, Nat.reduceBEq, Nat.reduceLeDiff, Nat.reduceLT, fn_transitref32_Current, e65_1, w65_1, e65_3, w65_3, c65_4, c65_5]
    simp [rCur, h]
  simp -implicitDefEqProofs (disch := omega) only [go_sem, Nat.reduceAdd, Nat.reduceMul, Nat.reduceSub, Nat.reduceBEq, Nat.reduceLeDiff, Nat.reduceLT, fn_transitref32_Current, e65_1, w65_1, e65_3, w65_3, c65_4, c65_5]
  refine ifD (fun h2 => ?_) (fun h2 => ?_)
  rotate_left
  · simp -implicitDefEqProofs (disch := omega) only [go_sem, Nat.reduceAdd, Nat.reduceMul, Nat.reduceSub, Nat.reduceBEq, Nat.reduceLeDiff, Nat.reduceLT, fn_transitref32_Current, e65_1, w65_1, e65_3, w65_3, c65_4, c65_5]
    simp [rCur, h2]
  simp -implicitDefEqProofs (disch := omega) only [go_sem, Nat.reduceAdd, Nat.reduceMul, Nat.reduceSub, Nat.reduceBEq, Nat.reduceLeDiff, Nat.reduceLT, fn_transitref32_Current, e65_1, w65_1, e65_3, w65_3, c65_4, c65_5]
  first | refine callD (hf) ?_ | refine callQD (hf) ?_
  simp -implicitDefEqProofs (disch := omega) only [go_sem, Nat.reduceAdd, Nat.reduceMul, Nat.reduceSub, Nat.reduceBEq, Nat.reduceLeDiff, Nat.reduceLT, fn_transitref32_Current, e65_1, w65_1, e65_3, w65_3, c65_4, c65_5]
  simp [rCur, h, h2]
/-- A source that the inbox knows, as the reference knows it. -/
def refS (s : Src) : RSrc := ⟨if s.ever = true then s.last else -1, if s.recv = true then s.seq else 0⟩
structure Rel (b : Ibx) (r : RBox) : Prop where
  pat : r.pat = b.pat
  srcs : r.srcs = b.srcs.map refS
  kept : r.kept.map Msg.own = b.kept.map Msg.own
  pos : ∀ s ∈ b.srcs, s.recv = true → 1 ≤ s.seq
theorem Rel.fail {b : Ibx} {r : RBox} (h : Rel b r) (hok : b.Ok) (i now : Int) : failedB b i now = rFail r i now := by
  unfold failedB rFail
  rw [h.srcs, List.getElem?_map, h.pat]
  cases e : b.srcs[i.toNat]? with
  | none => rfl
  | some s =>
    have hlt := (List.getElem?_eq_some_iff.1 e).1
    obtain ⟨l1, l2⟩ := hok.last s (List.mem_of_getElem? e)
    have e1 : isSrc b i = decide (0 ≤ i) := by unfold isSrc; exact decide_eq_decide.2 (by omega)
    simp only [Option.map_some, e1, silentB, refS]
    cases s.ever with
    | true =>
      have : decide (s.last < 0) = false := decide_eq_false (by omega)
      simp [this]
    | false => simp
theorem Rel.seq {b : Ibx} {r : RBox} (h : Rel b r) (i : Int) : seqB b i = rSeq r i := by
  unfold seqB rSeq
  rw [h.srcs, List.getElem?_map]
  cases e : b.srcs[i.toNat]? with
  | none => rfl
  | some s =>
    have hlt := (List.getElem?_eq_some_iff.1 e).1
    have hp := h.pos s (List.mem_of_getElem? e)
    have e1 : isSrc b i = true ↔ 0 ≤ i := by unfold isSrc; rw [decide_eq_true_eq]; omega
    simp only [Option.map_some, e1, refS]
    cases hr : s.recv with
    | true =>
      have := hp hr
      simp only [and_true, if_true]
      by_cases hi : 0 ≤ i
      · rw [if_pos hi, if_pos ⟨hi, by omega⟩]
      · rw [if_neg hi, if_neg (by omega)]
    | false => simp
theorem Rel.cur {b : Ibx} {r : RBox} (h : Rel b r) (hok : b.Ok) (m : Msg) (now : Int) : curB b now m = rCur r m now := by
  unfold curB rCur
  rw [h.fail hok]

end Go.Vm.C

