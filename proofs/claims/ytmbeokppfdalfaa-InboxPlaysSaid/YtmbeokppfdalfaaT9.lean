/- Contracts: the active messages. -/
import Derived.Test.YtmbeokppfdalfaaT8

namespace Go.Vm.C
open Go.Vm
set_option maxHeartbeats 1000000
set_option maxRecDepth 10000
set_option linter.unusedSimpArgs false
set_option linter.unusedVariables false

/-! ### The active messages -/
def insPos (l : List Msg) (m : Msg) : Nat → Nat
  | 0 => 0
  | k + 1 => match l[k]? with | some x => if beforeM m x = true then insPos l m k else k + 1 | none => k + 1
def insM (l : List Msg) (m : Msg) : List Msg := l.take (insPos l m l.length) ++ m :: l.drop (insPos l m l.length)
theorem insPos_le (l : List Msg) (m : Msg) : ∀ k, insPos l m k ≤ k
  | 0 => Nat.le_refl _
  | k + 1 => by
    rw [insPos]
    split
    · split
      · have := insPos_le l m k; omega
      · exact Nat.le_refl _
    · exact Nat.le_refl _
theorem insM_len (l : List Msg) (m : Msg) : (insM l m).length = l.length + 1 := by
  have := insPos_le l m l.length
  simp [insM]; omega
theorem slice_hm (l : List Msg) (c : Cap) (k : Nat) (M : Mem) (h : k ≤ l.length) : sliceV 13 (.slice (l.map Msg.row) c) none (some (.int .i64 (k : Int))) none M = some (.slice ((l.take k).map Msg.row) (capS c k l.length l.length false)) := by
  rw [slice_h 13 _ c .i64 k M (by omega) (by simpa using h) (headLen_msg l), List.map_take]
  simp
theorem slice_lm (l : List Msg) (c : Cap) (k : Nat) (M : Mem) (h : k ≤ l.length) : sliceV 13 (.slice (l.map Msg.row) c) (some (.int .i64 (k : Int))) none none M = some (.slice ((l.drop k).map Msg.row) (capS c l.length l.length l.length false)) := by
  rw [slice_l 13 _ c .i64 k M (by omega) (by simpa using h) (headLen_msg l), List.map_drop]
  simp
theorem inserted_tail (l : List Msg) (c : Cap) (m : Msg) (hl : l.length ≤ 1000) (k : Nat) (hk : k ≤ l.length) (e : insPos l m l.length = k) (Q : Exit → Slots → Mem → Prop) (q : Q .ret [(6, .mslice 1 3 0 (insM l m).length)] [.box m.row, .arr 13 ((insM l m).map Msg.row) 3 0]) :
    ∀ s, sget s 0 = .slice (l.map Msg.row) c → sget s 4 = .ptr 0 0 → sget s 7 = .int .i64 k → wpC PR c41_23 Q s [.box m.row] := by
  intro s g0 g4 g7
  have e2 : (l.take k).map Msg.row ++ m.row :: (l.drop k).map Msg.row = (insM l m).map Msg.row := by rw [insM, e]; simp
  have e3 : k + 1 + (l.length - k) = (insM l m).length := by rw [insM_len]; omega
  have s1 := fun M => slice_hm l c k M hk
  have s2 := fun M => slice_lm l c k M hk
  have h1 := headLen_msg (l.take k)
  have h2 := headLen_msg (l.drop k)
  simp only [Msg.row] at e2 q
  simp -implicitDefEqProofs (disch := omega) only [go_sem, Nat.reduceAdd, Nat.reduceMul, Nat.reduceSub, Nat.reduceBEq, Nat.reduceLeDiff, Nat.reduceLT, fn_inbox_inserted_api_Message, e41_1, w41_1, e41_3, w41_3, e41_5, w41_5, e41_7, w41_7, c41_8, c41_9, c41_10, c41_11, e41_13, w41_13, e41_15, w41_15, e41_17, w41_17, e41_19, w41_19, c41_20, c41_21, c41_22, c41_23, c41_24, c41_25, c41_26, g0, g4, g7, s1, s2, h1, h2, Msg.row, List.length_take, List.length_drop, Nat.min_eq_left hk, List.append_assoc, e2, e3]
  exact q
theorem inserted_ok (l : List Msg) (c : Cap) (m : Msg) (hl : l.length ≤ 1000) : PCalls PR i_inbox_inserted_api_Message [.slice (l.map Msg.row) c, .agg m.row, .pfn i_inbox_before []] (fun v => v = .slice ((insM l m).map Msg.row) .unk) := by
  refine acalls_pop fn_inbox_inserted_api_Message_ok (by simp [fn_inbox_inserted_api_Message]) ?_
  have fin : List.take (insM l m).length ((insM l m).map Msg.row) = (insM l m).map Msg.row := List.take_of_length_le (by simp)
  simp -implicitDefEqProofs (disch := omega) only [go_sem, Nat.reduceAdd, Nat.reduceMul, Nat.reduceSub, Nat.reduceBEq, Nat.reduceLeDiff, Nat.reduceLT, fn_inbox_inserted_api_Message, e41_1, w41_1, e41_3, w41_3, e41_5, w41_5, e41_7, w41_7, c41_8, c41_9, c41_10, c41_11, e41_13, w41_13, e41_15, w41_15, e41_17, w41_17, e41_19, w41_19, c41_20, c41_21, c41_22, c41_24, c41_25, c41_26, Msg.row]
  refine wpC_for l.length (fun i vs M => insPos l m l.length = insPos l m (l.length - i) ∧ vs = [.slice (l.map Msg.row) c, .pfn i_inbox_before [], .ptr 0 0, .int .i64 ((l.length - i : Nat) : Int)] ∧ M = [.box m.row]) ⟨rfl, rfl, rfl⟩ ?_ ?_
  · rintro i vs M hi hd ⟨he, rfl, rfl⟩
    obtain ⟨k, hk⟩ : ∃ k, l.length - i = k + 1 := ⟨l.length - i - 1, by omega⟩
    have hcast : ((l.length - i : Nat) : Int) = ((k + 1 : Nat) : Int) := by rw [hk]
    rw [hk] at he
    rw [hcast]
    obtain ⟨x, hx⟩ : ∃ x, l[k]? = some x := ⟨l[k]'(by omega), by simp⟩
    have hb := inbox_before_ok m x
    have ek : ((k + 1 : Nat) : Int) - 1 = (k : Int) := by omega
    simp only [Msg.row] at hb
    simp -implicitDefEqProofs (disch := omega) only [go_sem, Nat.reduceAdd, Nat.reduceMul, Nat.reduceSub, Nat.reduceBEq, Nat.reduceLeDiff, Nat.reduceLT, fn_inbox_inserted_api_Message, e41_1, w41_1, e41_3, w41_3, e41_5, w41_5, e41_7, w41_7, c41_8, c41_9, c41_10, c41_11, e41_13, w41_13, e41_15, w41_15, e41_17, w41_17, e41_19, w41_19, c41_20, c41_21, c41_22, c41_24, c41_25, c41_26, Msg.row]
    refine ifD (fun h => ?_) (fun h => ?_)
    rotate_left
    · omega
    simp -implicitDefEqProofs (disch := omega) only [go_sem, Nat.reduceAdd, Nat.reduceMul, Nat.reduceSub, Nat.reduceBEq, Nat.reduceLeDiff, Nat.reduceLT, fn_inbox_inserted_api_Message, e41_1, w41_1, e41_3, w41_3, e41_5, w41_5, e41_7, w41_7, c41_8, c41_9, c41_10, c41_11, e41_13, w41_13, e41_15, w41_15, e41_17, w41_17, e41_19, w41_19, c41_20, c41_21, c41_22, c41_24, c41_25, c41_26, ek, hx, Msg.row]
    first | refine callD (hb) ?_ | refine callQD (hb) ?_
    simp -implicitDefEqProofs (disch := omega) only [go_sem, Nat.reduceAdd, Nat.reduceMul, Nat.reduceSub, Nat.reduceBEq, Nat.reduceLeDiff, Nat.reduceLT, fn_inbox_inserted_api_Message, e41_1, w41_1, e41_3, w41_3, e41_5, w41_5, e41_7, w41_7, c41_8, c41_9, c41_10, c41_11, e41_13, w41_13, e41_15, w41_15, e41_17, w41_17, e41_19, w41_19, c41_20, c41_21, c41_22, c41_24, c41_25, c41_26]
    refine ifB (fun h2 => ?_) (fun h2 => ?_)
    · simp -implicitDefEqProofs (disch := omega) only [go_sem, Nat.reduceAdd, Nat.reduceMul, Nat.reduceSub, Nat.reduceBEq, Nat.reduceLeDiff, Nat.reduceLT, fn_inbox_inserted_api_Message, e41_1, w41_1, e41_3, w41_3, e41_5, w41_5, e41_7, w41_7, c41_8, c41_9, c41_10, c41_11, e41_13, w41_13, e41_15, w41_15, e41_17, w41_17, e41_19, w41_19, c41_20, c41_21, c41_22, c41_24, c41_25, c41_26, ek]
      have e4 : insPos l m (k + 1) = insPos l m k := by rw [insPos, hx]; simp only [h2, if_true]
      refine next_stay hi ⟨?_, ?_, rfl⟩
      · rw [he, e4, show l.length - (i + 1) = k from by omega]
      · rw [show l.length - (i + 1) = k from by omega]; rfl
    · simp -implicitDefEqProofs (disch := omega) only [go_sem, Nat.reduceAdd, Nat.reduceMul, Nat.reduceSub, Nat.reduceBEq, Nat.reduceLeDiff, Nat.reduceLT, fn_inbox_inserted_api_Message, e41_1, w41_1, e41_3, w41_3, e41_5, w41_5, e41_7, w41_7, c41_8, c41_9, c41_10, c41_11, e41_13, w41_13, e41_15, w41_15, e41_17, w41_17, e41_19, w41_19, c41_20, c41_21, c41_22, c41_24, c41_25, c41_26]
      have e4 : insPos l m (k + 1) = k + 1 := by rw [insPos, hx]; simp only [h2, Bool.false_eq_true, if_false]
      have t := inserted_tail l c m hl (k + 1) (by omega) (he.trans e4)
      simp only [Msg.row] at t
      refine t _ ?_ _ rfl rfl rfl
      simp -implicitDefEqProofs (disch := omega) only [go_sem, Nat.reduceAdd, Nat.reduceMul, Nat.reduceSub, Nat.reduceBEq, Nat.reduceLeDiff, Nat.reduceLT, fn_inbox_inserted_api_Message, e41_1, w41_1, e41_3, w41_3, e41_5, w41_5, e41_7, w41_7, c41_8, c41_9, c41_10, c41_11, e41_13, w41_13, e41_15, w41_15, e41_17, w41_17, e41_19, w41_19, c41_20, c41_21, c41_22, c41_24, c41_25, c41_26, fin]
  · rintro vs M ⟨he, rfl, rfl⟩
    rw [Nat.sub_self] at he
    rw [show ((l.length - l.length : Nat) : Int) = ((0 : Nat) : Int) from by rw [Nat.sub_self]]
    simp -implicitDefEqProofs (disch := omega) only [go_sem, Nat.reduceAdd, Nat.reduceMul, Nat.reduceSub, Nat.reduceBEq, Nat.reduceLeDiff, Nat.reduceLT, fn_inbox_inserted_api_Message, e41_1, w41_1, e41_3, w41_3, e41_5, w41_5, e41_7, w41_7, c41_8, c41_9, c41_10, c41_11, e41_13, w41_13, e41_15, w41_15, e41_17, w41_17, e41_19, w41_19, c41_20, c41_21, c41_22, c41_24, c41_25, c41_26, Msg.row]
    refine ifD (fun h => ?_) (fun h => ?_)
    · omega
    simp -implicitDefEqProofs (disch := omega) only [go_sem, Nat.reduceAdd, Nat.reduceMul, Nat.reduceSub, Nat.reduceBEq, Nat.reduceLeDiff, Nat.reduceLT, fn_inbox_inserted_api_Message, e41_1, w41_1, e41_3, w41_3, e41_5, w41_5, e41_7, w41_7, c41_8, c41_9, c41_10, c41_11, e41_13, w41_13, e41_15, w41_15, e41_17, w41_17, e41_19, w41_19, c41_20, c41_21, c41_22, c41_24, c41_25, c41_26]
    have t := inserted_tail l c m hl 0 (by omega) he
    simp only [Msg.row] at t
    refine t _ ?_ _ rfl rfl rfl
    simp -implicitDefEqProofs (disch := omega) only [go_sem, Nat.reduceAdd, Nat.reduceMul, Nat.reduceSub, Nat.reduceBEq, Nat.reduceLeDiff, Nat.reduceLT, fn_inbox_inserted_api_Message, e41_1, w41_1, e41_3, w41_3, e41_5, w41_5, e41_7, w41_7, c41_8, c41_9, c41_10, c41_11, e41_13, w41_13, e41_15, w41_15, e41_17, w41_17, e41_19, w41_19, c41_20, c41_21, c41_22, c41_24, c41_25, c41_26, fin]
def curB (b : Ibx) (now : Int) (m : Msg) : Bool := decide (m.iss ≤ now) && (decide (now < m.exp) && !failedB b m.src now)
theorem Active_1_ok {N : Mem} {b : Ibx} {id sid : Nat} (h : InAt N b id sid) (hok : b.Ok) {i j : Nat} (o : Msg) (now : Int) (hn : I64 now) (hi : N[i]? = some (.box [.ptr id 0])) (hj : N[j]? = some (.box [.int .i64 now])) :
    ACalls PR i_inbox_Inbox_Active_1 [.agg o.row, .ptr j 0, .ptr i 0] N (fun v N' => v = .bool (curB b now o) ∧ N' = N) := by
  have hU := h.own
  have hi' := fun L => mget hi L
  have hj' := fun L => mget hj L
  have fin : ∀ L : Mem, (N ++ L).take N.length = N := fun L => List.take_left
  have fin2 : ∀ L : Mem, decide (N.length ≤ (N ++ L).length) = true := fun L => by simp
  have h1 := h.app [.box o.row] rfl
  have hf := Failed_ok h1 hok o.src now hn
  simp only [Msg.row] at hf
  refine acalls_pop fn_inbox_Inbox_Active_1_ok (by simp [fn_inbox_Inbox_Active_1]) ?_
  simp -implicitDefEqProofs (disch := omega) only [go_sem, Nat.reduceAdd, Nat.reduceMul, Nat.reduceSub, Nat.reduceBEq, Nat.reduceLeDiff, Nat.reduceLT, fn_inbox_Inbox_Active_1, e39_1, w39_1, e39_3, w39_3, c39_4, c39_5, Msg.row, get_at0, hj']
  refine ifD (fun h2 => ?_) (fun h2 => ?_)
  rotate_left
  · simp -implicitDefEqProofs (disch := omega) only [go_sem, Nat.reduceAdd, Nat.reduceMul, Nat.reduceSub, Nat.reduceBEq, Nat.reduceLeDiff, Nat.reduceLT, fn_inbox_Inbox_Active_1, e39_1, w39_1, e39_3, w39_3, c39_4, c39_5, fin, fin2, hU]
    simp [curB, h2]
  simp -implicitDefEqProofs (disch := omega) only [go_sem, Nat.reduceAdd, Nat.reduceMul, Nat.reduceSub, Nat.reduceBEq, Nat.reduceLeDiff, Nat.reduceLT, fn_inbox_Inbox_Active_1, e39_1, w39_1, e39_3, w39_3, c39_4, c39_5, get_at0, hj']
  refine ifD (fun h3 => ?_) (fun h3 => ?_)
  rotate_left
  · simp -implicitDefEqProofs (disch := omega) only [go_sem, Nat.reduceAdd, Nat.reduceMul, Nat.reduceSub, Nat.reduceBEq, Nat.reduceLeDiff, Nat.reduceLT, fn_inbox_Inbox_Active_1, e39_1, w39_1, e39_3, w39_3, c39_4, c39_5, fin, fin2, hU]
    simp [curB, h3]
  simp -implicitDefEqProofs (disch := omega) only [go_sem, Nat.reduceAdd, Nat.reduceMul, Nat.reduceSub, Nat.reduceBEq, Nat.reduceLeDiff, Nat.reduceLT, fn_inbox_Inbox_Active_1, e39_1, w39_1, e39_3, w39_3, c39_4, c39_5, get_at0, hi', hj']
  refine callA hf ?_
  rintro v N2 ⟨rfl, rfl⟩
  simp -implicitDefEqProofs (disch := omega) only [go_sem, Nat.reduceAdd, Nat.reduceMul, Nat.reduceSub, Nat.reduceBEq, Nat.reduceLeDiff, Nat.reduceLT, fn_inbox_Inbox_Active_1, e39_1, w39_1, e39_3, w39_3, c39_4, c39_5, fin, fin2, hU]
  simp [curB, h2, h3]

def overB (cur : List Msg) (m : Msg) : Bool := cur.any fun o => decide (o.src < m.src) && sameT o m
def actL (cur : List Msg) : List Msg := cur.foldl (fun out m => if overB cur m = true then out else insM out m) []
def actStep (cur : List Msg) (out : List Msg) (m : Msg) : List Msg := if overB cur m = true then out else insM out m
def actUp (cur : List Msg) (i : Nat) : List Msg := (cur.take i).foldl (actStep cur) []
theorem actUp_all (cur : List Msg) : actUp cur cur.length = actL cur := by rw [actUp, List.take_length]; rfl
theorem actUp_succ {cur : List Msg} {i : Nat} {m : Msg} (h : cur[i]? = some m) : actUp cur (i + 1) = actStep cur (actUp cur i) m := by
  rw [actUp, List.take_add_one, h, List.foldl_append]; rfl
theorem actUp_len (cur : List Msg) : ∀ i, (actUp cur i).length ≤ i
  | 0 => by simp [actUp]
  | i + 1 => by
    have ih := actUp_len cur i
    by_cases h : i < cur.length
    · rw [actUp_succ (List.getElem?_eq_getElem h), actStep]
      split
      · omega
      · rw [insM_len]; omega
    · rw [actUp, List.take_of_length_le (by omega)]
      rw [actUp, List.take_of_length_le (by omega)] at ih
      omega
/-- The active messages of an inbox. -/
def activeL (b : Ibx) (now : Int) : List Msg := actL (keepM (curB b now) b.kept)
theorem over_succ {cur : List Msg} {i : Nat} {o m : Msg} (h : cur[i]? = some o) : overB (cur.take (i + 1)) m = (overB (cur.take i) m || (decide (o.src < m.src) && sameT o m)) := by
  rw [overB, List.take_add_one, h, List.any_append]
  simp [overB]
def capA (l : List Msg) : Cap := match l with | [] => .nil | _ => .unk
theorem capA_ins (l : List Msg) (m : Msg) : capA (insM l m) = .unk := by
  have := insM_len l m
  cases e : insM l m with
  | nil => rw [e] at this; simp at this
  | cons x r => rfl
theorem Active_okc {M : Mem} {b : Ibx} {id sid : Nat} (h : InAt M b id sid) (hok : b.Ok) (now : Int) (hn : I64 now) :
    ACalls PR i_inbox_Inbox_Active [.ptr id 0, .int .i64 now] M (fun v N => v = .slice ((activeL b now).map Msg.row) (capA (activeL b now)) ∧ N = M) := by
  obtain ⟨kv, hb, hk⟩ := h.box
  obtain ⟨hid, hsid, _⟩ := h.lt
  have hU := h.own
  have hUL : memUnder (M.length + 2) [.box [.ptr id 0], .box [.int .i64 now]] = true := by
    have : decide (id < M.length + 2) = true := decide_eq_true (by omega)
    simp [memUnder, Blk.under, underL, V.under]
    omega
  have h1 := h.app [.box [.ptr id 0], .box [.int .i64 now]] hUL
  have hk1 := hk.app [.box [.ptr id 0], .box [.int .i64 now]]
  have fin : ∀ L : Mem, (M ++ L).take M.length = M := fun L => List.take_left
  have fin2 : ∀ L : Mem, decide (M.length ≤ (M ++ L).length) = true := fun L => by simp
  have hb3 : ∀ L, (M ++ L)[id]? = some (.box [.mslice sid 0 0 b.srcs.length, .int .i64 b.pat, kv]) := fun L => mget hb L
  refine acalls_pop fn_inbox_Inbox_Active_ok (by simp [fn_inbox_Inbox_Active]) ?_
  simp -implicitDefEqProofs (disch := omega) only [go_sem, Nat.reduceAdd, Nat.reduceMul, Nat.reduceSub, Nat.reduceBEq, Nat.reduceLeDiff, Nat.reduceLT, fn_inbox_Inbox_Active, e18_1, w18_1, e18_3, w18_3, c18_4, e18_6, w18_6, e18_8, w18_8, e18_10, w18_10, e18_12, w18_12, e18_14, w18_14, c18_15, e18_17, w18_17, e18_19, w18_19, e18_21, w18_21, e18_23, w18_23, c18_24, e18_26, w18_26, e18_28, w18_28, c18_29, c18_30, e18_32, w18_32, c18_33, c18_34, c18_35, c18_36, c18_37, c18_38, e18_40, w18_40, e18_42, w18_42, c18_43, c18_44, c18_45, c18_46, e18_48, w18_48, c18_49, c18_50, c18_51, c18_52, c18_53, c18_54, e18_56, w18_56, c18_57, c18_58, c18_59, c18_60, c18_61, c18_62, List.append_assoc, get_at0, get_at, nil_ptr_eq, nc_ptr, hb3]
  have hL : (M ++ [Blk.box [.ptr id 0], .box [.int .i64 now]]).length = M.length + 2 := by simp
  have hM1 : (M ++ [Blk.box [.ptr id 0], .box [.int .i64 now]])[M.length]? = some (.box [.ptr id 0]) := mlast M _ _
  have hM2 : (M ++ [Blk.box [.ptr id 0], .box [.int .i64 now]])[M.length + 1]? = some (.box [.int .i64 now]) := by rw [get_at]; rfl
  have hf := filtered_ok (M := M ++ [.box [.ptr id 0], .box [.int .i64 now]]) h1.own hk1 (by have := hok.kept; omega) (fun o ho => by have := (hok.msg o ho).2.1; omega) (fv := .fn i_inbox_Inbox_Active_1 [.ptr (M.length + 1) 0, .ptr M.length 0]) (.inl rfl) (by rw [hL]; simp [V.under, underL]) (curB b now)
    (fun o _ L hL => by
      obtain ⟨kv', hb', hk'⟩ := h1.box
      exact Active_1_ok (h := ⟨hL, mget h1.src L, kv', mget hb' L, hk'.app L⟩) hok o now hn (mget hM1 L) (mget hM2 L))
  rw [hL] at hf
  refine callA hf ?_
  rintro v N ⟨ver, rfl, rfl⟩
  have hcl : (keepM (curB b now) b.kept).length ≤ 256 := Nat.le_trans (keepM_len _ _) hok.kept
  unfold activeL
  generalize keepM (curB b now) b.kept = cur at *
  generalize hN : M ++ [Blk.box [.ptr id 0], .box [.int .i64 now]] ++ [.arr 13 (cur.map Msg.row) ver 0] = N
  have hNM : ∃ L, N = M ++ L := ⟨_, by rw [← hN, List.append_assoc]⟩
  have hNl : N.length = M.length + 3 := by rw [← hN]; simp
  have hNo : memUnder N.length N = true := by
    rw [hNl, ← hN, memUnder_app, memUnder_mono (by omega) _ (hL ▸ h1.own)]; rfl
  have hK : KV N (.mslice (M.length + 2) ver 0 cur.length) cur := .inr ⟨M.length + 2, ver, rfl, by rw [← hN, show M.length + 2 = (M ++ [Blk.box [.ptr id 0], .box [.int .i64 now]]).length from hL.symm]; exact mlast _ _ _⟩
  have hu2 : decide (M.length + 2 < N.length) = true := decide_eq_true (by omega)
  generalize hcv : V.mslice (M.length + 2) ver 0 cur.length = cv at *
  have hcu : cv.under N.length = true := hK.under
  have hlen0 := hK.len
  have hlenL : ∀ L, lenV cv (N ++ L) = some (.int .i64 cur.length) := fun L => (hK.app L).len
  simp -implicitDefEqProofs (disch := omega) only [go_sem, Nat.reduceAdd, Nat.reduceMul, Nat.reduceSub, Nat.reduceBEq, Nat.reduceLeDiff, Nat.reduceLT, fn_inbox_Inbox_Active, e18_1, w18_1, e18_3, w18_3, c18_4, e18_6, w18_6, e18_8, w18_8, e18_10, w18_10, e18_12, w18_12, e18_14, w18_14, c18_15, e18_17, w18_17, e18_19, w18_19, e18_21, w18_21, e18_23, w18_23, c18_24, e18_26, w18_26, e18_28, w18_28, c18_29, c18_30, e18_32, w18_32, c18_33, c18_34, c18_35, c18_36, c18_37, c18_38, e18_40, w18_40, e18_42, w18_42, c18_43, c18_44, c18_45, c18_46, e18_48, w18_48, c18_49, c18_50, c18_51, c18_52, c18_53, c18_54, e18_56, w18_56, c18_57, c18_58, c18_59, c18_60, c18_61, c18_62, hlen0]
  refine wpC_forL cur (fun i vs N' => vs = [cv, .slice ((actUp cur i).map Msg.row) (capA (actUp cur i)), cv, .int .i64 cur.length, .int .i64 i] ∧ N' = N) ⟨rfl, rfl⟩ ?_ ?_
  rotate_left
  · rintro vs N' ⟨rfl, rfl⟩
    rw [actUp_all]
    obtain ⟨L, rfl⟩ := hNM
    generalize capA (actL cur) = c
    simp -implicitDefEqProofs (disch := omega) only [go_sem, Nat.reduceAdd, Nat.reduceMul, Nat.reduceSub, Nat.reduceBEq, Nat.reduceLeDiff, Nat.reduceLT, fn_inbox_Inbox_Active, e18_1, w18_1, e18_3, w18_3, c18_4, e18_6, w18_6, e18_8, w18_8, e18_10, w18_10, e18_12, w18_12, e18_14, w18_14, c18_15, e18_17, w18_17, e18_19, w18_19, e18_21, w18_21, e18_23, w18_23, c18_24, e18_26, w18_26, e18_28, w18_28, c18_29, c18_30, e18_32, w18_32, c18_33, c18_34, c18_35, c18_36, c18_37, c18_38, e18_40, w18_40, e18_42, w18_42, c18_43, c18_44, c18_45, c18_46, e18_48, w18_48, c18_49, c18_50, c18_51, c18_52, c18_53, c18_54, e18_56, w18_56, c18_57, c18_58, c18_59, c18_60, c18_61, c18_62, dec_irrefl, fin, fin2, hU]
  rintro i m vs N' hm hi hd ⟨rfl, rfl⟩
  generalize hcc : capA (actUp cur i) = c
  obtain ⟨a, ha1, ha2⟩ := hK.at hm
  have hpop : ∀ (L : Mem) (x : V) (n : Int), x.under N'.length = true → popOK N'.length (vals [(5, cv), (6, x), (20, cv), (21, V.int .i64 cur.length), (22, V.int .i64 n)] [5, 6, 20, 21, 22]) (N' ++ L) = true := fun L x n hx => by
    refine pop_own hNo ?_
    simp only [vals, sget, underL, Nat.reduceBEq, cond_false, cond_true]
    simp [hcu, hx, V.under, underL]
  simp only [Msg.row] at ha2
  simp -implicitDefEqProofs (disch := omega) only [go_sem, Nat.reduceAdd, Nat.reduceMul, Nat.reduceSub, Nat.reduceBEq, Nat.reduceLeDiff, Nat.reduceLT, fn_inbox_Inbox_Active, e18_1, w18_1, e18_3, w18_3, c18_4, e18_6, w18_6, e18_8, w18_8, e18_10, w18_10, e18_12, w18_12, e18_14, w18_14, c18_15, e18_17, w18_17, e18_19, w18_19, e18_21, w18_21, e18_23, w18_23, c18_24, e18_26, w18_26, e18_28, w18_28, c18_29, c18_30, e18_32, w18_32, c18_33, c18_34, c18_35, c18_36, c18_37, c18_38, e18_40, w18_40, e18_42, w18_42, c18_43, c18_44, c18_45, c18_46, e18_48, w18_48, c18_49, c18_50, c18_51, c18_52, c18_53, c18_54, e18_56, w18_56, c18_57, c18_58, c18_59, c18_60, c18_61, c18_62, hd, ha1, ha2, get_at0, mset, hlenL]
  refine wpC_forL cur (fun j vs N2 => vs = [cv, .slice ((actUp cur i).map Msg.row) c, .ptr N'.length 0, .bool (overB (cur.take j) m), cv, .int .i64 cur.length, .int .i64 i, cv, .int .i64 cur.length, .int .i64 j] ∧ N2 = N' ++ [.box m.row]) ⟨rfl, rfl⟩ ?_ ?_
  rotate_left
  · rintro vs N2 ⟨rfl, rfl⟩
    rw [List.take_length]
    simp -implicitDefEqProofs (disch := omega) only [go_sem, Nat.reduceAdd, Nat.reduceMul, Nat.reduceSub, Nat.reduceBEq, Nat.reduceLeDiff, Nat.reduceLT, fn_inbox_Inbox_Active, e18_1, w18_1, e18_3, w18_3, c18_4, e18_6, w18_6, e18_8, w18_8, e18_10, w18_10, e18_12, w18_12, e18_14, w18_14, c18_15, e18_17, w18_17, e18_19, w18_19, e18_21, w18_21, e18_23, w18_23, c18_24, e18_26, w18_26, e18_28, w18_28, c18_29, c18_30, e18_32, w18_32, c18_33, c18_34, c18_35, c18_36, c18_37, c18_38, e18_40, w18_40, e18_42, w18_42, c18_43, c18_44, c18_45, c18_46, e18_48, w18_48, c18_49, c18_50, c18_51, c18_52, c18_53, c18_54, e18_56, w18_56, c18_57, c18_58, c18_59, c18_60, c18_61, c18_62, dec_irrefl]
    refine ifB (fun h2 => ?_) (fun h2 => ?_)
    · simp -implicitDefEqProofs (disch := omega) only [go_sem, Nat.reduceAdd, Nat.reduceMul, Nat.reduceSub, Nat.reduceBEq, Nat.reduceLeDiff, Nat.reduceLT, fn_inbox_Inbox_Active, e18_1, w18_1, e18_3, w18_3, c18_4, e18_6, w18_6, e18_8, w18_8, e18_10, w18_10, e18_12, w18_12, e18_14, w18_14, c18_15, e18_17, w18_17, e18_19, w18_19, e18_21, w18_21, e18_23, w18_23, c18_24, e18_26, w18_26, e18_28, w18_28, c18_29, c18_30, e18_32, w18_32, c18_33, c18_34, c18_35, c18_36, c18_37, c18_38, e18_40, w18_40, e18_42, w18_42, c18_43, c18_44, c18_45, c18_46, e18_48, w18_48, c18_49, c18_50, c18_51, c18_52, c18_53, c18_54, e18_56, w18_56, c18_57, c18_58, c18_59, c18_60, c18_61, c18_62]
      have e : actUp cur (i + 1) = actUp cur i := by rw [actUp_succ hm, actStep, if_pos h2]
      refine next_pop hi (hpop _ _ _ rfl) ⟨by rw [e, hcc]; rfl, List.take_left⟩
    · have e : actUp cur (i + 1) = insM (actUp cur i) m := by rw [actUp_succ hm, actStep, if_neg (by rw [h2]; simp)]
      have hins := inserted_ok (actUp cur i) c m (by have := actUp_len cur i; omega)
      simp only [Msg.row] at hins
      simp -implicitDefEqProofs (disch := omega) only [go_sem, Nat.reduceAdd, Nat.reduceMul, Nat.reduceSub, Nat.reduceBEq, Nat.reduceLeDiff, Nat.reduceLT, fn_inbox_Inbox_Active, e18_1, w18_1, e18_3, w18_3, c18_4, e18_6, w18_6, e18_8, w18_8, e18_10, w18_10, e18_12, w18_12, e18_14, w18_14, c18_15, e18_17, w18_17, e18_19, w18_19, e18_21, w18_21, e18_23, w18_23, c18_24, e18_26, w18_26, e18_28, w18_28, c18_29, c18_30, e18_32, w18_32, c18_33, c18_34, c18_35, c18_36, c18_37, c18_38, e18_40, w18_40, e18_42, w18_42, c18_43, c18_44, c18_45, c18_46, e18_48, w18_48, c18_49, c18_50, c18_51, c18_52, c18_53, c18_54, e18_56, w18_56, c18_57, c18_58, c18_59, c18_60, c18_61, c18_62, get_at0, Msg.row]
      first | refine callD (hins) ?_ | refine callQD (hins) ?_
      simp -implicitDefEqProofs (disch := omega) only [go_sem, Nat.reduceAdd, Nat.reduceMul, Nat.reduceSub, Nat.reduceBEq, Nat.reduceLeDiff, Nat.reduceLT, fn_inbox_Inbox_Active, e18_1, w18_1, e18_3, w18_3, c18_4, e18_6, w18_6, e18_8, w18_8, e18_10, w18_10, e18_12, w18_12, e18_14, w18_14, c18_15, e18_17, w18_17, e18_19, w18_19, e18_21, w18_21, e18_23, w18_23, c18_24, e18_26, w18_26, e18_28, w18_28, c18_29, c18_30, e18_32, w18_32, c18_33, c18_34, c18_35, c18_36, c18_37, c18_38, e18_40, w18_40, e18_42, w18_42, c18_43, c18_44, c18_45, c18_46, e18_48, w18_48, c18_49, c18_50, c18_51, c18_52, c18_53, c18_54, e18_56, w18_56, c18_57, c18_58, c18_59, c18_60, c18_61, c18_62]
      refine next_pop hi (hpop _ _ _ rfl) ⟨by rw [e, capA_ins]; rfl, List.take_left⟩
  rintro j o vs N2 ho hj hdj ⟨rfl, rfl⟩
  obtain ⟨a', hb1, hb2⟩ := (hK.app [.box m.row]).at ho
  have hst := message_SameTarget_ok o m
  have hown1 : memUnder (N'.length + 1) (N' ++ [Blk.box m.row]) = true := by
    have := own_mem hNo [Blk.box m.row] rfl
    simpa using this
  have hpop2 : ∀ (B : Blk) (n : Int) (r : Bool), popOK (N'.length + 1) (vals [(5, cv), (6, V.slice ((actUp cur i).map Msg.row) c), (8, V.ptr N'.length 0), (9, V.bool r), (20, cv), (21, V.int .i64 cur.length), (22, V.int .i64 i), (26, cv), (27, V.int .i64 cur.length), (28, V.int .i64 n)] [5, 6, 8, 9, 20, 21, 22, 26, 27, 28]) (N' ++ [.box m.row, B]) = true := fun B n r => by
    refine popOK_of (by simp) ?_ (by rw [take2]; exact hown1)
    have hcu1 := under_mono (Nat.le_succ N'.length) cv hcu
    simp only [vals, sget, underL, Nat.reduceBEq, cond_false, cond_true]
    simp [hcu1, V.under, underL]
  simp only [Msg.row] at hb1 hb2 hst hpop2
  simp -implicitDefEqProofs (disch := omega) only [go_sem, Nat.reduceAdd, Nat.reduceMul, Nat.reduceSub, Nat.reduceBEq, Nat.reduceLeDiff, Nat.reduceLT, fn_inbox_Inbox_Active, e18_1, w18_1, e18_3, w18_3, c18_4, e18_6, w18_6, e18_8, w18_8, e18_10, w18_10, e18_12, w18_12, e18_14, w18_14, c18_15, e18_17, w18_17, e18_19, w18_19, e18_21, w18_21, e18_23, w18_23, c18_24, e18_26, w18_26, e18_28, w18_28, c18_29, c18_30, e18_32, w18_32, c18_33, c18_34, c18_35, c18_36, c18_37, c18_38, e18_40, w18_40, e18_42, w18_42, c18_43, c18_44, c18_45, c18_46, e18_48, w18_48, c18_49, c18_50, c18_51, c18_52, c18_53, c18_54, e18_56, w18_56, c18_57, c18_58, c18_59, c18_60, c18_61, c18_62, hdj, hb1, hb2, List.append_assoc, get_at0, get_at, set_at, Msg.row]
  refine ifB (fun h2 => ?_) (fun h2 => ?_)
  · have e : overB (cur.take (j + 1)) m = true := by rw [over_succ ho, h2]; rfl
    simp -implicitDefEqProofs (disch := omega) only [go_sem, Nat.reduceAdd, Nat.reduceMul, Nat.reduceSub, Nat.reduceBEq, Nat.reduceLeDiff, Nat.reduceLT, fn_inbox_Inbox_Active, e18_1, w18_1, e18_3, w18_3, c18_4, e18_6, w18_6, e18_8, w18_8, e18_10, w18_10, e18_12, w18_12, e18_14, w18_14, c18_15, e18_17, w18_17, e18_19, w18_19, e18_21, w18_21, e18_23, w18_23, c18_24, e18_26, w18_26, e18_28, w18_28, c18_29, c18_30, e18_32, w18_32, c18_33, c18_34, c18_35, c18_36, c18_37, c18_38, e18_40, w18_40, e18_42, w18_42, c18_43, c18_44, c18_45, c18_46, e18_48, w18_48, c18_49, c18_50, c18_51, c18_52, c18_53, c18_54, e18_56, w18_56, c18_57, c18_58, c18_59, c18_60, c18_61, c18_62]
    refine next_pop hj (hpop2 _ _ _) ⟨by rw [e]; rfl, take2 _ _ _⟩
  simp -implicitDefEqProofs (disch := omega) only [go_sem, Nat.reduceAdd, Nat.reduceMul, Nat.reduceSub, Nat.reduceBEq, Nat.reduceLeDiff, Nat.reduceLT, fn_inbox_Inbox_Active, e18_1, w18_1, e18_3, w18_3, c18_4, e18_6, w18_6, e18_8, w18_8, e18_10, w18_10, e18_12, w18_12, e18_14, w18_14, c18_15, e18_17, w18_17, e18_19, w18_19, e18_21, w18_21, e18_23, w18_23, c18_24, e18_26, w18_26, e18_28, w18_28, c18_29, c18_30, e18_32, w18_32, c18_33, c18_34, c18_35, c18_36, c18_37, c18_38, e18_40, w18_40, e18_42, w18_42, c18_43, c18_44, c18_45, c18_46, e18_48, w18_48, c18_49, c18_50, c18_51, c18_52, c18_53, c18_54, e18_56, w18_56, c18_57, c18_58, c18_59, c18_60, c18_61, c18_62, get_at0, get_at]
  refine ifD (fun h3 => ?_) (fun h3 => ?_)
  · simp -implicitDefEqProofs (disch := omega) only [go_sem, Nat.reduceAdd, Nat.reduceMul, Nat.reduceSub, Nat.reduceBEq, Nat.reduceLeDiff, Nat.reduceLT, fn_inbox_Inbox_Active, e18_1, w18_1, e18_3, w18_3, c18_4, e18_6, w18_6, e18_8, w18_8, e18_10, w18_10, e18_12, w18_12, e18_14, w18_14, c18_15, e18_17, w18_17, e18_19, w18_19, e18_21, w18_21, e18_23, w18_23, c18_24, e18_26, w18_26, e18_28, w18_28, c18_29, c18_30, e18_32, w18_32, c18_33, c18_34, c18_35, c18_36, c18_37, c18_38, e18_40, w18_40, e18_42, w18_42, c18_43, c18_44, c18_45, c18_46, e18_48, w18_48, c18_49, c18_50, c18_51, c18_52, c18_53, c18_54, e18_56, w18_56, c18_57, c18_58, c18_59, c18_60, c18_61, c18_62, get_at0, get_at]
    first | refine callD (hst) ?_ | refine callQD (hst) ?_
    simp -implicitDefEqProofs (disch := omega) only [go_sem, Nat.reduceAdd, Nat.reduceMul, Nat.reduceSub, Nat.reduceBEq, Nat.reduceLeDiff, Nat.reduceLT, fn_inbox_Inbox_Active, e18_1, w18_1, e18_3, w18_3, c18_4, e18_6, w18_6, e18_8, w18_8, e18_10, w18_10, e18_12, w18_12, e18_14, w18_14, c18_15, e18_17, w18_17, e18_19, w18_19, e18_21, w18_21, e18_23, w18_23, c18_24, e18_26, w18_26, e18_28, w18_28, c18_29, c18_30, e18_32, w18_32, c18_33, c18_34, c18_35, c18_36, c18_37, c18_38, e18_40, w18_40, e18_42, w18_42, c18_43, c18_44, c18_45, c18_46, e18_48, w18_48, c18_49, c18_50, c18_51, c18_52, c18_53, c18_54, e18_56, w18_56, c18_57, c18_58, c18_59, c18_60, c18_61, c18_62]
    have e : overB (cur.take (j + 1)) m = sameT o m := by rw [over_succ ho, h2]; simp [h3]
    refine next_pop hj (hpop2 _ _ _) ⟨by rw [e]; rfl, take2 _ _ _⟩
  · simp -implicitDefEqProofs (disch := omega) only [go_sem, Nat.reduceAdd, Nat.reduceMul, Nat.reduceSub, Nat.reduceBEq, Nat.reduceLeDiff, Nat.reduceLT, fn_inbox_Inbox_Active, e18_1, w18_1, e18_3, w18_3, c18_4, e18_6, w18_6, e18_8, w18_8, e18_10, w18_10, e18_12, w18_12, e18_14, w18_14, c18_15, e18_17, w18_17, e18_19, w18_19, e18_21, w18_21, e18_23, w18_23, c18_24, e18_26, w18_26, e18_28, w18_28, c18_29, c18_30, e18_32, w18_32, c18_33, c18_34, c18_35, c18_36, c18_37, c18_38, e18_40, w18_40, e18_42, w18_42, c18_43, c18_44, c18_45, c18_46, e18_48, w18_48, c18_49, c18_50, c18_51, c18_52, c18_53, c18_54, e18_56, w18_56, c18_57, c18_58, c18_59, c18_60, c18_61, c18_62]
    have e : overB (cur.take (j + 1)) m = false := by rw [over_succ ho, h2]; simp [h3]
    refine next_pop hj (hpop2 _ _ _) ⟨by rw [e]; rfl, take2 _ _ _⟩
theorem Active_ok {M : Mem} {b : Ibx} {id sid : Nat} (h : InAt M b id sid) (hok : b.Ok) (now : Int) (hn : I64 now) :
    ACalls PR i_inbox_Inbox_Active [.ptr id 0, .int .i64 now] M (fun v N => (∃ c, v = .slice ((activeL b now).map Msg.row) c) ∧ N = M) :=
  ACalls.mono (Active_okc h hok now hn) fun v N hv => ⟨⟨_, hv.1⟩, hv.2⟩

end Go.Vm.C

