/- Contracts: receiving, inboxes after some calls. -/
import Derived.Test.YtmbeokppfdalfaaT6

namespace Go.Vm.C
open Go.Vm
set_option maxHeartbeats 1000000
set_option maxRecDepth 10000
set_option linter.unusedSimpArgs false
set_option linter.unusedVariables false

def liveM (m : Msg) (now : Int) (o : Msg) : Bool := !superB m o && decide (now < o.exp)
def recvK (b : Ibx) (m : Msg) (now : Int) : List Msg := keepM (liveM m now) b.kept
def recvE (b : Ibx) (m : Msg) (now : Int) : Int := if refuseE b m now ≠ 0 then refuseE b m now else if 256 ≤ (recvK b m now).length then 5 else 0
def recvS (s : Src) (m : Msg) (now : Int) : Src := { hearS s now with recv := true, seq := m.seq }
def recvI (b : Ibx) (m : Msg) (now : Int) : Ibx :=
  if recvE b m now = 0 then (match b.srcs[m.src.toNat]? with | some s => ⟨b.srcs.set m.src.toNat (recvS s m now), b.pat, recvK b m now ++ [m.own]⟩ | none => b) else b

theorem Receive_1_ok {N : Mem} (hU : memUnder N.length N = true) {i j : Nat} (m o : Msg) (now : Int) (hi : N[i]? = some (.box m.row)) (hj : N[j]? = some (.box [.int .i64 now])) :
    ACalls PR i_inbox_Inbox_Receive_1 [.agg o.row, .ptr i 0, .ptr j 0] N (fun v N' => v = .bool (liveM m now o) ∧ N' = N) := by
  have hs := message_Supersedes_ok m o
  simp only [Msg.row] at hs hi
  have hi' := fun L => mget hi L
  have hj' := fun L => mget hj L
  have fin : ∀ L : Mem, (N ++ L).take N.length = N := fun L => List.take_left
  have fin2 : ∀ L : Mem, decide (N.length ≤ (N ++ L).length) = true := fun L => by simp
  refine acalls_pop fn_inbox_Inbox_Receive_1_ok (by simp [fn_inbox_Inbox_Receive_1]) ?_
  simp -implicitDefEqProofs (disch := omega) only [go_sem, Nat.reduceAdd, Nat.reduceMul, Nat.reduceSub, Nat.reduceBEq, Nat.reduceLeDiff, Nat.reduceLT, fn_inbox_Inbox_Receive_1, e34_1, w34_1, e34_3, w34_3, c34_4, c34_5, Msg.row, get_at0, hi']
  first | refine callD (hs) ?_ | refine callQD (hs) ?_
  simp -implicitDefEqProofs (disch := omega) only [go_sem, Nat.reduceAdd, Nat.reduceMul, Nat.reduceSub, Nat.reduceBEq, Nat.reduceLeDiff, Nat.reduceLT, fn_inbox_Inbox_Receive_1, e34_1, w34_1, e34_3, w34_3, c34_4, c34_5]
  refine ifB (fun h => ?_) (fun h => ?_)
  · simp -implicitDefEqProofs (disch := omega) only [go_sem, Nat.reduceAdd, Nat.reduceMul, Nat.reduceSub, Nat.reduceBEq, Nat.reduceLeDiff, Nat.reduceLT, fn_inbox_Inbox_Receive_1, e34_1, w34_1, e34_3, w34_3, c34_4, c34_5, fin, fin2, hU]
    simp [liveM, h]
  · simp -implicitDefEqProofs (disch := omega) only [go_sem, Nat.reduceAdd, Nat.reduceMul, Nat.reduceSub, Nat.reduceBEq, Nat.reduceLeDiff, Nat.reduceLT, fn_inbox_Inbox_Receive_1, e34_1, w34_1, e34_3, w34_3, c34_4, c34_5, get_at0, hj', fin, fin2, hU]
    simp [liveM, h]

theorem recv_mem {M : Mem} {id : Nat} (hid : id < M.length) (B B1 B2 B3 : Blk) : (M.set id B ++ [B1, B2, B3])[id]? = some B ∧ (∀ j, j < M.length → j ≠ id → (M.set id B ++ [B1, B2, B3])[j]? = M[j]?) ∧ (M.set id B ++ [B1, B2, B3])[M.length]? = some B1 ∧ (M.set id B ++ [B1, B2, B3])[M.length + 1]? = some B2 ∧ (M.set id B ++ [B1, B2, B3])[M.length + 2]? = some B3 ∧ (M.set id B ++ [B1, B2, B3]).length = M.length + 3 := by
  have hl : (M.set id B).length = M.length := List.length_set
  refine ⟨?_, fun j hj hji => ?_, ?_, ?_, ?_, by simp⟩
  · rw [List.getElem?_append_left (by rw [hl]; exact hid), List.getElem?_set_self hid]
  · rw [List.getElem?_append_left (by rw [hl]; exact hj), List.getElem?_set_ne (Ne.symm hji)]
  · rw [List.getElem?_append_right (by omega), hl, Nat.sub_self]; rfl
  · rw [List.getElem?_append_right (by omega), hl, Nat.add_sub_cancel_left]; rfl
  · rw [List.getElem?_append_right (by omega), hl, Nat.add_sub_cancel_left]; rfl
theorem recv_own {M : Mem} {id : Nat} (hU : memUnder M.length M = true) (B B1 B2 B3 : Blk) (h0 : B.under (M.length + 3) = true) (h1 : memUnder (M.length + 3) [B1, B2, B3] = true) : memUnder (M.set id B ++ [B1, B2, B3]).length (M.set id B ++ [B1, B2, B3]) = true := by
  have hl : (M.set id B ++ [B1, B2, B3]).length = M.length + 3 := by simp
  rw [hl, memUnder_app, set_under _ _ h0 _ _ (memUnder_mono (by omega) M hU), h1]; rfl

theorem Receive_ok {M : Mem} {b : Ibx} {id sid : Nat} (h : InAt M b id sid) (hok : b.Ok) (m : Msg) (now : Int) (hc : m.calls.length ≤ maxLen) (ht : m.trip.length ≤ maxLen) :
    ACalls PR i_inbox_Inbox_Receive [.ptr id 0, .agg m.row, .int .i64 now] M (fun v N => v = .int .i64 (recvE b m now) ∧ Fr M N id sid ∧ InAt N (recvI b m now) id sid) := by
  obtain ⟨hid, hsid, hne⟩ := h.lt
  have hU1 : memUnder (M.length + 2) [.box m.row, .box [.int .i64 now]] = true := rfl
  have h1 := h.app [.box m.row, .box [.int .i64 now]] hU1
  obtain ⟨kv, hb, hk⟩ := h.box
  have hb1 := mget hb [.box m.row, .box [.int .i64 now]]
  have hb3 : ∀ L, (M ++ L)[id]? = some (.box [.mslice sid 0 0 b.srcs.length, .int .i64 b.pat, kv]) := fun L => mget hb L
  have hk1 := hk.app [.box m.row, .box [.int .i64 now]]
  have hrow : ∀ L, (M ++ .box m.row :: L)[M.length]? = some (.box m.row) := fun L => mlast M _ L
  refine acalls_keep fn_inbox_Inbox_Receive_ok (by simp [fn_inbox_Inbox_Receive]) ?_
  simp only [wpKeep]
  have hrf := refusal_ok h1 m now hc ht
  simp only [Msg.row] at hrf
  simp -implicitDefEqProofs (disch := omega) only [go_sem, Nat.reduceAdd, Nat.reduceMul, Nat.reduceSub, Nat.reduceBEq, Nat.reduceLeDiff, Nat.reduceLT, fn_inbox_Inbox_Receive, e16_1, w16_1, e16_3, w16_3, c16_4, e16_6, w16_6, e16_8, w16_8, e16_10, w16_10, c16_11, e16_13, w16_13, c16_14, e16_16, w16_16, e16_18, w16_18, c16_19, e16_21, w16_21, e16_23, w16_23, e16_25, w16_25, e16_27, w16_27, e16_29, w16_29, e16_31, w16_31, c16_32, c16_33, c16_34, c16_35, c16_36, c16_37, c16_38, c16_39, c16_40, c16_41, Msg.row, nil_ptr_eq, List.append_assoc, get_at0, get_at]
  refine callA hrf ?_
  rintro v N ⟨rfl, rfl⟩
  simp -implicitDefEqProofs (disch := omega) only [go_sem, Nat.reduceAdd, Nat.reduceMul, Nat.reduceSub, Nat.reduceBEq, Nat.reduceLeDiff, Nat.reduceLT, fn_inbox_Inbox_Receive, e16_1, w16_1, e16_3, w16_3, c16_4, e16_6, w16_6, e16_8, w16_8, e16_10, w16_10, c16_11, e16_13, w16_13, c16_14, e16_16, w16_16, e16_18, w16_18, c16_19, e16_21, w16_21, e16_23, w16_23, e16_25, w16_25, e16_27, w16_27, e16_29, w16_29, e16_31, w16_31, c16_32, c16_33, c16_34, c16_35, c16_36, c16_37, c16_38, c16_39, c16_40, c16_41]
  refine ifD (fun g1 => ?_) (fun g1 => ?_)
  rotate_left
  · have e : recvE b m now = refuseE b m now := by rw [recvE, if_pos g1]
    have e2 : recvI b m now = b := by rw [recvI, if_neg (by rw [e]; exact g1)]
    simp -implicitDefEqProofs (disch := omega) only [go_sem, Nat.reduceAdd, Nat.reduceMul, Nat.reduceSub, Nat.reduceBEq, Nat.reduceLeDiff, Nat.reduceLT, fn_inbox_Inbox_Receive, e16_1, w16_1, e16_3, w16_3, c16_4, e16_6, w16_6, e16_8, w16_8, e16_10, w16_10, c16_11, e16_13, w16_13, c16_14, e16_16, w16_16, e16_18, w16_18, c16_19, e16_21, w16_21, e16_23, w16_23, e16_25, w16_25, e16_27, w16_27, e16_29, w16_29, e16_31, w16_31, c16_32, c16_33, c16_34, c16_35, c16_36, c16_37, c16_38, c16_39, c16_40, c16_41, e, e2]
    exact ⟨Fr.app _ _ _ _, h1⟩
  have howned := inbox_owned_ok m (by have := checkM_calls (refuseE_check g1).1; omega)
  simp only [Msg.row] at howned
  simp -implicitDefEqProofs (disch := omega) only [go_sem, Nat.reduceAdd, Nat.reduceMul, Nat.reduceSub, Nat.reduceBEq, Nat.reduceLeDiff, Nat.reduceLT, fn_inbox_Inbox_Receive, e16_1, w16_1, e16_3, w16_3, c16_4, e16_6, w16_6, e16_8, w16_8, e16_10, w16_10, c16_11, e16_13, w16_13, c16_14, e16_16, w16_16, e16_18, w16_18, c16_19, e16_21, w16_21, e16_23, w16_23, e16_25, w16_25, e16_27, w16_27, e16_29, w16_29, e16_31, w16_31, c16_32, c16_33, c16_34, c16_35, c16_36, c16_37, c16_38, c16_39, c16_40, c16_41, nc_ptr, hb3]
  have hown1 := h1.own
  have hL : (M ++ [Blk.box m.row, .box [.int .i64 now]]).length = M.length + 2 := by simp
  have hM1 : (M ++ [Blk.box m.row, .box [.int .i64 now]])[M.length]? = some (.box m.row) := mlast M _ _
  have hM2 : (M ++ [Blk.box m.row, .box [.int .i64 now]])[M.length + 1]? = some (.box [.int .i64 now]) := by rw [get_at]; rfl
  have hf := filtered_ok (M := M ++ [.box m.row, .box [.int .i64 now]]) hown1 hk1 (by have := hok.kept; omega) (fun o ho => by have := (hok.msg o ho).2.1; omega) (fv := .fn i_inbox_Inbox_Receive_1 [.ptr M.length 0, .ptr (M.length + 1) 0]) (.inl rfl) (by rw [hL]; simp [V.under, underL]) (liveM m now)
    (fun o _ L hL => Receive_1_ok hL m o now (mget hM1 L) (mget hM2 L))
  rw [hL] at hf
  simp only [Msg.row] at hf
  refine callA hf ?_
  rintro v N ⟨ver, rfl, rfl⟩
  have hkeep : keepM (liveM m now) b.kept = recvK b m now := rfl
  have hkl := keepM_len (liveM m now) b.kept
  have hkk := hok.kept
  rw [hkeep] at hkl ⊢
  simp -implicitDefEqProofs (disch := omega) only [go_sem, Nat.reduceAdd, Nat.reduceMul, Nat.reduceSub, Nat.reduceBEq, Nat.reduceLeDiff, Nat.reduceLT, fn_inbox_Inbox_Receive, e16_1, w16_1, e16_3, w16_3, c16_4, e16_6, w16_6, e16_8, w16_8, e16_10, w16_10, c16_11, e16_13, w16_13, c16_14, e16_16, w16_16, e16_18, w16_18, c16_19, e16_21, w16_21, e16_23, w16_23, e16_25, w16_25, e16_27, w16_27, e16_29, w16_29, e16_31, w16_31, c16_32, c16_33, c16_34, c16_35, c16_36, c16_37, c16_38, c16_39, c16_40, c16_41, List.append_assoc, get_at, get_at0]
  refine ifD (fun g2 => ?_) (fun g2 => ?_)
  · have e : recvE b m now = 5 := by rw [recvE, if_neg (fun e => e g1), if_pos (by omega)]
    have e2 : recvI b m now = b := by rw [recvI, if_neg (by rw [e]; decide)]
    simp -implicitDefEqProofs (disch := omega) only [go_sem, Nat.reduceAdd, Nat.reduceMul, Nat.reduceSub, Nat.reduceBEq, Nat.reduceLeDiff, Nat.reduceLT, fn_inbox_Inbox_Receive, e16_1, w16_1, e16_3, w16_3, c16_4, e16_6, w16_6, e16_8, w16_8, e16_10, w16_10, c16_11, e16_13, w16_13, c16_14, e16_16, w16_16, e16_18, w16_18, c16_19, e16_21, w16_21, e16_23, w16_23, e16_25, w16_25, e16_27, w16_27, e16_29, w16_29, e16_31, w16_31, c16_32, c16_33, c16_34, c16_35, c16_36, c16_37, c16_38, c16_39, c16_40, c16_41, e, e2]
    exact ⟨Fr.app _ _ _ _, h.app _ (by simp [memUnder, Blk.under, underL, V.under])⟩
  have e0 : recvE b m now = 0 := by rw [recvE, if_neg (fun e => e g1), if_neg (by omega)]
  have hsrc : 0 ≤ m.src ∧ m.src ≤ 7 ∧ m.src < b.srcs.length := by
    have g1' := g1
    unfold refuseE at g1'
    split at g1'
    · cases g1'
    split at g1'
    · rename_i hx; exact absurd g1' hx
    split at g1'
    · cases g1'
    · rename_i _ hx hy
      have hz := checkM_src (Decidable.not_not.1 hx)
      omega
  obtain ⟨k, hk'⟩ : ∃ k : Nat, m.src = k := ⟨m.src.toNat, by omega⟩
  have hkl' : k < b.srcs.length := by omega
  obtain ⟨s, hs⟩ : ∃ s, b.srcs[k]? = some s := ⟨b.srcs[k], by simp⟩
  have e2 : recvI b m now = ⟨b.srcs.set k (recvS s m now), b.pat, recvK b m now ++ [m.own]⟩ := by simp only [recvI, e0, if_true, hk', Int.toNat_natCast, hs]
  have eapp : (recvK b m now).map Msg.row ++ [m.own.row] = (recvK b m now ++ [m.own]).map Msg.row := by simp
  have elen : (recvK b m now).length + 1 = (recvK b m now ++ [m.own]).length := by simp
  have hset : ∀ (L : Mem) (B : Blk), (M ++ L).set id B = M.set id B ++ L := fun L B => by rw [List.set_append, if_pos hid]
  rw [e0, e2]
  simp -implicitDefEqProofs (disch := omega) only [go_sem, Nat.reduceAdd, Nat.reduceMul, Nat.reduceSub, Nat.reduceBEq, Nat.reduceLeDiff, Nat.reduceLT, fn_inbox_Inbox_Receive, e16_1, w16_1, e16_3, w16_3, c16_4, e16_6, w16_6, e16_8, w16_8, e16_10, w16_10, c16_11, e16_13, w16_13, c16_14, e16_16, w16_16, e16_18, w16_18, c16_19, e16_21, w16_21, e16_23, w16_23, e16_25, w16_25, e16_27, w16_27, e16_29, w16_29, e16_31, w16_31, c16_32, c16_33, c16_34, c16_35, c16_36, c16_37, c16_38, c16_39, c16_40, c16_41, get_at, get_at0]
  first | refine callD (howned) ?_ | refine callQD (howned) ?_
  simp only [Msg.row] at eapp
  simp -implicitDefEqProofs (disch := omega) only [go_sem, Nat.reduceAdd, Nat.reduceMul, Nat.reduceSub, Nat.reduceBEq, Nat.reduceLeDiff, Nat.reduceLT, fn_inbox_Inbox_Receive, e16_1, w16_1, e16_3, w16_3, c16_4, e16_6, w16_6, e16_8, w16_8, e16_10, w16_10, c16_11, e16_13, w16_13, c16_14, e16_16, w16_16, e16_18, w16_18, c16_19, e16_21, w16_21, e16_23, w16_23, e16_25, w16_25, e16_27, w16_27, e16_29, w16_29, e16_31, w16_31, c16_32, c16_33, c16_34, c16_35, c16_36, c16_37, c16_38, c16_39, c16_40, c16_41, get_at, get_at0, set_at, nc_ptr, hb3, hset]
  rw [eapp, elen]
  generalize hM3 : List.set M id _ ++ _ = M3
  have hRM := recv_mem (M := M) (id := id) hid
  have f1 : M3[id]? = some (.box [.mslice sid 0 0 b.srcs.length, .int .i64 b.pat, .mslice (M.length + 2) (ver + 1) 0 (recvK b m now ++ [m.own]).length]) := by rw [← hM3]; exact (hRM _ _ _ _).1
  have f2 : M3[sid]? = some (.arr 4 (b.srcs.map Src.row) 0 0) := by rw [← hM3, (hRM _ _ _ _).2.1 sid hsid (Ne.symm hne)]; exact h.src
  have f3 : M3[M.length]? = some (.box m.row) := by rw [← hM3]; exact (hRM _ _ _ _).2.2.1
  have f4 : M3[M.length + 1]? = some (.box [.int .i64 now]) := by rw [← hM3]; exact (hRM _ _ _ _).2.2.2.1
  have f5 : M3[M.length + 2]? = some (.arr 13 ((recvK b m now ++ [m.own]).map Msg.row) (ver + 1) 0) := by rw [← hM3]; exact (hRM _ _ _ _).2.2.2.2.1
  have f6 : memUnder M3.length M3 = true := by
    rw [← hM3]
    refine recv_own h.own _ _ _ _ ?_ rfl
    have c1 : decide (sid < M.length + 3) = true := decide_eq_true (by omega)
    have c2 : decide (M.length + 2 < M.length + 3) = true := decide_eq_true (by omega)
    simp only [Blk.under, underL, V.under, c1, c2, Bool.and_true]
  have f7 : M.length + 3 = M3.length := by rw [← hM3, (hRM _ _ _ _).2.2.2.2.2]
  have f8 : ∀ j, j < M.length → j ≠ id → M3[j]? = M[j]? := fun j hj hji => by rw [← hM3]; exact (hRM _ _ _ _).2.1 j hj hji
  clear hM3 hRM hset
  have hs2 : sid < M3.length := by omega
  have hI3 : InAt M3 ⟨b.srcs, b.pat, recvK b m now ++ [m.own]⟩ id sid := ⟨f6, f2, _, f1, .inr ⟨_, _, rfl, f5⟩⟩
  have f3' : M3[M.length]? = some (.box m.row) := f3
  simp only [Msg.row] at f3
  have hlk : decide (k < b.srcs.length) = true := decide_eq_true hkl'
  simp -implicitDefEqProofs (disch := omega) only [go_sem, Nat.reduceAdd, Nat.reduceMul, Nat.reduceSub, Nat.reduceBEq, Nat.reduceLeDiff, Nat.reduceLT, fn_inbox_Inbox_Receive, e16_1, w16_1, e16_3, w16_3, c16_4, e16_6, w16_6, e16_8, w16_8, e16_10, w16_10, c16_11, e16_13, w16_13, c16_14, e16_16, w16_16, e16_18, w16_18, c16_19, e16_21, w16_21, e16_23, w16_23, e16_25, w16_25, e16_27, w16_27, e16_29, w16_29, e16_31, w16_31, c16_32, c16_33, c16_34, c16_35, c16_36, c16_37, c16_38, c16_39, c16_40, c16_41, nc_ptr, nc_eptr, f1, f2, f3, f4, hk', src_at hs, hlk]
  refine callA (hear_ok f6 f2 hs now) ?_
  rintro v N ⟨rfl, rfl⟩
  have hs' : (b.srcs.set k (hearS s now))[k]? = some (hearS s now) := by rw [List.getElem?_set_self hkl']
  have q1 : ∀ X : Blk, (M3.set sid X)[M.length]? = some (.box m.row) := fun X => by rw [List.getElem?_set_ne (by omega)]; exact f3'
  have q2 : ∀ X : Blk, (M3.set sid X)[sid]? = some X := fun X => by rw [List.getElem?_set_self hs2]
  have q3 : ∀ X Y : Blk, (M3.set sid X).set sid Y = M3.set sid Y := fun X Y => by simp
  have q4 : ∀ (r : List V), (((b.srcs.set k (hearS s now)).map Src.row).set k r)[k]? = some r := fun r => by rw [List.getElem?_set_self (by simpa using hkl')]
  have q5 : ∀ (r t : List V), (((b.srcs.set k (hearS s now)).map Src.row).set k r).set k t = ((b.srcs.set k (hearS s now)).map Src.row).set k t := fun r t => by simp
  have q6 : ((b.srcs.set k (hearS s now)).map Src.row).set k [.bool (hearS s now).ever, .int .i64 (hearS s now).last, .bool true, .int .i64 m.seq] = (b.srcs.set k (recvS s m now)).map Src.row := by
    rw [List.map_set, List.map_set, List.set_set]; rfl
  simp only [Msg.row] at q1
  simp -implicitDefEqProofs (disch := omega) only [go_sem, Nat.reduceAdd, Nat.reduceMul, Nat.reduceSub, Nat.reduceBEq, Nat.reduceLeDiff, Nat.reduceLT, fn_inbox_Inbox_Receive, e16_1, w16_1, e16_3, w16_3, c16_4, e16_6, w16_6, e16_8, w16_8, e16_10, w16_10, c16_11, e16_13, w16_13, c16_14, e16_16, w16_16, e16_18, w16_18, c16_19, e16_21, w16_21, e16_23, w16_23, e16_25, w16_25, e16_27, w16_27, e16_29, w16_29, e16_31, w16_31, c16_32, c16_33, c16_34, c16_35, c16_36, c16_37, c16_38, c16_39, c16_40, c16_41, nc_ptr, nc_eptr, q1, q2, q3, src_at hs', q4, q5, q6]
  refine ⟨⟨by simp; omega, fun j hj h1 h2 => by rw [List.getElem?_set_ne (Ne.symm h2)]; exact f8 j hj h1⟩, ?_⟩
  exact hI3.set (b.srcs.set k (recvS s m now)) (by simp)

/-! ### What is kept stays in order -/
theorem own_own (m : Msg) : m.own.own = m.own := rfl
theorem checkM_own (m : Msg) : checkM m.own = checkM m := rfl
theorem wf_own {m : Msg} (h : m.wf) : m.own.wf := h
theorem hear_last {s : Src} {now : Int} (hs : 0 ≤ s.last ∧ s.last ≤ 3155932800) (hn : momentB now) : 0 ≤ (hearS s now).last ∧ (hearS s now).last ≤ 3155932800 := by
  unfold hearS momentB at *
  split
  · exact hn
  · exact hs
theorem mem_keepM {p : Msg → Bool} {l : List Msg} {x : Msg} (h : x ∈ keepM p l) : ∃ y ∈ l, p y = true ∧ x = y.own := by
  obtain ⟨y, hy, rfl⟩ := List.mem_map.1 h
  exact ⟨y, (List.mem_filter.1 hy).1, (List.mem_filter.1 hy).2, rfl⟩
theorem set_mem {l : List Src} {k : Nat} {x y : Src} (h : y ∈ l.set k x) : y = x ∨ y ∈ l := by
  rcases List.mem_or_eq_of_mem_set h with h | h
  · exact .inr h
  · exact .inl h
theorem recv_cases (b : Ibx) (m : Msg) (now : Int) : (recvE b m now ≠ 0 ∧ recvI b m now = b) ∨ (recvE b m now = 0 ∧ checkM m = 0 ∧ momentB now ∧ (recvK b m now).length < 256 ∧ ∃ (k : Nat) (s : Src), m.src = k ∧ k < b.srcs.length ∧ b.srcs[k]? = some s ∧ ¬ ((s.recv = true ∧ m.seq ≤ s.seq) ∨ m.exp ≤ now) ∧ recvI b m now = ⟨b.srcs.set k (recvS s m now), b.pat, recvK b m now ++ [m.own]⟩) := by
  by_cases h : recvE b m now = 0
  · right
    have hr : refuseE b m now = 0 := by
      refine Decidable.byContradiction fun hn => ?_
      rw [recvE, if_pos hn] at h
      exact hn h
    have hl : (recvK b m now).length < 256 := by
      refine Decidable.byContradiction fun hn => ?_
      rw [recvE, if_neg (fun e => e hr), if_pos (by omega)] at h
      cases h
    obtain ⟨h1, h2, h3⟩ := refuseE_check hr
    have h4 := checkM_src h1
    obtain ⟨k, hk⟩ : ∃ k : Nat, m.src = k := ⟨m.src.toNat, by omega⟩
    obtain ⟨s, hs⟩ : ∃ s, b.srcs[k]? = some s := ⟨b.srcs[k]'(by omega), by simp⟩
    refine ⟨h, h1, h2, hl, k, s, hk, by omega, hs, fun hx => ?_, by simp only [recvI, h, if_true, hk, Int.toNat_natCast, hs]⟩
    have : refuseE b m now = 37 := by
      rw [refuseE, if_neg (fun e => e h2), if_neg (fun e => e h1), if_neg (by omega)]
      simp only [hk, Int.toNat_natCast, hs]
      rw [if_pos hx]
    rw [hr] at this
    cases this
  · exact .inl ⟨h, by rw [recvI, if_neg h]⟩
theorem Ibx.Ok.recv {b : Ibx} (h : b.Ok) {m : Msg} (hm : m.wf) (now : Int) : (recvI b m now).Ok := by
  rcases recv_cases b m now with ⟨_, e⟩ | ⟨_, h1, h2, h3, k, s, hk, hkl, hs, _, e⟩
  · rw [e]; exact h
  rw [e]
  have hc := checkM_calls h1
  refine ⟨by simpa using h.n1, by simpa using h.n8, h.pat, fun y hy => ?_, by simp; omega, fun x hx => ?_⟩
  · rcases set_mem hy with rfl | hy
    · exact hear_last (h.last s (List.mem_of_getElem? hs)) h2
    · exact h.last y hy
  · simp only [List.length_set]
    rcases List.mem_append.1 hx with hx | hx
    · obtain ⟨y, hy, _, rfl⟩ := mem_keepM hx
      obtain ⟨q1, q2, q3, q4⟩ := h.msg y hy
      exact ⟨q1, q2, q3, q4⟩
    · simp at hx
      subst hx
      exact ⟨h1, by show m.calls.length ≤ 40; omega, hm, by show m.src < _; omega⟩
theorem beat_cases (b : Ibx) (i now : Int) : (beatE b i now ≠ 0 ∧ beatI b i now = b) ∨ (beatE b i now = 0 ∧ momentB now ∧ ∃ (k : Nat) (s : Src), i = k ∧ k < b.srcs.length ∧ b.srcs[k]? = some s ∧ beatI b i now = ⟨b.srcs.set k (hearS s now), b.pat, b.kept⟩) := by
  by_cases h : beatE b i now = 0
  · right
    have h1 : isSrc b i = true := by
      cases hi : isSrc b i with
      | true => rfl
      | false => rw [beatE, if_pos hi] at h; cases h
    have h2 : momentB now := by
      refine Decidable.byContradiction fun hn => ?_
      rw [beatE, if_neg (by rw [h1]; simp), if_neg hn] at h
      cases h
    obtain ⟨k, s, rfl, hk, hs⟩ := isSrc_get h1
    exact ⟨h, h2, k, s, rfl, hk, hs, by simp only [beatI, h, if_true, Int.toNat_natCast, hs]⟩
  · exact .inl ⟨h, by rw [beatI, if_neg h]⟩
theorem Ibx.Ok.beat {b : Ibx} (h : b.Ok) (i now : Int) : (beatI b i now).Ok := by
  rcases beat_cases b i now with ⟨_, e⟩ | ⟨_, h2, k, s, rfl, hk, hs, e⟩
  · rw [e]; exact h
  rw [e]
  refine ⟨by simpa using h.n1, by simpa using h.n8, h.pat, fun y hy => ?_, h.kept, fun x hx => by simpa using h.msg x hx⟩
  rcases set_mem hy with rfl | hy
  · exact hear_last (h.last s (List.mem_of_getElem? hs)) h2
  · exact h.last y hy

/-! ### Messages, and inboxes after some calls -/
theorem Messages_1_ok (m : Msg) : PCalls PR i_inbox_Inbox_Messages_1 [.agg m.row] (fun v => v = .bool true) := by
  refine acalls_pop fn_inbox_Inbox_Messages_1_ok (by simp [fn_inbox_Inbox_Messages_1]) ?_
  simp -implicitDefEqProofs (disch := omega) only [go_sem, Nat.reduceAdd, Nat.reduceMul, Nat.reduceSub, Nat.reduceBEq, Nat.reduceLeDiff, Nat.reduceLT, fn_inbox_Inbox_Messages_1, e43_1, w43_1, e43_3, w43_3, c43_4, c43_5, Msg.row]
theorem keepM_all (l : List Msg) : keepM (fun _ => true) l = l.map Msg.own := by
  rw [keepM, List.filter_eq_self.2 (fun _ _ => rfl)]
theorem take_map (l : List Msg) : List.take l.length (l.map Msg.row) = l.map Msg.row := List.take_of_length_le (by simp)
theorem Messages_ok {M : Mem} {b : Ibx} {id sid : Nat} (h : InAt M b id sid) (hok : b.Ok) :
    ACalls PR i_inbox_Inbox_Messages [.ptr id 0] M (fun v N => v = .slice ((b.kept.map Msg.own).map Msg.row) .unk ∧ N = M) := by
  obtain ⟨kv, hb, hk⟩ := h.box
  have hU := h.own
  have fin : ∀ L : Mem, (M ++ L).take M.length = M := fun L => List.take_left
  have fin2 : ∀ L : Mem, decide (M.length ≤ (M ++ L).length) = true := fun L => by simp
  refine acalls_pop fn_inbox_Inbox_Messages_ok (by simp [fn_inbox_Inbox_Messages]) ?_
  simp -implicitDefEqProofs (disch := omega) only [go_sem, Nat.reduceAdd, Nat.reduceMul, Nat.reduceSub, Nat.reduceBEq, Nat.reduceLeDiff, Nat.reduceLT, fn_inbox_Inbox_Messages, e19_1, w19_1, e19_3, w19_3, c19_4, e19_6, w19_6, e19_8, w19_8, c19_9, c19_10, c19_11, nil_ptr_eq, nc_ptr, hb]
  have hf := filtered_ok hU hk (by have := hok.kept; omega) (fun o ho => by have := (hok.msg o ho).2.1; omega) (fv := .pfn i_inbox_Inbox_Messages_1 []) (.inr rfl) rfl (fun _ => true)
    (fun o _ L _ => PCalls.call (Messages_1_ok o) rfl fun v hv _ => ⟨hv, rfl⟩)
  refine callA hf ?_
  rintro v N ⟨ver, rfl, rfl⟩
  rw [keepM_all]
  have hlt : decide (M.length < M.length) = false := by simp
  simp -implicitDefEqProofs (disch := omega) only [go_sem, Nat.reduceAdd, Nat.reduceMul, Nat.reduceSub, Nat.reduceBEq, Nat.reduceLeDiff, Nat.reduceLT, fn_inbox_Inbox_Messages, e19_1, w19_1, e19_3, w19_3, c19_4, e19_6, w19_6, e19_8, w19_8, c19_9, c19_10, c19_11, get_at0, fin, fin2, hU, hlt, take_map]
  have ht : List.take b.kept.length ((b.kept.map Msg.own).map Msg.row) = (b.kept.map Msg.own).map Msg.row := List.take_of_length_le (by simp)
  rw [ht]

def shortB (l : List Oper) : Bool := decide (l.length ≤ 40) && l.all fun o => smallM o.m
def stepI (b : Ibx) (o : Oper) : Ibx := if o.kind = 0 then recvI b o.m o.now else if o.kind = 1 then beatI b o.src o.now else b
def startI (n : Nat) (pat : Int) : Ibx := ⟨List.replicate n ⟨false, 0, false, 0⟩, pat, []⟩
def runI (b : Ibx) (l : List Oper) : Ibx := l.foldl stepI b
theorem runI_snoc (b : Ibx) {l : List Oper} {i : Nat} {o : Oper} (h : l[i]? = some o) : runI b (l.take (i + 1)) = stepI (runI b (l.take i)) o := by
  rw [runI, List.take_add_one, h, List.foldl_append]; rfl
theorem stepI_ok {b : Ibx} (h : b.Ok) {o : Oper} (ho : o.wf) : (stepI b o).Ok := by
  unfold stepI
  split
  · exact h.recv ho.2.1 _
  split
  · exact h.beat _ _
  · exact h
theorem runI_ok {l : List Oper} (hl : ∀ o ∈ l, o.wf) : ∀ {b : Ibx}, b.Ok → (runI b l).Ok := by
  induction l with
  | nil => exact fun h => h
  | cons o l ih => exact fun h => ih (fun x hx => hl x (by simp [hx])) (stepI_ok h (hl o (by simp)))
theorem startI_ok {n : Nat} {pat : Int} (h : newErr n pat = 0) : (startI n pat).Ok := by
  have hs : 1 ≤ n ∧ n ≤ 8 ∧ 0 ≤ pat ∧ pat ≤ 86400 := by
    unfold newErr at h
    split at h
    · cases h
    split at h
    · cases h
    · omega
  refine ⟨by simp [startI]; omega, by simp [startI]; omega, hs.2.2, fun s hs => ?_, by simp [startI], fun m hm => by simp [startI] at hm⟩
  rw [List.eq_of_mem_replicate hs]
  exact ⟨Int.le_refl _, by decide⟩
theorem zsrc_rows (n : Nat) : List.replicate n zsrc = (List.replicate n (⟨false, 0, false, 0⟩ : Src)).map Src.row := by simp [Src.row, zsrc]
theorem New_at {M : Mem} (hU : memUnder M.length M = true) (n : Nat) (pat : Int) : InAt (M ++ [.arr 4 (List.replicate n zsrc) 0 0, .box [.mslice M.length 0 0 n, .int .i64 pat, .slice [] .nil]]) (startI n pat) (M.length + 1) M.length := by
  refine ⟨own_mem hU _ (by simp [memUnder, Blk.under, underL, V.under]), by rw [get_at0, zsrc_rows]; rfl, .slice [] .nil, by rw [get_at]; simp [startI], .inl ⟨.nil, rfl⟩⟩
theorem played_ok {M : Mem} (hU : memUnder M.length M = true) (pat : Int) (l : List Oper) (c : Cap) (hl : ∀ o ∈ l, o.wf) (hlen : l.length ≤ maxLen) :
    ACalls PR i_transitlaw32_played [.int .i64 pat, .slice (l.map Oper.row) c] M (fun v N => (newErr 3 pat ≠ 0 → v = .nilp ∧ N = M) ∧ (newErr 3 pat = 0 → v = .ptr (M.length + 1) 0 ∧ Fr M N M.length (M.length + 1) ∧ InAt N (runI (startI 3 pat) l) (M.length + 1) M.length)) := by
  have hm : maxLen = 9223372036854775807 := by rfl
  refine acalls_keep fn_transitlaw32_played_ok (by simp [fn_transitlaw32_played]) ?_
  simp only [wpKeep]
  simp -implicitDefEqProofs (disch := omega) only [go_sem, Nat.reduceAdd, Nat.reduceMul, Nat.reduceSub, Nat.reduceBEq, Nat.reduceLeDiff, Nat.reduceLT, fn_transitlaw32_played, e13_1, w13_1, e13_3, w13_3, e13_5, w13_5, c13_6, e13_8, w13_8, e13_10, w13_10, e13_12, w13_12, c13_13, e13_15, w13_15, e13_17, w13_17, e13_19, w13_19, e13_21, w13_21, e13_23, w13_23, c13_24, c13_25, c13_26, e13_28, w13_28, c13_29, c13_30, c13_31, c13_32, c13_33, c13_34, e13_36, w13_36, c13_37, c13_38, c13_39, c13_40, c13_41]
  refine callA (inbox_New_ok 3 pat M) ?_
  rintro v N ⟨hb, hg⟩
  by_cases h0 : newErr 3 pat = 0
  rotate_left
  · obtain ⟨rfl, rfl⟩ := hb h0
    have hd : decide (newErr 3 pat = 0) = false := decide_eq_false h0
    simp -implicitDefEqProofs (disch := omega) only [go_sem, Nat.reduceAdd, Nat.reduceMul, Nat.reduceSub, Nat.reduceBEq, Nat.reduceLeDiff, Nat.reduceLT, fn_transitlaw32_played, e13_1, w13_1, e13_3, w13_3, e13_5, w13_5, c13_6, e13_8, w13_8, e13_10, w13_10, e13_12, w13_12, c13_13, e13_15, w13_15, e13_17, w13_17, e13_19, w13_19, e13_21, w13_21, e13_23, w13_23, c13_24, c13_25, c13_26, e13_28, w13_28, c13_29, c13_30, c13_31, c13_32, c13_33, c13_34, e13_36, w13_36, c13_37, c13_38, c13_39, c13_40, c13_41, hd]
    first
      | exact ⟨fun _ => ⟨rfl, rfl⟩, fun h => absurd h h0⟩
      | exact ⟨fun _ => trivial, fun h => absurd h h0⟩
      | simp [h0]
  obtain ⟨rfl, rfl⟩ := hg h0
  have hs0 := New_at hU 3 pat
  have e3 : (3 : Int).toNat = 3 := rfl
  rw [e3]
  generalize hM0 : M ++ [Blk.arr 4 (List.replicate 3 zsrc) 0 0, Blk.box [.mslice M.length 0 0 3, .int .i64 pat, .slice [] .nil]] = M0 at *
  have hfr : Fr M M0 M.length (M.length + 1) := by rw [← hM0]; exact Fr.app _ _ _ _
  have hl0 : M.length + 2 = M0.length := by rw [← hM0]; simp
  simp -implicitDefEqProofs (disch := omega) only [go_sem, Nat.reduceAdd, Nat.reduceMul, Nat.reduceSub, Nat.reduceBEq, Nat.reduceLeDiff, Nat.reduceLT, fn_transitlaw32_played, e13_1, w13_1, e13_3, w13_3, e13_5, w13_5, c13_6, e13_8, w13_8, e13_10, w13_10, e13_12, w13_12, c13_13, e13_15, w13_15, e13_17, w13_17, e13_19, w13_19, e13_21, w13_21, e13_23, w13_23, c13_24, c13_25, c13_26, e13_28, w13_28, c13_29, c13_30, c13_31, c13_32, c13_33, c13_34, e13_36, w13_36, c13_37, c13_38, c13_39, c13_40, c13_41, nil_ptr_eq]
  refine wpC_forL l (fun i vs N => vs = [.ptr (M.length + 1) 0, .slice (l.map Oper.row) c, .int .i64 l.length, .int .i64 i] ∧ Fr M N M.length (M.length + 1) ∧ InAt N (runI (startI 3 pat) (l.take i)) (M.length + 1) M.length) ⟨rfl, hfr, hs0⟩ ?_ ?_
  rotate_left
  · rintro vs N ⟨rfl, hf, hI⟩
    rw [List.take_length] at hI
    simp -implicitDefEqProofs (disch := omega) only [go_sem, Nat.reduceAdd, Nat.reduceMul, Nat.reduceSub, Nat.reduceBEq, Nat.reduceLeDiff, Nat.reduceLT, fn_transitlaw32_played, e13_1, w13_1, e13_3, w13_3, e13_5, w13_5, c13_6, e13_8, w13_8, e13_10, w13_10, e13_12, w13_12, c13_13, e13_15, w13_15, e13_17, w13_17, e13_19, w13_19, e13_21, w13_21, e13_23, w13_23, c13_24, c13_25, c13_26, e13_28, w13_28, c13_29, c13_30, c13_31, c13_32, c13_33, c13_34, e13_36, w13_36, c13_37, c13_38, c13_39, c13_40, c13_41, dec_irrefl]
    exact ⟨fun h => absurd h0 h, fun _ => ⟨hf, hI⟩⟩
  rintro i o vs N ho hi hd ⟨rfl, hf, hI⟩
  have hwf := hl o (List.mem_of_getElem? ho)
  have hok : (runI (startI 3 pat) (l.take i)).Ok := runI_ok (fun x hx => hl x (List.mem_of_mem_take hx)) (startI_ok (n := 3) h0)
  have hsn := runI_snoc (startI 3 pat) ho
  generalize runI (startI 3 pat) (l.take i) = b at *
  have hI1 := hI.app [.box o.row] (by simp [memUnder, Blk.under, Oper.row, Msg.row, underL, V.under])
  have hrow : ∀ L, (N ++ .box o.row :: L)[N.length]? = some (.box o.row) := fun L => mlast N _ L
  have hfr1 : Fr M (N ++ [.box o.row]) M.length (M.length + 1) := hf.trans (Fr.app _ _ _ _)
  have hl1 : M.length + 2 ≤ N.length := by
    have := hI.lt
    omega
  have hat : (N ++ [Blk.box o.row])[N.length]? = some (.box o.row) := mlast N _ _
  have hlN : (N ++ [Blk.box o.row]).length = N.length + 1 := by simp
  simp only [Oper.row, Msg.row, List.cons_append, List.nil_append] at hat
  by_cases k0 : o.kind = 0
  · have hr := Receive_ok hI1 hok o.m o.now hwf.2.1.2.2.2.2.2.2.2.2.2.2.2.2 hwf.2.1.2.2.2.2.2.1
    have e1 : stepI b o = recvI b o.m o.now := by rw [stepI, if_pos k0]
    simp only [Oper.row, Msg.row, List.cons_append, List.nil_append] at hr
    rw [k0] at hr hat
    simp -implicitDefEqProofs (disch := omega) only [go_sem, Nat.reduceAdd, Nat.reduceMul, Nat.reduceSub, Nat.reduceBEq, Nat.reduceLeDiff, Nat.reduceLT, fn_transitlaw32_played, e13_1, w13_1, e13_3, w13_3, e13_5, w13_5, c13_6, e13_8, w13_8, e13_10, w13_10, e13_12, w13_12, c13_13, e13_15, w13_15, e13_17, w13_17, e13_19, w13_19, e13_21, w13_21, e13_23, w13_23, c13_24, c13_25, c13_26, e13_28, w13_28, c13_29, c13_30, c13_31, c13_32, c13_33, c13_34, e13_36, w13_36, c13_37, c13_38, c13_39, c13_40, c13_41, hd, ho, get_at0, mset, Oper.row, Msg.row, k0]
    refine callA hr ?_
    rintro v N2 ⟨rfl, hf2, hI2⟩
    have hf3 := hf2
    simp only [Fr, List.length_append, List.length_cons, List.length_nil] at hf2
    have hat2 := hf2.2 N.length (by omega) (by omega) (by omega)
    rw [hat] at hat2
    simp -implicitDefEqProofs (disch := omega) only [go_sem, Nat.reduceAdd, Nat.reduceMul, Nat.reduceSub, Nat.reduceBEq, Nat.reduceLeDiff, Nat.reduceLT, fn_transitlaw32_played, e13_1, w13_1, e13_3, w13_3, e13_5, w13_5, c13_6, e13_8, w13_8, e13_10, w13_10, e13_12, w13_12, c13_13, e13_15, w13_15, e13_17, w13_17, e13_19, w13_19, e13_21, w13_21, e13_23, w13_23, c13_24, c13_25, c13_26, e13_28, w13_28, c13_29, c13_30, c13_31, c13_32, c13_33, c13_34, e13_36, w13_36, c13_37, c13_38, c13_39, c13_40, c13_41, hat2, show decide ((0 : Int) = 1) = false from rfl]
    refine next_stay hi ⟨rfl, ?_, by rw [hsn, e1]; exact hI2⟩
    refine hf.trans ⟨by omega, fun j h1 h2 h3 => ?_⟩
    rw [hf2.2 j (by omega) h3 h2, List.getElem?_append_left h1]
  by_cases k1 : o.kind = 1
  · have hr := Heartbeat_ok hI1 o.src o.now
    have e1 : stepI b o = beatI b o.src o.now := by rw [stepI, if_neg k0, if_pos k1]
    simp only [Oper.row, Msg.row, List.cons_append, List.nil_append] at hr
    rw [k1] at hr hat
    simp -implicitDefEqProofs (disch := omega) only [go_sem, Nat.reduceAdd, Nat.reduceMul, Nat.reduceSub, Nat.reduceBEq, Nat.reduceLeDiff, Nat.reduceLT, fn_transitlaw32_played, e13_1, w13_1, e13_3, w13_3, e13_5, w13_5, c13_6, e13_8, w13_8, e13_10, w13_10, e13_12, w13_12, c13_13, e13_15, w13_15, e13_17, w13_17, e13_19, w13_19, e13_21, w13_21, e13_23, w13_23, c13_24, c13_25, c13_26, e13_28, w13_28, c13_29, c13_30, c13_31, c13_32, c13_33, c13_34, e13_36, w13_36, c13_37, c13_38, c13_39, c13_40, c13_41, hd, ho, get_at0, mset, Oper.row, Msg.row, k1, show decide ((1 : Int) = 0) = false from rfl]
    refine callA hr ?_
    rintro v N2 ⟨rfl, hf2, _, hI2⟩
    simp only [Fr, List.length_append, List.length_cons, List.length_nil] at hf2
    simp -implicitDefEqProofs (disch := omega) only [go_sem, Nat.reduceAdd, Nat.reduceMul, Nat.reduceSub, Nat.reduceBEq, Nat.reduceLeDiff, Nat.reduceLT, fn_transitlaw32_played, e13_1, w13_1, e13_3, w13_3, e13_5, w13_5, c13_6, e13_8, w13_8, e13_10, w13_10, e13_12, w13_12, c13_13, e13_15, w13_15, e13_17, w13_17, e13_19, w13_19, e13_21, w13_21, e13_23, w13_23, c13_24, c13_25, c13_26, e13_28, w13_28, c13_29, c13_30, c13_31, c13_32, c13_33, c13_34, e13_36, w13_36, c13_37, c13_38, c13_39, c13_40, c13_41]
    refine next_stay hi ⟨rfl, ?_, by rw [hsn, e1]; exact hI2⟩
    refine hf.trans ⟨by omega, fun j h1 h2 h3 => ?_⟩
    rw [hf2.2 j (by omega) h3 h2, List.getElem?_append_left h1]
  · have e1 : stepI b o = b := by rw [stepI, if_neg k0, if_neg k1]
    simp -implicitDefEqProofs (disch := omega) only [go_sem, Nat.reduceAdd, Nat.reduceMul, Nat.reduceSub, Nat.reduceBEq, Nat.reduceLeDiff, Nat.reduceLT, fn_transitlaw32_played, e13_1, w13_1, e13_3, w13_3, e13_5, w13_5, c13_6, e13_8, w13_8, e13_10, w13_10, e13_12, w13_12, c13_13, e13_15, w13_15, e13_17, w13_17, e13_19, w13_19, e13_21, w13_21, e13_23, w13_23, c13_24, c13_25, c13_26, e13_28, w13_28, c13_29, c13_30, c13_31, c13_32, c13_33, c13_34, e13_36, w13_36, c13_37, c13_38, c13_39, c13_40, c13_41, hd, ho, get_at0, mset, Oper.row, Msg.row, show decide (o.kind = 0) = false from decide_eq_false k0, show decide (o.kind = 1) = false from decide_eq_false k1]
    refine next_stay hi ⟨rfl, hf.trans (Fr.app _ _ _ _), by rw [hsn, e1]; exact hI.app _ (by simp [memUnder, Blk.under, underL, V.under])⟩

end Go.Vm.C

