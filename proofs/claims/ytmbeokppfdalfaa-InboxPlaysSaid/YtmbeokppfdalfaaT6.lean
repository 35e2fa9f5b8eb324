/- Contracts: sources, heartbeats, refusals. -/
import Derived.Test.YtmbeokppfdalfaaT5

namespace Go.Vm.C
open Go.Vm
set_option maxHeartbeats 1000000
set_option maxRecDepth 10000
set_option linter.unusedSimpArgs false
set_option linter.unusedVariables false

/-! ### Numbers modulo 2^64 -/
theorem u64_wrap (n : Int) : IntKind.u64.wrap n = n % 18446744073709551616 := by
  have e : (2 : Int) ^ IntKind.u64.bits = 18446744073709551616 := by decide
  unfold IntKind.wrap
  simp only [e, show IntKind.u64.signed = false from rfl, Bool.false_and]
  simp

theorem i64_wrap (n : Int) : IntKind.i64.wrap n = if n % 18446744073709551616 ≥ 9223372036854775808 then n % 18446744073709551616 - 18446744073709551616 else n % 18446744073709551616 := by
  have e : (2 : Int) ^ IntKind.i64.bits = 18446744073709551616 := by decide
  have e' : (2 : Int) ^ (IntKind.i64.bits - 1) = 9223372036854775808 := by decide
  unfold IntKind.wrap
  simp only [e, e', show IntKind.i64.signed = true from rfl, Bool.true_and, decide_eq_true_eq]


/-! ### Inboxes in memory -/
structure Src where
  ever : Bool
  last : Int
  recv : Bool
  seq : Int
def Src.row (s : Src) : List V := [.bool s.ever, .int .i64 s.last, .bool s.recv, .int .i64 s.seq]
structure Ibx where
  srcs : List Src
  pat : Int
  kept : List Msg
/-- What holds of all numbers that an inbox keeps. -/
structure Ibx.Ok (b : Ibx) : Prop where
  n1 : 1 ≤ b.srcs.length
  n8 : b.srcs.length ≤ 8
  pat : 0 ≤ b.pat ∧ b.pat ≤ 86400
  last : ∀ s ∈ b.srcs, 0 ≤ s.last ∧ s.last ≤ 3155932800
  kept : b.kept.length ≤ 256
  msg : ∀ m ∈ b.kept, checkM m = 0 ∧ m.calls.length ≤ 40 ∧ m.wf ∧ m.src < b.srcs.length
structure InAt (M : Mem) (b : Ibx) (id sid : Nat) : Prop where
  own : memUnder M.length M = true
  src : M[sid]? = some (.arr 4 (b.srcs.map Src.row) 0 0)
  box : ∃ kv, M[id]? = some (.box [.mslice sid 0 0 b.srcs.length, .int .i64 b.pat, kv]) ∧ KV M kv b.kept
theorem InAt.app {M : Mem} {b : Ibx} {id sid : Nat} (h : InAt M b id sid) (L : Mem) (hL : memUnder (M.length + L.length) L = true) : InAt (M ++ L) b id sid := by
  obtain ⟨kv, h1, h2⟩ := h.box
  exact ⟨own_mem h.own L hL, mget h.src L, kv, mget h1 L, h2.app L⟩
def silentB (s : Src) (now pat : Int) : Bool := !s.ever || decide (s.last < now ∧ pat < now - s.last)
def isSrc (b : Ibx) (i : Int) : Bool := decide (0 ≤ i ∧ i < b.srcs.length)
def failedB (b : Ibx) (i now : Int) : Bool :=
  match b.srcs[i.toNat]? with
  | some s => isSrc b i && silentB s now b.pat
  | none => false
def seqB (b : Ibx) (i : Int) : Int × Bool :=
  match b.srcs[i.toNat]? with
  | some s => if isSrc b i = true ∧ s.recv = true then (s.seq, true) else (0, false)
  | none => (0, false)
theorem nil_ptr_ne (id : Nat) : binV .neq .ptr (.ptr id 0) .nilp = some (.bool true) := rfl
theorem nil_ptr_eq (id : Nat) : binV .eql .ptr (.ptr id 0) .nilp = some (.bool false) := rfl
theorem nc_ptr (id o : Nat) : nilCheckV (.ptr id o) = some (.ptr id o) := rfl
theorem nc_eptr (a b c d : Nat) : nilCheckV (.eptr a b c d) = some (.eptr a b c d) := rfl
theorem take_self (M : Mem) : M.take M.length = M := List.take_length
theorem src_at {l : List Src} {i : Nat} {s : Src} (h : l[i]? = some s) : (l.map Src.row)[i]? = some [.bool s.ever, .int .i64 s.last, .bool s.recv, .int .i64 s.seq] := by rw [List.getElem?_map, h]; rfl

theorem silent_ok {M : Mem} (hU : memUnder M.length M = true) {sid : Nat} {l : List Src} (hS : M[sid]? = some (.arr 4 (l.map Src.row) 0 0)) {i : Nat} {s : Src} (hs : l[i]? = some s) (now pat : Int) (hn : I64 now) (hp : 0 ≤ pat ∧ pat ≤ 86400) (hl : 0 ≤ s.last ∧ s.last ≤ 3155932800) :
    ACalls PR i_inbox_heard_silent [.eptr sid 0 i 0, .int .i64 now, .int .i64 pat] M (fun v N => v = .bool (silentB s now pat) ∧ N = M) := by
  obtain ⟨n1, n2⟩ := hn
  refine acalls_pop fn_inbox_heard_silent_ok (by simp [fn_inbox_heard_silent]) ?_
  simp -implicitDefEqProofs (disch := omega) only [go_sem, Nat.reduceAdd, Nat.reduceMul, Nat.reduceSub, Nat.reduceBEq, Nat.reduceLeDiff, Nat.reduceLT, fn_inbox_heard_silent, e45_1, w45_1, e45_3, w45_3, c45_4, c45_5, nc_eptr, hS, src_at hs]
  refine ifB (fun h => ?_) (fun h => ?_)
  rotate_left
  · simp -implicitDefEqProofs (disch := omega) only [go_sem, Nat.reduceAdd, Nat.reduceMul, Nat.reduceSub, Nat.reduceBEq, Nat.reduceLeDiff, Nat.reduceLT, fn_inbox_heard_silent, e45_1, w45_1, e45_3, w45_3, c45_4, c45_5, take_self, hU]
    simp [silentB, h]
  simp -implicitDefEqProofs (disch := omega) only [go_sem, Nat.reduceAdd, Nat.reduceMul, Nat.reduceSub, Nat.reduceBEq, Nat.reduceLeDiff, Nat.reduceLT, fn_inbox_heard_silent, e45_1, w45_1, e45_3, w45_3, c45_4, c45_5, nc_eptr, hS, src_at hs]
  refine ifD (fun h2 => ?_) (fun h2 => ?_)
  · simp -implicitDefEqProofs (disch := omega) only [go_sem, Nat.reduceAdd, Nat.reduceMul, Nat.reduceSub, Nat.reduceBEq, Nat.reduceLeDiff, Nat.reduceLT, fn_inbox_heard_silent, e45_1, w45_1, e45_3, w45_3, c45_4, c45_5, nc_eptr, hS, src_at hs, take_self, hU, u64_wrap]
    simp only [silentB, h, Bool.not_true, Bool.false_or]
    exact decide_eq_decide.2 (by omega)
  · simp -implicitDefEqProofs (disch := omega) only [go_sem, Nat.reduceAdd, Nat.reduceMul, Nat.reduceSub, Nat.reduceBEq, Nat.reduceLeDiff, Nat.reduceLT, fn_inbox_heard_silent, e45_1, w45_1, e45_3, w45_3, c45_4, c45_5, take_self, hU]
    simp [silentB, h, h2]

theorem exists_ok {M : Mem} {b : Ibx} {id sid : Nat} (h : InAt M b id sid) (i : Int) : ACalls PR i_inbox_Inbox_exists [.ptr id 0, .int .i64 i] M (fun v N => v = .bool (isSrc b i) ∧ N = M) := by
  obtain ⟨kv, hb, hk⟩ := h.box
  have hU := h.own
  have hS := h.src
  refine acalls_pop fn_inbox_Inbox_exists_ok (by simp [fn_inbox_Inbox_exists]) ?_
  simp -implicitDefEqProofs (disch := omega) only [go_sem, Nat.reduceAdd, Nat.reduceMul, Nat.reduceSub, Nat.reduceBEq, Nat.reduceLeDiff, Nat.reduceLT, fn_inbox_Inbox_exists, e44_1, w44_1, e44_3, w44_3, c44_4, c44_5, nil_ptr_ne]
  refine ifD (fun h => ?_) (fun h => ?_)
  · simp -implicitDefEqProofs (disch := omega) only [go_sem, Nat.reduceAdd, Nat.reduceMul, Nat.reduceSub, Nat.reduceBEq, Nat.reduceLeDiff, Nat.reduceLT, fn_inbox_Inbox_exists, e44_1, w44_1, e44_3, w44_3, c44_4, c44_5, nc_ptr, hb, hS, take_self, hU]
    simp only [isSrc]
    exact decide_eq_decide.2 (by omega)
  · simp -implicitDefEqProofs (disch := omega) only [go_sem, Nat.reduceAdd, Nat.reduceMul, Nat.reduceSub, Nat.reduceBEq, Nat.reduceLeDiff, Nat.reduceLT, fn_inbox_Inbox_exists, e44_1, w44_1, e44_3, w44_3, c44_4, c44_5, take_self, hU]
    symm
    exact decide_eq_false (by omega)

theorem isSrc_get {b : Ibx} {i : Int} (h : isSrc b i = true) : ∃ (k : Nat) (s : Src), i = k ∧ k < b.srcs.length ∧ b.srcs[k]? = some s := by
  simp only [isSrc, decide_eq_true_eq] at h
  exact ⟨i.toNat, b.srcs[i.toNat]'(by omega), by omega, by omega, by simp⟩
theorem failedB_no {b : Ibx} {i now : Int} (h : isSrc b i = false) : failedB b i now = false := by
  unfold failedB
  split
  · rw [h]; rfl
  · rfl
theorem failedB_yes {b : Ibx} {k : Nat} {s : Src} (h : b.srcs[k]? = some s) (now : Int) : failedB b k now = silentB s now b.pat := by
  have hk := (List.getElem?_eq_some_iff.1 h).1
  have e : isSrc b k = true := by simp [isSrc, hk]
  simp only [failedB, Int.toNat_natCast, h, e, Bool.true_and]

theorem Failed_ok {M : Mem} {b : Ibx} {id sid : Nat} (h : InAt M b id sid) (hok : b.Ok) (i now : Int) (hn : I64 now) : ACalls PR i_inbox_Inbox_Failed [.ptr id 0, .int .i64 i, .int .i64 now] M (fun v N => v = .bool (failedB b i now) ∧ N = M) := by
  obtain ⟨kv, hb, hk⟩ := h.box
  have hU := h.own
  have hS := h.src
  refine acalls_pop fn_inbox_Inbox_Failed_ok (by simp [fn_inbox_Inbox_Failed]) ?_
  simp -implicitDefEqProofs (disch := omega) only [go_sem, Nat.reduceAdd, Nat.reduceMul, Nat.reduceSub, Nat.reduceBEq, Nat.reduceLeDiff, Nat.reduceLT, fn_inbox_Inbox_Failed, e20_1, w20_1, e20_3, w20_3, c20_4, c20_5]
  refine callA (exists_ok h i) ?_
  rintro v N ⟨rfl, rfl⟩
  simp -implicitDefEqProofs (disch := omega) only [go_sem, Nat.reduceAdd, Nat.reduceMul, Nat.reduceSub, Nat.reduceBEq, Nat.reduceLeDiff, Nat.reduceLT, fn_inbox_Inbox_Failed, e20_1, w20_1, e20_3, w20_3, c20_4, c20_5]
  refine ifB (fun h1 => ?_) (fun h1 => ?_)
  · obtain ⟨k, s, rfl, hk1, hs⟩ := isSrc_get h1
    simp -implicitDefEqProofs (disch := omega) only [go_sem, Nat.reduceAdd, Nat.reduceMul, Nat.reduceSub, Nat.reduceBEq, Nat.reduceLeDiff, Nat.reduceLT, fn_inbox_Inbox_Failed, e20_1, w20_1, e20_3, w20_3, c20_4, c20_5, nc_ptr, hb, hS, show decide (k < b.srcs.length) = true from decide_eq_true hk1]
    refine callA (silent_ok hU hS hs now b.pat hn hok.pat (hok.last s (List.mem_of_getElem? hs))) ?_
    rintro v N ⟨rfl, rfl⟩
    simp -implicitDefEqProofs (disch := omega) only [go_sem, Nat.reduceAdd, Nat.reduceMul, Nat.reduceSub, Nat.reduceBEq, Nat.reduceLeDiff, Nat.reduceLT, fn_inbox_Inbox_Failed, e20_1, w20_1, e20_3, w20_3, c20_4, c20_5, take_self, hU, failedB_yes hs]
  · simp -implicitDefEqProofs (disch := omega) only [go_sem, Nat.reduceAdd, Nat.reduceMul, Nat.reduceSub, Nat.reduceBEq, Nat.reduceLeDiff, Nat.reduceLT, fn_inbox_Inbox_Failed, e20_1, w20_1, e20_3, w20_3, c20_4, c20_5, take_self, hU, failedB_no h1]

theorem Sequence_ok {M : Mem} {b : Ibx} {id sid : Nat} (h : InAt M b id sid) (i : Int) : ACalls PR i_inbox_Inbox_Sequence [.ptr id 0, .int .i64 i] M (fun v N => v = .tuple [.int .i64 (seqB b i).1, .bool (seqB b i).2] ∧ N = M) := by
  obtain ⟨kv, hb, hk⟩ := h.box
  have hU := h.own
  have hS := h.src
  refine acalls_pop fn_inbox_Inbox_Sequence_ok (by simp [fn_inbox_Inbox_Sequence]) ?_
  simp -implicitDefEqProofs (disch := omega) only [go_sem, Nat.reduceAdd, Nat.reduceMul, Nat.reduceSub, Nat.reduceBEq, Nat.reduceLeDiff, Nat.reduceLT, fn_inbox_Inbox_Sequence, e28_1, w28_1, e28_3, w28_3, c28_4, e28_6, w28_6, e28_8, w28_8, c28_9, c28_10, c28_11]
  refine callA (exists_ok h i) ?_
  rintro v N ⟨rfl, rfl⟩
  simp -implicitDefEqProofs (disch := omega) only [go_sem, Nat.reduceAdd, Nat.reduceMul, Nat.reduceSub, Nat.reduceBEq, Nat.reduceLeDiff, Nat.reduceLT, fn_inbox_Inbox_Sequence, e28_1, w28_1, e28_3, w28_3, c28_4, e28_6, w28_6, e28_8, w28_8, c28_9, c28_10, c28_11]
  refine ifB (fun h1 => ?_) (fun h1 => ?_)
  rotate_left
  · have e : seqB b i = (0, false) := by
      unfold seqB
      split
      · rw [if_neg (by rw [h1]; simp)]
      · rfl
    simp -implicitDefEqProofs (disch := omega) only [go_sem, Nat.reduceAdd, Nat.reduceMul, Nat.reduceSub, Nat.reduceBEq, Nat.reduceLeDiff, Nat.reduceLT, fn_inbox_Inbox_Sequence, e28_1, w28_1, e28_3, w28_3, c28_4, e28_6, w28_6, e28_8, w28_8, c28_9, c28_10, c28_11, take_self, hU, e]
  obtain ⟨k, s, rfl, hk1, hs⟩ := isSrc_get h1
  simp -implicitDefEqProofs (disch := omega) only [go_sem, Nat.reduceAdd, Nat.reduceMul, Nat.reduceSub, Nat.reduceBEq, Nat.reduceLeDiff, Nat.reduceLT, fn_inbox_Inbox_Sequence, e28_1, w28_1, e28_3, w28_3, c28_4, e28_6, w28_6, e28_8, w28_8, c28_9, c28_10, c28_11, nc_ptr, hb, hS, src_at hs, show decide (k < b.srcs.length) = true from decide_eq_true hk1]
  refine ifB (fun h2 => ?_) (fun h2 => ?_)
  · have e : seqB b k = (s.seq, true) := by simp only [seqB, Int.toNat_natCast, hs]; rw [if_pos ⟨h1, h2⟩]
    simp -implicitDefEqProofs (disch := omega) only [go_sem, Nat.reduceAdd, Nat.reduceMul, Nat.reduceSub, Nat.reduceBEq, Nat.reduceLeDiff, Nat.reduceLT, fn_inbox_Inbox_Sequence, e28_1, w28_1, e28_3, w28_3, c28_4, e28_6, w28_6, e28_8, w28_8, c28_9, c28_10, c28_11, nc_ptr, hb, hS, src_at hs, take_self, hU, e, show decide (k < b.srcs.length) = true from decide_eq_true hk1]
  · have e : seqB b k = (0, false) := by simp only [seqB, Int.toNat_natCast, hs]; rw [if_neg (by rw [h2]; simp)]
    simp -implicitDefEqProofs (disch := omega) only [go_sem, Nat.reduceAdd, Nat.reduceMul, Nat.reduceSub, Nat.reduceBEq, Nat.reduceLeDiff, Nat.reduceLT, fn_inbox_Inbox_Sequence, e28_1, w28_1, e28_3, w28_3, c28_4, e28_6, w28_6, e28_8, w28_8, c28_9, c28_10, c28_11, take_self, hU, e]

/-- A source that is heard. -/
def hearS (s : Src) (now : Int) : Src := if s.ever = false ∨ s.last < now then { s with ever := true, last := now } else s
theorem hear_ok {M : Mem} (hU : memUnder M.length M = true) {sid : Nat} {l : List Src} (hS : M[sid]? = some (.arr 4 (l.map Src.row) 0 0)) {i : Nat} {s : Src} (hs : l[i]? = some s) (now : Int) :
    ACalls PR i_inbox_heard_hear [.eptr sid 0 i 0, .int .i64 now] M (fun v N => v = .tuple [] ∧ N = M.set sid (.arr 4 ((l.set i (hearS s now)).map Src.row) 0 0)) := by
  have hlt := (List.getElem?_eq_some_iff.1 hs).1
  have hM := (List.getElem?_eq_some_iff.1 hS).1
  have hg : ∀ B : Blk, (M.set sid B)[sid]? = some B := fun B => by rw [List.getElem?_set_self hM]
  have hss : ∀ B C : Blk, (M.set sid B).set sid C = M.set sid C := fun B C => by simp
  have hUs : ∀ rows : List (List V), memUnder (M.set sid (.arr 4 rows 0 0)).length (M.set sid (.arr 4 rows 0 0)) = true := fun rows => by
    rw [List.length_set]
    have : ∀ (n : Nat) (M : Mem) (i : Nat), memUnder n M = true → memUnder n (M.set i (.arr 4 rows 0 0)) = true := by
      intro n M
      induction M with
      | nil => intro i h; simpa using h
      | cons B M ih =>
        intro i h
        simp only [memUnder, Bool.and_eq_true] at h
        cases i with
        | zero => simp only [List.set_cons_zero, memUnder, Bool.and_eq_true]; exact ⟨rfl, h.2⟩
        | succ i => simp only [List.set_cons_succ, memUnder, Bool.and_eq_true]; exact ⟨h.1, ih i h.2⟩
    exact this _ M sid hU
  have hself : l.set i s = l := by
    obtain ⟨_, rfl⟩ := List.getElem?_eq_some_iff.1 hs
    simp
  have hrow : ∀ (r : List V), ((l.map Src.row).set i r)[i]? = some r := fun r => by rw [List.getElem?_set_self (by simpa using hlt)]
  have hset2 : ∀ (r t : List V), ((l.map Src.row).set i r).set i t = (l.map Src.row).set i t := fun r t => by simp
  have hmaps : ∀ t : Src, (l.map Src.row).set i [.bool t.ever, .int .i64 t.last, .bool t.recv, .int .i64 t.seq] = (l.set i t).map Src.row := fun t => by rw [List.map_set]; rfl
  have hMset : M.set sid (.arr 4 (l.map Src.row) 0 0) = M := by
    obtain ⟨_, e⟩ := List.getElem?_eq_some_iff.1 hS
    rw [← e]; simp
  have hlen : (M.set sid (.arr 4 ((l.set i (hearS s now)).map Src.row) 0 0)).take M.length = M.set sid (.arr 4 ((l.set i (hearS s now)).map Src.row) 0 0) := List.take_of_length_le (by simp)
  have hle : ∀ B : Blk, decide (M.length ≤ (M.set sid B).length) = true := fun B => by simp
  refine acalls_pop fn_inbox_heard_hear_ok (by simp [fn_inbox_heard_hear]) ?_
  simp -implicitDefEqProofs (disch := omega) only [go_sem, Nat.reduceAdd, Nat.reduceMul, Nat.reduceSub, Nat.reduceBEq, Nat.reduceLeDiff, Nat.reduceLT, fn_inbox_heard_hear, e37_1, w37_1, e37_3, w37_3, nc_eptr, hS, src_at hs]
  have done1 : (s.ever = false ∨ s.last < now) → hearS s now = { s with ever := true, last := now } := fun h => by rw [hearS, if_pos h]
  refine ifB (fun h => ?_) (fun h => ?_)
  rotate_left
  · have e := done1 (.inl h)
    have hm := hmaps (hearS s now)
    rw [e] at hm hlen
    simp only at hm
    rw [e]
    have hU2 := hUs ((l.set i { s with ever := true, last := now }).map Src.row)
    rw [List.length_set] at hU2
    simp -implicitDefEqProofs (disch := omega) only [go_sem, Nat.reduceAdd, Nat.reduceMul, Nat.reduceSub, Nat.reduceBEq, Nat.reduceLeDiff, Nat.reduceLT, fn_inbox_heard_hear, e37_1, w37_1, e37_3, w37_3, nc_eptr, hS, src_at hs, hg, hrow, hset2, hss, hm, hle, hlen, hU2]
  simp -implicitDefEqProofs (disch := omega) only [go_sem, Nat.reduceAdd, Nat.reduceMul, Nat.reduceSub, Nat.reduceBEq, Nat.reduceLeDiff, Nat.reduceLT, fn_inbox_heard_hear, e37_1, w37_1, e37_3, w37_3, nc_eptr, hS, src_at hs]
  refine ifD (fun h2 => ?_) (fun h2 => ?_)
  · have e := done1 (.inr h2)
    have hm := hmaps (hearS s now)
    rw [e] at hm hlen
    simp only at hm
    rw [e]
    have hU2 := hUs ((l.set i { s with ever := true, last := now }).map Src.row)
    rw [List.length_set] at hU2
    simp -implicitDefEqProofs (disch := omega) only [go_sem, Nat.reduceAdd, Nat.reduceMul, Nat.reduceSub, Nat.reduceBEq, Nat.reduceLeDiff, Nat.reduceLT, fn_inbox_heard_hear, e37_1, w37_1, e37_3, w37_3, nc_eptr, hS, src_at hs, hg, hrow, hset2, hss, hm, hle, hlen, hU2]
  · have e : hearS s now = s := by rw [hearS, if_neg (by rw [h]; simp; omega)]
    simp -implicitDefEqProofs (disch := omega) only [go_sem, Nat.reduceAdd, Nat.reduceMul, Nat.reduceSub, Nat.reduceBEq, Nat.reduceLeDiff, Nat.reduceLT, fn_inbox_heard_hear, e37_1, w37_1, e37_3, w37_3, take_self, hU, e, hself, hMset]

/-! ### Receiving -/
theorem set_under (n : Nat) (B : Blk) (hB : B.under n = true) : ∀ (M : Mem) (i : Nat), memUnder n M = true → memUnder n (M.set i B) = true
  | [], i, h => by simpa using h
  | C :: M, 0, h => by
    simp only [memUnder, Bool.and_eq_true, List.set_cons_zero] at h ⊢
    exact ⟨hB, h.2⟩
  | C :: M, i + 1, h => by
    simp only [memUnder, Bool.and_eq_true, List.set_cons_succ] at h ⊢
    exact ⟨h.1, set_under n B hB M i h.2⟩
theorem InAt.lt {M : Mem} {b : Ibx} {id sid : Nat} (h : InAt M b id sid) : id < M.length ∧ sid < M.length ∧ id ≠ sid := by
  obtain ⟨kv, h1, _⟩ := h.box
  refine ⟨(List.getElem?_eq_some_iff.1 h1).1, (List.getElem?_eq_some_iff.1 h.src).1, fun e => ?_⟩
  subst e
  have := h.src
  rw [h1] at this
  cases this
/-- What is elsewhere stays. -/
def Fr (M N : Mem) (id sid : Nat) : Prop := M.length ≤ N.length ∧ ∀ j, j < M.length → j ≠ id → j ≠ sid → N[j]? = M[j]?
theorem Fr.app (M L : Mem) (id sid : Nat) : Fr M (M ++ L) id sid := ⟨by simp, fun j hj _ _ => List.getElem?_append_left hj⟩
theorem Fr.refl (M : Mem) (id sid : Nat) : Fr M M id sid := ⟨Nat.le_refl _, fun _ _ _ _ => rfl⟩
theorem Fr.trans {A B C : Mem} {id sid : Nat} (h : Fr A B id sid) (k : Fr B C id sid) : Fr A C id sid :=
  ⟨Nat.le_trans h.1 k.1, fun j hj h1 h2 => (k.2 j (Nat.lt_of_lt_of_le hj h.1) h1 h2).trans (h.2 j hj h1 h2)⟩
theorem KV.not_src {M : Mem} {kid ver : Nat} {l : List Msg} {sid : Nat} {rows : List (List V)} (h : M[kid]? = some (.arr 13 (l.map Msg.row) ver 0)) (hs : M[sid]? = some (.arr 4 rows 0 0)) : kid ≠ sid := fun e => by
  subst e
  rw [h] at hs
  cases hs
/-- The sources are written over. -/
theorem InAt.set {M : Mem} {b : Ibx} {id sid : Nat} (h : InAt M b id sid) (l : List Src) (hl : l.length = b.srcs.length) : InAt (M.set sid (.arr 4 (l.map Src.row) 0 0)) ⟨l, b.pat, b.kept⟩ id sid := by
  obtain ⟨kv, h1, h2⟩ := h.box
  obtain ⟨k1, k2, k3⟩ := h.lt
  refine ⟨by rw [List.length_set]; exact set_under _ _ rfl _ _ h.own, by rw [List.getElem?_set_self k2], kv, by rw [List.getElem?_set_ne (Ne.symm k3)]; simp only [hl]; exact h1, ?_⟩
  rcases h2 with ⟨c, rfl⟩ | ⟨kid, ver, rfl, h3⟩
  · exact .inl ⟨c, rfl⟩
  · exact .inr ⟨kid, ver, rfl, by rw [List.getElem?_set_ne (KV.not_src h3 h.src).symm]; exact h3⟩

def momentB (now : Int) : Prop := 0 ≤ now ∧ now ≤ 3155932800
instance (now : Int) : Decidable (momentB now) := by unfold momentB; exact inferInstance
def beatE (b : Ibx) (i now : Int) : Int := if isSrc b i = false then 36 else if momentB now then 0 else 10
def beatI (b : Ibx) (i now : Int) : Ibx :=
  if beatE b i now = 0 then (match b.srcs[i.toNat]? with | some s => ⟨b.srcs.set i.toNat (hearS s now), b.pat, b.kept⟩ | none => b) else b
theorem Heartbeat_ok {M : Mem} {b : Ibx} {id sid : Nat} (h : InAt M b id sid) (i now : Int) :
    ACalls PR i_inbox_Inbox_Heartbeat [.ptr id 0, .int .i64 i, .int .i64 now] M (fun v N => v = .int .i64 (beatE b i now) ∧ Fr M N id sid ∧ N.length = M.length ∧ InAt N (beatI b i now) id sid) := by
  obtain ⟨kv, hb, hk⟩ := h.box
  have hU := h.own
  have hS := h.src
  refine acalls_pop fn_inbox_Inbox_Heartbeat_ok (by simp [fn_inbox_Inbox_Heartbeat]) ?_
  simp -implicitDefEqProofs (disch := omega) only [go_sem, Nat.reduceAdd, Nat.reduceMul, Nat.reduceSub, Nat.reduceBEq, Nat.reduceLeDiff, Nat.reduceLT, fn_inbox_Inbox_Heartbeat, e25_1, w25_1, e25_3, w25_3, c25_4, e25_6, w25_6, c25_7, e25_9, w25_9, c25_10, e25_12, w25_12, e25_14, w25_14, e25_16, w25_16, c25_17, e25_19, w25_19, e25_21, w25_21, c25_22, c25_23, c25_24, c25_25, nil_ptr_eq]
  refine callA (exists_ok h i) ?_
  rintro v N ⟨rfl, rfl⟩
  simp -implicitDefEqProofs (disch := omega) only [go_sem, Nat.reduceAdd, Nat.reduceMul, Nat.reduceSub, Nat.reduceBEq, Nat.reduceLeDiff, Nat.reduceLT, fn_inbox_Inbox_Heartbeat, e25_1, w25_1, e25_3, w25_3, c25_4, e25_6, w25_6, c25_7, e25_9, w25_9, c25_10, e25_12, w25_12, e25_14, w25_14, e25_16, w25_16, c25_17, e25_19, w25_19, e25_21, w25_21, c25_22, c25_23, c25_24, c25_25]
  refine ifB (fun h1 => ?_) (fun h1 => ?_)
  rotate_left
  · have e : beatE b i now = 36 := by rw [beatE, if_pos h1]
    have e2 : beatI b i now = b := by rw [beatI, if_neg (by rw [e]; decide)]
    simp -implicitDefEqProofs (disch := omega) only [go_sem, Nat.reduceAdd, Nat.reduceMul, Nat.reduceSub, Nat.reduceBEq, Nat.reduceLeDiff, Nat.reduceLT, fn_inbox_Inbox_Heartbeat, e25_1, w25_1, e25_3, w25_3, c25_4, e25_6, w25_6, c25_7, e25_9, w25_9, c25_10, e25_12, w25_12, e25_14, w25_14, e25_16, w25_16, c25_17, e25_19, w25_19, e25_21, w25_21, c25_22, c25_23, c25_24, c25_25, take_self, hU, e, e2]
    exact ⟨Fr.refl _ _ _, h⟩
  have bad : ¬ momentB now → beatE b i now = 10 := fun hh => by rw [beatE, if_neg (by rw [h1]; simp), if_neg hh]
  simp -implicitDefEqProofs (disch := omega) only [go_sem, Nat.reduceAdd, Nat.reduceMul, Nat.reduceSub, Nat.reduceBEq, Nat.reduceLeDiff, Nat.reduceLT, fn_inbox_Inbox_Heartbeat, e25_1, w25_1, e25_3, w25_3, c25_4, e25_6, w25_6, c25_7, e25_9, w25_9, c25_10, e25_12, w25_12, e25_14, w25_14, e25_16, w25_16, c25_17, e25_19, w25_19, e25_21, w25_21, c25_22, c25_23, c25_24, c25_25]
  refine ifD (fun h2 => ?_) (fun h2 => ?_)
  · have e := bad (by unfold momentB; omega)
    have e2 : beatI b i now = b := by rw [beatI, if_neg (by rw [e]; decide)]
    simp -implicitDefEqProofs (disch := omega) only [go_sem, Nat.reduceAdd, Nat.reduceMul, Nat.reduceSub, Nat.reduceBEq, Nat.reduceLeDiff, Nat.reduceLT, fn_inbox_Inbox_Heartbeat, e25_1, w25_1, e25_3, w25_3, c25_4, e25_6, w25_6, c25_7, e25_9, w25_9, c25_10, e25_12, w25_12, e25_14, w25_14, e25_16, w25_16, c25_17, e25_19, w25_19, e25_21, w25_21, c25_22, c25_23, c25_24, c25_25, take_self, hU, e, e2]
    exact ⟨Fr.refl _ _ _, h⟩
  simp -implicitDefEqProofs (disch := omega) only [go_sem, Nat.reduceAdd, Nat.reduceMul, Nat.reduceSub, Nat.reduceBEq, Nat.reduceLeDiff, Nat.reduceLT, fn_inbox_Inbox_Heartbeat, e25_1, w25_1, e25_3, w25_3, c25_4, e25_6, w25_6, c25_7, e25_9, w25_9, c25_10, e25_12, w25_12, e25_14, w25_14, e25_16, w25_16, c25_17, e25_19, w25_19, e25_21, w25_21, c25_22, c25_23, c25_24, c25_25]
  refine ifD (fun h3 => ?_) (fun h3 => ?_)
  · have e := bad (by unfold momentB; omega)
    have e2 : beatI b i now = b := by rw [beatI, if_neg (by rw [e]; decide)]
    simp -implicitDefEqProofs (disch := omega) only [go_sem, Nat.reduceAdd, Nat.reduceMul, Nat.reduceSub, Nat.reduceBEq, Nat.reduceLeDiff, Nat.reduceLT, fn_inbox_Inbox_Heartbeat, e25_1, w25_1, e25_3, w25_3, c25_4, e25_6, w25_6, c25_7, e25_9, w25_9, c25_10, e25_12, w25_12, e25_14, w25_14, e25_16, w25_16, c25_17, e25_19, w25_19, e25_21, w25_21, c25_22, c25_23, c25_24, c25_25, take_self, hU, e, e2]
    exact ⟨Fr.refl _ _ _, h⟩
  have e : beatE b i now = 0 := by rw [beatE, if_neg (by rw [h1]; simp), if_pos (by unfold momentB; omega)]
  obtain ⟨k, s, rfl, hk1, hs⟩ := isSrc_get h1
  have e2 : beatI b k now = ⟨b.srcs.set k (hearS s now), b.pat, b.kept⟩ := by simp only [beatI, e, if_true, Int.toNat_natCast, hs]
  simp -implicitDefEqProofs (disch := omega) only [go_sem, Nat.reduceAdd, Nat.reduceMul, Nat.reduceSub, Nat.reduceBEq, Nat.reduceLeDiff, Nat.reduceLT, fn_inbox_Inbox_Heartbeat, e25_1, w25_1, e25_3, w25_3, c25_4, e25_6, w25_6, c25_7, e25_9, w25_9, c25_10, e25_12, w25_12, e25_14, w25_14, e25_16, w25_16, c25_17, e25_19, w25_19, e25_21, w25_21, c25_22, c25_23, c25_24, c25_25, nc_ptr, hb, hS, show decide (k < b.srcs.length) = true from decide_eq_true hk1]
  refine callA (hear_ok hU hS hs now) ?_
  rintro v N2 ⟨rfl, rfl⟩
  have hI := h.set (b.srcs.set k (hearS s now)) (by simp)
  have hU2 := hI.own
  rw [List.length_set] at hU2
  have ht : (N.set sid (.arr 4 ((b.srcs.set k (hearS s now)).map Src.row) 0 0)).take N.length = N.set sid (.arr 4 ((b.srcs.set k (hearS s now)).map Src.row) 0 0) := List.take_of_length_le (by simp)
  simp -implicitDefEqProofs (disch := omega) only [go_sem, Nat.reduceAdd, Nat.reduceMul, Nat.reduceSub, Nat.reduceBEq, Nat.reduceLeDiff, Nat.reduceLT, fn_inbox_Inbox_Heartbeat, e25_1, w25_1, e25_3, w25_3, c25_4, e25_6, w25_6, c25_7, e25_9, w25_9, c25_10, e25_12, w25_12, e25_14, w25_14, e25_16, w25_16, c25_17, e25_19, w25_19, e25_21, w25_21, c25_22, c25_23, c25_24, c25_25, ht, hU2, e, e2, List.length_set]
  exact ⟨⟨by simp, fun j _ _ h2 => by rw [List.getElem?_set_ne (Ne.symm h2)]⟩, hI⟩

def refuseE (b : Ibx) (m : Msg) (now : Int) : Int :=
  if ¬ momentB now then 10 else if checkM m ≠ 0 then checkM m else if (b.srcs.length : Int) ≤ m.src then 36 else
  match b.srcs[m.src.toNat]? with
  | some s => if (s.recv = true ∧ m.seq ≤ s.seq) ∨ m.exp ≤ now then 37 else 0
  | none => 0
theorem checkM_src {m : Msg} (h : checkM m = 0) : 0 ≤ m.src ∧ m.src ≤ 7 := by
  refine Decidable.byContradiction fun hh => ?_
  rw [checkM, if_pos hh] at h
  cases h
theorem checkM_calls {m : Msg} (h : checkM m = 0) : m.calls.length ≤ 32 := by
  have hk : kindErr m (usesOf m.kind) = 0 := by
    unfold checkM at h
    split at h
    · cases h
    split at h
    · cases h
    split at h
    · cases h
    split at h
    · cases h
    split at h
    · cases h
    split at h
    · cases h
    split at h
    · cases h
    · exact h
  unfold kindErr at hk
  split at hk
  · cases hk
  split at hk
  · rename_i hx
    exact absurd hk hx
  rename_i hx
  split at hk
  · cases hk
  rename_i hy
  have hx' : callsErr m (usesOf m.kind) = 0 := Decidable.not_not.1 hx
  unfold callsErr at hx'
  split at hx'
  · refine Decidable.byContradiction fun hn => ?_
    rw [checkC, if_pos (by omega)] at hx'
    cases hx'
  · rename_i hu
    refine Decidable.byContradiction fun hn => ?_
    exact hy (.inr (.inr (.inr ⟨by simpa using hu, by omega⟩)))
theorem refuseE_check {b : Ibx} {m : Msg} {now : Int} (h : refuseE b m now = 0) : checkM m = 0 ∧ momentB now ∧ m.src < b.srcs.length := by
  unfold refuseE at h
  split at h
  · cases h
  rename_i h1
  split at h
  · rename_i h2; exact absurd h h2
  rename_i h2
  split at h
  · cases h
  rename_i h3
  exact ⟨Decidable.not_not.1 h2, Decidable.not_not.1 h1, by omega⟩
theorem refusal_ok {M : Mem} {b : Ibx} {id sid : Nat} (h : InAt M b id sid) (m : Msg) (now : Int) (hc : m.calls.length ≤ maxLen) (ht : m.trip.length ≤ maxLen) :
    ACalls PR i_inbox_Inbox_refusal [.ptr id 0, .agg m.row, .int .i64 now] M (fun v N => v = .int .i64 (refuseE b m now) ∧ N = M) := by
  obtain ⟨kv, hb, hk⟩ := h.box
  have hU := h.own
  have hb' := fun L => mget hb L
  have hS' := fun L => mget h.src L
  have hck := message_Check_ok m hc ht
  simp only [Msg.row] at hck
  refine acalls_pop fn_inbox_Inbox_refusal_ok (by simp [fn_inbox_Inbox_refusal]) ?_
  have fin : ∀ L : Mem, (M ++ L).take M.length = M := fun L => List.take_left
  have fin2 : ∀ L : Mem, decide (M.length ≤ (M ++ L).length) = true := fun L => by simp
  simp -implicitDefEqProofs (disch := omega) only [go_sem, Nat.reduceAdd, Nat.reduceMul, Nat.reduceSub, Nat.reduceBEq, Nat.reduceLeDiff, Nat.reduceLT, fn_inbox_Inbox_refusal, e32_1, w32_1, e32_3, w32_3, c32_4, e32_6, w32_6, e32_8, w32_8, e32_10, w32_10, c32_11, e32_13, w32_13, c32_14, e32_16, w32_16, c32_17, e32_19, w32_19, e32_21, w32_21, e32_23, w32_23, c32_24, e32_26, w32_26, e32_28, w32_28, c32_29, c32_30, c32_31, c32_32, c32_33, c32_34, c32_35, Msg.row]
  refine ifD (fun h2 => ?_) (fun h2 => ?_)
  · have e : refuseE b m now = 10 := by rw [refuseE, if_pos (by unfold momentB; omega)]
    simp -implicitDefEqProofs (disch := omega) only [go_sem, Nat.reduceAdd, Nat.reduceMul, Nat.reduceSub, Nat.reduceBEq, Nat.reduceLeDiff, Nat.reduceLT, fn_inbox_Inbox_refusal, e32_1, w32_1, e32_3, w32_3, c32_4, e32_6, w32_6, e32_8, w32_8, e32_10, w32_10, c32_11, e32_13, w32_13, c32_14, e32_16, w32_16, c32_17, e32_19, w32_19, e32_21, w32_21, e32_23, w32_23, c32_24, e32_26, w32_26, e32_28, w32_28, c32_29, c32_30, c32_31, c32_32, c32_33, c32_34, c32_35, fin, fin2, hU, e]
  simp -implicitDefEqProofs (disch := omega) only [go_sem, Nat.reduceAdd, Nat.reduceMul, Nat.reduceSub, Nat.reduceBEq, Nat.reduceLeDiff, Nat.reduceLT, fn_inbox_Inbox_refusal, e32_1, w32_1, e32_3, w32_3, c32_4, e32_6, w32_6, e32_8, w32_8, e32_10, w32_10, c32_11, e32_13, w32_13, c32_14, e32_16, w32_16, c32_17, e32_19, w32_19, e32_21, w32_21, e32_23, w32_23, c32_24, e32_26, w32_26, e32_28, w32_28, c32_29, c32_30, c32_31, c32_32, c32_33, c32_34, c32_35]
  refine ifD (fun h3 => ?_) (fun h3 => ?_)
  · have e : refuseE b m now = 10 := by rw [refuseE, if_pos (by unfold momentB; omega)]
    simp -implicitDefEqProofs (disch := omega) only [go_sem, Nat.reduceAdd, Nat.reduceMul, Nat.reduceSub, Nat.reduceBEq, Nat.reduceLeDiff, Nat.reduceLT, fn_inbox_Inbox_refusal, e32_1, w32_1, e32_3, w32_3, c32_4, e32_6, w32_6, e32_8, w32_8, e32_10, w32_10, c32_11, e32_13, w32_13, c32_14, e32_16, w32_16, c32_17, e32_19, w32_19, e32_21, w32_21, e32_23, w32_23, c32_24, e32_26, w32_26, e32_28, w32_28, c32_29, c32_30, c32_31, c32_32, c32_33, c32_34, c32_35, fin, fin2, hU, e]
  have hm : ¬ ¬ momentB now := by unfold momentB; omega
  simp -implicitDefEqProofs (disch := omega) only [go_sem, Nat.reduceAdd, Nat.reduceMul, Nat.reduceSub, Nat.reduceBEq, Nat.reduceLeDiff, Nat.reduceLT, fn_inbox_Inbox_refusal, e32_1, w32_1, e32_3, w32_3, c32_4, e32_6, w32_6, e32_8, w32_8, e32_10, w32_10, c32_11, e32_13, w32_13, c32_14, e32_16, w32_16, c32_17, e32_19, w32_19, e32_21, w32_21, e32_23, w32_23, c32_24, e32_26, w32_26, e32_28, w32_28, c32_29, c32_30, c32_31, c32_32, c32_33, c32_34, c32_35, get_at0]
  first | refine callD (hck) ?_ | refine callQD (hck) ?_
  simp -implicitDefEqProofs (disch := omega) only [go_sem, Nat.reduceAdd, Nat.reduceMul, Nat.reduceSub, Nat.reduceBEq, Nat.reduceLeDiff, Nat.reduceLT, fn_inbox_Inbox_refusal, e32_1, w32_1, e32_3, w32_3, c32_4, e32_6, w32_6, e32_8, w32_8, e32_10, w32_10, c32_11, e32_13, w32_13, c32_14, e32_16, w32_16, c32_17, e32_19, w32_19, e32_21, w32_21, e32_23, w32_23, c32_24, e32_26, w32_26, e32_28, w32_28, c32_29, c32_30, c32_31, c32_32, c32_33, c32_34, c32_35]
  refine ifD (fun h4 => ?_) (fun h4 => ?_)
  rotate_left
  · have e : refuseE b m now = checkM m := by rw [refuseE, if_neg hm, if_pos h4]
    simp -implicitDefEqProofs (disch := omega) only [go_sem, Nat.reduceAdd, Nat.reduceMul, Nat.reduceSub, Nat.reduceBEq, Nat.reduceLeDiff, Nat.reduceLT, fn_inbox_Inbox_refusal, e32_1, w32_1, e32_3, w32_3, c32_4, e32_6, w32_6, e32_8, w32_8, e32_10, w32_10, c32_11, e32_13, w32_13, c32_14, e32_16, w32_16, c32_17, e32_19, w32_19, e32_21, w32_21, e32_23, w32_23, c32_24, e32_26, w32_26, e32_28, w32_28, c32_29, c32_30, c32_31, c32_32, c32_33, c32_34, c32_35, fin, fin2, hU, e]
  have hsrc := checkM_src h4
  simp -implicitDefEqProofs (disch := omega) only [go_sem, Nat.reduceAdd, Nat.reduceMul, Nat.reduceSub, Nat.reduceBEq, Nat.reduceLeDiff, Nat.reduceLT, fn_inbox_Inbox_refusal, e32_1, w32_1, e32_3, w32_3, c32_4, e32_6, w32_6, e32_8, w32_8, e32_10, w32_10, c32_11, e32_13, w32_13, c32_14, e32_16, w32_16, c32_17, e32_19, w32_19, e32_21, w32_21, e32_23, w32_23, c32_24, e32_26, w32_26, e32_28, w32_28, c32_29, c32_30, c32_31, c32_32, c32_33, c32_34, c32_35, get_at0, nc_ptr, hb', hS']
  refine ifD (fun h5 => ?_) (fun h5 => ?_)
  · have e : refuseE b m now = 36 := by rw [refuseE, if_neg hm, if_neg (fun e => e h4), if_pos h5]
    simp -implicitDefEqProofs (disch := omega) only [go_sem, Nat.reduceAdd, Nat.reduceMul, Nat.reduceSub, Nat.reduceBEq, Nat.reduceLeDiff, Nat.reduceLT, fn_inbox_Inbox_refusal, e32_1, w32_1, e32_3, w32_3, c32_4, e32_6, w32_6, e32_8, w32_8, e32_10, w32_10, c32_11, e32_13, w32_13, c32_14, e32_16, w32_16, c32_17, e32_19, w32_19, e32_21, w32_21, e32_23, w32_23, c32_24, e32_26, w32_26, e32_28, w32_28, c32_29, c32_30, c32_31, c32_32, c32_33, c32_34, c32_35, fin, fin2, hU, e]
  obtain ⟨k, hk'⟩ : ∃ k : Nat, m.src = k := ⟨m.src.toNat, by omega⟩
  have hkl : k < b.srcs.length := by omega
  obtain ⟨s, hs⟩ : ∃ s, b.srcs[k]? = some s := ⟨b.srcs[k], by simp⟩
  have e0 : refuseE b m now = if (s.recv = true ∧ m.seq ≤ s.seq) ∨ m.exp ≤ now then 37 else 0 := by
    rw [refuseE, if_neg hm, if_neg (fun e => e h4), if_neg h5]
    simp only [hk', Int.toNat_natCast, hs]
  simp -implicitDefEqProofs (disch := omega) only [go_sem, Nat.reduceAdd, Nat.reduceMul, Nat.reduceSub, Nat.reduceBEq, Nat.reduceLeDiff, Nat.reduceLT, fn_inbox_Inbox_refusal, e32_1, w32_1, e32_3, w32_3, c32_4, e32_6, w32_6, e32_8, w32_8, e32_10, w32_10, c32_11, e32_13, w32_13, c32_14, e32_16, w32_16, c32_17, e32_19, w32_19, e32_21, w32_21, e32_23, w32_23, c32_24, e32_26, w32_26, e32_28, w32_28, c32_29, c32_30, c32_31, c32_32, c32_33, c32_34, c32_35, List.append_assoc, get_at0, get_at, set_at, hk', nc_ptr, hb', hS', src_at hs, show decide (k < b.srcs.length) = true from decide_eq_true hkl]
  refine ifB (fun h6 => ?_) (fun h6 => ?_)
  · simp -implicitDefEqProofs (disch := omega) only [go_sem, Nat.reduceAdd, Nat.reduceMul, Nat.reduceSub, Nat.reduceBEq, Nat.reduceLeDiff, Nat.reduceLT, fn_inbox_Inbox_refusal, e32_1, w32_1, e32_3, w32_3, c32_4, e32_6, w32_6, e32_8, w32_8, e32_10, w32_10, c32_11, e32_13, w32_13, c32_14, e32_16, w32_16, c32_17, e32_19, w32_19, e32_21, w32_21, e32_23, w32_23, c32_24, e32_26, w32_26, e32_28, w32_28, c32_29, c32_30, c32_31, c32_32, c32_33, c32_34, c32_35, get_at0, get_at]
    refine ifD (fun h7 => ?_) (fun h7 => ?_)
    · simp -implicitDefEqProofs (disch := omega) only [go_sem, Nat.reduceAdd, Nat.reduceMul, Nat.reduceSub, Nat.reduceBEq, Nat.reduceLeDiff, Nat.reduceLT, fn_inbox_Inbox_refusal, e32_1, w32_1, e32_3, w32_3, c32_4, e32_6, w32_6, e32_8, w32_8, e32_10, w32_10, c32_11, e32_13, w32_13, c32_14, e32_16, w32_16, c32_17, e32_19, w32_19, e32_21, w32_21, e32_23, w32_23, c32_24, e32_26, w32_26, e32_28, w32_28, c32_29, c32_30, c32_31, c32_32, c32_33, c32_34, c32_35, fin, fin2, hU, e0]
      rw [if_pos (.inl ⟨h6, h7⟩)]
    simp -implicitDefEqProofs (disch := omega) only [go_sem, Nat.reduceAdd, Nat.reduceMul, Nat.reduceSub, Nat.reduceBEq, Nat.reduceLeDiff, Nat.reduceLT, fn_inbox_Inbox_refusal, e32_1, w32_1, e32_3, w32_3, c32_4, e32_6, w32_6, e32_8, w32_8, e32_10, w32_10, c32_11, e32_13, w32_13, c32_14, e32_16, w32_16, c32_17, e32_19, w32_19, e32_21, w32_21, e32_23, w32_23, c32_24, e32_26, w32_26, e32_28, w32_28, c32_29, c32_30, c32_31, c32_32, c32_33, c32_34, c32_35, get_at0, get_at]
    refine ifD (fun h8 => ?_) (fun h8 => ?_)
    · simp -implicitDefEqProofs (disch := omega) only [go_sem, Nat.reduceAdd, Nat.reduceMul, Nat.reduceSub, Nat.reduceBEq, Nat.reduceLeDiff, Nat.reduceLT, fn_inbox_Inbox_refusal, e32_1, w32_1, e32_3, w32_3, c32_4, e32_6, w32_6, e32_8, w32_8, e32_10, w32_10, c32_11, e32_13, w32_13, c32_14, e32_16, w32_16, c32_17, e32_19, w32_19, e32_21, w32_21, e32_23, w32_23, c32_24, e32_26, w32_26, e32_28, w32_28, c32_29, c32_30, c32_31, c32_32, c32_33, c32_34, c32_35, fin, fin2, hU, e0]
      rw [if_pos (.inr h8)]
    · simp -implicitDefEqProofs (disch := omega) only [go_sem, Nat.reduceAdd, Nat.reduceMul, Nat.reduceSub, Nat.reduceBEq, Nat.reduceLeDiff, Nat.reduceLT, fn_inbox_Inbox_refusal, e32_1, w32_1, e32_3, w32_3, c32_4, e32_6, w32_6, e32_8, w32_8, e32_10, w32_10, c32_11, e32_13, w32_13, c32_14, e32_16, w32_16, c32_17, e32_19, w32_19, e32_21, w32_21, e32_23, w32_23, c32_24, e32_26, w32_26, e32_28, w32_28, c32_29, c32_30, c32_31, c32_32, c32_33, c32_34, c32_35, fin, fin2, hU, e0]
      rw [if_neg (by omega)]
  · simp -implicitDefEqProofs (disch := omega) only [go_sem, Nat.reduceAdd, Nat.reduceMul, Nat.reduceSub, Nat.reduceBEq, Nat.reduceLeDiff, Nat.reduceLT, fn_inbox_Inbox_refusal, e32_1, w32_1, e32_3, w32_3, c32_4, e32_6, w32_6, e32_8, w32_8, e32_10, w32_10, c32_11, e32_13, w32_13, c32_14, e32_16, w32_16, c32_17, e32_19, w32_19, e32_21, w32_21, e32_23, w32_23, c32_24, e32_26, w32_26, e32_28, w32_28, c32_29, c32_30, c32_31, c32_32, c32_33, c32_34, c32_35, get_at0, get_at]
    refine ifD (fun h8 => ?_) (fun h8 => ?_)
    · simp -implicitDefEqProofs (disch := omega) only [go_sem, Nat.reduceAdd, Nat.reduceMul, Nat.reduceSub, Nat.reduceBEq, Nat.reduceLeDiff, Nat.reduceLT, fn_inbox_Inbox_refusal, e32_1, w32_1, e32_3, w32_3, c32_4, e32_6, w32_6, e32_8, w32_8, e32_10, w32_10, c32_11, e32_13, w32_13, c32_14, e32_16, w32_16, c32_17, e32_19, w32_19, e32_21, w32_21, e32_23, w32_23, c32_24, e32_26, w32_26, e32_28, w32_28, c32_29, c32_30, c32_31, c32_32, c32_33, c32_34, c32_35, fin, fin2, hU, e0]
      rw [if_pos (.inr h8)]
    · simp -implicitDefEqProofs (disch := omega) only [go_sem, Nat.reduceAdd, Nat.reduceMul, Nat.reduceSub, Nat.reduceBEq, Nat.reduceLeDiff, Nat.reduceLT, fn_inbox_Inbox_refusal, e32_1, w32_1, e32_3, w32_3, c32_4, e32_6, w32_6, e32_8, w32_8, e32_10, w32_10, c32_11, e32_13, w32_13, c32_14, e32_16, w32_16, c32_17, e32_19, w32_19, e32_21, w32_21, e32_23, w32_23, c32_24, e32_26, w32_26, e32_28, w32_28, c32_29, c32_30, c32_31, c32_32, c32_33, c32_34, c32_35, fin, fin2, hU, e0]
      rw [if_neg (by rw [h6]; simp; omega)]

end Go.Vm.C

