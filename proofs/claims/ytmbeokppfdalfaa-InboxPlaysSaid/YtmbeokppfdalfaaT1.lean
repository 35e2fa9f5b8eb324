/- Messages; contracts: new inboxes; the chapter's example; the statement InboxNews. -/
import Derived.Test.YtmbeokppfdalfaaC1

namespace Go.Vm.C
open Go.Vm
set_option maxHeartbeats 1000000
set_option maxRecDepth 10000
set_option linter.unusedSimpArgs false
set_option linter.unusedVariables false

/-! ### Calls -/
structure Stay where
  stop : Int
  arrive : Int
  depart : Int
  board : Bool
  alight : Bool
def Stay.row (c : Stay) : List V := [.int .i64 c.stop, .int .i64 c.arrive, .int .i64 c.depart, .bool c.board, .bool c.alight]
def Stay.wf (c : Stay) : Prop := I64 c.stop ∧ I64 c.arrive ∧ I64 c.depart
def boards (l : List Stay) (j : Nat) : Bool := ((l[j]?).map Stay.board).getD false
def alights (l : List Stay) (j : Nat) : Bool := ((l[j]?).map Stay.alight).getD false

/-! ### Messages -/
structure Msg where
  src : Int
  seq : Int
  iss : Int
  exp : Int
  kind : Int
  trip : List UInt8
  day : Int
  inst : Int
  callNo : Int
  secs : Int
  route : Int
  free : Bool
  calls : List Stay
  tag : Cap
def Msg.row (m : Msg) : List V := [.int .i64 m.src, .int .i64 m.seq, .int .i64 m.iss, .int .i64 m.exp, .int .i64 m.kind, .str m.trip, .int .i64 m.day, .int .i64 m.inst, .int .i64 m.callNo, .int .i64 m.secs, .int .i64 m.route, .bool m.free, .slice (m.calls.map Stay.row) m.tag]
def Msg.wf (m : Msg) : Prop := I64 m.src ∧ I64 m.seq ∧ I64 m.iss ∧ I64 m.exp ∧ I64 m.kind ∧ m.trip.length ≤ maxLen ∧ I64 m.day ∧ I64 m.inst ∧ I64 m.callNo ∧ I64 m.secs ∧ I64 m.route ∧ (∀ c ∈ m.calls, c.wf) ∧ m.calls.length ≤ maxLen
structure Oper where
  kind : Int
  m : Msg
  src : Int
  now : Int
def Oper.row (o : Oper) : List V := .int .i64 o.kind :: (o.m.row ++ [.int .i64 o.src, .int .i64 o.now])
def Oper.wf (o : Oper) : Prop := I64 o.kind ∧ o.m.wf ∧ I64 o.src ∧ I64 o.now
def smallM (m : Msg) : Bool := decide (m.calls.length ≤ 40) && decide (m.trip.length ≤ 256)
theorem small_ok (m : Msg) : PCalls PR i_transitlaw32_small [.agg m.row] (fun v => v = .bool (smallM m)) := by
  refine acalls_pop fn_transitlaw32_small_ok (by simp [fn_transitlaw32_small]) ?_
  simp -implicitDefEqProofs (disch := omega) only [go_sem, Nat.reduceAdd, Nat.reduceMul, Nat.reduceSub, Nat.reduceBEq, Nat.reduceLeDiff, Nat.reduceLT, fn_transitlaw32_small, e15_1, w15_1, e15_3, w15_3, c15_4, c15_5, Msg.row]
  refine ifD (fun h => ?_) (fun h => ?_)
  · have h1 : m.calls.length ≤ 40 := by omega
    simp -implicitDefEqProofs (disch := omega) only [go_sem, Nat.reduceAdd, Nat.reduceMul, Nat.reduceSub, Nat.reduceBEq, Nat.reduceLeDiff, Nat.reduceLT, fn_transitlaw32_small, e15_1, w15_1, e15_3, w15_3, c15_4, c15_5, smallM, h1]
    rw [Bool.eq_iff_iff]
    simp only [decide_eq_true_eq]
    omega
  · have h1 : ¬ m.calls.length ≤ 40 := by omega
    simp -implicitDefEqProofs (disch := omega) only [go_sem, Nat.reduceAdd, Nat.reduceMul, Nat.reduceSub, Nat.reduceBEq, Nat.reduceLeDiff, Nat.reduceLT, fn_transitlaw32_small, e15_1, w15_1, e15_3, w15_3, c15_4, c15_5, smallM, h1]
theorem example32_ok : PCalls PR i_transitlaw32_exampleHolds [] (fun x => x = .bool true) :=
  pcalls_eval tab_ok 6000 (by kernel_rfl) rfl

/-! ### New inboxes -/
def newErr (s p : Int) : Int := if s < 1 ∨ 8 < s then 36 else if p < 0 ∨ 86400 < p then 2 else 0
def zsrc : List V := [.bool false, .int .i64 0, .bool false, .int .i64 0]
theorem makeSlice_src (n : Nat) (M : Mem) (hn : n ≤ 8) : makeSliceV [.bool false, .int .i64 0, .bool false, .int .i64 0] 4 32 (.int .i64 (n : Int)) (.int .i64 (n : Int)) M = some (.mslice M.length 0 0 n, M ++ [.arr 4 (List.replicate n zsrc) 0 0]) := by
  have a1 : decide (0 ≤ (n : Int)) = true := decide_eq_true (by omega)
  have a2 : decide ((n : Int) ≤ (n : Int)) = true := decide_eq_true (by omega)
  have a3 : decide ((n : Int) * ((32 : Nat) : Int) ≤ 2 ^ 48) = true := decide_eq_true (by omega)
  have a4 : decide ((n : Int) < 2 ^ 62) = true := decide_eq_true (by omega)
  simp only [makeSliceV, a1, a2, a3, a4, Int.toNat_natCast, Bool.and_self, cond_true, zsrc]

theorem inbox_New_ok (s p : Int) (M : Mem) : ACalls PR i_inbox_New [.int .i64 s, .int .i64 p] M (fun v M' => (newErr s p ≠ 0 → v = .tuple [.nilp, .int .i64 (newErr s p)] ∧ M' = M) ∧
    (newErr s p = 0 → v = .tuple [.ptr (M.length + 1) 0, .int .i64 0] ∧ M' = M ++ [.arr 4 (List.replicate s.toNat zsrc) 0 0, .box [.mslice M.length 0 0 s.toNat, .int .i64 p, .slice [] .nil]])) := by
  refine acalls_keep fn_inbox_New_ok (by simp [fn_inbox_New]) ?_
  simp only [wpKeep]
  simp -implicitDefEqProofs (disch := omega) only [go_sem, Nat.reduceAdd, Nat.reduceMul, Nat.reduceSub, Nat.reduceBEq, Nat.reduceLeDiff, Nat.reduceLT, fn_inbox_New, e10_1, w10_1, e10_3, w10_3, c10_4, e10_6, w10_6, e10_8, w10_8, c10_9, e10_11, w10_11, e10_13, w10_13, c10_14, c10_15, c10_16, c10_17]
  have bad1 : s < 1 ∨ 8 < s → newErr s p = 36 := fun h => by rw [newErr, if_pos h]
  refine ifD (fun h1 => ?_) (fun h1 => ?_)
  · have e := bad1 (.inl h1)
    simp -implicitDefEqProofs (disch := omega) only [go_sem, Nat.reduceAdd, Nat.reduceMul, Nat.reduceSub, Nat.reduceBEq, Nat.reduceLeDiff, Nat.reduceLT, fn_inbox_New, e10_1, w10_1, e10_3, w10_3, c10_4, e10_6, w10_6, e10_8, w10_8, c10_9, e10_11, w10_11, e10_13, w10_13, c10_14, c10_15, c10_16, c10_17, e]
    simp
  simp -implicitDefEqProofs (disch := omega) only [go_sem, Nat.reduceAdd, Nat.reduceMul, Nat.reduceSub, Nat.reduceBEq, Nat.reduceLeDiff, Nat.reduceLT, fn_inbox_New, e10_1, w10_1, e10_3, w10_3, c10_4, e10_6, w10_6, e10_8, w10_8, c10_9, e10_11, w10_11, e10_13, w10_13, c10_14, c10_15, c10_16, c10_17]
  refine ifD (fun h2 => ?_) (fun h2 => ?_)
  · have e := bad1 (.inr h2)
    simp -implicitDefEqProofs (disch := omega) only [go_sem, Nat.reduceAdd, Nat.reduceMul, Nat.reduceSub, Nat.reduceBEq, Nat.reduceLeDiff, Nat.reduceLT, fn_inbox_New, e10_1, w10_1, e10_3, w10_3, c10_4, e10_6, w10_6, e10_8, w10_8, c10_9, e10_11, w10_11, e10_13, w10_13, c10_14, c10_15, c10_16, c10_17, e]
    simp
  have bad2 : p < 0 ∨ 86400 < p → newErr s p = 2 := fun h => by rw [newErr, if_neg (by omega), if_pos h]
  simp -implicitDefEqProofs (disch := omega) only [go_sem, Nat.reduceAdd, Nat.reduceMul, Nat.reduceSub, Nat.reduceBEq, Nat.reduceLeDiff, Nat.reduceLT, fn_inbox_New, e10_1, w10_1, e10_3, w10_3, c10_4, e10_6, w10_6, e10_8, w10_8, c10_9, e10_11, w10_11, e10_13, w10_13, c10_14, c10_15, c10_16, c10_17]
  refine ifD (fun h3 => ?_) (fun h3 => ?_)
  · have e := bad2 (.inl h3)
    simp -implicitDefEqProofs (disch := omega) only [go_sem, Nat.reduceAdd, Nat.reduceMul, Nat.reduceSub, Nat.reduceBEq, Nat.reduceLeDiff, Nat.reduceLT, fn_inbox_New, e10_1, w10_1, e10_3, w10_3, c10_4, e10_6, w10_6, e10_8, w10_8, c10_9, e10_11, w10_11, e10_13, w10_13, c10_14, c10_15, c10_16, c10_17, e]
    simp
  simp -implicitDefEqProofs (disch := omega) only [go_sem, Nat.reduceAdd, Nat.reduceMul, Nat.reduceSub, Nat.reduceBEq, Nat.reduceLeDiff, Nat.reduceLT, fn_inbox_New, e10_1, w10_1, e10_3, w10_3, c10_4, e10_6, w10_6, e10_8, w10_8, c10_9, e10_11, w10_11, e10_13, w10_13, c10_14, c10_15, c10_16, c10_17]
  refine ifD (fun h4 => ?_) (fun h4 => ?_)
  · have e := bad2 (.inr h4)
    simp -implicitDefEqProofs (disch := omega) only [go_sem, Nat.reduceAdd, Nat.reduceMul, Nat.reduceSub, Nat.reduceBEq, Nat.reduceLeDiff, Nat.reduceLT, fn_inbox_New, e10_1, w10_1, e10_3, w10_3, c10_4, e10_6, w10_6, e10_8, w10_8, c10_9, e10_11, w10_11, e10_13, w10_13, c10_14, c10_15, c10_16, c10_17, e]
    simp
  have e : newErr s p = 0 := by rw [newErr, if_neg (by omega), if_neg (by omega)]
  obtain ⟨n, rfl⟩ : ∃ n : Nat, s = n := ⟨s.toNat, by omega⟩
  have hmk := fun M => makeSlice_src n M (by omega)
  simp -implicitDefEqProofs (disch := omega) only [go_sem, Nat.reduceAdd, Nat.reduceMul, Nat.reduceSub, Nat.reduceBEq, Nat.reduceLeDiff, Nat.reduceLT, fn_inbox_New, e10_1, w10_1, e10_3, w10_3, c10_4, e10_6, w10_6, e10_8, w10_8, c10_9, e10_11, w10_11, e10_13, w10_13, c10_14, c10_15, c10_16, c10_17, hmk, e, List.append_assoc]
  simp

/-- A source of the reference: when it was heard last, its last number. -/
structure RSrc where
  heard : Int
  last : Int
def RSrc.row (x : RSrc) : List V := [.int .i64 x.heard, .int .i64 x.last]
/-- The reference's inbox. -/
structure RBox where
  pat : Int
  srcs : List RSrc
  st : Cap
  kept : List Msg
  kt : Cap
def RBox.row (b : RBox) : List V := [.int .i64 b.pat, .slice (b.srcs.map RSrc.row) b.st, .slice (b.kept.map Msg.row) b.kt]
def rNew (s p : Int) : RBox := if newErr s p = 0 then ⟨p, List.replicate s.toNat ⟨-1, 0⟩, .unk, [], .nil⟩ else ⟨0, [], .nil, [], .nil⟩
theorem app_first (M : Mem) : appV false 2 16 (.slice [] .nil) (.slice [[.int .i64 (-1), .int .i64 0]] .full) M = some (.mslice M.length 0 0 1, M ++ [.arr 2 [[.int .i64 (-1), .int .i64 0]] 0 0]) := by
  simp [appV, rowsV, appendV, headLen]
theorem rep_snoc {α : Type} (n : Nat) (a : α) : List.replicate n a ++ [a] = List.replicate (n + 1) a := by rw [List.replicate_succ']

theorem transitref32_New_ok (s p : Int) : PCalls PR i_transitref32_New [.int .i64 s, .int .i64 p] (fun v => v = .tuple [.agg (rNew s p).row, .int .i64 (newErr s p)]) := by
  refine acalls_pop fn_transitref32_New_ok (by simp [fn_transitref32_New]) ?_
  have bad : ∀ {e}, newErr s p = e → e ≠ 0 → rNew s p = ⟨0, [], .nil, [], .nil⟩ := fun h1 h2 => by rw [rNew, if_neg (by rw [h1]; exact h2)]
  simp -implicitDefEqProofs (disch := omega) only [go_sem, Nat.reduceAdd, Nat.reduceMul, Nat.reduceSub, Nat.reduceBEq, Nat.reduceLeDiff, Nat.reduceLT, fn_transitref32_New, e11_1, w11_1, e11_3, w11_3, c11_4, e11_6, w11_6, e11_8, w11_8, c11_9, e11_11, w11_11, e11_13, w11_13, e11_15, w11_15, e11_17, w11_17, e11_19, w11_19, c11_20, e11_22, w11_22, c11_23, c11_24, c11_25, c11_26, c11_27, e11_29, w11_29, c11_30, c11_31, c11_32, c11_33, c11_34, c11_35]
  have bad1 : s < 1 ∨ 8 < s → newErr s p = 36 := fun h => by rw [newErr, if_pos h]
  refine ifD (fun h1 => ?_) (fun h1 => ?_)
  · have e := bad1 (.inl h1)
    simp -implicitDefEqProofs (disch := omega) only [go_sem, Nat.reduceAdd, Nat.reduceMul, Nat.reduceSub, Nat.reduceBEq, Nat.reduceLeDiff, Nat.reduceLT, fn_transitref32_New, e11_1, w11_1, e11_3, w11_3, c11_4, e11_6, w11_6, e11_8, w11_8, c11_9, e11_11, w11_11, e11_13, w11_13, e11_15, w11_15, e11_17, w11_17, e11_19, w11_19, c11_20, e11_22, w11_22, c11_23, c11_24, c11_25, c11_26, c11_27, e11_29, w11_29, c11_30, c11_31, c11_32, c11_33, c11_34, c11_35, e, bad e (by decide), RBox.row, List.map_nil]
  simp -implicitDefEqProofs (disch := omega) only [go_sem, Nat.reduceAdd, Nat.reduceMul, Nat.reduceSub, Nat.reduceBEq, Nat.reduceLeDiff, Nat.reduceLT, fn_transitref32_New, e11_1, w11_1, e11_3, w11_3, c11_4, e11_6, w11_6, e11_8, w11_8, c11_9, e11_11, w11_11, e11_13, w11_13, e11_15, w11_15, e11_17, w11_17, e11_19, w11_19, c11_20, e11_22, w11_22, c11_23, c11_24, c11_25, c11_26, c11_27, e11_29, w11_29, c11_30, c11_31, c11_32, c11_33, c11_34, c11_35]
  refine ifD (fun h2 => ?_) (fun h2 => ?_)
  · have e := bad1 (.inr h2)
    simp -implicitDefEqProofs (disch := omega) only [go_sem, Nat.reduceAdd, Nat.reduceMul, Nat.reduceSub, Nat.reduceBEq, Nat.reduceLeDiff, Nat.reduceLT, fn_transitref32_New, e11_1, w11_1, e11_3, w11_3, c11_4, e11_6, w11_6, e11_8, w11_8, c11_9, e11_11, w11_11, e11_13, w11_13, e11_15, w11_15, e11_17, w11_17, e11_19, w11_19, c11_20, e11_22, w11_22, c11_23, c11_24, c11_25, c11_26, c11_27, e11_29, w11_29, c11_30, c11_31, c11_32, c11_33, c11_34, c11_35, e, bad e (by decide), RBox.row, List.map_nil]
  have bad2 : p < 0 ∨ 86400 < p → newErr s p = 2 := fun h => by rw [newErr, if_neg (by omega), if_pos h]
  simp -implicitDefEqProofs (disch := omega) only [go_sem, Nat.reduceAdd, Nat.reduceMul, Nat.reduceSub, Nat.reduceBEq, Nat.reduceLeDiff, Nat.reduceLT, fn_transitref32_New, e11_1, w11_1, e11_3, w11_3, c11_4, e11_6, w11_6, e11_8, w11_8, c11_9, e11_11, w11_11, e11_13, w11_13, e11_15, w11_15, e11_17, w11_17, e11_19, w11_19, c11_20, e11_22, w11_22, c11_23, c11_24, c11_25, c11_26, c11_27, e11_29, w11_29, c11_30, c11_31, c11_32, c11_33, c11_34, c11_35]
  refine ifD (fun h3 => ?_) (fun h3 => ?_)
  · have e := bad2 (.inl h3)
    simp -implicitDefEqProofs (disch := omega) only [go_sem, Nat.reduceAdd, Nat.reduceMul, Nat.reduceSub, Nat.reduceBEq, Nat.reduceLeDiff, Nat.reduceLT, fn_transitref32_New, e11_1, w11_1, e11_3, w11_3, c11_4, e11_6, w11_6, e11_8, w11_8, c11_9, e11_11, w11_11, e11_13, w11_13, e11_15, w11_15, e11_17, w11_17, e11_19, w11_19, c11_20, e11_22, w11_22, c11_23, c11_24, c11_25, c11_26, c11_27, e11_29, w11_29, c11_30, c11_31, c11_32, c11_33, c11_34, c11_35, e, bad e (by decide), RBox.row, List.map_nil]
  simp -implicitDefEqProofs (disch := omega) only [go_sem, Nat.reduceAdd, Nat.reduceMul, Nat.reduceSub, Nat.reduceBEq, Nat.reduceLeDiff, Nat.reduceLT, fn_transitref32_New, e11_1, w11_1, e11_3, w11_3, c11_4, e11_6, w11_6, e11_8, w11_8, c11_9, e11_11, w11_11, e11_13, w11_13, e11_15, w11_15, e11_17, w11_17, e11_19, w11_19, c11_20, e11_22, w11_22, c11_23, c11_24, c11_25, c11_26, c11_27, e11_29, w11_29, c11_30, c11_31, c11_32, c11_33, c11_34, c11_35]
  refine ifD (fun h4 => ?_) (fun h4 => ?_)
  · have e := bad2 (.inr h4)
    simp -implicitDefEqProofs (disch := omega) only [go_sem, Nat.reduceAdd, Nat.reduceMul, Nat.reduceSub, Nat.reduceBEq, Nat.reduceLeDiff, Nat.reduceLT, fn_transitref32_New, e11_1, w11_1, e11_3, w11_3, c11_4, e11_6, w11_6, e11_8, w11_8, c11_9, e11_11, w11_11, e11_13, w11_13, e11_15, w11_15, e11_17, w11_17, e11_19, w11_19, c11_20, e11_22, w11_22, c11_23, c11_24, c11_25, c11_26, c11_27, e11_29, w11_29, c11_30, c11_31, c11_32, c11_33, c11_34, c11_35, e, bad e (by decide), RBox.row, List.map_nil]
  have e : newErr s p = 0 := by rw [newErr, if_neg (by omega), if_neg (by omega)]
  obtain ⟨n, rfl⟩ : ∃ n : Nat, s = n := ⟨s.toNat, by omega⟩
  have hn : n ≤ 8 ∧ 1 ≤ n := by omega
  have e2 : rNew n p = ⟨p, List.replicate n ⟨-1, 0⟩, .unk, [], .nil⟩ := by rw [rNew, if_pos e]; simp
  simp -implicitDefEqProofs (disch := omega) only [go_sem, Nat.reduceAdd, Nat.reduceMul, Nat.reduceSub, Nat.reduceBEq, Nat.reduceLeDiff, Nat.reduceLT, fn_transitref32_New, e11_1, w11_1, e11_3, w11_3, c11_4, e11_6, w11_6, e11_8, w11_8, c11_9, e11_11, w11_11, e11_13, w11_13, e11_15, w11_15, e11_17, w11_17, e11_19, w11_19, c11_20, e11_22, w11_22, c11_23, c11_24, c11_25, c11_26, c11_27, e11_29, w11_29, c11_30, c11_31, c11_32, c11_33, c11_34, c11_35, e, e2, RBox.row, List.map_nil, List.map_replicate, RSrc.row]
  refine wpC_for n (fun i vs M => vs = [.int .i64 n, .ptr 0 0, .ptr 1 0, .int .i64 i] ∧ ((i = 0 ∧ M = [.box [.int .i64 0, .slice [] .nil, .slice [] .nil], .box [.int .i64 p, .slice [] .nil, .slice [] .nil]]) ∨
    (0 < i ∧ ∃ ver, M = [.box [.int .i64 0, .slice [] .nil, .slice [] .nil], .box [.int .i64 p, .mslice 2 ver 0 i, .slice [] .nil], .arr 2 (List.replicate i [.int .i64 (-1), .int .i64 0]) ver 0]))) ⟨rfl, .inl ⟨rfl, rfl⟩⟩ ?_ ?_
  · rintro i vs M hi hd ⟨rfl, ⟨rfl, rfl⟩ | ⟨h0, ver, rfl⟩⟩
    · simp -implicitDefEqProofs (disch := omega) only [go_sem, Nat.reduceAdd, Nat.reduceMul, Nat.reduceSub, Nat.reduceBEq, Nat.reduceLeDiff, Nat.reduceLT, fn_transitref32_New, e11_1, w11_1, e11_3, w11_3, c11_4, e11_6, w11_6, e11_8, w11_8, c11_9, e11_11, w11_11, e11_13, w11_13, e11_15, w11_15, e11_17, w11_17, e11_19, w11_19, c11_20, e11_22, w11_22, c11_23, c11_24, c11_25, c11_26, c11_27, e11_29, w11_29, c11_30, c11_31, c11_32, c11_33, c11_34, c11_35, hd, app_first]
      refine next_stay hi ⟨rfl, .inr ⟨by omega, 0, rfl⟩⟩
    · simp -implicitDefEqProofs (disch := omega) only [go_sem, Nat.reduceAdd, Nat.reduceMul, Nat.reduceSub, Nat.reduceBEq, Nat.reduceLeDiff, Nat.reduceLT, fn_transitref32_New, e11_1, w11_1, e11_3, w11_3, c11_4, e11_6, w11_6, e11_8, w11_8, c11_9, e11_11, w11_11, e11_13, w11_13, e11_15, w11_15, e11_17, w11_17, e11_19, w11_19, c11_20, e11_22, w11_22, c11_23, c11_24, c11_25, c11_26, c11_27, e11_29, w11_29, c11_30, c11_31, c11_32, c11_33, c11_34, c11_35, hd, List.length_replicate, rep_snoc]
      exact next_stay hi ⟨rfl, .inr ⟨by omega, ver + 1, rfl⟩⟩
  · rintro vs M ⟨rfl, ⟨h0, rfl⟩ | ⟨h0, ver, rfl⟩⟩
    · omega
    · simp -implicitDefEqProofs (disch := omega) only [go_sem, Nat.reduceAdd, Nat.reduceMul, Nat.reduceSub, Nat.reduceBEq, Nat.reduceLeDiff, Nat.reduceLT, fn_transitref32_New, e11_1, w11_1, e11_3, w11_3, c11_4, e11_6, w11_6, e11_8, w11_8, c11_9, e11_11, w11_11, e11_13, w11_13, e11_15, w11_15, e11_17, w11_17, e11_19, w11_19, c11_20, e11_22, w11_22, c11_23, c11_24, c11_25, c11_26, c11_27, e11_29, w11_29, c11_30, c11_31, c11_32, c11_33, c11_34, c11_35, dec_irrefl, List.length_replicate, List.take_of_length_le (Nat.le_of_eq (List.length_replicate (n := n) (a := [V.int .i64 (-1), .int .i64 0])))]

end Go.Vm.C

