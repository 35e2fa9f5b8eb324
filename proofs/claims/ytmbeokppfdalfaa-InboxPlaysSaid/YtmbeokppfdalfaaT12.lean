/- Contracts: the reference hears a source and receives; what is active for it. -/
import Derived.Test.YtmbeokppfdalfaaT11

namespace Go.Vm.C
open Go.Vm
set_option maxHeartbeats 1000000
set_option maxRecDepth 10000
set_option linter.unusedSimpArgs false
set_option linter.unusedVariables false

/-! ### The reference hears a source -/
def hearAt (i now last : Int) (k : Nat) (x : RSrc) : RSrc := if (k : Int) = i then ⟨max x.heard now, if last ≠ 0 then last else x.last⟩ else x
def hearR (l : List RSrc) (i now last : Int) : List RSrc := l.mapIdx (hearAt i now last)
theorem hearR_snoc {l : List RSrc} {k : Nat} {x : RSrc} (h : l[k]? = some x) (i now last : Int) : hearR (l.take (k + 1)) i now last = hearR (l.take k) i now last ++ [hearAt i now last k x] := by
  have hlt := (List.getElem?_eq_some_iff.1 h).1
  rw [List.take_add_one, h]
  unfold hearR
  rw [Option.toList_some, List.mapIdx_append]
  simp [Nat.min_eq_left (Nat.le_of_lt hlt)]
theorem hearR_len (l : List RSrc) (i now last : Int) : (hearR l i now last).length = l.length := by simp [hearR]
theorem ref_heard_ok (l : List RSrc) (c : Cap) (hl : l.length ≤ 8) (i now last : Int) : PCalls PR i_transitref32_heard [.slice (l.map RSrc.row) c, .int .i64 i, .int .i64 now, .int .i64 last] (fun v => v = .slice ((hearR l i now last).map RSrc.row) .unk) := by
  refine acalls_pop fn_transitref32_heard_ok (by simp [fn_transitref32_heard]) ?_
  simp -implicitDefEqProofs (disch := omega) only [go_sem, Nat.reduceAdd, Nat.reduceMul, Nat.reduceSub, Nat.reduceBEq, Nat.reduceLeDiff, Nat.reduceLT, fn_transitref32_heard, e48_1, w48_1, e48_3, w48_3, e48_5, w48_5, e48_7, w48_7, e48_9, w48_9, e48_11, w48_11, e48_13, w48_13, e48_15, w48_15, c48_16, e48_18, w48_18, e48_20, w48_20, c48_21, c48_22, c48_23, e48_25, w48_25, c48_26, c48_27, c48_28, c48_29, c48_30, e48_32, w48_32, c48_33, c48_34, c48_35, c48_36]
  refine wpC_for l.length (fun k vs M => ∃ ver, vs = [.slice (l.map RSrc.row) c, .int .i64 i, .int .i64 now, .int .i64 last, .mslice 0 ver 0 k, .int .i64 k] ∧ M = [.arr 2 ((hearR (l.take k) i now last).map RSrc.row) ver 0]) ⟨0, rfl, rfl⟩ ?_ ?_
  · rintro k vs M hk hd ⟨ver, rfl, rfl⟩
    obtain ⟨x, hx⟩ : ∃ x, l[k]? = some x := ⟨l[k], by simp⟩
    have hlen : (hearR (l.take k) i now last).length = k := by rw [hearR_len]; simp; omega
    have esn : ∀ y, hearAt i now last k x = y → (hearR (l.take k) i now last).map RSrc.row ++ [[.int .i64 y.heard, .int .i64 y.last]] = (hearR (l.take (k + 1)) i now last).map RSrc.row := fun y hy => by
      rw [hearR_snoc hx, hy]; simp [RSrc.row]
    simp -implicitDefEqProofs (disch := omega) only [go_sem, Nat.reduceAdd, Nat.reduceMul, Nat.reduceSub, Nat.reduceBEq, Nat.reduceLeDiff, Nat.reduceLT, fn_transitref32_heard, e48_1, w48_1, e48_3, w48_3, e48_5, w48_5, e48_7, w48_7, e48_9, w48_9, e48_11, w48_11, e48_13, w48_13, e48_15, w48_15, c48_16, e48_18, w48_18, e48_20, w48_20, c48_21, c48_22, c48_23, e48_25, w48_25, c48_26, c48_27, c48_28, c48_29, c48_30, e48_32, w48_32, c48_33, c48_34, c48_35, c48_36, List.length_map, hd, rsrc_at hx]
    refine ifD (fun h => ?_) (fun h => ?_)
    · simp -implicitDefEqProofs (disch := omega) only [go_sem, Nat.reduceAdd, Nat.reduceMul, Nat.reduceSub, Nat.reduceBEq, Nat.reduceLeDiff, Nat.reduceLT, fn_transitref32_heard, e48_1, w48_1, e48_3, w48_3, e48_5, w48_5, e48_7, w48_7, e48_9, w48_9, e48_11, w48_11, e48_13, w48_13, e48_15, w48_15, c48_16, e48_18, w48_18, e48_20, w48_20, c48_21, c48_22, c48_23, e48_25, w48_25, c48_26, c48_27, c48_28, c48_29, c48_30, e48_32, w48_32, c48_33, c48_34, c48_35, c48_36]
      refine ifD (fun h2 => ?_) (fun h2 => ?_)
      · have e := esn ⟨max x.heard now, x.last⟩ (by rw [hearAt, if_pos h, if_neg (by omega)])
        dsimp only at e
        simp -implicitDefEqProofs (disch := omega) only [go_sem, Nat.reduceAdd, Nat.reduceMul, Nat.reduceSub, Nat.reduceBEq, Nat.reduceLeDiff, Nat.reduceLT, fn_transitref32_heard, e48_1, w48_1, e48_3, w48_3, e48_5, w48_5, e48_7, w48_7, e48_9, w48_9, e48_11, w48_11, e48_13, w48_13, e48_15, w48_15, c48_16, e48_18, w48_18, e48_20, w48_20, c48_21, c48_22, c48_23, e48_25, w48_25, c48_26, c48_27, c48_28, c48_29, c48_30, e48_32, w48_32, c48_33, c48_34, c48_35, c48_36, List.length_map, hlen, e]
        exact next_pop hk (by first | rfl | simp [popOK, vals, sget, underL, V.under, memUnder, Blk.under]) ⟨ver + 1, rfl, rfl⟩
      · have e := esn ⟨max x.heard now, last⟩ (by rw [hearAt, if_pos h, if_pos h2])
        dsimp only at e
        simp -implicitDefEqProofs (disch := omega) only [go_sem, Nat.reduceAdd, Nat.reduceMul, Nat.reduceSub, Nat.reduceBEq, Nat.reduceLeDiff, Nat.reduceLT, fn_transitref32_heard, e48_1, w48_1, e48_3, w48_3, e48_5, w48_5, e48_7, w48_7, e48_9, w48_9, e48_11, w48_11, e48_13, w48_13, e48_15, w48_15, c48_16, e48_18, w48_18, e48_20, w48_20, c48_21, c48_22, c48_23, e48_25, w48_25, c48_26, c48_27, c48_28, c48_29, c48_30, e48_32, w48_32, c48_33, c48_34, c48_35, c48_36, List.length_map, hlen, e]
        exact next_pop hk (by first | rfl | simp [popOK, vals, sget, underL, V.under, memUnder, Blk.under]) ⟨ver + 1, rfl, rfl⟩
    · have e := esn x (by rw [hearAt, if_neg h])
      simp -implicitDefEqProofs (disch := omega) only [go_sem, Nat.reduceAdd, Nat.reduceMul, Nat.reduceSub, Nat.reduceBEq, Nat.reduceLeDiff, Nat.reduceLT, fn_transitref32_heard, e48_1, w48_1, e48_3, w48_3, e48_5, w48_5, e48_7, w48_7, e48_9, w48_9, e48_11, w48_11, e48_13, w48_13, e48_15, w48_15, c48_16, e48_18, w48_18, e48_20, w48_20, c48_21, c48_22, c48_23, e48_25, w48_25, c48_26, c48_27, c48_28, c48_29, c48_30, e48_32, w48_32, c48_33, c48_34, c48_35, c48_36, List.length_map, hlen, e]
      exact next_pop hk (by first | rfl | simp [popOK, vals, sget, underL, V.under, memUnder, Blk.under]) ⟨ver + 1, rfl, rfl⟩
  · rintro vs M ⟨ver, rfl, rfl⟩
    rw [List.take_length]
    simp -implicitDefEqProofs (disch := omega) only [go_sem, Nat.reduceAdd, Nat.reduceMul, Nat.reduceSub, Nat.reduceBEq, Nat.reduceLeDiff, Nat.reduceLT, fn_transitref32_heard, e48_1, w48_1, e48_3, w48_3, e48_5, w48_5, e48_7, w48_7, e48_9, w48_9, e48_11, w48_11, e48_13, w48_13, e48_15, w48_15, c48_16, e48_18, w48_18, e48_20, w48_20, c48_21, c48_22, c48_23, e48_25, w48_25, c48_26, c48_27, c48_28, c48_29, c48_30, e48_32, w48_32, c48_33, c48_34, c48_35, c48_36, List.length_map, dec_irrefl, hearR_len, show decide (l.length ≤ l.length) = true from decide_eq_true (Nat.le_refl _), List.take_of_length_le (Nat.le_of_eq (by rw [List.length_map, hearR_len] : ((hearR l i now last).map RSrc.row).length = l.length))]
def rBeatE (r : RBox) (i now : Int) : Int := if i < 0 ∨ (r.srcs.length : Int) ≤ i then 36 else if momentB now then 0 else 10
def rBeatI (r : RBox) (i now : Int) : RBox := if rBeatE r i now = 0 then ⟨r.pat, hearR r.srcs i now 0, .unk, r.kept, r.kt⟩ else r
theorem ref_Heartbeat_ok (r : RBox) (hok : r.Ok) (i now : Int) : PCalls PR i_transitref32_Heartbeat [.agg r.row, .int .i64 i, .int .i64 now] (fun v => v = .tuple [.agg (rBeatI r i now).row, .int .i64 (rBeatE r i now)]) := by
  have hmo := ref_moment_ok now
  have hh := ref_heard_ok r.srcs r.st hok.n8 i now 0
  refine acalls_pop fn_transitref32_Heartbeat_ok (by simp [fn_transitref32_Heartbeat]) ?_
  simp -implicitDefEqProofs (disch := omega) only [go_sem, Nat.reduceAdd, Nat.reduceMul, Nat.reduceSub, Nat.reduceBEq, Nat.reduceLeDiff, Nat.reduceLT, fn_transitref32_Heartbeat, e26_1, w26_1, e26_3, w26_3, c26_4, e26_6, w26_6, e26_8, w26_8, c26_9, e26_11, w26_11, e26_13, w26_13, c26_14, c26_15, c26_16, c26_17, RBox.row]
  refine ifD (fun h => ?_) (fun h => ?_)
  · have e : rBeatE r i now = 36 := by rw [rBeatE, if_pos (.inl h)]
    have e2 : rBeatI r i now = r := by rw [rBeatI, if_neg (by rw [e]; decide)]
    simp -implicitDefEqProofs (disch := omega) only [go_sem, Nat.reduceAdd, Nat.reduceMul, Nat.reduceSub, Nat.reduceBEq, Nat.reduceLeDiff, Nat.reduceLT, fn_transitref32_Heartbeat, e26_1, w26_1, e26_3, w26_3, c26_4, e26_6, w26_6, e26_8, w26_8, c26_9, e26_11, w26_11, e26_13, w26_13, c26_14, c26_15, c26_16, c26_17, e, e2, RBox.row]
  simp -implicitDefEqProofs (disch := omega) only [go_sem, Nat.reduceAdd, Nat.reduceMul, Nat.reduceSub, Nat.reduceBEq, Nat.reduceLeDiff, Nat.reduceLT, fn_transitref32_Heartbeat, e26_1, w26_1, e26_3, w26_3, c26_4, e26_6, w26_6, e26_8, w26_8, c26_9, e26_11, w26_11, e26_13, w26_13, c26_14, c26_15, c26_16, c26_17, List.length_map]
  refine ifD (fun h2 => ?_) (fun h2 => ?_)
  · have e : rBeatE r i now = 36 := by rw [rBeatE, if_pos (.inr h2)]
    have e2 : rBeatI r i now = r := by rw [rBeatI, if_neg (by rw [e]; decide)]
    simp -implicitDefEqProofs (disch := omega) only [go_sem, Nat.reduceAdd, Nat.reduceMul, Nat.reduceSub, Nat.reduceBEq, Nat.reduceLeDiff, Nat.reduceLT, fn_transitref32_Heartbeat, e26_1, w26_1, e26_3, w26_3, c26_4, e26_6, w26_6, e26_8, w26_8, c26_9, e26_11, w26_11, e26_13, w26_13, c26_14, c26_15, c26_16, c26_17, e, e2, RBox.row]
  simp -implicitDefEqProofs (disch := omega) only [go_sem, Nat.reduceAdd, Nat.reduceMul, Nat.reduceSub, Nat.reduceBEq, Nat.reduceLeDiff, Nat.reduceLT, fn_transitref32_Heartbeat, e26_1, w26_1, e26_3, w26_3, c26_4, e26_6, w26_6, e26_8, w26_8, c26_9, e26_11, w26_11, e26_13, w26_13, c26_14, c26_15, c26_16, c26_17]
  first | refine callD (hmo) ?_ | refine callQD (hmo) ?_
  simp -implicitDefEqProofs (disch := omega) only [go_sem, Nat.reduceAdd, Nat.reduceMul, Nat.reduceSub, Nat.reduceBEq, Nat.reduceLeDiff, Nat.reduceLT, fn_transitref32_Heartbeat, e26_1, w26_1, e26_3, w26_3, c26_4, e26_6, w26_6, e26_8, w26_8, c26_9, e26_11, w26_11, e26_13, w26_13, c26_14, c26_15, c26_16, c26_17]
  refine ifD (fun h3 => ?_) (fun h3 => ?_)
  rotate_left
  · have e : rBeatE r i now = 10 := by rw [rBeatE, if_neg (by omega), if_neg h3]
    have e2 : rBeatI r i now = r := by rw [rBeatI, if_neg (by rw [e]; decide)]
    simp -implicitDefEqProofs (disch := omega) only [go_sem, Nat.reduceAdd, Nat.reduceMul, Nat.reduceSub, Nat.reduceBEq, Nat.reduceLeDiff, Nat.reduceLT, fn_transitref32_Heartbeat, e26_1, w26_1, e26_3, w26_3, c26_4, e26_6, w26_6, e26_8, w26_8, c26_9, e26_11, w26_11, e26_13, w26_13, c26_14, c26_15, c26_16, c26_17, e, e2, RBox.row]
  have e : rBeatE r i now = 0 := by rw [rBeatE, if_neg (by omega), if_pos h3]
  have e2 : rBeatI r i now = ⟨r.pat, hearR r.srcs i now 0, .unk, r.kept, r.kt⟩ := by rw [rBeatI, if_pos e]
  simp -implicitDefEqProofs (disch := omega) only [go_sem, Nat.reduceAdd, Nat.reduceMul, Nat.reduceSub, Nat.reduceBEq, Nat.reduceLeDiff, Nat.reduceLT, fn_transitref32_Heartbeat, e26_1, w26_1, e26_3, w26_3, c26_4, e26_6, w26_6, e26_8, w26_8, c26_9, e26_11, w26_11, e26_13, w26_13, c26_14, c26_15, c26_16, c26_17]
  refine callQD hh ?_
  simp -implicitDefEqProofs (disch := omega) only [go_sem, Nat.reduceAdd, Nat.reduceMul, Nat.reduceSub, Nat.reduceBEq, Nat.reduceLeDiff, Nat.reduceLT, fn_transitref32_Heartbeat, e26_1, w26_1, e26_3, w26_3, c26_4, e26_6, w26_6, e26_8, w26_8, c26_9, e26_11, w26_11, e26_13, w26_13, c26_14, c26_15, c26_16, c26_17, e, e2, RBox.row]

/-! ### What is active for the reference -/
def rOver (r : RBox) (l : List Msg) (now : Int) (m : Msg) : Bool := l.any fun o => decide (o.src < m.src) && (sameT o m && rCur r o now)
def rAct (r : RBox) (now : Int) (m : Msg) : Bool := !rOver r r.kept now m && rCur r m now
theorem rOver_snoc {r : RBox} {l : List Msg} {k : Nat} {o : Msg} (h : l[k]? = some o) (now : Int) (m : Msg) : rOver r (l.take (k + 1)) now m = (rOver r (l.take k) now m || (decide (o.src < m.src) && (sameT o m && rCur r o now))) := by
  rw [rOver, List.take_add_one, h, List.any_append]
  simp [rOver]
theorem rOver_yes {r : RBox} {l : List Msg} {k : Nat} {o : Msg} (h : l[k]? = some o) {now : Int} {m : Msg} (h1 : o.src < m.src) (h2 : sameT o m = true) (h3 : rCur r o now = true) : rOver r l now m = true := by
  rw [rOver, List.any_eq_true]
  exact ⟨o, List.mem_of_getElem? h, by simp [h1, h2, h3]⟩
theorem ref_active_ok (r : RBox) (hok : r.Ok) {i : Nat} {m : Msg} (hm : r.kept[i]? = some m) (now : Int) (hn : I64 now) : PCalls PR i_transitref32_active [.agg r.row, .int .i64 (i : Int), .int .i64 now] (fun v => v = .bool (rAct r now m)) := by
  have hcm := ref_Current_ok r hok m now hn
  simp only [RBox.row, Msg.row] at hcm
  have hma := msg_at hm
  refine acalls_pop fn_transitref32_active_ok (by simp [fn_transitref32_active]) ?_
  simp -implicitDefEqProofs (disch := omega) only [go_sem, Nat.reduceAdd, Nat.reduceMul, Nat.reduceSub, Nat.reduceBEq, Nat.reduceLeDiff, Nat.reduceLT, fn_transitref32_active, e58_1, w58_1, e58_3, w58_3, e58_5, w58_5, e58_7, w58_7, e58_9, w58_9, e58_11, w58_11, c58_12, e58_14, w58_14, c58_15, c58_16, e58_18, w58_18, c58_19, c58_20, c58_21, c58_22, c58_23, e58_25, w58_25, c58_26, c58_27, c58_28, c58_29, RBox.row, hma]
  have hk2 : r.kept.length ≤ 256 := hok.kept
  refine wpC_for r.kept.length (fun k vs M => vs = [.int .i64 now, .ptr 0 0, .ptr 1 0, .int .i64 k] ∧ M = [.box r.row, .box m.row] ∧ rOver r (r.kept.take k) now m = false) ⟨rfl, rfl, by simp [rOver]⟩ ?_ ?_
  · rintro k vs M hk hd ⟨rfl, rfl, hov⟩
    obtain ⟨o, ho⟩ : ∃ o, r.kept[k]? = some o := ⟨r.kept[k], by simp⟩
    have hoa := msg_at ho
    have hst := transitref31_SameTarget_ok o m
    have hco := ref_Current_ok r hok o now hn
    simp only [RBox.row, Msg.row] at hst hco
    have nxt := rOver_snoc (r := r) ho now m
    rw [hov, Bool.false_or] at nxt
    simp -implicitDefEqProofs (disch := omega) only [go_sem, Nat.reduceAdd, Nat.reduceMul, Nat.reduceSub, Nat.reduceBEq, Nat.reduceLeDiff, Nat.reduceLT, fn_transitref32_active, e58_1, w58_1, e58_3, w58_3, e58_5, w58_5, e58_7, w58_7, e58_9, w58_9, e58_11, w58_11, c58_12, e58_14, w58_14, c58_15, c58_16, e58_18, w58_18, c58_19, c58_20, c58_21, c58_22, c58_23, e58_25, w58_25, c58_26, c58_27, c58_28, c58_29, RBox.row, Msg.row, List.length_map, hd, hoa]
    refine ifD (fun h1 => ?_) (fun h1 => ?_)
    rotate_left
    · simp -implicitDefEqProofs (disch := omega) only [go_sem, Nat.reduceAdd, Nat.reduceMul, Nat.reduceSub, Nat.reduceBEq, Nat.reduceLeDiff, Nat.reduceLT, fn_transitref32_active, e58_1, w58_1, e58_3, w58_3, e58_5, w58_5, e58_7, w58_7, e58_9, w58_9, e58_11, w58_11, c58_12, e58_14, w58_14, c58_15, c58_16, e58_18, w58_18, c58_19, c58_20, c58_21, c58_22, c58_23, e58_25, w58_25, c58_26, c58_27, c58_28, c58_29]
      exact next_pop hk (by rfl) ⟨rfl, rfl, by rw [nxt]; simp [h1]⟩
    simp -implicitDefEqProofs (disch := omega) only [go_sem, Nat.reduceAdd, Nat.reduceMul, Nat.reduceSub, Nat.reduceBEq, Nat.reduceLeDiff, Nat.reduceLT, fn_transitref32_active, e58_1, w58_1, e58_3, w58_3, e58_5, w58_5, e58_7, w58_7, e58_9, w58_9, e58_11, w58_11, c58_12, e58_14, w58_14, c58_15, c58_16, e58_18, w58_18, c58_19, c58_20, c58_21, c58_22, c58_23, e58_25, w58_25, c58_26, c58_27, c58_28, c58_29]
    first | refine callD (hst) ?_ | refine callQD (hst) ?_
    simp -implicitDefEqProofs (disch := omega) only [go_sem, Nat.reduceAdd, Nat.reduceMul, Nat.reduceSub, Nat.reduceBEq, Nat.reduceLeDiff, Nat.reduceLT, fn_transitref32_active, e58_1, w58_1, e58_3, w58_3, e58_5, w58_5, e58_7, w58_7, e58_9, w58_9, e58_11, w58_11, c58_12, e58_14, w58_14, c58_15, c58_16, e58_18, w58_18, c58_19, c58_20, c58_21, c58_22, c58_23, e58_25, w58_25, c58_26, c58_27, c58_28, c58_29]
    refine ifB (fun h2 => ?_) (fun h2 => ?_)
    rotate_left
    · simp -implicitDefEqProofs (disch := omega) only [go_sem, Nat.reduceAdd, Nat.reduceMul, Nat.reduceSub, Nat.reduceBEq, Nat.reduceLeDiff, Nat.reduceLT, fn_transitref32_active, e58_1, w58_1, e58_3, w58_3, e58_5, w58_5, e58_7, w58_7, e58_9, w58_9, e58_11, w58_11, c58_12, e58_14, w58_14, c58_15, c58_16, e58_18, w58_18, c58_19, c58_20, c58_21, c58_22, c58_23, e58_25, w58_25, c58_26, c58_27, c58_28, c58_29]
      exact next_pop hk (by rfl) ⟨rfl, rfl, by rw [nxt]; simp [h2]⟩
    simp -implicitDefEqProofs (disch := omega) only [go_sem, Nat.reduceAdd, Nat.reduceMul, Nat.reduceSub, Nat.reduceBEq, Nat.reduceLeDiff, Nat.reduceLT, fn_transitref32_active, e58_1, w58_1, e58_3, w58_3, e58_5, w58_5, e58_7, w58_7, e58_9, w58_9, e58_11, w58_11, c58_12, e58_14, w58_14, c58_15, c58_16, e58_18, w58_18, c58_19, c58_20, c58_21, c58_22, c58_23, e58_25, w58_25, c58_26, c58_27, c58_28, c58_29]
    first | refine callD (hco) ?_ | refine callQD (hco) ?_
    simp -implicitDefEqProofs (disch := omega) only [go_sem, Nat.reduceAdd, Nat.reduceMul, Nat.reduceSub, Nat.reduceBEq, Nat.reduceLeDiff, Nat.reduceLT, fn_transitref32_active, e58_1, w58_1, e58_3, w58_3, e58_5, w58_5, e58_7, w58_7, e58_9, w58_9, e58_11, w58_11, c58_12, e58_14, w58_14, c58_15, c58_16, e58_18, w58_18, c58_19, c58_20, c58_21, c58_22, c58_23, e58_25, w58_25, c58_26, c58_27, c58_28, c58_29]
    refine ifB (fun h3 => ?_) (fun h3 => ?_)
    · simp -implicitDefEqProofs (disch := omega) only [go_sem, Nat.reduceAdd, Nat.reduceMul, Nat.reduceSub, Nat.reduceBEq, Nat.reduceLeDiff, Nat.reduceLT, fn_transitref32_active, e58_1, w58_1, e58_3, w58_3, e58_5, w58_5, e58_7, w58_7, e58_9, w58_9, e58_11, w58_11, c58_12, e58_14, w58_14, c58_15, c58_16, e58_18, w58_18, c58_19, c58_20, c58_21, c58_22, c58_23, e58_25, w58_25, c58_26, c58_27, c58_28, c58_29]
      simp [rAct, rOver_yes ho h1 h2 h3]
    · simp -implicitDefEqProofs (disch := omega) only [go_sem, Nat.reduceAdd, Nat.reduceMul, Nat.reduceSub, Nat.reduceBEq, Nat.reduceLeDiff, Nat.reduceLT, fn_transitref32_active, e58_1, w58_1, e58_3, w58_3, e58_5, w58_5, e58_7, w58_7, e58_9, w58_9, e58_11, w58_11, c58_12, e58_14, w58_14, c58_15, c58_16, e58_18, w58_18, c58_19, c58_20, c58_21, c58_22, c58_23, e58_25, w58_25, c58_26, c58_27, c58_28, c58_29]
      exact next_pop hk (by rfl) ⟨rfl, rfl, by rw [nxt]; simp [h3]⟩
  · rintro vs M ⟨rfl, rfl, hov⟩
    rw [List.take_length] at hov
    simp -implicitDefEqProofs (disch := omega) only [go_sem, Nat.reduceAdd, Nat.reduceMul, Nat.reduceSub, Nat.reduceBEq, Nat.reduceLeDiff, Nat.reduceLT, fn_transitref32_active, e58_1, w58_1, e58_3, w58_3, e58_5, w58_5, e58_7, w58_7, e58_9, w58_9, e58_11, w58_11, c58_12, e58_14, w58_14, c58_15, c58_16, e58_18, w58_18, c58_19, c58_20, c58_21, c58_22, c58_23, e58_25, w58_25, c58_26, c58_27, c58_28, c58_29, RBox.row, Msg.row, List.length_map, dec_irrefl]
    first | refine callD (hcm) ?_ | refine callQD (hcm) ?_
    simp -implicitDefEqProofs (disch := omega) only [go_sem, Nat.reduceAdd, Nat.reduceMul, Nat.reduceSub, Nat.reduceBEq, Nat.reduceLeDiff, Nat.reduceLT, fn_transitref32_active, e58_1, w58_1, e58_3, w58_3, e58_5, w58_5, e58_7, w58_7, e58_9, w58_9, e58_11, w58_11, c58_12, e58_14, w58_14, c58_15, c58_16, e58_18, w58_18, c58_19, c58_20, c58_21, c58_22, c58_23, e58_25, w58_25, c58_26, c58_27, c58_28, c58_29]
    simp [rAct, hov]

/-! ### Both inboxes hear -/
theorem refS_hear {s : Src} {now : Int} (hs : 0 ≤ s.last ∧ s.last ≤ 3155932800) (hn : momentB now) : refS (hearS s now) = ⟨max (refS s).heard now, (refS s).last⟩ := by
  obtain ⟨n1, n2⟩ := hn
  unfold hearS
  cases he : s.ever with
  | false =>
    rw [if_pos (.inl rfl)]
    simp only [refS, he, if_true, Bool.false_eq_true, if_false]
    rw [show max (-1 : Int) now = now from by omega]
  | true =>
    by_cases hl : s.last < now
    · rw [if_pos (.inr hl)]
      simp only [refS, he, if_true]
      rw [show max s.last now = now from by omega]
    · rw [if_neg (by simp [hl])]
      simp only [refS, he, if_true]
      rw [show max s.last now = s.last from by omega]
theorem hearR_set {l : List Src} {k : Nat} {s : Src} (h : l[k]? = some s) {now last : Int} (t : Src) (ht : refS t = hearAt k now last k (refS s)) : hearR (l.map refS) k now last = (l.set k t).map refS := by
  refine List.ext_getElem? fun j => ?_
  have hlt := (List.getElem?_eq_some_iff.1 h).1
  rw [hearR, List.getElem?_mapIdx, List.getElem?_map, List.getElem?_map]
  by_cases e : k = j
  · subst e
    rw [List.getElem?_set_self hlt, h]
    simp [ht]
  · rw [List.getElem?_set_ne e]
    cases hj : l[j]? with
    | none => rfl
    | some x =>
      have : ¬ (j : Int) = k := by omega
      simp [hearAt, this]
theorem Rel.beat {b : Ibx} {r : RBox} (h : Rel b r) (hok : b.Ok) (i now : Int) : beatE b i now = rBeatE r i now ∧ Rel (beatI b i now) (rBeatI r i now) := by
  have hlen : r.srcs.length = b.srcs.length := by rw [h.srcs, List.length_map]
  have he : beatE b i now = rBeatE r i now := by
    unfold beatE rBeatE
    rw [hlen]
    by_cases g : 0 ≤ i ∧ i < b.srcs.length
    · rw [if_neg (show ¬ isSrc b i = false from by simp [isSrc, g]), if_neg (show ¬ (i < 0 ∨ (b.srcs.length : Int) ≤ i) from by omega)]
    · rw [if_pos (show isSrc b i = false from by rw [isSrc, decide_eq_false g]), if_pos (show i < 0 ∨ (b.srcs.length : Int) ≤ i from by omega)]
  refine ⟨he, ?_⟩
  rcases beat_cases b i now with ⟨g1, g2⟩ | ⟨g1, g2, k, s, rfl, hk, hs, g3⟩
  · rw [g2, rBeatI, if_neg (by rw [← he]; exact g1)]
    exact h
  · rw [g3, rBeatI, if_pos (by rw [← he]; exact g1)]
    refine ⟨h.pat, ?_, h.kept, fun x hx hr => ?_⟩
    · show hearR r.srcs k now 0 = _
      rw [h.srcs]
      refine hearR_set hs _ ?_
      rw [refS_hear (hok.last s (List.mem_of_getElem? hs)) g2, hearAt, if_pos rfl, if_neg (by simp)]
    · rcases set_mem hx with rfl | hx
      · have := hear_recv s now
        rw [this.1] at hr
        rw [this.2]
        exact h.pos s (List.mem_of_getElem? hs) hr
      · exact h.pos x hx hr

/-! ### What is active for both -/
theorem any_own (f : Msg → Bool) (hf : ∀ m, f m.own = f m) (l : List Msg) : (l.map Msg.own).any f = l.any f := by
  rw [List.any_map, show f ∘ Msg.own = f from funext hf]
theorem Rel.over {b : Ibx} {r : RBox} (h : Rel b r) (hok : b.Ok) (now : Int) (m : Msg) : overB (keepM (curB b now) b.kept) m = rOver r r.kept now m := by
  rw [rOver, ← any_own (fun o => decide (o.src < m.src) && (sameT o m && rCur r o now)) (fun _ => rfl) r.kept, h.kept, any_own _ (fun _ => rfl)]
  rw [overB, keepM, any_own _ (fun _ => rfl), List.any_filter]
  congr 1
  funext o
  rw [h.cur hok o now]
  cases rCur r o now <;> simp
theorem Rel.ok {b : Ibx} {r : RBox} (h : Rel b r) (hok : b.Ok) : r.Ok := by
  have hlen : r.srcs.length = b.srcs.length := by rw [h.srcs, List.length_map]
  have hk : r.kept.length = b.kept.length := by have := congrArg List.length h.kept; simpa using this
  refine ⟨by rw [hlen]; exact hok.n1, by rw [hlen]; exact hok.n8, by rw [h.pat]; exact hok.pat, fun x hx => ?_, by rw [hk]; exact hok.kept, fun m hm => ?_⟩
  · rw [h.srcs] at hx
    obtain ⟨s, hs, rfl⟩ := List.mem_map.1 hx
    have := hok.last s hs
    unfold refS
    cases s.ever <;> simp <;> omega
  · have h1 : m.own ∈ b.kept.map Msg.own := by rw [← h.kept]; exact List.mem_map.2 ⟨m, hm, rfl⟩
    obtain ⟨y, hy, e⟩ := List.mem_map.1 h1
    obtain ⟨_, q2, q3, _⟩ := hok.msg y hy
    have w1 : y.own.calls.length ≤ 40 := q2
    have w2 : y.own.wf := q3
    rw [e] at w1 w2
    exact ⟨w1, w2⟩

/-! ### Both inboxes receive -/
theorem checkM_seq {m : Msg} (h : checkM m = 0) : 1 ≤ m.seq := by
  refine Decidable.byContradiction fun hh => ?_
  unfold checkM at h
  repeat' split at h
  all_goals first
    | omega
    | simp_all
def rRefuse (r : RBox) (m : Msg) (now : Int) : Int :=
  if ¬ momentB now then 10 else if checkM m ≠ 0 then checkM m else if (r.srcs.length : Int) ≤ m.src then 36 else
  match r.srcs[m.src.toNat]? with
  | some x => if m.seq ≤ x.last ∨ m.exp ≤ now then 37 else 0
  | none => 0
theorem Rel.refuse {b : Ibx} {r : RBox} (h : Rel b r) (m : Msg) (now : Int) : refuseE b m now = rRefuse r m now := by
  have hlen : r.srcs.length = b.srcs.length := by rw [h.srcs, List.length_map]
  unfold refuseE rRefuse
  by_cases g1 : momentB now
  · have hA : ¬ ¬ momentB now := fun e => e g1
    rw [if_neg hA, if_neg hA]
    by_cases g2 : checkM m = 0
    · have hB : ¬ checkM m ≠ 0 := fun e => e g2
      rw [if_neg hB, if_neg hB, hlen, h.srcs, List.getElem?_map]
      have hq := checkM_seq g2
      cases e : b.srcs[m.src.toNat]? with
      | none => rfl
      | some s =>
        have hp := h.pos s (List.mem_of_getElem? e)
        have ei : ((s.recv = true ∧ m.seq ≤ s.seq) ∨ m.exp ≤ now) ↔ (m.seq ≤ (refS s).last ∨ m.exp ≤ now) := by
          unfold refS
          cases s.recv with
          | true => simp
          | false => simp; omega
        simp only [Option.map_some, ei]
    · rw [if_pos g2, if_pos g2]
  · rw [if_pos g1, if_pos g1]

/-! ### The reference receives -/
def rKept (r : RBox) (m : Msg) (now : Int) : List Msg := r.kept.filter (liveM m now)
def rRecvE (r : RBox) (m : Msg) (now : Int) : Int := if rRefuse r m now ≠ 0 then rRefuse r m now else if 256 ≤ (rKept r m now).length then 5 else 0
def rRecvI (r : RBox) (m : Msg) (now : Int) : RBox := if rRecvE r m now = 0 then ⟨r.pat, hearR r.srcs m.src now m.seq, .unk, rKept r m now ++ [m], .unk⟩ else r
theorem filter_snoc (p : Msg → Bool) {l : List Msg} {i : Nat} {m : Msg} (h : l[i]? = some m) : (l.take (i + 1)).filter p = if p m = true then (l.take i).filter p ++ [m] else (l.take i).filter p := by
  rw [List.take_add_one, h]
  cases hp : p m <;> simp [hp, List.filter_append]
theorem ref_Receive_ok (r : RBox) (hok : r.Ok) (m : Msg) (now : Int) (hc : m.calls.length ≤ maxLen) (ht : m.trip.length ≤ maxLen) : PCalls PR i_transitref32_Receive [.agg r.row, .agg m.row, .int .i64 now] (fun v => v = .tuple [.agg (rRecvI r m now).row, .int .i64 (rRecvE r m now)]) := by
  have hmo := ref_moment_ok now
  have hck := transitref31_Check_ok m hc ht
  have hkl := hok.kept
  simp only [Msg.row] at hck
  have bad : ∀ e, rRefuse r m now = e → e ≠ 0 → rRecvE r m now = e ∧ rRecvI r m now = r := fun e h1 h2 => by
    have e1 : rRecvE r m now = e := by rw [rRecvE, if_pos (by rw [h1]; exact h2), h1]
    exact ⟨e1, by rw [rRecvI, if_neg (by rw [e1]; exact h2)]⟩
  refine acalls_pop fn_transitref32_Receive_ok (by simp [fn_transitref32_Receive]) ?_
  simp -implicitDefEqProofs (disch := omega) only [go_sem, Nat.reduceAdd, Nat.reduceMul, Nat.reduceSub, Nat.reduceBEq, Nat.reduceLeDiff, Nat.reduceLT, fn_transitref32_Receive, e24_1, w24_1, e24_3, w24_3, c24_4, e24_6, w24_6, e24_8, w24_8, e24_10, w24_10, c24_11, e24_13, w24_13, e24_15, w24_15, c24_16, e24_18, w24_18, e24_20, w24_20, c24_21, e24_23, w24_23, e24_25, w24_25, e24_27, w24_27, e24_29, w24_29, e24_31, w24_31, e24_33, w24_33, c24_34, e24_36, w24_36, c24_37, c24_38, c24_39, c24_40, c24_41, e24_43, w24_43, c24_44, e24_46, w24_46, e24_48, w24_48, c24_49, c24_50, c24_51, c24_52, c24_53, c24_54, c24_55, c24_56, c24_57, c24_58, RBox.row, Msg.row]
  first | refine callD (hmo) ?_ | refine callQD (hmo) ?_
  simp -implicitDefEqProofs (disch := omega) only [go_sem, Nat.reduceAdd, Nat.reduceMul, Nat.reduceSub, Nat.reduceBEq, Nat.reduceLeDiff, Nat.reduceLT, fn_transitref32_Receive, e24_1, w24_1, e24_3, w24_3, c24_4, e24_6, w24_6, e24_8, w24_8, e24_10, w24_10, c24_11, e24_13, w24_13, e24_15, w24_15, c24_16, e24_18, w24_18, e24_20, w24_20, c24_21, e24_23, w24_23, e24_25, w24_25, e24_27, w24_27, e24_29, w24_29, e24_31, w24_31, e24_33, w24_33, c24_34, e24_36, w24_36, c24_37, c24_38, c24_39, c24_40, c24_41, e24_43, w24_43, c24_44, e24_46, w24_46, e24_48, w24_48, c24_49, c24_50, c24_51, c24_52, c24_53, c24_54, c24_55, c24_56, c24_57, c24_58]
  refine ifD (fun g1 => ?_) (fun g1 => ?_)
  rotate_left
  · obtain ⟨e1, e2⟩ := bad 10 (by rw [rRefuse, if_pos g1]) (by decide)
    simp -implicitDefEqProofs (disch := omega) only [go_sem, Nat.reduceAdd, Nat.reduceMul, Nat.reduceSub, Nat.reduceBEq, Nat.reduceLeDiff, Nat.reduceLT, fn_transitref32_Receive, e24_1, w24_1, e24_3, w24_3, c24_4, e24_6, w24_6, e24_8, w24_8, e24_10, w24_10, c24_11, e24_13, w24_13, e24_15, w24_15, c24_16, e24_18, w24_18, e24_20, w24_20, c24_21, e24_23, w24_23, e24_25, w24_25, e24_27, w24_27, e24_29, w24_29, e24_31, w24_31, e24_33, w24_33, c24_34, e24_36, w24_36, c24_37, c24_38, c24_39, c24_40, c24_41, e24_43, w24_43, c24_44, e24_46, w24_46, e24_48, w24_48, c24_49, c24_50, c24_51, c24_52, c24_53, c24_54, c24_55, c24_56, c24_57, c24_58, e1, e2, RBox.row]
  simp -implicitDefEqProofs (disch := omega) only [go_sem, Nat.reduceAdd, Nat.reduceMul, Nat.reduceSub, Nat.reduceBEq, Nat.reduceLeDiff, Nat.reduceLT, fn_transitref32_Receive, e24_1, w24_1, e24_3, w24_3, c24_4, e24_6, w24_6, e24_8, w24_8, e24_10, w24_10, c24_11, e24_13, w24_13, e24_15, w24_15, c24_16, e24_18, w24_18, e24_20, w24_20, c24_21, e24_23, w24_23, e24_25, w24_25, e24_27, w24_27, e24_29, w24_29, e24_31, w24_31, e24_33, w24_33, c24_34, e24_36, w24_36, c24_37, c24_38, c24_39, c24_40, c24_41, e24_43, w24_43, c24_44, e24_46, w24_46, e24_48, w24_48, c24_49, c24_50, c24_51, c24_52, c24_53, c24_54, c24_55, c24_56, c24_57, c24_58]
  first | refine callD (hck) ?_ | refine callQD (hck) ?_
  simp -implicitDefEqProofs (disch := omega) only [go_sem, Nat.reduceAdd, Nat.reduceMul, Nat.reduceSub, Nat.reduceBEq, Nat.reduceLeDiff, Nat.reduceLT, fn_transitref32_Receive, e24_1, w24_1, e24_3, w24_3, c24_4, e24_6, w24_6, e24_8, w24_8, e24_10, w24_10, c24_11, e24_13, w24_13, e24_15, w24_15, c24_16, e24_18, w24_18, e24_20, w24_20, c24_21, e24_23, w24_23, e24_25, w24_25, e24_27, w24_27, e24_29, w24_29, e24_31, w24_31, e24_33, w24_33, c24_34, e24_36, w24_36, c24_37, c24_38, c24_39, c24_40, c24_41, e24_43, w24_43, c24_44, e24_46, w24_46, e24_48, w24_48, c24_49, c24_50, c24_51, c24_52, c24_53, c24_54, c24_55, c24_56, c24_57, c24_58]
  refine ifD (fun g2 => ?_) (fun g2 => ?_)
  rotate_left
  · obtain ⟨e1, e2⟩ := bad (checkM m) (by rw [rRefuse, if_neg (fun e => e g1), if_pos g2]) g2
    simp -implicitDefEqProofs (disch := omega) only [go_sem, Nat.reduceAdd, Nat.reduceMul, Nat.reduceSub, Nat.reduceBEq, Nat.reduceLeDiff, Nat.reduceLT, fn_transitref32_Receive, e24_1, w24_1, e24_3, w24_3, c24_4, e24_6, w24_6, e24_8, w24_8, e24_10, w24_10, c24_11, e24_13, w24_13, e24_15, w24_15, c24_16, e24_18, w24_18, e24_20, w24_20, c24_21, e24_23, w24_23, e24_25, w24_25, e24_27, w24_27, e24_29, w24_29, e24_31, w24_31, e24_33, w24_33, c24_34, e24_36, w24_36, c24_37, c24_38, c24_39, c24_40, c24_41, e24_43, w24_43, c24_44, e24_46, w24_46, e24_48, w24_48, c24_49, c24_50, c24_51, c24_52, c24_53, c24_54, c24_55, c24_56, c24_57, c24_58, e1, e2, RBox.row]
  simp -implicitDefEqProofs (disch := omega) only [go_sem, Nat.reduceAdd, Nat.reduceMul, Nat.reduceSub, Nat.reduceBEq, Nat.reduceLeDiff, Nat.reduceLT, fn_transitref32_Receive, e24_1, w24_1, e24_3, w24_3, c24_4, e24_6, w24_6, e24_8, w24_8, e24_10, w24_10, c24_11, e24_13, w24_13, e24_15, w24_15, c24_16, e24_18, w24_18, e24_20, w24_20, c24_21, e24_23, w24_23, e24_25, w24_25, e24_27, w24_27, e24_29, w24_29, e24_31, w24_31, e24_33, w24_33, c24_34, e24_36, w24_36, c24_37, c24_38, c24_39, c24_40, c24_41, e24_43, w24_43, c24_44, e24_46, w24_46, e24_48, w24_48, c24_49, c24_50, c24_51, c24_52, c24_53, c24_54, c24_55, c24_56, c24_57, c24_58, List.length_map]
  refine ifD (fun g3 => ?_) (fun g3 => ?_)
  · obtain ⟨e1, e2⟩ := bad 36 (by rw [rRefuse, if_neg (fun e => e g1), if_neg (fun e => e g2), if_pos g3]) (by decide)
    simp -implicitDefEqProofs (disch := omega) only [go_sem, Nat.reduceAdd, Nat.reduceMul, Nat.reduceSub, Nat.reduceBEq, Nat.reduceLeDiff, Nat.reduceLT, fn_transitref32_Receive, e24_1, w24_1, e24_3, w24_3, c24_4, e24_6, w24_6, e24_8, w24_8, e24_10, w24_10, c24_11, e24_13, w24_13, e24_15, w24_15, c24_16, e24_18, w24_18, e24_20, w24_20, c24_21, e24_23, w24_23, e24_25, w24_25, e24_27, w24_27, e24_29, w24_29, e24_31, w24_31, e24_33, w24_33, c24_34, e24_36, w24_36, c24_37, c24_38, c24_39, c24_40, c24_41, e24_43, w24_43, c24_44, e24_46, w24_46, e24_48, w24_48, c24_49, c24_50, c24_51, c24_52, c24_53, c24_54, c24_55, c24_56, c24_57, c24_58, e1, e2, RBox.row]
  have hsrc := checkM_src g2
  obtain ⟨k, hk⟩ : ∃ k : Nat, m.src = k := ⟨m.src.toNat, by omega⟩
  have hkl' : k < r.srcs.length := by omega
  obtain ⟨x, hx⟩ : ∃ x, r.srcs[k]? = some x := ⟨r.srcs[k], by simp⟩
  have hrf : rRefuse r m now = if m.seq ≤ x.last ∨ m.exp ≤ now then 37 else 0 := by
    rw [rRefuse, if_neg (fun e => e g1), if_neg (fun e => e g2), if_neg g3]
    simp only [hk, Int.toNat_natCast, hx]
  simp -implicitDefEqProofs (disch := omega) only [go_sem, Nat.reduceAdd, Nat.reduceMul, Nat.reduceSub, Nat.reduceBEq, Nat.reduceLeDiff, Nat.reduceLT, fn_transitref32_Receive, e24_1, w24_1, e24_3, w24_3, c24_4, e24_6, w24_6, e24_8, w24_8, e24_10, w24_10, c24_11, e24_13, w24_13, e24_15, w24_15, c24_16, e24_18, w24_18, e24_20, w24_20, c24_21, e24_23, w24_23, e24_25, w24_25, e24_27, w24_27, e24_29, w24_29, e24_31, w24_31, e24_33, w24_33, c24_34, e24_36, w24_36, c24_37, c24_38, c24_39, c24_40, c24_41, e24_43, w24_43, c24_44, e24_46, w24_46, e24_48, w24_48, c24_49, c24_50, c24_51, c24_52, c24_53, c24_54, c24_55, c24_56, c24_57, c24_58, hk, rsrc_at hx]
  refine ifD (fun g4 => ?_) (fun g4 => ?_)
  · obtain ⟨e1, e2⟩ := bad 37 (by rw [hrf, if_pos (.inl g4)]) (by decide)
    simp -implicitDefEqProofs (disch := omega) only [go_sem, Nat.reduceAdd, Nat.reduceMul, Nat.reduceSub, Nat.reduceBEq, Nat.reduceLeDiff, Nat.reduceLT, fn_transitref32_Receive, e24_1, w24_1, e24_3, w24_3, c24_4, e24_6, w24_6, e24_8, w24_8, e24_10, w24_10, c24_11, e24_13, w24_13, e24_15, w24_15, c24_16, e24_18, w24_18, e24_20, w24_20, c24_21, e24_23, w24_23, e24_25, w24_25, e24_27, w24_27, e24_29, w24_29, e24_31, w24_31, e24_33, w24_33, c24_34, e24_36, w24_36, c24_37, c24_38, c24_39, c24_40, c24_41, e24_43, w24_43, c24_44, e24_46, w24_46, e24_48, w24_48, c24_49, c24_50, c24_51, c24_52, c24_53, c24_54, c24_55, c24_56, c24_57, c24_58, e1, e2, RBox.row]
  simp -implicitDefEqProofs (disch := omega) only [go_sem, Nat.reduceAdd, Nat.reduceMul, Nat.reduceSub, Nat.reduceBEq, Nat.reduceLeDiff, Nat.reduceLT, fn_transitref32_Receive, e24_1, w24_1, e24_3, w24_3, c24_4, e24_6, w24_6, e24_8, w24_8, e24_10, w24_10, c24_11, e24_13, w24_13, e24_15, w24_15, c24_16, e24_18, w24_18, e24_20, w24_20, c24_21, e24_23, w24_23, e24_25, w24_25, e24_27, w24_27, e24_29, w24_29, e24_31, w24_31, e24_33, w24_33, c24_34, e24_36, w24_36, c24_37, c24_38, c24_39, c24_40, c24_41, e24_43, w24_43, c24_44, e24_46, w24_46, e24_48, w24_48, c24_49, c24_50, c24_51, c24_52, c24_53, c24_54, c24_55, c24_56, c24_57, c24_58]
  refine ifD (fun g5 => ?_) (fun g5 => ?_)
  · obtain ⟨e1, e2⟩ := bad 37 (by rw [hrf, if_pos (.inr g5)]) (by decide)
    simp -implicitDefEqProofs (disch := omega) only [go_sem, Nat.reduceAdd, Nat.reduceMul, Nat.reduceSub, Nat.reduceBEq, Nat.reduceLeDiff, Nat.reduceLT, fn_transitref32_Receive, e24_1, w24_1, e24_3, w24_3, c24_4, e24_6, w24_6, e24_8, w24_8, e24_10, w24_10, c24_11, e24_13, w24_13, e24_15, w24_15, c24_16, e24_18, w24_18, e24_20, w24_20, c24_21, e24_23, w24_23, e24_25, w24_25, e24_27, w24_27, e24_29, w24_29, e24_31, w24_31, e24_33, w24_33, c24_34, e24_36, w24_36, c24_37, c24_38, c24_39, c24_40, c24_41, e24_43, w24_43, c24_44, e24_46, w24_46, e24_48, w24_48, c24_49, c24_50, c24_51, c24_52, c24_53, c24_54, c24_55, c24_56, c24_57, c24_58, e1, e2, RBox.row]
  have h0 : rRefuse r m now = 0 := by rw [hrf, if_neg (by omega)]
  simp -implicitDefEqProofs (disch := omega) only [go_sem, Nat.reduceAdd, Nat.reduceMul, Nat.reduceSub, Nat.reduceBEq, Nat.reduceLeDiff, Nat.reduceLT, fn_transitref32_Receive, e24_1, w24_1, e24_3, w24_3, c24_4, e24_6, w24_6, e24_8, w24_8, e24_10, w24_10, c24_11, e24_13, w24_13, e24_15, w24_15, c24_16, e24_18, w24_18, e24_20, w24_20, c24_21, e24_23, w24_23, e24_25, w24_25, e24_27, w24_27, e24_29, w24_29, e24_31, w24_31, e24_33, w24_33, c24_34, e24_36, w24_36, c24_37, c24_38, c24_39, c24_40, c24_41, e24_43, w24_43, c24_44, e24_46, w24_46, e24_48, w24_48, c24_49, c24_50, c24_51, c24_52, c24_53, c24_54, c24_55, c24_56, c24_57, c24_58]
  refine wpC_forL r.kept (fun i vs M => ∃ ver, vs = [.int .i64 now, .ptr 0 0, .ptr 1 0, .ptr 2 0, .mslice 3 ver 0 ((r.kept.take i).filter (liveM m now)).length, .int .i64 i] ∧
    M = [.box r.row, .box m.row, .box [.int .i64 0, .slice [] .nil, .slice [] .nil], .arr 13 (((r.kept.take i).filter (liveM m now)).map Msg.row) ver 0]) ⟨0, by rfl, by simp only [RBox.row, Msg.row, hk]; rfl⟩ ?_ ?_
  · rintro i o vs M ho hi hd ⟨ver, rfl, rfl⟩
    have hoa := msg_at ho
    have hs := transitref31_Supersedes_ok m o
    simp only [Msg.row] at hs
    have hfl : ((r.kept.take i).filter (liveM m now)).length ≤ 256 := by
      have := List.length_filter_le (liveM m now) (r.kept.take i)
      simp at this
      omega
    have hsn := filter_snoc (liveM m now) ho
    generalize hL : (r.kept.take i).filter (liveM m now) = L at *
    generalize hL2 : (r.kept.take (i + 1)).filter (liveM m now) = L2 at *
    simp -implicitDefEqProofs (disch := omega) only [go_sem, Nat.reduceAdd, Nat.reduceMul, Nat.reduceSub, Nat.reduceBEq, Nat.reduceLeDiff, Nat.reduceLT, fn_transitref32_Receive, e24_1, w24_1, e24_3, w24_3, c24_4, e24_6, w24_6, e24_8, w24_8, e24_10, w24_10, c24_11, e24_13, w24_13, e24_15, w24_15, c24_16, e24_18, w24_18, e24_20, w24_20, c24_21, e24_23, w24_23, e24_25, w24_25, e24_27, w24_27, e24_29, w24_29, e24_31, w24_31, e24_33, w24_33, c24_34, e24_36, w24_36, c24_37, c24_38, c24_39, c24_40, c24_41, e24_43, w24_43, c24_44, e24_46, w24_46, e24_48, w24_48, c24_49, c24_50, c24_51, c24_52, c24_53, c24_54, c24_55, c24_56, c24_57, c24_58, RBox.row, Msg.row, List.length_map, hd, hoa]
    first | refine callD (hs) ?_ | refine callQD (hs) ?_
    simp -implicitDefEqProofs (disch := omega) only [go_sem, Nat.reduceAdd, Nat.reduceMul, Nat.reduceSub, Nat.reduceBEq, Nat.reduceLeDiff, Nat.reduceLT, fn_transitref32_Receive, e24_1, w24_1, e24_3, w24_3, c24_4, e24_6, w24_6, e24_8, w24_8, e24_10, w24_10, c24_11, e24_13, w24_13, e24_15, w24_15, c24_16, e24_18, w24_18, e24_20, w24_20, c24_21, e24_23, w24_23, e24_25, w24_25, e24_27, w24_27, e24_29, w24_29, e24_31, w24_31, e24_33, w24_33, c24_34, e24_36, w24_36, c24_37, c24_38, c24_39, c24_40, c24_41, e24_43, w24_43, c24_44, e24_46, w24_46, e24_48, w24_48, c24_49, c24_50, c24_51, c24_52, c24_53, c24_54, c24_55, c24_56, c24_57, c24_58]
    refine ifB (fun h1 => ?_) (fun h1 => ?_)
    · simp -implicitDefEqProofs (disch := omega) only [go_sem, Nat.reduceAdd, Nat.reduceMul, Nat.reduceSub, Nat.reduceBEq, Nat.reduceLeDiff, Nat.reduceLT, fn_transitref32_Receive, e24_1, w24_1, e24_3, w24_3, c24_4, e24_6, w24_6, e24_8, w24_8, e24_10, w24_10, c24_11, e24_13, w24_13, e24_15, w24_15, c24_16, e24_18, w24_18, e24_20, w24_20, c24_21, e24_23, w24_23, e24_25, w24_25, e24_27, w24_27, e24_29, w24_29, e24_31, w24_31, e24_33, w24_33, c24_34, e24_36, w24_36, c24_37, c24_38, c24_39, c24_40, c24_41, e24_43, w24_43, c24_44, e24_46, w24_46, e24_48, w24_48, c24_49, c24_50, c24_51, c24_52, c24_53, c24_54, c24_55, c24_56, c24_57, c24_58]
      have e : L2 = L := by rw [hsn, if_neg (by simp [liveM, h1])]
      exact next_pop hi (by rfl) ⟨ver, by rw [hL2, e]; rfl, by rw [hL2, e]; rfl⟩
    simp -implicitDefEqProofs (disch := omega) only [go_sem, Nat.reduceAdd, Nat.reduceMul, Nat.reduceSub, Nat.reduceBEq, Nat.reduceLeDiff, Nat.reduceLT, fn_transitref32_Receive, e24_1, w24_1, e24_3, w24_3, c24_4, e24_6, w24_6, e24_8, w24_8, e24_10, w24_10, c24_11, e24_13, w24_13, e24_15, w24_15, c24_16, e24_18, w24_18, e24_20, w24_20, c24_21, e24_23, w24_23, e24_25, w24_25, e24_27, w24_27, e24_29, w24_29, e24_31, w24_31, e24_33, w24_33, c24_34, e24_36, w24_36, c24_37, c24_38, c24_39, c24_40, c24_41, e24_43, w24_43, c24_44, e24_46, w24_46, e24_48, w24_48, c24_49, c24_50, c24_51, c24_52, c24_53, c24_54, c24_55, c24_56, c24_57, c24_58, List.length_map, hoa]
    refine ifD (fun h2 => ?_) (fun h2 => ?_)
    rotate_left
    · simp -implicitDefEqProofs (disch := omega) only [go_sem, Nat.reduceAdd, Nat.reduceMul, Nat.reduceSub, Nat.reduceBEq, Nat.reduceLeDiff, Nat.reduceLT, fn_transitref32_Receive, e24_1, w24_1, e24_3, w24_3, c24_4, e24_6, w24_6, e24_8, w24_8, e24_10, w24_10, c24_11, e24_13, w24_13, e24_15, w24_15, c24_16, e24_18, w24_18, e24_20, w24_20, c24_21, e24_23, w24_23, e24_25, w24_25, e24_27, w24_27, e24_29, w24_29, e24_31, w24_31, e24_33, w24_33, c24_34, e24_36, w24_36, c24_37, c24_38, c24_39, c24_40, c24_41, e24_43, w24_43, c24_44, e24_46, w24_46, e24_48, w24_48, c24_49, c24_50, c24_51, c24_52, c24_53, c24_54, c24_55, c24_56, c24_57, c24_58]
      have e : L2 = L := by rw [hsn, if_neg (by simp [liveM, h2])]
      exact next_pop hi (by rfl) ⟨ver, by rw [hL2, e]; rfl, by rw [hL2, e]; rfl⟩
    have e : L2 = L ++ [o] := by rw [hsn, if_pos (by simp [liveM, h1, h2])]
    have er : L.map Msg.row ++ [o.row] = L2.map Msg.row := by rw [e]; simp
    have el : L.length + 1 = L2.length := by rw [e]; simp
    simp only [Msg.row] at er
    simp -implicitDefEqProofs (disch := omega) only [go_sem, Nat.reduceAdd, Nat.reduceMul, Nat.reduceSub, Nat.reduceBEq, Nat.reduceLeDiff, Nat.reduceLT, fn_transitref32_Receive, e24_1, w24_1, e24_3, w24_3, c24_4, e24_6, w24_6, e24_8, w24_8, e24_10, w24_10, c24_11, e24_13, w24_13, e24_15, w24_15, c24_16, e24_18, w24_18, e24_20, w24_20, c24_21, e24_23, w24_23, e24_25, w24_25, e24_27, w24_27, e24_29, w24_29, e24_31, w24_31, e24_33, w24_33, c24_34, e24_36, w24_36, c24_37, c24_38, c24_39, c24_40, c24_41, e24_43, w24_43, c24_44, e24_46, w24_46, e24_48, w24_48, c24_49, c24_50, c24_51, c24_52, c24_53, c24_54, c24_55, c24_56, c24_57, c24_58, List.length_map, hoa, er, el]
    exact next_stay hi ⟨ver + 1, by rw [hL2]; rfl, by rw [hL2]⟩
  · rintro vs M ⟨ver, rfl, rfl⟩
    rw [List.take_length]
    have hfl : (r.kept.filter (liveM m now)).length ≤ 256 := Nat.le_trans (List.length_filter_le _ _) hkl
    have hK : r.kept.filter (liveM m now) = rKept r m now := rfl
    rw [hK] at hfl ⊢
    simp -implicitDefEqProofs (disch := omega) only [go_sem, Nat.reduceAdd, Nat.reduceMul, Nat.reduceSub, Nat.reduceBEq, Nat.reduceLeDiff, Nat.reduceLT, fn_transitref32_Receive, e24_1, w24_1, e24_3, w24_3, c24_4, e24_6, w24_6, e24_8, w24_8, e24_10, w24_10, c24_11, e24_13, w24_13, e24_15, w24_15, c24_16, e24_18, w24_18, e24_20, w24_20, c24_21, e24_23, w24_23, e24_25, w24_25, e24_27, w24_27, e24_29, w24_29, e24_31, w24_31, e24_33, w24_33, c24_34, e24_36, w24_36, c24_37, c24_38, c24_39, c24_40, c24_41, e24_43, w24_43, c24_44, e24_46, w24_46, e24_48, w24_48, c24_49, c24_50, c24_51, c24_52, c24_53, c24_54, c24_55, c24_56, c24_57, c24_58, RBox.row, Msg.row, List.length_map, dec_irrefl]
    refine ifD (fun g6 => ?_) (fun g6 => ?_)
    · have e1 : rRecvE r m now = 5 := by rw [rRecvE, if_neg (fun e => e h0), if_pos (by omega)]
      have e2 : rRecvI r m now = r := by rw [rRecvI, if_neg (by rw [e1]; decide)]
      simp -implicitDefEqProofs (disch := omega) only [go_sem, Nat.reduceAdd, Nat.reduceMul, Nat.reduceSub, Nat.reduceBEq, Nat.reduceLeDiff, Nat.reduceLT, fn_transitref32_Receive, e24_1, w24_1, e24_3, w24_3, c24_4, e24_6, w24_6, e24_8, w24_8, e24_10, w24_10, c24_11, e24_13, w24_13, e24_15, w24_15, c24_16, e24_18, w24_18, e24_20, w24_20, c24_21, e24_23, w24_23, e24_25, w24_25, e24_27, w24_27, e24_29, w24_29, e24_31, w24_31, e24_33, w24_33, c24_34, e24_36, w24_36, c24_37, c24_38, c24_39, c24_40, c24_41, e24_43, w24_43, c24_44, e24_46, w24_46, e24_48, w24_48, c24_49, c24_50, c24_51, c24_52, c24_53, c24_54, c24_55, c24_56, c24_57, c24_58, e1, e2, RBox.row]
    have e1 : rRecvE r m now = 0 := by rw [rRecvE, if_neg (fun e => e h0), if_neg (by omega)]
    have e2 : rRecvI r m now = ⟨r.pat, hearR r.srcs m.src now m.seq, .unk, rKept r m now ++ [m], .unk⟩ := by rw [rRecvI, if_pos e1]
    have hhe := ref_heard_ok r.srcs r.st hok.n8 m.src now m.seq
    obtain ⟨L3, hL3⟩ : ∃ L, L = rKept r m now ++ [m] := ⟨_, rfl⟩
    have er : (rKept r m now).map Msg.row ++ [m.row] = L3.map Msg.row := by rw [hL3]; simp
    have el : (rKept r m now).length + 1 = L3.length := by rw [hL3]; simp
    have etk : List.take L3.length (L3.map Msg.row) = L3.map Msg.row := List.take_of_length_le (by simp)
    rw [← hL3] at e2
    rw [hk] at hhe e2
    simp only [Msg.row, hk] at er
    rw [e1, e2]
    simp -implicitDefEqProofs (disch := omega) only [go_sem, Nat.reduceAdd, Nat.reduceMul, Nat.reduceSub, Nat.reduceBEq, Nat.reduceLeDiff, Nat.reduceLT, fn_transitref32_Receive, e24_1, w24_1, e24_3, w24_3, c24_4, e24_6, w24_6, e24_8, w24_8, e24_10, w24_10, c24_11, e24_13, w24_13, e24_15, w24_15, c24_16, e24_18, w24_18, e24_20, w24_20, c24_21, e24_23, w24_23, e24_25, w24_25, e24_27, w24_27, e24_29, w24_29, e24_31, w24_31, e24_33, w24_33, c24_34, e24_36, w24_36, c24_37, c24_38, c24_39, c24_40, c24_41, e24_43, w24_43, c24_44, e24_46, w24_46, e24_48, w24_48, c24_49, c24_50, c24_51, c24_52, c24_53, c24_54, c24_55, c24_56, c24_57, c24_58, hk]
    first | refine callD (hhe) ?_ | refine callQD (hhe) ?_
    simp -implicitDefEqProofs (disch := omega) only [go_sem, Nat.reduceAdd, Nat.reduceMul, Nat.reduceSub, Nat.reduceBEq, Nat.reduceLeDiff, Nat.reduceLT, fn_transitref32_Receive, e24_1, w24_1, e24_3, w24_3, c24_4, e24_6, w24_6, e24_8, w24_8, e24_10, w24_10, c24_11, e24_13, w24_13, e24_15, w24_15, c24_16, e24_18, w24_18, e24_20, w24_20, c24_21, e24_23, w24_23, e24_25, w24_25, e24_27, w24_27, e24_29, w24_29, e24_31, w24_31, e24_33, w24_33, c24_34, e24_36, w24_36, c24_37, c24_38, c24_39, c24_40, c24_41, e24_43, w24_43, c24_44, e24_46, w24_46, e24_48, w24_48, c24_49, c24_50, c24_51, c24_52, c24_53, c24_54, c24_55, c24_56, c24_57, c24_58, er, el, RBox.row, etk]

theorem filter_own (p : Msg → Bool) (hp : ∀ m, p m.own = p m) (l : List Msg) : (l.filter p).map Msg.own = (l.map Msg.own).filter p := by
  rw [List.filter_map, show p ∘ Msg.own = p from funext hp]
theorem map_own_own (l : List Msg) : (l.map Msg.own).map Msg.own = l.map Msg.own := by
  rw [List.map_map]; rfl
theorem Rel.keptR {b : Ibx} {r : RBox} (h : Rel b r) (m : Msg) (now : Int) : (rKept r m now).map Msg.own = recvK b m now := by
  rw [rKept, filter_own _ (fun _ => rfl), h.kept, ← filter_own _ (fun _ => rfl)]; rfl
theorem Rel.recv {b : Ibx} {r : RBox} (h : Rel b r) (hok : b.Ok) (m : Msg) (now : Int) : recvE b m now = rRecvE r m now ∧ Rel (recvI b m now) (rRecvI r m now) := by
  have hk := h.keptR m now
  have hlen : (rKept r m now).length = (recvK b m now).length := by rw [← hk, List.length_map]
  have he : recvE b m now = rRecvE r m now := by rw [recvE, rRecvE, h.refuse, hlen]
  refine ⟨he, ?_⟩
  rcases recv_cases b m now with ⟨g1, g2⟩ | ⟨g1, g2, g3, g4, k, s, ek, hkl, hs, g5, g6⟩
  · rw [g2, rRecvI, if_neg (by rw [← he]; exact g1)]
    exact h
  · rw [g6, rRecvI, if_pos (by rw [← he]; exact g1)]
    have hsq := checkM_seq g2
    have hl := hok.last s (List.mem_of_getElem? hs)
    refine ⟨h.pat, ?_, ?_, fun x hx hr => ?_⟩
    · show hearR r.srcs m.src now m.seq = _
      rw [h.srcs, ek]
      refine hearR_set hs _ ?_
      have e := refS_hear hl g3
      rw [hearAt, if_pos rfl, if_pos (by omega)]
      have e2 : (refS (recvS s m now)).heard = (refS (hearS s now)).heard := rfl
      have e3 : (refS (recvS s m now)).last = m.seq := rfl
      have e4 : refS (recvS s m now) = ⟨(refS (recvS s m now)).heard, (refS (recvS s m now)).last⟩ := rfl
      rw [e4, e2, e3, e]
    · show (rKept r m now ++ [m]).map Msg.own = (recvK b m now ++ [m.own]).map Msg.own
      rw [List.map_append, hk, List.map_append]
      have : (recvK b m now).map Msg.own = recvK b m now := by rw [← hk, map_own_own]
      rw [this]; rfl
    · rcases set_mem hx with rfl | hx
      · show 1 ≤ m.seq
        exact hsq
      · exact h.pos x hx hr

end Go.Vm.C

