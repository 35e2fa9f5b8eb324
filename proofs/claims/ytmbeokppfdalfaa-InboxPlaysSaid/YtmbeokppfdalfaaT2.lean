/- The statement InboxNil, and what the arguments read as. -/
import Derived.Test.YtmbeokppfdalfaaT1

namespace Go.Vm.C
open Go.Vm
set_option maxHeartbeats 1000000
set_option maxRecDepth 10000
set_option linter.unusedSimpArgs false
set_option linter.unusedVariables false

/-! ### No inbox -/
theorem nil_eq : binV .eql .ptr .nilp .nilp = some (.bool true) := rfl
theorem nil_ne : binV .neq .ptr .nilp .nilp = some (.bool false) := rfl
theorem exists_nil (i : Int) : PCalls PR i_inbox_Inbox_exists [.nilp, .int .i64 i] (fun v => v = .bool false) := by
  refine acalls_pop fn_inbox_Inbox_exists_ok (by simp [fn_inbox_Inbox_exists]) ?_
  simp -implicitDefEqProofs (disch := omega) only [go_sem, Nat.reduceAdd, Nat.reduceMul, Nat.reduceSub, Nat.reduceBEq, Nat.reduceLeDiff, Nat.reduceLT, fn_inbox_Inbox_exists, e44_1, w44_1, e44_3, w44_3, c44_4, c44_5, nil_ne]
theorem Sequence_nil (i : Int) : PCalls PR i_inbox_Inbox_Sequence [.nilp, .int .i64 i] (fun v => v = .tuple [.int .i64 0, .bool false]) := by
  refine acalls_pop fn_inbox_Inbox_Sequence_ok (by simp [fn_inbox_Inbox_Sequence]) ?_
  simp -implicitDefEqProofs (disch := omega) only [go_sem, Nat.reduceAdd, Nat.reduceMul, Nat.reduceSub, Nat.reduceBEq, Nat.reduceLeDiff, Nat.reduceLT, fn_inbox_Inbox_Sequence, e28_1, w28_1, e28_3, w28_3, c28_4, e28_6, w28_6, e28_8, w28_8, c28_9, c28_10, c28_11]
  first | refine callD (exists_nil i) ?_ | refine callQD (exists_nil i) ?_
  simp -implicitDefEqProofs (disch := omega) only [go_sem, Nat.reduceAdd, Nat.reduceMul, Nat.reduceSub, Nat.reduceBEq, Nat.reduceLeDiff, Nat.reduceLT, fn_inbox_Inbox_Sequence, e28_1, w28_1, e28_3, w28_3, c28_4, e28_6, w28_6, e28_8, w28_8, c28_9, c28_10, c28_11]
theorem Failed_nil (i n : Int) : PCalls PR i_inbox_Inbox_Failed [.nilp, .int .i64 i, .int .i64 n] (fun v => v = .bool false) := by
  refine acalls_pop fn_inbox_Inbox_Failed_ok (by simp [fn_inbox_Inbox_Failed]) ?_
  simp -implicitDefEqProofs (disch := omega) only [go_sem, Nat.reduceAdd, Nat.reduceMul, Nat.reduceSub, Nat.reduceBEq, Nat.reduceLeDiff, Nat.reduceLT, fn_inbox_Inbox_Failed, e20_1, w20_1, e20_3, w20_3, c20_4, c20_5]
  first | refine callD (exists_nil i) ?_ | refine callQD (exists_nil i) ?_
  simp -implicitDefEqProofs (disch := omega) only [go_sem, Nat.reduceAdd, Nat.reduceMul, Nat.reduceSub, Nat.reduceBEq, Nat.reduceLeDiff, Nat.reduceLT, fn_inbox_Inbox_Failed, e20_1, w20_1, e20_3, w20_3, c20_4, c20_5]
theorem Heartbeat_nil (i n : Int) : PCalls PR i_inbox_Inbox_Heartbeat [.nilp, .int .i64 i, .int .i64 n] (fun v => v = .int .i64 40) := by
  refine acalls_pop fn_inbox_Inbox_Heartbeat_ok (by simp [fn_inbox_Inbox_Heartbeat]) ?_
  simp -implicitDefEqProofs (disch := omega) only [go_sem, Nat.reduceAdd, Nat.reduceMul, Nat.reduceSub, Nat.reduceBEq, Nat.reduceLeDiff, Nat.reduceLT, fn_inbox_Inbox_Heartbeat, e25_1, w25_1, e25_3, w25_3, c25_4, e25_6, w25_6, c25_7, e25_9, w25_9, c25_10, e25_12, w25_12, e25_14, w25_14, e25_16, w25_16, c25_17, e25_19, w25_19, e25_21, w25_21, c25_22, c25_23, c25_24, c25_25, nil_eq]
theorem Receive_nil (m : Msg) (n : Int) : PCalls PR i_inbox_Inbox_Receive [.nilp, .agg m.row, .int .i64 n] (fun v => v = .int .i64 40) := by
  refine acalls_pop fn_inbox_Inbox_Receive_ok (by simp [fn_inbox_Inbox_Receive]) ?_
  simp -implicitDefEqProofs (disch := omega) only [go_sem, Nat.reduceAdd, Nat.reduceMul, Nat.reduceSub, Nat.reduceBEq, Nat.reduceLeDiff, Nat.reduceLT, fn_inbox_Inbox_Receive, e16_1, w16_1, e16_3, w16_3, c16_4, e16_6, w16_6, e16_8, w16_8, e16_10, w16_10, c16_11, e16_13, w16_13, c16_14, e16_16, w16_16, e16_18, w16_18, c16_19, e16_21, w16_21, e16_23, w16_23, e16_25, w16_25, e16_27, w16_27, e16_29, w16_29, e16_31, w16_31, c16_32, c16_33, c16_34, c16_35, c16_36, c16_37, c16_38, c16_39, c16_40, c16_41, nil_eq, Msg.row]
theorem Messages_nil : PCalls PR i_inbox_Inbox_Messages [.nilp] (fun v => v = .slice [] .nil) := by
  refine acalls_pop fn_inbox_Inbox_Messages_ok (by simp [fn_inbox_Inbox_Messages]) ?_
  simp -implicitDefEqProofs (disch := omega) only [go_sem, Nat.reduceAdd, Nat.reduceMul, Nat.reduceSub, Nat.reduceBEq, Nat.reduceLeDiff, Nat.reduceLT, fn_inbox_Inbox_Messages, e19_1, w19_1, e19_3, w19_3, c19_4, e19_6, w19_6, e19_8, w19_8, c19_9, c19_10, c19_11, nil_eq]
theorem Active_nil (n : Int) : PCalls PR i_inbox_Inbox_Active [.nilp, .int .i64 n] (fun v => v = .slice [] .nil) := by
  refine acalls_pop fn_inbox_Inbox_Active_ok (by simp [fn_inbox_Inbox_Active]) ?_
  simp -implicitDefEqProofs (disch := omega) only [go_sem, Nat.reduceAdd, Nat.reduceMul, Nat.reduceSub, Nat.reduceBEq, Nat.reduceLeDiff, Nat.reduceLT, fn_inbox_Inbox_Active, e18_1, w18_1, e18_3, w18_3, c18_4, e18_6, w18_6, e18_8, w18_8, e18_10, w18_10, e18_12, w18_12, e18_14, w18_14, c18_15, e18_17, w18_17, e18_19, w18_19, e18_21, w18_21, e18_23, w18_23, c18_24, e18_26, w18_26, e18_28, w18_28, c18_29, c18_30, e18_32, w18_32, c18_33, c18_34, c18_35, c18_36, c18_37, c18_38, e18_40, w18_40, e18_42, w18_42, c18_43, c18_44, c18_45, c18_46, e18_48, w18_48, c18_49, c18_50, c18_51, c18_52, c18_53, c18_54, e18_56, w18_56, c18_57, c18_58, c18_59, c18_60, c18_61, c18_62, nil_eq]
/-! ### What the arguments read as -/
def ctStay : List CT := [.int .i64, .int .i64, .int .i64, .bool, .bool]
theorem read_stay {vs : List V} (h : HasR ctStay vs) : ∃ c : Stay, vs = c.row ∧ c.wf := by
  obtain ⟨_, _, rfl, h1, h⟩ := hasR_cons h
  obtain ⟨_, _, rfl, h2, h⟩ := hasR_cons h
  obtain ⟨_, _, rfl, h3, h⟩ := hasR_cons h
  obtain ⟨_, _, rfl, h4, h⟩ := hasR_cons h
  obtain ⟨_, _, rfl, h5, h⟩ := hasR_cons h
  cases hasR_nil h
  obtain ⟨a, rfl, ha⟩ := hasC_i64 h1
  obtain ⟨b, rfl, hb⟩ := hasC_i64 h2
  obtain ⟨c, rfl, hc⟩ := hasC_i64 h3
  obtain ⟨d, rfl⟩ := hasC_bool h4
  obtain ⟨e, rfl⟩ := hasC_bool h5
  exact ⟨⟨a, b, c, d, e⟩, rfl, ha, hb, hc⟩
def ctMsg : List CT := [.int .i64, .int .i64, .int .i64, .int .i64, .int .i64, .str, .int .i64, .int .i64, .int .i64, .int .i64, .int .i64, .bool, .slice ctStay]
theorem read_msgs {vs : List V} {rest : List CT} (h : HasR (ctMsg ++ rest) vs) : ∃ (m : Msg) (ys : List V), vs = m.row ++ ys ∧ m.wf ∧ HasR rest ys := by
  simp only [ctMsg, List.cons_append, List.nil_append] at h
  obtain ⟨_, _, rfl, h1, k1⟩ := hasR_cons h
  obtain ⟨_, _, rfl, h2, k2⟩ := hasR_cons k1
  obtain ⟨_, _, rfl, h3, k3⟩ := hasR_cons k2
  obtain ⟨_, _, rfl, h4, k4⟩ := hasR_cons k3
  obtain ⟨_, _, rfl, h5, k5⟩ := hasR_cons k4
  obtain ⟨_, _, rfl, h6, k6⟩ := hasR_cons k5
  obtain ⟨_, _, rfl, h7, k7⟩ := hasR_cons k6
  obtain ⟨_, _, rfl, h8, k8⟩ := hasR_cons k7
  obtain ⟨_, _, rfl, h9, k9⟩ := hasR_cons k8
  obtain ⟨_, _, rfl, h10, k10⟩ := hasR_cons k9
  obtain ⟨_, _, rfl, h11, k11⟩ := hasR_cons k10
  obtain ⟨_, _, rfl, h12, k12⟩ := hasR_cons k11
  obtain ⟨_, _, rfl, h13, k13⟩ := hasR_cons k12
  obtain ⟨a1, rfl, g1⟩ := hasC_i64 h1
  obtain ⟨a2, rfl, g2⟩ := hasC_i64 h2
  obtain ⟨a3, rfl, g3⟩ := hasC_i64 h3
  obtain ⟨a4, rfl, g4⟩ := hasC_i64 h4
  obtain ⟨a5, rfl, g5⟩ := hasC_i64 h5
  obtain ⟨a6, rfl, g6⟩ := hasC_str h6
  obtain ⟨a7, rfl, g7⟩ := hasC_i64 h7
  obtain ⟨a8, rfl, g8⟩ := hasC_i64 h8
  obtain ⟨a9, rfl, g9⟩ := hasC_i64 h9
  obtain ⟨a10, rfl, g10⟩ := hasC_i64 h10
  obtain ⟨a11, rfl, g11⟩ := hasC_i64 h11
  obtain ⟨a12, rfl⟩ := hasC_bool h12
  obtain ⟨l, c, rfl, hl, hlen, _⟩ := hasC_slice (fun vs h => read_stay h) h13
  exact ⟨⟨a1, a2, a3, a4, a5, a6, a7, a8, a9, a10, a11, a12, l, c⟩, _, rfl, ⟨g1, g2, g3, g4, g5, g6, g7, g8, g9, g10, g11, hl, hlen⟩, k13⟩
def ctOper : List CT := .int .i64 :: (ctMsg ++ [.int .i64, .int .i64])
theorem read_oper {vs : List V} (h : HasR ctOper vs) : ∃ o : Oper, vs = o.row ∧ o.wf := by
  obtain ⟨_, _, rfl, h1, k1⟩ := hasR_cons h
  obtain ⟨m, _, rfl, hm, k2⟩ := read_msgs k1
  obtain ⟨_, _, rfl, h2, k3⟩ := hasR_cons k2
  obtain ⟨_, _, rfl, h3, k4⟩ := hasR_cons k3
  cases hasR_nil k4
  obtain ⟨k, rfl, hk⟩ := hasC_i64 h1
  obtain ⟨s, rfl, hs⟩ := hasC_i64 h2
  obtain ⟨n, rfl, hn⟩ := hasC_i64 h3
  exact ⟨⟨k, m, s, n⟩, rfl, hk, hm, hs, hn⟩

end Go.Vm.C

