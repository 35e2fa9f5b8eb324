/- Contracts: the check of a message, the reference's check. -/
import Derived.Test.YtmbeokppfdalfaaT3

namespace Go.Vm.C
open Go.Vm
set_option maxHeartbeats 1000000
set_option maxRecDepth 10000
set_option linter.unusedSimpArgs false
set_option linter.unusedVariables false

theorem checkKind_mid (m : Msg) (u : Uses) (hlen : m.calls.length ≤ maxLen) (Q : Exit → Slots → Mem → Prop) (M : Mem) (hM : M = [.box m.row, .box u.row]) (hq : Q .ret [(4, .int .i64 (if callsErr m u ≠ 0 then callsErr m u else if argBad m u then 1 else 0))] M) : ∀ s, sget s 2 = .ptr 0 0 → sget s 3 = .ptr 1 0 → wpC PR c63_26 Q s M := by
  intro s g2 g3
  have hM' := hM
  subst hM
  have tail : callsErr m u = 0 → ∀ s, sget s 2 = .ptr 0 0 → sget s 3 = .ptr 1 0 → wpC PR c63_25 Q s [.box m.row, .box u.row] := fun h0 =>
    checkKind_tail m u Q _ rfl (fun h => by rwa [if_neg (fun e => e h0), if_pos h] at hq) (fun h => by rwa [if_neg (fun e => e h0), if_neg h] at hq)
  cases hk : u.k with
  | false =>
    have e : callsErr m u = 0 := by rw [callsErr, if_neg (by simp [hk])]
    simp -implicitDefEqProofs (disch := omega) only [go_sem, Nat.reduceAdd, Nat.reduceMul, Nat.reduceSub, Nat.reduceBEq, Nat.reduceLeDiff, Nat.reduceLT, fn_message_checkKind, e63_1, w63_1, e63_3, w63_3, c63_4, e63_6, w63_6, e63_8, w63_8, e63_10, w63_10, c63_11, e63_13, w63_13, c63_14, e63_16, w63_16, e63_18, w63_18, c63_19, e63_21, w63_21, e63_23, w63_23, c63_24, c63_26, c63_27, c63_28, g2, g3, Uses.row, hk]
    have := tail e
    simp only [Uses.row, hk] at this
    exact this _ (by rfl) (by rfl)
  | true =>
    have e : callsErr m u = (checkC m.calls 64 0 3155932800).2 := by rw [callsErr, if_pos hk]
    have hc := call_Check_any m.calls m.tag 64 0 3155932800 hlen
    simp -implicitDefEqProofs (disch := omega) only [go_sem, Nat.reduceAdd, Nat.reduceMul, Nat.reduceSub, Nat.reduceBEq, Nat.reduceLeDiff, Nat.reduceLT, fn_message_checkKind, e63_1, w63_1, e63_3, w63_3, c63_4, e63_6, w63_6, e63_8, w63_8, e63_10, w63_10, c63_11, e63_13, w63_13, c63_14, e63_16, w63_16, e63_18, w63_18, c63_19, e63_21, w63_21, e63_23, w63_23, c63_24, c63_26, c63_27, c63_28, g2, g3, Msg.row, Uses.row, hk]
    first | refine callD (hc) ?_ | refine callQD (hc) ?_
    simp -implicitDefEqProofs (disch := omega) only [go_sem, Nat.reduceAdd, Nat.reduceMul, Nat.reduceSub, Nat.reduceBEq, Nat.reduceLeDiff, Nat.reduceLT, fn_message_checkKind, e63_1, w63_1, e63_3, w63_3, c63_4, e63_6, w63_6, e63_8, w63_8, e63_10, w63_10, c63_11, e63_13, w63_13, c63_14, e63_16, w63_16, e63_18, w63_18, c63_19, e63_21, w63_21, e63_23, w63_23, c63_24, c63_26, c63_27, c63_28, pairV, ← e]
    refine ifD (fun h => ?_) (fun h => ?_)
    · have h0 : callsErr m u = 0 := h
      simp -implicitDefEqProofs (disch := omega) only [go_sem, Nat.reduceAdd, Nat.reduceMul, Nat.reduceSub, Nat.reduceBEq, Nat.reduceLeDiff, Nat.reduceLT, fn_message_checkKind, e63_1, w63_1, e63_3, w63_3, c63_4, e63_6, w63_6, e63_8, w63_8, e63_10, w63_10, c63_11, e63_13, w63_13, c63_14, e63_16, w63_16, e63_18, w63_18, c63_19, e63_21, w63_21, e63_23, w63_23, c63_24, c63_26, c63_27, c63_28]
      have := tail h0
      simp only [Msg.row, Uses.row, hk] at this
      exact this _ (by rfl) (by rfl)
    · simp -implicitDefEqProofs (disch := omega) only [go_sem, Nat.reduceAdd, Nat.reduceMul, Nat.reduceSub, Nat.reduceBEq, Nat.reduceLeDiff, Nat.reduceLT, fn_message_checkKind, e63_1, w63_1, e63_3, w63_3, c63_4, e63_6, w63_6, e63_8, w63_8, e63_10, w63_10, c63_11, e63_13, w63_13, c63_14, e63_16, w63_16, e63_18, w63_18, c63_19, e63_21, w63_21, e63_23, w63_23, c63_24, c63_26, c63_27, c63_28]
      rw [if_pos h] at hq
      simp only [Msg.row, Uses.row, hk] at hq
      exact hq

theorem checkKind_head (m : Msg) (u : Uses) (hlen : m.calls.length ≤ maxLen) (Q : Exit → Slots → Mem → Prop) (M : Mem) (hM : M = [.box m.row, .box u.row]) (hq : Q .ret [(4, .int .i64 (kindErr m u))] M) : ∀ s, sget s 2 = .ptr 0 0 → sget s 3 = .ptr 1 0 → wpC PR c63_27 Q s M := by
  intro s g2 g3
  have bad : rangeBad m u → Q .ret [(4, .int .i64 2)] M := fun h => by rwa [kindErr, if_pos h] at hq
  have good : ¬ rangeBad m u → ∀ s, sget s 2 = .ptr 0 0 → sget s 3 = .ptr 1 0 → wpC PR c63_26 Q s M := fun h =>
    checkKind_mid m u hlen Q M hM (by rwa [kindErr, if_neg h] at hq)
  subst hM
  clear hq hlen
  obtain ⟨c, x, r, k⟩ := u
  cases c <;> cases x <;> cases r
  all_goals
    simp -implicitDefEqProofs (disch := omega) only [go_sem, Nat.reduceAdd, Nat.reduceMul, Nat.reduceSub, Nat.reduceBEq, Nat.reduceLeDiff, Nat.reduceLT, fn_message_checkKind, e63_1, w63_1, e63_3, w63_3, c63_4, e63_6, w63_6, e63_8, w63_8, e63_10, w63_10, c63_11, e63_13, w63_13, c63_14, e63_16, w63_16, e63_18, w63_18, c63_19, e63_21, w63_21, e63_23, w63_23, c63_24, c63_25, c63_27, c63_28, g2, g3, Msg.row, Uses.row]
    repeat' (first
      | simp -implicitDefEqProofs (disch := omega) only [go_sem, Nat.reduceAdd, Nat.reduceMul, Nat.reduceSub, Nat.reduceBEq, Nat.reduceLeDiff, Nat.reduceLT, fn_message_checkKind, e63_1, w63_1, e63_3, w63_3, c63_4, e63_6, w63_6, e63_8, w63_8, e63_10, w63_10, c63_11, e63_13, w63_13, c63_14, e63_16, w63_16, e63_18, w63_18, c63_19, e63_21, w63_21, e63_23, w63_23, c63_24, c63_25, c63_27, c63_28, g2, g3, Msg.row, Uses.row]
      | (refine ifD (fun h => ?_) (fun h => ?_))
      | (refine callD (message_within_ok _ _ _) ?_))
  all_goals first
    | (refine bad ?_
       simp only [rangeBad, true_and, Bool.false_eq_true, false_and, or_false, false_or]
       omega)
    | (refine good ?_ _ ?_ ?_
       · simp only [rangeBad, true_and, Bool.false_eq_true, false_and, or_false, false_or, or_self, not_false_eq_true]
         try omega
         done
       · first | rfl | exact g2
       · first | rfl | exact g3)

theorem message_checkKind_ok (m : Msg) (u : Uses) (hlen : m.calls.length ≤ maxLen) : PCalls PR i_message_checkKind [.agg m.row, .agg u.row] (fun v => v = .int .i64 (kindErr m u)) := by
  refine acalls_pop fn_message_checkKind_ok (by simp [fn_message_checkKind]) ?_
  simp -implicitDefEqProofs (disch := omega) only [go_sem, Nat.reduceAdd, Nat.reduceMul, Nat.reduceSub, Nat.reduceBEq, Nat.reduceLeDiff, Nat.reduceLT, fn_message_checkKind, e63_1, w63_1, e63_3, w63_3, c63_4, e63_6, w63_6, e63_8, w63_8, e63_10, w63_10, c63_11, e63_13, w63_13, c63_14, e63_16, w63_16, e63_18, w63_18, c63_19, e63_21, w63_21, e63_23, w63_23, c63_24, c63_25, c63_26, c63_28, Msg.row, Uses.row]
  refine checkKind_head m u hlen _ _ rfl ?_ _ rfl rfl
  simp -implicitDefEqProofs (disch := omega) only [go_sem, Nat.reduceAdd, Nat.reduceMul, Nat.reduceSub, Nat.reduceBEq, Nat.reduceLeDiff, Nat.reduceLT, fn_message_checkKind, e63_1, w63_1, e63_3, w63_3, c63_4, e63_6, w63_6, e63_8, w63_8, e63_10, w63_10, c63_11, e63_13, w63_13, c63_14, e63_16, w63_16, e63_18, w63_18, c63_19, e63_21, w63_21, e63_23, w63_23, c63_24, c63_25, c63_26, c63_28]

theorem message_Check_ok (m : Msg) (hlen : m.calls.length ≤ maxLen) (ht : m.trip.length ≤ maxLen) : PCalls PR i_message_Check [.agg m.row] (fun v => v = .int .i64 (checkM m)) := by
  refine acalls_pop fn_message_Check_ok (by simp [fn_message_Check]) ?_
  have hk := message_checkKind_ok m (usesOf m.kind) hlen
  simp only [Msg.row] at hk
  simp -implicitDefEqProofs (disch := omega) only [go_sem, Nat.reduceAdd, Nat.reduceMul, Nat.reduceSub, Nat.reduceBEq, Nat.reduceLeDiff, Nat.reduceLT, fn_message_Check, e53_1, w53_1, e53_3, w53_3, c53_4, e53_6, w53_6, e53_8, w53_8, c53_9, e53_11, w53_11, e53_13, w53_13, c53_14, e53_16, w53_16, e53_18, w53_18, c53_19, e53_21, w53_21, e53_23, w53_23, c53_24, e53_26, w53_26, e53_28, w53_28, c53_29, e53_31, w53_31, e53_33, w53_33, c53_34, e53_36, w53_36, e53_38, w53_38, c53_39, c53_40, c53_41, c53_42, c53_43, c53_44, c53_45, c53_46, c53_47, Msg.row]
  first | refine callD (message_within_ok _ _ _) ?_ | refine callQD (message_within_ok _ _ _) ?_
  simp -implicitDefEqProofs (disch := omega) only [go_sem, Nat.reduceAdd, Nat.reduceMul, Nat.reduceSub, Nat.reduceBEq, Nat.reduceLeDiff, Nat.reduceLT, fn_message_Check, e53_1, w53_1, e53_3, w53_3, c53_4, e53_6, w53_6, e53_8, w53_8, c53_9, e53_11, w53_11, e53_13, w53_13, c53_14, e53_16, w53_16, e53_18, w53_18, c53_19, e53_21, w53_21, e53_23, w53_23, c53_24, e53_26, w53_26, e53_28, w53_28, c53_29, e53_31, w53_31, e53_33, w53_33, c53_34, e53_36, w53_36, e53_38, w53_38, c53_39, c53_40, c53_41, c53_42, c53_43, c53_44, c53_45, c53_46, c53_47]
  refine ifD (fun h1 => ?_) (fun h1 => ?_)
  rotate_left
  · simp -implicitDefEqProofs (disch := omega) only [go_sem, Nat.reduceAdd, Nat.reduceMul, Nat.reduceSub, Nat.reduceBEq, Nat.reduceLeDiff, Nat.reduceLT, fn_message_Check, e53_1, w53_1, e53_3, w53_3, c53_4, e53_6, w53_6, e53_8, w53_8, c53_9, e53_11, w53_11, e53_13, w53_13, c53_14, e53_16, w53_16, e53_18, w53_18, c53_19, e53_21, w53_21, e53_23, w53_23, c53_24, e53_26, w53_26, e53_28, w53_28, c53_29, e53_31, w53_31, e53_33, w53_33, c53_34, e53_36, w53_36, e53_38, w53_38, c53_39, c53_40, c53_41, c53_42, c53_43, c53_44, c53_45, c53_46, c53_47, checkM]
    rw [if_pos h1]
  simp -implicitDefEqProofs (disch := omega) only [go_sem, Nat.reduceAdd, Nat.reduceMul, Nat.reduceSub, Nat.reduceBEq, Nat.reduceLeDiff, Nat.reduceLT, fn_message_Check, e53_1, w53_1, e53_3, w53_3, c53_4, e53_6, w53_6, e53_8, w53_8, c53_9, e53_11, w53_11, e53_13, w53_13, c53_14, e53_16, w53_16, e53_18, w53_18, c53_19, e53_21, w53_21, e53_23, w53_23, c53_24, e53_26, w53_26, e53_28, w53_28, c53_29, e53_31, w53_31, e53_33, w53_33, c53_34, e53_36, w53_36, e53_38, w53_38, c53_39, c53_40, c53_41, c53_42, c53_43, c53_44, c53_45, c53_46, c53_47]
  refine ifD (fun h2 => ?_) (fun h2 => ?_)
  · simp -implicitDefEqProofs (disch := omega) only [go_sem, Nat.reduceAdd, Nat.reduceMul, Nat.reduceSub, Nat.reduceBEq, Nat.reduceLeDiff, Nat.reduceLT, fn_message_Check, e53_1, w53_1, e53_3, w53_3, c53_4, e53_6, w53_6, e53_8, w53_8, c53_9, e53_11, w53_11, e53_13, w53_13, c53_14, e53_16, w53_16, e53_18, w53_18, c53_19, e53_21, w53_21, e53_23, w53_23, c53_24, e53_26, w53_26, e53_28, w53_28, c53_29, e53_31, w53_31, e53_33, w53_33, c53_34, e53_36, w53_36, e53_38, w53_38, c53_39, c53_40, c53_41, c53_42, c53_43, c53_44, c53_45, c53_46, c53_47, checkM]
    rw [if_neg (fun e => e h1), if_pos h2]
  have e1 : checkM m = if ¬ (0 ≤ m.iss ∧ m.iss ≤ 3155932800) ∨ ¬ (0 ≤ m.exp ∧ m.exp ≤ 3155932800) ∨ m.exp ≤ m.iss then 10
  else if ¬ (1 ≤ m.kind ∧ m.kind ≤ 6) then 35 else if okName m.trip = false then 12 else if ¬ (0 ≤ m.day ∧ m.day ≤ 36524) then 11 else if m.inst < 0 then 2 else kindErr m (usesOf m.kind) := by
    rw [checkM, if_neg (fun e => e h1), if_neg h2]
  rw [e1]
  simp -implicitDefEqProofs (disch := omega) only [go_sem, Nat.reduceAdd, Nat.reduceMul, Nat.reduceSub, Nat.reduceBEq, Nat.reduceLeDiff, Nat.reduceLT, fn_message_Check, e53_1, w53_1, e53_3, w53_3, c53_4, e53_6, w53_6, e53_8, w53_8, c53_9, e53_11, w53_11, e53_13, w53_13, c53_14, e53_16, w53_16, e53_18, w53_18, c53_19, e53_21, w53_21, e53_23, w53_23, c53_24, e53_26, w53_26, e53_28, w53_28, c53_29, e53_31, w53_31, e53_33, w53_33, c53_34, e53_36, w53_36, e53_38, w53_38, c53_39, c53_40, c53_41, c53_42, c53_43, c53_44, c53_45, c53_46, c53_47]
  first | refine callD (message_within_ok _ _ _) ?_ | refine callQD (message_within_ok _ _ _) ?_
  simp -implicitDefEqProofs (disch := omega) only [go_sem, Nat.reduceAdd, Nat.reduceMul, Nat.reduceSub, Nat.reduceBEq, Nat.reduceLeDiff, Nat.reduceLT, fn_message_Check, e53_1, w53_1, e53_3, w53_3, c53_4, e53_6, w53_6, e53_8, w53_8, c53_9, e53_11, w53_11, e53_13, w53_13, c53_14, e53_16, w53_16, e53_18, w53_18, c53_19, e53_21, w53_21, e53_23, w53_23, c53_24, e53_26, w53_26, e53_28, w53_28, c53_29, e53_31, w53_31, e53_33, w53_33, c53_34, e53_36, w53_36, e53_38, w53_38, c53_39, c53_40, c53_41, c53_42, c53_43, c53_44, c53_45, c53_46, c53_47]
  refine ifD (fun h3 => ?_) (fun h3 => ?_)
  rotate_left
  · simp -implicitDefEqProofs (disch := omega) only [go_sem, Nat.reduceAdd, Nat.reduceMul, Nat.reduceSub, Nat.reduceBEq, Nat.reduceLeDiff, Nat.reduceLT, fn_message_Check, e53_1, w53_1, e53_3, w53_3, c53_4, e53_6, w53_6, e53_8, w53_8, c53_9, e53_11, w53_11, e53_13, w53_13, c53_14, e53_16, w53_16, e53_18, w53_18, c53_19, e53_21, w53_21, e53_23, w53_23, c53_24, e53_26, w53_26, e53_28, w53_28, c53_29, e53_31, w53_31, e53_33, w53_33, c53_34, e53_36, w53_36, e53_38, w53_38, c53_39, c53_40, c53_41, c53_42, c53_43, c53_44, c53_45, c53_46, c53_47]
    rw [if_pos (.inl h3)]
  simp -implicitDefEqProofs (disch := omega) only [go_sem, Nat.reduceAdd, Nat.reduceMul, Nat.reduceSub, Nat.reduceBEq, Nat.reduceLeDiff, Nat.reduceLT, fn_message_Check, e53_1, w53_1, e53_3, w53_3, c53_4, e53_6, w53_6, e53_8, w53_8, c53_9, e53_11, w53_11, e53_13, w53_13, c53_14, e53_16, w53_16, e53_18, w53_18, c53_19, e53_21, w53_21, e53_23, w53_23, c53_24, e53_26, w53_26, e53_28, w53_28, c53_29, e53_31, w53_31, e53_33, w53_33, c53_34, e53_36, w53_36, e53_38, w53_38, c53_39, c53_40, c53_41, c53_42, c53_43, c53_44, c53_45, c53_46, c53_47]
  first | refine callD (message_within_ok _ _ _) ?_ | refine callQD (message_within_ok _ _ _) ?_
  simp -implicitDefEqProofs (disch := omega) only [go_sem, Nat.reduceAdd, Nat.reduceMul, Nat.reduceSub, Nat.reduceBEq, Nat.reduceLeDiff, Nat.reduceLT, fn_message_Check, e53_1, w53_1, e53_3, w53_3, c53_4, e53_6, w53_6, e53_8, w53_8, c53_9, e53_11, w53_11, e53_13, w53_13, c53_14, e53_16, w53_16, e53_18, w53_18, c53_19, e53_21, w53_21, e53_23, w53_23, c53_24, e53_26, w53_26, e53_28, w53_28, c53_29, e53_31, w53_31, e53_33, w53_33, c53_34, e53_36, w53_36, e53_38, w53_38, c53_39, c53_40, c53_41, c53_42, c53_43, c53_44, c53_45, c53_46, c53_47]
  refine ifD (fun h4 => ?_) (fun h4 => ?_)
  rotate_left
  · simp -implicitDefEqProofs (disch := omega) only [go_sem, Nat.reduceAdd, Nat.reduceMul, Nat.reduceSub, Nat.reduceBEq, Nat.reduceLeDiff, Nat.reduceLT, fn_message_Check, e53_1, w53_1, e53_3, w53_3, c53_4, e53_6, w53_6, e53_8, w53_8, c53_9, e53_11, w53_11, e53_13, w53_13, c53_14, e53_16, w53_16, e53_18, w53_18, c53_19, e53_21, w53_21, e53_23, w53_23, c53_24, e53_26, w53_26, e53_28, w53_28, c53_29, e53_31, w53_31, e53_33, w53_33, c53_34, e53_36, w53_36, e53_38, w53_38, c53_39, c53_40, c53_41, c53_42, c53_43, c53_44, c53_45, c53_46, c53_47]
    rw [if_pos (.inr (.inl h4))]
  simp -implicitDefEqProofs (disch := omega) only [go_sem, Nat.reduceAdd, Nat.reduceMul, Nat.reduceSub, Nat.reduceBEq, Nat.reduceLeDiff, Nat.reduceLT, fn_message_Check, e53_1, w53_1, e53_3, w53_3, c53_4, e53_6, w53_6, e53_8, w53_8, c53_9, e53_11, w53_11, e53_13, w53_13, c53_14, e53_16, w53_16, e53_18, w53_18, c53_19, e53_21, w53_21, e53_23, w53_23, c53_24, e53_26, w53_26, e53_28, w53_28, c53_29, e53_31, w53_31, e53_33, w53_33, c53_34, e53_36, w53_36, e53_38, w53_38, c53_39, c53_40, c53_41, c53_42, c53_43, c53_44, c53_45, c53_46, c53_47]
  refine ifD (fun h5 => ?_) (fun h5 => ?_)
  · simp -implicitDefEqProofs (disch := omega) only [go_sem, Nat.reduceAdd, Nat.reduceMul, Nat.reduceSub, Nat.reduceBEq, Nat.reduceLeDiff, Nat.reduceLT, fn_message_Check, e53_1, w53_1, e53_3, w53_3, c53_4, e53_6, w53_6, e53_8, w53_8, c53_9, e53_11, w53_11, e53_13, w53_13, c53_14, e53_16, w53_16, e53_18, w53_18, c53_19, e53_21, w53_21, e53_23, w53_23, c53_24, e53_26, w53_26, e53_28, w53_28, c53_29, e53_31, w53_31, e53_33, w53_33, c53_34, e53_36, w53_36, e53_38, w53_38, c53_39, c53_40, c53_41, c53_42, c53_43, c53_44, c53_45, c53_46, c53_47]
    rw [if_pos (.inr (.inr h5))]
  rw [if_neg (by omega)]
  simp -implicitDefEqProofs (disch := omega) only [go_sem, Nat.reduceAdd, Nat.reduceMul, Nat.reduceSub, Nat.reduceBEq, Nat.reduceLeDiff, Nat.reduceLT, fn_message_Check, e53_1, w53_1, e53_3, w53_3, c53_4, e53_6, w53_6, e53_8, w53_8, c53_9, e53_11, w53_11, e53_13, w53_13, c53_14, e53_16, w53_16, e53_18, w53_18, c53_19, e53_21, w53_21, e53_23, w53_23, c53_24, e53_26, w53_26, e53_28, w53_28, c53_29, e53_31, w53_31, e53_33, w53_33, c53_34, e53_36, w53_36, e53_38, w53_38, c53_39, c53_40, c53_41, c53_42, c53_43, c53_44, c53_45, c53_46, c53_47]
  first | refine callD (message_within_ok _ _ _) ?_ | refine callQD (message_within_ok _ _ _) ?_
  simp -implicitDefEqProofs (disch := omega) only [go_sem, Nat.reduceAdd, Nat.reduceMul, Nat.reduceSub, Nat.reduceBEq, Nat.reduceLeDiff, Nat.reduceLT, fn_message_Check, e53_1, w53_1, e53_3, w53_3, c53_4, e53_6, w53_6, e53_8, w53_8, c53_9, e53_11, w53_11, e53_13, w53_13, c53_14, e53_16, w53_16, e53_18, w53_18, c53_19, e53_21, w53_21, e53_23, w53_23, c53_24, e53_26, w53_26, e53_28, w53_28, c53_29, e53_31, w53_31, e53_33, w53_33, c53_34, e53_36, w53_36, e53_38, w53_38, c53_39, c53_40, c53_41, c53_42, c53_43, c53_44, c53_45, c53_46, c53_47]
  refine ifD (fun h6 => ?_) (fun h6 => ?_)
  rotate_left
  · simp -implicitDefEqProofs (disch := omega) only [go_sem, Nat.reduceAdd, Nat.reduceMul, Nat.reduceSub, Nat.reduceBEq, Nat.reduceLeDiff, Nat.reduceLT, fn_message_Check, e53_1, w53_1, e53_3, w53_3, c53_4, e53_6, w53_6, e53_8, w53_8, c53_9, e53_11, w53_11, e53_13, w53_13, c53_14, e53_16, w53_16, e53_18, w53_18, c53_19, e53_21, w53_21, e53_23, w53_23, c53_24, e53_26, w53_26, e53_28, w53_28, c53_29, e53_31, w53_31, e53_33, w53_33, c53_34, e53_36, w53_36, e53_38, w53_38, c53_39, c53_40, c53_41, c53_42, c53_43, c53_44, c53_45, c53_46, c53_47]
    rw [if_pos h6]
  rw [if_neg (fun e => e h6)]
  simp -implicitDefEqProofs (disch := omega) only [go_sem, Nat.reduceAdd, Nat.reduceMul, Nat.reduceSub, Nat.reduceBEq, Nat.reduceLeDiff, Nat.reduceLT, fn_message_Check, e53_1, w53_1, e53_3, w53_3, c53_4, e53_6, w53_6, e53_8, w53_8, c53_9, e53_11, w53_11, e53_13, w53_13, c53_14, e53_16, w53_16, e53_18, w53_18, c53_19, e53_21, w53_21, e53_23, w53_23, c53_24, e53_26, w53_26, e53_28, w53_28, c53_29, e53_31, w53_31, e53_33, w53_33, c53_34, e53_36, w53_36, e53_38, w53_38, c53_39, c53_40, c53_41, c53_42, c53_43, c53_44, c53_45, c53_46, c53_47]
  first | refine callD (ident_Valid_ok _ ht) ?_ | refine callQD (ident_Valid_ok _ ht) ?_
  simp -implicitDefEqProofs (disch := omega) only [go_sem, Nat.reduceAdd, Nat.reduceMul, Nat.reduceSub, Nat.reduceBEq, Nat.reduceLeDiff, Nat.reduceLT, fn_message_Check, e53_1, w53_1, e53_3, w53_3, c53_4, e53_6, w53_6, e53_8, w53_8, c53_9, e53_11, w53_11, e53_13, w53_13, c53_14, e53_16, w53_16, e53_18, w53_18, c53_19, e53_21, w53_21, e53_23, w53_23, c53_24, e53_26, w53_26, e53_28, w53_28, c53_29, e53_31, w53_31, e53_33, w53_33, c53_34, e53_36, w53_36, e53_38, w53_38, c53_39, c53_40, c53_41, c53_42, c53_43, c53_44, c53_45, c53_46, c53_47]
  refine ifB (fun h7 => ?_) (fun h7 => ?_)
  rotate_left
  · simp -implicitDefEqProofs (disch := omega) only [go_sem, Nat.reduceAdd, Nat.reduceMul, Nat.reduceSub, Nat.reduceBEq, Nat.reduceLeDiff, Nat.reduceLT, fn_message_Check, e53_1, w53_1, e53_3, w53_3, c53_4, e53_6, w53_6, e53_8, w53_8, c53_9, e53_11, w53_11, e53_13, w53_13, c53_14, e53_16, w53_16, e53_18, w53_18, c53_19, e53_21, w53_21, e53_23, w53_23, c53_24, e53_26, w53_26, e53_28, w53_28, c53_29, e53_31, w53_31, e53_33, w53_33, c53_34, e53_36, w53_36, e53_38, w53_38, c53_39, c53_40, c53_41, c53_42, c53_43, c53_44, c53_45, c53_46, c53_47]
    rw [if_pos h7]
  rw [if_neg (by rw [h7]; simp)]
  simp -implicitDefEqProofs (disch := omega) only [go_sem, Nat.reduceAdd, Nat.reduceMul, Nat.reduceSub, Nat.reduceBEq, Nat.reduceLeDiff, Nat.reduceLT, fn_message_Check, e53_1, w53_1, e53_3, w53_3, c53_4, e53_6, w53_6, e53_8, w53_8, c53_9, e53_11, w53_11, e53_13, w53_13, c53_14, e53_16, w53_16, e53_18, w53_18, c53_19, e53_21, w53_21, e53_23, w53_23, c53_24, e53_26, w53_26, e53_28, w53_28, c53_29, e53_31, w53_31, e53_33, w53_33, c53_34, e53_36, w53_36, e53_38, w53_38, c53_39, c53_40, c53_41, c53_42, c53_43, c53_44, c53_45, c53_46, c53_47]
  first | refine callD (date_Valid_ok _) ?_ | refine callQD (date_Valid_ok _) ?_
  simp -implicitDefEqProofs (disch := omega) only [go_sem, Nat.reduceAdd, Nat.reduceMul, Nat.reduceSub, Nat.reduceBEq, Nat.reduceLeDiff, Nat.reduceLT, fn_message_Check, e53_1, w53_1, e53_3, w53_3, c53_4, e53_6, w53_6, e53_8, w53_8, c53_9, e53_11, w53_11, e53_13, w53_13, c53_14, e53_16, w53_16, e53_18, w53_18, c53_19, e53_21, w53_21, e53_23, w53_23, c53_24, e53_26, w53_26, e53_28, w53_28, c53_29, e53_31, w53_31, e53_33, w53_33, c53_34, e53_36, w53_36, e53_38, w53_38, c53_39, c53_40, c53_41, c53_42, c53_43, c53_44, c53_45, c53_46, c53_47]
  refine ifD (fun h8 => ?_) (fun h8 => ?_)
  rotate_left
  · simp -implicitDefEqProofs (disch := omega) only [go_sem, Nat.reduceAdd, Nat.reduceMul, Nat.reduceSub, Nat.reduceBEq, Nat.reduceLeDiff, Nat.reduceLT, fn_message_Check, e53_1, w53_1, e53_3, w53_3, c53_4, e53_6, w53_6, e53_8, w53_8, c53_9, e53_11, w53_11, e53_13, w53_13, c53_14, e53_16, w53_16, e53_18, w53_18, c53_19, e53_21, w53_21, e53_23, w53_23, c53_24, e53_26, w53_26, e53_28, w53_28, c53_29, e53_31, w53_31, e53_33, w53_33, c53_34, e53_36, w53_36, e53_38, w53_38, c53_39, c53_40, c53_41, c53_42, c53_43, c53_44, c53_45, c53_46, c53_47]
    rw [if_pos h8]
  rw [if_neg (fun e => e h8)]
  simp -implicitDefEqProofs (disch := omega) only [go_sem, Nat.reduceAdd, Nat.reduceMul, Nat.reduceSub, Nat.reduceBEq, Nat.reduceLeDiff, Nat.reduceLT, fn_message_Check, e53_1, w53_1, e53_3, w53_3, c53_4, e53_6, w53_6, e53_8, w53_8, c53_9, e53_11, w53_11, e53_13, w53_13, c53_14, e53_16, w53_16, e53_18, w53_18, c53_19, e53_21, w53_21, e53_23, w53_23, c53_24, e53_26, w53_26, e53_28, w53_28, c53_29, e53_31, w53_31, e53_33, w53_33, c53_34, e53_36, w53_36, e53_38, w53_38, c53_39, c53_40, c53_41, c53_42, c53_43, c53_44, c53_45, c53_46, c53_47]
  refine ifD (fun h9 => ?_) (fun h9 => ?_)
  · simp -implicitDefEqProofs (disch := omega) only [go_sem, Nat.reduceAdd, Nat.reduceMul, Nat.reduceSub, Nat.reduceBEq, Nat.reduceLeDiff, Nat.reduceLT, fn_message_Check, e53_1, w53_1, e53_3, w53_3, c53_4, e53_6, w53_6, e53_8, w53_8, c53_9, e53_11, w53_11, e53_13, w53_13, c53_14, e53_16, w53_16, e53_18, w53_18, c53_19, e53_21, w53_21, e53_23, w53_23, c53_24, e53_26, w53_26, e53_28, w53_28, c53_29, e53_31, w53_31, e53_33, w53_33, c53_34, e53_36, w53_36, e53_38, w53_38, c53_39, c53_40, c53_41, c53_42, c53_43, c53_44, c53_45, c53_46, c53_47]
    rw [if_pos h9]
  rw [if_neg h9]
  simp -implicitDefEqProofs (disch := omega) only [go_sem, Nat.reduceAdd, Nat.reduceMul, Nat.reduceSub, Nat.reduceBEq, Nat.reduceLeDiff, Nat.reduceLT, fn_message_Check, e53_1, w53_1, e53_3, w53_3, c53_4, e53_6, w53_6, e53_8, w53_8, c53_9, e53_11, w53_11, e53_13, w53_13, c53_14, e53_16, w53_16, e53_18, w53_18, c53_19, e53_21, w53_21, e53_23, w53_23, c53_24, e53_26, w53_26, e53_28, w53_28, c53_29, e53_31, w53_31, e53_33, w53_33, c53_34, e53_36, w53_36, e53_38, w53_38, c53_39, c53_40, c53_41, c53_42, c53_43, c53_44, c53_45, c53_46, c53_47]
  first | refine callD (message_used_ok _) ?_ | refine callQD (message_used_ok _) ?_
  first | refine callD (hk) ?_ | refine callQD (hk) ?_
  simp -implicitDefEqProofs (disch := omega) only [go_sem, Nat.reduceAdd, Nat.reduceMul, Nat.reduceSub, Nat.reduceBEq, Nat.reduceLeDiff, Nat.reduceLT, fn_message_Check, e53_1, w53_1, e53_3, w53_3, c53_4, e53_6, w53_6, e53_8, w53_8, c53_9, e53_11, w53_11, e53_13, w53_13, c53_14, e53_16, w53_16, e53_18, w53_18, c53_19, e53_21, w53_21, e53_23, w53_23, c53_24, e53_26, w53_26, e53_28, w53_28, c53_29, e53_31, w53_31, e53_33, w53_33, c53_34, e53_36, w53_36, e53_38, w53_38, c53_39, c53_40, c53_41, c53_42, c53_43, c53_44, c53_45, c53_46, c53_47]

/-! ### The reference's check of a message -/
theorem refCheck_tail (m : Msg) (u : Uses) (Q : Exit → Slots → Mem → Prop) (M : Mem) (hM : M = [.box m.row]) (h1 : argBad m u → Q .ret [(2, .int .i64 1)] M) (h0 : ¬ argBad m u → Q .ret [(2, .int .i64 0)] M) : ∀ s, sget s 1 = .ptr 0 0 → sget s 3 = .bool u.c → sget s 4 = .bool u.s → sget s 5 = .bool u.r → sget s 6 = .bool u.k → wpC PR c47_62 Q s M := by
  subst hM
  intro s g1 g3 g4 g5 g6
  obtain ⟨c, x, r, k⟩ := u
  obtain ⟨m1, m2, m3, m4, m5, m6, m7, m8, m9, m10, m11, m12, m13, m14⟩ := m
  simp only at g3 g4 g5 g6
  cases c <;> cases x <;> cases r <;> cases k <;> cases m12
  all_goals
    simp -implicitDefEqProofs (disch := omega) only [go_sem, Nat.reduceAdd, Nat.reduceMul, Nat.reduceSub, Nat.reduceBEq, Nat.reduceLeDiff, Nat.reduceLT, fn_transitref31_Check, e47_1, w47_1, e47_3, w47_3, c47_4, e47_6, w47_6, e47_8, w47_8, c47_9, e47_11, w47_11, e47_13, w47_13, c47_14, e47_16, w47_16, e47_18, w47_18, c47_19, e47_21, w47_21, e47_23, w47_23, c47_24, e47_26, w47_26, e47_28, w47_28, c47_29, e47_31, w47_31, e47_33, w47_33, c47_34, e47_36, w47_36, e47_38, w47_38, e47_40, w47_40, c47_41, e47_43, w47_43, e47_45, w47_45, e47_47, w47_47, c47_48, e47_50, w47_50, c47_51, e47_53, w47_53, e47_55, w47_55, c47_56, e47_58, w47_58, e47_60, w47_60, c47_61, c47_62, c47_63, c47_64, c47_65, c47_66, c47_67, c47_68, c47_69, c47_70, c47_71, c47_72, c47_73, g1, g3, g4, g5, g6, Msg.row, lenV_slice]
    repeat' (first
      | simp -implicitDefEqProofs (disch := omega) only [go_sem, Nat.reduceAdd, Nat.reduceMul, Nat.reduceSub, Nat.reduceBEq, Nat.reduceLeDiff, Nat.reduceLT, fn_transitref31_Check, e47_1, w47_1, e47_3, w47_3, c47_4, e47_6, w47_6, e47_8, w47_8, c47_9, e47_11, w47_11, e47_13, w47_13, c47_14, e47_16, w47_16, e47_18, w47_18, c47_19, e47_21, w47_21, e47_23, w47_23, c47_24, e47_26, w47_26, e47_28, w47_28, c47_29, e47_31, w47_31, e47_33, w47_33, c47_34, e47_36, w47_36, e47_38, w47_38, e47_40, w47_40, c47_41, e47_43, w47_43, e47_45, w47_45, e47_47, w47_47, c47_48, e47_50, w47_50, c47_51, e47_53, w47_53, e47_55, w47_55, c47_56, e47_58, w47_58, e47_60, w47_60, c47_61, c47_62, c47_63, c47_64, c47_65, c47_66, c47_67, c47_68, c47_69, c47_70, c47_71, c47_72, c47_73, g1, g3, g4, g5, g6, Msg.row, lenV_slice]
      | (refine ifD (fun h => ?_) (fun h => ?_)))
  all_goals first
    | (refine h1 ?_
       simp only [argBad, true_and, Bool.false_eq_true, Bool.true_eq_false, false_and, or_true, or_false, true_or, false_or, ne_eq]
       try (first | trivial | omega | (simp; omega))
       done)
    | (refine h0 ?_
       simp only [argBad, true_and, Bool.false_eq_true, Bool.true_eq_false, false_and, or_true, or_false, true_or, false_or, ne_eq]
       try (first | trivial | omega | (simp; omega))
       done)

theorem refCheck_mid (m : Msg) (u : Uses) (hlen : m.calls.length ≤ maxLen) (Q : Exit → Slots → Mem → Prop) (M : Mem) (hM : M = [.box m.row]) (hq : Q .ret [(2, .int .i64 (if callsErr m u ≠ 0 then callsErr m u else if argBad m u then 1 else 0))] M) :
    ∀ s, sget s 1 = .ptr 0 0 → sget s 3 = .bool u.c → sget s 4 = .bool u.s → sget s 5 = .bool u.r → sget s 6 = .bool u.k → wpC PR c47_63 Q s M := by
  intro s g1 g3 g4 g5 g6
  subst hM
  have tail : callsErr m u = 0 → ∀ s, sget s 1 = .ptr 0 0 → sget s 3 = .bool u.c → sget s 4 = .bool u.s → sget s 5 = .bool u.r → sget s 6 = .bool u.k → wpC PR c47_62 Q s [.box m.row] := fun h0 =>
    refCheck_tail m u Q _ rfl (fun h => by rwa [if_neg (fun e => e h0), if_pos h] at hq) (fun h => by rwa [if_neg (fun e => e h0), if_neg h] at hq)
  cases hk : u.k with
  | false =>
    rw [hk] at g6
    have e : callsErr m u = 0 := by rw [callsErr, if_neg (by simp [hk])]
    have t := tail e
    rw [hk] at t
    simp -implicitDefEqProofs (disch := omega) only [go_sem, Nat.reduceAdd, Nat.reduceMul, Nat.reduceSub, Nat.reduceBEq, Nat.reduceLeDiff, Nat.reduceLT, fn_transitref31_Check, e47_1, w47_1, e47_3, w47_3, c47_4, e47_6, w47_6, e47_8, w47_8, c47_9, e47_11, w47_11, e47_13, w47_13, c47_14, e47_16, w47_16, e47_18, w47_18, c47_19, e47_21, w47_21, e47_23, w47_23, c47_24, e47_26, w47_26, e47_28, w47_28, c47_29, e47_31, w47_31, e47_33, w47_33, c47_34, e47_36, w47_36, e47_38, w47_38, e47_40, w47_40, c47_41, e47_43, w47_43, e47_45, w47_45, e47_47, w47_47, c47_48, e47_50, w47_50, c47_51, e47_53, w47_53, e47_55, w47_55, c47_56, e47_58, w47_58, e47_60, w47_60, c47_61, c47_63, c47_64, c47_65, c47_66, c47_67, c47_68, c47_69, c47_70, c47_71, c47_72, c47_73, g1, g3, g4, g5, g6]
    exact t _ (by rfl) (by rfl) (by rfl) (by rfl) (by rfl)
  | true =>
    rw [hk] at g6
    have e : callsErr m u = (checkC m.calls 64 0 3155932800).2 := by rw [callsErr, if_pos hk]
    have hc := ref16_Check_any m.calls m.tag 64 0 3155932800 hlen
    simp -implicitDefEqProofs (disch := omega) only [go_sem, Nat.reduceAdd, Nat.reduceMul, Nat.reduceSub, Nat.reduceBEq, Nat.reduceLeDiff, Nat.reduceLT, fn_transitref31_Check, e47_1, w47_1, e47_3, w47_3, c47_4, e47_6, w47_6, e47_8, w47_8, c47_9, e47_11, w47_11, e47_13, w47_13, c47_14, e47_16, w47_16, e47_18, w47_18, c47_19, e47_21, w47_21, e47_23, w47_23, c47_24, e47_26, w47_26, e47_28, w47_28, c47_29, e47_31, w47_31, e47_33, w47_33, c47_34, e47_36, w47_36, e47_38, w47_38, e47_40, w47_40, c47_41, e47_43, w47_43, e47_45, w47_45, e47_47, w47_47, c47_48, e47_50, w47_50, c47_51, e47_53, w47_53, e47_55, w47_55, c47_56, e47_58, w47_58, e47_60, w47_60, c47_61, c47_63, c47_64, c47_65, c47_66, c47_67, c47_68, c47_69, c47_70, c47_71, c47_72, c47_73, g1, g3, g4, g5, g6, Msg.row]
    first | refine callD (hc) ?_ | refine callQD (hc) ?_
    simp -implicitDefEqProofs (disch := omega) only [go_sem, Nat.reduceAdd, Nat.reduceMul, Nat.reduceSub, Nat.reduceBEq, Nat.reduceLeDiff, Nat.reduceLT, fn_transitref31_Check, e47_1, w47_1, e47_3, w47_3, c47_4, e47_6, w47_6, e47_8, w47_8, c47_9, e47_11, w47_11, e47_13, w47_13, c47_14, e47_16, w47_16, e47_18, w47_18, c47_19, e47_21, w47_21, e47_23, w47_23, c47_24, e47_26, w47_26, e47_28, w47_28, c47_29, e47_31, w47_31, e47_33, w47_33, c47_34, e47_36, w47_36, e47_38, w47_38, e47_40, w47_40, c47_41, e47_43, w47_43, e47_45, w47_45, e47_47, w47_47, c47_48, e47_50, w47_50, c47_51, e47_53, w47_53, e47_55, w47_55, c47_56, e47_58, w47_58, e47_60, w47_60, c47_61, c47_63, c47_64, c47_65, c47_66, c47_67, c47_68, c47_69, c47_70, c47_71, c47_72, c47_73, pairV, ← e]
    refine ifD (fun h => ?_) (fun h => ?_)
    · have h0 : callsErr m u = 0 := h
      have t := tail h0
      rw [hk] at t
      simp only [Msg.row] at t
      simp -implicitDefEqProofs (disch := omega) only [go_sem, Nat.reduceAdd, Nat.reduceMul, Nat.reduceSub, Nat.reduceBEq, Nat.reduceLeDiff, Nat.reduceLT, fn_transitref31_Check, e47_1, w47_1, e47_3, w47_3, c47_4, e47_6, w47_6, e47_8, w47_8, c47_9, e47_11, w47_11, e47_13, w47_13, c47_14, e47_16, w47_16, e47_18, w47_18, c47_19, e47_21, w47_21, e47_23, w47_23, c47_24, e47_26, w47_26, e47_28, w47_28, c47_29, e47_31, w47_31, e47_33, w47_33, c47_34, e47_36, w47_36, e47_38, w47_38, e47_40, w47_40, c47_41, e47_43, w47_43, e47_45, w47_45, e47_47, w47_47, c47_48, e47_50, w47_50, c47_51, e47_53, w47_53, e47_55, w47_55, c47_56, e47_58, w47_58, e47_60, w47_60, c47_61, c47_63, c47_64, c47_65, c47_66, c47_67, c47_68, c47_69, c47_70, c47_71, c47_72, c47_73]
      exact t _ (by rfl) (by rfl) (by rfl) (by rfl) (by rfl)
    · rw [if_pos h] at hq
      simp only [Msg.row] at hq
      simp -implicitDefEqProofs (disch := omega) only [go_sem, Nat.reduceAdd, Nat.reduceMul, Nat.reduceSub, Nat.reduceBEq, Nat.reduceLeDiff, Nat.reduceLT, fn_transitref31_Check, e47_1, w47_1, e47_3, w47_3, c47_4, e47_6, w47_6, e47_8, w47_8, c47_9, e47_11, w47_11, e47_13, w47_13, c47_14, e47_16, w47_16, e47_18, w47_18, c47_19, e47_21, w47_21, e47_23, w47_23, c47_24, e47_26, w47_26, e47_28, w47_28, c47_29, e47_31, w47_31, e47_33, w47_33, c47_34, e47_36, w47_36, e47_38, w47_38, e47_40, w47_40, c47_41, e47_43, w47_43, e47_45, w47_45, e47_47, w47_47, c47_48, e47_50, w47_50, c47_51, e47_53, w47_53, e47_55, w47_55, c47_56, e47_58, w47_58, e47_60, w47_60, c47_61, c47_63, c47_64, c47_65, c47_66, c47_67, c47_68, c47_69, c47_70, c47_71, c47_72, c47_73]
      exact hq

theorem refCheck_head (m : Msg) (u : Uses) (hlen : m.calls.length ≤ maxLen) (Q : Exit → Slots → Mem → Prop) (M : Mem) (hM : M = [.box m.row]) (hq : Q .ret [(2, .int .i64 (kindErr m u))] M) :
    ∀ s, sget s 1 = .ptr 0 0 → sget s 3 = .bool u.c → sget s 4 = .bool u.s → sget s 5 = .bool u.r → sget s 6 = .bool u.k → wpC PR c47_64 Q s M := by
  intro s g1 g3 g4 g5 g6
  have bad : rangeBad m u → Q .ret [(2, .int .i64 2)] M := fun h => by rwa [kindErr, if_pos h] at hq
  have good : ¬ rangeBad m u → ∀ s, sget s 1 = .ptr 0 0 → sget s 3 = .bool u.c → sget s 4 = .bool u.s → sget s 5 = .bool u.r → sget s 6 = .bool u.k → wpC PR c47_63 Q s M := fun h =>
    refCheck_mid m u hlen Q M hM (by rwa [kindErr, if_neg h] at hq)
  subst hM
  clear hq hlen
  obtain ⟨c, x, r, k⟩ := u
  simp only at g3 g4 g5 g6
  cases c <;> cases x <;> cases r
  all_goals
    simp -implicitDefEqProofs (disch := omega) only [go_sem, Nat.reduceAdd, Nat.reduceMul, Nat.reduceSub, Nat.reduceBEq, Nat.reduceLeDiff, Nat.reduceLT, fn_transitref31_Check, e47_1, w47_1, e47_3, w47_3, c47_4, e47_6, w47_6, e47_8, w47_8, c47_9, e47_11, w47_11, e47_13, w47_13, c47_14, e47_16, w47_16, e47_18, w47_18, c47_19, e47_21, w47_21, e47_23, w47_23, c47_24, e47_26, w47_26, e47_28, w47_28, c47_29, e47_31, w47_31, e47_33, w47_33, c47_34, e47_36, w47_36, e47_38, w47_38, e47_40, w47_40, c47_41, e47_43, w47_43, e47_45, w47_45, e47_47, w47_47, c47_48, e47_50, w47_50, c47_51, e47_53, w47_53, e47_55, w47_55, c47_56, e47_58, w47_58, e47_60, w47_60, c47_61, c47_62, c47_64, c47_65, c47_66, c47_67, c47_68, c47_69, c47_70, c47_71, c47_72, c47_73, g1, g3, g4, g5, g6, Msg.row]
    repeat' (first
      | simp -implicitDefEqProofs (disch := omega) only [go_sem, Nat.reduceAdd, Nat.reduceMul, Nat.reduceSub, Nat.reduceBEq, Nat.reduceLeDiff, Nat.reduceLT, fn_transitref31_Check, e47_1, w47_1, e47_3, w47_3, c47_4, e47_6, w47_6, e47_8, w47_8, c47_9, e47_11, w47_11, e47_13, w47_13, c47_14, e47_16, w47_16, e47_18, w47_18, c47_19, e47_21, w47_21, e47_23, w47_23, c47_24, e47_26, w47_26, e47_28, w47_28, c47_29, e47_31, w47_31, e47_33, w47_33, c47_34, e47_36, w47_36, e47_38, w47_38, e47_40, w47_40, c47_41, e47_43, w47_43, e47_45, w47_45, e47_47, w47_47, c47_48, e47_50, w47_50, c47_51, e47_53, w47_53, e47_55, w47_55, c47_56, e47_58, w47_58, e47_60, w47_60, c47_61, c47_62, c47_64, c47_65, c47_66, c47_67, c47_68, c47_69, c47_70, c47_71, c47_72, c47_73, g1, g3, g4, g5, g6, Msg.row]
      | (refine ifD (fun h => ?_) (fun h => ?_)))
  all_goals first
    | (refine bad ?_
       simp only [rangeBad, true_and, Bool.false_eq_true, false_and, or_false, false_or]
       omega)
    | (refine good ?_ _ (by first | rfl | exact g1) (by first | rfl | exact g3) (by first | rfl | exact g4) (by first | rfl | exact g5) (by first | rfl | exact g6)
       simp only [rangeBad, true_and, Bool.false_eq_true, false_and, or_false, false_or, or_self, not_false_eq_true]
       try omega
       done)

theorem refCheck_kind (m : Msg) (hlen : m.calls.length ≤ maxLen) (Q : Exit → Slots → Mem → Prop) (M : Mem) (hM : M = [.box m.row]) (hq : Q .ret [(2, .int .i64 (kindErr m (usesOf m.kind)))] M) : ∀ s, sget s 1 = .ptr 0 0 → wpC PR c47_65 Q s M := by
  intro s g1
  have head := refCheck_head m (usesOf m.kind) hlen Q M hM hq
  subst hM
  clear hq
  simp only [usesOf] at head
  simp only [Msg.row] at head
  by_cases h1 : m.kind = 1
  · have e2 : decide (m.kind = 4) = false := decide_eq_false (by omega)
    have e3 : decide (m.kind = 5) = false := decide_eq_false (by omega)
    simp -implicitDefEqProofs (disch := omega) only [go_sem, Nat.reduceAdd, Nat.reduceMul, Nat.reduceSub, Nat.reduceBEq, Nat.reduceLeDiff, Nat.reduceLT, fn_transitref31_Check, e47_1, w47_1, e47_3, w47_3, c47_4, e47_6, w47_6, e47_8, w47_8, c47_9, e47_11, w47_11, e47_13, w47_13, c47_14, e47_16, w47_16, e47_18, w47_18, c47_19, e47_21, w47_21, e47_23, w47_23, c47_24, e47_26, w47_26, e47_28, w47_28, c47_29, e47_31, w47_31, e47_33, w47_33, c47_34, e47_36, w47_36, e47_38, w47_38, e47_40, w47_40, c47_41, e47_43, w47_43, e47_45, w47_45, e47_47, w47_47, c47_48, e47_50, w47_50, c47_51, e47_53, w47_53, e47_55, w47_55, c47_56, e47_58, w47_58, e47_60, w47_60, c47_61, c47_62, c47_63, c47_65, c47_66, c47_67, c47_68, c47_69, c47_70, c47_71, c47_72, c47_73, g1, Msg.row, h1, show decide ((1 : Int) = 4) = false from rfl, show decide ((1 : Int) = 5) = false from rfl]
    rw [h1] at head
    exact head _ (by rfl) (by rfl) (by rfl) (by rfl) (by rfl)
  by_cases h2 : m.kind = 3
  · simp -implicitDefEqProofs (disch := omega) only [go_sem, Nat.reduceAdd, Nat.reduceMul, Nat.reduceSub, Nat.reduceBEq, Nat.reduceLeDiff, Nat.reduceLT, fn_transitref31_Check, e47_1, w47_1, e47_3, w47_3, c47_4, e47_6, w47_6, e47_8, w47_8, c47_9, e47_11, w47_11, e47_13, w47_13, c47_14, e47_16, w47_16, e47_18, w47_18, c47_19, e47_21, w47_21, e47_23, w47_23, c47_24, e47_26, w47_26, e47_28, w47_28, c47_29, e47_31, w47_31, e47_33, w47_33, c47_34, e47_36, w47_36, e47_38, w47_38, e47_40, w47_40, c47_41, e47_43, w47_43, e47_45, w47_45, e47_47, w47_47, c47_48, e47_50, w47_50, c47_51, e47_53, w47_53, e47_55, w47_55, c47_56, e47_58, w47_58, e47_60, w47_60, c47_61, c47_62, c47_63, c47_65, c47_66, c47_67, c47_68, c47_69, c47_70, c47_71, c47_72, c47_73, g1, Msg.row, h2, show decide ((3 : Int) = 1) = false from rfl, show decide ((3 : Int) = 4) = false from rfl, show decide ((3 : Int) = 5) = false from rfl]
    rw [h2] at head
    exact head _ (by rfl) (by rfl) (by rfl) (by rfl) (by rfl)
  by_cases h3 : m.kind = 4
  · simp -implicitDefEqProofs (disch := omega) only [go_sem, Nat.reduceAdd, Nat.reduceMul, Nat.reduceSub, Nat.reduceBEq, Nat.reduceLeDiff, Nat.reduceLT, fn_transitref31_Check, e47_1, w47_1, e47_3, w47_3, c47_4, e47_6, w47_6, e47_8, w47_8, c47_9, e47_11, w47_11, e47_13, w47_13, c47_14, e47_16, w47_16, e47_18, w47_18, c47_19, e47_21, w47_21, e47_23, w47_23, c47_24, e47_26, w47_26, e47_28, w47_28, c47_29, e47_31, w47_31, e47_33, w47_33, c47_34, e47_36, w47_36, e47_38, w47_38, e47_40, w47_40, c47_41, e47_43, w47_43, e47_45, w47_45, e47_47, w47_47, c47_48, e47_50, w47_50, c47_51, e47_53, w47_53, e47_55, w47_55, c47_56, e47_58, w47_58, e47_60, w47_60, c47_61, c47_62, c47_63, c47_65, c47_66, c47_67, c47_68, c47_69, c47_70, c47_71, c47_72, c47_73, g1, Msg.row, h3, show decide ((4 : Int) = 1) = false from rfl, show decide ((4 : Int) = 3) = false from rfl, show decide ((4 : Int) = 5) = false from rfl]
    rw [h3] at head
    exact head _ (by rfl) (by rfl) (by rfl) (by rfl) (by rfl)
  by_cases h4 : m.kind = 5
  · simp -implicitDefEqProofs (disch := omega) only [go_sem, Nat.reduceAdd, Nat.reduceMul, Nat.reduceSub, Nat.reduceBEq, Nat.reduceLeDiff, Nat.reduceLT, fn_transitref31_Check, e47_1, w47_1, e47_3, w47_3, c47_4, e47_6, w47_6, e47_8, w47_8, c47_9, e47_11, w47_11, e47_13, w47_13, c47_14, e47_16, w47_16, e47_18, w47_18, c47_19, e47_21, w47_21, e47_23, w47_23, c47_24, e47_26, w47_26, e47_28, w47_28, c47_29, e47_31, w47_31, e47_33, w47_33, c47_34, e47_36, w47_36, e47_38, w47_38, e47_40, w47_40, c47_41, e47_43, w47_43, e47_45, w47_45, e47_47, w47_47, c47_48, e47_50, w47_50, c47_51, e47_53, w47_53, e47_55, w47_55, c47_56, e47_58, w47_58, e47_60, w47_60, c47_61, c47_62, c47_63, c47_65, c47_66, c47_67, c47_68, c47_69, c47_70, c47_71, c47_72, c47_73, g1, Msg.row, h4, show decide ((5 : Int) = 1) = false from rfl, show decide ((5 : Int) = 3) = false from rfl, show decide ((5 : Int) = 4) = false from rfl]
    rw [h4] at head
    exact head _ (by rfl) (by rfl) (by rfl) (by rfl) (by rfl)
  have e1 : decide (m.kind = 1) = false := decide_eq_false h1
  have e2 : decide (m.kind = 3) = false := decide_eq_false h2
  have e3 : decide (m.kind = 4) = false := decide_eq_false h3
  have e4 : decide (m.kind = 5) = false := decide_eq_false h4
  simp -implicitDefEqProofs (disch := omega) only [go_sem, Nat.reduceAdd, Nat.reduceMul, Nat.reduceSub, Nat.reduceBEq, Nat.reduceLeDiff, Nat.reduceLT, fn_transitref31_Check, e47_1, w47_1, e47_3, w47_3, c47_4, e47_6, w47_6, e47_8, w47_8, c47_9, e47_11, w47_11, e47_13, w47_13, c47_14, e47_16, w47_16, e47_18, w47_18, c47_19, e47_21, w47_21, e47_23, w47_23, c47_24, e47_26, w47_26, e47_28, w47_28, c47_29, e47_31, w47_31, e47_33, w47_33, c47_34, e47_36, w47_36, e47_38, w47_38, e47_40, w47_40, c47_41, e47_43, w47_43, e47_45, w47_45, e47_47, w47_47, c47_48, e47_50, w47_50, c47_51, e47_53, w47_53, e47_55, w47_55, c47_56, e47_58, w47_58, e47_60, w47_60, c47_61, c47_62, c47_63, c47_65, c47_66, c47_67, c47_68, c47_69, c47_70, c47_71, c47_72, c47_73, g1, Msg.row, e1, e2, e3, e4]
  rw [show decide (m.kind = 1 ∨ m.kind = 3) = false from decide_eq_false (by omega), e1, e4, show decide (m.kind = 4 ∨ m.kind = 5) = false from decide_eq_false (by omega)] at head
  exact head _ (by rfl) (by rfl) (by rfl) (by rfl) (by rfl)

end Go.Vm.C

