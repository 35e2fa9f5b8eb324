/- Contracts: the reference's active messages; inboxes compared. -/
import Derived.Test.YtmbeokppfdalfaaT12

namespace Go.Vm.C
open Go.Vm
set_option maxHeartbeats 1000000
set_option maxRecDepth 10000
set_option linter.unusedSimpArgs false
set_option linter.unusedVariables false

/-! ### The reference's active messages -/
def rActStep (r : RBox) (now : Int) (out : List Msg) (m : Msg) : List Msg := if rAct r now m = true then insM out m else out
def rActUp (r : RBox) (now : Int) (i : Nat) : List Msg := (r.kept.take i).foldl (rActStep r now) []
def rActL (r : RBox) (now : Int) : List Msg := r.kept.foldl (rActStep r now) []
theorem rActUp_succ {r : RBox} {i : Nat} {m : Msg} (h : r.kept[i]? = some m) (now : Int) : rActUp r now (i + 1) = rActStep r now (rActUp r now i) m := by
  rw [rActUp, List.take_add_one, h, List.foldl_append]; rfl
theorem rActUp_len (r : RBox) (now : Int) : ∀ i, (rActUp r now i).length ≤ i
  | 0 => by simp [rActUp]
  | i + 1 => by
    have ih := rActUp_len r now i
    by_cases h : i < r.kept.length
    · rw [rActUp_succ (List.getElem?_eq_getElem h), rActStep]
      split
      · rw [insM_len]; omega
      · omega
    · rw [rActUp, List.take_of_length_le (by omega)]
      rw [rActUp, List.take_of_length_le (by omega)] at ih
      omega
/-- The list while an element is moved down to its place. -/
def gapL (l : List Msg) (y : Msg) (k : Nat) : List Msg := l.take k ++ y :: l.drop k
theorem gapL_len {l : List Msg} {y : Msg} {k : Nat} (h : k ≤ l.length) : (gapL l y k).length = l.length + 1 := by simp [gapL]; omega
theorem gapL_at {l : List Msg} {y : Msg} {k : Nat} (h : k ≤ l.length) : (gapL l y k)[k]? = some y := by
  rw [gapL, List.getElem?_append_right (by simp; omega), List.length_take, Nat.min_eq_left h, Nat.sub_self]; rfl
theorem gapL_below {l : List Msg} {y x : Msg} {k : Nat} (h : l[k]? = some x) : (gapL l y (k + 1))[k]? = some x := by
  have hk := (List.getElem?_eq_some_iff.1 h).1
  rw [gapL, List.getElem?_append_left (by simp; omega), List.getElem?_take_of_lt (by omega), h]
theorem gapL_set {l : List Msg} {y z : Msg} {k : Nat} (h : k ≤ l.length) : (gapL l y k).set k z = gapL l z k := by
  rw [gapL, List.set_append, if_neg (by simp; omega), List.length_take, Nat.min_eq_left h, Nat.sub_self]; rfl
theorem gapL_down {l : List Msg} {x : Msg} {k : Nat} (h : l[k]? = some x) : gapL l x (k + 1) = gapL l x k := by
  have hk := (List.getElem?_eq_some_iff.1 h).1
  have e : l.drop k = x :: l.drop (k + 1) := by
    rw [List.drop_eq_getElem_cons hk]
    have := (List.getElem?_eq_some_iff.1 h).2
    rw [this]
  rw [gapL, gapL, List.take_add_one, h, e]
  simp
theorem gapL_end (l : List Msg) (m : Msg) : gapL l m l.length = l ++ [m] := by simp [gapL]
theorem gapL_ins {l : List Msg} {m : Msg} {k : Nat} (h : insPos l m l.length = k) : gapL l m k = insM l m := by rw [insM, h]; rfl
theorem gapL_row {l : List Msg} {y z : Msg} {k : Nat} (h : k ≤ l.length) : ((gapL l y k).map Msg.row).set k z.row = (gapL l z k).map Msg.row := by
  rw [← gapL_set (y := y) (z := z) h, List.map_set]

theorem refActive_tail (l : List Msg) (m y : Msg) (k : Nat) (hk : k ≤ l.length) (hl : l.length ≤ 1000) (e : insPos l m l.length = k) (Q : Exit → Slots → Mem → Prop) (B0 : Blk) (ver : Nat) (v1 v2 v6 : V) (q : Q .normal [(1, v1), (2, v2), (5, .mslice 1 ver 0 (l.length + 1)), (6, v6)] [B0, .arr 13 ((insM l m).map Msg.row) ver 0, .box m.row]) :
    ∀ s, sget s 1 = v1 → sget s 2 = v2 → sget s 5 = .mslice 1 ver 0 (l.length + 1) → sget s 6 = v6 → sget s 7 = .ptr 2 0 → sget s 8 = .int .i64 k → wpC PR c51_28 Q s [B0, .arr 13 ((gapL l y k).map Msg.row) ver 0, .box m.row] := by
  intro s g1 g2 g5 g6 g7 g8
  have hlen := gapL_len (y := y) hk
  have hat := gapL_at (y := y) hk
  have hset := gapL_row (y := y) (z := m) hk
  rw [gapL_ins e] at hset
  simp only [Msg.row] at hset q
  generalize gapL l y k = G at *
  have b1 : decide (k < l.length + 1) = true := decide_eq_true (by omega)
  simp -implicitDefEqProofs (disch := omega) only [go_sem, Nat.reduceAdd, Nat.reduceMul, Nat.reduceSub, Nat.reduceBEq, Nat.reduceLeDiff, Nat.reduceLT, fn_transitref32_Active, e51_1, w51_1, e51_3, w51_3, e51_5, w51_5, e51_7, w51_7, e51_9, w51_9, e51_11, w51_11, e51_13, w51_13, e51_15, w51_15, e51_17, w51_17, e51_19, w51_19, e51_21, w51_21, c51_22, c51_23, c51_24, c51_25, c51_26, e51_28, w51_28, c51_29, c51_30, c51_31, c51_32, c51_33, c51_34, e51_36, w51_36, c51_37, c51_38, c51_39, c51_40, c51_41, e51_43, w51_43, c51_44, c51_45, c51_46, c51_47, g1, g2, g5, g6, g7, g8, Msg.row, hlen, hat, hset, b1]
  exact q

theorem ref_Active_ok (r : RBox) (hok : r.Ok) (now : Int) (hn : I64 now) : PCalls PR i_transitref32_Active [.agg r.row, .int .i64 now] (fun v => v = .slice ((rActL r now).map Msg.row) .unk) := by
  have hkl := hok.kept
  refine acalls_pop fn_transitref32_Active_ok (by simp [fn_transitref32_Active]) ?_
  simp -implicitDefEqProofs (disch := omega) only [go_sem, Nat.reduceAdd, Nat.reduceMul, Nat.reduceSub, Nat.reduceBEq, Nat.reduceLeDiff, Nat.reduceLT, fn_transitref32_Active, e51_1, w51_1, e51_3, w51_3, e51_5, w51_5, e51_7, w51_7, e51_9, w51_9, e51_11, w51_11, e51_13, w51_13, e51_15, w51_15, e51_17, w51_17, e51_19, w51_19, e51_21, w51_21, c51_22, c51_23, c51_24, c51_25, c51_26, e51_28, w51_28, c51_29, c51_30, c51_31, c51_32, c51_33, c51_34, e51_36, w51_36, c51_37, c51_38, c51_39, c51_40, c51_41, e51_43, w51_43, c51_44, c51_45, c51_46, c51_47, RBox.row]
  refine wpC_forL r.kept (fun i vs M => ∃ ver, vs = [.int .i64 now, .ptr 0 0, .mslice 1 ver 0 (rActUp r now i).length, .int .i64 i] ∧ M = [.box r.row, .arr 13 ((rActUp r now i).map Msg.row) ver 0]) ⟨0, rfl, rfl⟩ ?_ ?_
  rotate_left
  · rintro vs M ⟨ver, rfl, rfl⟩
    have e : rActUp r now r.kept.length = rActL r now := by rw [rActUp, List.take_length]; rfl
    have etk : List.take (rActL r now).length ((rActL r now).map Msg.row) = (rActL r now).map Msg.row := List.take_of_length_le (by simp)
    rw [e]
    simp -implicitDefEqProofs (disch := omega) only [go_sem, Nat.reduceAdd, Nat.reduceMul, Nat.reduceSub, Nat.reduceBEq, Nat.reduceLeDiff, Nat.reduceLT, fn_transitref32_Active, e51_1, w51_1, e51_3, w51_3, e51_5, w51_5, e51_7, w51_7, e51_9, w51_9, e51_11, w51_11, e51_13, w51_13, e51_15, w51_15, e51_17, w51_17, e51_19, w51_19, e51_21, w51_21, c51_22, c51_23, c51_24, c51_25, c51_26, e51_28, w51_28, c51_29, c51_30, c51_31, c51_32, c51_33, c51_34, e51_36, w51_36, c51_37, c51_38, c51_39, c51_40, c51_41, e51_43, w51_43, c51_44, c51_45, c51_46, c51_47, RBox.row, List.length_map, dec_irrefl, etk]
  rintro i m vs M hm hi hd ⟨ver, rfl, rfl⟩
  have hac := ref_active_ok r hok hm now hn
  have hsn := rActUp_succ hm now
  have hll := rActUp_len r now i
  generalize hL : rActUp r now i = l at *
  have hma := msg_at hm
  simp only [RBox.row] at hac
  simp -implicitDefEqProofs (disch := omega) only [go_sem, Nat.reduceAdd, Nat.reduceMul, Nat.reduceSub, Nat.reduceBEq, Nat.reduceLeDiff, Nat.reduceLT, fn_transitref32_Active, e51_1, w51_1, e51_3, w51_3, e51_5, w51_5, e51_7, w51_7, e51_9, w51_9, e51_11, w51_11, e51_13, w51_13, e51_15, w51_15, e51_17, w51_17, e51_19, w51_19, e51_21, w51_21, c51_22, c51_23, c51_24, c51_25, c51_26, e51_28, w51_28, c51_29, c51_30, c51_31, c51_32, c51_33, c51_34, e51_36, w51_36, c51_37, c51_38, c51_39, c51_40, c51_41, e51_43, w51_43, c51_44, c51_45, c51_46, c51_47, RBox.row, List.length_map, hd]
  first | refine callD (hac) ?_ | refine callQD (hac) ?_
  simp -implicitDefEqProofs (disch := omega) only [go_sem, Nat.reduceAdd, Nat.reduceMul, Nat.reduceSub, Nat.reduceBEq, Nat.reduceLeDiff, Nat.reduceLT, fn_transitref32_Active, e51_1, w51_1, e51_3, w51_3, e51_5, w51_5, e51_7, w51_7, e51_9, w51_9, e51_11, w51_11, e51_13, w51_13, e51_15, w51_15, e51_17, w51_17, e51_19, w51_19, e51_21, w51_21, c51_22, c51_23, c51_24, c51_25, c51_26, e51_28, w51_28, c51_29, c51_30, c51_31, c51_32, c51_33, c51_34, e51_36, w51_36, c51_37, c51_38, c51_39, c51_40, c51_41, e51_43, w51_43, c51_44, c51_45, c51_46, c51_47]
  refine ifB (fun h1 => ?_) (fun h1 => ?_)
  rotate_left
  · have e : rActUp r now (i + 1) = l := by rw [hsn, rActStep, if_neg (by rw [h1]; simp)]
    simp -implicitDefEqProofs (disch := omega) only [go_sem, Nat.reduceAdd, Nat.reduceMul, Nat.reduceSub, Nat.reduceBEq, Nat.reduceLeDiff, Nat.reduceLT, fn_transitref32_Active, e51_1, w51_1, e51_3, w51_3, e51_5, w51_5, e51_7, w51_7, e51_9, w51_9, e51_11, w51_11, e51_13, w51_13, e51_15, w51_15, e51_17, w51_17, e51_19, w51_19, e51_21, w51_21, c51_22, c51_23, c51_24, c51_25, c51_26, e51_28, w51_28, c51_29, c51_30, c51_31, c51_32, c51_33, c51_34, e51_36, w51_36, c51_37, c51_38, c51_39, c51_40, c51_41, e51_43, w51_43, c51_44, c51_45, c51_46, c51_47]
    exact next_stay hi ⟨ver, by rw [e]; rfl, by rw [e]⟩
  have e : rActUp r now (i + 1) = insM l m := by rw [hsn, rActStep, if_pos h1]
  have eins : l.length + 1 = (insM l m).length := (insM_len l m).symm
  have ea : l.map Msg.row ++ [m.row] = (gapL l m l.length).map Msg.row := by rw [gapL_end]; simp
  simp only [Msg.row] at ea
  simp -implicitDefEqProofs (disch := omega) only [go_sem, Nat.reduceAdd, Nat.reduceMul, Nat.reduceSub, Nat.reduceBEq, Nat.reduceLeDiff, Nat.reduceLT, fn_transitref32_Active, e51_1, w51_1, e51_3, w51_3, e51_5, w51_5, e51_7, w51_7, e51_9, w51_9, e51_11, w51_11, e51_13, w51_13, e51_15, w51_15, e51_17, w51_17, e51_19, w51_19, e51_21, w51_21, c51_22, c51_23, c51_24, c51_25, c51_26, c51_29, c51_30, c51_31, c51_32, c51_33, c51_34, e51_36, w51_36, c51_37, c51_38, c51_39, c51_40, c51_41, e51_43, w51_43, c51_44, c51_45, c51_46, c51_47, RBox.row, List.length_map, hma, ea]
  refine wpC_for l.length (fun j vs N => insPos l m l.length = insPos l m (l.length - j) ∧ vs = [.int .i64 now, .ptr 0 0, .mslice 1 (ver + 1) 0 (l.length + 1), .int .i64 i, .ptr 2 0, .int .i64 ((l.length - j : Nat) : Int)] ∧
    ∃ y, N = [.box r.row, .arr 13 ((gapL l y (l.length - j)).map Msg.row) (ver + 1) 0, .box m.row]) ⟨rfl, rfl, m, rfl⟩ ?_ ?_
  · rintro j vs N hj hdj ⟨he, rfl, y, rfl⟩
    obtain ⟨k, hk⟩ : ∃ k, l.length - j = k + 1 := ⟨l.length - j - 1, by omega⟩
    have hk2 : k + 1 ≤ l.length := by omega
    have hcast : ((l.length - j : Nat) : Int) = ((k + 1 : Nat) : Int) := by rw [hk]
    rw [hk] at he
    rw [hcast, hk]
    obtain ⟨x, hx⟩ : ∃ x, l[k]? = some x := ⟨l[k]'(by omega), by simp⟩
    have hb := transitref32_before_ok m x
    have ek : ((k + 1 : Nat) : Int) - 1 = (k : Int) := by omega
    have hlen := gapL_len (y := y) hk2
    have hbel := gapL_below (y := y) hx
    have hat := gapL_at (y := y) hk2
    have hset := gapL_row (y := y) (z := x) hk2
    rw [gapL_down hx] at hset
    have b1 : decide (k < l.length + 1) = true := decide_eq_true (by omega)
    have b2 : decide (k + 1 < l.length + 1) = true := decide_eq_true (by omega)
    simp only [Msg.row] at hb hset
    generalize hG : gapL l y (k + 1) = G at *
    simp -implicitDefEqProofs (disch := omega) only [go_sem, Nat.reduceAdd, Nat.reduceMul, Nat.reduceSub, Nat.reduceBEq, Nat.reduceLeDiff, Nat.reduceLT, fn_transitref32_Active, e51_1, w51_1, e51_3, w51_3, e51_5, w51_5, e51_7, w51_7, e51_9, w51_9, e51_11, w51_11, e51_13, w51_13, e51_15, w51_15, e51_17, w51_17, e51_19, w51_19, e51_21, w51_21, c51_22, c51_23, c51_24, c51_25, c51_26, c51_29, c51_30, c51_31, c51_32, c51_33, c51_34, e51_36, w51_36, c51_37, c51_38, c51_39, c51_40, c51_41, e51_43, w51_43, c51_44, c51_45, c51_46, c51_47, RBox.row, Msg.row]
    refine ifD (fun h => ?_) (fun h => ?_)
    rotate_left
    · omega
    simp -implicitDefEqProofs (disch := omega) only [go_sem, Nat.reduceAdd, Nat.reduceMul, Nat.reduceSub, Nat.reduceBEq, Nat.reduceLeDiff, Nat.reduceLT, fn_transitref32_Active, e51_1, w51_1, e51_3, w51_3, e51_5, w51_5, e51_7, w51_7, e51_9, w51_9, e51_11, w51_11, e51_13, w51_13, e51_15, w51_15, e51_17, w51_17, e51_19, w51_19, e51_21, w51_21, c51_22, c51_23, c51_24, c51_25, c51_26, c51_29, c51_30, c51_31, c51_32, c51_33, c51_34, e51_36, w51_36, c51_37, c51_38, c51_39, c51_40, c51_41, e51_43, w51_43, c51_44, c51_45, c51_46, c51_47, ek, hbel, hlen, b1, Msg.row]
    first | refine callD (hb) ?_ | refine callQD (hb) ?_
    simp -implicitDefEqProofs (disch := omega) only [go_sem, Nat.reduceAdd, Nat.reduceMul, Nat.reduceSub, Nat.reduceBEq, Nat.reduceLeDiff, Nat.reduceLT, fn_transitref32_Active, e51_1, w51_1, e51_3, w51_3, e51_5, w51_5, e51_7, w51_7, e51_9, w51_9, e51_11, w51_11, e51_13, w51_13, e51_15, w51_15, e51_17, w51_17, e51_19, w51_19, e51_21, w51_21, c51_22, c51_23, c51_24, c51_25, c51_26, c51_29, c51_30, c51_31, c51_32, c51_33, c51_34, e51_36, w51_36, c51_37, c51_38, c51_39, c51_40, c51_41, e51_43, w51_43, c51_44, c51_45, c51_46, c51_47]
    refine ifB (fun h2 => ?_) (fun h2 => ?_)
    · have e4 : insPos l m (k + 1) = insPos l m k := by rw [insPos, hx]; simp only [h2, if_true]
      simp -implicitDefEqProofs (disch := omega) only [go_sem, Nat.reduceAdd, Nat.reduceMul, Nat.reduceSub, Nat.reduceBEq, Nat.reduceLeDiff, Nat.reduceLT, fn_transitref32_Active, e51_1, w51_1, e51_3, w51_3, e51_5, w51_5, e51_7, w51_7, e51_9, w51_9, e51_11, w51_11, e51_13, w51_13, e51_15, w51_15, e51_17, w51_17, e51_19, w51_19, e51_21, w51_21, c51_22, c51_23, c51_24, c51_25, c51_26, c51_29, c51_30, c51_31, c51_32, c51_33, c51_34, e51_36, w51_36, c51_37, c51_38, c51_39, c51_40, c51_41, e51_43, w51_43, c51_44, c51_45, c51_46, c51_47, ek, hbel, hat, hlen, b1, b2, hset, Msg.row]
      rw [← hk]
      refine next_stay hj ?_
      refine ⟨?_, ?_, x, ?_⟩
      · rw [he, e4, show l.length - (j + 1) = k from by omega]
      · rw [show l.length - (j + 1) = k from by omega]; rfl
      · rw [show l.length - (j + 1) = k from by omega]
    · have e4 : insPos l m (k + 1) = k + 1 := by rw [insPos, hx]; simp only [h2, Bool.false_eq_true, if_false]
      simp -implicitDefEqProofs (disch := omega) only [go_sem, Nat.reduceAdd, Nat.reduceMul, Nat.reduceSub, Nat.reduceBEq, Nat.reduceLeDiff, Nat.reduceLT, fn_transitref32_Active, e51_1, w51_1, e51_3, w51_3, e51_5, w51_5, e51_7, w51_7, e51_9, w51_9, e51_11, w51_11, e51_13, w51_13, e51_15, w51_15, e51_17, w51_17, e51_19, w51_19, e51_21, w51_21, c51_22, c51_23, c51_24, c51_25, c51_26, c51_29, c51_30, c51_31, c51_32, c51_33, c51_34, e51_36, w51_36, c51_37, c51_38, c51_39, c51_40, c51_41, e51_43, w51_43, c51_44, c51_45, c51_46, c51_47]
      have t := refActive_tail l m y (k + 1) hk2 (by omega) (he.trans e4)
      rw [hG] at t
      simp only [Msg.row] at t
      refine t _ _ _ _ _ _ ?_ _ rfl rfl rfl rfl rfl rfl
      simp -implicitDefEqProofs (disch := omega) only [go_sem, Nat.reduceAdd, Nat.reduceMul, Nat.reduceSub, Nat.reduceBEq, Nat.reduceLeDiff, Nat.reduceLT, fn_transitref32_Active, e51_1, w51_1, e51_3, w51_3, e51_5, w51_5, e51_7, w51_7, e51_9, w51_9, e51_11, w51_11, e51_13, w51_13, e51_15, w51_15, e51_17, w51_17, e51_19, w51_19, e51_21, w51_21, c51_22, c51_23, c51_24, c51_25, c51_26, c51_29, c51_30, c51_31, c51_32, c51_33, c51_34, e51_36, w51_36, c51_37, c51_38, c51_39, c51_40, c51_41, e51_43, w51_43, c51_44, c51_45, c51_46, c51_47]
      refine next_pop hi (by rfl) ?_
      exact ⟨ver + 1, by rw [e, ← eins]; rfl, by rw [e]; rfl⟩
  · rintro vs N ⟨he, rfl, y, rfl⟩
    rw [Nat.sub_self] at he
    rw [Nat.sub_self]
    simp -implicitDefEqProofs (disch := omega) only [go_sem, Nat.reduceAdd, Nat.reduceMul, Nat.reduceSub, Nat.reduceBEq, Nat.reduceLeDiff, Nat.reduceLT, fn_transitref32_Active, e51_1, w51_1, e51_3, w51_3, e51_5, w51_5, e51_7, w51_7, e51_9, w51_9, e51_11, w51_11, e51_13, w51_13, e51_15, w51_15, e51_17, w51_17, e51_19, w51_19, e51_21, w51_21, c51_22, c51_23, c51_24, c51_25, c51_26, c51_29, c51_30, c51_31, c51_32, c51_33, c51_34, e51_36, w51_36, c51_37, c51_38, c51_39, c51_40, c51_41, e51_43, w51_43, c51_44, c51_45, c51_46, c51_47, RBox.row, Msg.row]
    refine ifD (fun h => ?_) (fun h => ?_)
    · omega
    simp -implicitDefEqProofs (disch := omega) only [go_sem, Nat.reduceAdd, Nat.reduceMul, Nat.reduceSub, Nat.reduceBEq, Nat.reduceLeDiff, Nat.reduceLT, fn_transitref32_Active, e51_1, w51_1, e51_3, w51_3, e51_5, w51_5, e51_7, w51_7, e51_9, w51_9, e51_11, w51_11, e51_13, w51_13, e51_15, w51_15, e51_17, w51_17, e51_19, w51_19, e51_21, w51_21, c51_22, c51_23, c51_24, c51_25, c51_26, c51_29, c51_30, c51_31, c51_32, c51_33, c51_34, e51_36, w51_36, c51_37, c51_38, c51_39, c51_40, c51_41, e51_43, w51_43, c51_44, c51_45, c51_46, c51_47]
    have t := refActive_tail l m y 0 (by omega) (by omega) he
    simp only [Msg.row] at t
    refine t _ _ _ _ _ _ ?_ _ rfl rfl rfl rfl rfl rfl
    simp -implicitDefEqProofs (disch := omega) only [go_sem, Nat.reduceAdd, Nat.reduceMul, Nat.reduceSub, Nat.reduceBEq, Nat.reduceLeDiff, Nat.reduceLT, fn_transitref32_Active, e51_1, w51_1, e51_3, w51_3, e51_5, w51_5, e51_7, w51_7, e51_9, w51_9, e51_11, w51_11, e51_13, w51_13, e51_15, w51_15, e51_17, w51_17, e51_19, w51_19, e51_21, w51_21, c51_22, c51_23, c51_24, c51_25, c51_26, c51_29, c51_30, c51_31, c51_32, c51_33, c51_34, e51_36, w51_36, c51_37, c51_38, c51_39, c51_40, c51_41, e51_43, w51_43, c51_44, c51_45, c51_46, c51_47]
    exact next_pop hi (by rfl) ⟨ver + 1, by rw [e, ← eins]; rfl, by rw [e]; rfl⟩

/-! ### The active messages of both -/
theorem insPos_own (l : List Msg) (m : Msg) : ∀ k, insPos (l.map Msg.own) m.own k = insPos l m k
  | 0 => rfl
  | k + 1 => by
    have ih := insPos_own l m k
    rw [insPos, insPos, List.getElem?_map]
    cases l[k]? with
    | none => rfl
    | some x => simp only [Option.map_some, ih]; rfl
theorem insM_own (l : List Msg) (m : Msg) : (insM l m).map Msg.own = insM (l.map Msg.own) m.own := by
  rw [insM, insM, List.length_map, insPos_own]
  simp
def actG (P : Msg → Bool) (out : List Msg) (m : Msg) : List Msg := if P m = true then insM out m else out
theorem actG_own (P : Msg → Bool) (hP : ∀ m, P m.own = P m) : ∀ (l out : List Msg), (l.foldl (actG P) out).map Msg.own = (l.map Msg.own).foldl (actG P) (out.map Msg.own)
  | [], out => rfl
  | m :: l, out => by
    rw [List.foldl_cons, actG_own P hP l, List.map_cons, List.foldl_cons]
    congr 1
    unfold actG
    rw [hP m]
    split
    · exact insM_own out m
    · rfl
theorem actL_G (f : Msg → Bool) (hf : ∀ m, f m.own = f m) (cur : List Msg) : ∀ (l out : List Msg), (((l.filter f).map Msg.own).foldl (fun out m => if overB cur m = true then out else insM out m) out) = (l.map Msg.own).foldl (actG fun m => f m && !overB cur m) out
  | [], out => rfl
  | m :: l, out => by
    rw [List.map_cons, List.foldl_cons, List.filter_cons]
    cases h : f m with
    | true =>
      rw [if_pos rfl, List.map_cons, List.foldl_cons, actL_G f hf cur l]
      congr 1
      rw [actG, hf m, h]
      cases overB cur m.own <;> rfl
    | false =>
      rw [if_neg (by simp), actL_G f hf cur l]
      congr 1
      rw [actG, hf m, h]; rfl
theorem Rel.act {b : Ibx} {r : RBox} (h : Rel b r) (hok : b.Ok) (now : Int) : (activeL b now).map Msg.own = (rActL r now).map Msg.own := by
  have e1 : activeL b now = (b.kept.map Msg.own).foldl (actG fun m => curB b now m && !overB (keepM (curB b now) b.kept) m) [] := by
    rw [activeL, actL]
    exact actL_G (curB b now) (fun _ => rfl) _ _ _
  have e2 : (fun m => curB b now m && !overB (keepM (curB b now) b.kept) m) = rAct r now := by
    funext m
    rw [h.over hok, h.cur hok, rAct, Bool.and_comm]
  have e3 : rActL r now = r.kept.foldl (actG (rAct r now)) [] := rfl
  rw [e1, e2, e3, actG_own _ (fun _ => rfl), actG_own _ (fun _ => rfl), h.kept, map_own_own]

/-! ### Inboxes compared -/
theorem bool_neq_self (b : Bool) : binV .neq .bool (.bool b) (.bool b) = some (.bool false) := by cases b <;> rfl
theorem bool_eql_self (b : Bool) : binV .eql .bool (.bool b) (.bool b) = some (.bool true) := by cases b <;> rfl
theorem int_neq_self (n : Int) : binV .neq .none (.int .i64 n) (.int .i64 n) = some (.bool false) := by simp [binV, binInt]
theorem int_eql_self (n : Int) : binV .eql .none (.int .i64 n) (.int .i64 n) = some (.bool true) := by simp [binV, binInt]
theorem same_tail {M : Mem} {b : Ibx} {id sid : Nat} (h : InAt M b id sid) (hok : b.Ok) {r : RBox} (hr : Rel b r) (src now : Int) (hn : I64 now) (N : Mem) (hN : N = M ++ [.box r.row]) (Q : Exit → Slots → Mem → Prop) (q : Q .normal [(8, .bool true)] N) :
    ∀ s, sget s 0 = .ptr id 0 → sget s 2 = .int .i64 src → sget s 3 = .int .i64 now → sget s 5 = .ptr M.length 0 → sget s 14 = .int .i64 (rSeq r src).1 → sget s 15 = .bool (rSeq r src).2 → sget s 16 = .int .i64 (rSeq r src).1 → sget s 17 = .bool (rSeq r src).2 → wpC PR c27_30 Q s N := by
  intro s g0 g2 g3 g5 g14 g15 g16 g17
  have hI : InAt N b id sid := by rw [hN]; exact h.app _ rfl
  have hat : N[M.length]? = some (.box r.row) := by rw [hN]; exact mlast M _ _
  have hrok := hr.ok hok
  have f1 := Failed_ok hI hok src now hn
  have f2 := ref_Failed_ok r hrok src now hn
  rw [hr.fail hok] at f1
  have hms := Messages_ok hI hok
  obtain ⟨hal, hac⟩ := activeL_calls hok now
  have hkl := hok.kept
  have s1 := Same_ok (b.kept.map Msg.own) r.kept .unk r.kt (by simp; omega) (fun x hx => by
    obtain ⟨y, hy, rfl⟩ := List.mem_map.1 hx
    have := (hok.msg y hy).2.1
    show y.calls.length ≤ 1000
    omega)
  have s2 := Same_ok (activeL b now) (rActL r now) (capA (activeL b now)) .unk (by omega) hac
  have ha := Active_okc hI hok now hn
  have hra := ref_Active_ok r hrok now hn
  have e1 : (b.kept.map Msg.own).map Msg.own = r.kept.map Msg.own := by rw [map_own_own, hr.kept]
  have e2 := hr.act hok now
  clear hN
  simp only [RBox.row] at hat f2 hra
  simp -implicitDefEqProofs (disch := omega) only [go_sem, Nat.reduceAdd, Nat.reduceMul, Nat.reduceSub, Nat.reduceBEq, Nat.reduceLeDiff, Nat.reduceLT, fn_transitlaw32_same, e27_1, w27_1, e27_3, w27_3, e27_5, w27_5, e27_7, w27_7, e27_9, w27_9, e27_11, w27_11, c27_12, e27_14, w27_14, c27_15, c27_16, c27_17, e27_19, w27_19, c27_20, c27_21, c27_22, c27_23, c27_24, e27_26, w27_26, e27_28, w27_28, e27_30, w27_30, c27_31, c27_32, c27_33, c27_34, c27_35, g0, g2, g3, g5, g14, g15, g16, g17, int_eql_self, bool_eql_self]
  refine callQM f1 ?_
  simp -implicitDefEqProofs (disch := omega) only [go_sem, Nat.reduceAdd, Nat.reduceMul, Nat.reduceSub, Nat.reduceBEq, Nat.reduceLeDiff, Nat.reduceLT, fn_transitlaw32_same, e27_1, w27_1, e27_3, w27_3, e27_5, w27_5, e27_7, w27_7, e27_9, w27_9, e27_11, w27_11, c27_12, e27_14, w27_14, c27_15, c27_16, c27_17, e27_19, w27_19, c27_20, c27_21, c27_22, c27_23, c27_24, e27_26, w27_26, e27_28, w27_28, e27_30, w27_30, c27_31, c27_32, c27_33, c27_34, c27_35, hat, g0, g2, g3, g5]
  first | refine callD (f2) ?_ | refine callQD (f2) ?_
  simp -implicitDefEqProofs (disch := omega) only [go_sem, Nat.reduceAdd, Nat.reduceMul, Nat.reduceSub, Nat.reduceBEq, Nat.reduceLeDiff, Nat.reduceLT, fn_transitlaw32_same, e27_1, w27_1, e27_3, w27_3, e27_5, w27_5, e27_7, w27_7, e27_9, w27_9, e27_11, w27_11, c27_12, e27_14, w27_14, c27_15, c27_16, c27_17, e27_19, w27_19, c27_20, c27_21, c27_22, c27_23, c27_24, e27_26, w27_26, e27_28, w27_28, e27_30, w27_30, c27_31, c27_32, c27_33, c27_34, c27_35, bool_eql_self, g0, g2, g3, g5]
  refine callQM hms ?_
  simp -implicitDefEqProofs (disch := omega) only [go_sem, Nat.reduceAdd, Nat.reduceMul, Nat.reduceSub, Nat.reduceBEq, Nat.reduceLeDiff, Nat.reduceLT, fn_transitlaw32_same, e27_1, w27_1, e27_3, w27_3, e27_5, w27_5, e27_7, w27_7, e27_9, w27_9, e27_11, w27_11, c27_12, e27_14, w27_14, c27_15, c27_16, c27_17, e27_19, w27_19, c27_20, c27_21, c27_22, c27_23, c27_24, e27_26, w27_26, e27_28, w27_28, e27_30, w27_30, c27_31, c27_32, c27_33, c27_34, c27_35, hat, g0, g2, g3, g5]
  refine callP s1 ?_
  rintro v ⟨t1, rfl, ht1⟩
  rw [ht1.2 e1]
  simp -implicitDefEqProofs (disch := omega) only [go_sem, Nat.reduceAdd, Nat.reduceMul, Nat.reduceSub, Nat.reduceBEq, Nat.reduceLeDiff, Nat.reduceLT, fn_transitlaw32_same, e27_1, w27_1, e27_3, w27_3, e27_5, w27_5, e27_7, w27_7, e27_9, w27_9, e27_11, w27_11, c27_12, e27_14, w27_14, c27_15, c27_16, c27_17, e27_19, w27_19, c27_20, c27_21, c27_22, c27_23, c27_24, e27_26, w27_26, e27_28, w27_28, e27_30, w27_30, c27_31, c27_32, c27_33, c27_34, c27_35, g0, g2, g3, g5]
  refine callQM ha ?_
  simp -implicitDefEqProofs (disch := omega) only [go_sem, Nat.reduceAdd, Nat.reduceMul, Nat.reduceSub, Nat.reduceBEq, Nat.reduceLeDiff, Nat.reduceLT, fn_transitlaw32_same, e27_1, w27_1, e27_3, w27_3, e27_5, w27_5, e27_7, w27_7, e27_9, w27_9, e27_11, w27_11, c27_12, e27_14, w27_14, c27_15, c27_16, c27_17, e27_19, w27_19, c27_20, c27_21, c27_22, c27_23, c27_24, e27_26, w27_26, e27_28, w27_28, e27_30, w27_30, c27_31, c27_32, c27_33, c27_34, c27_35, hat, g0, g2, g3, g5]
  first | refine callD (hra) ?_ | refine callQD (hra) ?_
  refine callP s2 ?_
  rintro v ⟨t2, rfl, ht2⟩
  rw [ht2.2 e2]
  simp -implicitDefEqProofs (disch := omega) only [go_sem, Nat.reduceAdd, Nat.reduceMul, Nat.reduceSub, Nat.reduceBEq, Nat.reduceLeDiff, Nat.reduceLT, fn_transitlaw32_same, e27_1, w27_1, e27_3, w27_3, e27_5, w27_5, e27_7, w27_7, e27_9, w27_9, e27_11, w27_11, c27_12, e27_14, w27_14, c27_15, c27_16, c27_17, e27_19, w27_19, c27_20, c27_21, c27_22, c27_23, c27_24, e27_26, w27_26, e27_28, w27_28, e27_30, w27_30, c27_31, c27_32, c27_33, c27_34, c27_35, g0, g2, g3, g5]
  exact q

theorem same_ok {M : Mem} {b : Ibx} {id sid : Nat} (h : InAt M b id sid) (hok : b.Ok) {r : RBox} (hr : Rel b r) (src now : Int) (hn : I64 now) :
    ACalls PR i_transitlaw32_same [.ptr id 0, .agg r.row, .int .i64 src, .int .i64 now] M (fun v N => v = .bool true ∧ N = M) := by
  have hU := h.own
  have hrok := hr.ok hok
  have tk : (M ++ [Blk.box r.row]).take M.length = M := List.take_left
  have hle : decide (M.length ≤ (M ++ [Blk.box r.row]).length) = true := by simp
  have hat : (M ++ [Blk.box r.row])[M.length]? = some (.box r.row) := mlast M _ _
  have tail := same_tail h hok hr src now hn _ rfl
  have hI := h.app [.box r.row] rfl
  refine acalls_pop fn_transitlaw32_same_ok (by simp [fn_transitlaw32_same]) ?_
  simp -implicitDefEqProofs (disch := omega) only [go_sem, Nat.reduceAdd, Nat.reduceMul, Nat.reduceSub, Nat.reduceBEq, Nat.reduceLeDiff, Nat.reduceLT, fn_transitlaw32_same, e27_1, w27_1, e27_3, w27_3, e27_5, w27_5, e27_7, w27_7, e27_9, w27_9, e27_11, w27_11, c27_12, e27_14, w27_14, c27_15, c27_16, c27_17, e27_19, w27_19, c27_20, c27_21, c27_22, c27_23, c27_24, e27_26, w27_26, e27_28, w27_28, c27_31, c27_32, c27_33, c27_34, c27_35, RBox.row]
  have hrr : Blk.box [.int .i64 r.pat, .slice (r.srcs.map RSrc.row) r.st, .slice (r.kept.map Msg.row) r.kt] = Blk.box r.row := rfl
  rw [hrr]
  generalize hN : M ++ [Blk.box r.row] = N at *
  refine wpC_for 10 (fun i vs N' => vs = [.ptr id 0, .int .i64 src, .int .i64 now, .ptr M.length 0, .int .i64 ((i : Int) - 1)] ∧ N' = N) ⟨rfl, rfl⟩ ?_ ?_
  · rintro i vs N' hi hd ⟨rfl, rfl⟩
    have q1 := Sequence_ok hI ((i : Int) - 1)
    have q2 := ref_Sequence_ok r ((i : Int) - 1)
    have q3 := Failed_ok hI hok ((i : Int) - 1) now hn
    have q4 := ref_Failed_ok r hrok ((i : Int) - 1) now hn
    rw [hr.seq] at q1
    rw [hr.fail hok] at q3
    have hs : decide ((i : Int) - 1 < 9) = true := decide_eq_true (by omega)
    have hat' := hat
    simp only [RBox.row] at hat' q2 q4
    generalize hj : (i : Int) - 1 = j at *
    generalize hp : rSeq r j = p at *
    obtain ⟨p1, p2⟩ := p
    simp -implicitDefEqProofs (disch := omega) only [go_sem, Nat.reduceAdd, Nat.reduceMul, Nat.reduceSub, Nat.reduceBEq, Nat.reduceLeDiff, Nat.reduceLT, fn_transitlaw32_same, e27_1, w27_1, e27_3, w27_3, e27_5, w27_5, e27_7, w27_7, e27_9, w27_9, e27_11, w27_11, c27_12, e27_14, w27_14, c27_15, c27_16, c27_17, e27_19, w27_19, c27_20, c27_21, c27_22, c27_23, c27_24, e27_26, w27_26, e27_28, w27_28, c27_31, c27_32, c27_33, c27_34, c27_35, hs]
    refine callM q1 ?_
    simp -implicitDefEqProofs (disch := omega) only [go_sem, Nat.reduceAdd, Nat.reduceMul, Nat.reduceSub, Nat.reduceBEq, Nat.reduceLeDiff, Nat.reduceLT, fn_transitlaw32_same, e27_1, w27_1, e27_3, w27_3, e27_5, w27_5, e27_7, w27_7, e27_9, w27_9, e27_11, w27_11, c27_12, e27_14, w27_14, c27_15, c27_16, c27_17, e27_19, w27_19, c27_20, c27_21, c27_22, c27_23, c27_24, e27_26, w27_26, e27_28, w27_28, c27_31, c27_32, c27_33, c27_34, c27_35, hat']
    first | refine callD (q2) ?_ | refine callQD (q2) ?_
    simp -implicitDefEqProofs (disch := omega) only [go_sem, Nat.reduceAdd, Nat.reduceMul, Nat.reduceSub, Nat.reduceBEq, Nat.reduceLeDiff, Nat.reduceLT, fn_transitlaw32_same, e27_1, w27_1, e27_3, w27_3, e27_5, w27_5, e27_7, w27_7, e27_9, w27_9, e27_11, w27_11, c27_12, e27_14, w27_14, c27_15, c27_16, c27_17, e27_19, w27_19, c27_20, c27_21, c27_22, c27_23, c27_24, e27_26, w27_26, e27_28, w27_28, c27_31, c27_32, c27_33, c27_34, c27_35, int_neq_self, bool_neq_self]
    refine callQM q3 ?_
    simp -implicitDefEqProofs (disch := omega) only [go_sem, Nat.reduceAdd, Nat.reduceMul, Nat.reduceSub, Nat.reduceBEq, Nat.reduceLeDiff, Nat.reduceLT, fn_transitlaw32_same, e27_1, w27_1, e27_3, w27_3, e27_5, w27_5, e27_7, w27_7, e27_9, w27_9, e27_11, w27_11, c27_12, e27_14, w27_14, c27_15, c27_16, c27_17, e27_19, w27_19, c27_20, c27_21, c27_22, c27_23, c27_24, e27_26, w27_26, e27_28, w27_28, c27_31, c27_32, c27_33, c27_34, c27_35, hat']
    first | refine callD (q4) ?_ | refine callQD (q4) ?_
    simp -implicitDefEqProofs (disch := omega) only [go_sem, Nat.reduceAdd, Nat.reduceMul, Nat.reduceSub, Nat.reduceBEq, Nat.reduceLeDiff, Nat.reduceLT, fn_transitlaw32_same, e27_1, w27_1, e27_3, w27_3, e27_5, w27_5, e27_7, w27_7, e27_9, w27_9, e27_11, w27_11, c27_12, e27_14, w27_14, c27_15, c27_16, c27_17, e27_19, w27_19, c27_20, c27_21, c27_22, c27_23, c27_24, e27_26, w27_26, e27_28, w27_28, c27_31, c27_32, c27_33, c27_34, c27_35, bool_neq_self]
    refine next_stay hi ⟨?_, rfl⟩
    rw [show ((i + 1 : Nat) : Int) - 1 = j + 1 from by omega]
    rfl
  · rintro vs N' ⟨rfl, rfl⟩
    have q1 := Sequence_ok hI src
    have q2 := ref_Sequence_ok r src
    rw [hr.seq] at q1
    have hs : decide (((10 : Nat) : Int) - 1 < 9) = false := by decide
    have hat' := hat
    simp only [RBox.row] at hat' q2
    simp -implicitDefEqProofs (disch := omega) only [go_sem, Nat.reduceAdd, Nat.reduceMul, Nat.reduceSub, Nat.reduceBEq, Nat.reduceLeDiff, Nat.reduceLT, fn_transitlaw32_same, e27_1, w27_1, e27_3, w27_3, e27_5, w27_5, e27_7, w27_7, e27_9, w27_9, e27_11, w27_11, c27_12, e27_14, w27_14, c27_15, c27_16, c27_17, e27_19, w27_19, c27_20, c27_21, c27_22, c27_23, c27_24, e27_26, w27_26, e27_28, w27_28, c27_31, c27_32, c27_33, c27_34, c27_35, hs]
    refine callM q1 ?_
    simp -implicitDefEqProofs (disch := omega) only [go_sem, Nat.reduceAdd, Nat.reduceMul, Nat.reduceSub, Nat.reduceBEq, Nat.reduceLeDiff, Nat.reduceLT, fn_transitlaw32_same, e27_1, w27_1, e27_3, w27_3, e27_5, w27_5, e27_7, w27_7, e27_9, w27_9, e27_11, w27_11, c27_12, e27_14, w27_14, c27_15, c27_16, c27_17, e27_19, w27_19, c27_20, c27_21, c27_22, c27_23, c27_24, e27_26, w27_26, e27_28, w27_28, c27_31, c27_32, c27_33, c27_34, c27_35, hat']
    first | refine callD (q2) ?_ | refine callQD (q2) ?_
    simp -implicitDefEqProofs (disch := omega) only [go_sem, Nat.reduceAdd, Nat.reduceMul, Nat.reduceSub, Nat.reduceBEq, Nat.reduceLeDiff, Nat.reduceLT, fn_transitlaw32_same, e27_1, w27_1, e27_3, w27_3, e27_5, w27_5, e27_7, w27_7, e27_9, w27_9, e27_11, w27_11, c27_12, e27_14, w27_14, c27_15, c27_16, c27_17, e27_19, w27_19, c27_20, c27_21, c27_22, c27_23, c27_24, e27_26, w27_26, e27_28, w27_28, c27_31, c27_32, c27_33, c27_34, c27_35]
    refine tail _ ?_ _ rfl rfl rfl rfl rfl rfl rfl rfl
    simp -implicitDefEqProofs (disch := omega) only [go_sem, Nat.reduceAdd, Nat.reduceMul, Nat.reduceSub, Nat.reduceBEq, Nat.reduceLeDiff, Nat.reduceLT, fn_transitlaw32_same, e27_1, w27_1, e27_3, w27_3, e27_5, w27_5, e27_7, w27_7, e27_9, w27_9, e27_11, w27_11, c27_12, e27_14, w27_14, c27_15, c27_16, c27_17, e27_19, w27_19, c27_20, c27_21, c27_22, c27_23, c27_24, e27_26, w27_26, e27_28, w27_28, c27_31, c27_32, c27_33, c27_34, c27_35, tk, hle, hU]

end Go.Vm.C

