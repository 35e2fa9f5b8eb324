/- Contracts: Check; the text of a pattern tells the pattern; the groups by their patterns. -/
import Derived.Test.YtjmpgjbbcfbhbaaDoorT4

namespace Go.Vm.C
open Go.Vm
set_option maxHeartbeats 1000000
set_option maxRecDepth 10000
set_option linter.unusedSimpArgs false
set_option linter.unusedVariables false

/-! ### The table's check -/
def strMap (ids : List (List UInt8)) : List (V × V) := ids.map fun s => (.str s, .bool true)
theorem keysOk_strs (s : List UInt8) : ∀ ids, keysOk .str (.str s) (strMap ids) = true
  | [] => rfl
  | i :: ids => by
    show ((cellEq .str (.str s) (.str i)).isSome && keysOk .str (.str s) (strMap ids)) = true
    rw [keysOk_strs s ids]
    rfl
theorem mapGet_strs (s : List UInt8) : ∀ ids, mapGet .str (.str s) (strMap ids) = if s ∈ ids then some (.bool true) else none
  | [] => rfl
  | i :: ids => by
    show (bif (cellEq .str (.str s) (.str i)).getD false then some (V.bool true) else mapGet .str (.str s) (strMap ids)) = _
    rw [mapGet_strs s ids]
    by_cases h : s = i
    · subst h; simp [cellEq]
    · simp [cellEq, h]
theorem mapSet_strs (s : List UInt8) : ∀ ids, s ∉ ids → mapSet .str (.str s) (.bool true) (strMap ids) = strMap (ids ++ [s])
  | [], _ => rfl
  | i :: ids, h => by
    have h1 : s ≠ i := fun e => h (by simp [e])
    have h2 := mapSet_strs s ids (fun e => h (by simp [e]))
    show (bif (cellEq .str (.str s) (.str i)).getD false then _ else (V.str i, V.bool true) :: mapSet .str (.str s) (.bool true) (strMap ids)) = _
    rw [h2]
    simp [cellEq, h1, strMap]
theorem lookE_strs (s : List UInt8) (ids : List (List UInt8)) : lookE .str (.bool false) false (.str s) (strMap ids) = some (.bool (decide (s ∈ ids))) := by
  simp only [lookE, lookupV, mapFind, isKey, cond_true, List.getElem?_cons_zero, keysOk_strs, mapGet_strs, cellsV]
  by_cases hs : s ∈ ids <;> simp [hs]
theorem updE_strs {s : List UInt8} {ids : List (List UInt8)} (hs : s ∉ ids) : updE .str (.str s) (.bool true) (strMap ids) = some (strMap (ids ++ [s])) := by
  simp only [updE, isKey, keysOk_strs, V.isPure, Bool.and_self, cond_true, mapSet_strs s ids hs]

theorem transitref05_Valid_ok (s : List UInt8) (hs : s.length ≤ maxLen) : PCalls PR i_transitref05_Valid [.str s] (fun v => v = .bool (okName s)) := by
  have hm : maxLen = 9223372036854775807 := by rfl
  refine acalls_pop fn_transitref05_Valid_ok (by simp [fn_transitref05_Valid]) ?_
  simp -implicitDefEqProofs (disch := omega) only [go_sem, Nat.reduceAdd, Nat.reduceMul, Nat.reduceSub, Nat.reduceBEq, Nat.reduceLeDiff, Nat.reduceLT, fn_transitref05_Valid, e38_1, w38_1, e38_3, w38_3, c38_4, e38_6, w38_6, e38_8, w38_8, e38_10, w38_10, e38_12, w38_12, e38_14, w38_14, e38_16, w38_16, c38_17, e38_19, w38_19, c38_20, c38_21, c38_22, e38_24, w38_24, c38_25, c38_26, c38_27, c38_28, c38_29, e38_31, w38_31, c38_32, c38_33, c38_34, c38_35]
  refine ifD (fun h => ?_) (fun h1 => ?_)
  · have : okName s = false := by
      have : ¬ 0 < s.length := by omega
      simp [okName, this]
    simp -implicitDefEqProofs (disch := omega) only [go_sem, Nat.reduceAdd, Nat.reduceMul, Nat.reduceSub, Nat.reduceBEq, Nat.reduceLeDiff, Nat.reduceLT, fn_transitref05_Valid, e38_1, w38_1, e38_3, w38_3, c38_4, e38_6, w38_6, e38_8, w38_8, e38_10, w38_10, e38_12, w38_12, e38_14, w38_14, e38_16, w38_16, c38_17, e38_19, w38_19, c38_20, c38_21, c38_22, e38_24, w38_24, c38_25, c38_26, c38_27, c38_28, c38_29, e38_31, w38_31, c38_32, c38_33, c38_34, c38_35, this]
  simp -implicitDefEqProofs (disch := omega) only [go_sem, Nat.reduceAdd, Nat.reduceMul, Nat.reduceSub, Nat.reduceBEq, Nat.reduceLeDiff, Nat.reduceLT, fn_transitref05_Valid, e38_1, w38_1, e38_3, w38_3, c38_4, e38_6, w38_6, e38_8, w38_8, e38_10, w38_10, e38_12, w38_12, e38_14, w38_14, e38_16, w38_16, c38_17, e38_19, w38_19, c38_20, c38_21, c38_22, e38_24, w38_24, c38_25, c38_26, c38_27, c38_28, c38_29, e38_31, w38_31, c38_32, c38_33, c38_34, c38_35]
  refine ifD (fun h => ?_) (fun h2 => ?_)
  · have : okName s = false := by
      have : ¬ s.length ≤ 32 := by omega
      simp [okName, this]
    simp -implicitDefEqProofs (disch := omega) only [go_sem, Nat.reduceAdd, Nat.reduceMul, Nat.reduceSub, Nat.reduceBEq, Nat.reduceLeDiff, Nat.reduceLT, fn_transitref05_Valid, e38_1, w38_1, e38_3, w38_3, c38_4, e38_6, w38_6, e38_8, w38_8, e38_10, w38_10, e38_12, w38_12, e38_14, w38_14, e38_16, w38_16, c38_17, e38_19, w38_19, c38_20, c38_21, c38_22, e38_24, w38_24, c38_25, c38_26, c38_27, c38_28, c38_29, e38_31, w38_31, c38_32, c38_33, c38_34, c38_35, this]
  simp -implicitDefEqProofs (disch := omega) only [go_sem, Nat.reduceAdd, Nat.reduceMul, Nat.reduceSub, Nat.reduceBEq, Nat.reduceLeDiff, Nat.reduceLT, fn_transitref05_Valid, e38_1, w38_1, e38_3, w38_3, c38_4, e38_6, w38_6, e38_8, w38_8, e38_10, w38_10, e38_12, w38_12, e38_14, w38_14, e38_16, w38_16, c38_17, e38_19, w38_19, c38_20, c38_21, c38_22, e38_24, w38_24, c38_25, c38_26, c38_27, c38_28, c38_29, e38_31, w38_31, c38_32, c38_33, c38_34, c38_35]
  refine wpC_forL s (fun i vs M => (s.take i).all okChar = true ∧ vs = [.str s, .int .i64 i] ∧ M = []) ⟨by simp, rfl, rfl⟩ ?_ ?_
  · rintro i c vs M hc hi hd ⟨hall, rfl, rfl⟩
    simp -implicitDefEqProofs (disch := omega) only [go_sem, Nat.reduceAdd, Nat.reduceMul, Nat.reduceSub, Nat.reduceBEq, Nat.reduceLeDiff, Nat.reduceLT, fn_transitref05_Valid, e38_1, w38_1, e38_3, w38_3, c38_4, e38_6, w38_6, e38_8, w38_8, e38_10, w38_10, e38_12, w38_12, e38_14, w38_14, e38_16, w38_16, c38_17, e38_19, w38_19, c38_20, c38_21, c38_22, e38_24, w38_24, c38_25, c38_26, c38_27, c38_28, c38_29, e38_31, w38_31, c38_32, c38_33, c38_34, c38_35, open_if, hd, hc]
    repeat' (refine BIf_dec (fun h => ?_) (fun h => ?_))
    all_goals first
      | (refine next_stay hi ⟨?_, rfl, rfl⟩
         rw [all_take_succ hc, hall, (okChar_iff c).2 (by omega)]; rfl)
      | (rw [okName_false hc (okChar_false c (by omega))])
  · rintro vs M ⟨hall, rfl, rfl⟩
    rw [List.take_length] at hall
    simp -implicitDefEqProofs (disch := omega) only [go_sem, Nat.reduceAdd, Nat.reduceMul, Nat.reduceSub, Nat.reduceBEq, Nat.reduceLeDiff, Nat.reduceLT, fn_transitref05_Valid, e38_1, w38_1, e38_3, w38_3, c38_4, e38_6, w38_6, e38_8, w38_8, e38_10, w38_10, e38_12, w38_12, e38_14, w38_14, e38_16, w38_16, c38_17, e38_19, w38_19, c38_20, c38_21, c38_22, e38_24, w38_24, c38_25, c38_26, c38_27, c38_28, c38_29, e38_31, w38_31, c38_32, c38_33, c38_34, c38_35, dec_irrefl]
    have h3 : 0 < s.length := by omega
    have h4 : s.length ≤ 32 := by omega
    simp [okName, hall, h3, h4]
def tripErr (l : List Trp) (stops routes cals : Int) (i : Nat) : Int :=
  match l[i]? with
  | none => 0
  | some t => if okName t.id = false then 12 else if t.id ∈ (l.take i).map Trp.id then 6 else if t.route < 0 ∨ routes ≤ t.route ∨ t.cal < 0 ∨ cals ≤ t.cal then 9 else (checkC t.calls stops 0 172800).2
def checkT (l : List Trp) (stops routes cals : Int) : Int × Int :=
  if 256 < l.length then (0, 5) else match firstBad (tripErr l stops routes cals) l.length with
  | some i => (i, tripErr l stops routes cals i)
  | none => (0, 0)
theorem lookE_memB (s : List UInt8) (ids : List (List UInt8)) : lookE .str (.bool false) false (.str s) (strMap ids) = some (.bool (decide (s ∈ ids))) := lookE_strs s ids
theorem trip_Check_ok (l : List Trp) (c : Cap) (stops routes cals : Int) (hl : l.length ≤ 1000) (hw : ∀ t ∈ l, t.wf) (hc : ∀ t ∈ l, t.calls.length ≤ 1000) : PCalls PR i_trip_Check [.slice (l.map Trp.row) c, .int .i64 stops, .int .i64 routes, .int .i64 cals] (fun v => v = pairV (checkT l stops routes cals)) := by
  refine acalls_pop fn_trip_Check_ok (by simp [fn_trip_Check]) ?_
  simp -implicitDefEqProofs (disch := omega) only [go_sem, Nat.reduceAdd, Nat.reduceMul, Nat.reduceSub, Nat.reduceBEq, Nat.reduceLeDiff, Nat.reduceLT, fn_trip_Check, e14_1, w14_1, e14_3, w14_3, c14_4, e14_6, w14_6, e14_8, w14_8, e14_10, w14_10, e14_12, w14_12, c14_13, e14_15, w14_15, e14_17, w14_17, c14_18, e14_20, w14_20, c14_21, e14_23, w14_23, e14_25, w14_25, e14_27, w14_27, c14_28, c14_29, c14_30, e14_32, w14_32, e14_34, w14_34, c14_35, e14_37, w14_37, e14_39, w14_39, c14_40, e14_42, w14_42, c14_43, e14_45, w14_45, c14_46, c14_47, c14_48, c14_49, e14_51, w14_51, c14_52, c14_53, c14_54, c14_55, c14_56, c14_57, e14_59, w14_59, c14_60, c14_61, c14_62, c14_63, c14_64, List.length_map]
  refine ifD (fun h1 => ?_) (fun h1 => ?_)
  · have e : checkT l stops routes cals = (0, 5) := by rw [checkT, if_pos (by omega)]
    simp -implicitDefEqProofs (disch := omega) only [go_sem, Nat.reduceAdd, Nat.reduceMul, Nat.reduceSub, Nat.reduceBEq, Nat.reduceLeDiff, Nat.reduceLT, fn_trip_Check, e14_1, w14_1, e14_3, w14_3, c14_4, e14_6, w14_6, e14_8, w14_8, e14_10, w14_10, e14_12, w14_12, c14_13, e14_15, w14_15, e14_17, w14_17, c14_18, e14_20, w14_20, c14_21, e14_23, w14_23, e14_25, w14_25, e14_27, w14_27, c14_28, c14_29, c14_30, e14_32, w14_32, e14_34, w14_34, c14_35, e14_37, w14_37, e14_39, w14_39, c14_40, e14_42, w14_42, c14_43, e14_45, w14_45, c14_46, c14_47, c14_48, c14_49, e14_51, w14_51, c14_52, c14_53, c14_54, c14_55, c14_56, c14_57, e14_59, w14_59, c14_60, c14_61, c14_62, c14_63, c14_64, pairV, e]
  have hres : checkT l stops routes cals = match firstBad (tripErr l stops routes cals) l.length with | some i => ((i : Int), tripErr l stops routes cals i) | none => (0, 0) := by rw [checkT, if_neg (by omega)]
  simp -implicitDefEqProofs (disch := omega) only [go_sem, Nat.reduceAdd, Nat.reduceMul, Nat.reduceSub, Nat.reduceBEq, Nat.reduceLeDiff, Nat.reduceLT, fn_trip_Check, e14_1, w14_1, e14_3, w14_3, c14_4, e14_6, w14_6, e14_8, w14_8, e14_10, w14_10, e14_12, w14_12, c14_13, e14_15, w14_15, e14_17, w14_17, c14_18, e14_20, w14_20, c14_21, e14_23, w14_23, e14_25, w14_25, e14_27, w14_27, c14_28, c14_29, c14_30, e14_32, w14_32, e14_34, w14_34, c14_35, e14_37, w14_37, e14_39, w14_39, c14_40, e14_42, w14_42, c14_43, e14_45, w14_45, c14_46, c14_47, c14_48, c14_49, e14_51, w14_51, c14_52, c14_53, c14_54, c14_55, c14_56, c14_57, e14_59, w14_59, c14_60, c14_61, c14_62, c14_63, c14_64, List.length_map]
  refine wpC_forL l (fun i vs M => (∀ j, j < i → tripErr l stops routes cals j = 0) ∧ vs = [.int .i64 stops, .int .i64 routes, .int .i64 cals, .map 0, .slice (l.map Trp.row) c, .int .i64 l.length, .int .i64 i] ∧ M = [.map (strMap ((l.take i).map Trp.id))]) ⟨fun j hj => by omega, rfl, rfl⟩ ?_ ?_
  rotate_left
  · rintro vs M ⟨hz, rfl, rfl⟩
    have e : checkT l stops routes cals = (0, 0) := by rw [hres, firstBad_none _ hz]
    simp -implicitDefEqProofs (disch := omega) only [go_sem, Nat.reduceAdd, Nat.reduceMul, Nat.reduceSub, Nat.reduceBEq, Nat.reduceLeDiff, Nat.reduceLT, fn_trip_Check, e14_1, w14_1, e14_3, w14_3, c14_4, e14_6, w14_6, e14_8, w14_8, e14_10, w14_10, e14_12, w14_12, c14_13, e14_15, w14_15, e14_17, w14_17, c14_18, e14_20, w14_20, c14_21, e14_23, w14_23, e14_25, w14_25, e14_27, w14_27, c14_28, c14_29, c14_30, e14_32, w14_32, e14_34, w14_34, c14_35, e14_37, w14_37, e14_39, w14_39, c14_40, e14_42, w14_42, c14_43, e14_45, w14_45, c14_46, c14_47, c14_48, c14_49, e14_51, w14_51, c14_52, c14_53, c14_54, c14_55, c14_56, c14_57, e14_59, w14_59, c14_60, c14_61, c14_62, c14_63, c14_64, List.length_map, dec_irrefl, pairV, e]
  rintro i t vs M ht hi hd ⟨hz, rfl, rfl⟩
  have hta := trp_at ht
  have hmem := List.mem_of_getElem? ht
  have hid := (hw t hmem).1
  have hv := ident_Valid_ok t.id hid
  have hck := call_Check_ok t.calls t.tag stops 0 172800 (hc t hmem)
  have fin : ∀ e, tripErr l stops routes cals i = e → e ≠ 0 → V.tuple [.int .i64 i, .int .i64 e] = pairV (checkT l stops routes cals) := fun e h1 h2 => by
    rw [hres, firstBad_at (by rw [h1]; exact h2) hz hi]; simp only [pairV, h1]
  have herr : tripErr l stops routes cals i = if okName t.id = false then 12 else if t.id ∈ (l.take i).map Trp.id then 6 else if t.route < 0 ∨ routes ≤ t.route ∨ t.cal < 0 ∨ cals ≤ t.cal then 9 else (checkC t.calls stops 0 172800).2 := by simp only [tripErr, ht]
  simp -implicitDefEqProofs (disch := omega) only [go_sem, Nat.reduceAdd, Nat.reduceMul, Nat.reduceSub, Nat.reduceBEq, Nat.reduceLeDiff, Nat.reduceLT, fn_trip_Check, e14_1, w14_1, e14_3, w14_3, c14_4, e14_6, w14_6, e14_8, w14_8, e14_10, w14_10, e14_12, w14_12, c14_13, e14_15, w14_15, e14_17, w14_17, c14_18, e14_20, w14_20, c14_21, e14_23, w14_23, e14_25, w14_25, e14_27, w14_27, c14_28, c14_29, c14_30, e14_32, w14_32, e14_34, w14_34, c14_35, e14_37, w14_37, e14_39, w14_39, c14_40, e14_42, w14_42, c14_43, e14_45, w14_45, c14_46, c14_47, c14_48, c14_49, e14_51, w14_51, c14_52, c14_53, c14_54, c14_55, c14_56, c14_57, e14_59, w14_59, c14_60, c14_61, c14_62, c14_63, c14_64, List.length_map, hd, hta]
  first | refine callD (hv) ?_ | refine callQD (hv) ?_
  refine ifB (fun g1 => ?_) (fun g1 => ?_)
  · simp -implicitDefEqProofs (disch := omega) only [go_sem, Nat.reduceAdd, Nat.reduceMul, Nat.reduceSub, Nat.reduceBEq, Nat.reduceLeDiff, Nat.reduceLT, fn_trip_Check, e14_1, w14_1, e14_3, w14_3, c14_4, e14_6, w14_6, e14_8, w14_8, e14_10, w14_10, e14_12, w14_12, c14_13, e14_15, w14_15, e14_17, w14_17, c14_18, e14_20, w14_20, c14_21, e14_23, w14_23, e14_25, w14_25, e14_27, w14_27, c14_28, c14_29, c14_30, e14_32, w14_32, e14_34, w14_34, c14_35, e14_37, w14_37, e14_39, w14_39, c14_40, e14_42, w14_42, c14_43, e14_45, w14_45, c14_46, c14_47, c14_48, c14_49, e14_51, w14_51, c14_52, c14_53, c14_54, c14_55, c14_56, c14_57, e14_59, w14_59, c14_60, c14_61, c14_62, c14_63, c14_64]
    exact fin 12 (by rw [herr, if_pos (by simpa using g1)]) (by decide)
  have g1' : ¬ okName t.id = false := by simpa using g1
  simp -implicitDefEqProofs (disch := omega) only [go_sem, Nat.reduceAdd, Nat.reduceMul, Nat.reduceSub, Nat.reduceBEq, Nat.reduceLeDiff, Nat.reduceLT, fn_trip_Check, e14_1, w14_1, e14_3, w14_3, c14_4, e14_6, w14_6, e14_8, w14_8, e14_10, w14_10, e14_12, w14_12, c14_13, e14_15, w14_15, e14_17, w14_17, c14_18, e14_20, w14_20, c14_21, e14_23, w14_23, e14_25, w14_25, e14_27, w14_27, c14_28, c14_29, c14_30, e14_32, w14_32, e14_34, w14_34, c14_35, e14_37, w14_37, e14_39, w14_39, c14_40, e14_42, w14_42, c14_43, e14_45, w14_45, c14_46, c14_47, c14_48, c14_49, e14_51, w14_51, c14_52, c14_53, c14_54, c14_55, c14_56, c14_57, e14_59, w14_59, c14_60, c14_61, c14_62, c14_63, c14_64, lookE_strs]
  refine ifD (fun g2 => ?_) (fun g2 => ?_)
  · simp -implicitDefEqProofs (disch := omega) only [go_sem, Nat.reduceAdd, Nat.reduceMul, Nat.reduceSub, Nat.reduceBEq, Nat.reduceLeDiff, Nat.reduceLT, fn_trip_Check, e14_1, w14_1, e14_3, w14_3, c14_4, e14_6, w14_6, e14_8, w14_8, e14_10, w14_10, e14_12, w14_12, c14_13, e14_15, w14_15, e14_17, w14_17, c14_18, e14_20, w14_20, c14_21, e14_23, w14_23, e14_25, w14_25, e14_27, w14_27, c14_28, c14_29, c14_30, e14_32, w14_32, e14_34, w14_34, c14_35, e14_37, w14_37, e14_39, w14_39, c14_40, e14_42, w14_42, c14_43, e14_45, w14_45, c14_46, c14_47, c14_48, c14_49, e14_51, w14_51, c14_52, c14_53, c14_54, c14_55, c14_56, c14_57, e14_59, w14_59, c14_60, c14_61, c14_62, c14_63, c14_64]
    exact fin 6 (by rw [herr, if_neg g1', if_pos g2]) (by decide)
  have bad : (t.route < 0 ∨ routes ≤ t.route ∨ t.cal < 0 ∨ cals ≤ t.cal) → tripErr l stops routes cals i = 9 := fun h => by rw [herr, if_neg g1', if_neg g2, if_pos h]
  simp -implicitDefEqProofs (disch := omega) only [go_sem, Nat.reduceAdd, Nat.reduceMul, Nat.reduceSub, Nat.reduceBEq, Nat.reduceLeDiff, Nat.reduceLT, fn_trip_Check, e14_1, w14_1, e14_3, w14_3, c14_4, e14_6, w14_6, e14_8, w14_8, e14_10, w14_10, e14_12, w14_12, c14_13, e14_15, w14_15, e14_17, w14_17, c14_18, e14_20, w14_20, c14_21, e14_23, w14_23, e14_25, w14_25, e14_27, w14_27, c14_28, c14_29, c14_30, e14_32, w14_32, e14_34, w14_34, c14_35, e14_37, w14_37, e14_39, w14_39, c14_40, e14_42, w14_42, c14_43, e14_45, w14_45, c14_46, c14_47, c14_48, c14_49, e14_51, w14_51, c14_52, c14_53, c14_54, c14_55, c14_56, c14_57, e14_59, w14_59, c14_60, c14_61, c14_62, c14_63, c14_64]
  refine ifD (fun k1 => ?_) (fun k1 => ?_)
  · simp -implicitDefEqProofs (disch := omega) only [go_sem, Nat.reduceAdd, Nat.reduceMul, Nat.reduceSub, Nat.reduceBEq, Nat.reduceLeDiff, Nat.reduceLT, fn_trip_Check, e14_1, w14_1, e14_3, w14_3, c14_4, e14_6, w14_6, e14_8, w14_8, e14_10, w14_10, e14_12, w14_12, c14_13, e14_15, w14_15, e14_17, w14_17, c14_18, e14_20, w14_20, c14_21, e14_23, w14_23, e14_25, w14_25, e14_27, w14_27, c14_28, c14_29, c14_30, e14_32, w14_32, e14_34, w14_34, c14_35, e14_37, w14_37, e14_39, w14_39, c14_40, e14_42, w14_42, c14_43, e14_45, w14_45, c14_46, c14_47, c14_48, c14_49, e14_51, w14_51, c14_52, c14_53, c14_54, c14_55, c14_56, c14_57, e14_59, w14_59, c14_60, c14_61, c14_62, c14_63, c14_64]
    exact fin 9 (bad (by omega)) (by decide)
  simp -implicitDefEqProofs (disch := omega) only [go_sem, Nat.reduceAdd, Nat.reduceMul, Nat.reduceSub, Nat.reduceBEq, Nat.reduceLeDiff, Nat.reduceLT, fn_trip_Check, e14_1, w14_1, e14_3, w14_3, c14_4, e14_6, w14_6, e14_8, w14_8, e14_10, w14_10, e14_12, w14_12, c14_13, e14_15, w14_15, e14_17, w14_17, c14_18, e14_20, w14_20, c14_21, e14_23, w14_23, e14_25, w14_25, e14_27, w14_27, c14_28, c14_29, c14_30, e14_32, w14_32, e14_34, w14_34, c14_35, e14_37, w14_37, e14_39, w14_39, c14_40, e14_42, w14_42, c14_43, e14_45, w14_45, c14_46, c14_47, c14_48, c14_49, e14_51, w14_51, c14_52, c14_53, c14_54, c14_55, c14_56, c14_57, e14_59, w14_59, c14_60, c14_61, c14_62, c14_63, c14_64]
  refine ifD (fun k2 => ?_) (fun k2 => ?_)
  · have hk2 : decide (routes ≤ t.route) = true := decide_eq_true (by omega)
    simp -implicitDefEqProofs (disch := omega) only [go_sem, Nat.reduceAdd, Nat.reduceMul, Nat.reduceSub, Nat.reduceBEq, Nat.reduceLeDiff, Nat.reduceLT, fn_trip_Check, e14_1, w14_1, e14_3, w14_3, c14_4, e14_6, w14_6, e14_8, w14_8, e14_10, w14_10, e14_12, w14_12, c14_13, e14_15, w14_15, e14_17, w14_17, c14_18, e14_20, w14_20, c14_21, e14_23, w14_23, e14_25, w14_25, e14_27, w14_27, c14_28, c14_29, c14_30, e14_32, w14_32, e14_34, w14_34, c14_35, e14_37, w14_37, e14_39, w14_39, c14_40, e14_42, w14_42, c14_43, e14_45, w14_45, c14_46, c14_47, c14_48, c14_49, e14_51, w14_51, c14_52, c14_53, c14_54, c14_55, c14_56, c14_57, e14_59, w14_59, c14_60, c14_61, c14_62, c14_63, c14_64, hk2]
    exact fin 9 (bad (by omega)) (by decide)
  simp -implicitDefEqProofs (disch := omega) only [go_sem, Nat.reduceAdd, Nat.reduceMul, Nat.reduceSub, Nat.reduceBEq, Nat.reduceLeDiff, Nat.reduceLT, fn_trip_Check, e14_1, w14_1, e14_3, w14_3, c14_4, e14_6, w14_6, e14_8, w14_8, e14_10, w14_10, e14_12, w14_12, c14_13, e14_15, w14_15, e14_17, w14_17, c14_18, e14_20, w14_20, c14_21, e14_23, w14_23, e14_25, w14_25, e14_27, w14_27, c14_28, c14_29, c14_30, e14_32, w14_32, e14_34, w14_34, c14_35, e14_37, w14_37, e14_39, w14_39, c14_40, e14_42, w14_42, c14_43, e14_45, w14_45, c14_46, c14_47, c14_48, c14_49, e14_51, w14_51, c14_52, c14_53, c14_54, c14_55, c14_56, c14_57, e14_59, w14_59, c14_60, c14_61, c14_62, c14_63, c14_64]
  refine ifD (fun k3 => ?_) (fun k3 => ?_)
  · simp -implicitDefEqProofs (disch := omega) only [go_sem, Nat.reduceAdd, Nat.reduceMul, Nat.reduceSub, Nat.reduceBEq, Nat.reduceLeDiff, Nat.reduceLT, fn_trip_Check, e14_1, w14_1, e14_3, w14_3, c14_4, e14_6, w14_6, e14_8, w14_8, e14_10, w14_10, e14_12, w14_12, c14_13, e14_15, w14_15, e14_17, w14_17, c14_18, e14_20, w14_20, c14_21, e14_23, w14_23, e14_25, w14_25, e14_27, w14_27, c14_28, c14_29, c14_30, e14_32, w14_32, e14_34, w14_34, c14_35, e14_37, w14_37, e14_39, w14_39, c14_40, e14_42, w14_42, c14_43, e14_45, w14_45, c14_46, c14_47, c14_48, c14_49, e14_51, w14_51, c14_52, c14_53, c14_54, c14_55, c14_56, c14_57, e14_59, w14_59, c14_60, c14_61, c14_62, c14_63, c14_64]
    exact fin 9 (bad (by omega)) (by decide)
  simp -implicitDefEqProofs (disch := omega) only [go_sem, Nat.reduceAdd, Nat.reduceMul, Nat.reduceSub, Nat.reduceBEq, Nat.reduceLeDiff, Nat.reduceLT, fn_trip_Check, e14_1, w14_1, e14_3, w14_3, c14_4, e14_6, w14_6, e14_8, w14_8, e14_10, w14_10, e14_12, w14_12, c14_13, e14_15, w14_15, e14_17, w14_17, c14_18, e14_20, w14_20, c14_21, e14_23, w14_23, e14_25, w14_25, e14_27, w14_27, c14_28, c14_29, c14_30, e14_32, w14_32, e14_34, w14_34, c14_35, e14_37, w14_37, e14_39, w14_39, c14_40, e14_42, w14_42, c14_43, e14_45, w14_45, c14_46, c14_47, c14_48, c14_49, e14_51, w14_51, c14_52, c14_53, c14_54, c14_55, c14_56, c14_57, e14_59, w14_59, c14_60, c14_61, c14_62, c14_63, c14_64]
  refine ifD (fun k4 => ?_) (fun k4 => ?_)
  · exact fin 9 (bad (by omega)) (by decide)
  have herr2 : tripErr l stops routes cals i = (checkC t.calls stops 0 172800).2 := by rw [herr, if_neg g1', if_neg g2, if_neg (by omega)]
  generalize hE : checkC t.calls stops 0 172800 = E at *
  simp only [pairV] at hck
  first | refine callD (hck) ?_ | refine callQD (hck) ?_
  simp -implicitDefEqProofs (disch := omega) only [go_sem, Nat.reduceAdd, Nat.reduceMul, Nat.reduceSub, Nat.reduceBEq, Nat.reduceLeDiff, Nat.reduceLT, fn_trip_Check, e14_1, w14_1, e14_3, w14_3, c14_4, e14_6, w14_6, e14_8, w14_8, e14_10, w14_10, e14_12, w14_12, c14_13, e14_15, w14_15, e14_17, w14_17, c14_18, e14_20, w14_20, c14_21, e14_23, w14_23, e14_25, w14_25, e14_27, w14_27, c14_28, c14_29, c14_30, e14_32, w14_32, e14_34, w14_34, c14_35, e14_37, w14_37, e14_39, w14_39, c14_40, e14_42, w14_42, c14_43, e14_45, w14_45, c14_46, c14_47, c14_48, c14_49, e14_51, w14_51, c14_52, c14_53, c14_54, c14_55, c14_56, c14_57, e14_59, w14_59, c14_60, c14_61, c14_62, c14_63, c14_64]
  refine ifD (fun k5 => ?_) (fun k5 => ?_)
  rotate_left
  · simp -implicitDefEqProofs (disch := omega) only [go_sem, Nat.reduceAdd, Nat.reduceMul, Nat.reduceSub, Nat.reduceBEq, Nat.reduceLeDiff, Nat.reduceLT, fn_trip_Check, e14_1, w14_1, e14_3, w14_3, c14_4, e14_6, w14_6, e14_8, w14_8, e14_10, w14_10, e14_12, w14_12, c14_13, e14_15, w14_15, e14_17, w14_17, c14_18, e14_20, w14_20, c14_21, e14_23, w14_23, e14_25, w14_25, e14_27, w14_27, c14_28, c14_29, c14_30, e14_32, w14_32, e14_34, w14_34, c14_35, e14_37, w14_37, e14_39, w14_39, c14_40, e14_42, w14_42, c14_43, e14_45, w14_45, c14_46, c14_47, c14_48, c14_49, e14_51, w14_51, c14_52, c14_53, c14_54, c14_55, c14_56, c14_57, e14_59, w14_59, c14_60, c14_61, c14_62, c14_63, c14_64]
    exact fin _ herr2 k5
  have hup : updE .str (.str t.id) (.bool true) (strMap ((l.take i).map Trp.id)) = some (strMap ((l.take (i + 1)).map Trp.id)) := by
    rw [updE_strs g2, List.take_add_one, ht]; simp
  simp -implicitDefEqProofs (disch := omega) only [go_sem, Nat.reduceAdd, Nat.reduceMul, Nat.reduceSub, Nat.reduceBEq, Nat.reduceLeDiff, Nat.reduceLT, fn_trip_Check, e14_1, w14_1, e14_3, w14_3, c14_4, e14_6, w14_6, e14_8, w14_8, e14_10, w14_10, e14_12, w14_12, c14_13, e14_15, w14_15, e14_17, w14_17, c14_18, e14_20, w14_20, c14_21, e14_23, w14_23, e14_25, w14_25, e14_27, w14_27, c14_28, c14_29, c14_30, e14_32, w14_32, e14_34, w14_34, c14_35, e14_37, w14_37, e14_39, w14_39, c14_40, e14_42, w14_42, c14_43, e14_45, w14_45, c14_46, c14_47, c14_48, c14_49, e14_51, w14_51, c14_52, c14_53, c14_54, c14_55, c14_56, c14_57, e14_59, w14_59, c14_60, c14_61, c14_62, c14_63, c14_64, hup]
  refine next_pop hi (by rfl) ⟨fun j hj => ?_, rfl, rfl⟩
  rcases Nat.lt_or_ge j i with h4 | h4
  · exact hz j h4
  · have : j = i := by omega
    subst this
    rw [herr2, k5]

/-! ### The reference's check -/
def callsE (l : List Stay) (stops : Int) : Int := (checkC l stops 0 172800).2
theorem transitref17_calls_ok (l : List Stay) (c : Cap) (stops : Int) (hlen : l.length ≤ 1000) : PCalls PR i_transitref17_calls [.slice (l.map Stay.row) c, .int .i64 stops] (fun v => v = .int .i64 (callsE l stops)) := by
  refine acalls_pop fn_transitref17_calls_ok (by simp [fn_transitref17_calls]) ?_
  simp -implicitDefEqProofs (disch := omega) only [go_sem, Nat.reduceAdd, Nat.reduceMul, Nat.reduceSub, Nat.reduceBEq, Nat.reduceLeDiff, Nat.reduceLT, fn_transitref17_calls, e39_1, w39_1, e39_3, w39_3, c39_4, e39_6, w39_6, e39_8, w39_8, e39_10, w39_10, e39_12, w39_12, c39_13, e39_15, w39_15, e39_17, w39_17, c39_18, e39_20, w39_20, e39_22, w39_22, c39_23, e39_25, w39_25, c39_26, c39_27, c39_28, e39_30, w39_30, c39_31, c39_32, c39_33, c39_34, c39_35, e39_37, w39_37, c39_38, c39_39, c39_40, c39_41]
  refine ifD (fun h1 => ?_) (fun h1 => ?_)
  · have e : callsE l stops = 5 := by rw [callsE, checkC, if_pos (by omega)]
    simp -implicitDefEqProofs (disch := omega) only [go_sem, Nat.reduceAdd, Nat.reduceMul, Nat.reduceSub, Nat.reduceBEq, Nat.reduceLeDiff, Nat.reduceLT, fn_transitref17_calls, e39_1, w39_1, e39_3, w39_3, c39_4, e39_6, w39_6, e39_8, w39_8, e39_10, w39_10, e39_12, w39_12, c39_13, e39_15, w39_15, e39_17, w39_17, c39_18, e39_20, w39_20, e39_22, w39_22, c39_23, e39_25, w39_25, c39_26, c39_27, c39_28, e39_30, w39_30, c39_31, c39_32, c39_33, c39_34, c39_35, e39_37, w39_37, c39_38, c39_39, c39_40, c39_41, e]
  simp -implicitDefEqProofs (disch := omega) only [go_sem, Nat.reduceAdd, Nat.reduceMul, Nat.reduceSub, Nat.reduceBEq, Nat.reduceLeDiff, Nat.reduceLT, fn_transitref17_calls, e39_1, w39_1, e39_3, w39_3, c39_4, e39_6, w39_6, e39_8, w39_8, e39_10, w39_10, e39_12, w39_12, c39_13, e39_15, w39_15, e39_17, w39_17, c39_18, e39_20, w39_20, e39_22, w39_22, c39_23, e39_25, w39_25, c39_26, c39_27, c39_28, e39_30, w39_30, c39_31, c39_32, c39_33, c39_34, c39_35, e39_37, w39_37, c39_38, c39_39, c39_40, c39_41]
  refine ifD (fun h2 => ?_) (fun h2 => ?_)
  · have e : callsE l stops = 5 := by rw [callsE, checkC, if_pos (by omega)]
    simp -implicitDefEqProofs (disch := omega) only [go_sem, Nat.reduceAdd, Nat.reduceMul, Nat.reduceSub, Nat.reduceBEq, Nat.reduceLeDiff, Nat.reduceLT, fn_transitref17_calls, e39_1, w39_1, e39_3, w39_3, c39_4, e39_6, w39_6, e39_8, w39_8, e39_10, w39_10, e39_12, w39_12, c39_13, e39_15, w39_15, e39_17, w39_17, c39_18, e39_20, w39_20, e39_22, w39_22, c39_23, e39_25, w39_25, c39_26, c39_27, c39_28, e39_30, w39_30, c39_31, c39_32, c39_33, c39_34, c39_35, e39_37, w39_37, c39_38, c39_39, c39_40, c39_41, e]
  simp -implicitDefEqProofs (disch := omega) only [go_sem, Nat.reduceAdd, Nat.reduceMul, Nat.reduceSub, Nat.reduceBEq, Nat.reduceLeDiff, Nat.reduceLT, fn_transitref17_calls, e39_1, w39_1, e39_3, w39_3, c39_4, e39_6, w39_6, e39_8, w39_8, e39_10, w39_10, e39_12, w39_12, c39_13, e39_15, w39_15, e39_17, w39_17, c39_18, e39_20, w39_20, e39_22, w39_22, c39_23, e39_25, w39_25, c39_26, c39_27, c39_28, e39_30, w39_30, c39_31, c39_32, c39_33, c39_34, c39_35, e39_37, w39_37, c39_38, c39_39, c39_40, c39_41]
  refine wpC_forL l (fun i vs M => (∀ j, j < i → errAt l stops 0 172800 j = 0) ∧ vs = [.slice (l.map Stay.row) c, .int .i64 stops, .int .i64 i] ∧ M = []) ⟨fun j hj => absurd hj (Nat.not_lt_zero j), rfl, rfl⟩ ?_ ?_
  rotate_left
  · rintro vs M ⟨hz, rfl, rfl⟩
    have e : callsE l stops = 0 := by
      rw [callsE, checkC, if_neg (by omega), firstBad_none _ hz]
    simp -implicitDefEqProofs (disch := omega) only [go_sem, Nat.reduceAdd, Nat.reduceMul, Nat.reduceSub, Nat.reduceBEq, Nat.reduceLeDiff, Nat.reduceLT, fn_transitref17_calls, e39_1, w39_1, e39_3, w39_3, c39_4, e39_6, w39_6, e39_8, w39_8, e39_10, w39_10, e39_12, w39_12, c39_13, e39_15, w39_15, e39_17, w39_17, c39_18, e39_20, w39_20, e39_22, w39_22, c39_23, e39_25, w39_25, c39_26, c39_27, c39_28, e39_30, w39_30, c39_31, c39_32, c39_33, c39_34, c39_35, e39_37, w39_37, c39_38, c39_39, c39_40, c39_41, dec_irrefl, e]
  rintro i a vs M ha hi hd ⟨hz, rfl, rfl⟩
  obtain ⟨b, hb⟩ : ∃ b, l[i - 1]? = some b := ⟨l[i - 1], by simp⟩
  have he : errAt l stops 0 172800 i = oneErr a b i stops 0 172800 := by simp only [errAt, ha, hb]
  have bad : ∀ n : Int, n ≠ 0 → oneErr a b i stops 0 172800 = n → callsE l stops = n := by
    intro n h0 h3
    rw [callsE, checkC, if_neg (by omega), firstBad_at (by rw [he, h3]; exact h0) hz hi]
    simp only [he, h3]
  have good : oneErr a b i stops 0 172800 = 0 → ∀ j, j < i + 1 → errAt l stops 0 172800 j = 0 := by
    intro h3 j hj
    rcases Nat.lt_or_ge j i with h4 | h4
    · exact hz j h4
    · have : j = i := by omega
      subst this; rw [he, h3]
  simp -implicitDefEqProofs (disch := omega) only [go_sem, Nat.reduceAdd, Nat.reduceMul, Nat.reduceSub, Nat.reduceBEq, Nat.reduceLeDiff, Nat.reduceLT, fn_transitref17_calls, e39_1, w39_1, e39_3, w39_3, c39_4, e39_6, w39_6, e39_8, w39_8, e39_10, w39_10, e39_12, w39_12, c39_13, e39_15, w39_15, e39_17, w39_17, c39_18, e39_20, w39_20, e39_22, w39_22, c39_23, e39_25, w39_25, c39_26, c39_27, c39_28, e39_30, w39_30, c39_31, c39_32, c39_33, c39_34, c39_35, e39_37, w39_37, c39_38, c39_39, c39_40, c39_41, hd, ha, Stay.row]
  refine ifD (fun h1 => ?_) (fun h1 => ?_)
  · have e := bad 9 (by omega) (by rw [oneErr, if_pos (.inl h1)])
    simp -implicitDefEqProofs (disch := omega) only [go_sem, Nat.reduceAdd, Nat.reduceMul, Nat.reduceSub, Nat.reduceBEq, Nat.reduceLeDiff, Nat.reduceLT, fn_transitref17_calls, e39_1, w39_1, e39_3, w39_3, c39_4, e39_6, w39_6, e39_8, w39_8, e39_10, w39_10, e39_12, w39_12, c39_13, e39_15, w39_15, e39_17, w39_17, c39_18, e39_20, w39_20, e39_22, w39_22, c39_23, e39_25, w39_25, c39_26, c39_27, c39_28, e39_30, w39_30, c39_31, c39_32, c39_33, c39_34, c39_35, e39_37, w39_37, c39_38, c39_39, c39_40, c39_41, e]
  simp -implicitDefEqProofs (disch := omega) only [go_sem, Nat.reduceAdd, Nat.reduceMul, Nat.reduceSub, Nat.reduceBEq, Nat.reduceLeDiff, Nat.reduceLT, fn_transitref17_calls, e39_1, w39_1, e39_3, w39_3, c39_4, e39_6, w39_6, e39_8, w39_8, e39_10, w39_10, e39_12, w39_12, c39_13, e39_15, w39_15, e39_17, w39_17, c39_18, e39_20, w39_20, e39_22, w39_22, c39_23, e39_25, w39_25, c39_26, c39_27, c39_28, e39_30, w39_30, c39_31, c39_32, c39_33, c39_34, c39_35, e39_37, w39_37, c39_38, c39_39, c39_40, c39_41, ha, Stay.row]
  refine ifD (fun h2 => ?_) (fun h2 => ?_)
  · have e := bad 9 (by omega) (by rw [oneErr, if_pos (.inr h2)])
    simp -implicitDefEqProofs (disch := omega) only [go_sem, Nat.reduceAdd, Nat.reduceMul, Nat.reduceSub, Nat.reduceBEq, Nat.reduceLeDiff, Nat.reduceLT, fn_transitref17_calls, e39_1, w39_1, e39_3, w39_3, c39_4, e39_6, w39_6, e39_8, w39_8, e39_10, w39_10, e39_12, w39_12, c39_13, e39_15, w39_15, e39_17, w39_17, c39_18, e39_20, w39_20, e39_22, w39_22, c39_23, e39_25, w39_25, c39_26, c39_27, c39_28, e39_30, w39_30, c39_31, c39_32, c39_33, c39_34, c39_35, e39_37, w39_37, c39_38, c39_39, c39_40, c39_41, e]
  have e1 : oneErr a b i stops 0 172800 = if 0 < i ∧ b.stop = a.stop then 13 else if a.arrive < 0 ∨ a.depart < a.arrive ∨ 172800 < a.depart ∨ (0 < i ∧ a.arrive < b.depart) then 10 else 0 := by rw [oneErr, if_neg (by omega)]
  simp -implicitDefEqProofs (disch := omega) only [go_sem, Nat.reduceAdd, Nat.reduceMul, Nat.reduceSub, Nat.reduceBEq, Nat.reduceLeDiff, Nat.reduceLT, fn_transitref17_calls, e39_1, w39_1, e39_3, w39_3, c39_4, e39_6, w39_6, e39_8, w39_8, e39_10, w39_10, e39_12, w39_12, c39_13, e39_15, w39_15, e39_17, w39_17, c39_18, e39_20, w39_20, e39_22, w39_22, c39_23, e39_25, w39_25, c39_26, c39_27, c39_28, e39_30, w39_30, c39_31, c39_32, c39_33, c39_34, c39_35, e39_37, w39_37, c39_38, c39_39, c39_40, c39_41, ha, Stay.row]
  refine ifD (fun h3 => ?_) (fun h3 => ?_)
  · simp -implicitDefEqProofs (disch := omega) only [go_sem, Nat.reduceAdd, Nat.reduceMul, Nat.reduceSub, Nat.reduceBEq, Nat.reduceLeDiff, Nat.reduceLT, fn_transitref17_calls, e39_1, w39_1, e39_3, w39_3, c39_4, e39_6, w39_6, e39_8, w39_8, e39_10, w39_10, e39_12, w39_12, c39_13, e39_15, w39_15, e39_17, w39_17, c39_18, e39_20, w39_20, e39_22, w39_22, c39_23, e39_25, w39_25, c39_26, c39_27, c39_28, e39_30, w39_30, c39_31, c39_32, c39_33, c39_34, c39_35, e39_37, w39_37, c39_38, c39_39, c39_40, c39_41, ha, hb, Stay.row]
    refine ifD (fun h4 => ?_) (fun h4 => ?_)
    · have e := bad 13 (by omega) (by rw [e1, if_pos ⟨by omega, by omega⟩])
      simp -implicitDefEqProofs (disch := omega) only [go_sem, Nat.reduceAdd, Nat.reduceMul, Nat.reduceSub, Nat.reduceBEq, Nat.reduceLeDiff, Nat.reduceLT, fn_transitref17_calls, e39_1, w39_1, e39_3, w39_3, c39_4, e39_6, w39_6, e39_8, w39_8, e39_10, w39_10, e39_12, w39_12, c39_13, e39_15, w39_15, e39_17, w39_17, c39_18, e39_20, w39_20, e39_22, w39_22, c39_23, e39_25, w39_25, c39_26, c39_27, c39_28, e39_30, w39_30, c39_31, c39_32, c39_33, c39_34, c39_35, e39_37, w39_37, c39_38, c39_39, c39_40, c39_41, e]
    have e2 : oneErr a b i stops 0 172800 = if a.arrive < 0 ∨ a.depart < a.arrive ∨ 172800 < a.depart ∨ (0 < i ∧ a.arrive < b.depart) then 10 else 0 := by rw [e1, if_neg (fun h => h4 (by omega))]
    simp -implicitDefEqProofs (disch := omega) only [go_sem, Nat.reduceAdd, Nat.reduceMul, Nat.reduceSub, Nat.reduceBEq, Nat.reduceLeDiff, Nat.reduceLT, fn_transitref17_calls, e39_1, w39_1, e39_3, w39_3, c39_4, e39_6, w39_6, e39_8, w39_8, e39_10, w39_10, e39_12, w39_12, c39_13, e39_15, w39_15, e39_17, w39_17, c39_18, e39_20, w39_20, e39_22, w39_22, c39_23, e39_25, w39_25, c39_26, c39_27, c39_28, e39_30, w39_30, c39_31, c39_32, c39_33, c39_34, c39_35, e39_37, w39_37, c39_38, c39_39, c39_40, c39_41, ha, Stay.row]
    refine ifD (fun h5 => ?_) (fun h5 => ?_)
    · have e := bad 10 (by omega) (by rw [e2, if_pos (by omega)])
      simp -implicitDefEqProofs (disch := omega) only [go_sem, Nat.reduceAdd, Nat.reduceMul, Nat.reduceSub, Nat.reduceBEq, Nat.reduceLeDiff, Nat.reduceLT, fn_transitref17_calls, e39_1, w39_1, e39_3, w39_3, c39_4, e39_6, w39_6, e39_8, w39_8, e39_10, w39_10, e39_12, w39_12, c39_13, e39_15, w39_15, e39_17, w39_17, c39_18, e39_20, w39_20, e39_22, w39_22, c39_23, e39_25, w39_25, c39_26, c39_27, c39_28, e39_30, w39_30, c39_31, c39_32, c39_33, c39_34, c39_35, e39_37, w39_37, c39_38, c39_39, c39_40, c39_41, e]
    simp -implicitDefEqProofs (disch := omega) only [go_sem, Nat.reduceAdd, Nat.reduceMul, Nat.reduceSub, Nat.reduceBEq, Nat.reduceLeDiff, Nat.reduceLT, fn_transitref17_calls, e39_1, w39_1, e39_3, w39_3, c39_4, e39_6, w39_6, e39_8, w39_8, e39_10, w39_10, e39_12, w39_12, c39_13, e39_15, w39_15, e39_17, w39_17, c39_18, e39_20, w39_20, e39_22, w39_22, c39_23, e39_25, w39_25, c39_26, c39_27, c39_28, e39_30, w39_30, c39_31, c39_32, c39_33, c39_34, c39_35, e39_37, w39_37, c39_38, c39_39, c39_40, c39_41, ha, Stay.row]
    refine ifD (fun h6 => ?_) (fun h6 => ?_)
    · have e := bad 10 (by omega) (by rw [e2, if_pos (by omega)])
      simp -implicitDefEqProofs (disch := omega) only [go_sem, Nat.reduceAdd, Nat.reduceMul, Nat.reduceSub, Nat.reduceBEq, Nat.reduceLeDiff, Nat.reduceLT, fn_transitref17_calls, e39_1, w39_1, e39_3, w39_3, c39_4, e39_6, w39_6, e39_8, w39_8, e39_10, w39_10, e39_12, w39_12, c39_13, e39_15, w39_15, e39_17, w39_17, c39_18, e39_20, w39_20, e39_22, w39_22, c39_23, e39_25, w39_25, c39_26, c39_27, c39_28, e39_30, w39_30, c39_31, c39_32, c39_33, c39_34, c39_35, e39_37, w39_37, c39_38, c39_39, c39_40, c39_41, e]
    simp -implicitDefEqProofs (disch := omega) only [go_sem, Nat.reduceAdd, Nat.reduceMul, Nat.reduceSub, Nat.reduceBEq, Nat.reduceLeDiff, Nat.reduceLT, fn_transitref17_calls, e39_1, w39_1, e39_3, w39_3, c39_4, e39_6, w39_6, e39_8, w39_8, e39_10, w39_10, e39_12, w39_12, c39_13, e39_15, w39_15, e39_17, w39_17, c39_18, e39_20, w39_20, e39_22, w39_22, c39_23, e39_25, w39_25, c39_26, c39_27, c39_28, e39_30, w39_30, c39_31, c39_32, c39_33, c39_34, c39_35, e39_37, w39_37, c39_38, c39_39, c39_40, c39_41, ha, Stay.row]
    refine ifD (fun h7 => ?_) (fun h7 => ?_)
    · have e := bad 10 (by omega) (by rw [e2, if_pos (by omega)])
      simp -implicitDefEqProofs (disch := omega) only [go_sem, Nat.reduceAdd, Nat.reduceMul, Nat.reduceSub, Nat.reduceBEq, Nat.reduceLeDiff, Nat.reduceLT, fn_transitref17_calls, e39_1, w39_1, e39_3, w39_3, c39_4, e39_6, w39_6, e39_8, w39_8, e39_10, w39_10, e39_12, w39_12, c39_13, e39_15, w39_15, e39_17, w39_17, c39_18, e39_20, w39_20, e39_22, w39_22, c39_23, e39_25, w39_25, c39_26, c39_27, c39_28, e39_30, w39_30, c39_31, c39_32, c39_33, c39_34, c39_35, e39_37, w39_37, c39_38, c39_39, c39_40, c39_41, e]
    simp -implicitDefEqProofs (disch := omega) only [go_sem, Nat.reduceAdd, Nat.reduceMul, Nat.reduceSub, Nat.reduceBEq, Nat.reduceLeDiff, Nat.reduceLT, fn_transitref17_calls, e39_1, w39_1, e39_3, w39_3, c39_4, e39_6, w39_6, e39_8, w39_8, e39_10, w39_10, e39_12, w39_12, c39_13, e39_15, w39_15, e39_17, w39_17, c39_18, e39_20, w39_20, e39_22, w39_22, c39_23, e39_25, w39_25, c39_26, c39_27, c39_28, e39_30, w39_30, c39_31, c39_32, c39_33, c39_34, c39_35, e39_37, w39_37, c39_38, c39_39, c39_40, c39_41, ha, Stay.row]
    refine ifD (fun h8 => ?_) (fun h8 => ?_)
    rotate_left
    · omega
    simp -implicitDefEqProofs (disch := omega) only [go_sem, Nat.reduceAdd, Nat.reduceMul, Nat.reduceSub, Nat.reduceBEq, Nat.reduceLeDiff, Nat.reduceLT, fn_transitref17_calls, e39_1, w39_1, e39_3, w39_3, c39_4, e39_6, w39_6, e39_8, w39_8, e39_10, w39_10, e39_12, w39_12, c39_13, e39_15, w39_15, e39_17, w39_17, c39_18, e39_20, w39_20, e39_22, w39_22, c39_23, e39_25, w39_25, c39_26, c39_27, c39_28, e39_30, w39_30, c39_31, c39_32, c39_33, c39_34, c39_35, e39_37, w39_37, c39_38, c39_39, c39_40, c39_41, ha, hb, Stay.row]
    refine ifD (fun h9 => ?_) (fun h9 => ?_)
    · have e := bad 10 (by omega) (by rw [e2, if_pos (by omega)])
      simp -implicitDefEqProofs (disch := omega) only [go_sem, Nat.reduceAdd, Nat.reduceMul, Nat.reduceSub, Nat.reduceBEq, Nat.reduceLeDiff, Nat.reduceLT, fn_transitref17_calls, e39_1, w39_1, e39_3, w39_3, c39_4, e39_6, w39_6, e39_8, w39_8, e39_10, w39_10, e39_12, w39_12, c39_13, e39_15, w39_15, e39_17, w39_17, c39_18, e39_20, w39_20, e39_22, w39_22, c39_23, e39_25, w39_25, c39_26, c39_27, c39_28, e39_30, w39_30, c39_31, c39_32, c39_33, c39_34, c39_35, e39_37, w39_37, c39_38, c39_39, c39_40, c39_41, e]
    · simp -implicitDefEqProofs (disch := omega) only [go_sem, Nat.reduceAdd, Nat.reduceMul, Nat.reduceSub, Nat.reduceBEq, Nat.reduceLeDiff, Nat.reduceLT, fn_transitref17_calls, e39_1, w39_1, e39_3, w39_3, c39_4, e39_6, w39_6, e39_8, w39_8, e39_10, w39_10, e39_12, w39_12, c39_13, e39_15, w39_15, e39_17, w39_17, c39_18, e39_20, w39_20, e39_22, w39_22, c39_23, e39_25, w39_25, c39_26, c39_27, c39_28, e39_30, w39_30, c39_31, c39_32, c39_33, c39_34, c39_35, e39_37, w39_37, c39_38, c39_39, c39_40, c39_41]
      refine next_stay hi ⟨good (by rw [e2, if_neg (by omega)]), ?_, rfl⟩
      simp only [vals, sget]; rfl
  · have e2 : oneErr a b i stops 0 172800 = if a.arrive < 0 ∨ a.depart < a.arrive ∨ 172800 < a.depart ∨ (0 < i ∧ a.arrive < b.depart) then 10 else 0 := by rw [e1, if_neg (by omega)]
    simp -implicitDefEqProofs (disch := omega) only [go_sem, Nat.reduceAdd, Nat.reduceMul, Nat.reduceSub, Nat.reduceBEq, Nat.reduceLeDiff, Nat.reduceLT, fn_transitref17_calls, e39_1, w39_1, e39_3, w39_3, c39_4, e39_6, w39_6, e39_8, w39_8, e39_10, w39_10, e39_12, w39_12, c39_13, e39_15, w39_15, e39_17, w39_17, c39_18, e39_20, w39_20, e39_22, w39_22, c39_23, e39_25, w39_25, c39_26, c39_27, c39_28, e39_30, w39_30, c39_31, c39_32, c39_33, c39_34, c39_35, e39_37, w39_37, c39_38, c39_39, c39_40, c39_41, ha, Stay.row]
    refine ifD (fun h5 => ?_) (fun h5 => ?_)
    · have e := bad 10 (by omega) (by rw [e2, if_pos (by omega)])
      simp -implicitDefEqProofs (disch := omega) only [go_sem, Nat.reduceAdd, Nat.reduceMul, Nat.reduceSub, Nat.reduceBEq, Nat.reduceLeDiff, Nat.reduceLT, fn_transitref17_calls, e39_1, w39_1, e39_3, w39_3, c39_4, e39_6, w39_6, e39_8, w39_8, e39_10, w39_10, e39_12, w39_12, c39_13, e39_15, w39_15, e39_17, w39_17, c39_18, e39_20, w39_20, e39_22, w39_22, c39_23, e39_25, w39_25, c39_26, c39_27, c39_28, e39_30, w39_30, c39_31, c39_32, c39_33, c39_34, c39_35, e39_37, w39_37, c39_38, c39_39, c39_40, c39_41, e]
    simp -implicitDefEqProofs (disch := omega) only [go_sem, Nat.reduceAdd, Nat.reduceMul, Nat.reduceSub, Nat.reduceBEq, Nat.reduceLeDiff, Nat.reduceLT, fn_transitref17_calls, e39_1, w39_1, e39_3, w39_3, c39_4, e39_6, w39_6, e39_8, w39_8, e39_10, w39_10, e39_12, w39_12, c39_13, e39_15, w39_15, e39_17, w39_17, c39_18, e39_20, w39_20, e39_22, w39_22, c39_23, e39_25, w39_25, c39_26, c39_27, c39_28, e39_30, w39_30, c39_31, c39_32, c39_33, c39_34, c39_35, e39_37, w39_37, c39_38, c39_39, c39_40, c39_41, ha, Stay.row]
    refine ifD (fun h6 => ?_) (fun h6 => ?_)
    · have e := bad 10 (by omega) (by rw [e2, if_pos (by omega)])
      simp -implicitDefEqProofs (disch := omega) only [go_sem, Nat.reduceAdd, Nat.reduceMul, Nat.reduceSub, Nat.reduceBEq, Nat.reduceLeDiff, Nat.reduceLT, fn_transitref17_calls, e39_1, w39_1, e39_3, w39_3, c39_4, e39_6, w39_6, e39_8, w39_8, e39_10, w39_10, e39_12, w39_12, c39_13, e39_15, w39_15, e39_17, w39_17, c39_18, e39_20, w39_20, e39_22, w39_22, c39_23, e39_25, w39_25, c39_26, c39_27, c39_28, e39_30, w39_30, c39_31, c39_32, c39_33, c39_34, c39_35, e39_37, w39_37, c39_38, c39_39, c39_40, c39_41, e]
    simp -implicitDefEqProofs (disch := omega) only [go_sem, Nat.reduceAdd, Nat.reduceMul, Nat.reduceSub, Nat.reduceBEq, Nat.reduceLeDiff, Nat.reduceLT, fn_transitref17_calls, e39_1, w39_1, e39_3, w39_3, c39_4, e39_6, w39_6, e39_8, w39_8, e39_10, w39_10, e39_12, w39_12, c39_13, e39_15, w39_15, e39_17, w39_17, c39_18, e39_20, w39_20, e39_22, w39_22, c39_23, e39_25, w39_25, c39_26, c39_27, c39_28, e39_30, w39_30, c39_31, c39_32, c39_33, c39_34, c39_35, e39_37, w39_37, c39_38, c39_39, c39_40, c39_41, ha, Stay.row]
    refine ifD (fun h7 => ?_) (fun h7 => ?_)
    · have e := bad 10 (by omega) (by rw [e2, if_pos (by omega)])
      simp -implicitDefEqProofs (disch := omega) only [go_sem, Nat.reduceAdd, Nat.reduceMul, Nat.reduceSub, Nat.reduceBEq, Nat.reduceLeDiff, Nat.reduceLT, fn_transitref17_calls, e39_1, w39_1, e39_3, w39_3, c39_4, e39_6, w39_6, e39_8, w39_8, e39_10, w39_10, e39_12, w39_12, c39_13, e39_15, w39_15, e39_17, w39_17, c39_18, e39_20, w39_20, e39_22, w39_22, c39_23, e39_25, w39_25, c39_26, c39_27, c39_28, e39_30, w39_30, c39_31, c39_32, c39_33, c39_34, c39_35, e39_37, w39_37, c39_38, c39_39, c39_40, c39_41, e]
    simp -implicitDefEqProofs (disch := omega) only [go_sem, Nat.reduceAdd, Nat.reduceMul, Nat.reduceSub, Nat.reduceBEq, Nat.reduceLeDiff, Nat.reduceLT, fn_transitref17_calls, e39_1, w39_1, e39_3, w39_3, c39_4, e39_6, w39_6, e39_8, w39_8, e39_10, w39_10, e39_12, w39_12, c39_13, e39_15, w39_15, e39_17, w39_17, c39_18, e39_20, w39_20, e39_22, w39_22, c39_23, e39_25, w39_25, c39_26, c39_27, c39_28, e39_30, w39_30, c39_31, c39_32, c39_33, c39_34, c39_35, e39_37, w39_37, c39_38, c39_39, c39_40, c39_41, ha, Stay.row]
    refine ifD (fun h8 => ?_) (fun h8 => ?_)
    · omega
    simp -implicitDefEqProofs (disch := omega) only [go_sem, Nat.reduceAdd, Nat.reduceMul, Nat.reduceSub, Nat.reduceBEq, Nat.reduceLeDiff, Nat.reduceLT, fn_transitref17_calls, e39_1, w39_1, e39_3, w39_3, c39_4, e39_6, w39_6, e39_8, w39_8, e39_10, w39_10, e39_12, w39_12, c39_13, e39_15, w39_15, e39_17, w39_17, c39_18, e39_20, w39_20, e39_22, w39_22, c39_23, e39_25, w39_25, c39_26, c39_27, c39_28, e39_30, w39_30, c39_31, c39_32, c39_33, c39_34, c39_35, e39_37, w39_37, c39_38, c39_39, c39_40, c39_41, ha, Stay.row]
    refine next_stay hi ⟨good (by rw [e2, if_neg (by omega)]), ?_, rfl⟩
    simp only [vals, sget]; rfl
theorem firstBad_zero {g : Nat → Int} : ∀ {n : Nat}, firstBad g n = none → ∀ i, i < n → g i = 0
  | 0, _, i, h => by omega
  | n + 1, hf, i, h => by
    rw [firstBad] at hf
    cases hr : firstBad g n with
    | some j => rw [hr] at hf; simp at hf
    | none =>
      rw [hr] at hf
      rcases Nat.lt_or_ge i n with h2 | h2
      · exact firstBad_zero hr i h2
      · have : i = n := by omega
        subst this
        simpa using hf
theorem firstBad_iff {g : Nat → Int} : ∀ {n i : Nat}, firstBad g n = some i → g i ≠ 0
  | 0, i, h => by simp [firstBad] at h
  | n + 1, i, hf => by
    rw [firstBad] at hf
    cases hr : firstBad g n with
    | some j =>
      rw [hr] at hf
      simp only [Option.some.injEq] at hf
      subst hf
      exact firstBad_iff hr
    | none =>
      rw [hr] at hf
      simp only [ne_eq, Option.ite_none_right_eq_some, Option.some.injEq] at hf
      obtain ⟨h1, h2⟩ := hf
      subst h2
      exact h1
theorem slice_tr (l : List Trp) (c : Cap) (k : Nat) (M : Mem) (h : k ≤ l.length) : sliceV 5 (.slice (l.map Trp.row) c) none (some (.int .i64 (k : Int))) none M = some (.slice ((l.take k).map Trp.row) (capS c k l.length l.length false)) := by
  have hh : headLen 5 (l.map Trp.row) = true := by cases l <;> rfl
  rw [slice_h 5 _ c .i64 k M (by omega) (by simpa using h) hh, List.map_take]
  simp
theorem findZ_iff (l : List Trp) (id : List UInt8) : (0 ≤ findZ l id) ↔ id ∈ l.map Trp.id := by
  constructor
  · intro h
    cases hf : findP l id with
    | none => rw [findZ, hf] at h; simp at h
    | some i =>
      have : hasId l id i ≠ 0 := by
        intro h0
        have := firstBad_iff hf
        exact this h0
      simp only [hasId] at this
      cases ht : l[i]? with
      | none => rw [ht] at this; simp at this
      | some t =>
        rw [ht] at this
        simp only [ne_eq, ite_eq_right_iff, Classical.not_imp] at this
        exact List.mem_map.2 ⟨t, List.mem_of_getElem? ht, this.1⟩
  · intro h
    obtain ⟨t, ht, rfl⟩ := List.mem_map.1 h
    obtain ⟨i, hi⟩ := List.getElem?_of_mem ht
    cases hf : findP l t.id with
    | some k => rw [findZ, hf]; simp
    | none =>
      have := firstBad_zero hf i (List.getElem?_eq_some_iff.1 hi).1
      simp [hasId, hi] at this
theorem transitref17_one_ok (l : List Trp) (c : Cap) (i : Nat) {t : Trp} (ht : l[i]? = some t) (stops routes cals : Int) (hl : l.length ≤ 1000) (hw : ∀ t ∈ l, t.wf) (hc : ∀ t ∈ l, t.calls.length ≤ 1000) : PCalls PR i_transitref17_one [.slice (l.map Trp.row) c, .int .i64 i, .int .i64 stops, .int .i64 routes, .int .i64 cals] (fun v => v = .int .i64 (tripErr l stops routes cals i)) := by
  have hm : maxLen = 9223372036854775807 := by rfl
  have hil := (List.getElem?_eq_some_iff.1 ht).1
  have hta := trp_at ht
  have hmem := List.mem_of_getElem? ht
  have hid := (hw t hmem).1
  have hv := transitref05_Valid_ok t.id hid
  have hf := fun c => transitref17_Find_ok (l.take i) c t.id (by rw [List.length_take]; omega)
  have hck := transitref17_calls_ok t.calls t.tag stops (hc t hmem)
  have hsl := fun M => slice_tr l c i M (by omega)
  have hz := findZ_iff (l.take i) t.id
  have herr : tripErr l stops routes cals i = if okName t.id = false then 12 else if t.id ∈ (l.take i).map Trp.id then 6 else if t.route < 0 ∨ routes ≤ t.route ∨ t.cal < 0 ∨ cals ≤ t.cal then 9 else callsE t.calls stops := by simp only [tripErr, ht, callsE]
  generalize findZ (l.take i) t.id = z at *
  refine acalls_pop fn_transitref17_one_ok (by simp [fn_transitref17_one]) ?_
  simp -implicitDefEqProofs (disch := omega) only [go_sem, Nat.reduceAdd, Nat.reduceMul, Nat.reduceSub, Nat.reduceBEq, Nat.reduceLeDiff, Nat.reduceLT, fn_transitref17_one, e33_1, w33_1, e33_3, w33_3, e33_5, w33_5, c33_6, e33_8, w33_8, e33_10, w33_10, c33_11, e33_13, w33_13, e33_15, w33_15, c33_16, e33_18, w33_18, e33_20, w33_20, c33_21, c33_22, c33_23, c33_24, c33_25, c33_26, hta, List.length_map]
  first | refine callD (hv) ?_ | refine callQD (hv) ?_
  refine ifB (fun g1 => ?_) (fun g1 => ?_)
  · have e : tripErr l stops routes cals i = 12 := by rw [herr, if_pos (by simpa using g1)]
    simp -implicitDefEqProofs (disch := omega) only [go_sem, Nat.reduceAdd, Nat.reduceMul, Nat.reduceSub, Nat.reduceBEq, Nat.reduceLeDiff, Nat.reduceLT, fn_transitref17_one, e33_1, w33_1, e33_3, w33_3, e33_5, w33_5, c33_6, e33_8, w33_8, e33_10, w33_10, c33_11, e33_13, w33_13, e33_15, w33_15, c33_16, e33_18, w33_18, e33_20, w33_20, c33_21, c33_22, c33_23, c33_24, c33_25, c33_26, e]
  have g1' : ¬ okName t.id = false := by simpa using g1
  rw [if_neg g1'] at herr
  simp -implicitDefEqProofs (disch := omega) only [go_sem, Nat.reduceAdd, Nat.reduceMul, Nat.reduceSub, Nat.reduceBEq, Nat.reduceLeDiff, Nat.reduceLT, fn_transitref17_one, e33_1, w33_1, e33_3, w33_3, e33_5, w33_5, c33_6, e33_8, w33_8, e33_10, w33_10, c33_11, e33_13, w33_13, e33_15, w33_15, c33_16, e33_18, w33_18, e33_20, w33_20, c33_21, c33_22, c33_23, c33_24, c33_25, c33_26, hsl]
  first | refine callD (hf _) ?_ | refine callQD (hf _) ?_
  simp -implicitDefEqProofs (disch := omega) only [go_sem, Nat.reduceAdd, Nat.reduceMul, Nat.reduceSub, Nat.reduceBEq, Nat.reduceLeDiff, Nat.reduceLT, fn_transitref17_one, e33_1, w33_1, e33_3, w33_3, e33_5, w33_5, c33_6, e33_8, w33_8, e33_10, w33_10, c33_11, e33_13, w33_13, e33_15, w33_15, c33_16, e33_18, w33_18, e33_20, w33_20, c33_21, c33_22, c33_23, c33_24, c33_25, c33_26]
  refine ifD (fun g2 => ?_) (fun g2 => ?_)
  · have e : tripErr l stops routes cals i = 6 := by rw [herr, if_pos (hz.1 g2)]
    simp -implicitDefEqProofs (disch := omega) only [go_sem, Nat.reduceAdd, Nat.reduceMul, Nat.reduceSub, Nat.reduceBEq, Nat.reduceLeDiff, Nat.reduceLT, fn_transitref17_one, e33_1, w33_1, e33_3, w33_3, e33_5, w33_5, c33_6, e33_8, w33_8, e33_10, w33_10, c33_11, e33_13, w33_13, e33_15, w33_15, c33_16, e33_18, w33_18, e33_20, w33_20, c33_21, c33_22, c33_23, c33_24, c33_25, c33_26, e]
  rw [if_neg (fun h => g2 (hz.2 h))] at herr
  have bad : (t.route < 0 ∨ routes ≤ t.route ∨ t.cal < 0 ∨ cals ≤ t.cal) → tripErr l stops routes cals i = 9 := fun h => by rw [herr, if_pos h]
  simp -implicitDefEqProofs (disch := omega) only [go_sem, Nat.reduceAdd, Nat.reduceMul, Nat.reduceSub, Nat.reduceBEq, Nat.reduceLeDiff, Nat.reduceLT, fn_transitref17_one, e33_1, w33_1, e33_3, w33_3, e33_5, w33_5, c33_6, e33_8, w33_8, e33_10, w33_10, c33_11, e33_13, w33_13, e33_15, w33_15, c33_16, e33_18, w33_18, e33_20, w33_20, c33_21, c33_22, c33_23, c33_24, c33_25, c33_26]
  refine ifD (fun k1 => ?_) (fun k1 => ?_)
  · simp -implicitDefEqProofs (disch := omega) only [go_sem, Nat.reduceAdd, Nat.reduceMul, Nat.reduceSub, Nat.reduceBEq, Nat.reduceLeDiff, Nat.reduceLT, fn_transitref17_one, e33_1, w33_1, e33_3, w33_3, e33_5, w33_5, c33_6, e33_8, w33_8, e33_10, w33_10, c33_11, e33_13, w33_13, e33_15, w33_15, c33_16, e33_18, w33_18, e33_20, w33_20, c33_21, c33_22, c33_23, c33_24, c33_25, c33_26, bad (by omega)]
  simp -implicitDefEqProofs (disch := omega) only [go_sem, Nat.reduceAdd, Nat.reduceMul, Nat.reduceSub, Nat.reduceBEq, Nat.reduceLeDiff, Nat.reduceLT, fn_transitref17_one, e33_1, w33_1, e33_3, w33_3, e33_5, w33_5, c33_6, e33_8, w33_8, e33_10, w33_10, c33_11, e33_13, w33_13, e33_15, w33_15, c33_16, e33_18, w33_18, e33_20, w33_20, c33_21, c33_22, c33_23, c33_24, c33_25, c33_26]
  refine ifD (fun k2 => ?_) (fun k2 => ?_)
  · simp -implicitDefEqProofs (disch := omega) only [go_sem, Nat.reduceAdd, Nat.reduceMul, Nat.reduceSub, Nat.reduceBEq, Nat.reduceLeDiff, Nat.reduceLT, fn_transitref17_one, e33_1, w33_1, e33_3, w33_3, e33_5, w33_5, c33_6, e33_8, w33_8, e33_10, w33_10, c33_11, e33_13, w33_13, e33_15, w33_15, c33_16, e33_18, w33_18, e33_20, w33_20, c33_21, c33_22, c33_23, c33_24, c33_25, c33_26, bad (by omega)]
  simp -implicitDefEqProofs (disch := omega) only [go_sem, Nat.reduceAdd, Nat.reduceMul, Nat.reduceSub, Nat.reduceBEq, Nat.reduceLeDiff, Nat.reduceLT, fn_transitref17_one, e33_1, w33_1, e33_3, w33_3, e33_5, w33_5, c33_6, e33_8, w33_8, e33_10, w33_10, c33_11, e33_13, w33_13, e33_15, w33_15, c33_16, e33_18, w33_18, e33_20, w33_20, c33_21, c33_22, c33_23, c33_24, c33_25, c33_26]
  refine ifD (fun k3 => ?_) (fun k3 => ?_)
  · simp -implicitDefEqProofs (disch := omega) only [go_sem, Nat.reduceAdd, Nat.reduceMul, Nat.reduceSub, Nat.reduceBEq, Nat.reduceLeDiff, Nat.reduceLT, fn_transitref17_one, e33_1, w33_1, e33_3, w33_3, e33_5, w33_5, c33_6, e33_8, w33_8, e33_10, w33_10, c33_11, e33_13, w33_13, e33_15, w33_15, c33_16, e33_18, w33_18, e33_20, w33_20, c33_21, c33_22, c33_23, c33_24, c33_25, c33_26, bad (by omega)]
  simp -implicitDefEqProofs (disch := omega) only [go_sem, Nat.reduceAdd, Nat.reduceMul, Nat.reduceSub, Nat.reduceBEq, Nat.reduceLeDiff, Nat.reduceLT, fn_transitref17_one, e33_1, w33_1, e33_3, w33_3, e33_5, w33_5, c33_6, e33_8, w33_8, e33_10, w33_10, c33_11, e33_13, w33_13, e33_15, w33_15, c33_16, e33_18, w33_18, e33_20, w33_20, c33_21, c33_22, c33_23, c33_24, c33_25, c33_26]
  refine ifD (fun k4 => ?_) (fun k4 => ?_)
  · simp -implicitDefEqProofs (disch := omega) only [go_sem, Nat.reduceAdd, Nat.reduceMul, Nat.reduceSub, Nat.reduceBEq, Nat.reduceLeDiff, Nat.reduceLT, fn_transitref17_one, e33_1, w33_1, e33_3, w33_3, e33_5, w33_5, c33_6, e33_8, w33_8, e33_10, w33_10, c33_11, e33_13, w33_13, e33_15, w33_15, c33_16, e33_18, w33_18, e33_20, w33_20, c33_21, c33_22, c33_23, c33_24, c33_25, c33_26, bad (by omega)]
  rw [if_neg (by omega)] at herr
  simp -implicitDefEqProofs (disch := omega) only [go_sem, Nat.reduceAdd, Nat.reduceMul, Nat.reduceSub, Nat.reduceBEq, Nat.reduceLeDiff, Nat.reduceLT, fn_transitref17_one, e33_1, w33_1, e33_3, w33_3, e33_5, w33_5, c33_6, e33_8, w33_8, e33_10, w33_10, c33_11, e33_13, w33_13, e33_15, w33_15, c33_16, e33_18, w33_18, e33_20, w33_20, c33_21, c33_22, c33_23, c33_24, c33_25, c33_26]
  first | refine callD (hck) ?_ | refine callQD (hck) ?_
  simp -implicitDefEqProofs (disch := omega) only [go_sem, Nat.reduceAdd, Nat.reduceMul, Nat.reduceSub, Nat.reduceBEq, Nat.reduceLeDiff, Nat.reduceLT, fn_transitref17_one, e33_1, w33_1, e33_3, w33_3, e33_5, w33_5, c33_6, e33_8, w33_8, e33_10, w33_10, c33_11, e33_13, w33_13, e33_15, w33_15, c33_16, e33_18, w33_18, e33_20, w33_20, c33_21, c33_22, c33_23, c33_24, c33_25, c33_26, herr]
theorem transitref17_Check_ok (l : List Trp) (c : Cap) (stops routes cals : Int) (hl : l.length ≤ 1000) (hw : ∀ t ∈ l, t.wf) (hc : ∀ t ∈ l, t.calls.length ≤ 1000) : PCalls PR i_transitref17_Check [.slice (l.map Trp.row) c, .int .i64 stops, .int .i64 routes, .int .i64 cals] (fun v => v = pairV (checkT l stops routes cals)) := by
  refine acalls_pop fn_transitref17_Check_ok (by simp [fn_transitref17_Check]) ?_
  simp -implicitDefEqProofs (disch := omega) only [go_sem, Nat.reduceAdd, Nat.reduceMul, Nat.reduceSub, Nat.reduceBEq, Nat.reduceLeDiff, Nat.reduceLT, fn_transitref17_Check, e15_1, w15_1, e15_3, w15_3, c15_4, e15_6, w15_6, e15_8, w15_8, e15_10, w15_10, e15_12, w15_12, e15_14, w15_14, c15_15, e15_17, w15_17, c15_18, c15_19, e15_21, w15_21, c15_22, c15_23, c15_24, c15_25, c15_26, e15_28, w15_28, c15_29, c15_30, c15_31, c15_32, List.length_map]
  refine ifD (fun h1 => ?_) (fun h1 => ?_)
  · have e : checkT l stops routes cals = (0, 5) := by rw [checkT, if_pos (by omega)]
    simp -implicitDefEqProofs (disch := omega) only [go_sem, Nat.reduceAdd, Nat.reduceMul, Nat.reduceSub, Nat.reduceBEq, Nat.reduceLeDiff, Nat.reduceLT, fn_transitref17_Check, e15_1, w15_1, e15_3, w15_3, c15_4, e15_6, w15_6, e15_8, w15_8, e15_10, w15_10, e15_12, w15_12, e15_14, w15_14, c15_15, e15_17, w15_17, c15_18, c15_19, e15_21, w15_21, c15_22, c15_23, c15_24, c15_25, c15_26, e15_28, w15_28, c15_29, c15_30, c15_31, c15_32, pairV, e]
  have hres : checkT l stops routes cals = match firstBad (tripErr l stops routes cals) l.length with | some i => ((i : Int), tripErr l stops routes cals i) | none => (0, 0) := by rw [checkT, if_neg (by omega)] <;> rfl
  simp -implicitDefEqProofs (disch := omega) only [go_sem, Nat.reduceAdd, Nat.reduceMul, Nat.reduceSub, Nat.reduceBEq, Nat.reduceLeDiff, Nat.reduceLT, fn_transitref17_Check, e15_1, w15_1, e15_3, w15_3, c15_4, e15_6, w15_6, e15_8, w15_8, e15_10, w15_10, e15_12, w15_12, e15_14, w15_14, c15_15, e15_17, w15_17, c15_18, c15_19, e15_21, w15_21, c15_22, c15_23, c15_24, c15_25, c15_26, e15_28, w15_28, c15_29, c15_30, c15_31, c15_32, List.length_map]
  refine wpC_forL l (fun i vs M => (∀ j, j < i → tripErr l stops routes cals j = 0) ∧ vs = [.slice (l.map Trp.row) c, .int .i64 stops, .int .i64 routes, .int .i64 cals, .int .i64 i] ∧ M = []) ⟨fun j hj => by omega, rfl, rfl⟩ ?_ ?_
  rotate_left
  · rintro vs M ⟨hz, rfl, rfl⟩
    have e : checkT l stops routes cals = (0, 0) := by rw [hres, firstBad_none _ hz]
    simp -implicitDefEqProofs (disch := omega) only [go_sem, Nat.reduceAdd, Nat.reduceMul, Nat.reduceSub, Nat.reduceBEq, Nat.reduceLeDiff, Nat.reduceLT, fn_transitref17_Check, e15_1, w15_1, e15_3, w15_3, c15_4, e15_6, w15_6, e15_8, w15_8, e15_10, w15_10, e15_12, w15_12, e15_14, w15_14, c15_15, e15_17, w15_17, c15_18, c15_19, e15_21, w15_21, c15_22, c15_23, c15_24, c15_25, c15_26, e15_28, w15_28, c15_29, c15_30, c15_31, c15_32, List.length_map, dec_irrefl, pairV, e]
  rintro i t vs M ht hi hd ⟨hz, rfl, rfl⟩
  have hone := transitref17_one_ok l c i ht stops routes cals hl hw hc
  simp -implicitDefEqProofs (disch := omega) only [go_sem, Nat.reduceAdd, Nat.reduceMul, Nat.reduceSub, Nat.reduceBEq, Nat.reduceLeDiff, Nat.reduceLT, fn_transitref17_Check, e15_1, w15_1, e15_3, w15_3, c15_4, e15_6, w15_6, e15_8, w15_8, e15_10, w15_10, e15_12, w15_12, e15_14, w15_14, c15_15, e15_17, w15_17, c15_18, c15_19, e15_21, w15_21, c15_22, c15_23, c15_24, c15_25, c15_26, e15_28, w15_28, c15_29, c15_30, c15_31, c15_32, List.length_map, hd]
  first | refine callD (hone) ?_ | refine callQD (hone) ?_
  simp -implicitDefEqProofs (disch := omega) only [go_sem, Nat.reduceAdd, Nat.reduceMul, Nat.reduceSub, Nat.reduceBEq, Nat.reduceLeDiff, Nat.reduceLT, fn_transitref17_Check, e15_1, w15_1, e15_3, w15_3, c15_4, e15_6, w15_6, e15_8, w15_8, e15_10, w15_10, e15_12, w15_12, e15_14, w15_14, c15_15, e15_17, w15_17, c15_18, c15_19, e15_21, w15_21, c15_22, c15_23, c15_24, c15_25, c15_26, e15_28, w15_28, c15_29, c15_30, c15_31, c15_32]
  refine ifD (fun h => ?_) (fun h => ?_)
  · simp -implicitDefEqProofs (disch := omega) only [go_sem, Nat.reduceAdd, Nat.reduceMul, Nat.reduceSub, Nat.reduceBEq, Nat.reduceLeDiff, Nat.reduceLT, fn_transitref17_Check, e15_1, w15_1, e15_3, w15_3, c15_4, e15_6, w15_6, e15_8, w15_8, e15_10, w15_10, e15_12, w15_12, e15_14, w15_14, c15_15, e15_17, w15_17, c15_18, c15_19, e15_21, w15_21, c15_22, c15_23, c15_24, c15_25, c15_26, e15_28, w15_28, c15_29, c15_30, c15_31, c15_32]
    refine next_stay hi ⟨fun j hj => ?_, rfl, rfl⟩
    rcases Nat.lt_or_ge j i with h4 | h4
    · exact hz j h4
    · have : j = i := by omega
      subst this
      exact h
  · have e : checkT l stops routes cals = ((i : Int), tripErr l stops routes cals i) := by rw [hres, firstBad_at h hz hi]
    simp -implicitDefEqProofs (disch := omega) only [go_sem, Nat.reduceAdd, Nat.reduceMul, Nat.reduceSub, Nat.reduceBEq, Nat.reduceLeDiff, Nat.reduceLT, fn_transitref17_Check, e15_1, w15_1, e15_3, w15_3, c15_4, e15_6, w15_6, e15_8, w15_8, e15_10, w15_10, e15_12, w15_12, e15_14, w15_14, c15_15, e15_17, w15_17, c15_18, c15_19, e15_21, w15_21, c15_22, c15_23, c15_24, c15_25, c15_26, e15_28, w15_28, c15_29, c15_30, c15_31, c15_32, pairV, e]

/-! ### The text of a pattern tells the pattern -/
def isDig (c : UInt8) : Bool := decide (48 ≤ c.toNat) && decide (c.toNat ≤ 57)
theorem dig_of (d : Nat) (h : d < 10) : (UInt8.ofNat (48 + d)).toNat = 48 + d := by
  rw [UInt8.toNat_ofNat']; omega
theorem isDig_of (d : Nat) (h : d < 10) : isDig (UInt8.ofNat (48 + d)) = true := by
  rw [isDig, dig_of d h, decide_eq_true (by omega), decide_eq_true (by omega)]; rfl
theorem digits_dig (u : Nat) : ∀ c ∈ Lib.decDigits u, isDig c = true := by
  induction u using Nat.strongRecOn with
  | _ u ih =>
    rw [Lib.decDigits]
    split
    · rename_i h
      intro c hc
      simp only [List.mem_singleton] at hc
      subst hc
      exact isDig_of u h
    · rename_i h
      intro c hc
      rcases List.mem_append.1 hc with hc | hc
      · exact ih (u / 10) (by omega) c hc
      · simp only [List.mem_singleton] at hc
        subst hc
        exact isDig_of _ (Nat.mod_lt _ (by omega))
def valD (l : List UInt8) : Nat := l.foldl (fun v c => 10 * v + (c.toNat - 48)) 0
theorem valD_digits (u : Nat) : valD (Lib.decDigits u) = u := by
  induction u using Nat.strongRecOn with
  | _ u ih =>
    rw [Lib.decDigits]
    split
    · rename_i h
      simp only [valD, List.foldl_cons, List.foldl_nil]
      rw [dig_of u h]; omega
    · rename_i h
      have := ih (u / 10) (by omega)
      simp only [valD] at this
      simp only [valD, List.foldl_append, List.foldl_cons, List.foldl_nil]
      rw [this, dig_of _ (Nat.mod_lt _ (by omega))]
      omega
theorem digits_inj {u v : Nat} (h : Lib.decDigits u = Lib.decDigits v) : u = v := by
  have := congrArg valD h
  rwa [valD_digits, valD_digits] at this
theorem digits_ne (u : Nat) : Lib.decDigits u ≠ [] := fun h => by
  have h1 := congrArg List.length h
  rw [Lib.decDigits_length] at h1
  have := Lib.nDigits_pos u
  simp at h1
  omega
theorem split_dig : ∀ (a b r s : List UInt8), (∀ c ∈ a, isDig c = true) → (∀ c ∈ b, isDig c = true) → (∀ c, r.head? = some c → isDig c = false) → (∀ c, s.head? = some c → isDig c = false) → a ++ r = b ++ s → a = b ∧ r = s
  | [], [], r, s, _, _, _, _, h => ⟨rfl, by simpa using h⟩
  | x :: a, [], r, s, ha, _, _, hs, h => by
    have h1 : s.head? = some x := by rw [List.nil_append] at h; rw [← h]; rfl
    have := hs x h1
    rw [ha x (by simp)] at this
    cases this
  | [], y :: b, r, s, _, hb, hr, _, h => by
    have h1 : r.head? = some y := by rw [List.nil_append] at h; rw [h]; rfl
    have := hr y h1
    rw [hb y (by simp)] at this
    cases this
  | x :: a, y :: b, r, s, ha, hb, hr, hs, h => by
    simp only [List.cons_append, List.cons.injEq] at h
    obtain ⟨e1, e2⟩ := split_dig a b r s (fun c hc => ha c (by simp [hc])) (fun c hc => hb c (by simp [hc])) hr hs h.2
    exact ⟨by rw [h.1, e1], e2⟩
theorem keyT_head (b a : Bool) (r : List UInt8) : ∀ c, (Go.Proofs.keyT b a ++ r).head? = some c → isDig c = false := by
  intro c hc
  cases b <;> cases a <;> simp [Go.Proofs.keyT] at hc <;> subst hc <;> rfl
theorem keyT_inj {b a b' a' : Bool} {r s : List UInt8} (h : Go.Proofs.keyT b a ++ r = Go.Proofs.keyT b' a' ++ s) : b = b' ∧ a = a' ∧ r = s := by
  cases b <;> cases a <;> cases b' <;> cases a' <;> simp [Go.Proofs.keyT] at h <;> exact ⟨rfl, rfl, h⟩
theorem itoa_inj {n m : Int} {b a b' a' : Bool} {r s : List UInt8} (h : Lib.itoa n ++ (Go.Proofs.keyT b a ++ r) = Lib.itoa m ++ (Go.Proofs.keyT b' a' ++ s)) : n = m ∧ b = b' ∧ a = a' ∧ r = s := by
  have nodash : ∀ (u v : Nat) (x y : List UInt8), 45 :: x = Lib.decDigits v ++ y → False := fun u v x y h => by
    cases hd : Lib.decDigits v with
    | nil => exact digits_ne v hd
    | cons c cs =>
      rw [hd] at h
      simp only [List.cons_append, List.cons.injEq] at h
      have := digits_dig v c (by rw [hd]; simp)
      rw [← h.1] at this
      cases this
  have core : ∀ u v : Nat, Lib.decDigits u ++ (Go.Proofs.keyT b a ++ r) = Lib.decDigits v ++ (Go.Proofs.keyT b' a' ++ s) → u = v ∧ b = b' ∧ a = a' ∧ r = s := fun u v h => by
    obtain ⟨h1, h2⟩ := split_dig _ _ _ _ (digits_dig u) (digits_dig v) (keyT_head b a r) (keyT_head b' a' s) h
    exact ⟨digits_inj h1, keyT_inj h2⟩
  unfold Lib.itoa at h
  by_cases h1 : n < 0 <;> by_cases h2 : m < 0
  · rw [if_pos h1, if_pos h2] at h
    simp only [List.cons_append, List.cons.injEq, true_and] at h
    obtain ⟨e, q⟩ := core _ _ h
    exact ⟨by omega, q⟩
  · rw [if_pos h1, if_neg h2, List.cons_append] at h
    exact (nodash 0 _ _ _ h).elim
  · rw [if_neg h1, if_pos h2, List.cons_append] at h
    exact (nodash 0 _ _ _ h.symm).elim
  · rw [if_neg h1, if_neg h2] at h
    obtain ⟨e, q⟩ := core _ _ h
    exact ⟨by omega, q⟩
theorem keyL_cons (c : Stay) (l : List Stay) : keyL (c :: l) = Lib.itoa c.stop ++ (Go.Proofs.keyT c.board c.alight ++ keyL l) := by simp [keyL]
theorem keyL_ne (c : Stay) (l : List Stay) : keyL (c :: l) ≠ [] := fun h => by
  rw [keyL_cons] at h
  have h1 := (List.append_eq_nil_iff.1 h).1
  unfold Lib.itoa at h1
  split at h1
  · cases h1
  · exact digits_ne _ h1
theorem key_pat : ∀ (a b : List Stay), keyL a = keyL b → patL a = patL b
  | [], [], _ => rfl
  | c :: l, [], h => (keyL_ne c l h).elim
  | [], d :: m, h => (keyL_ne d m h.symm).elim
  | c :: l, d :: m, h => by
    rw [keyL_cons, keyL_cons] at h
    obtain ⟨h1, h2, h3, h4⟩ := itoa_inj h
    have := key_pat l m h4
    simp only [patL] at this
    simp only [patL, List.map_cons, this, patC, h1, h2, h3]
theorem pat_key : ∀ (a b : List Stay), patL a = patL b → keyL a = keyL b
  | [], [], _ => rfl
  | c :: l, [], h => by simp [patL] at h
  | [], d :: m, h => by simp [patL] at h
  | c :: l, d :: m, h => by
    simp only [patL, List.map_cons, List.cons.injEq] at h
    rw [keyL_cons, keyL_cons, pat_key l m h.2]
    simp only [patC, Prod.mk.injEq] at h
    rw [h.1.1, h.1.2.1, h.1.2.2]
theorem key_iff (a b : List Stay) : keyL a = keyL b ↔ samePat a b = true := ⟨fun h => decide_eq_true (key_pat a b h), fun h => pat_key a b (of_decide_eq_true h)⟩
/-! ### The groups by their patterns -/
theorem posK_none {k : List UInt8} : ∀ {K : List (List UInt8)}, posK k K = none → k ∉ K
  | [], _ => by simp
  | x :: xs, h => by
    rw [posK] at h
    split at h
    · cases h
    · rename_i hx
      cases hp : posK k xs with
      | some j => rw [hp] at h; cases h
      | none =>
        have := posK_none hp
        simp [hx, this]
def callsAt (l : List Trp) (i : Nat) : List Stay := match l[i]? with | some t => t.calls | none => []
/-- The indices below n whose trip has the text k. -/
def grpK (l : List Trp) (n : Nat) (k : List UInt8) : List Nat := (List.range n).filter fun i => decide (keyL (callsAt l i) = k)
theorem grpK_succ (l : List Trp) (n : Nat) (k : List UInt8) : grpK l (n + 1) k = if keyL (callsAt l n) = k then grpK l n k ++ [n] else grpK l n k := by
  rw [grpK, List.range_succ, List.filter_append, ← grpK]
  by_cases h : keyL (callsAt l n) = k <;> simp [h]
def isFirst (l : List Trp) (i : Nat) : Bool := !earlier l (callsAt l i) i
def firsts (l : List Trp) (n : Nat) : List Nat := (List.range n).filter (isFirst l)
theorem firsts_succ (l : List Trp) (n : Nat) : firsts l (n + 1) = if isFirst l n then firsts l n ++ [n] else firsts l n := by
  rw [firsts, List.range_succ, List.filter_append, ← firsts]
  cases h : isFirst l n <;> simp [h]
theorem callsAt_some {l : List Trp} {i : Nat} {t : Trp} (h : l[i]? = some t) : callsAt l i = t.calls := by rw [callsAt, h]
structure GInv (l : List Trp) (n : Nat) (s : GS) : Prop where
  nodup : s.keys.Nodup
  keys : s.keys = (firsts l n).map fun i => keyL (callsAt l i)
  all : ∀ i, i < n → keyL (callsAt l i) ∈ s.keys
  grps : s.grps = s.keys.map (grpK l n)
theorem earlier_iff {l : List Trp} {p : List Stay} {i : Nat} (hi : i ≤ l.length) : earlier l p i = true ↔ ∃ k, k < i ∧ keyL (callsAt l k) = keyL p := by
  rw [earlier, List.any_eq_true]
  constructor
  · rintro ⟨k, hk, h⟩
    have hk := List.mem_range.1 hk
    refine ⟨k, hk, ?_⟩
    have ht : l[k]? = some (l[k]'(by omega)) := by simp
    rw [ht] at h
    rw [callsAt_some ht, key_iff]; exact h
  · rintro ⟨k, hk, h⟩
    refine ⟨k, List.mem_range.2 hk, ?_⟩
    have ht : l[k]? = some (l[k]'(by omega)) := by simp
    rw [ht]
    rw [callsAt_some ht, key_iff] at h
    exact h
theorem gInv (l : List Trp) : ∀ n, n ≤ l.length → GInv l n (gUp l n)
  | 0, _ => ⟨List.nodup_nil, rfl, fun i h => by omega, rfl⟩
  | n + 1, hn => by
    have h := gInv l n (by omega)
    have ht : l[n]? = some (l[n]'(by omega)) := by simp
    have hcs := callsAt_some ht
    rw [gUp, ht]
    simp only
    rw [← hcs]
    generalize hk : keyL (callsAt l n) = k
    generalize gUp l n = s at *
    have hfirst : isFirst l n = decide (k ∉ s.keys) := by
      rw [isFirst]
      by_cases hm : k ∈ s.keys
      · have : earlier l (callsAt l n) n = true := by
          rw [earlier_iff (by omega)]
          rw [h.keys] at hm
          obtain ⟨i, hi, he⟩ := List.mem_map.1 hm
          rw [firsts] at hi
          have := List.mem_range.1 (List.mem_filter.1 hi).1
          exact ⟨i, this, by rw [he, hk]⟩
        rw [this]; simp [hm]
      · have : earlier l (callsAt l n) n = false := by
          rw [← Bool.not_eq_true, earlier_iff (by omega)]
          rintro ⟨i, hi, he⟩
          exact hm (by rw [← hk, ← he]; exact h.all i hi)
        rw [this]; simp [hm]
    have hfs := firsts_succ l n
    rw [hfirst] at hfs
    rw [gStep]
    cases hp : posK k s.keys with
    | none =>
      have hm := posK_none hp
      simp only
      rw [if_pos (by simpa using hm)] at hfs
      refine ⟨?_, ?_, ?_, ?_⟩
      · rw [List.nodup_append]
        refine ⟨h.nodup, by simp, ?_⟩
        intro a ha b hb e
        simp only [List.mem_singleton] at hb
        exact hm (by rw [← hb, ← e]; exact ha)
      · rw [hfs, List.map_append, ← h.keys]; simp [hk]
      · intro i hi
        rcases Nat.lt_or_ge i n with h2 | h2
        · exact List.mem_append_left _ (h.all i h2)
        · have : i = n := by omega
          subst this
          rw [hk]; simp
      · rw [List.map_append, h.grps]
        show s.keys.map (grpK l n) ++ [[n]] = s.keys.map (grpK l (n + 1)) ++ [k].map (grpK l (n + 1))
        congr 1
        · refine List.map_congr_left fun x hx => ?_
          rw [grpK_succ, hk, if_neg (fun e => hm (by rw [e]; exact hx))]
        · have : grpK l n k = [] := by
            rw [grpK, List.filter_eq_nil_iff]
            intro i hi hd
            exact hm (by rw [← of_decide_eq_true hd]; exact h.all i (List.mem_range.1 hi))
          rw [List.map_singleton, grpK_succ, hk, if_pos rfl, this]; rfl
    | some j =>
      obtain ⟨hj, hkj⟩ := posK_lt hp
      have hm : k ∈ s.keys := List.mem_of_getElem? hkj
      simp only
      rw [if_neg (by simpa using hm)] at hfs
      refine ⟨h.nodup, by rw [hfs]; exact h.keys, ?_, ?_⟩
      · intro i hi
        rcases Nat.lt_or_ge i n with h2 | h2
        · exact h.all i h2
        · have : i = n := by omega
          subst this
          rw [hk]; exact hm
      · have hgj : s.grps[j]? = some (grpK l n k) := by rw [h.grps, List.getElem?_map, hkj]; rfl
        rw [hgj, Option.getD_some]
        refine List.ext_getElem? fun i => ?_
        rw [List.getElem?_set, List.getElem?_map]
        by_cases hij : j = i
        · subst hij
          rw [if_pos rfl, if_pos (by rw [h.grps, List.length_map]; exact hj), hkj, Option.map_some, grpK_succ, hk, if_pos rfl]
        · rw [if_neg hij, h.grps, List.getElem?_map]
          cases hx : s.keys[i]? with
          | none => rfl
          | some x =>
            have hne : k ≠ x := fun e => hij (by
              subst e
              have hi := (List.getElem?_eq_some_iff.1 hx).1
              exact (List.getElem?_inj hj h.nodup).1 (hkj.trans hx.symm))
            rw [Option.map_some, Option.map_some, grpK_succ, hk, if_neg hne]
theorem grpU_grpK (l : List Trp) (p : List Stay) : grpU l p l.length = grpK l l.length (keyL p) := by
  rw [grpU, grpK]
  refine List.filter_congr fun i hi => ?_
  have ht : l[i]? = some (l[i]'(List.mem_range.1 hi)) := by simp
  rw [ht, callsAt_some ht]
  simp only
  rw [Bool.eq_iff_iff, decide_eq_true_eq, key_iff]
theorem groupAt_eq {l : List Trp} {i : Nat} (hi : i < l.length) : groupAt l i = if isFirst l i then grpU l (callsAt l i) l.length else [] := by
  have ht : l[i]? = some (l[i]'hi) := by simp
  rw [groupAt, ht, isFirst, callsAt_some ht]
  simp only
  cases earlier l l[i].calls i <;> rfl
/-- The groups: those of the first trip of each pattern, in order. -/
theorem grpsL_eq (l : List Trp) : grpsL l = (firsts l l.length).map (groupAt l) := by
  have h := gInv l l.length (Nat.le_refl _)
  rw [grpsL, h.grps, h.keys, List.map_map]
  refine List.map_congr_left fun i hi => ?_
  rw [firsts] at hi
  obtain ⟨h1, h2⟩ := List.mem_filter.1 hi
  rw [groupAt_eq (List.mem_range.1 h1), if_pos h2, grpU_grpK]; rfl

end Go.Vm.C

