/- Patterns; the groups as lists and in memory. -/
import Derived.Test.YtjmpgjbbcfbhbaaDoorT1

namespace Go.Vm.C
open Go.Vm
set_option maxHeartbeats 1000000
set_option maxRecDepth 10000
set_option linter.unusedSimpArgs false
set_option linter.unusedVariables false

/-! ### Patterns -/
def patC (c : Stay) : Int × Bool × Bool := (c.stop, c.board, c.alight)
def patL (l : List Stay) : List (Int × Bool × Bool) := l.map patC
def samePat (a b : List Stay) : Bool := decide (patL a = patL b)
theorem samePat_len {a b : List Stay} (h : a.length ≠ b.length) : samePat a b = false := by
  refine decide_eq_false fun e => h ?_
  have := congrArg List.length e
  simpa [patL] using this
theorem samePat_at {a b : List Stay} {i : Nat} {x y : Stay} (hx : a[i]? = some x) (hy : b[i]? = some y) (h : patC x ≠ patC y) : samePat a b = false := by
  refine decide_eq_false fun e => h ?_
  have := congrArg (fun l => l[i]?) e
  simpa [patL, hx, hy] using this
theorem patL_snoc {l : List Stay} {i : Nat} {x : Stay} (h : l[i]? = some x) : patL (l.take (i + 1)) = patL (l.take i) ++ [patC x] := by
  rw [patL, List.take_add_one, h]; simp [patL]
theorem stay_at {l : List Stay} {i : Nat} {x : Stay} (h : l[i]? = some x) : (l.map Stay.row)[i]? = some [.int .i64 x.stop, .int .i64 x.arrive, .int .i64 x.depart, .bool x.board, .bool x.alight] := by rw [List.getElem?_map, h]; rfl
theorem trip_SamePattern_ok (a b : Trp) (hl : a.calls.length ≤ 1000) : PCalls PR i_trip_SamePattern [.agg a.row, .agg b.row] (fun v => v = .bool (samePat a.calls b.calls)) := by
  refine acalls_pop fn_trip_SamePattern_ok (by simp [fn_trip_SamePattern]) ?_
  simp -implicitDefEqProofs (disch := omega) only [go_sem, Nat.reduceAdd, Nat.reduceMul, Nat.reduceSub, Nat.reduceBEq, Nat.reduceLeDiff, Nat.reduceLT, fn_trip_SamePattern, e20_1, w20_1, e20_3, w20_3, c20_4, e20_6, w20_6, e20_8, w20_8, e20_10, w20_10, c20_11, e20_13, w20_13, e20_15, w20_15, e20_17, w20_17, c20_18, e20_20, w20_20, c20_21, c20_22, c20_23, e20_25, w20_25, c20_26, c20_27, c20_28, c20_29, c20_30, c20_31, e20_33, w20_33, c20_34, c20_35, c20_36, c20_37, Trp.row, List.length_map]
  refine ifD (fun h => ?_) (fun h => ?_)
  rotate_left
  · have e : samePat a.calls b.calls = false := samePat_len (by omega)
    simp -implicitDefEqProofs (disch := omega) only [go_sem, Nat.reduceAdd, Nat.reduceMul, Nat.reduceSub, Nat.reduceBEq, Nat.reduceLeDiff, Nat.reduceLT, fn_trip_SamePattern, e20_1, w20_1, e20_3, w20_3, c20_4, e20_6, w20_6, e20_8, w20_8, e20_10, w20_10, c20_11, e20_13, w20_13, e20_15, w20_15, e20_17, w20_17, c20_18, e20_20, w20_20, c20_21, c20_22, c20_23, e20_25, w20_25, c20_26, c20_27, c20_28, c20_29, c20_30, c20_31, e20_33, w20_33, c20_34, c20_35, c20_36, c20_37, e]
  simp -implicitDefEqProofs (disch := omega) only [go_sem, Nat.reduceAdd, Nat.reduceMul, Nat.reduceSub, Nat.reduceBEq, Nat.reduceLeDiff, Nat.reduceLT, fn_trip_SamePattern, e20_1, w20_1, e20_3, w20_3, c20_4, e20_6, w20_6, e20_8, w20_8, e20_10, w20_10, c20_11, e20_13, w20_13, e20_15, w20_15, e20_17, w20_17, c20_18, e20_20, w20_20, c20_21, c20_22, c20_23, e20_25, w20_25, c20_26, c20_27, c20_28, c20_29, c20_30, c20_31, e20_33, w20_33, c20_34, c20_35, c20_36, c20_37, List.length_map]
  refine wpC_forL a.calls (fun i vs M => patL (a.calls.take i) = patL (b.calls.take i) ∧ vs = [.ptr 0 0, .ptr 1 0, .int .i64 a.calls.length, .int .i64 i] ∧ M = [.box a.row, .box b.row]) ⟨rfl, rfl, rfl⟩ ?_ ?_
  · rintro i x vs M hx hi hd ⟨hp, rfl, rfl⟩
    obtain ⟨y, hy⟩ : ∃ y, b.calls[i]? = some y := ⟨b.calls[i]'(by omega), by simp⟩
    have gx := stay_at hx
    have gy := stay_at hy
    have no : patC x ≠ patC y → samePat a.calls b.calls = false := samePat_at hx hy
    simp -implicitDefEqProofs (disch := omega) only [go_sem, Nat.reduceAdd, Nat.reduceMul, Nat.reduceSub, Nat.reduceBEq, Nat.reduceLeDiff, Nat.reduceLT, fn_trip_SamePattern, e20_1, w20_1, e20_3, w20_3, c20_4, e20_6, w20_6, e20_8, w20_8, e20_10, w20_10, c20_11, e20_13, w20_13, e20_15, w20_15, e20_17, w20_17, c20_18, e20_20, w20_20, c20_21, c20_22, c20_23, e20_25, w20_25, c20_26, c20_27, c20_28, c20_29, c20_30, c20_31, e20_33, w20_33, c20_34, c20_35, c20_36, c20_37, Trp.row, List.length_map, hd, gx, gy]
    refine ifD (fun h1 => ?_) (fun h1 => ?_)
    rotate_left
    · simp -implicitDefEqProofs (disch := omega) only [go_sem, Nat.reduceAdd, Nat.reduceMul, Nat.reduceSub, Nat.reduceBEq, Nat.reduceLeDiff, Nat.reduceLT, fn_trip_SamePattern, e20_1, w20_1, e20_3, w20_3, c20_4, e20_6, w20_6, e20_8, w20_8, e20_10, w20_10, c20_11, e20_13, w20_13, e20_15, w20_15, e20_17, w20_17, c20_18, e20_20, w20_20, c20_21, c20_22, c20_23, e20_25, w20_25, c20_26, c20_27, c20_28, c20_29, c20_30, c20_31, e20_33, w20_33, c20_34, c20_35, c20_36, c20_37, no (fun e => h1 (congrArg Prod.fst e))]
    simp -implicitDefEqProofs (disch := omega) only [go_sem, Nat.reduceAdd, Nat.reduceMul, Nat.reduceSub, Nat.reduceBEq, Nat.reduceLeDiff, Nat.reduceLT, fn_trip_SamePattern, e20_1, w20_1, e20_3, w20_3, c20_4, e20_6, w20_6, e20_8, w20_8, e20_10, w20_10, c20_11, e20_13, w20_13, e20_15, w20_15, e20_17, w20_17, c20_18, e20_20, w20_20, c20_21, c20_22, c20_23, e20_25, w20_25, c20_26, c20_27, c20_28, c20_29, c20_30, c20_31, e20_33, w20_33, c20_34, c20_35, c20_36, c20_37, Trp.row]
    refine ifD (fun h2 => ?_) (fun h2 => ?_)
    rotate_left
    · simp -implicitDefEqProofs (disch := omega) only [go_sem, Nat.reduceAdd, Nat.reduceMul, Nat.reduceSub, Nat.reduceBEq, Nat.reduceLeDiff, Nat.reduceLT, fn_trip_SamePattern, e20_1, w20_1, e20_3, w20_3, c20_4, e20_6, w20_6, e20_8, w20_8, e20_10, w20_10, c20_11, e20_13, w20_13, e20_15, w20_15, e20_17, w20_17, c20_18, e20_20, w20_20, c20_21, c20_22, c20_23, e20_25, w20_25, c20_26, c20_27, c20_28, c20_29, c20_30, c20_31, e20_33, w20_33, c20_34, c20_35, c20_36, c20_37, no (fun e => h2 (congrArg (fun q => q.2.1) e))]
    simp -implicitDefEqProofs (disch := omega) only [go_sem, Nat.reduceAdd, Nat.reduceMul, Nat.reduceSub, Nat.reduceBEq, Nat.reduceLeDiff, Nat.reduceLT, fn_trip_SamePattern, e20_1, w20_1, e20_3, w20_3, c20_4, e20_6, w20_6, e20_8, w20_8, e20_10, w20_10, c20_11, e20_13, w20_13, e20_15, w20_15, e20_17, w20_17, c20_18, e20_20, w20_20, c20_21, c20_22, c20_23, e20_25, w20_25, c20_26, c20_27, c20_28, c20_29, c20_30, c20_31, e20_33, w20_33, c20_34, c20_35, c20_36, c20_37, Trp.row]
    refine ifD (fun h3 => ?_) (fun h3 => ?_)
    rotate_left
    · simp -implicitDefEqProofs (disch := omega) only [go_sem, Nat.reduceAdd, Nat.reduceMul, Nat.reduceSub, Nat.reduceBEq, Nat.reduceLeDiff, Nat.reduceLT, fn_trip_SamePattern, e20_1, w20_1, e20_3, w20_3, c20_4, e20_6, w20_6, e20_8, w20_8, e20_10, w20_10, c20_11, e20_13, w20_13, e20_15, w20_15, e20_17, w20_17, c20_18, e20_20, w20_20, c20_21, c20_22, c20_23, e20_25, w20_25, c20_26, c20_27, c20_28, c20_29, c20_30, c20_31, e20_33, w20_33, c20_34, c20_35, c20_36, c20_37, no (fun e => h3 (congrArg (fun q => q.2.2) e))]
    simp -implicitDefEqProofs (disch := omega) only [go_sem, Nat.reduceAdd, Nat.reduceMul, Nat.reduceSub, Nat.reduceBEq, Nat.reduceLeDiff, Nat.reduceLT, fn_trip_SamePattern, e20_1, w20_1, e20_3, w20_3, c20_4, e20_6, w20_6, e20_8, w20_8, e20_10, w20_10, c20_11, e20_13, w20_13, e20_15, w20_15, e20_17, w20_17, c20_18, e20_20, w20_20, c20_21, c20_22, c20_23, e20_25, w20_25, c20_26, c20_27, c20_28, c20_29, c20_30, c20_31, e20_33, w20_33, c20_34, c20_35, c20_36, c20_37]
    refine next_pop hi (by rfl) ⟨?_, rfl, rfl⟩
    rw [patL_snoc hx, patL_snoc hy, hp, show patC x = patC y from by simp [patC, h1, h2, h3]]
  · rintro vs M ⟨hp, rfl, rfl⟩
    have e : samePat a.calls b.calls = true := by
      rw [List.take_length, show a.calls.length = b.calls.length from by omega, List.take_length] at hp
      simp [samePat, hp]
    simp -implicitDefEqProofs (disch := omega) only [go_sem, Nat.reduceAdd, Nat.reduceMul, Nat.reduceSub, Nat.reduceBEq, Nat.reduceLeDiff, Nat.reduceLT, fn_trip_SamePattern, e20_1, w20_1, e20_3, w20_3, c20_4, e20_6, w20_6, e20_8, w20_8, e20_10, w20_10, c20_11, e20_13, w20_13, e20_15, w20_15, e20_17, w20_17, c20_18, e20_20, w20_20, c20_21, c20_22, c20_23, e20_25, w20_25, c20_26, c20_27, c20_28, c20_29, c20_30, c20_31, e20_33, w20_33, c20_34, c20_35, c20_36, c20_37, Trp.row, List.length_map, dec_irrefl, e]
theorem transitref17_SamePattern_ok (a b : Trp) (hl : a.calls.length ≤ 1000) : PCalls PR i_transitref17_SamePattern [.agg a.row, .agg b.row] (fun v => v = .bool (samePat a.calls b.calls)) := by
  refine acalls_pop fn_transitref17_SamePattern_ok (by simp [fn_transitref17_SamePattern]) ?_
  simp -implicitDefEqProofs (disch := omega) only [go_sem, Nat.reduceAdd, Nat.reduceMul, Nat.reduceSub, Nat.reduceBEq, Nat.reduceLeDiff, Nat.reduceLT, fn_transitref17_SamePattern, e21_1, w21_1, e21_3, w21_3, c21_4, e21_6, w21_6, e21_8, w21_8, e21_10, w21_10, e21_12, w21_12, e21_14, w21_14, c21_15, e21_17, w21_17, c21_18, c21_19, e21_21, w21_21, c21_22, c21_23, c21_24, c21_25, c21_26, e21_28, w21_28, c21_29, c21_30, c21_31, c21_32, Trp.row, List.length_map]
  refine ifD (fun h => ?_) (fun h => ?_)
  rotate_left
  · have e : samePat a.calls b.calls = false := samePat_len (by omega)
    simp -implicitDefEqProofs (disch := omega) only [go_sem, Nat.reduceAdd, Nat.reduceMul, Nat.reduceSub, Nat.reduceBEq, Nat.reduceLeDiff, Nat.reduceLT, fn_transitref17_SamePattern, e21_1, w21_1, e21_3, w21_3, c21_4, e21_6, w21_6, e21_8, w21_8, e21_10, w21_10, e21_12, w21_12, e21_14, w21_14, c21_15, e21_17, w21_17, c21_18, c21_19, e21_21, w21_21, c21_22, c21_23, c21_24, c21_25, c21_26, e21_28, w21_28, c21_29, c21_30, c21_31, c21_32, e]
  simp -implicitDefEqProofs (disch := omega) only [go_sem, Nat.reduceAdd, Nat.reduceMul, Nat.reduceSub, Nat.reduceBEq, Nat.reduceLeDiff, Nat.reduceLT, fn_transitref17_SamePattern, e21_1, w21_1, e21_3, w21_3, c21_4, e21_6, w21_6, e21_8, w21_8, e21_10, w21_10, e21_12, w21_12, e21_14, w21_14, c21_15, e21_17, w21_17, c21_18, c21_19, e21_21, w21_21, c21_22, c21_23, c21_24, c21_25, c21_26, e21_28, w21_28, c21_29, c21_30, c21_31, c21_32, List.length_map]
  refine wpC_forL a.calls (fun i vs M => patL (a.calls.take i) = patL (b.calls.take i) ∧ vs = [.ptr 0 0, .ptr 1 0, .int .i64 i] ∧ M = [.box a.row, .box b.row]) ⟨rfl, rfl, rfl⟩ ?_ ?_
  · rintro i x vs M hx hi hd ⟨hp, rfl, rfl⟩
    obtain ⟨y, hy⟩ : ∃ y, b.calls[i]? = some y := ⟨b.calls[i]'(by omega), by simp⟩
    have gx := stay_at hx
    have gy := stay_at hy
    have no : patC x ≠ patC y → samePat a.calls b.calls = false := samePat_at hx hy
    simp -implicitDefEqProofs (disch := omega) only [go_sem, Nat.reduceAdd, Nat.reduceMul, Nat.reduceSub, Nat.reduceBEq, Nat.reduceLeDiff, Nat.reduceLT, fn_transitref17_SamePattern, e21_1, w21_1, e21_3, w21_3, c21_4, e21_6, w21_6, e21_8, w21_8, e21_10, w21_10, e21_12, w21_12, e21_14, w21_14, c21_15, e21_17, w21_17, c21_18, c21_19, e21_21, w21_21, c21_22, c21_23, c21_24, c21_25, c21_26, e21_28, w21_28, c21_29, c21_30, c21_31, c21_32, Trp.row, List.length_map, hd, gx, gy]
    refine ifD (fun h1 => ?_) (fun h1 => ?_)
    rotate_left
    · simp -implicitDefEqProofs (disch := omega) only [go_sem, Nat.reduceAdd, Nat.reduceMul, Nat.reduceSub, Nat.reduceBEq, Nat.reduceLeDiff, Nat.reduceLT, fn_transitref17_SamePattern, e21_1, w21_1, e21_3, w21_3, c21_4, e21_6, w21_6, e21_8, w21_8, e21_10, w21_10, e21_12, w21_12, e21_14, w21_14, c21_15, e21_17, w21_17, c21_18, c21_19, e21_21, w21_21, c21_22, c21_23, c21_24, c21_25, c21_26, e21_28, w21_28, c21_29, c21_30, c21_31, c21_32, no (fun e => h1 (congrArg Prod.fst e))]
    simp -implicitDefEqProofs (disch := omega) only [go_sem, Nat.reduceAdd, Nat.reduceMul, Nat.reduceSub, Nat.reduceBEq, Nat.reduceLeDiff, Nat.reduceLT, fn_transitref17_SamePattern, e21_1, w21_1, e21_3, w21_3, c21_4, e21_6, w21_6, e21_8, w21_8, e21_10, w21_10, e21_12, w21_12, e21_14, w21_14, c21_15, e21_17, w21_17, c21_18, c21_19, e21_21, w21_21, c21_22, c21_23, c21_24, c21_25, c21_26, e21_28, w21_28, c21_29, c21_30, c21_31, c21_32, Trp.row]
    refine ifD (fun h2 => ?_) (fun h2 => ?_)
    rotate_left
    · simp -implicitDefEqProofs (disch := omega) only [go_sem, Nat.reduceAdd, Nat.reduceMul, Nat.reduceSub, Nat.reduceBEq, Nat.reduceLeDiff, Nat.reduceLT, fn_transitref17_SamePattern, e21_1, w21_1, e21_3, w21_3, c21_4, e21_6, w21_6, e21_8, w21_8, e21_10, w21_10, e21_12, w21_12, e21_14, w21_14, c21_15, e21_17, w21_17, c21_18, c21_19, e21_21, w21_21, c21_22, c21_23, c21_24, c21_25, c21_26, e21_28, w21_28, c21_29, c21_30, c21_31, c21_32, no (fun e => h2 (congrArg (fun q => q.2.1) e))]
    simp -implicitDefEqProofs (disch := omega) only [go_sem, Nat.reduceAdd, Nat.reduceMul, Nat.reduceSub, Nat.reduceBEq, Nat.reduceLeDiff, Nat.reduceLT, fn_transitref17_SamePattern, e21_1, w21_1, e21_3, w21_3, c21_4, e21_6, w21_6, e21_8, w21_8, e21_10, w21_10, e21_12, w21_12, e21_14, w21_14, c21_15, e21_17, w21_17, c21_18, c21_19, e21_21, w21_21, c21_22, c21_23, c21_24, c21_25, c21_26, e21_28, w21_28, c21_29, c21_30, c21_31, c21_32, Trp.row]
    refine ifD (fun h3 => ?_) (fun h3 => ?_)
    rotate_left
    · simp -implicitDefEqProofs (disch := omega) only [go_sem, Nat.reduceAdd, Nat.reduceMul, Nat.reduceSub, Nat.reduceBEq, Nat.reduceLeDiff, Nat.reduceLT, fn_transitref17_SamePattern, e21_1, w21_1, e21_3, w21_3, c21_4, e21_6, w21_6, e21_8, w21_8, e21_10, w21_10, e21_12, w21_12, e21_14, w21_14, c21_15, e21_17, w21_17, c21_18, c21_19, e21_21, w21_21, c21_22, c21_23, c21_24, c21_25, c21_26, e21_28, w21_28, c21_29, c21_30, c21_31, c21_32, no (fun e => h3 (congrArg (fun q => q.2.2) e))]
    simp -implicitDefEqProofs (disch := omega) only [go_sem, Nat.reduceAdd, Nat.reduceMul, Nat.reduceSub, Nat.reduceBEq, Nat.reduceLeDiff, Nat.reduceLT, fn_transitref17_SamePattern, e21_1, w21_1, e21_3, w21_3, c21_4, e21_6, w21_6, e21_8, w21_8, e21_10, w21_10, e21_12, w21_12, e21_14, w21_14, c21_15, e21_17, w21_17, c21_18, c21_19, e21_21, w21_21, c21_22, c21_23, c21_24, c21_25, c21_26, e21_28, w21_28, c21_29, c21_30, c21_31, c21_32]
    refine next_pop hi (by rfl) ⟨?_, rfl, rfl⟩
    rw [patL_snoc hx, patL_snoc hy, hp, show patC x = patC y from by simp [patC, h1, h2, h3]]
  · rintro vs M ⟨hp, rfl, rfl⟩
    have e : samePat a.calls b.calls = true := by
      rw [List.take_length, show a.calls.length = b.calls.length from by omega, List.take_length] at hp
      simp [samePat, hp]
    simp -implicitDefEqProofs (disch := omega) only [go_sem, Nat.reduceAdd, Nat.reduceMul, Nat.reduceSub, Nat.reduceBEq, Nat.reduceLeDiff, Nat.reduceLT, fn_transitref17_SamePattern, e21_1, w21_1, e21_3, w21_3, c21_4, e21_6, w21_6, e21_8, w21_8, e21_10, w21_10, e21_12, w21_12, e21_14, w21_14, c21_15, e21_17, w21_17, c21_18, c21_19, e21_21, w21_21, c21_22, c21_23, c21_24, c21_25, c21_26, e21_28, w21_28, c21_29, c21_30, c21_31, c21_32, Trp.row, List.length_map, dec_irrefl, e]

/-! ### Groups -/
theorem app_one (x : V) (M : Mem) : appV false 1 8 (.slice [] .nil) (.slice [[x]] .full) M = some (.mslice M.length 0 0 1, M ++ [.arr 1 [[x]] 0 0]) := by
  simp [appV, rowsV, appendV, headLen]
theorem groups_old (N : Mem) (id ver v j : Nat) (cells : List V) (rows : List (List V)) (i : Int) (v3 v11 v12 v13 : V) (h1 : N[1]? = some (.vec cells ver)) (hj : cells[j]? = some (.mslice id v 0 rows.length)) (hid : N[id]? = some (.arr 1 rows v 0)) (hlen : rows.length ≤ 1000) (Q : Exit → Slots → Mem → Prop)
    (q : Q .normal [(3, v3), (4, .mslice 1 ver 0 cells.length), (11, v11), (12, v12), (13, v13)] ((N.set id (.arr 1 (rows ++ [[.int .i64 i]]) (v + 1) 0)).set 1 (.vec (cells.set j (.mslice id (v + 1) 0 (rows.length + 1))) ver))) :
    ∀ s, sget s 3 = v3 → sget s 4 = .mslice 1 ver 0 cells.length → sget s 5 = .int .i64 i → sget s 8 = .int .i64 j → sget s 11 = v11 → sget s 12 = v12 → sget s 13 = v13 → wpC PR c22_28 Q s N := by
  intro s g3 g4 g5 g8 g11 g12 g13
  have hne : id ≠ 1 := fun e => by
    subst e
    rw [h1] at hid
    cases hid
  have hjl := (List.getElem?_eq_some_iff.1 hj).1
  have b1 : decide (j < cells.length) = true := decide_eq_true hjl
  have h2 : ∀ B : Blk, (N.set id B)[1]? = some (.vec cells ver) := fun B => by rw [List.getElem?_set_ne hne]; exact h1
  simp -implicitDefEqProofs (disch := omega) only [go_sem, Nat.reduceAdd, Nat.reduceMul, Nat.reduceSub, Nat.reduceBEq, Nat.reduceLeDiff, Nat.reduceLT, fn_trip_Groups, e22_1, w22_1, e22_3, w22_3, e22_5, w22_5, e22_7, w22_7, e22_9, w22_9, c22_10, e22_12, w22_12, e22_14, w22_14, e22_16, w22_16, e22_18, w22_18, e22_20, w22_20, e22_22, w22_22, c22_23, c22_24, e22_26, w22_26, e22_28, w22_28, c22_29, c22_30, c22_31, c22_32, c22_33, e22_35, w22_35, c22_36, c22_37, c22_38, c22_39, c22_40, c22_41, e22_43, w22_43, c22_44, c22_45, c22_46, c22_47, c22_48, g3, g4, g5, g8, g11, g12, g13, h1, h2, hj, hid, b1]
  exact q
theorem groups_new (N : Mem) (ver j : Nat) (cells : List V) (i : Int) (v3 v11 v12 v13 : V) (h1 : N[1]? = some (.vec cells ver)) (hj : cells[j]? = some (.slice [] .nil)) (Q : Exit → Slots → Mem → Prop)
    (q : Q .normal [(3, v3), (4, .mslice 1 ver 0 cells.length), (11, v11), (12, v12), (13, v13)] ((N ++ [Blk.arr 1 [[.int .i64 i]] 0 0]).set 1 (.vec (cells.set j (.mslice N.length 0 0 1)) ver))) :
    ∀ s, sget s 3 = v3 → sget s 4 = .mslice 1 ver 0 cells.length → sget s 5 = .int .i64 i → sget s 8 = .int .i64 j → sget s 11 = v11 → sget s 12 = v12 → sget s 13 = v13 → wpC PR c22_28 Q s N := by
  intro s g3 g4 g5 g8 g11 g12 g13
  have hjl := (List.getElem?_eq_some_iff.1 hj).1
  have b1 : decide (j < cells.length) = true := decide_eq_true hjl
  have h2 : ∀ B : Blk, (N ++ [B])[1]? = some (.vec cells ver) := fun B => by rw [List.getElem?_append_left (List.getElem?_eq_some_iff.1 h1).1]; exact h1
  simp -implicitDefEqProofs (disch := omega) only [go_sem, Nat.reduceAdd, Nat.reduceMul, Nat.reduceSub, Nat.reduceBEq, Nat.reduceLeDiff, Nat.reduceLT, fn_trip_Groups, e22_1, w22_1, e22_3, w22_3, e22_5, w22_5, e22_7, w22_7, e22_9, w22_9, c22_10, e22_12, w22_12, e22_14, w22_14, e22_16, w22_16, e22_18, w22_18, e22_20, w22_20, e22_22, w22_22, c22_23, c22_24, e22_26, w22_26, e22_28, w22_28, c22_29, c22_30, c22_31, c22_32, c22_33, e22_35, w22_35, c22_36, c22_37, c22_38, c22_39, c22_40, c22_41, e22_43, w22_43, c22_44, c22_45, c22_46, c22_47, c22_48, g3, g4, g5, g8, g11, g12, g13, h1, h2, hj, b1, app_one]
  exact q

/-! ### The groups as lists -/
def posK (k : List UInt8) : List (List UInt8) → Option Nat
  | [] => none
  | x :: xs => if k = x then some 0 else (posK k xs).map (· + 1)
def esK : List (List UInt8) → Nat → List (V × V)
  | [], _ => []
  | k :: ks, n => (.str k, .int .i64 (n : Int)) :: esK ks (n + 1)
theorem esK_keys (k : List UInt8) : ∀ (K : List (List UInt8)) (n : Nat), keysOk .str (.str k) (esK K n) = true
  | [], _ => rfl
  | x :: xs, n => by
    simp only [esK, keysOk, cellEq, Option.isSome_some, Bool.true_and]
    exact esK_keys k xs (n + 1)
theorem esK_get (k : List UInt8) : ∀ (K : List (List UInt8)) (n : Nat), mapGet .str (.str k) (esK K n) = (posK k K).map fun j => .int .i64 ((n + j : Nat) : Int)
  | [], _ => rfl
  | x :: xs, n => by
    simp only [esK, mapGet, cellEq, Option.getD_some, posK]
    by_cases h : k = x
    · subst h; simp
    · rw [esK_get k xs (n + 1)]
      simp only [h, decide_false, cond_false, if_false]
      cases posK k xs with
      | none => rfl
      | some j => simp; omega
theorem esK_set (k : List UInt8) (m : Nat) : ∀ (K : List (List UInt8)) (n : Nat), posK k K = none → n + K.length = m → mapSet .str (.str k) (.int .i64 (m : Int)) (esK K n) = esK (K ++ [k]) n
  | [], n, _, hm => by
    simp only [esK, mapSet, List.nil_append]
    rw [show n = m from by simpa using hm]
  | x :: xs, n, h, hm => by
    have hx : k ≠ x := fun e => by rw [posK, if_pos e] at h; cases h
    have hn : posK k xs = none := by
      rw [posK, if_neg hx] at h
      cases hp : posK k xs with
      | none => rfl
      | some j => rw [hp] at h; cases h
    simp only [esK, mapSet, cellEq, Option.getD_some, List.cons_append, hx, decide_false, cond_false]
    rw [esK_set k m xs (n + 1) hn (by simp at hm; omega)]
theorem lookE_key (k : List UInt8) (K : List (List UInt8)) : lookE .str (.int .i64 0) true (.str k) (esK K 0) = some (match posK k K with | some j => .tuple [.int .i64 (j : Int), .bool true] | none => .tuple [.int .i64 0, .bool false]) := by
  simp only [lookE, lookupV, mapFind, isKey, cond_true, List.getElem?_cons_zero, esK_keys, esK_get, cellsV]
  cases posK k K with
  | none => rfl
  | some j => simp
theorem updE_key (k : List UInt8) (K : List (List UInt8)) (h : posK k K = none) : updE .str (.str k) (.int .i64 (K.length : Int)) (esK K 0) = some (esK (K ++ [k]) 0) := by
  simp only [updE, isKey, esK_keys, V.isPure, Bool.and_self, cond_true]
  rw [esK_set k K.length K 0 h (by simp)]
theorem posK_lt {k : List UInt8} : ∀ {K : List (List UInt8)} {j : Nat}, posK k K = some j → j < K.length ∧ K[j]? = some k
  | [], j, h => by cases h
  | x :: xs, j, h => by
    rw [posK] at h
    split at h
    · rename_i e
      simp at h; subst h; simp [e]
    · cases hp : posK k xs with
      | none => rw [hp] at h; cases h
      | some i =>
        rw [hp] at h
        simp at h
        subst h
        obtain ⟨h1, h2⟩ := posK_lt hp
        exact ⟨by simp; omega, by simpa using h2⟩
/-- The texts met so far, and the indices of each. -/
structure GS where
  keys : List (List UInt8)
  grps : List (List Nat)
def gStep (s : GS) (k : List UInt8) (i : Nat) : GS :=
  match posK k s.keys with
  | some j => ⟨s.keys, s.grps.set j ((s.grps[j]?).getD [] ++ [i])⟩
  | none => ⟨s.keys ++ [k], s.grps ++ [[i]]⟩
def gUp (l : List Trp) : Nat → GS
  | 0 => ⟨[], []⟩
  | i + 1 => match l[i]? with | some t => gStep (gUp l i) (keyL t.calls) i | none => gUp l i
theorem gUp_len (l : List Trp) : ∀ i, (gUp l i).keys.length = (gUp l i).grps.length ∧ (gUp l i).keys.length ≤ i ∧ ∀ g ∈ (gUp l i).grps, g.length ≤ i
  | 0 => ⟨rfl, Nat.le_refl _, fun g h => by simp [gUp] at h⟩
  | i + 1 => by
    obtain ⟨h1, h2, h3⟩ := gUp_len l i
    rw [gUp]
    cases l[i]? with
    | none => exact ⟨h1, Nat.le_succ_of_le h2, fun g hg => Nat.le_succ_of_le (h3 g hg)⟩
    | some t =>
      simp only [gStep]
      cases hp : posK (keyL t.calls) (gUp l i).keys with
      | none =>
        refine ⟨by simp [h1], by simp; omega, fun g hg => ?_⟩
        rcases List.mem_append.1 hg with hg | hg
        · have := h3 g hg; omega
        · simp at hg; subst hg; simp
      | some j =>
        obtain ⟨hj, _⟩ := posK_lt hp
        have hgj : (gUp l i).grps[j]? = some ((gUp l i).grps[j]'(by omega)) := by simp
        refine ⟨by simp [h1], by simp; omega, fun g hg => ?_⟩
        rcases List.mem_or_eq_of_mem_set hg with hg | hg
        · have := h3 g hg; omega
        · subst hg
          rw [hgj]
          have := h3 _ (List.getElem_mem (l := (gUp l i).grps) (n := j) (by omega))
          simp; omega
def idxRow (i : Nat) : List V := [.int .i64 (i : Int)]
/-- The groups in memory. -/
structure GM (M : Mem) (s : GS) (ver : Nat) (cells : List V) : Prop where
  own : memUnder M.length M = true
  map : M[0]? = some (.map (esK s.keys 0))
  vec : M[1]? = some (.vec cells ver)
  len : cells.length = s.grps.length
  grp : ∀ (j : Nat) (g : List Nat), s.grps[j]? = some g → ∃ id v, cells[j]? = some (.mslice id v 0 g.length) ∧ M[id]? = some (.arr 1 (g.map idxRow) v 0)
  ne : ∀ (j k id v1 n1 v2 n2 : Nat), cells[j]? = some (.mslice id v1 0 n1) → cells[k]? = some (.mslice id v2 0 n2) → j = k

theorem mapO_eq {f : V → Option V} : ∀ (xs ys : List V), xs.length = ys.length → (∀ (j : Nat) (x y : V), xs[j]? = some x → ys[j]? = some y → f x = some y) → mapO f xs = some ys
  | [], [], _, _ => rfl
  | [], y :: ys, h, _ => by simp at h
  | x :: xs, [], h, _ => by simp at h
  | x :: xs, y :: ys, h, hf => by
    simp only [mapO, hf 0 x y rfl rfl, mapO_eq xs ys (by simpa using h) fun j a b ha hb => hf (j + 1) a b (by simpa using ha) (by simpa using hb)]
theorem allPure_of : ∀ (xs : List V), (∀ x ∈ xs, x.isPure = true) → allPure xs = true
  | [], _ => rfl
  | x :: xs, h => by
    simp only [allPure, Bool.and_eq_true]
    exact ⟨h x (by simp), allPure_of xs fun y hy => h y (by simp [hy])⟩
def grpV (g : List Nat) : V := .slice (g.map idxRow) .unk
def grpsV (G : List (List Nat)) : V := .slice (G.map fun g => [grpV g]) .unk
theorem freeze_groups {M : Mem} {s : GS} {ver : Nat} {cells : List V} (h : GM M s ver cells) : freezeV M 0 20 (.mslice 1 ver 0 cells.length) = some (grpsV s.grps) := by
  have e : mapO (freezeV M 0 19) cells = some (s.grps.map grpV) := by
    refine mapO_eq _ _ (by simp [h.len]) fun j x y hx hy => ?_
    rw [List.getElem?_map, Option.map_eq_some_iff] at hy
    obtain ⟨g, hg, rfl⟩ := hy
    obtain ⟨id, v, h1, h2⟩ := h.grp j g hg
    rw [hx] at h1
    simp only [Option.some.injEq] at h1
    subst h1
    have h0 : decide (id < 0) = false := by simp
    simp only [freezeV, h0, cond_false, h2, beq_self_eq_true, List.length_map, Nat.zero_add, Nat.le_refl, decide_true, Bool.and_self, cond_true, List.drop_zero, grpV]
    rw [List.take_of_length_le (by simp)]
  have hp : allPure (s.grps.map grpV) = true := allPure_of _ fun x hx => by
    obtain ⟨g, _, rfl⟩ := List.mem_map.1 hx
    rfl
  have h0 : decide (1 < 0) = false := rfl
  have ht : List.take cells.length cells = cells := List.take_length
  have unfold1 : ∀ n, freezeV M 0 (n + 1) (.mslice 1 ver 0 cells.length) = (match mapO (freezeV M 0 n) cells with | some cs => bif allPure cs then some (.slice (cs.map fun x => [x]) .unk) else none | none => none) := fun n => by
    simp only [freezeV, h0, cond_false, h.vec, beq_self_eq_true, Nat.zero_add, Nat.le_refl, decide_true, Bool.and_self, cond_true, List.drop_zero, ht]
    rfl
  rw [show (20 : Nat) = 19 + 1 from rfl, unfold1, e]
  simp only [hp, cond_true, grpsV, List.map_map]
  rfl
theorem gm_in {M : Mem} {s : GS} {ver : Nat} {cells : List V} (h : GM M s ver cells) : 2 ≤ M.length := by
  have := (List.getElem?_eq_some_iff.1 h.vec).1
  omega
theorem underL_all {n : Nat} : ∀ (xs : List V), (∀ x ∈ xs, x.under n = true) → underL n xs = true
  | [], _ => rfl
  | x :: xs, h => by
    simp only [underL, Bool.and_eq_true]
    exact ⟨h x (by simp), underL_all xs fun y hy => h y (by simp [hy])⟩
theorem underL_mem {n : Nat} : ∀ {xs : List V}, underL n xs = true → ∀ x ∈ xs, x.under n = true
  | [], _, x, h => by simp at h
  | y :: ys, hu, x, h => by
    simp only [underL, Bool.and_eq_true] at hu
    rcases List.mem_cons.1 h with rfl | h
    · exact hu.1
    · exact underL_mem hu.2 x h
theorem memU_get {n : Nat} : ∀ {M : Mem} {i : Nat} {B : Blk}, memUnder n M = true → M[i]? = some B → B.under n = true
  | [], i, B, _, h => by simp at h
  | C :: M, i, B, hu, h => by
    simp only [memUnder, Bool.and_eq_true] at hu
    cases i with
    | zero => simp at h; subst h; exact hu.1
    | succ i => exact memU_get hu.2 (by simpa using h)
theorem memU_set {n : Nat} {B : Blk} (hB : B.under n = true) : ∀ (M : Mem) (i : Nat), memUnder n M = true → memUnder n (M.set i B) = true
  | [], i, h => by simpa using h
  | C :: M, 0, h => by
    simp only [memUnder, Bool.and_eq_true, List.set_cons_zero] at h ⊢
    exact ⟨hB, h.2⟩
  | C :: M, i + 1, h => by
    simp only [memUnder, Bool.and_eq_true, List.set_cons_succ] at h ⊢
    exact ⟨h.1, memU_set hB M i h.2⟩
/-- Another block behind. -/
theorem GM.app {M : Mem} {s : GS} {ver : Nat} {cells : List V} (h : GM M s ver cells) (B : Blk) (hB : B.under (M.length + 1) = true) : GM (M ++ [B]) s ver cells := by
  have get : ∀ {i : Nat} {C : Blk}, M[i]? = some C → (M ++ [B])[i]? = some C := fun hc => by rw [List.getElem?_append_left (List.getElem?_eq_some_iff.1 hc).1, hc]
  refine ⟨?_, get h.map, get h.vec, h.len, fun j g hg => ?_, h.ne⟩
  · rw [memUnder_app, List.length_append, List.length_singleton, memUnder_mono (by omega) M h.own]
    simp [memUnder, hB]
  · obtain ⟨id, v, h1, h2⟩ := h.grp j g hg
    exact ⟨id, v, h1, get h2⟩
/-- An index behind a group. -/
theorem GM.old {M : Mem} {s : GS} {ver : Nat} {cells : List V} (h : GM M s ver cells) {j : Nat} {g : List Nat} (hg : s.grps[j]? = some g) (i : Nat) {id v : Nat} (hc : cells[j]? = some (.mslice id v 0 g.length)) (hM : M[id]? = some (.arr 1 (g.map idxRow) v 0)) :
    GM ((M.set id (.arr 1 (g.map idxRow ++ [[.int .i64 (i : Int)]]) (v + 1) 0)).set 1 (.vec (cells.set j (.mslice id (v + 1) 0 (g.length + 1))) ver)) ⟨s.keys, s.grps.set j (g ++ [i])⟩ ver (cells.set j (.mslice id (v + 1) 0 (g.length + 1))) := by
  have hne1 : id ≠ 1 := fun e => by
    subst e
    rw [h.vec] at hM
    cases hM
  have hne0 : id ≠ 0 := fun e => by
    subst e
    rw [h.map] at hM
    cases hM
  have h2 := gm_in h
  have hid := (List.getElem?_eq_some_iff.1 hM).1
  have hjc := (List.getElem?_eq_some_iff.1 hc).1
  have hjg := (List.getElem?_eq_some_iff.1 hg).1
  have hcells : underL M.length cells = true := memU_get h.own h.vec
  have hcu : underL M.length (cells.set j (.mslice id (v + 1) 0 (g.length + 1))) = true := underL_all _ fun x hx => by
    rcases List.mem_or_eq_of_mem_set hx with hx | hx
    · exact underL_mem hcells x hx
    · subst hx; simp [V.under, hid]
  refine ⟨?_, ?_, ?_, by simp [h.len], fun k g' hk => ?_, ?_⟩
  · rw [List.length_set, List.length_set]
    exact memU_set (B := .vec (cells.set j (.mslice id (v + 1) 0 (g.length + 1))) ver) hcu _ _ (memU_set rfl _ _ h.own)
  · rw [List.getElem?_set_ne (by omega), List.getElem?_set_ne hne0]; exact h.map
  · rw [List.getElem?_set_self (by rw [List.length_set]; omega)]
  · by_cases e : j = k
    · subst e
      rw [List.getElem?_set_self hjg] at hk
      simp only [Option.some.injEq] at hk
      subst hk
      refine ⟨id, v + 1, by rw [List.getElem?_set_self hjc]; simp, ?_⟩
      rw [List.getElem?_set_ne (by omega), List.getElem?_set_self hid]
      simp [idxRow]
    · simp only at hk
      rw [List.getElem?_set_ne e] at hk
      obtain ⟨id2, v2, q1, q2⟩ := h.grp k g' hk
      have hd : id ≠ id2 := fun e2 => by
        subst e2
        exact e (h.ne j k id v _ v2 _ hc q1)
      have h21 : id2 ≠ 1 := fun e2 => by
        subst e2
        rw [h.vec] at q2
        cases q2
      exact ⟨id2, v2, by rw [List.getElem?_set_ne e]; exact q1, by rw [List.getElem?_set_ne (by omega), List.getElem?_set_ne hd]; exact q2⟩
  · have key : ∀ k id' v1 n1, (cells.set j (V.mslice id (v + 1) 0 (g.length + 1)))[k]? = some (V.mslice id' v1 0 n1) → ∃ v2 n2, cells[k]? = some (V.mslice id' v2 0 n2) := fun k id' v1 n1 hk => by
      by_cases e : j = k
      · subst e
        rw [List.getElem?_set_self hjc] at hk
        simp only [Option.some.injEq, V.mslice.injEq] at hk
        obtain ⟨rfl, _⟩ := hk
        exact ⟨v, _, hc⟩
      · rw [List.getElem?_set_ne e] at hk
        exact ⟨v1, n1, hk⟩
    intro a b id' v1 n1 v2 n2 ha hb
    obtain ⟨_, _, ha'⟩ := key a id' v1 n1 ha
    obtain ⟨_, _, hb'⟩ := key b id' v2 n2 hb
    exact h.ne a b id' _ _ _ _ ha' hb'
/-- A new group. -/
theorem GM.new {M : Mem} {s : GS} {ver : Nat} {cells : List V} (h : GM M s ver cells) (k : List UInt8) (i : Nat) (hk : s.keys.length = s.grps.length) :
    GM (((((M.set 0 (.map (esK (s.keys ++ [k]) 0))).set 1 (.vec (cells ++ [V.slice [] .nil]) (ver + 1)))) ++ [Blk.arr 1 [[.int .i64 (i : Int)]] 0 0]).set 1 (.vec ((cells ++ [V.slice [] .nil]).set cells.length (.mslice M.length 0 0 1)) (ver + 1))) ⟨s.keys ++ [k], s.grps ++ [[i]]⟩ (ver + 1) ((cells ++ [V.slice [] .nil]).set cells.length (.mslice M.length 0 0 1)) := by
  have h2 := gm_in h
  have hcells : underL M.length cells = true := memU_get h.own h.vec
  have ec : (cells ++ [V.slice [] .nil]).set cells.length (.mslice M.length 0 0 1) = cells ++ [.mslice M.length 0 0 1] := by simp
  rw [ec]
  have hb : ∀ (j id v n : Nat), cells[j]? = some (.mslice id v 0 n) → id < M.length := fun j id v n hj => by
    have := underL_mem hcells _ (List.mem_of_getElem? hj)
    simpa [V.under] using this
  have cget : ∀ (j id v n : Nat), (cells ++ [V.mslice M.length 0 0 1])[j]? = some (.mslice id v 0 n) → (j < cells.length ∧ cells[j]? = some (.mslice id v 0 n)) ∨ (j = cells.length ∧ id = M.length ∧ n = 1) := fun j id v n hj => by
    by_cases hlt : j < cells.length
    · rw [List.getElem?_append_left hlt] at hj; exact .inl ⟨hlt, hj⟩
    · rw [List.getElem?_append_right (by omega)] at hj
      have : j - cells.length = 0 := by have := (List.getElem?_eq_some_iff.1 hj).1; simp at this; omega
      rw [this] at hj
      simp only [List.getElem?_cons_zero, Option.some.injEq, V.mslice.injEq] at hj
      exact .inr ⟨by omega, hj.1.symm, hj.2.2.2.symm⟩
  generalize hN : (M.set 0 (.map (esK (s.keys ++ [k]) 0))).set 1 (.vec (cells ++ [V.slice [] .nil]) (ver + 1)) = N
  have hNl : N.length = M.length := by rw [← hN]; simp
  have hN0 : N[0]? = some (.map (esK (s.keys ++ [k]) 0)) := by rw [← hN, List.getElem?_set_ne (by omega), List.getElem?_set_self (by omega)]
  have hNi : ∀ id, id ≠ 0 → id ≠ 1 → N[id]? = M[id]? := fun id a b => by rw [← hN, List.getElem?_set_ne (by omega), List.getElem?_set_ne (by omega)]
  have hNu : memUnder M.length N = true := by
    rw [← hN]
    refine memU_set (B := .vec (cells ++ [V.slice [] .nil]) (ver + 1)) ?_ _ _ (memU_set rfl _ _ h.own)
    refine underL_all _ fun x hx => ?_
    rcases List.mem_append.1 hx with hx | hx
    · exact underL_mem hcells x hx
    · simp at hx; subst hx; rfl
  have hlen : (N ++ [Blk.arr 1 [[V.int .i64 (i : Int)]] 0 0]).length = M.length + 1 := by simp [hNl]
  refine ⟨?_, ?_, ?_, by simp [h.len], fun j g hg => ?_, ?_⟩
  · rw [List.length_set, hlen]
    refine memU_set (B := .vec (cells ++ [.mslice M.length 0 0 1]) (ver + 1)) ?_ _ _ ?_
    · refine underL_all _ fun x hx => ?_
      rcases List.mem_append.1 hx with hx | hx
      · exact under_mono (by omega) x (underL_mem hcells x hx)
      · simp at hx; subst hx; simp [V.under]
    · rw [memUnder_app, memUnder_mono (by omega) N hNu]; rfl
  · rw [List.getElem?_set_ne (by omega), List.getElem?_append_left (by omega)]; exact hN0
  · rw [List.getElem?_set_self (by omega)]
  · by_cases hj : j < s.grps.length
    · simp only at hg
      rw [List.getElem?_append_left hj] at hg
      obtain ⟨id, v, q1, q2⟩ := h.grp j g hg
      have h1 : id ≠ 1 := fun e => by subst e; rw [h.vec] at q2; cases q2
      have h0 : id ≠ 0 := fun e => by subst e; rw [h.map] at q2; cases q2
      have hid := (List.getElem?_eq_some_iff.1 q2).1
      exact ⟨id, v, by rw [List.getElem?_append_left (by rw [h.len]; exact hj)]; exact q1, by rw [List.getElem?_set_ne (by omega), List.getElem?_append_left (by omega), hNi id h0 h1]; exact q2⟩
    · simp only at hg
      rw [List.getElem?_append_right (by omega)] at hg
      have : j - s.grps.length = 0 := by have := (List.getElem?_eq_some_iff.1 hg).1; simp at this; omega
      rw [this] at hg
      simp only [List.getElem?_cons_zero, Option.some.injEq] at hg
      subst hg
      refine ⟨M.length, 0, ?_, ?_⟩
      · rw [List.getElem?_append_right (by rw [h.len]; omega), show j - cells.length = 0 by rw [h.len]; omega]; rfl
      · rw [List.getElem?_set_ne (by omega), List.getElem?_append_right (by omega), hNl, Nat.sub_self]; rfl
  · intro a b id v1 n1 v2 n2 ha hb'
    rcases cget a id v1 n1 ha with ⟨_, ha'⟩ | ⟨ha', hi, _⟩ <;> rcases cget b id v2 n2 hb' with ⟨_, hb''⟩ | ⟨hb'', hi', _⟩
    · exact h.ne a b id v1 n1 v2 n2 ha' hb''
    · have := hb a id v1 n1 ha'; omega
    · have := hb b id v2 n2 hb''; omega
    · omega

end Go.Vm.C

