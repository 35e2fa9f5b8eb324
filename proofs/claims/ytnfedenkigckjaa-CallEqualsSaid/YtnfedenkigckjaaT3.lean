/- Contracts: ridable pairs, stops, times, equality and shifts. -/
import Derived.Test.YtnfedenkigckjaaT2

namespace Go.Vm.C
open Go.Vm
set_option maxHeartbeats 1000000
set_option maxRecDepth 10000
set_option linter.unusedSimpArgs false
set_option linter.unusedVariables false

/-! ### Rides, stops, times -/
theorem boards_at {l : List Stay} {i : Nat} {s : Stay} (h : l[i]? = some s) : boards l i = s.board := by simp [boards, h]
theorem alights_at {l : List Stay} {i : Nat} {s : Stay} (h : l[i]? = some s) : alights l i = s.alight := by simp [alights, h]
/-- Whether two indices are a ride. -/
def ridB (l : List Stay) (b a : Int) : Bool := decide (0 ≤ b ∧ b < a ∧ a < l.length) && (boards l b.toNat && alights l a.toNat)
theorem ridB_no {l : List Stay} {b a : Int} (h : ¬ (0 ≤ b ∧ b < a ∧ a < l.length)) : ridB l b a = false := by rw [ridB, decide_eq_false h, Bool.false_and]
theorem ridB_yes {l : List Stay} {i k : Nat} (h : i < k) (hk : k < l.length) : ridB l i k = (boards l i && alights l k) := by
  rw [ridB, decide_eq_true (by omega), Bool.true_and]; rfl

theorem call_Ridable_ok (l : List Stay) (c : Cap) (b a : Int) : PCalls PR i_call_Ridable [.slice (l.map Stay.row) c, .int .i64 b, .int .i64 a] (fun v => v = .bool (ridB l b a)) := by
  refine acalls_pop fn_call_Ridable_ok (by simp [fn_call_Ridable]) ?_
  simp -implicitDefEqProofs (disch := omega) only [go_sem, Nat.reduceAdd, Nat.reduceMul, Nat.reduceSub, Nat.reduceBEq, Nat.reduceLeDiff, Nat.reduceLT, fn_call_Ridable, e14_1, w14_1, e14_3, w14_3, c14_4, c14_5]
  refine ifD (fun h1 => ?_) (fun h1 => ?_)
  rotate_left
  · have e := ridB_no (l := l) (b := b) (a := a) (by omega)
    simp -implicitDefEqProofs (disch := omega) only [go_sem, Nat.reduceAdd, Nat.reduceMul, Nat.reduceSub, Nat.reduceBEq, Nat.reduceLeDiff, Nat.reduceLT, fn_call_Ridable, e14_1, w14_1, e14_3, w14_3, c14_4, c14_5, e]
  simp -implicitDefEqProofs (disch := omega) only [go_sem, Nat.reduceAdd, Nat.reduceMul, Nat.reduceSub, Nat.reduceBEq, Nat.reduceLeDiff, Nat.reduceLT, fn_call_Ridable, e14_1, w14_1, e14_3, w14_3, c14_4, c14_5]
  refine ifD (fun h2 => ?_) (fun h2 => ?_)
  rotate_left
  · have e := ridB_no (l := l) (b := b) (a := a) (by omega)
    simp -implicitDefEqProofs (disch := omega) only [go_sem, Nat.reduceAdd, Nat.reduceMul, Nat.reduceSub, Nat.reduceBEq, Nat.reduceLeDiff, Nat.reduceLT, fn_call_Ridable, e14_1, w14_1, e14_3, w14_3, c14_4, c14_5, e]
  simp -implicitDefEqProofs (disch := omega) only [go_sem, Nat.reduceAdd, Nat.reduceMul, Nat.reduceSub, Nat.reduceBEq, Nat.reduceLeDiff, Nat.reduceLT, fn_call_Ridable, e14_1, w14_1, e14_3, w14_3, c14_4, c14_5]
  refine ifD (fun h3 => ?_) (fun h3 => ?_)
  rotate_left
  · have e := ridB_no (l := l) (b := b) (a := a) (by omega)
    simp -implicitDefEqProofs (disch := omega) only [go_sem, Nat.reduceAdd, Nat.reduceMul, Nat.reduceSub, Nat.reduceBEq, Nat.reduceLeDiff, Nat.reduceLT, fn_call_Ridable, e14_1, w14_1, e14_3, w14_3, c14_4, c14_5, e]
  obtain ⟨i, rfl⟩ : ∃ i : Nat, b = i := ⟨b.toNat, by omega⟩
  obtain ⟨k, rfl⟩ : ∃ k : Nat, a = k := ⟨a.toNat, by omega⟩
  obtain ⟨x, hx⟩ : ∃ x, l[i]? = some x := ⟨l[i], by simp⟩
  obtain ⟨y, hy⟩ : ∃ y, l[k]? = some y := ⟨l[k], by simp⟩
  have e : ridB l i k = (x.board && y.alight) := by rw [ridB_yes (by omega) (by omega), boards_at hx, alights_at hy]
  simp -implicitDefEqProofs (disch := omega) only [go_sem, Nat.reduceAdd, Nat.reduceMul, Nat.reduceSub, Nat.reduceBEq, Nat.reduceLeDiff, Nat.reduceLT, fn_call_Ridable, e14_1, w14_1, e14_3, w14_3, c14_4, c14_5, hx, hy, Stay.row]
  refine ifB (fun h4 => ?_) (fun h4 => ?_)
  · rw [h4, Bool.true_and] at e
    simp -implicitDefEqProofs (disch := omega) only [go_sem, Nat.reduceAdd, Nat.reduceMul, Nat.reduceSub, Nat.reduceBEq, Nat.reduceLeDiff, Nat.reduceLT, fn_call_Ridable, e14_1, w14_1, e14_3, w14_3, c14_4, c14_5, hx, hy, Stay.row, e]
  · rw [h4, Bool.false_and] at e
    simp -implicitDefEqProofs (disch := omega) only [go_sem, Nat.reduceAdd, Nat.reduceMul, Nat.reduceSub, Nat.reduceBEq, Nat.reduceLeDiff, Nat.reduceLT, fn_call_Ridable, e14_1, w14_1, e14_3, w14_3, c14_4, c14_5, e]

theorem ref16_Ridable_ok (l : List Stay) (c : Cap) (b a : Int) : PCalls PR i_transitref16_Ridable [.slice (l.map Stay.row) c, .int .i64 b, .int .i64 a] (fun v => v = .bool (ridB l b a)) := by
  refine acalls_pop fn_transitref16_Ridable_ok (by simp [fn_transitref16_Ridable]) ?_
  simp -implicitDefEqProofs (disch := omega) only [go_sem, Nat.reduceAdd, Nat.reduceMul, Nat.reduceSub, Nat.reduceBEq, Nat.reduceLeDiff, Nat.reduceLT, fn_transitref16_Ridable, e15_1, w15_1, e15_3, w15_3, c15_4, c15_5]
  refine ifD (fun h1 => ?_) (fun h1 => ?_)
  rotate_left
  · have e := ridB_no (l := l) (b := b) (a := a) (by omega)
    simp -implicitDefEqProofs (disch := omega) only [go_sem, Nat.reduceAdd, Nat.reduceMul, Nat.reduceSub, Nat.reduceBEq, Nat.reduceLeDiff, Nat.reduceLT, fn_transitref16_Ridable, e15_1, w15_1, e15_3, w15_3, c15_4, c15_5, e]
  simp -implicitDefEqProofs (disch := omega) only [go_sem, Nat.reduceAdd, Nat.reduceMul, Nat.reduceSub, Nat.reduceBEq, Nat.reduceLeDiff, Nat.reduceLT, fn_transitref16_Ridable, e15_1, w15_1, e15_3, w15_3, c15_4, c15_5]
  refine ifD (fun h2 => ?_) (fun h2 => ?_)
  rotate_left
  · have e := ridB_no (l := l) (b := b) (a := a) (by omega)
    simp -implicitDefEqProofs (disch := omega) only [go_sem, Nat.reduceAdd, Nat.reduceMul, Nat.reduceSub, Nat.reduceBEq, Nat.reduceLeDiff, Nat.reduceLT, fn_transitref16_Ridable, e15_1, w15_1, e15_3, w15_3, c15_4, c15_5, e]
  simp -implicitDefEqProofs (disch := omega) only [go_sem, Nat.reduceAdd, Nat.reduceMul, Nat.reduceSub, Nat.reduceBEq, Nat.reduceLeDiff, Nat.reduceLT, fn_transitref16_Ridable, e15_1, w15_1, e15_3, w15_3, c15_4, c15_5]
  refine ifD (fun h3 => ?_) (fun h3 => ?_)
  rotate_left
  · have e := ridB_no (l := l) (b := b) (a := a) (by omega)
    simp -implicitDefEqProofs (disch := omega) only [go_sem, Nat.reduceAdd, Nat.reduceMul, Nat.reduceSub, Nat.reduceBEq, Nat.reduceLeDiff, Nat.reduceLT, fn_transitref16_Ridable, e15_1, w15_1, e15_3, w15_3, c15_4, c15_5, e]
  obtain ⟨i, rfl⟩ : ∃ i : Nat, b = i := ⟨b.toNat, by omega⟩
  obtain ⟨k, rfl⟩ : ∃ k : Nat, a = k := ⟨a.toNat, by omega⟩
  obtain ⟨x, hx⟩ : ∃ x, l[i]? = some x := ⟨l[i], by simp⟩
  obtain ⟨y, hy⟩ : ∃ y, l[k]? = some y := ⟨l[k], by simp⟩
  have e : ridB l i k = (x.board && y.alight) := by rw [ridB_yes (by omega) (by omega), boards_at hx, alights_at hy]
  simp -implicitDefEqProofs (disch := omega) only [go_sem, Nat.reduceAdd, Nat.reduceMul, Nat.reduceSub, Nat.reduceBEq, Nat.reduceLeDiff, Nat.reduceLT, fn_transitref16_Ridable, e15_1, w15_1, e15_3, w15_3, c15_4, c15_5, hx, hy, Stay.row]
  refine ifB (fun h4 => ?_) (fun h4 => ?_)
  · rw [h4, Bool.true_and] at e
    simp -implicitDefEqProofs (disch := omega) only [go_sem, Nat.reduceAdd, Nat.reduceMul, Nat.reduceSub, Nat.reduceBEq, Nat.reduceLeDiff, Nat.reduceLT, fn_transitref16_Ridable, e15_1, w15_1, e15_3, w15_3, c15_4, c15_5, hx, hy, Stay.row, e]
  · rw [h4, Bool.false_and] at e
    simp -implicitDefEqProofs (disch := omega) only [go_sem, Nat.reduceAdd, Nat.reduceMul, Nat.reduceSub, Nat.reduceBEq, Nat.reduceLeDiff, Nat.reduceLT, fn_transitref16_Ridable, e15_1, w15_1, e15_3, w15_3, c15_4, c15_5, e]

def intRow (n : Nat) : List V := [.int .i64 n]
def stops? (l : List Stay) (stop : Int) (i : Nat) : Bool := ((l[i]?).map fun c => decide (c.stop = stop)).getD false
/-- The indices of the calls at a stop, below n. -/
def atTo (l : List Stay) (stop : Int) (n : Nat) : List Nat := (List.range n).filter (stops? l stop)
theorem atTo_succ {l : List Stay} {stop : Int} {n : Nat} {s : Stay} (h : l[n]? = some s) : atTo l stop (n + 1) = atTo l stop n ++ if s.stop = stop then [n] else [] := by
  simp only [atTo, List.range_succ, List.filter_append]
  by_cases e : s.stop = stop <;> simp [stops?, h, e]
theorem atTo_le (l : List Stay) (stop : Int) (n : Nat) : (atTo l stop n).length ≤ n := by
  have := List.length_filter_le (stops? l stop) (List.range n)
  simpa [atTo] using this

theorem call_At_ok (l : List Stay) (c : Cap) (stop : Int) (hlen : l.length ≤ 1000) : PCalls PR i_call_At [.slice (l.map Stay.row) c, .int .i64 stop] (fun v => v = .slice ((atTo l stop l.length).map intRow) .unk) := by
  refine acalls_pop fn_call_At_ok (by simp [fn_call_At]) ?_
  simp -implicitDefEqProofs (disch := omega) only [go_sem, Nat.reduceAdd, Nat.reduceMul, Nat.reduceSub, Nat.reduceBEq, Nat.reduceLeDiff, Nat.reduceLT, fn_call_At, e19_1, w19_1, e19_3, w19_3, e19_5, w19_5, e19_7, w19_7, c19_8, e19_10, w19_10, e19_12, w19_12, e19_14, w19_14, c19_15, c19_16, e19_18, w19_18, c19_19, c19_20, c19_21, c19_22, c19_23, c19_24, e19_26, w19_26, c19_27, c19_28, c19_29, c19_30]
  refine wpC_forL l (fun i vs M => ∃ ver, vs = [.int .i64 stop, .mslice 0 ver 0 (atTo l stop i).length, .slice (l.map Stay.row) c, .int .i64 l.length, .int .i64 i] ∧ M = [.arr 1 ((atTo l stop i).map intRow) ver 0]) ⟨0, rfl, rfl⟩ ?_ ?_
  · rintro i s vs M hs hi hd ⟨ver, rfl, rfl⟩
    have hle := atTo_le l stop i
    simp -implicitDefEqProofs (disch := omega) only [go_sem, Nat.reduceAdd, Nat.reduceMul, Nat.reduceSub, Nat.reduceBEq, Nat.reduceLeDiff, Nat.reduceLT, fn_call_At, e19_1, w19_1, e19_3, w19_3, e19_5, w19_5, e19_7, w19_7, c19_8, e19_10, w19_10, e19_12, w19_12, e19_14, w19_14, c19_15, c19_16, e19_18, w19_18, c19_19, c19_20, c19_21, c19_22, c19_23, c19_24, e19_26, w19_26, c19_27, c19_28, c19_29, c19_30, hd, hs, Stay.row]
    refine ifD (fun h => ?_) (fun h => ?_)
    · simp -implicitDefEqProofs (disch := omega) only [go_sem, Nat.reduceAdd, Nat.reduceMul, Nat.reduceSub, Nat.reduceBEq, Nat.reduceLeDiff, Nat.reduceLT, fn_call_At, e19_1, w19_1, e19_3, w19_3, e19_5, w19_5, e19_7, w19_7, c19_8, e19_10, w19_10, e19_12, w19_12, e19_14, w19_14, c19_15, c19_16, e19_18, w19_18, c19_19, c19_20, c19_21, c19_22, c19_23, c19_24, e19_26, w19_26, c19_27, c19_28, c19_29, c19_30]
      refine next_pop hi rfl ⟨ver + 1, ?_, ?_⟩
      · simp only [atTo_succ hs, h, if_true, List.length_append] <;> rfl
      · simp only [atTo_succ hs, h, if_true, List.map_append] <;> rfl
    · simp -implicitDefEqProofs (disch := omega) only [go_sem, Nat.reduceAdd, Nat.reduceMul, Nat.reduceSub, Nat.reduceBEq, Nat.reduceLeDiff, Nat.reduceLT, fn_call_At, e19_1, w19_1, e19_3, w19_3, e19_5, w19_5, e19_7, w19_7, c19_8, e19_10, w19_10, e19_12, w19_12, e19_14, w19_14, c19_15, c19_16, e19_18, w19_18, c19_19, c19_20, c19_21, c19_22, c19_23, c19_24, e19_26, w19_26, c19_27, c19_28, c19_29, c19_30]
      refine next_pop hi rfl ⟨ver, ?_, ?_⟩
      · simp only [atTo_succ hs, h, if_false, List.append_nil] <;> rfl
      · simp only [atTo_succ hs, h, if_false, List.append_nil] <;> rfl
  · rintro vs M ⟨ver, rfl, rfl⟩
    simp -implicitDefEqProofs (disch := omega) only [go_sem, Nat.reduceAdd, Nat.reduceMul, Nat.reduceSub, Nat.reduceBEq, Nat.reduceLeDiff, Nat.reduceLT, fn_call_At, e19_1, w19_1, e19_3, w19_3, e19_5, w19_5, e19_7, w19_7, c19_8, e19_10, w19_10, e19_12, w19_12, e19_14, w19_14, c19_15, c19_16, e19_18, w19_18, c19_19, c19_20, c19_21, c19_22, c19_23, c19_24, e19_26, w19_26, c19_27, c19_28, c19_29, c19_30, dec_irrefl]

theorem ref16_At_ok (l : List Stay) (c : Cap) (stop : Int) (hlen : l.length ≤ 1000) : PCalls PR i_transitref16_At [.slice (l.map Stay.row) c, .int .i64 stop] (fun v => v = .slice ((atTo l stop l.length).map intRow) .unk) := by
  refine acalls_pop fn_transitref16_At_ok (by simp [fn_transitref16_At]) ?_
  simp -implicitDefEqProofs (disch := omega) only [go_sem, Nat.reduceAdd, Nat.reduceMul, Nat.reduceSub, Nat.reduceBEq, Nat.reduceLeDiff, Nat.reduceLT, fn_transitref16_At, e20_1, w20_1, e20_3, w20_3, e20_5, w20_5, e20_7, w20_7, e20_9, w20_9, e20_11, w20_11, c20_12, e20_14, w20_14, c20_15, c20_16, c20_17, c20_18, c20_19, e20_21, w20_21, c20_22, c20_23, c20_24, c20_25]
  refine wpC_forL l (fun i vs M => ∃ ver, vs = [.slice (l.map Stay.row) c, .int .i64 stop, .mslice 0 ver 0 (atTo l stop i).length, .int .i64 i] ∧ M = [.arr 1 ((atTo l stop i).map intRow) ver 0]) ⟨0, rfl, rfl⟩ ?_ ?_
  · rintro i s vs M hs hi hd ⟨ver, rfl, rfl⟩
    have hle := atTo_le l stop i
    simp -implicitDefEqProofs (disch := omega) only [go_sem, Nat.reduceAdd, Nat.reduceMul, Nat.reduceSub, Nat.reduceBEq, Nat.reduceLeDiff, Nat.reduceLT, fn_transitref16_At, e20_1, w20_1, e20_3, w20_3, e20_5, w20_5, e20_7, w20_7, e20_9, w20_9, e20_11, w20_11, c20_12, e20_14, w20_14, c20_15, c20_16, c20_17, c20_18, c20_19, e20_21, w20_21, c20_22, c20_23, c20_24, c20_25, hd, hs, Stay.row]
    refine ifD (fun h => ?_) (fun h => ?_)
    · simp -implicitDefEqProofs (disch := omega) only [go_sem, Nat.reduceAdd, Nat.reduceMul, Nat.reduceSub, Nat.reduceBEq, Nat.reduceLeDiff, Nat.reduceLT, fn_transitref16_At, e20_1, w20_1, e20_3, w20_3, e20_5, w20_5, e20_7, w20_7, e20_9, w20_9, e20_11, w20_11, c20_12, e20_14, w20_14, c20_15, c20_16, c20_17, c20_18, c20_19, e20_21, w20_21, c20_22, c20_23, c20_24, c20_25]
      refine next_stay hi ⟨ver + 1, ?_, ?_⟩
      · simp only [atTo_succ hs, h, if_true, List.length_append] <;> rfl
      · simp only [atTo_succ hs, h, if_true, List.map_append] <;> rfl
    · simp -implicitDefEqProofs (disch := omega) only [go_sem, Nat.reduceAdd, Nat.reduceMul, Nat.reduceSub, Nat.reduceBEq, Nat.reduceLeDiff, Nat.reduceLT, fn_transitref16_At, e20_1, w20_1, e20_3, w20_3, e20_5, w20_5, e20_7, w20_7, e20_9, w20_9, e20_11, w20_11, c20_12, e20_14, w20_14, c20_15, c20_16, c20_17, c20_18, c20_19, e20_21, w20_21, c20_22, c20_23, c20_24, c20_25]
      refine next_stay hi ⟨ver, ?_, ?_⟩
      · simp only [atTo_succ hs, h, if_false, List.append_nil] <;> rfl
      · simp only [atTo_succ hs, h, if_false, List.append_nil] <;> rfl
  · rintro vs M ⟨ver, rfl, rfl⟩
    simp -implicitDefEqProofs (disch := omega) only [go_sem, Nat.reduceAdd, Nat.reduceMul, Nat.reduceSub, Nat.reduceBEq, Nat.reduceLeDiff, Nat.reduceLT, fn_transitref16_At, e20_1, w20_1, e20_3, w20_3, e20_5, w20_5, e20_7, w20_7, e20_9, w20_9, e20_11, w20_11, c20_12, e20_14, w20_14, c20_15, c20_16, c20_17, c20_18, c20_19, e20_21, w20_21, c20_22, c20_23, c20_24, c20_25, dec_irrefl]

def durOf (l : List Stay) : Int :=
  if l.length < 2 then 0 else match l[l.length - 1]?, l[0]? with
  | some b, some a => IntKind.i64.wrap (b.arrive - a.depart)
  | _, _ => 0

theorem call_Duration_ok (l : List Stay) (c : Cap) (hlen : l.length ≤ 1000) : PCalls PR i_call_Duration [.slice (l.map Stay.row) c] (fun v => v = .int .i64 (durOf l)) := by
  refine acalls_pop fn_call_Duration_ok (by simp [fn_call_Duration]) ?_
  simp -implicitDefEqProofs (disch := omega) only [go_sem, Nat.reduceAdd, Nat.reduceMul, Nat.reduceSub, Nat.reduceBEq, Nat.reduceLeDiff, Nat.reduceLT, fn_call_Duration, e21_1, w21_1, e21_3, w21_3, c21_4, e21_6, w21_6, e21_8, w21_8, c21_9, c21_10, c21_11]
  refine ifD (fun h1 => ?_) (fun h1 => ?_)
  · have e : durOf l = 0 := by rw [durOf, if_pos (by omega)]
    simp -implicitDefEqProofs (disch := omega) only [go_sem, Nat.reduceAdd, Nat.reduceMul, Nat.reduceSub, Nat.reduceBEq, Nat.reduceLeDiff, Nat.reduceLT, fn_call_Duration, e21_1, w21_1, e21_3, w21_3, c21_4, e21_6, w21_6, e21_8, w21_8, c21_9, c21_10, c21_11, e]
  obtain ⟨a, ha⟩ : ∃ a, l[0]? = some a := ⟨l[0], by simp⟩
  obtain ⟨b, hb⟩ : ∃ b, l[l.length - 1]? = some b := ⟨l[l.length - 1], by simp⟩
  have e : durOf l = IntKind.i64.wrap (b.arrive - a.depart) := by
    rw [durOf, if_neg (by omega)]
    simp only [ha, hb]
  simp -implicitDefEqProofs (disch := omega) only [go_sem, Nat.reduceAdd, Nat.reduceMul, Nat.reduceSub, Nat.reduceBEq, Nat.reduceLeDiff, Nat.reduceLT, fn_call_Duration, e21_1, w21_1, e21_3, w21_3, c21_4, e21_6, w21_6, e21_8, w21_8, c21_9, c21_10, c21_11, ha, hb, Stay.row, e]

theorem ref16_Duration_ok (l : List Stay) (c : Cap) (hlen : l.length ≤ 1000) : PCalls PR i_transitref16_Duration [.slice (l.map Stay.row) c] (fun v => v = .int .i64 (durOf l)) := by
  refine acalls_pop fn_transitref16_Duration_ok (by simp [fn_transitref16_Duration]) ?_
  simp -implicitDefEqProofs (disch := omega) only [go_sem, Nat.reduceAdd, Nat.reduceMul, Nat.reduceSub, Nat.reduceBEq, Nat.reduceLeDiff, Nat.reduceLT, fn_transitref16_Duration, e22_1, w22_1, e22_3, w22_3, c22_4, e22_6, w22_6, e22_8, w22_8, c22_9, c22_10, c22_11]
  refine ifD (fun h1 => ?_) (fun h1 => ?_)
  · have e : durOf l = 0 := by rw [durOf, if_pos (by omega)]
    simp -implicitDefEqProofs (disch := omega) only [go_sem, Nat.reduceAdd, Nat.reduceMul, Nat.reduceSub, Nat.reduceBEq, Nat.reduceLeDiff, Nat.reduceLT, fn_transitref16_Duration, e22_1, w22_1, e22_3, w22_3, c22_4, e22_6, w22_6, e22_8, w22_8, c22_9, c22_10, c22_11, e]
  obtain ⟨a, ha⟩ : ∃ a, l[0]? = some a := ⟨l[0], by simp⟩
  obtain ⟨b, hb⟩ : ∃ b, l[l.length - 1]? = some b := ⟨l[l.length - 1], by simp⟩
  have e : durOf l = IntKind.i64.wrap (b.arrive - a.depart) := by
    rw [durOf, if_neg (by omega)]
    simp only [ha, hb]
  simp -implicitDefEqProofs (disch := omega) only [go_sem, Nat.reduceAdd, Nat.reduceMul, Nat.reduceSub, Nat.reduceBEq, Nat.reduceLeDiff, Nat.reduceLT, fn_transitref16_Duration, e22_1, w22_1, e22_3, w22_3, c22_4, e22_6, w22_6, e22_8, w22_8, c22_9, c22_10, c22_11, ha, hb, Stay.row, e]

theorem stay_ext {a b : Stay} (h1 : a.stop = b.stop) (h2 : a.arrive = b.arrive) (h3 : a.depart = b.depart) (h4 : a.board = b.board) (h5 : a.alight = b.alight) : a = b := by
  cases a; cases b; simp_all
theorem list_ext {l m : List Stay} (hlen : l.length = m.length) (h : ∀ j, j < l.length → l[j]? = m[j]?) : l = m := by
  apply List.ext_getElem?
  intro j
  rcases Nat.lt_or_ge j l.length with h6 | h6
  · exact h j h6
  · rw [List.getElem?_eq_none h6, List.getElem?_eq_none (by omega)]

theorem call_Equal_ok (l m : List Stay) (c d : Cap) (hlen : l.length ≤ 1000) : PCalls PR i_call_Equal [.slice (l.map Stay.row) c, .slice (m.map Stay.row) d] (fun v => ∃ b : Bool, v = .bool b ∧ (b = true ↔ l = m)) := by
  refine acalls_pop fn_call_Equal_ok (by simp [fn_call_Equal]) ?_
  simp -implicitDefEqProofs (disch := omega) only [go_sem, Nat.reduceAdd, Nat.reduceMul, Nat.reduceSub, Nat.reduceBEq, Nat.reduceLeDiff, Nat.reduceLT, fn_call_Equal, e27_1, w27_1, e27_3, w27_3, c27_4, e27_6, w27_6, e27_8, w27_8, e27_10, w27_10, c27_11, e27_13, w27_13, e27_15, w27_15, c27_16, e27_18, w27_18, c27_19, c27_20, e27_22, w27_22, c27_23, c27_24, c27_25, c27_26, c27_27, c27_28, e27_30, w27_30, c27_31, c27_32, c27_33, c27_34]
  refine ifD (fun h1 => ?_) (fun h1 => ?_)
  rotate_left
  · simp -implicitDefEqProofs (disch := omega) only [go_sem, Nat.reduceAdd, Nat.reduceMul, Nat.reduceSub, Nat.reduceBEq, Nat.reduceLeDiff, Nat.reduceLT, fn_call_Equal, e27_1, w27_1, e27_3, w27_3, c27_4, e27_6, w27_6, e27_8, w27_8, e27_10, w27_10, c27_11, e27_13, w27_13, e27_15, w27_15, c27_16, e27_18, w27_18, c27_19, c27_20, e27_22, w27_22, c27_23, c27_24, c27_25, c27_26, c27_27, c27_28, e27_30, w27_30, c27_31, c27_32, c27_33, c27_34]
    exact ⟨false, rfl, by simp, fun e => by subst e; exact absurd rfl h1⟩
  simp -implicitDefEqProofs (disch := omega) only [go_sem, Nat.reduceAdd, Nat.reduceMul, Nat.reduceSub, Nat.reduceBEq, Nat.reduceLeDiff, Nat.reduceLT, fn_call_Equal, e27_1, w27_1, e27_3, w27_3, c27_4, e27_6, w27_6, e27_8, w27_8, e27_10, w27_10, c27_11, e27_13, w27_13, e27_15, w27_15, c27_16, e27_18, w27_18, c27_19, c27_20, e27_22, w27_22, c27_23, c27_24, c27_25, c27_26, c27_27, c27_28, e27_30, w27_30, c27_31, c27_32, c27_33, c27_34]
  refine wpC_forL l (fun i vs M => (∀ j, j < i → l[j]? = m[j]?) ∧ vs = [.slice (m.map Stay.row) d, .slice (l.map Stay.row) c, .int .i64 l.length, .int .i64 i] ∧ M = []) ⟨fun j hj => absurd hj (Nat.not_lt_zero j), rfl, rfl⟩ ?_ ?_
  rotate_left
  · rintro vs M ⟨hall, rfl, rfl⟩
    simp -implicitDefEqProofs (disch := omega) only [go_sem, Nat.reduceAdd, Nat.reduceMul, Nat.reduceSub, Nat.reduceBEq, Nat.reduceLeDiff, Nat.reduceLT, fn_call_Equal, e27_1, w27_1, e27_3, w27_3, c27_4, e27_6, w27_6, e27_8, w27_8, e27_10, w27_10, c27_11, e27_13, w27_13, e27_15, w27_15, c27_16, e27_18, w27_18, c27_19, c27_20, e27_22, w27_22, c27_23, c27_24, c27_25, c27_26, c27_27, c27_28, e27_30, w27_30, c27_31, c27_32, c27_33, c27_34, dec_irrefl]
    exact ⟨true, rfl, fun _ => list_ext (by omega) hall, fun _ => rfl⟩
  rintro i a vs M ha hi hid ⟨hall, rfl, rfl⟩
  obtain ⟨b, hb⟩ : ∃ b, m[i]? = some b := ⟨m[i], by simp⟩
  simp -implicitDefEqProofs (disch := omega) only [go_sem, Nat.reduceAdd, Nat.reduceMul, Nat.reduceSub, Nat.reduceBEq, Nat.reduceLeDiff, Nat.reduceLT, fn_call_Equal, e27_1, w27_1, e27_3, w27_3, c27_4, e27_6, w27_6, e27_8, w27_8, e27_10, w27_10, c27_11, e27_13, w27_13, e27_15, w27_15, c27_16, e27_18, w27_18, c27_19, c27_20, e27_22, w27_22, c27_23, c27_24, c27_25, c27_26, c27_27, c27_28, e27_30, w27_30, c27_31, c27_32, c27_33, c27_34, hid, ha, hb, Stay.row]
  refine ifB (fun h6 => ?_) (fun h6 => ?_)
  · simp only [Bool.and_eq_true, decide_eq_true_eq, beq_iff_eq] at h6
    obtain ⟨e1, e2, e3, e4, e5⟩ := h6
    simp -implicitDefEqProofs (disch := omega) only [go_sem, Nat.reduceAdd, Nat.reduceMul, Nat.reduceSub, Nat.reduceBEq, Nat.reduceLeDiff, Nat.reduceLT, fn_call_Equal, e27_1, w27_1, e27_3, w27_3, c27_4, e27_6, w27_6, e27_8, w27_8, e27_10, w27_10, c27_11, e27_13, w27_13, e27_15, w27_15, c27_16, e27_18, w27_18, c27_19, c27_20, e27_22, w27_22, c27_23, c27_24, c27_25, c27_26, c27_27, c27_28, e27_30, w27_30, c27_31, c27_32, c27_33, c27_34]
    refine next_pop hi rfl ⟨?_, ?_, rfl⟩
    · intro j hj
      rcases Nat.lt_or_ge j i with h7 | h7
      · exact hall j h7
      · have : j = i := by omega
        subst this
        rw [ha, hb, stay_ext e1 e2 e3 e4 e5]
    · simp only [vals, sget]; rfl
  · simp -implicitDefEqProofs (disch := omega) only [go_sem, Nat.reduceAdd, Nat.reduceMul, Nat.reduceSub, Nat.reduceBEq, Nat.reduceLeDiff, Nat.reduceLT, fn_call_Equal, e27_1, w27_1, e27_3, w27_3, c27_4, e27_6, w27_6, e27_8, w27_8, e27_10, w27_10, c27_11, e27_13, w27_13, e27_15, w27_15, c27_16, e27_18, w27_18, c27_19, c27_20, e27_22, w27_22, c27_23, c27_24, c27_25, c27_26, c27_27, c27_28, e27_30, w27_30, c27_31, c27_32, c27_33, c27_34]
    refine ⟨false, rfl, by simp, fun e => ?_⟩
    subst e
    rw [ha] at hb
    simp only [Option.some.injEq] at hb
    subst hb
    simp at h6

theorem ref16_Equal_ok (l m : List Stay) (c d : Cap) (hlen : l.length ≤ 1000) : PCalls PR i_transitref16_Equal [.slice (l.map Stay.row) c, .slice (m.map Stay.row) d] (fun v => ∃ b : Bool, v = .bool b ∧ (b = true ↔ l = m)) := by
  refine acalls_pop fn_transitref16_Equal_ok (by simp [fn_transitref16_Equal]) ?_
  simp -implicitDefEqProofs (disch := omega) only [go_sem, Nat.reduceAdd, Nat.reduceMul, Nat.reduceSub, Nat.reduceBEq, Nat.reduceLeDiff, Nat.reduceLT, fn_transitref16_Equal, e23_1, w23_1, e23_3, w23_3, c23_4, e23_6, w23_6, e23_8, w23_8, e23_10, w23_10, e23_12, w23_12, c23_13, e23_15, w23_15, c23_16, e23_18, w23_18, c23_19, c23_20, c23_21, c23_22, c23_23, e23_25, w23_25, c23_26, c23_27, c23_28, c23_29]
  refine ifD (fun h1 => ?_) (fun h1 => ?_)
  rotate_left
  · simp -implicitDefEqProofs (disch := omega) only [go_sem, Nat.reduceAdd, Nat.reduceMul, Nat.reduceSub, Nat.reduceBEq, Nat.reduceLeDiff, Nat.reduceLT, fn_transitref16_Equal, e23_1, w23_1, e23_3, w23_3, c23_4, e23_6, w23_6, e23_8, w23_8, e23_10, w23_10, e23_12, w23_12, c23_13, e23_15, w23_15, c23_16, e23_18, w23_18, c23_19, c23_20, c23_21, c23_22, c23_23, e23_25, w23_25, c23_26, c23_27, c23_28, c23_29]
    exact ⟨false, rfl, by simp, fun e => by subst e; exact absurd rfl h1⟩
  simp -implicitDefEqProofs (disch := omega) only [go_sem, Nat.reduceAdd, Nat.reduceMul, Nat.reduceSub, Nat.reduceBEq, Nat.reduceLeDiff, Nat.reduceLT, fn_transitref16_Equal, e23_1, w23_1, e23_3, w23_3, c23_4, e23_6, w23_6, e23_8, w23_8, e23_10, w23_10, e23_12, w23_12, c23_13, e23_15, w23_15, c23_16, e23_18, w23_18, c23_19, c23_20, c23_21, c23_22, c23_23, e23_25, w23_25, c23_26, c23_27, c23_28, c23_29]
  refine wpC_forL l (fun i vs M => (∀ j, j < i → l[j]? = m[j]?) ∧ vs = [.slice (l.map Stay.row) c, .slice (m.map Stay.row) d, .int .i64 i] ∧ M = []) ⟨fun j hj => absurd hj (Nat.not_lt_zero j), rfl, rfl⟩ ?_ ?_
  rotate_left
  · rintro vs M ⟨hall, rfl, rfl⟩
    simp -implicitDefEqProofs (disch := omega) only [go_sem, Nat.reduceAdd, Nat.reduceMul, Nat.reduceSub, Nat.reduceBEq, Nat.reduceLeDiff, Nat.reduceLT, fn_transitref16_Equal, e23_1, w23_1, e23_3, w23_3, c23_4, e23_6, w23_6, e23_8, w23_8, e23_10, w23_10, e23_12, w23_12, c23_13, e23_15, w23_15, c23_16, e23_18, w23_18, c23_19, c23_20, c23_21, c23_22, c23_23, e23_25, w23_25, c23_26, c23_27, c23_28, c23_29, dec_irrefl]
    exact ⟨true, rfl, fun _ => list_ext (by omega) hall, fun _ => rfl⟩
  rintro i a vs M ha hi hid ⟨hall, rfl, rfl⟩
  obtain ⟨b, hb⟩ : ∃ b, m[i]? = some b := ⟨m[i], by simp⟩
  simp -implicitDefEqProofs (disch := omega) only [go_sem, Nat.reduceAdd, Nat.reduceMul, Nat.reduceSub, Nat.reduceBEq, Nat.reduceLeDiff, Nat.reduceLT, fn_transitref16_Equal, e23_1, w23_1, e23_3, w23_3, c23_4, e23_6, w23_6, e23_8, w23_8, e23_10, w23_10, e23_12, w23_12, c23_13, e23_15, w23_15, c23_16, e23_18, w23_18, c23_19, c23_20, c23_21, c23_22, c23_23, e23_25, w23_25, c23_26, c23_27, c23_28, c23_29, hid, ha, hb, Stay.row]
  refine ifB (fun h6 => ?_) (fun h6 => ?_)
  · simp only [Bool.and_eq_true, decide_eq_true_eq, beq_iff_eq] at h6
    obtain ⟨e1, e2, e3, e4, e5⟩ := h6
    simp -implicitDefEqProofs (disch := omega) only [go_sem, Nat.reduceAdd, Nat.reduceMul, Nat.reduceSub, Nat.reduceBEq, Nat.reduceLeDiff, Nat.reduceLT, fn_transitref16_Equal, e23_1, w23_1, e23_3, w23_3, c23_4, e23_6, w23_6, e23_8, w23_8, e23_10, w23_10, e23_12, w23_12, c23_13, e23_15, w23_15, c23_16, e23_18, w23_18, c23_19, c23_20, c23_21, c23_22, c23_23, e23_25, w23_25, c23_26, c23_27, c23_28, c23_29]
    refine next_stay hi ⟨?_, ?_, rfl⟩
    · intro j hj
      rcases Nat.lt_or_ge j i with h7 | h7
      · exact hall j h7
      · have : j = i := by omega
        subst this
        rw [ha, hb, stay_ext e1 e2 e3 e4 e5]
    · simp only [vals, sget]; rfl
  · simp -implicitDefEqProofs (disch := omega) only [go_sem, Nat.reduceAdd, Nat.reduceMul, Nat.reduceSub, Nat.reduceBEq, Nat.reduceLeDiff, Nat.reduceLT, fn_transitref16_Equal, e23_1, w23_1, e23_3, w23_3, c23_4, e23_6, w23_6, e23_8, w23_8, e23_10, w23_10, e23_12, w23_12, c23_13, e23_15, w23_15, c23_16, e23_18, w23_18, c23_19, c23_20, c23_21, c23_22, c23_23, e23_25, w23_25, c23_26, c23_27, c23_28, c23_29]
    refine ⟨false, rfl, by simp, fun e => ?_⟩
    subst e
    rw [ha] at hb
    simp only [Option.some.injEq] at hb
    subst hb
    simp at h6

def moved (s : Int) (c : Stay) : Stay := ⟨c.stop, IntKind.i64.wrap (c.arrive + s), IntKind.i64.wrap (c.depart + s), c.board, c.alight⟩

theorem call_Shift_ok (l : List Stay) (c : Cap) (s : Int) (hlen : l.length ≤ 1000) : PCalls PR i_call_Shift [.slice (l.map Stay.row) c, .int .i64 s] (fun v => v = .slice ((l.map (moved s)).map Stay.row) .unk) := by
  refine acalls_pop fn_call_Shift_ok (by simp [fn_call_Shift]) ?_
  simp -implicitDefEqProofs (disch := omega) only [go_sem, Nat.reduceAdd, Nat.reduceMul, Nat.reduceSub, Nat.reduceBEq, Nat.reduceLeDiff, Nat.reduceLT, fn_call_Shift, e24_1, w24_1, e24_3, w24_3, e24_5, w24_5, e24_7, w24_7, c24_8, e24_10, w24_10, e24_12, w24_12, e24_14, w24_14, e24_16, w24_16, c24_17, c24_18, c24_19, c24_20, e24_22, w24_22, c24_23, c24_24, c24_25, c24_26, c24_27, c24_28, e24_30, w24_30, c24_31, c24_32, c24_33, c24_34]
  refine wpC_forL l (fun i vs M => ∃ ver, vs = [.int .i64 s, .mslice 0 ver 0 (l.take i).length, .slice (l.map Stay.row) c, .int .i64 l.length, .int .i64 i] ∧ M = [.arr 5 (((l.take i).map (moved s)).map Stay.row) ver 0]) ⟨0, rfl, rfl⟩ ?_ ?_
  rotate_left
  · rintro vs M ⟨ver, rfl, rfl⟩
    simp -implicitDefEqProofs (disch := omega) only [go_sem, Nat.reduceAdd, Nat.reduceMul, Nat.reduceSub, Nat.reduceBEq, Nat.reduceLeDiff, Nat.reduceLT, fn_call_Shift, e24_1, w24_1, e24_3, w24_3, e24_5, w24_5, e24_7, w24_7, c24_8, e24_10, w24_10, e24_12, w24_12, e24_14, w24_14, e24_16, w24_16, c24_17, c24_18, c24_19, c24_20, e24_22, w24_22, c24_23, c24_24, c24_25, c24_26, c24_27, c24_28, e24_30, w24_30, c24_31, c24_32, c24_33, c24_34, dec_irrefl, List.take_length]
    rw [List.take_of_length_le (by simp)]
  rintro i a vs M ha hi hd ⟨ver, rfl, rfl⟩
  have hsn : ((l.take (i + 1)).map (moved s)).map Stay.row = ((l.take i).map (moved s)).map Stay.row ++ [(moved s a).row] := by
    rw [List.take_add_one, ha, List.map_append, List.map_append]; rfl
  have htk : (l.take (i + 1)).length = (l.take i).length + 1 := by simp; omega
  have hle : (l.take i).length ≤ 1000 := by simp; omega
  simp -implicitDefEqProofs (disch := omega) only [go_sem, Nat.reduceAdd, Nat.reduceMul, Nat.reduceSub, Nat.reduceBEq, Nat.reduceLeDiff, Nat.reduceLT, fn_call_Shift, e24_1, w24_1, e24_3, w24_3, e24_5, w24_5, e24_7, w24_7, c24_8, e24_10, w24_10, e24_12, w24_12, e24_14, w24_14, e24_16, w24_16, c24_17, c24_18, c24_19, c24_20, e24_22, w24_22, c24_23, c24_24, c24_25, c24_26, c24_27, c24_28, e24_30, w24_30, c24_31, c24_32, c24_33, c24_34, hd, ha, Stay.row]
  refine next_pop hi rfl ⟨ver + 1, ?_, ?_⟩
  · rw [htk]; simp only [vals, sget]; rfl
  · rw [hsn]; rfl

theorem ref16_Shift_ok (l : List Stay) (c : Cap) (s : Int) (hlen : l.length ≤ 1000) : PCalls PR i_transitref16_Shift [.slice (l.map Stay.row) c, .int .i64 s] (fun v => v = .slice ((l.map (moved s)).map Stay.row) .unk) := by
  refine acalls_pop fn_transitref16_Shift_ok (by simp [fn_transitref16_Shift]) ?_
  simp -implicitDefEqProofs (disch := omega) only [go_sem, Nat.reduceAdd, Nat.reduceMul, Nat.reduceSub, Nat.reduceBEq, Nat.reduceLeDiff, Nat.reduceLT, fn_transitref16_Shift, e25_1, w25_1, e25_3, w25_3, e25_5, w25_5, e25_7, w25_7, e25_9, w25_9, e25_11, w25_11, e25_13, w25_13, e25_15, w25_15, c25_16, c25_17, c25_18, c25_19, e25_21, w25_21, c25_22, c25_23, c25_24, c25_25, c25_26, e25_28, w25_28, c25_29, c25_30, c25_31, c25_32]
  refine wpC_forL l (fun i vs M => ∃ ver, vs = [.slice (l.map Stay.row) c, .int .i64 s, .mslice 0 ver 0 (l.take i).length, .int .i64 i] ∧ M = [.arr 5 (((l.take i).map (moved s)).map Stay.row) ver 0]) ⟨0, rfl, rfl⟩ ?_ ?_
  rotate_left
  · rintro vs M ⟨ver, rfl, rfl⟩
    simp -implicitDefEqProofs (disch := omega) only [go_sem, Nat.reduceAdd, Nat.reduceMul, Nat.reduceSub, Nat.reduceBEq, Nat.reduceLeDiff, Nat.reduceLT, fn_transitref16_Shift, e25_1, w25_1, e25_3, w25_3, e25_5, w25_5, e25_7, w25_7, e25_9, w25_9, e25_11, w25_11, e25_13, w25_13, e25_15, w25_15, c25_16, c25_17, c25_18, c25_19, e25_21, w25_21, c25_22, c25_23, c25_24, c25_25, c25_26, e25_28, w25_28, c25_29, c25_30, c25_31, c25_32, dec_irrefl, List.take_length]
    rw [List.take_of_length_le (by simp)]
  rintro i a vs M ha hi hd ⟨ver, rfl, rfl⟩
  have hsn : ((l.take (i + 1)).map (moved s)).map Stay.row = ((l.take i).map (moved s)).map Stay.row ++ [(moved s a).row] := by
    rw [List.take_add_one, ha, List.map_append, List.map_append]; rfl
  have htk : (l.take (i + 1)).length = (l.take i).length + 1 := by simp; omega
  have hle : (l.take i).length ≤ 1000 := by simp; omega
  simp -implicitDefEqProofs (disch := omega) only [go_sem, Nat.reduceAdd, Nat.reduceMul, Nat.reduceSub, Nat.reduceBEq, Nat.reduceLeDiff, Nat.reduceLT, fn_transitref16_Shift, e25_1, w25_1, e25_3, w25_3, e25_5, w25_5, e25_7, w25_7, e25_9, w25_9, e25_11, w25_11, e25_13, w25_13, e25_15, w25_15, c25_16, c25_17, c25_18, c25_19, e25_21, w25_21, c25_22, c25_23, c25_24, c25_25, c25_26, e25_28, w25_28, c25_29, c25_30, c25_31, c25_32, hd, ha, Stay.row]
  refine next_pop hi rfl ⟨ver + 1, ?_, ?_⟩
  · rw [htk]; simp only [vals, sget]; rfl
  · rw [hsn]; rfl

end Go.Vm.C

