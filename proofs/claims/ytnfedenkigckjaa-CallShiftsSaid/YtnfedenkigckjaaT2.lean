/- Contracts: the check of calls. -/
import Derived.Test.YtnfedenkigckjaaT1

namespace Go.Vm.C
open Go.Vm
set_option maxHeartbeats 1000000
set_option maxRecDepth 10000
set_option linter.unusedSimpArgs false
set_option linter.unusedVariables false

/-! ### The check of calls -/
def oneErr (c p : Stay) (i : Nat) (stops low high : Int) : Int :=
  if c.stop < 0 ∨ stops ≤ c.stop then 9 else if 0 < i ∧ p.stop = c.stop then 13 else if c.arrive < low ∨ c.depart < c.arrive ∨ high < c.depart ∨ (0 < i ∧ c.arrive < p.depart) then 10 else 0
def errAt (l : List Stay) (stops low high : Int) (i : Nat) : Int :=
  match l[i]?, l[i - 1]? with
  | some c, some p => oneErr c p i stops low high
  | _, _ => 0
def firstBad (g : Nat → Int) : Nat → Option Nat
  | 0 => none
  | n + 1 => match firstBad g n with
    | some i => some i
    | none => if g n ≠ 0 then some n else none
theorem firstBad_none {g : Nat → Int} : ∀ n, (∀ j, j < n → g j = 0) → firstBad g n = none
  | 0, _ => rfl
  | n + 1, h => by rw [firstBad, firstBad_none n (fun j hj => h j (by omega))]; simp [h n (by omega)]
theorem firstBad_some {g : Nat → Int} {i : Nat} (hi : g i ≠ 0) (hz : ∀ j, j < i → g j = 0) : ∀ m, firstBad g (i + 1 + m) = some i
  | 0 => by rw [Nat.add_zero, firstBad, firstBad_none i hz]; simp [hi]
  | m + 1 => by rw [← Nat.add_assoc, firstBad, firstBad_some hi hz m]
theorem firstBad_at {g : Nat → Int} {i n : Nat} (hi : g i ≠ 0) (hz : ∀ j, j < i → g j = 0) (h : i < n) : firstBad g n = some i := by
  obtain ⟨m, rfl⟩ : ∃ m, n = i + 1 + m := ⟨n - (i + 1), by omega⟩
  exact firstBad_some hi hz m
/-- The first error, and where. -/
def checkC (l : List Stay) (stops low high : Int) : Int × Int :=
  if l.length < 2 ∨ 32 < l.length then (0, 5) else match firstBad (errAt l stops low high) l.length with
  | some i => (i, errAt l stops low high i)
  | none => (0, 0)
def pairV (p : Int × Int) : V := .tuple [.int .i64 p.1, .int .i64 p.2]

theorem call_one_ok (l : List Stay) (c : Cap) (i : Nat) (stops low high : Int) (hi : i < l.length) (hlen : l.length ≤ 1000) : PCalls PR i_call_one [.slice (l.map Stay.row) c, .int .i64 i, .int .i64 stops, .int .i64 low, .int .i64 high] (fun v => v = .int .i64 (errAt l stops low high i)) := by
  obtain ⟨a, ha⟩ : ∃ a, l[i]? = some a := ⟨l[i], by simp⟩
  obtain ⟨b, hb⟩ : ∃ b, l[i - 1]? = some b := ⟨l[i - 1], by simp⟩
  have he : errAt l stops low high i = oneErr a b i stops low high := by simp only [errAt, ha, hb]
  refine acalls_pop fn_call_one_ok (by simp [fn_call_one]) ?_
  simp -implicitDefEqProofs (disch := omega) only [go_sem, Nat.reduceAdd, Nat.reduceMul, Nat.reduceSub, Nat.reduceBEq, Nat.reduceLeDiff, Nat.reduceLT, fn_call_one, e28_1, w28_1, e28_3, w28_3, e28_5, w28_5, c28_6, e28_8, w28_8, e28_10, w28_10, c28_11, e28_13, w28_13, e28_15, w28_15, c28_16, e28_18, w28_18, e28_20, w28_20, c28_21, c28_22, c28_23, c28_24, c28_25, c28_26, ha, Stay.row]
  refine ifD (fun h1 => ?_) (fun h1 => ?_)
  · have e : oneErr a b i stops low high = 9 := by rw [oneErr, if_pos (.inl h1)]
    simp -implicitDefEqProofs (disch := omega) only [go_sem, Nat.reduceAdd, Nat.reduceMul, Nat.reduceSub, Nat.reduceBEq, Nat.reduceLeDiff, Nat.reduceLT, fn_call_one, e28_1, w28_1, e28_3, w28_3, e28_5, w28_5, c28_6, e28_8, w28_8, e28_10, w28_10, c28_11, e28_13, w28_13, e28_15, w28_15, c28_16, e28_18, w28_18, e28_20, w28_20, c28_21, c28_22, c28_23, c28_24, c28_25, c28_26, he, e]
  simp -implicitDefEqProofs (disch := omega) only [go_sem, Nat.reduceAdd, Nat.reduceMul, Nat.reduceSub, Nat.reduceBEq, Nat.reduceLeDiff, Nat.reduceLT, fn_call_one, e28_1, w28_1, e28_3, w28_3, e28_5, w28_5, c28_6, e28_8, w28_8, e28_10, w28_10, c28_11, e28_13, w28_13, e28_15, w28_15, c28_16, e28_18, w28_18, e28_20, w28_20, c28_21, c28_22, c28_23, c28_24, c28_25, c28_26]
  refine ifD (fun h2 => ?_) (fun h2 => ?_)
  · have e : oneErr a b i stops low high = 9 := by rw [oneErr, if_pos (.inr h2)]
    simp -implicitDefEqProofs (disch := omega) only [go_sem, Nat.reduceAdd, Nat.reduceMul, Nat.reduceSub, Nat.reduceBEq, Nat.reduceLeDiff, Nat.reduceLT, fn_call_one, e28_1, w28_1, e28_3, w28_3, e28_5, w28_5, c28_6, e28_8, w28_8, e28_10, w28_10, c28_11, e28_13, w28_13, e28_15, w28_15, c28_16, e28_18, w28_18, e28_20, w28_20, c28_21, c28_22, c28_23, c28_24, c28_25, c28_26, he, e]
  have e1 : oneErr a b i stops low high = if 0 < i ∧ b.stop = a.stop then 13 else if a.arrive < low ∨ a.depart < a.arrive ∨ high < a.depart ∨ (0 < i ∧ a.arrive < b.depart) then 10 else 0 := by rw [oneErr, if_neg (by omega)]
  simp -implicitDefEqProofs (disch := omega) only [go_sem, Nat.reduceAdd, Nat.reduceMul, Nat.reduceSub, Nat.reduceBEq, Nat.reduceLeDiff, Nat.reduceLT, fn_call_one, e28_1, w28_1, e28_3, w28_3, e28_5, w28_5, c28_6, e28_8, w28_8, e28_10, w28_10, c28_11, e28_13, w28_13, e28_15, w28_15, c28_16, e28_18, w28_18, e28_20, w28_20, c28_21, c28_22, c28_23, c28_24, c28_25, c28_26]
  refine ifD (fun h3 => ?_) (fun h3 => ?_)
  · simp -implicitDefEqProofs (disch := omega) only [go_sem, Nat.reduceAdd, Nat.reduceMul, Nat.reduceSub, Nat.reduceBEq, Nat.reduceLeDiff, Nat.reduceLT, fn_call_one, e28_1, w28_1, e28_3, w28_3, e28_5, w28_5, c28_6, e28_8, w28_8, e28_10, w28_10, c28_11, e28_13, w28_13, e28_15, w28_15, c28_16, e28_18, w28_18, e28_20, w28_20, c28_21, c28_22, c28_23, c28_24, c28_25, c28_26, hb, Stay.row]
    refine ifD (fun h4 => ?_) (fun h4 => ?_)
    · have e : oneErr a b i stops low high = 13 := by rw [e1, if_pos ⟨by omega, h4⟩]
      simp -implicitDefEqProofs (disch := omega) only [go_sem, Nat.reduceAdd, Nat.reduceMul, Nat.reduceSub, Nat.reduceBEq, Nat.reduceLeDiff, Nat.reduceLT, fn_call_one, e28_1, w28_1, e28_3, w28_3, e28_5, w28_5, c28_6, e28_8, w28_8, e28_10, w28_10, c28_11, e28_13, w28_13, e28_15, w28_15, c28_16, e28_18, w28_18, e28_20, w28_20, c28_21, c28_22, c28_23, c28_24, c28_25, c28_26, he, e]
    have e2 : oneErr a b i stops low high = if a.arrive < low ∨ a.depart < a.arrive ∨ high < a.depart ∨ (0 < i ∧ a.arrive < b.depart) then 10 else 0 := by rw [e1, if_neg (fun h => h4 h.2)]
    simp -implicitDefEqProofs (disch := omega) only [go_sem, Nat.reduceAdd, Nat.reduceMul, Nat.reduceSub, Nat.reduceBEq, Nat.reduceLeDiff, Nat.reduceLT, fn_call_one, e28_1, w28_1, e28_3, w28_3, e28_5, w28_5, c28_6, e28_8, w28_8, e28_10, w28_10, c28_11, e28_13, w28_13, e28_15, w28_15, c28_16, e28_18, w28_18, e28_20, w28_20, c28_21, c28_22, c28_23, c28_24, c28_25, c28_26]
    refine ifD (fun h5 => ?_) (fun h5 => ?_)
    · have e : oneErr a b i stops low high = 10 := by rw [e2, if_pos (by omega)]
      simp -implicitDefEqProofs (disch := omega) only [go_sem, Nat.reduceAdd, Nat.reduceMul, Nat.reduceSub, Nat.reduceBEq, Nat.reduceLeDiff, Nat.reduceLT, fn_call_one, e28_1, w28_1, e28_3, w28_3, e28_5, w28_5, c28_6, e28_8, w28_8, e28_10, w28_10, c28_11, e28_13, w28_13, e28_15, w28_15, c28_16, e28_18, w28_18, e28_20, w28_20, c28_21, c28_22, c28_23, c28_24, c28_25, c28_26, he, e]
    simp -implicitDefEqProofs (disch := omega) only [go_sem, Nat.reduceAdd, Nat.reduceMul, Nat.reduceSub, Nat.reduceBEq, Nat.reduceLeDiff, Nat.reduceLT, fn_call_one, e28_1, w28_1, e28_3, w28_3, e28_5, w28_5, c28_6, e28_8, w28_8, e28_10, w28_10, c28_11, e28_13, w28_13, e28_15, w28_15, c28_16, e28_18, w28_18, e28_20, w28_20, c28_21, c28_22, c28_23, c28_24, c28_25, c28_26]
    refine ifD (fun h6 => ?_) (fun h6 => ?_)
    · have e : oneErr a b i stops low high = 10 := by rw [e2, if_pos (by omega)]
      simp -implicitDefEqProofs (disch := omega) only [go_sem, Nat.reduceAdd, Nat.reduceMul, Nat.reduceSub, Nat.reduceBEq, Nat.reduceLeDiff, Nat.reduceLT, fn_call_one, e28_1, w28_1, e28_3, w28_3, e28_5, w28_5, c28_6, e28_8, w28_8, e28_10, w28_10, c28_11, e28_13, w28_13, e28_15, w28_15, c28_16, e28_18, w28_18, e28_20, w28_20, c28_21, c28_22, c28_23, c28_24, c28_25, c28_26, he, e]
    simp -implicitDefEqProofs (disch := omega) only [go_sem, Nat.reduceAdd, Nat.reduceMul, Nat.reduceSub, Nat.reduceBEq, Nat.reduceLeDiff, Nat.reduceLT, fn_call_one, e28_1, w28_1, e28_3, w28_3, e28_5, w28_5, c28_6, e28_8, w28_8, e28_10, w28_10, c28_11, e28_13, w28_13, e28_15, w28_15, c28_16, e28_18, w28_18, e28_20, w28_20, c28_21, c28_22, c28_23, c28_24, c28_25, c28_26]
    refine ifD (fun h7 => ?_) (fun h7 => ?_)
    · have e : oneErr a b i stops low high = 10 := by rw [e2, if_pos (by omega)]
      simp -implicitDefEqProofs (disch := omega) only [go_sem, Nat.reduceAdd, Nat.reduceMul, Nat.reduceSub, Nat.reduceBEq, Nat.reduceLeDiff, Nat.reduceLT, fn_call_one, e28_1, w28_1, e28_3, w28_3, e28_5, w28_5, c28_6, e28_8, w28_8, e28_10, w28_10, c28_11, e28_13, w28_13, e28_15, w28_15, c28_16, e28_18, w28_18, e28_20, w28_20, c28_21, c28_22, c28_23, c28_24, c28_25, c28_26, he, e]
    simp -implicitDefEqProofs (disch := omega) only [go_sem, Nat.reduceAdd, Nat.reduceMul, Nat.reduceSub, Nat.reduceBEq, Nat.reduceLeDiff, Nat.reduceLT, fn_call_one, e28_1, w28_1, e28_3, w28_3, e28_5, w28_5, c28_6, e28_8, w28_8, e28_10, w28_10, c28_11, e28_13, w28_13, e28_15, w28_15, c28_16, e28_18, w28_18, e28_20, w28_20, c28_21, c28_22, c28_23, c28_24, c28_25, c28_26]
    refine ifD (fun h8 => ?_) (fun h8 => ?_)
    rotate_left
    · omega
    simp -implicitDefEqProofs (disch := omega) only [go_sem, Nat.reduceAdd, Nat.reduceMul, Nat.reduceSub, Nat.reduceBEq, Nat.reduceLeDiff, Nat.reduceLT, fn_call_one, e28_1, w28_1, e28_3, w28_3, e28_5, w28_5, c28_6, e28_8, w28_8, e28_10, w28_10, c28_11, e28_13, w28_13, e28_15, w28_15, c28_16, e28_18, w28_18, e28_20, w28_20, c28_21, c28_22, c28_23, c28_24, c28_25, c28_26, hb, Stay.row]
    refine ifD (fun h9 => ?_) (fun h9 => ?_)
    · have e : oneErr a b i stops low high = 10 := by rw [e2, if_pos (by omega)]
      simp -implicitDefEqProofs (disch := omega) only [go_sem, Nat.reduceAdd, Nat.reduceMul, Nat.reduceSub, Nat.reduceBEq, Nat.reduceLeDiff, Nat.reduceLT, fn_call_one, e28_1, w28_1, e28_3, w28_3, e28_5, w28_5, c28_6, e28_8, w28_8, e28_10, w28_10, c28_11, e28_13, w28_13, e28_15, w28_15, c28_16, e28_18, w28_18, e28_20, w28_20, c28_21, c28_22, c28_23, c28_24, c28_25, c28_26, he, e]
    · have e : oneErr a b i stops low high = 0 := by rw [e2, if_neg (by omega)]
      simp -implicitDefEqProofs (disch := omega) only [go_sem, Nat.reduceAdd, Nat.reduceMul, Nat.reduceSub, Nat.reduceBEq, Nat.reduceLeDiff, Nat.reduceLT, fn_call_one, e28_1, w28_1, e28_3, w28_3, e28_5, w28_5, c28_6, e28_8, w28_8, e28_10, w28_10, c28_11, e28_13, w28_13, e28_15, w28_15, c28_16, e28_18, w28_18, e28_20, w28_20, c28_21, c28_22, c28_23, c28_24, c28_25, c28_26, he, e]
  · have e2 : oneErr a b i stops low high = if a.arrive < low ∨ a.depart < a.arrive ∨ high < a.depart ∨ (0 < i ∧ a.arrive < b.depart) then 10 else 0 := by rw [e1, if_neg (by omega)]
    simp -implicitDefEqProofs (disch := omega) only [go_sem, Nat.reduceAdd, Nat.reduceMul, Nat.reduceSub, Nat.reduceBEq, Nat.reduceLeDiff, Nat.reduceLT, fn_call_one, e28_1, w28_1, e28_3, w28_3, e28_5, w28_5, c28_6, e28_8, w28_8, e28_10, w28_10, c28_11, e28_13, w28_13, e28_15, w28_15, c28_16, e28_18, w28_18, e28_20, w28_20, c28_21, c28_22, c28_23, c28_24, c28_25, c28_26]
    refine ifD (fun h5 => ?_) (fun h5 => ?_)
    · have e : oneErr a b i stops low high = 10 := by rw [e2, if_pos (by omega)]
      simp -implicitDefEqProofs (disch := omega) only [go_sem, Nat.reduceAdd, Nat.reduceMul, Nat.reduceSub, Nat.reduceBEq, Nat.reduceLeDiff, Nat.reduceLT, fn_call_one, e28_1, w28_1, e28_3, w28_3, e28_5, w28_5, c28_6, e28_8, w28_8, e28_10, w28_10, c28_11, e28_13, w28_13, e28_15, w28_15, c28_16, e28_18, w28_18, e28_20, w28_20, c28_21, c28_22, c28_23, c28_24, c28_25, c28_26, he, e]
    simp -implicitDefEqProofs (disch := omega) only [go_sem, Nat.reduceAdd, Nat.reduceMul, Nat.reduceSub, Nat.reduceBEq, Nat.reduceLeDiff, Nat.reduceLT, fn_call_one, e28_1, w28_1, e28_3, w28_3, e28_5, w28_5, c28_6, e28_8, w28_8, e28_10, w28_10, c28_11, e28_13, w28_13, e28_15, w28_15, c28_16, e28_18, w28_18, e28_20, w28_20, c28_21, c28_22, c28_23, c28_24, c28_25, c28_26]
    refine ifD (fun h6 => ?_) (fun h6 => ?_)
    · have e : oneErr a b i stops low high = 10 := by rw [e2, if_pos (by omega)]
      simp -implicitDefEqProofs (disch := omega) only [go_sem, Nat.reduceAdd, Nat.reduceMul, Nat.reduceSub, Nat.reduceBEq, Nat.reduceLeDiff, Nat.reduceLT, fn_call_one, e28_1, w28_1, e28_3, w28_3, e28_5, w28_5, c28_6, e28_8, w28_8, e28_10, w28_10, c28_11, e28_13, w28_13, e28_15, w28_15, c28_16, e28_18, w28_18, e28_20, w28_20, c28_21, c28_22, c28_23, c28_24, c28_25, c28_26, he, e]
    simp -implicitDefEqProofs (disch := omega) only [go_sem, Nat.reduceAdd, Nat.reduceMul, Nat.reduceSub, Nat.reduceBEq, Nat.reduceLeDiff, Nat.reduceLT, fn_call_one, e28_1, w28_1, e28_3, w28_3, e28_5, w28_5, c28_6, e28_8, w28_8, e28_10, w28_10, c28_11, e28_13, w28_13, e28_15, w28_15, c28_16, e28_18, w28_18, e28_20, w28_20, c28_21, c28_22, c28_23, c28_24, c28_25, c28_26]
    refine ifD (fun h7 => ?_) (fun h7 => ?_)
    · have e : oneErr a b i stops low high = 10 := by rw [e2, if_pos (by omega)]
      simp -implicitDefEqProofs (disch := omega) only [go_sem, Nat.reduceAdd, Nat.reduceMul, Nat.reduceSub, Nat.reduceBEq, Nat.reduceLeDiff, Nat.reduceLT, fn_call_one, e28_1, w28_1, e28_3, w28_3, e28_5, w28_5, c28_6, e28_8, w28_8, e28_10, w28_10, c28_11, e28_13, w28_13, e28_15, w28_15, c28_16, e28_18, w28_18, e28_20, w28_20, c28_21, c28_22, c28_23, c28_24, c28_25, c28_26, he, e]
    simp -implicitDefEqProofs (disch := omega) only [go_sem, Nat.reduceAdd, Nat.reduceMul, Nat.reduceSub, Nat.reduceBEq, Nat.reduceLeDiff, Nat.reduceLT, fn_call_one, e28_1, w28_1, e28_3, w28_3, e28_5, w28_5, c28_6, e28_8, w28_8, e28_10, w28_10, c28_11, e28_13, w28_13, e28_15, w28_15, c28_16, e28_18, w28_18, e28_20, w28_20, c28_21, c28_22, c28_23, c28_24, c28_25, c28_26]
    refine ifD (fun h8 => ?_) (fun h8 => ?_)
    · omega
    have e : oneErr a b i stops low high = 0 := by rw [e2, if_neg (by omega)]
    simp -implicitDefEqProofs (disch := omega) only [go_sem, Nat.reduceAdd, Nat.reduceMul, Nat.reduceSub, Nat.reduceBEq, Nat.reduceLeDiff, Nat.reduceLT, fn_call_one, e28_1, w28_1, e28_3, w28_3, e28_5, w28_5, c28_6, e28_8, w28_8, e28_10, w28_10, c28_11, e28_13, w28_13, e28_15, w28_15, c28_16, e28_18, w28_18, e28_20, w28_20, c28_21, c28_22, c28_23, c28_24, c28_25, c28_26, he, e]

theorem call_Check_ok (l : List Stay) (c : Cap) (stops low high : Int) (hlen : l.length ≤ 1000) : PCalls PR i_call_Check [.slice (l.map Stay.row) c, .int .i64 stops, .int .i64 low, .int .i64 high] (fun v => v = pairV (checkC l stops low high)) := by
  refine acalls_pop fn_call_Check_ok (by simp [fn_call_Check]) ?_
  simp -implicitDefEqProofs (disch := omega) only [go_sem, Nat.reduceAdd, Nat.reduceMul, Nat.reduceSub, Nat.reduceBEq, Nat.reduceLeDiff, Nat.reduceLT, fn_call_Check, e12_1, w12_1, e12_3, w12_3, c12_4, e12_6, w12_6, e12_8, w12_8, e12_10, w12_10, c12_11, e12_13, w12_13, e12_15, w12_15, e12_17, w12_17, c12_18, e12_20, w12_20, c12_21, c12_22, c12_23, e12_25, w12_25, c12_26, c12_27, c12_28, c12_29, c12_30, c12_31, e12_33, w12_33, c12_34, c12_35, c12_36, c12_37]
  refine ifD (fun h1 => ?_) (fun h1 => ?_)
  · have e : checkC l stops low high = (0, 5) := by rw [checkC, if_pos (by omega)]
    simp -implicitDefEqProofs (disch := omega) only [go_sem, Nat.reduceAdd, Nat.reduceMul, Nat.reduceSub, Nat.reduceBEq, Nat.reduceLeDiff, Nat.reduceLT, fn_call_Check, e12_1, w12_1, e12_3, w12_3, c12_4, e12_6, w12_6, e12_8, w12_8, e12_10, w12_10, c12_11, e12_13, w12_13, e12_15, w12_15, e12_17, w12_17, c12_18, e12_20, w12_20, c12_21, c12_22, c12_23, e12_25, w12_25, c12_26, c12_27, c12_28, c12_29, c12_30, c12_31, e12_33, w12_33, c12_34, c12_35, c12_36, c12_37, pairV, e]
  simp -implicitDefEqProofs (disch := omega) only [go_sem, Nat.reduceAdd, Nat.reduceMul, Nat.reduceSub, Nat.reduceBEq, Nat.reduceLeDiff, Nat.reduceLT, fn_call_Check, e12_1, w12_1, e12_3, w12_3, c12_4, e12_6, w12_6, e12_8, w12_8, e12_10, w12_10, c12_11, e12_13, w12_13, e12_15, w12_15, e12_17, w12_17, c12_18, e12_20, w12_20, c12_21, c12_22, c12_23, e12_25, w12_25, c12_26, c12_27, c12_28, c12_29, c12_30, c12_31, e12_33, w12_33, c12_34, c12_35, c12_36, c12_37]
  refine ifD (fun h2 => ?_) (fun h2 => ?_)
  · have e : checkC l stops low high = (0, 5) := by rw [checkC, if_pos (by omega)]
    simp -implicitDefEqProofs (disch := omega) only [go_sem, Nat.reduceAdd, Nat.reduceMul, Nat.reduceSub, Nat.reduceBEq, Nat.reduceLeDiff, Nat.reduceLT, fn_call_Check, e12_1, w12_1, e12_3, w12_3, c12_4, e12_6, w12_6, e12_8, w12_8, e12_10, w12_10, c12_11, e12_13, w12_13, e12_15, w12_15, e12_17, w12_17, c12_18, e12_20, w12_20, c12_21, c12_22, c12_23, e12_25, w12_25, c12_26, c12_27, c12_28, c12_29, c12_30, c12_31, e12_33, w12_33, c12_34, c12_35, c12_36, c12_37, pairV, e]
  simp -implicitDefEqProofs (disch := omega) only [go_sem, Nat.reduceAdd, Nat.reduceMul, Nat.reduceSub, Nat.reduceBEq, Nat.reduceLeDiff, Nat.reduceLT, fn_call_Check, e12_1, w12_1, e12_3, w12_3, c12_4, e12_6, w12_6, e12_8, w12_8, e12_10, w12_10, c12_11, e12_13, w12_13, e12_15, w12_15, e12_17, w12_17, c12_18, e12_20, w12_20, c12_21, c12_22, c12_23, e12_25, w12_25, c12_26, c12_27, c12_28, c12_29, c12_30, c12_31, e12_33, w12_33, c12_34, c12_35, c12_36, c12_37]
  refine wpC_forL l (fun i vs M => (∀ j, j < i → errAt l stops low high j = 0) ∧ vs = [.slice (l.map Stay.row) c, .int .i64 stops, .int .i64 low, .int .i64 high, .int .i64 l.length, .int .i64 i] ∧ M = []) ⟨fun j hj => absurd hj (Nat.not_lt_zero j), rfl, rfl⟩ ?_ ?_
  · rintro i x vs M hx hi hd ⟨hz, rfl, rfl⟩
    simp -implicitDefEqProofs (disch := omega) only [go_sem, Nat.reduceAdd, Nat.reduceMul, Nat.reduceSub, Nat.reduceBEq, Nat.reduceLeDiff, Nat.reduceLT, fn_call_Check, e12_1, w12_1, e12_3, w12_3, c12_4, e12_6, w12_6, e12_8, w12_8, e12_10, w12_10, c12_11, e12_13, w12_13, e12_15, w12_15, e12_17, w12_17, c12_18, e12_20, w12_20, c12_21, c12_22, c12_23, e12_25, w12_25, c12_26, c12_27, c12_28, c12_29, c12_30, c12_31, e12_33, w12_33, c12_34, c12_35, c12_36, c12_37, hd]
    first | refine callD (call_one_ok l c i stops low high hi hlen) ?_ | refine callQD (call_one_ok l c i stops low high hi hlen) ?_
    simp -implicitDefEqProofs (disch := omega) only [go_sem, Nat.reduceAdd, Nat.reduceMul, Nat.reduceSub, Nat.reduceBEq, Nat.reduceLeDiff, Nat.reduceLT, fn_call_Check, e12_1, w12_1, e12_3, w12_3, c12_4, e12_6, w12_6, e12_8, w12_8, e12_10, w12_10, c12_11, e12_13, w12_13, e12_15, w12_15, e12_17, w12_17, c12_18, e12_20, w12_20, c12_21, c12_22, c12_23, e12_25, w12_25, c12_26, c12_27, c12_28, c12_29, c12_30, c12_31, e12_33, w12_33, c12_34, c12_35, c12_36, c12_37]
    refine ifD (fun h3 => ?_) (fun h3 => ?_)
    · simp -implicitDefEqProofs (disch := omega) only [go_sem, Nat.reduceAdd, Nat.reduceMul, Nat.reduceSub, Nat.reduceBEq, Nat.reduceLeDiff, Nat.reduceLT, fn_call_Check, e12_1, w12_1, e12_3, w12_3, c12_4, e12_6, w12_6, e12_8, w12_8, e12_10, w12_10, c12_11, e12_13, w12_13, e12_15, w12_15, e12_17, w12_17, c12_18, e12_20, w12_20, c12_21, c12_22, c12_23, e12_25, w12_25, c12_26, c12_27, c12_28, c12_29, c12_30, c12_31, e12_33, w12_33, c12_34, c12_35, c12_36, c12_37]
      refine next_stay hi ⟨fun j hj => ?_, ?_, rfl⟩
      · rcases Nat.lt_or_ge j i with h4 | h4
        · exact hz j h4
        · have : j = i := by omega
          subst this; exact h3
      · simp only [vals, sget]; rfl
    · have e : checkC l stops low high = ((i : Int), errAt l stops low high i) := by
        rw [checkC, if_neg (by omega), firstBad_at h3 hz hi]
      simp -implicitDefEqProofs (disch := omega) only [go_sem, Nat.reduceAdd, Nat.reduceMul, Nat.reduceSub, Nat.reduceBEq, Nat.reduceLeDiff, Nat.reduceLT, fn_call_Check, e12_1, w12_1, e12_3, w12_3, c12_4, e12_6, w12_6, e12_8, w12_8, e12_10, w12_10, c12_11, e12_13, w12_13, e12_15, w12_15, e12_17, w12_17, c12_18, e12_20, w12_20, c12_21, c12_22, c12_23, e12_25, w12_25, c12_26, c12_27, c12_28, c12_29, c12_30, c12_31, e12_33, w12_33, c12_34, c12_35, c12_36, c12_37, pairV, e]
  · rintro vs M ⟨hz, rfl, rfl⟩
    have e : checkC l stops low high = (0, 0) := by
      rw [checkC, if_neg (by omega), firstBad_none _ hz]
    simp -implicitDefEqProofs (disch := omega) only [go_sem, Nat.reduceAdd, Nat.reduceMul, Nat.reduceSub, Nat.reduceBEq, Nat.reduceLeDiff, Nat.reduceLT, fn_call_Check, e12_1, w12_1, e12_3, w12_3, c12_4, e12_6, w12_6, e12_8, w12_8, e12_10, w12_10, c12_11, e12_13, w12_13, e12_15, w12_15, e12_17, w12_17, c12_18, e12_20, w12_20, c12_21, c12_22, c12_23, e12_25, w12_25, c12_26, c12_27, c12_28, c12_29, c12_30, c12_31, e12_33, w12_33, c12_34, c12_35, c12_36, c12_37, dec_irrefl, pairV, e]

theorem ref16_Check_ok (l : List Stay) (c : Cap) (stops low high : Int) (hlen : l.length ≤ 1000) : PCalls PR i_transitref16_Check [.slice (l.map Stay.row) c, .int .i64 stops, .int .i64 low, .int .i64 high] (fun v => v = pairV (checkC l stops low high)) := by
  refine acalls_pop fn_transitref16_Check_ok (by simp [fn_transitref16_Check]) ?_
  simp -implicitDefEqProofs (disch := omega) only [go_sem, Nat.reduceAdd, Nat.reduceMul, Nat.reduceSub, Nat.reduceBEq, Nat.reduceLeDiff, Nat.reduceLT, fn_transitref16_Check, e13_1, w13_1, e13_3, w13_3, c13_4, e13_6, w13_6, e13_8, w13_8, e13_10, w13_10, e13_12, w13_12, e13_14, w13_14, c13_15, e13_17, w13_17, e13_19, w13_19, c13_20, e13_22, w13_22, e13_24, w13_24, c13_25, e13_27, w13_27, c13_28, c13_29, c13_30, c13_31, e13_33, w13_33, c13_34, c13_35, c13_36, c13_37, c13_38, e13_40, w13_40, c13_41, c13_42, c13_43, c13_44]
  refine ifD (fun h1 => ?_) (fun h1 => ?_)
  · have e : checkC l stops low high = (0, 5) := by rw [checkC, if_pos (by omega)]
    simp -implicitDefEqProofs (disch := omega) only [go_sem, Nat.reduceAdd, Nat.reduceMul, Nat.reduceSub, Nat.reduceBEq, Nat.reduceLeDiff, Nat.reduceLT, fn_transitref16_Check, e13_1, w13_1, e13_3, w13_3, c13_4, e13_6, w13_6, e13_8, w13_8, e13_10, w13_10, e13_12, w13_12, e13_14, w13_14, c13_15, e13_17, w13_17, e13_19, w13_19, c13_20, e13_22, w13_22, e13_24, w13_24, c13_25, e13_27, w13_27, c13_28, c13_29, c13_30, c13_31, e13_33, w13_33, c13_34, c13_35, c13_36, c13_37, c13_38, e13_40, w13_40, c13_41, c13_42, c13_43, c13_44, pairV, e]
  simp -implicitDefEqProofs (disch := omega) only [go_sem, Nat.reduceAdd, Nat.reduceMul, Nat.reduceSub, Nat.reduceBEq, Nat.reduceLeDiff, Nat.reduceLT, fn_transitref16_Check, e13_1, w13_1, e13_3, w13_3, c13_4, e13_6, w13_6, e13_8, w13_8, e13_10, w13_10, e13_12, w13_12, e13_14, w13_14, c13_15, e13_17, w13_17, e13_19, w13_19, c13_20, e13_22, w13_22, e13_24, w13_24, c13_25, e13_27, w13_27, c13_28, c13_29, c13_30, c13_31, e13_33, w13_33, c13_34, c13_35, c13_36, c13_37, c13_38, e13_40, w13_40, c13_41, c13_42, c13_43, c13_44]
  refine ifD (fun h2 => ?_) (fun h2 => ?_)
  · have e : checkC l stops low high = (0, 5) := by rw [checkC, if_pos (by omega)]
    simp -implicitDefEqProofs (disch := omega) only [go_sem, Nat.reduceAdd, Nat.reduceMul, Nat.reduceSub, Nat.reduceBEq, Nat.reduceLeDiff, Nat.reduceLT, fn_transitref16_Check, e13_1, w13_1, e13_3, w13_3, c13_4, e13_6, w13_6, e13_8, w13_8, e13_10, w13_10, e13_12, w13_12, e13_14, w13_14, c13_15, e13_17, w13_17, e13_19, w13_19, c13_20, e13_22, w13_22, e13_24, w13_24, c13_25, e13_27, w13_27, c13_28, c13_29, c13_30, c13_31, e13_33, w13_33, c13_34, c13_35, c13_36, c13_37, c13_38, e13_40, w13_40, c13_41, c13_42, c13_43, c13_44, pairV, e]
  simp -implicitDefEqProofs (disch := omega) only [go_sem, Nat.reduceAdd, Nat.reduceMul, Nat.reduceSub, Nat.reduceBEq, Nat.reduceLeDiff, Nat.reduceLT, fn_transitref16_Check, e13_1, w13_1, e13_3, w13_3, c13_4, e13_6, w13_6, e13_8, w13_8, e13_10, w13_10, e13_12, w13_12, e13_14, w13_14, c13_15, e13_17, w13_17, e13_19, w13_19, c13_20, e13_22, w13_22, e13_24, w13_24, c13_25, e13_27, w13_27, c13_28, c13_29, c13_30, c13_31, e13_33, w13_33, c13_34, c13_35, c13_36, c13_37, c13_38, e13_40, w13_40, c13_41, c13_42, c13_43, c13_44]
  refine wpC_forL l (fun i vs M => (∀ j, j < i → errAt l stops low high j = 0) ∧ vs = [.slice (l.map Stay.row) c, .int .i64 stops, .int .i64 low, .int .i64 high, .int .i64 i] ∧ M = []) ⟨fun j hj => absurd hj (Nat.not_lt_zero j), rfl, rfl⟩ ?_ ?_
  rotate_left
  · rintro vs M ⟨hz, rfl, rfl⟩
    have e : checkC l stops low high = (0, 0) := by
      rw [checkC, if_neg (by omega), firstBad_none _ hz]
    simp -implicitDefEqProofs (disch := omega) only [go_sem, Nat.reduceAdd, Nat.reduceMul, Nat.reduceSub, Nat.reduceBEq, Nat.reduceLeDiff, Nat.reduceLT, fn_transitref16_Check, e13_1, w13_1, e13_3, w13_3, c13_4, e13_6, w13_6, e13_8, w13_8, e13_10, w13_10, e13_12, w13_12, e13_14, w13_14, c13_15, e13_17, w13_17, e13_19, w13_19, c13_20, e13_22, w13_22, e13_24, w13_24, c13_25, e13_27, w13_27, c13_28, c13_29, c13_30, c13_31, e13_33, w13_33, c13_34, c13_35, c13_36, c13_37, c13_38, e13_40, w13_40, c13_41, c13_42, c13_43, c13_44, dec_irrefl, pairV, e]
  rintro i a vs M ha hi hd ⟨hz, rfl, rfl⟩
  obtain ⟨b, hb⟩ : ∃ b, l[i - 1]? = some b := ⟨l[i - 1], by simp⟩
  have he : errAt l stops low high i = oneErr a b i stops low high := by simp only [errAt, ha, hb]
  have bad : ∀ n : Int, n ≠ 0 → oneErr a b i stops low high = n → checkC l stops low high = ((i : Int), n) := by
    intro n h0 h3
    rw [checkC, if_neg (by omega), firstBad_at (by rw [he, h3]; exact h0) hz hi]
    simp only [he, h3]
  have good : oneErr a b i stops low high = 0 → ∀ j, j < i + 1 → errAt l stops low high j = 0 := by
    intro h3 j hj
    rcases Nat.lt_or_ge j i with h4 | h4
    · exact hz j h4
    · have : j = i := by omega
      subst this; rw [he, h3]
  simp -implicitDefEqProofs (disch := omega) only [go_sem, Nat.reduceAdd, Nat.reduceMul, Nat.reduceSub, Nat.reduceBEq, Nat.reduceLeDiff, Nat.reduceLT, fn_transitref16_Check, e13_1, w13_1, e13_3, w13_3, c13_4, e13_6, w13_6, e13_8, w13_8, e13_10, w13_10, e13_12, w13_12, e13_14, w13_14, c13_15, e13_17, w13_17, e13_19, w13_19, c13_20, e13_22, w13_22, e13_24, w13_24, c13_25, e13_27, w13_27, c13_28, c13_29, c13_30, c13_31, e13_33, w13_33, c13_34, c13_35, c13_36, c13_37, c13_38, e13_40, w13_40, c13_41, c13_42, c13_43, c13_44, hd, ha, Stay.row]
  refine ifD (fun h1 => ?_) (fun h1 => ?_)
  · have e := bad 9 (by omega) (by rw [oneErr, if_pos (.inl h1)])
    simp -implicitDefEqProofs (disch := omega) only [go_sem, Nat.reduceAdd, Nat.reduceMul, Nat.reduceSub, Nat.reduceBEq, Nat.reduceLeDiff, Nat.reduceLT, fn_transitref16_Check, e13_1, w13_1, e13_3, w13_3, c13_4, e13_6, w13_6, e13_8, w13_8, e13_10, w13_10, e13_12, w13_12, e13_14, w13_14, c13_15, e13_17, w13_17, e13_19, w13_19, c13_20, e13_22, w13_22, e13_24, w13_24, c13_25, e13_27, w13_27, c13_28, c13_29, c13_30, c13_31, e13_33, w13_33, c13_34, c13_35, c13_36, c13_37, c13_38, e13_40, w13_40, c13_41, c13_42, c13_43, c13_44, pairV, e]
  simp -implicitDefEqProofs (disch := omega) only [go_sem, Nat.reduceAdd, Nat.reduceMul, Nat.reduceSub, Nat.reduceBEq, Nat.reduceLeDiff, Nat.reduceLT, fn_transitref16_Check, e13_1, w13_1, e13_3, w13_3, c13_4, e13_6, w13_6, e13_8, w13_8, e13_10, w13_10, e13_12, w13_12, e13_14, w13_14, c13_15, e13_17, w13_17, e13_19, w13_19, c13_20, e13_22, w13_22, e13_24, w13_24, c13_25, e13_27, w13_27, c13_28, c13_29, c13_30, c13_31, e13_33, w13_33, c13_34, c13_35, c13_36, c13_37, c13_38, e13_40, w13_40, c13_41, c13_42, c13_43, c13_44]
  refine ifD (fun h2 => ?_) (fun h2 => ?_)
  · have e := bad 9 (by omega) (by rw [oneErr, if_pos (.inr h2)])
    simp -implicitDefEqProofs (disch := omega) only [go_sem, Nat.reduceAdd, Nat.reduceMul, Nat.reduceSub, Nat.reduceBEq, Nat.reduceLeDiff, Nat.reduceLT, fn_transitref16_Check, e13_1, w13_1, e13_3, w13_3, c13_4, e13_6, w13_6, e13_8, w13_8, e13_10, w13_10, e13_12, w13_12, e13_14, w13_14, c13_15, e13_17, w13_17, e13_19, w13_19, c13_20, e13_22, w13_22, e13_24, w13_24, c13_25, e13_27, w13_27, c13_28, c13_29, c13_30, c13_31, e13_33, w13_33, c13_34, c13_35, c13_36, c13_37, c13_38, e13_40, w13_40, c13_41, c13_42, c13_43, c13_44, pairV, e]
  have e1 : oneErr a b i stops low high = if 0 < i ∧ b.stop = a.stop then 13 else if a.arrive < low ∨ a.depart < a.arrive ∨ high < a.depart ∨ (0 < i ∧ a.arrive < b.depart) then 10 else 0 := by rw [oneErr, if_neg (by omega)]
  simp -implicitDefEqProofs (disch := omega) only [go_sem, Nat.reduceAdd, Nat.reduceMul, Nat.reduceSub, Nat.reduceBEq, Nat.reduceLeDiff, Nat.reduceLT, fn_transitref16_Check, e13_1, w13_1, e13_3, w13_3, c13_4, e13_6, w13_6, e13_8, w13_8, e13_10, w13_10, e13_12, w13_12, e13_14, w13_14, c13_15, e13_17, w13_17, e13_19, w13_19, c13_20, e13_22, w13_22, e13_24, w13_24, c13_25, e13_27, w13_27, c13_28, c13_29, c13_30, c13_31, e13_33, w13_33, c13_34, c13_35, c13_36, c13_37, c13_38, e13_40, w13_40, c13_41, c13_42, c13_43, c13_44]
  refine ifD (fun h3 => ?_) (fun h3 => ?_)
  · simp -implicitDefEqProofs (disch := omega) only [go_sem, Nat.reduceAdd, Nat.reduceMul, Nat.reduceSub, Nat.reduceBEq, Nat.reduceLeDiff, Nat.reduceLT, fn_transitref16_Check, e13_1, w13_1, e13_3, w13_3, c13_4, e13_6, w13_6, e13_8, w13_8, e13_10, w13_10, e13_12, w13_12, e13_14, w13_14, c13_15, e13_17, w13_17, e13_19, w13_19, c13_20, e13_22, w13_22, e13_24, w13_24, c13_25, e13_27, w13_27, c13_28, c13_29, c13_30, c13_31, e13_33, w13_33, c13_34, c13_35, c13_36, c13_37, c13_38, e13_40, w13_40, c13_41, c13_42, c13_43, c13_44, hb, Stay.row]
    refine ifD (fun h4 => ?_) (fun h4 => ?_)
    · have e := bad 13 (by omega) (by rw [e1, if_pos ⟨by omega, h4⟩])
      simp -implicitDefEqProofs (disch := omega) only [go_sem, Nat.reduceAdd, Nat.reduceMul, Nat.reduceSub, Nat.reduceBEq, Nat.reduceLeDiff, Nat.reduceLT, fn_transitref16_Check, e13_1, w13_1, e13_3, w13_3, c13_4, e13_6, w13_6, e13_8, w13_8, e13_10, w13_10, e13_12, w13_12, e13_14, w13_14, c13_15, e13_17, w13_17, e13_19, w13_19, c13_20, e13_22, w13_22, e13_24, w13_24, c13_25, e13_27, w13_27, c13_28, c13_29, c13_30, c13_31, e13_33, w13_33, c13_34, c13_35, c13_36, c13_37, c13_38, e13_40, w13_40, c13_41, c13_42, c13_43, c13_44, pairV, e]
    have e2 : oneErr a b i stops low high = if a.arrive < low ∨ a.depart < a.arrive ∨ high < a.depart ∨ (0 < i ∧ a.arrive < b.depart) then 10 else 0 := by rw [e1, if_neg (fun h => h4 h.2)]
    simp -implicitDefEqProofs (disch := omega) only [go_sem, Nat.reduceAdd, Nat.reduceMul, Nat.reduceSub, Nat.reduceBEq, Nat.reduceLeDiff, Nat.reduceLT, fn_transitref16_Check, e13_1, w13_1, e13_3, w13_3, c13_4, e13_6, w13_6, e13_8, w13_8, e13_10, w13_10, e13_12, w13_12, e13_14, w13_14, c13_15, e13_17, w13_17, e13_19, w13_19, c13_20, e13_22, w13_22, e13_24, w13_24, c13_25, e13_27, w13_27, c13_28, c13_29, c13_30, c13_31, e13_33, w13_33, c13_34, c13_35, c13_36, c13_37, c13_38, e13_40, w13_40, c13_41, c13_42, c13_43, c13_44]
    refine ifD (fun h5 => ?_) (fun h5 => ?_)
    · have e := bad 10 (by omega) (by rw [e2, if_pos (by omega)])
      simp -implicitDefEqProofs (disch := omega) only [go_sem, Nat.reduceAdd, Nat.reduceMul, Nat.reduceSub, Nat.reduceBEq, Nat.reduceLeDiff, Nat.reduceLT, fn_transitref16_Check, e13_1, w13_1, e13_3, w13_3, c13_4, e13_6, w13_6, e13_8, w13_8, e13_10, w13_10, e13_12, w13_12, e13_14, w13_14, c13_15, e13_17, w13_17, e13_19, w13_19, c13_20, e13_22, w13_22, e13_24, w13_24, c13_25, e13_27, w13_27, c13_28, c13_29, c13_30, c13_31, e13_33, w13_33, c13_34, c13_35, c13_36, c13_37, c13_38, e13_40, w13_40, c13_41, c13_42, c13_43, c13_44, pairV, e]
    simp -implicitDefEqProofs (disch := omega) only [go_sem, Nat.reduceAdd, Nat.reduceMul, Nat.reduceSub, Nat.reduceBEq, Nat.reduceLeDiff, Nat.reduceLT, fn_transitref16_Check, e13_1, w13_1, e13_3, w13_3, c13_4, e13_6, w13_6, e13_8, w13_8, e13_10, w13_10, e13_12, w13_12, e13_14, w13_14, c13_15, e13_17, w13_17, e13_19, w13_19, c13_20, e13_22, w13_22, e13_24, w13_24, c13_25, e13_27, w13_27, c13_28, c13_29, c13_30, c13_31, e13_33, w13_33, c13_34, c13_35, c13_36, c13_37, c13_38, e13_40, w13_40, c13_41, c13_42, c13_43, c13_44]
    refine ifD (fun h6 => ?_) (fun h6 => ?_)
    · have e := bad 10 (by omega) (by rw [e2, if_pos (by omega)])
      simp -implicitDefEqProofs (disch := omega) only [go_sem, Nat.reduceAdd, Nat.reduceMul, Nat.reduceSub, Nat.reduceBEq, Nat.reduceLeDiff, Nat.reduceLT, fn_transitref16_Check, e13_1, w13_1, e13_3, w13_3, c13_4, e13_6, w13_6, e13_8, w13_8, e13_10, w13_10, e13_12, w13_12, e13_14, w13_14, c13_15, e13_17, w13_17, e13_19, w13_19, c13_20, e13_22, w13_22, e13_24, w13_24, c13_25, e13_27, w13_27, c13_28, c13_29, c13_30, c13_31, e13_33, w13_33, c13_34, c13_35, c13_36, c13_37, c13_38, e13_40, w13_40, c13_41, c13_42, c13_43, c13_44, pairV, e]
    simp -implicitDefEqProofs (disch := omega) only [go_sem, Nat.reduceAdd, Nat.reduceMul, Nat.reduceSub, Nat.reduceBEq, Nat.reduceLeDiff, Nat.reduceLT, fn_transitref16_Check, e13_1, w13_1, e13_3, w13_3, c13_4, e13_6, w13_6, e13_8, w13_8, e13_10, w13_10, e13_12, w13_12, e13_14, w13_14, c13_15, e13_17, w13_17, e13_19, w13_19, c13_20, e13_22, w13_22, e13_24, w13_24, c13_25, e13_27, w13_27, c13_28, c13_29, c13_30, c13_31, e13_33, w13_33, c13_34, c13_35, c13_36, c13_37, c13_38, e13_40, w13_40, c13_41, c13_42, c13_43, c13_44]
    refine ifD (fun h7 => ?_) (fun h7 => ?_)
    · have e := bad 10 (by omega) (by rw [e2, if_pos (by omega)])
      simp -implicitDefEqProofs (disch := omega) only [go_sem, Nat.reduceAdd, Nat.reduceMul, Nat.reduceSub, Nat.reduceBEq, Nat.reduceLeDiff, Nat.reduceLT, fn_transitref16_Check, e13_1, w13_1, e13_3, w13_3, c13_4, e13_6, w13_6, e13_8, w13_8, e13_10, w13_10, e13_12, w13_12, e13_14, w13_14, c13_15, e13_17, w13_17, e13_19, w13_19, c13_20, e13_22, w13_22, e13_24, w13_24, c13_25, e13_27, w13_27, c13_28, c13_29, c13_30, c13_31, e13_33, w13_33, c13_34, c13_35, c13_36, c13_37, c13_38, e13_40, w13_40, c13_41, c13_42, c13_43, c13_44, pairV, e]
    simp -implicitDefEqProofs (disch := omega) only [go_sem, Nat.reduceAdd, Nat.reduceMul, Nat.reduceSub, Nat.reduceBEq, Nat.reduceLeDiff, Nat.reduceLT, fn_transitref16_Check, e13_1, w13_1, e13_3, w13_3, c13_4, e13_6, w13_6, e13_8, w13_8, e13_10, w13_10, e13_12, w13_12, e13_14, w13_14, c13_15, e13_17, w13_17, e13_19, w13_19, c13_20, e13_22, w13_22, e13_24, w13_24, c13_25, e13_27, w13_27, c13_28, c13_29, c13_30, c13_31, e13_33, w13_33, c13_34, c13_35, c13_36, c13_37, c13_38, e13_40, w13_40, c13_41, c13_42, c13_43, c13_44]
    refine ifD (fun h8 => ?_) (fun h8 => ?_)
    rotate_left
    · omega
    simp -implicitDefEqProofs (disch := omega) only [go_sem, Nat.reduceAdd, Nat.reduceMul, Nat.reduceSub, Nat.reduceBEq, Nat.reduceLeDiff, Nat.reduceLT, fn_transitref16_Check, e13_1, w13_1, e13_3, w13_3, c13_4, e13_6, w13_6, e13_8, w13_8, e13_10, w13_10, e13_12, w13_12, e13_14, w13_14, c13_15, e13_17, w13_17, e13_19, w13_19, c13_20, e13_22, w13_22, e13_24, w13_24, c13_25, e13_27, w13_27, c13_28, c13_29, c13_30, c13_31, e13_33, w13_33, c13_34, c13_35, c13_36, c13_37, c13_38, e13_40, w13_40, c13_41, c13_42, c13_43, c13_44, hb, Stay.row]
    refine ifD (fun h9 => ?_) (fun h9 => ?_)
    · have e := bad 10 (by omega) (by rw [e2, if_pos (by omega)])
      simp -implicitDefEqProofs (disch := omega) only [go_sem, Nat.reduceAdd, Nat.reduceMul, Nat.reduceSub, Nat.reduceBEq, Nat.reduceLeDiff, Nat.reduceLT, fn_transitref16_Check, e13_1, w13_1, e13_3, w13_3, c13_4, e13_6, w13_6, e13_8, w13_8, e13_10, w13_10, e13_12, w13_12, e13_14, w13_14, c13_15, e13_17, w13_17, e13_19, w13_19, c13_20, e13_22, w13_22, e13_24, w13_24, c13_25, e13_27, w13_27, c13_28, c13_29, c13_30, c13_31, e13_33, w13_33, c13_34, c13_35, c13_36, c13_37, c13_38, e13_40, w13_40, c13_41, c13_42, c13_43, c13_44, pairV, e]
    · simp -implicitDefEqProofs (disch := omega) only [go_sem, Nat.reduceAdd, Nat.reduceMul, Nat.reduceSub, Nat.reduceBEq, Nat.reduceLeDiff, Nat.reduceLT, fn_transitref16_Check, e13_1, w13_1, e13_3, w13_3, c13_4, e13_6, w13_6, e13_8, w13_8, e13_10, w13_10, e13_12, w13_12, e13_14, w13_14, c13_15, e13_17, w13_17, e13_19, w13_19, c13_20, e13_22, w13_22, e13_24, w13_24, c13_25, e13_27, w13_27, c13_28, c13_29, c13_30, c13_31, e13_33, w13_33, c13_34, c13_35, c13_36, c13_37, c13_38, e13_40, w13_40, c13_41, c13_42, c13_43, c13_44]
      refine next_pop hi rfl ⟨good (by rw [e2, if_neg (by omega)]), ?_, rfl⟩
      simp only [vals, sget]; rfl
  · have e2 : oneErr a b i stops low high = if a.arrive < low ∨ a.depart < a.arrive ∨ high < a.depart ∨ (0 < i ∧ a.arrive < b.depart) then 10 else 0 := by rw [e1, if_neg (by omega)]
    simp -implicitDefEqProofs (disch := omega) only [go_sem, Nat.reduceAdd, Nat.reduceMul, Nat.reduceSub, Nat.reduceBEq, Nat.reduceLeDiff, Nat.reduceLT, fn_transitref16_Check, e13_1, w13_1, e13_3, w13_3, c13_4, e13_6, w13_6, e13_8, w13_8, e13_10, w13_10, e13_12, w13_12, e13_14, w13_14, c13_15, e13_17, w13_17, e13_19, w13_19, c13_20, e13_22, w13_22, e13_24, w13_24, c13_25, e13_27, w13_27, c13_28, c13_29, c13_30, c13_31, e13_33, w13_33, c13_34, c13_35, c13_36, c13_37, c13_38, e13_40, w13_40, c13_41, c13_42, c13_43, c13_44]
    refine ifD (fun h5 => ?_) (fun h5 => ?_)
    · have e := bad 10 (by omega) (by rw [e2, if_pos (by omega)])
      simp -implicitDefEqProofs (disch := omega) only [go_sem, Nat.reduceAdd, Nat.reduceMul, Nat.reduceSub, Nat.reduceBEq, Nat.reduceLeDiff, Nat.reduceLT, fn_transitref16_Check, e13_1, w13_1, e13_3, w13_3, c13_4, e13_6, w13_6, e13_8, w13_8, e13_10, w13_10, e13_12, w13_12, e13_14, w13_14, c13_15, e13_17, w13_17, e13_19, w13_19, c13_20, e13_22, w13_22, e13_24, w13_24, c13_25, e13_27, w13_27, c13_28, c13_29, c13_30, c13_31, e13_33, w13_33, c13_34, c13_35, c13_36, c13_37, c13_38, e13_40, w13_40, c13_41, c13_42, c13_43, c13_44, pairV, e]
    simp -implicitDefEqProofs (disch := omega) only [go_sem, Nat.reduceAdd, Nat.reduceMul, Nat.reduceSub, Nat.reduceBEq, Nat.reduceLeDiff, Nat.reduceLT, fn_transitref16_Check, e13_1, w13_1, e13_3, w13_3, c13_4, e13_6, w13_6, e13_8, w13_8, e13_10, w13_10, e13_12, w13_12, e13_14, w13_14, c13_15, e13_17, w13_17, e13_19, w13_19, c13_20, e13_22, w13_22, e13_24, w13_24, c13_25, e13_27, w13_27, c13_28, c13_29, c13_30, c13_31, e13_33, w13_33, c13_34, c13_35, c13_36, c13_37, c13_38, e13_40, w13_40, c13_41, c13_42, c13_43, c13_44]
    refine ifD (fun h6 => ?_) (fun h6 => ?_)
    · have e := bad 10 (by omega) (by rw [e2, if_pos (by omega)])
      simp -implicitDefEqProofs (disch := omega) only [go_sem, Nat.reduceAdd, Nat.reduceMul, Nat.reduceSub, Nat.reduceBEq, Nat.reduceLeDiff, Nat.reduceLT, fn_transitref16_Check, e13_1, w13_1, e13_3, w13_3, c13_4, e13_6, w13_6, e13_8, w13_8, e13_10, w13_10, e13_12, w13_12, e13_14, w13_14, c13_15, e13_17, w13_17, e13_19, w13_19, c13_20, e13_22, w13_22, e13_24, w13_24, c13_25, e13_27, w13_27, c13_28, c13_29, c13_30, c13_31, e13_33, w13_33, c13_34, c13_35, c13_36, c13_37, c13_38, e13_40, w13_40, c13_41, c13_42, c13_43, c13_44, pairV, e]
    simp -implicitDefEqProofs (disch := omega) only [go_sem, Nat.reduceAdd, Nat.reduceMul, Nat.reduceSub, Nat.reduceBEq, Nat.reduceLeDiff, Nat.reduceLT, fn_transitref16_Check, e13_1, w13_1, e13_3, w13_3, c13_4, e13_6, w13_6, e13_8, w13_8, e13_10, w13_10, e13_12, w13_12, e13_14, w13_14, c13_15, e13_17, w13_17, e13_19, w13_19, c13_20, e13_22, w13_22, e13_24, w13_24, c13_25, e13_27, w13_27, c13_28, c13_29, c13_30, c13_31, e13_33, w13_33, c13_34, c13_35, c13_36, c13_37, c13_38, e13_40, w13_40, c13_41, c13_42, c13_43, c13_44]
    refine ifD (fun h7 => ?_) (fun h7 => ?_)
    · have e := bad 10 (by omega) (by rw [e2, if_pos (by omega)])
      simp -implicitDefEqProofs (disch := omega) only [go_sem, Nat.reduceAdd, Nat.reduceMul, Nat.reduceSub, Nat.reduceBEq, Nat.reduceLeDiff, Nat.reduceLT, fn_transitref16_Check, e13_1, w13_1, e13_3, w13_3, c13_4, e13_6, w13_6, e13_8, w13_8, e13_10, w13_10, e13_12, w13_12, e13_14, w13_14, c13_15, e13_17, w13_17, e13_19, w13_19, c13_20, e13_22, w13_22, e13_24, w13_24, c13_25, e13_27, w13_27, c13_28, c13_29, c13_30, c13_31, e13_33, w13_33, c13_34, c13_35, c13_36, c13_37, c13_38, e13_40, w13_40, c13_41, c13_42, c13_43, c13_44, pairV, e]
    simp -implicitDefEqProofs (disch := omega) only [go_sem, Nat.reduceAdd, Nat.reduceMul, Nat.reduceSub, Nat.reduceBEq, Nat.reduceLeDiff, Nat.reduceLT, fn_transitref16_Check, e13_1, w13_1, e13_3, w13_3, c13_4, e13_6, w13_6, e13_8, w13_8, e13_10, w13_10, e13_12, w13_12, e13_14, w13_14, c13_15, e13_17, w13_17, e13_19, w13_19, c13_20, e13_22, w13_22, e13_24, w13_24, c13_25, e13_27, w13_27, c13_28, c13_29, c13_30, c13_31, e13_33, w13_33, c13_34, c13_35, c13_36, c13_37, c13_38, e13_40, w13_40, c13_41, c13_42, c13_43, c13_44]
    refine ifD (fun h8 => ?_) (fun h8 => ?_)
    · omega
    simp -implicitDefEqProofs (disch := omega) only [go_sem, Nat.reduceAdd, Nat.reduceMul, Nat.reduceSub, Nat.reduceBEq, Nat.reduceLeDiff, Nat.reduceLT, fn_transitref16_Check, e13_1, w13_1, e13_3, w13_3, c13_4, e13_6, w13_6, e13_8, w13_8, e13_10, w13_10, e13_12, w13_12, e13_14, w13_14, c13_15, e13_17, w13_17, e13_19, w13_19, c13_20, e13_22, w13_22, e13_24, w13_24, c13_25, e13_27, w13_27, c13_28, c13_29, c13_30, c13_31, e13_33, w13_33, c13_34, c13_35, c13_36, c13_37, c13_38, e13_40, w13_40, c13_41, c13_42, c13_43, c13_44]
    refine next_pop hi rfl ⟨good (by rw [e2, if_neg (by omega)]), ?_, rfl⟩
    simp only [vals, sget]; rfl

end Go.Vm.C

