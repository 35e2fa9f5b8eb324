/- Contracts: identifiers, calls, what a message's kind uses. -/
import Derived.Test.YtmbeokppfdalfaaT2

namespace Go.Vm.C
open Go.Vm
set_option maxHeartbeats 1000000
set_option maxRecDepth 10000
set_option linter.unusedSimpArgs false
set_option linter.unusedVariables false

/-! ### Numbers and identifiers -/
def within (n low high : Int) : Bool := decide (low ≤ n) && decide (n ≤ high)

/-- A character of an identifier. -/
def letter (c : UInt8) : Bool :=
  (decide (97 ≤ c.toNat) && decide (c.toNat ≤ 122)) || (decide (65 ≤ c.toNat) && decide (c.toNat ≤ 90)) || (decide (48 ≤ c.toNat) && decide (c.toNat ≤ 57))
def mark (c : UInt8) : Bool := decide (c.toNat = 45) || decide (c.toNat = 95) || decide (c.toNat = 46)
def okChar (c : UInt8) : Bool := letter c || mark c
def okName (s : List UInt8) : Bool := s.all okChar && decide (0 < s.length) && decide (s.length ≤ 32)

theorem all_take_succ {s : List UInt8} {i : Nat} {c : UInt8} (h : s[i]? = some c) (p : UInt8 → Bool) : (s.take (i + 1)).all p = ((s.take i).all p && p c) := by
  rw [List.take_add_one, h]
  simp [List.all_append]

theorem all_false {s : List UInt8} {i : Nat} {c : UInt8} (h : s[i]? = some c) {p : UInt8 → Bool} (hp : p c = false) : s.all p = false := by
  rw [List.all_eq_false]
  exact ⟨c, List.mem_of_getElem? h, by simp [hp]⟩

theorem okChar_iff (c : UInt8) : okChar c = true ↔ (97 ≤ c.toNat ∧ c.toNat ≤ 122) ∨ (65 ≤ c.toNat ∧ c.toNat ≤ 90) ∨ (48 ≤ c.toNat ∧ c.toNat ≤ 57) ∨ c.toNat = 45 ∨ c.toNat = 95 ∨ c.toNat = 46 := by
  simp only [okChar, letter, mark, Bool.or_eq_true, Bool.and_eq_true, decide_eq_true_eq]
  omega

theorem okName_false {s : List UInt8} {i : Nat} {c : UInt8} (h : s[i]? = some c) (hc : okChar c = false) : okName s = false := by
  rw [okName, all_false h hc]; rfl
theorem okChar_false (c : UInt8) (h : ¬ ((97 ≤ c.toNat ∧ c.toNat ≤ 122) ∨ (65 ≤ c.toNat ∧ c.toNat ≤ 90) ∨ (48 ≤ c.toNat ∧ c.toNat ≤ 57) ∨ c.toNat = 45 ∨ c.toNat = 95 ∨ c.toNat = 46)) : okChar c = false := by
  rw [← Bool.not_eq_true, okChar_iff]; exact h

theorem ident_Valid_ok (s : List UInt8) (hs : s.length ≤ maxLen) : PCalls PR i_ident_Valid [.str s] (fun v => v = .bool (okName s)) := by
  have hm : maxLen = 9223372036854775807 := by rfl
  refine acalls_pop fn_ident_Valid_ok (by simp [fn_ident_Valid]) ?_
  simp -implicitDefEqProofs (disch := omega) only [go_sem, Nat.reduceAdd, Nat.reduceMul, Nat.reduceSub, Nat.reduceBEq, Nat.reduceLeDiff, Nat.reduceLT, fn_ident_Valid, e61_1, w61_1, e61_3, w61_3, e61_5, w61_5, e61_7, w61_7, e61_9, w61_9, e61_11, w61_11, e61_13, w61_13, e61_15, w61_15, e61_17, w61_17, e61_19, w61_19, e61_21, w61_21, c61_22, c61_23, c61_24, c61_25, c61_26, c61_27, c61_28, c61_29, e61_31, w61_31, c61_32, c61_33, c61_34, c61_35, c61_36, e61_38, w61_38, c61_39, c61_40, c61_41]
  refine wpC_forL s (fun i vs M => (s.take i).all okChar = true ∧ vs = [.str s, .int .i64 i] ∧ M = []) ⟨by simp, rfl, rfl⟩ ?_ ?_
  · rintro i c vs M hc hi hd ⟨hall, rfl, rfl⟩
    simp -implicitDefEqProofs (disch := omega) only [go_sem, Nat.reduceAdd, Nat.reduceMul, Nat.reduceSub, Nat.reduceBEq, Nat.reduceLeDiff, Nat.reduceLT, fn_ident_Valid, e61_1, w61_1, e61_3, w61_3, e61_5, w61_5, e61_7, w61_7, e61_9, w61_9, e61_11, w61_11, e61_13, w61_13, e61_15, w61_15, e61_17, w61_17, e61_19, w61_19, e61_21, w61_21, c61_22, c61_23, c61_24, c61_25, c61_26, c61_27, c61_28, c61_29, e61_31, w61_31, c61_32, c61_33, c61_34, c61_35, c61_36, e61_38, w61_38, c61_39, c61_40, c61_41, open_if, hd, hc]
    repeat' (refine BIf_dec (fun h => ?_) (fun h => ?_))
    all_goals first
      | (refine next_stay hi ⟨?_, rfl, rfl⟩
         rw [all_take_succ hc, hall, (okChar_iff c).2 (by omega)]; rfl)
      | (rw [okName_false hc (okChar_false c (by omega))])
  · rintro vs M ⟨hall, rfl, rfl⟩
    rw [List.take_length] at hall
    simp -implicitDefEqProofs (disch := omega) only [go_sem, Nat.reduceAdd, Nat.reduceMul, Nat.reduceSub, Nat.reduceBEq, Nat.reduceLeDiff, Nat.reduceLT, fn_ident_Valid, e61_1, w61_1, e61_3, w61_3, e61_5, w61_5, e61_7, w61_7, e61_9, w61_9, e61_11, w61_11, e61_13, w61_13, e61_15, w61_15, e61_17, w61_17, e61_19, w61_19, e61_21, w61_21, c61_22, c61_23, c61_24, c61_25, c61_26, c61_27, c61_28, c61_29, e61_31, w61_31, c61_32, c61_33, c61_34, c61_35, c61_36, e61_38, w61_38, c61_39, c61_40, c61_41, dec_irrefl]
    refine ifD (fun h => ?_) (fun h => ?_)
    · have h3 : 0 < s.length := by omega
      simp -implicitDefEqProofs (disch := omega) only [go_sem, Nat.reduceAdd, Nat.reduceMul, Nat.reduceSub, Nat.reduceBEq, Nat.reduceLeDiff, Nat.reduceLT, fn_ident_Valid, e61_1, w61_1, e61_3, w61_3, e61_5, w61_5, e61_7, w61_7, e61_9, w61_9, e61_11, w61_11, e61_13, w61_13, e61_15, w61_15, e61_17, w61_17, e61_19, w61_19, e61_21, w61_21, c61_22, c61_23, c61_24, c61_25, c61_26, c61_27, c61_28, c61_29, e61_31, w61_31, c61_32, c61_33, c61_34, c61_35, c61_36, e61_38, w61_38, c61_39, c61_40, c61_41, okName, hall, h3]
      exact decide_eq_decide.2 (by omega)
    · have h3 : ¬ 0 < s.length := by omega
      simp -implicitDefEqProofs (disch := omega) only [go_sem, Nat.reduceAdd, Nat.reduceMul, Nat.reduceSub, Nat.reduceBEq, Nat.reduceLeDiff, Nat.reduceLT, fn_ident_Valid, e61_1, w61_1, e61_3, w61_3, e61_5, w61_5, e61_7, w61_7, e61_9, w61_9, e61_11, w61_11, e61_13, w61_13, e61_15, w61_15, e61_17, w61_17, e61_19, w61_19, e61_21, w61_21, c61_22, c61_23, c61_24, c61_25, c61_26, c61_27, c61_28, c61_29, e61_31, w61_31, c61_32, c61_33, c61_34, c61_35, c61_36, e61_38, w61_38, c61_39, c61_40, c61_41]
      simp [okName, h3]

theorem transitref15_Name_ok (s : List UInt8) (hs : s.length ≤ maxLen) : PCalls PR i_transitref15_Name [.str s] (fun v => v = .bool (okName s)) := by
  have hm : maxLen = 9223372036854775807 := by rfl
  refine acalls_pop fn_transitref15_Name_ok (by simp [fn_transitref15_Name]) ?_
  simp -implicitDefEqProofs (disch := omega) only [go_sem, Nat.reduceAdd, Nat.reduceMul, Nat.reduceSub, Nat.reduceBEq, Nat.reduceLeDiff, Nat.reduceLT, fn_transitref15_Name, e56_1, w56_1, e56_3, w56_3, c56_4, e56_6, w56_6, e56_8, w56_8, e56_10, w56_10, e56_12, w56_12, e56_14, w56_14, c56_15, e56_17, w56_17, c56_18, c56_19, e56_21, w56_21, c56_22, c56_23, c56_24, c56_25, c56_26, e56_28, w56_28, c56_29, c56_30, c56_31, c56_32]
  refine ifD (fun h => ?_) (fun h1 => ?_)
  · have : okName s = false := by
      have : ¬ 0 < s.length := by omega
      simp [okName, this]
    simp -implicitDefEqProofs (disch := omega) only [go_sem, Nat.reduceAdd, Nat.reduceMul, Nat.reduceSub, Nat.reduceBEq, Nat.reduceLeDiff, Nat.reduceLT, fn_transitref15_Name, e56_1, w56_1, e56_3, w56_3, c56_4, e56_6, w56_6, e56_8, w56_8, e56_10, w56_10, e56_12, w56_12, e56_14, w56_14, c56_15, e56_17, w56_17, c56_18, c56_19, e56_21, w56_21, c56_22, c56_23, c56_24, c56_25, c56_26, e56_28, w56_28, c56_29, c56_30, c56_31, c56_32, this]
  simp -implicitDefEqProofs (disch := omega) only [go_sem, Nat.reduceAdd, Nat.reduceMul, Nat.reduceSub, Nat.reduceBEq, Nat.reduceLeDiff, Nat.reduceLT, fn_transitref15_Name, e56_1, w56_1, e56_3, w56_3, c56_4, e56_6, w56_6, e56_8, w56_8, e56_10, w56_10, e56_12, w56_12, e56_14, w56_14, c56_15, e56_17, w56_17, c56_18, c56_19, e56_21, w56_21, c56_22, c56_23, c56_24, c56_25, c56_26, e56_28, w56_28, c56_29, c56_30, c56_31, c56_32]
  refine ifD (fun h => ?_) (fun h2 => ?_)
  · have : okName s = false := by
      have : ¬ s.length ≤ 32 := by omega
      simp [okName, this]
    simp -implicitDefEqProofs (disch := omega) only [go_sem, Nat.reduceAdd, Nat.reduceMul, Nat.reduceSub, Nat.reduceBEq, Nat.reduceLeDiff, Nat.reduceLT, fn_transitref15_Name, e56_1, w56_1, e56_3, w56_3, c56_4, e56_6, w56_6, e56_8, w56_8, e56_10, w56_10, e56_12, w56_12, e56_14, w56_14, c56_15, e56_17, w56_17, c56_18, c56_19, e56_21, w56_21, c56_22, c56_23, c56_24, c56_25, c56_26, e56_28, w56_28, c56_29, c56_30, c56_31, c56_32, this]
  simp -implicitDefEqProofs (disch := omega) only [go_sem, Nat.reduceAdd, Nat.reduceMul, Nat.reduceSub, Nat.reduceBEq, Nat.reduceLeDiff, Nat.reduceLT, fn_transitref15_Name, e56_1, w56_1, e56_3, w56_3, c56_4, e56_6, w56_6, e56_8, w56_8, e56_10, w56_10, e56_12, w56_12, e56_14, w56_14, c56_15, e56_17, w56_17, c56_18, c56_19, e56_21, w56_21, c56_22, c56_23, c56_24, c56_25, c56_26, e56_28, w56_28, c56_29, c56_30, c56_31, c56_32]
  refine wpC_forL s (fun i vs M => (s.take i).all okChar = true ∧ vs = [.str s, .int .i64 i] ∧ M = []) ⟨by simp, rfl, rfl⟩ ?_ ?_
  · rintro i c vs M hc hi hd ⟨hall, rfl, rfl⟩
    simp -implicitDefEqProofs (disch := omega) only [go_sem, Nat.reduceAdd, Nat.reduceMul, Nat.reduceSub, Nat.reduceBEq, Nat.reduceLeDiff, Nat.reduceLT, fn_transitref15_Name, e56_1, w56_1, e56_3, w56_3, c56_4, e56_6, w56_6, e56_8, w56_8, e56_10, w56_10, e56_12, w56_12, e56_14, w56_14, c56_15, e56_17, w56_17, c56_18, c56_19, e56_21, w56_21, c56_22, c56_23, c56_24, c56_25, c56_26, e56_28, w56_28, c56_29, c56_30, c56_31, c56_32, open_if, hd, hc]
    repeat' (refine BIf_dec (fun h => ?_) (fun h => ?_))
    all_goals first
      | (refine next_stay hi ⟨?_, rfl, rfl⟩
         rw [all_take_succ hc, hall, (okChar_iff c).2 (by omega)]; rfl)
      | (rw [okName_false hc (okChar_false c (by omega))])
  · rintro vs M ⟨hall, rfl, rfl⟩
    rw [List.take_length] at hall
    simp -implicitDefEqProofs (disch := omega) only [go_sem, Nat.reduceAdd, Nat.reduceMul, Nat.reduceSub, Nat.reduceBEq, Nat.reduceLeDiff, Nat.reduceLT, fn_transitref15_Name, e56_1, w56_1, e56_3, w56_3, c56_4, e56_6, w56_6, e56_8, w56_8, e56_10, w56_10, e56_12, w56_12, e56_14, w56_14, c56_15, e56_17, w56_17, c56_18, c56_19, e56_21, w56_21, c56_22, c56_23, c56_24, c56_25, c56_26, e56_28, w56_28, c56_29, c56_30, c56_31, c56_32, dec_irrefl]
    have h3 : 0 < s.length := by omega
    have h4 : s.length ≤ 32 := by omega
    simp [okName, hall, h3, h4]

/-! ### The check of calls -/
def oneErr (c p : Stay) (i : Nat) (stops low high : Int) : Int :=
  if c.stop < 0 ∨ stops ≤ c.stop then 9 else if 0 < i ∧ p.stop = c.stop then 13 else if c.arrive < low ∨ c.depart < c.arrive ∨ high < c.depart ∨ (0 < i ∧ c.arrive < p.depart) then 10 else 0
def errAt (l : List Stay) (stops low high : Int) (i : Nat) : Int :=
  match l[i]?, l[i - 1]? with
  | some c, some p => oneErr c p i stops low high
  | _, _ => 0
def firstBad (g : Nat → Int) : Nat → Option Nat
  | 0 => none
  | n + 1 => match firstBad g n with
    | some i => some i
    | none => if g n ≠ 0 then some n else none
theorem firstBad_none {g : Nat → Int} : ∀ n, (∀ j, j < n → g j = 0) → firstBad g n = none
  | 0, _ => rfl
  | n + 1, h => by rw [firstBad, firstBad_none n (fun j hj => h j (by omega))]; simp [h n (by omega)]
theorem firstBad_some {g : Nat → Int} {i : Nat} (hi : g i ≠ 0) (hz : ∀ j, j < i → g j = 0) : ∀ m, firstBad g (i + 1 + m) = some i
  | 0 => by rw [Nat.add_zero, firstBad, firstBad_none i hz]; simp [hi]
  | m + 1 => by rw [← Nat.add_assoc, firstBad, firstBad_some hi hz m]
theorem firstBad_at {g : Nat → Int} {i n : Nat} (hi : g i ≠ 0) (hz : ∀ j, j < i → g j = 0) (h : i < n) : firstBad g n = some i := by
  obtain ⟨m, rfl⟩ : ∃ m, n = i + 1 + m := ⟨n - (i + 1), by omega⟩
  exact firstBad_some hi hz m
/-- The first error, and where. -/
def checkC (l : List Stay) (stops low high : Int) : Int × Int :=
  if l.length < 2 ∨ 32 < l.length then (0, 5) else match firstBad (errAt l stops low high) l.length with
  | some i => (i, errAt l stops low high i)
  | none => (0, 0)
def pairV (p : Int × Int) : V := .tuple [.int .i64 p.1, .int .i64 p.2]

theorem call_one_ok (l : List Stay) (c : Cap) (i : Nat) (stops low high : Int) (hi : i < l.length) (hlen : l.length ≤ 1000) : PCalls PR i_call_one [.slice (l.map Stay.row) c, .int .i64 i, .int .i64 stops, .int .i64 low, .int .i64 high] (fun v => v = .int .i64 (errAt l stops low high i)) := by
  obtain ⟨a, ha⟩ : ∃ a, l[i]? = some a := ⟨l[i], by simp⟩
  obtain ⟨b, hb⟩ : ∃ b, l[i - 1]? = some b := ⟨l[i - 1], by simp⟩
  have he : errAt l stops low high i = oneErr a b i stops low high := by simp only [errAt, ha, hb]
  refine acalls_pop fn_call_one_ok (by simp [fn_call_one]) ?_
  simp -implicitDefEqProofs (disch := omega) only [go_sem, Nat.reduceAdd, Nat.reduceMul, Nat.reduceSub, Nat.reduceBEq, Nat.reduceLeDiff, Nat.reduceLT, fn_call_one, e67_1, w67_1, e67_3, w67_3, e67_5, w67_5, c67_6, e67_8, w67_8, e67_10, w67_10, c67_11, e67_13, w67_13, e67_15, w67_15, c67_16, e67_18, w67_18, e67_20, w67_20, c67_21, c67_22, c67_23, c67_24, c67_25, c67_26, ha, Stay.row]
  refine ifD (fun h1 => ?_) (fun h1 => ?_)
  · have e : oneErr a b i stops low high = 9 := by rw [oneErr, if_pos (.inl h1)]
    simp -implicitDefEqProofs (disch := omega) only [go_sem, Nat.reduceAdd, Nat.reduceMul, Nat.reduceSub, Nat.reduceBEq, Nat.reduceLeDiff, Nat.reduceLT, fn_call_one, e67_1, w67_1, e67_3, w67_3, e67_5, w67_5, c67_6, e67_8, w67_8, e67_10, w67_10, c67_11, e67_13, w67_13, e67_15, w67_15, c67_16, e67_18, w67_18, e67_20, w67_20, c67_21, c67_22, c67_23, c67_24, c67_25, c67_26, he, e]
  simp -implicitDefEqProofs (disch := omega) only [go_sem, Nat.reduceAdd, Nat.reduceMul, Nat.reduceSub, Nat.reduceBEq, Nat.reduceLeDiff, Nat.reduceLT, fn_call_one, e67_1, w67_1, e67_3, w67_3, e67_5, w67_5, c67_6, e67_8, w67_8, e67_10, w67_10, c67_11, e67_13, w67_13, e67_15, w67_15, c67_16, e67_18, w67_18, e67_20, w67_20, c67_21, c67_22, c67_23, c67_24, c67_25, c67_26]
  refine ifD (fun h2 => ?_) (fun h2 => ?_)
  · have e : oneErr a b i stops low high = 9 := by rw [oneErr, if_pos (.inr h2)]
    simp -implicitDefEqProofs (disch := omega) only [go_sem, Nat.reduceAdd, Nat.reduceMul, Nat.reduceSub, Nat.reduceBEq, Nat.reduceLeDiff, Nat.reduceLT, fn_call_one, e67_1, w67_1, e67_3, w67_3, e67_5, w67_5, c67_6, e67_8, w67_8, e67_10, w67_10, c67_11, e67_13, w67_13, e67_15, w67_15, c67_16, e67_18, w67_18, e67_20, w67_20, c67_21, c67_22, c67_23, c67_24, c67_25, c67_26, he, e]
  have e1 : oneErr a b i stops low high = if 0 < i ∧ b.stop = a.stop then 13 else if a.arrive < low ∨ a.depart < a.arrive ∨ high < a.depart ∨ (0 < i ∧ a.arrive < b.depart) then 10 else 0 := by rw [oneErr, if_neg (by omega)]
  simp -implicitDefEqProofs (disch := omega) only [go_sem, Nat.reduceAdd, Nat.reduceMul, Nat.reduceSub, Nat.reduceBEq, Nat.reduceLeDiff, Nat.reduceLT, fn_call_one, e67_1, w67_1, e67_3, w67_3, e67_5, w67_5, c67_6, e67_8, w67_8, e67_10, w67_10, c67_11, e67_13, w67_13, e67_15, w67_15, c67_16, e67_18, w67_18, e67_20, w67_20, c67_21, c67_22, c67_23, c67_24, c67_25, c67_26]
  refine ifD (fun h3 => ?_) (fun h3 => ?_)
  · simp -implicitDefEqProofs (disch := omega) only [go_sem, Nat.reduceAdd, Nat.reduceMul, Nat.reduceSub, Nat.reduceBEq, Nat.reduceLeDiff, Nat.reduceLT, fn_call_one, e67_1, w67_1, e67_3, w67_3, e67_5, w67_5, c67_6, e67_8, w67_8, e67_10, w67_10, c67_11, e67_13, w67_13, e67_15, w67_15, c67_16, e67_18, w67_18, e67_20, w67_20, c67_21, c67_22, c67_23, c67_24, c67_25, c67_26, hb, Stay.row]
    refine ifD (fun h4 => ?_) (fun h4 => ?_)
    · have e : oneErr a b i stops low high = 13 := by rw [e1, if_pos ⟨by omega, h4⟩]
      simp -implicitDefEqProofs (disch := omega) only [go_sem, Nat.reduceAdd, Nat.reduceMul, Nat.reduceSub, Nat.reduceBEq, Nat.reduceLeDiff, Nat.reduceLT, fn_call_one, e67_1, w67_1, e67_3, w67_3, e67_5, w67_5, c67_6, e67_8, w67_8, e67_10, w67_10, c67_11, e67_13, w67_13, e67_15, w67_15, c67_16, e67_18, w67_18, e67_20, w67_20, c67_21, c67_22, c67_23, c67_24, c67_25, c67_26, he, e]
    have e2 : oneErr a b i stops low high = if a.arrive < low ∨ a.depart < a.arrive ∨ high < a.depart ∨ (0 < i ∧ a.arrive < b.depart) then 10 else 0 := by rw [e1, if_neg (fun h => h4 h.2)]
    simp -implicitDefEqProofs (disch := omega) only [go_sem, Nat.reduceAdd, Nat.reduceMul, Nat.reduceSub, Nat.reduceBEq, Nat.reduceLeDiff, Nat.reduceLT, fn_call_one, e67_1, w67_1, e67_3, w67_3, e67_5, w67_5, c67_6, e67_8, w67_8, e67_10, w67_10, c67_11, e67_13, w67_13, e67_15, w67_15, c67_16, e67_18, w67_18, e67_20, w67_20, c67_21, c67_22, c67_23, c67_24, c67_25, c67_26]
    refine ifD (fun h5 => ?_) (fun h5 => ?_)
    · have e : oneErr a b i stops low high = 10 := by rw [e2, if_pos (by omega)]
      simp -implicitDefEqProofs (disch := omega) only [go_sem, Nat.reduceAdd, Nat.reduceMul, Nat.reduceSub, Nat.reduceBEq, Nat.reduceLeDiff, Nat.reduceLT, fn_call_one, e67_1, w67_1, e67_3, w67_3, e67_5, w67_5, c67_6, e67_8, w67_8, e67_10, w67_10, c67_11, e67_13, w67_13, e67_15, w67_15, c67_16, e67_18, w67_18, e67_20, w67_20, c67_21, c67_22, c67_23, c67_24, c67_25, c67_26, he, e]
    simp -implicitDefEqProofs (disch := omega) only [go_sem, Nat.reduceAdd, Nat.reduceMul, Nat.reduceSub, Nat.reduceBEq, Nat.reduceLeDiff, Nat.reduceLT, fn_call_one, e67_1, w67_1, e67_3, w67_3, e67_5, w67_5, c67_6, e67_8, w67_8, e67_10, w67_10, c67_11, e67_13, w67_13, e67_15, w67_15, c67_16, e67_18, w67_18, e67_20, w67_20, c67_21, c67_22, c67_23, c67_24, c67_25, c67_26]
    refine ifD (fun h6 => ?_) (fun h6 => ?_)
    · have e : oneErr a b i stops low high = 10 := by rw [e2, if_pos (by omega)]
      simp -implicitDefEqProofs (disch := omega) only [go_sem, Nat.reduceAdd, Nat.reduceMul, Nat.reduceSub, Nat.reduceBEq, Nat.reduceLeDiff, Nat.reduceLT, fn_call_one, e67_1, w67_1, e67_3, w67_3, e67_5, w67_5, c67_6, e67_8, w67_8, e67_10, w67_10, c67_11, e67_13, w67_13, e67_15, w67_15, c67_16, e67_18, w67_18, e67_20, w67_20, c67_21, c67_22, c67_23, c67_24, c67_25, c67_26, he, e]
    simp -implicitDefEqProofs (disch := omega) only [go_sem, Nat.reduceAdd, Nat.reduceMul, Nat.reduceSub, Nat.reduceBEq, Nat.reduceLeDiff, Nat.reduceLT, fn_call_one, e67_1, w67_1, e67_3, w67_3, e67_5, w67_5, c67_6, e67_8, w67_8, e67_10, w67_10, c67_11, e67_13, w67_13, e67_15, w67_15, c67_16, e67_18, w67_18, e67_20, w67_20, c67_21, c67_22, c67_23, c67_24, c67_25, c67_26]
    refine ifD (fun h7 => ?_) (fun h7 => ?_)
    · have e : oneErr a b i stops low high = 10 := by rw [e2, if_pos (by omega)]
      simp -implicitDefEqProofs (disch := omega) only [go_sem, Nat.reduceAdd, Nat.reduceMul, Nat.reduceSub, Nat.reduceBEq, Nat.reduceLeDiff, Nat.reduceLT, fn_call_one, e67_1, w67_1, e67_3, w67_3, e67_5, w67_5, c67_6, e67_8, w67_8, e67_10, w67_10, c67_11, e67_13, w67_13, e67_15, w67_15, c67_16, e67_18, w67_18, e67_20, w67_20, c67_21, c67_22, c67_23, c67_24, c67_25, c67_26, he, e]
    simp -implicitDefEqProofs (disch := omega) only [go_sem, Nat.reduceAdd, Nat.reduceMul, Nat.reduceSub, Nat.reduceBEq, Nat.reduceLeDiff, Nat.reduceLT, fn_call_one, e67_1, w67_1, e67_3, w67_3, e67_5, w67_5, c67_6, e67_8, w67_8, e67_10, w67_10, c67_11, e67_13, w67_13, e67_15, w67_15, c67_16, e67_18, w67_18, e67_20, w67_20, c67_21, c67_22, c67_23, c67_24, c67_25, c67_26]
    refine ifD (fun h8 => ?_) (fun h8 => ?_)
    rotate_left
    · omega
    simp -implicitDefEqProofs (disch := omega) only [go_sem, Nat.reduceAdd, Nat.reduceMul, Nat.reduceSub, Nat.reduceBEq, Nat.reduceLeDiff, Nat.reduceLT, fn_call_one, e67_1, w67_1, e67_3, w67_3, e67_5, w67_5, c67_6, e67_8, w67_8, e67_10, w67_10, c67_11, e67_13, w67_13, e67_15, w67_15, c67_16, e67_18, w67_18, e67_20, w67_20, c67_21, c67_22, c67_23, c67_24, c67_25, c67_26, hb, Stay.row]
    refine ifD (fun h9 => ?_) (fun h9 => ?_)
    · have e : oneErr a b i stops low high = 10 := by rw [e2, if_pos (by omega)]
      simp -implicitDefEqProofs (disch := omega) only [go_sem, Nat.reduceAdd, Nat.reduceMul, Nat.reduceSub, Nat.reduceBEq, Nat.reduceLeDiff, Nat.reduceLT, fn_call_one, e67_1, w67_1, e67_3, w67_3, e67_5, w67_5, c67_6, e67_8, w67_8, e67_10, w67_10, c67_11, e67_13, w67_13, e67_15, w67_15, c67_16, e67_18, w67_18, e67_20, w67_20, c67_21, c67_22, c67_23, c67_24, c67_25, c67_26, he, e]
    · have e : oneErr a b i stops low high = 0 := by rw [e2, if_neg (by omega)]
      simp -implicitDefEqProofs (disch := omega) only [go_sem, Nat.reduceAdd, Nat.reduceMul, Nat.reduceSub, Nat.reduceBEq, Nat.reduceLeDiff, Nat.reduceLT, fn_call_one, e67_1, w67_1, e67_3, w67_3, e67_5, w67_5, c67_6, e67_8, w67_8, e67_10, w67_10, c67_11, e67_13, w67_13, e67_15, w67_15, c67_16, e67_18, w67_18, e67_20, w67_20, c67_21, c67_22, c67_23, c67_24, c67_25, c67_26, he, e]
  · have e2 : oneErr a b i stops low high = if a.arrive < low ∨ a.depart < a.arrive ∨ high < a.depart ∨ (0 < i ∧ a.arrive < b.depart) then 10 else 0 := by rw [e1, if_neg (by omega)]
    simp -implicitDefEqProofs (disch := omega) only [go_sem, Nat.reduceAdd, Nat.reduceMul, Nat.reduceSub, Nat.reduceBEq, Nat.reduceLeDiff, Nat.reduceLT, fn_call_one, e67_1, w67_1, e67_3, w67_3, e67_5, w67_5, c67_6, e67_8, w67_8, e67_10, w67_10, c67_11, e67_13, w67_13, e67_15, w67_15, c67_16, e67_18, w67_18, e67_20, w67_20, c67_21, c67_22, c67_23, c67_24, c67_25, c67_26]
    refine ifD (fun h5 => ?_) (fun h5 => ?_)
    · have e : oneErr a b i stops low high = 10 := by rw [e2, if_pos (by omega)]
      simp -implicitDefEqProofs (disch := omega) only [go_sem, Nat.reduceAdd, Nat.reduceMul, Nat.reduceSub, Nat.reduceBEq, Nat.reduceLeDiff, Nat.reduceLT, fn_call_one, e67_1, w67_1, e67_3, w67_3, e67_5, w67_5, c67_6, e67_8, w67_8, e67_10, w67_10, c67_11, e67_13, w67_13, e67_15, w67_15, c67_16, e67_18, w67_18, e67_20, w67_20, c67_21, c67_22, c67_23, c67_24, c67_25, c67_26, he, e]
    simp -implicitDefEqProofs (disch := omega) only [go_sem, Nat.reduceAdd, Nat.reduceMul, Nat.reduceSub, Nat.reduceBEq, Nat.reduceLeDiff, Nat.reduceLT, fn_call_one, e67_1, w67_1, e67_3, w67_3, e67_5, w67_5, c67_6, e67_8, w67_8, e67_10, w67_10, c67_11, e67_13, w67_13, e67_15, w67_15, c67_16, e67_18, w67_18, e67_20, w67_20, c67_21, c67_22, c67_23, c67_24, c67_25, c67_26]
    refine ifD (fun h6 => ?_) (fun h6 => ?_)
    · have e : oneErr a b i stops low high = 10 := by rw [e2, if_pos (by omega)]
      simp -implicitDefEqProofs (disch := omega) only [go_sem, Nat.reduceAdd, Nat.reduceMul, Nat.reduceSub, Nat.reduceBEq, Nat.reduceLeDiff, Nat.reduceLT, fn_call_one, e67_1, w67_1, e67_3, w67_3, e67_5, w67_5, c67_6, e67_8, w67_8, e67_10, w67_10, c67_11, e67_13, w67_13, e67_15, w67_15, c67_16, e67_18, w67_18, e67_20, w67_20, c67_21, c67_22, c67_23, c67_24, c67_25, c67_26, he, e]
    simp -implicitDefEqProofs (disch := omega) only [go_sem, Nat.reduceAdd, Nat.reduceMul, Nat.reduceSub, Nat.reduceBEq, Nat.reduceLeDiff, Nat.reduceLT, fn_call_one, e67_1, w67_1, e67_3, w67_3, e67_5, w67_5, c67_6, e67_8, w67_8, e67_10, w67_10, c67_11, e67_13, w67_13, e67_15, w67_15, c67_16, e67_18, w67_18, e67_20, w67_20, c67_21, c67_22, c67_23, c67_24, c67_25, c67_26]
    refine ifD (fun h7 => ?_) (fun h7 => ?_)
    · have e : oneErr a b i stops low high = 10 := by rw [e2, if_pos (by omega)]
      simp -implicitDefEqProofs (disch := omega) only [go_sem, Nat.reduceAdd, Nat.reduceMul, Nat.reduceSub, Nat.reduceBEq, Nat.reduceLeDiff, Nat.reduceLT, fn_call_one, e67_1, w67_1, e67_3, w67_3, e67_5, w67_5, c67_6, e67_8, w67_8, e67_10, w67_10, c67_11, e67_13, w67_13, e67_15, w67_15, c67_16, e67_18, w67_18, e67_20, w67_20, c67_21, c67_22, c67_23, c67_24, c67_25, c67_26, he, e]
    simp -implicitDefEqProofs (disch := omega) only [go_sem, Nat.reduceAdd, Nat.reduceMul, Nat.reduceSub, Nat.reduceBEq, Nat.reduceLeDiff, Nat.reduceLT, fn_call_one, e67_1, w67_1, e67_3, w67_3, e67_5, w67_5, c67_6, e67_8, w67_8, e67_10, w67_10, c67_11, e67_13, w67_13, e67_15, w67_15, c67_16, e67_18, w67_18, e67_20, w67_20, c67_21, c67_22, c67_23, c67_24, c67_25, c67_26]
    refine ifD (fun h8 => ?_) (fun h8 => ?_)
    · omega
    have e : oneErr a b i stops low high = 0 := by rw [e2, if_neg (by omega)]
    simp -implicitDefEqProofs (disch := omega) only [go_sem, Nat.reduceAdd, Nat.reduceMul, Nat.reduceSub, Nat.reduceBEq, Nat.reduceLeDiff, Nat.reduceLT, fn_call_one, e67_1, w67_1, e67_3, w67_3, e67_5, w67_5, c67_6, e67_8, w67_8, e67_10, w67_10, c67_11, e67_13, w67_13, e67_15, w67_15, c67_16, e67_18, w67_18, e67_20, w67_20, c67_21, c67_22, c67_23, c67_24, c67_25, c67_26, he, e]

theorem call_Check_ok (l : List Stay) (c : Cap) (stops low high : Int) (hlen : l.length ≤ 1000) : PCalls PR i_call_Check [.slice (l.map Stay.row) c, .int .i64 stops, .int .i64 low, .int .i64 high] (fun v => v = pairV (checkC l stops low high)) := by
  refine acalls_pop fn_call_Check_ok (by simp [fn_call_Check]) ?_
  simp -implicitDefEqProofs (disch := omega) only [go_sem, Nat.reduceAdd, Nat.reduceMul, Nat.reduceSub, Nat.reduceBEq, Nat.reduceLeDiff, Nat.reduceLT, fn_call_Check, e66_1, w66_1, e66_3, w66_3, c66_4, e66_6, w66_6, e66_8, w66_8, e66_10, w66_10, c66_11, e66_13, w66_13, e66_15, w66_15, e66_17, w66_17, c66_18, e66_20, w66_20, c66_21, c66_22, c66_23, e66_25, w66_25, c66_26, c66_27, c66_28, c66_29, c66_30, c66_31, e66_33, w66_33, c66_34, c66_35, c66_36, c66_37]
  refine ifD (fun h1 => ?_) (fun h1 => ?_)
  · have e : checkC l stops low high = (0, 5) := by rw [checkC, if_pos (by omega)]
    simp -implicitDefEqProofs (disch := omega) only [go_sem, Nat.reduceAdd, Nat.reduceMul, Nat.reduceSub, Nat.reduceBEq, Nat.reduceLeDiff, Nat.reduceLT, fn_call_Check, e66_1, w66_1, e66_3, w66_3, c66_4, e66_6, w66_6, e66_8, w66_8, e66_10, w66_10, c66_11, e66_13, w66_13, e66_15, w66_15, e66_17, w66_17, c66_18, e66_20, w66_20, c66_21, c66_22, c66_23, e66_25, w66_25, c66_26, c66_27, c66_28, c66_29, c66_30, c66_31, e66_33, w66_33, c66_34, c66_35, c66_36, c66_37, pairV, e]
  simp -implicitDefEqProofs (disch := omega) only [go_sem, Nat.reduceAdd, Nat.reduceMul, Nat.reduceSub, Nat.reduceBEq, Nat.reduceLeDiff, Nat.reduceLT, fn_call_Check, e66_1, w66_1, e66_3, w66_3, c66_4, e66_6, w66_6, e66_8, w66_8, e66_10, w66_10, c66_11, e66_13, w66_13, e66_15, w66_15, e66_17, w66_17, c66_18, e66_20, w66_20, c66_21, c66_22, c66_23, e66_25, w66_25, c66_26, c66_27, c66_28, c66_29, c66_30, c66_31, e66_33, w66_33, c66_34, c66_35, c66_36, c66_37]
  refine ifD (fun h2 => ?_) (fun h2 => ?_)
  · have e : checkC l stops low high = (0, 5) := by rw [checkC, if_pos (by omega)]
    simp -implicitDefEqProofs (disch := omega) only [go_sem, Nat.reduceAdd, Nat.reduceMul, Nat.reduceSub, Nat.reduceBEq, Nat.reduceLeDiff, Nat.reduceLT, fn_call_Check, e66_1, w66_1, e66_3, w66_3, c66_4, e66_6, w66_6, e66_8, w66_8, e66_10, w66_10, c66_11, e66_13, w66_13, e66_15, w66_15, e66_17, w66_17, c66_18, e66_20, w66_20, c66_21, c66_22, c66_23, e66_25, w66_25, c66_26, c66_27, c66_28, c66_29, c66_30, c66_31, e66_33, w66_33, c66_34, c66_35, c66_36, c66_37, pairV, e]
  simp -implicitDefEqProofs (disch := omega) only [go_sem, Nat.reduceAdd, Nat.reduceMul, Nat.reduceSub, Nat.reduceBEq, Nat.reduceLeDiff, Nat.reduceLT, fn_call_Check, e66_1, w66_1, e66_3, w66_3, c66_4, e66_6, w66_6, e66_8, w66_8, e66_10, w66_10, c66_11, e66_13, w66_13, e66_15, w66_15, e66_17, w66_17, c66_18, e66_20, w66_20, c66_21, c66_22, c66_23, e66_25, w66_25, c66_26, c66_27, c66_28, c66_29, c66_30, c66_31, e66_33, w66_33, c66_34, c66_35, c66_36, c66_37]
  refine wpC_forL l (fun i vs M => (∀ j, j < i → errAt l stops low high j = 0) ∧ vs = [.slice (l.map Stay.row) c, .int .i64 stops, .int .i64 low, .int .i64 high, .int .i64 l.length, .int .i64 i] ∧ M = []) ⟨fun j hj => absurd hj (Nat.not_lt_zero j), rfl, rfl⟩ ?_ ?_
  · rintro i x vs M hx hi hd ⟨hz, rfl, rfl⟩
    simp -implicitDefEqProofs (disch := omega) only [go_sem, Nat.reduceAdd, Nat.reduceMul, Nat.reduceSub, Nat.reduceBEq, Nat.reduceLeDiff, Nat.reduceLT, fn_call_Check, e66_1, w66_1, e66_3, w66_3, c66_4, e66_6, w66_6, e66_8, w66_8, e66_10, w66_10, c66_11, e66_13, w66_13, e66_15, w66_15, e66_17, w66_17, c66_18, e66_20, w66_20, c66_21, c66_22, c66_23, e66_25, w66_25, c66_26, c66_27, c66_28, c66_29, c66_30, c66_31, e66_33, w66_33, c66_34, c66_35, c66_36, c66_37, hd]
    first | refine callD (call_one_ok l c i stops low high hi hlen) ?_ | refine callQD (call_one_ok l c i stops low high hi hlen) ?_
    simp -implicitDefEqProofs (disch := omega) only [go_sem, Nat.reduceAdd, Nat.reduceMul, Nat.reduceSub, Nat.reduceBEq, Nat.reduceLeDiff, Nat.reduceLT, fn_call_Check, e66_1, w66_1, e66_3, w66_3, c66_4, e66_6, w66_6, e66_8, w66_8, e66_10, w66_10, c66_11, e66_13, w66_13, e66_15, w66_15, e66_17, w66_17, c66_18, e66_20, w66_20, c66_21, c66_22, c66_23, e66_25, w66_25, c66_26, c66_27, c66_28, c66_29, c66_30, c66_31, e66_33, w66_33, c66_34, c66_35, c66_36, c66_37]
    refine ifD (fun h3 => ?_) (fun h3 => ?_)
    · simp -implicitDefEqProofs (disch := omega) only [go_sem, Nat.reduceAdd, Nat.reduceMul, Nat.reduceSub, Nat.reduceBEq, Nat.reduceLeDiff, Nat.reduceLT, fn_call_Check, e66_1, w66_1, e66_3, w66_3, c66_4, e66_6, w66_6, e66_8, w66_8, e66_10, w66_10, c66_11, e66_13, w66_13, e66_15, w66_15, e66_17, w66_17, c66_18, e66_20, w66_20, c66_21, c66_22, c66_23, e66_25, w66_25, c66_26, c66_27, c66_28, c66_29, c66_30, c66_31, e66_33, w66_33, c66_34, c66_35, c66_36, c66_37]
      refine next_stay hi ⟨fun j hj => ?_, ?_, rfl⟩
      · rcases Nat.lt_or_ge j i with h4 | h4
        · exact hz j h4
        · have : j = i := by omega
          subst this; exact h3
      · simp only [vals, sget]; rfl
    · have e : checkC l stops low high = ((i : Int), errAt l stops low high i) := by
        rw [checkC, if_neg (by omega), firstBad_at h3 hz hi]
      simp -implicitDefEqProofs (disch := omega) only [go_sem, Nat.reduceAdd, Nat.reduceMul, Nat.reduceSub, Nat.reduceBEq, Nat.reduceLeDiff, Nat.reduceLT, fn_call_Check, e66_1, w66_1, e66_3, w66_3, c66_4, e66_6, w66_6, e66_8, w66_8, e66_10, w66_10, c66_11, e66_13, w66_13, e66_15, w66_15, e66_17, w66_17, c66_18, e66_20, w66_20, c66_21, c66_22, c66_23, e66_25, w66_25, c66_26, c66_27, c66_28, c66_29, c66_30, c66_31, e66_33, w66_33, c66_34, c66_35, c66_36, c66_37, pairV, e]
  · rintro vs M ⟨hz, rfl, rfl⟩
    have e : checkC l stops low high = (0, 0) := by
      rw [checkC, if_neg (by omega), firstBad_none _ hz]
    simp -implicitDefEqProofs (disch := omega) only [go_sem, Nat.reduceAdd, Nat.reduceMul, Nat.reduceSub, Nat.reduceBEq, Nat.reduceLeDiff, Nat.reduceLT, fn_call_Check, e66_1, w66_1, e66_3, w66_3, c66_4, e66_6, w66_6, e66_8, w66_8, e66_10, w66_10, c66_11, e66_13, w66_13, e66_15, w66_15, e66_17, w66_17, c66_18, e66_20, w66_20, c66_21, c66_22, c66_23, e66_25, w66_25, c66_26, c66_27, c66_28, c66_29, c66_30, c66_31, e66_33, w66_33, c66_34, c66_35, c66_36, c66_37, dec_irrefl, pairV, e]

theorem ref16_Check_ok (l : List Stay) (c : Cap) (stops low high : Int) (hlen : l.length ≤ 1000) : PCalls PR i_transitref16_Check [.slice (l.map Stay.row) c, .int .i64 stops, .int .i64 low, .int .i64 high] (fun v => v = pairV (checkC l stops low high)) := by
  refine acalls_pop fn_transitref16_Check_ok (by simp [fn_transitref16_Check]) ?_
  simp -implicitDefEqProofs (disch := omega) only [go_sem, Nat.reduceAdd, Nat.reduceMul, Nat.reduceSub, Nat.reduceBEq, Nat.reduceLeDiff, Nat.reduceLT, fn_transitref16_Check, e57_1, w57_1, e57_3, w57_3, c57_4, e57_6, w57_6, e57_8, w57_8, e57_10, w57_10, e57_12, w57_12, e57_14, w57_14, c57_15, e57_17, w57_17, e57_19, w57_19, c57_20, e57_22, w57_22, e57_24, w57_24, c57_25, e57_27, w57_27, c57_28, c57_29, c57_30, c57_31, e57_33, w57_33, c57_34, c57_35, c57_36, c57_37, c57_38, e57_40, w57_40, c57_41, c57_42, c57_43, c57_44]
  refine ifD (fun h1 => ?_) (fun h1 => ?_)
  · have e : checkC l stops low high = (0, 5) := by rw [checkC, if_pos (by omega)]
    simp -implicitDefEqProofs (disch := omega) only [go_sem, Nat.reduceAdd, Nat.reduceMul, Nat.reduceSub, Nat.reduceBEq, Nat.reduceLeDiff, Nat.reduceLT, fn_transitref16_Check, e57_1, w57_1, e57_3, w57_3, c57_4, e57_6, w57_6, e57_8, w57_8, e57_10, w57_10, e57_12, w57_12, e57_14, w57_14, c57_15, e57_17, w57_17, e57_19, w57_19, c57_20, e57_22, w57_22, e57_24, w57_24, c57_25, e57_27, w57_27, c57_28, c57_29, c57_30, c57_31, e57_33, w57_33, c57_34, c57_35, c57_36, c57_37, c57_38, e57_40, w57_40, c57_41, c57_42, c57_43, c57_44, pairV, e]
  simp -implicitDefEqProofs (disch := omega) only [go_sem, Nat.reduceAdd, Nat.reduceMul, Nat.reduceSub, Nat.reduceBEq, Nat.reduceLeDiff, Nat.reduceLT, fn_transitref16_Check, e57_1, w57_1, e57_3, w57_3, c57_4, e57_6, w57_6, e57_8, w57_8, e57_10, w57_10, e57_12, w57_12, e57_14, w57_14, c57_15, e57_17, w57_17, e57_19, w57_19, c57_20, e57_22, w57_22, e57_24, w57_24, c57_25, e57_27, w57_27, c57_28, c57_29, c57_30, c57_31, e57_33, w57_33, c57_34, c57_35, c57_36, c57_37, c57_38, e57_40, w57_40, c57_41, c57_42, c57_43, c57_44]
  refine ifD (fun h2 => ?_) (fun h2 => ?_)
  · have e : checkC l stops low high = (0, 5) := by rw [checkC, if_pos (by omega)]
    simp -implicitDefEqProofs (disch := omega) only [go_sem, Nat.reduceAdd, Nat.reduceMul, Nat.reduceSub, Nat.reduceBEq, Nat.reduceLeDiff, Nat.reduceLT, fn_transitref16_Check, e57_1, w57_1, e57_3, w57_3, c57_4, e57_6, w57_6, e57_8, w57_8, e57_10, w57_10, e57_12, w57_12, e57_14, w57_14, c57_15, e57_17, w57_17, e57_19, w57_19, c57_20, e57_22, w57_22, e57_24, w57_24, c57_25, e57_27, w57_27, c57_28, c57_29, c57_30, c57_31, e57_33, w57_33, c57_34, c57_35, c57_36, c57_37, c57_38, e57_40, w57_40, c57_41, c57_42, c57_43, c57_44, pairV, e]
  simp -implicitDefEqProofs (disch := omega) only [go_sem, Nat.reduceAdd, Nat.reduceMul, Nat.reduceSub, Nat.reduceBEq, Nat.reduceLeDiff, Nat.reduceLT, fn_transitref16_Check, e57_1, w57_1, e57_3, w57_3, c57_4, e57_6, w57_6, e57_8, w57_8, e57_10, w57_10, e57_12, w57_12, e57_14, w57_14, c57_15, e57_17, w57_17, e57_19, w57_19, c57_20, e57_22, w57_22, e57_24, w57_24, c57_25, e57_27, w57_27, c57_28, c57_29, c57_30, c57_31, e57_33, w57_33, c57_34, c57_35, c57_36, c57_37, c57_38, e57_40, w57_40, c57_41, c57_42, c57_43, c57_44]
  refine wpC_forL l (fun i vs M => (∀ j, j < i → errAt l stops low high j = 0) ∧ vs = [.slice (l.map Stay.row) c, .int .i64 stops, .int .i64 low, .int .i64 high, .int .i64 i] ∧ M = []) ⟨fun j hj => absurd hj (Nat.not_lt_zero j), rfl, rfl⟩ ?_ ?_
  rotate_left
  · rintro vs M ⟨hz, rfl, rfl⟩
    have e : checkC l stops low high = (0, 0) := by
      rw [checkC, if_neg (by omega), firstBad_none _ hz]
    simp -implicitDefEqProofs (disch := omega) only [go_sem, Nat.reduceAdd, Nat.reduceMul, Nat.reduceSub, Nat.reduceBEq, Nat.reduceLeDiff, Nat.reduceLT, fn_transitref16_Check, e57_1, w57_1, e57_3, w57_3, c57_4, e57_6, w57_6, e57_8, w57_8, e57_10, w57_10, e57_12, w57_12, e57_14, w57_14, c57_15, e57_17, w57_17, e57_19, w57_19, c57_20, e57_22, w57_22, e57_24, w57_24, c57_25, e57_27, w57_27, c57_28, c57_29, c57_30, c57_31, e57_33, w57_33, c57_34, c57_35, c57_36, c57_37, c57_38, e57_40, w57_40, c57_41, c57_42, c57_43, c57_44, dec_irrefl, pairV, e]
  rintro i a vs M ha hi hd ⟨hz, rfl, rfl⟩
  obtain ⟨b, hb⟩ : ∃ b, l[i - 1]? = some b := ⟨l[i - 1], by simp⟩
  have he : errAt l stops low high i = oneErr a b i stops low high := by simp only [errAt, ha, hb]
  have bad : ∀ n : Int, n ≠ 0 → oneErr a b i stops low high = n → checkC l stops low high = ((i : Int), n) := by
    intro n h0 h3
    rw [checkC, if_neg (by omega), firstBad_at (by rw [he, h3]; exact h0) hz hi]
    simp only [he, h3]
  have good : oneErr a b i stops low high = 0 → ∀ j, j < i + 1 → errAt l stops low high j = 0 := by
    intro h3 j hj
    rcases Nat.lt_or_ge j i with h4 | h4
    · exact hz j h4
    · have : j = i := by omega
      subst this; rw [he, h3]
  simp -implicitDefEqProofs (disch := omega) only [go_sem, Nat.reduceAdd, Nat.reduceMul, Nat.reduceSub, Nat.reduceBEq, Nat.reduceLeDiff, Nat.reduceLT, fn_transitref16_Check, e57_1, w57_1, e57_3, w57_3, c57_4, e57_6, w57_6, e57_8, w57_8, e57_10, w57_10, e57_12, w57_12, e57_14, w57_14, c57_15, e57_17, w57_17, e57_19, w57_19, c57_20, e57_22, w57_22, e57_24, w57_24, c57_25, e57_27, w57_27, c57_28, c57_29, c57_30, c57_31, e57_33, w57_33, c57_34, c57_35, c57_36, c57_37, c57_38, e57_40, w57_40, c57_41, c57_42, c57_43, c57_44, hd, ha, Stay.row]
  refine ifD (fun h1 => ?_) (fun h1 => ?_)
  · have e := bad 9 (by omega) (by rw [oneErr, if_pos (.inl h1)])
    simp -implicitDefEqProofs (disch := omega) only [go_sem, Nat.reduceAdd, Nat.reduceMul, Nat.reduceSub, Nat.reduceBEq, Nat.reduceLeDiff, Nat.reduceLT, fn_transitref16_Check, e57_1, w57_1, e57_3, w57_3, c57_4, e57_6, w57_6, e57_8, w57_8, e57_10, w57_10, e57_12, w57_12, e57_14, w57_14, c57_15, e57_17, w57_17, e57_19, w57_19, c57_20, e57_22, w57_22, e57_24, w57_24, c57_25, e57_27, w57_27, c57_28, c57_29, c57_30, c57_31, e57_33, w57_33, c57_34, c57_35, c57_36, c57_37, c57_38, e57_40, w57_40, c57_41, c57_42, c57_43, c57_44, pairV, e]
  simp -implicitDefEqProofs (disch := omega) only [go_sem, Nat.reduceAdd, Nat.reduceMul, Nat.reduceSub, Nat.reduceBEq, Nat.reduceLeDiff, Nat.reduceLT, fn_transitref16_Check, e57_1, w57_1, e57_3, w57_3, c57_4, e57_6, w57_6, e57_8, w57_8, e57_10, w57_10, e57_12, w57_12, e57_14, w57_14, c57_15, e57_17, w57_17, e57_19, w57_19, c57_20, e57_22, w57_22, e57_24, w57_24, c57_25, e57_27, w57_27, c57_28, c57_29, c57_30, c57_31, e57_33, w57_33, c57_34, c57_35, c57_36, c57_37, c57_38, e57_40, w57_40, c57_41, c57_42, c57_43, c57_44]
  refine ifD (fun h2 => ?_) (fun h2 => ?_)
  · have e := bad 9 (by omega) (by rw [oneErr, if_pos (.inr h2)])
    simp -implicitDefEqProofs (disch := omega) only [go_sem, Nat.reduceAdd, Nat.reduceMul, Nat.reduceSub, Nat.reduceBEq, Nat.reduceLeDiff, Nat.reduceLT, fn_transitref16_Check, e57_1, w57_1, e57_3, w57_3, c57_4, e57_6, w57_6, e57_8, w57_8, e57_10, w57_10, e57_12, w57_12, e57_14, w57_14, c57_15, e57_17, w57_17, e57_19, w57_19, c57_20, e57_22, w57_22, e57_24, w57_24, c57_25, e57_27, w57_27, c57_28, c57_29, c57_30, c57_31, e57_33, w57_33, c57_34, c57_35, c57_36, c57_37, c57_38, e57_40, w57_40, c57_41, c57_42, c57_43, c57_44, pairV, e]
  have e1 : oneErr a b i stops low high = if 0 < i ∧ b.stop = a.stop then 13 else if a.arrive < low ∨ a.depart < a.arrive ∨ high < a.depart ∨ (0 < i ∧ a.arrive < b.depart) then 10 else 0 := by rw [oneErr, if_neg (by omega)]
  simp -implicitDefEqProofs (disch := omega) only [go_sem, Nat.reduceAdd, Nat.reduceMul, Nat.reduceSub, Nat.reduceBEq, Nat.reduceLeDiff, Nat.reduceLT, fn_transitref16_Check, e57_1, w57_1, e57_3, w57_3, c57_4, e57_6, w57_6, e57_8, w57_8, e57_10, w57_10, e57_12, w57_12, e57_14, w57_14, c57_15, e57_17, w57_17, e57_19, w57_19, c57_20, e57_22, w57_22, e57_24, w57_24, c57_25, e57_27, w57_27, c57_28, c57_29, c57_30, c57_31, e57_33, w57_33, c57_34, c57_35, c57_36, c57_37, c57_38, e57_40, w57_40, c57_41, c57_42, c57_43, c57_44]
  refine ifD (fun h3 => ?_) (fun h3 => ?_)
  · simp -implicitDefEqProofs (disch := omega) only [go_sem, Nat.reduceAdd, Nat.reduceMul, Nat.reduceSub, Nat.reduceBEq, Nat.reduceLeDiff, Nat.reduceLT, fn_transitref16_Check, e57_1, w57_1, e57_3, w57_3, c57_4, e57_6, w57_6, e57_8, w57_8, e57_10, w57_10, e57_12, w57_12, e57_14, w57_14, c57_15, e57_17, w57_17, e57_19, w57_19, c57_20, e57_22, w57_22, e57_24, w57_24, c57_25, e57_27, w57_27, c57_28, c57_29, c57_30, c57_31, e57_33, w57_33, c57_34, c57_35, c57_36, c57_37, c57_38, e57_40, w57_40, c57_41, c57_42, c57_43, c57_44, hb, Stay.row]
    refine ifD (fun h4 => ?_) (fun h4 => ?_)
    · have e := bad 13 (by omega) (by rw [e1, if_pos ⟨by omega, h4⟩])
      simp -implicitDefEqProofs (disch := omega) only [go_sem, Nat.reduceAdd, Nat.reduceMul, Nat.reduceSub, Nat.reduceBEq, Nat.reduceLeDiff, Nat.reduceLT, fn_transitref16_Check, e57_1, w57_1, e57_3, w57_3, c57_4, e57_6, w57_6, e57_8, w57_8, e57_10, w57_10, e57_12, w57_12, e57_14, w57_14, c57_15, e57_17, w57_17, e57_19, w57_19, c57_20, e57_22, w57_22, e57_24, w57_24, c57_25, e57_27, w57_27, c57_28, c57_29, c57_30, c57_31, e57_33, w57_33, c57_34, c57_35, c57_36, c57_37, c57_38, e57_40, w57_40, c57_41, c57_42, c57_43, c57_44, pairV, e]
    have e2 : oneErr a b i stops low high = if a.arrive < low ∨ a.depart < a.arrive ∨ high < a.depart ∨ (0 < i ∧ a.arrive < b.depart) then 10 else 0 := by rw [e1, if_neg (fun h => h4 h.2)]
    simp -implicitDefEqProofs (disch := omega) only [go_sem, Nat.reduceAdd, Nat.reduceMul, Nat.reduceSub, Nat.reduceBEq, Nat.reduceLeDiff, Nat.reduceLT, fn_transitref16_Check, e57_1, w57_1, e57_3, w57_3, c57_4, e57_6, w57_6, e57_8, w57_8, e57_10, w57_10, e57_12, w57_12, e57_14, w57_14, c57_15, e57_17, w57_17, e57_19, w57_19, c57_20, e57_22, w57_22, e57_24, w57_24, c57_25, e57_27, w57_27, c57_28, c57_29, c57_30, c57_31, e57_33, w57_33, c57_34, c57_35, c57_36, c57_37, c57_38, e57_40, w57_40, c57_41, c57_42, c57_43, c57_44]
    refine ifD (fun h5 => ?_) (fun h5 => ?_)
    · have e := bad 10 (by omega) (by rw [e2, if_pos (by omega)])
      simp -implicitDefEqProofs (disch := omega) only [go_sem, Nat.reduceAdd, Nat.reduceMul, Nat.reduceSub, Nat.reduceBEq, Nat.reduceLeDiff, Nat.reduceLT, fn_transitref16_Check, e57_1, w57_1, e57_3, w57_3, c57_4, e57_6, w57_6, e57_8, w57_8, e57_10, w57_10, e57_12, w57_12, e57_14, w57_14, c57_15, e57_17, w57_17, e57_19, w57_19, c57_20, e57_22, w57_22, e57_24, w57_24, c57_25, e57_27, w57_27, c57_28, c57_29, c57_30, c57_31, e57_33, w57_33, c57_34, c57_35, c57_36, c57_37, c57_38, e57_40, w57_40, c57_41, c57_42, c57_43, c57_44, pairV, e]
    simp -implicitDefEqProofs (disch := omega) only [go_sem, Nat.reduceAdd, Nat.reduceMul, Nat.reduceSub, Nat.reduceBEq, Nat.reduceLeDiff, Nat.reduceLT, fn_transitref16_Check, e57_1, w57_1, e57_3, w57_3, c57_4, e57_6, w57_6, e57_8, w57_8, e57_10, w57_10, e57_12, w57_12, e57_14, w57_14, c57_15, e57_17, w57_17, e57_19, w57_19, c57_20, e57_22, w57_22, e57_24, w57_24, c57_25, e57_27, w57_27, c57_28, c57_29, c57_30, c57_31, e57_33, w57_33, c57_34, c57_35, c57_36, c57_37, c57_38, e57_40, w57_40, c57_41, c57_42, c57_43, c57_44]
    refine ifD (fun h6 => ?_) (fun h6 => ?_)
    · have e := bad 10 (by omega) (by rw [e2, if_pos (by omega)])
      simp -implicitDefEqProofs (disch := omega) only [go_sem, Nat.reduceAdd, Nat.reduceMul, Nat.reduceSub, Nat.reduceBEq, Nat.reduceLeDiff, Nat.reduceLT, fn_transitref16_Check, e57_1, w57_1, e57_3, w57_3, c57_4, e57_6, w57_6, e57_8, w57_8, e57_10, w57_10, e57_12, w57_12, e57_14, w57_14, c57_15, e57_17, w57_17, e57_19, w57_19, c57_20, e57_22, w57_22, e57_24, w57_24, c57_25, e57_27, w57_27, c57_28, c57_29, c57_30, c57_31, e57_33, w57_33, c57_34, c57_35, c57_36, c57_37, c57_38, e57_40, w57_40, c57_41, c57_42, c57_43, c57_44, pairV, e]
    simp -implicitDefEqProofs (disch := omega) only [go_sem, Nat.reduceAdd, Nat.reduceMul, Nat.reduceSub, Nat.reduceBEq, Nat.reduceLeDiff, Nat.reduceLT, fn_transitref16_Check, e57_1, w57_1, e57_3, w57_3, c57_4, e57_6, w57_6, e57_8, w57_8, e57_10, w57_10, e57_12, w57_12, e57_14, w57_14, c57_15, e57_17, w57_17, e57_19, w57_19, c57_20, e57_22, w57_22, e57_24, w57_24, c57_25, e57_27, w57_27, c57_28, c57_29, c57_30, c57_31, e57_33, w57_33, c57_34, c57_35, c57_36, c57_37, c57_38, e57_40, w57_40, c57_41, c57_42, c57_43, c57_44]
    refine ifD (fun h7 => ?_) (fun h7 => ?_)
    · have e := bad 10 (by omega) (by rw [e2, if_pos (by omega)])
      simp -implicitDefEqProofs (disch := omega) only [go_sem, Nat.reduceAdd, Nat.reduceMul, Nat.reduceSub, Nat.reduceBEq, Nat.reduceLeDiff, Nat.reduceLT, fn_transitref16_Check, e57_1, w57_1, e57_3, w57_3, c57_4, e57_6, w57_6, e57_8, w57_8, e57_10, w57_10, e57_12, w57_12, e57_14, w57_14, c57_15, e57_17, w57_17, e57_19, w57_19, c57_20, e57_22, w57_22, e57_24, w57_24, c57_25, e57_27, w57_27, c57_28, c57_29, c57_30, c57_31, e57_33, w57_33, c57_34, c57_35, c57_36, c57_37, c57_38, e57_40, w57_40, c57_41, c57_42, c57_43, c57_44, pairV, e]
    simp -implicitDefEqProofs (disch := omega) only [go_sem, Nat.reduceAdd, Nat.reduceMul, Nat.reduceSub, Nat.reduceBEq, Nat.reduceLeDiff, Nat.reduceLT, fn_transitref16_Check, e57_1, w57_1, e57_3, w57_3, c57_4, e57_6, w57_6, e57_8, w57_8, e57_10, w57_10, e57_12, w57_12, e57_14, w57_14, c57_15, e57_17, w57_17, e57_19, w57_19, c57_20, e57_22, w57_22, e57_24, w57_24, c57_25, e57_27, w57_27, c57_28, c57_29, c57_30, c57_31, e57_33, w57_33, c57_34, c57_35, c57_36, c57_37, c57_38, e57_40, w57_40, c57_41, c57_42, c57_43, c57_44]
    refine ifD (fun h8 => ?_) (fun h8 => ?_)
    rotate_left
    · omega
    simp -implicitDefEqProofs (disch := omega) only [go_sem, Nat.reduceAdd, Nat.reduceMul, Nat.reduceSub, Nat.reduceBEq, Nat.reduceLeDiff, Nat.reduceLT, fn_transitref16_Check, e57_1, w57_1, e57_3, w57_3, c57_4, e57_6, w57_6, e57_8, w57_8, e57_10, w57_10, e57_12, w57_12, e57_14, w57_14, c57_15, e57_17, w57_17, e57_19, w57_19, c57_20, e57_22, w57_22, e57_24, w57_24, c57_25, e57_27, w57_27, c57_28, c57_29, c57_30, c57_31, e57_33, w57_33, c57_34, c57_35, c57_36, c57_37, c57_38, e57_40, w57_40, c57_41, c57_42, c57_43, c57_44, hb, Stay.row]
    refine ifD (fun h9 => ?_) (fun h9 => ?_)
    · have e := bad 10 (by omega) (by rw [e2, if_pos (by omega)])
      simp -implicitDefEqProofs (disch := omega) only [go_sem, Nat.reduceAdd, Nat.reduceMul, Nat.reduceSub, Nat.reduceBEq, Nat.reduceLeDiff, Nat.reduceLT, fn_transitref16_Check, e57_1, w57_1, e57_3, w57_3, c57_4, e57_6, w57_6, e57_8, w57_8, e57_10, w57_10, e57_12, w57_12, e57_14, w57_14, c57_15, e57_17, w57_17, e57_19, w57_19, c57_20, e57_22, w57_22, e57_24, w57_24, c57_25, e57_27, w57_27, c57_28, c57_29, c57_30, c57_31, e57_33, w57_33, c57_34, c57_35, c57_36, c57_37, c57_38, e57_40, w57_40, c57_41, c57_42, c57_43, c57_44, pairV, e]
    · simp -implicitDefEqProofs (disch := omega) only [go_sem, Nat.reduceAdd, Nat.reduceMul, Nat.reduceSub, Nat.reduceBEq, Nat.reduceLeDiff, Nat.reduceLT, fn_transitref16_Check, e57_1, w57_1, e57_3, w57_3, c57_4, e57_6, w57_6, e57_8, w57_8, e57_10, w57_10, e57_12, w57_12, e57_14, w57_14, c57_15, e57_17, w57_17, e57_19, w57_19, c57_20, e57_22, w57_22, e57_24, w57_24, c57_25, e57_27, w57_27, c57_28, c57_29, c57_30, c57_31, e57_33, w57_33, c57_34, c57_35, c57_36, c57_37, c57_38, e57_40, w57_40, c57_41, c57_42, c57_43, c57_44]
      refine next_pop hi rfl ⟨good (by rw [e2, if_neg (by omega)]), ?_, rfl⟩
      simp only [vals, sget]; rfl
  · have e2 : oneErr a b i stops low high = if a.arrive < low ∨ a.depart < a.arrive ∨ high < a.depart ∨ (0 < i ∧ a.arrive < b.depart) then 10 else 0 := by rw [e1, if_neg (by omega)]
    simp -implicitDefEqProofs (disch := omega) only [go_sem, Nat.reduceAdd, Nat.reduceMul, Nat.reduceSub, Nat.reduceBEq, Nat.reduceLeDiff, Nat.reduceLT, fn_transitref16_Check, e57_1, w57_1, e57_3, w57_3, c57_4, e57_6, w57_6, e57_8, w57_8, e57_10, w57_10, e57_12, w57_12, e57_14, w57_14, c57_15, e57_17, w57_17, e57_19, w57_19, c57_20, e57_22, w57_22, e57_24, w57_24, c57_25, e57_27, w57_27, c57_28, c57_29, c57_30, c57_31, e57_33, w57_33, c57_34, c57_35, c57_36, c57_37, c57_38, e57_40, w57_40, c57_41, c57_42, c57_43, c57_44]
    refine ifD (fun h5 => ?_) (fun h5 => ?_)
    · have e := bad 10 (by omega) (by rw [e2, if_pos (by omega)])
      simp -implicitDefEqProofs (disch := omega) only [go_sem, Nat.reduceAdd, Nat.reduceMul, Nat.reduceSub, Nat.reduceBEq, Nat.reduceLeDiff, Nat.reduceLT, fn_transitref16_Check, e57_1, w57_1, e57_3, w57_3, c57_4, e57_6, w57_6, e57_8, w57_8, e57_10, w57_10, e57_12, w57_12, e57_14, w57_14, c57_15, e57_17, w57_17, e57_19, w57_19, c57_20, e57_22, w57_22, e57_24, w57_24, c57_25, e57_27, w57_27, c57_28, c57_29, c57_30, c57_31, e57_33, w57_33, c57_34, c57_35, c57_36, c57_37, c57_38, e57_40, w57_40, c57_41, c57_42, c57_43, c57_44, pairV, e]
    simp -implicitDefEqProofs (disch := omega) only [go_sem, Nat.reduceAdd, Nat.reduceMul, Nat.reduceSub, Nat.reduceBEq, Nat.reduceLeDiff, Nat.reduceLT, fn_transitref16_Check, e57_1, w57_1, e57_3, w57_3, c57_4, e57_6, w57_6, e57_8, w57_8, e57_10, w57_10, e57_12, w57_12, e57_14, w57_14, c57_15, e57_17, w57_17, e57_19, w57_19, c57_20, e57_22, w57_22, e57_24, w57_24, c57_25, e57_27, w57_27, c57_28, c57_29, c57_30, c57_31, e57_33, w57_33, c57_34, c57_35, c57_36, c57_37, c57_38, e57_40, w57_40, c57_41, c57_42, c57_43, c57_44]
    refine ifD (fun h6 => ?_) (fun h6 => ?_)
    · have e := bad 10 (by omega) (by rw [e2, if_pos (by omega)])
      simp -implicitDefEqProofs (disch := omega) only [go_sem, Nat.reduceAdd, Nat.reduceMul, Nat.reduceSub, Nat.reduceBEq, Nat.reduceLeDiff, Nat.reduceLT, fn_transitref16_Check, e57_1, w57_1, e57_3, w57_3, c57_4, e57_6, w57_6, e57_8, w57_8, e57_10, w57_10, e57_12, w57_12, e57_14, w57_14, c57_15, e57_17, w57_17, e57_19, w57_19, c57_20, e57_22, w57_22, e57_24, w57_24, c57_25, e57_27, w57_27, c57_28, c57_29, c57_30, c57_31, e57_33, w57_33, c57_34, c57_35, c57_36, c57_37, c57_38, e57_40, w57_40, c57_41, c57_42, c57_43, c57_44, pairV, e]
    simp -implicitDefEqProofs (disch := omega) only [go_sem, Nat.reduceAdd, Nat.reduceMul, Nat.reduceSub, Nat.reduceBEq, Nat.reduceLeDiff, Nat.reduceLT, fn_transitref16_Check, e57_1, w57_1, e57_3, w57_3, c57_4, e57_6, w57_6, e57_8, w57_8, e57_10, w57_10, e57_12, w57_12, e57_14, w57_14, c57_15, e57_17, w57_17, e57_19, w57_19, c57_20, e57_22, w57_22, e57_24, w57_24, c57_25, e57_27, w57_27, c57_28, c57_29, c57_30, c57_31, e57_33, w57_33, c57_34, c57_35, c57_36, c57_37, c57_38, e57_40, w57_40, c57_41, c57_42, c57_43, c57_44]
    refine ifD (fun h7 => ?_) (fun h7 => ?_)
    · have e := bad 10 (by omega) (by rw [e2, if_pos (by omega)])
      simp -implicitDefEqProofs (disch := omega) only [go_sem, Nat.reduceAdd, Nat.reduceMul, Nat.reduceSub, Nat.reduceBEq, Nat.reduceLeDiff, Nat.reduceLT, fn_transitref16_Check, e57_1, w57_1, e57_3, w57_3, c57_4, e57_6, w57_6, e57_8, w57_8, e57_10, w57_10, e57_12, w57_12, e57_14, w57_14, c57_15, e57_17, w57_17, e57_19, w57_19, c57_20, e57_22, w57_22, e57_24, w57_24, c57_25, e57_27, w57_27, c57_28, c57_29, c57_30, c57_31, e57_33, w57_33, c57_34, c57_35, c57_36, c57_37, c57_38, e57_40, w57_40, c57_41, c57_42, c57_43, c57_44, pairV, e]
    simp -implicitDefEqProofs (disch := omega) only [go_sem, Nat.reduceAdd, Nat.reduceMul, Nat.reduceSub, Nat.reduceBEq, Nat.reduceLeDiff, Nat.reduceLT, fn_transitref16_Check, e57_1, w57_1, e57_3, w57_3, c57_4, e57_6, w57_6, e57_8, w57_8, e57_10, w57_10, e57_12, w57_12, e57_14, w57_14, c57_15, e57_17, w57_17, e57_19, w57_19, c57_20, e57_22, w57_22, e57_24, w57_24, c57_25, e57_27, w57_27, c57_28, c57_29, c57_30, c57_31, e57_33, w57_33, c57_34, c57_35, c57_36, c57_37, c57_38, e57_40, w57_40, c57_41, c57_42, c57_43, c57_44]
    refine ifD (fun h8 => ?_) (fun h8 => ?_)
    · omega
    simp -implicitDefEqProofs (disch := omega) only [go_sem, Nat.reduceAdd, Nat.reduceMul, Nat.reduceSub, Nat.reduceBEq, Nat.reduceLeDiff, Nat.reduceLT, fn_transitref16_Check, e57_1, w57_1, e57_3, w57_3, c57_4, e57_6, w57_6, e57_8, w57_8, e57_10, w57_10, e57_12, w57_12, e57_14, w57_14, c57_15, e57_17, w57_17, e57_19, w57_19, c57_20, e57_22, w57_22, e57_24, w57_24, c57_25, e57_27, w57_27, c57_28, c57_29, c57_30, c57_31, e57_33, w57_33, c57_34, c57_35, c57_36, c57_37, c57_38, e57_40, w57_40, c57_41, c57_42, c57_43, c57_44]
    refine next_pop hi rfl ⟨good (by rw [e2, if_neg (by omega)]), ?_, rfl⟩
    simp only [vals, sget]; rfl

/-! ### The check of a message -/
theorem call_Check_any (l : List Stay) (c : Cap) (stops low high : Int) (hl : l.length ≤ maxLen) : PCalls PR i_call_Check [.slice (l.map Stay.row) c, .int .i64 stops, .int .i64 low, .int .i64 high] (fun v => v = pairV (checkC l stops low high)) := by
  by_cases h : l.length ≤ 1000
  · exact call_Check_ok l c stops low high h
  refine acalls_pop fn_call_Check_ok (by simp [fn_call_Check]) ?_
  simp -implicitDefEqProofs (disch := omega) only [go_sem, Nat.reduceAdd, Nat.reduceMul, Nat.reduceSub, Nat.reduceBEq, Nat.reduceLeDiff, Nat.reduceLT, fn_call_Check, e66_1, w66_1, e66_3, w66_3, c66_4, e66_6, w66_6, e66_8, w66_8, e66_10, w66_10, c66_11, e66_13, w66_13, e66_15, w66_15, e66_17, w66_17, c66_18, e66_20, w66_20, c66_21, c66_22, c66_23, e66_25, w66_25, c66_26, c66_27, c66_28, c66_29, c66_30, c66_31, e66_33, w66_33, c66_34, c66_35, c66_36, c66_37]
  refine ifD (fun h1 => ?_) (fun h1 => ?_)
  · omega
  simp -implicitDefEqProofs (disch := omega) only [go_sem, Nat.reduceAdd, Nat.reduceMul, Nat.reduceSub, Nat.reduceBEq, Nat.reduceLeDiff, Nat.reduceLT, fn_call_Check, e66_1, w66_1, e66_3, w66_3, c66_4, e66_6, w66_6, e66_8, w66_8, e66_10, w66_10, c66_11, e66_13, w66_13, e66_15, w66_15, e66_17, w66_17, c66_18, e66_20, w66_20, c66_21, c66_22, c66_23, e66_25, w66_25, c66_26, c66_27, c66_28, c66_29, c66_30, c66_31, e66_33, w66_33, c66_34, c66_35, c66_36, c66_37]
  refine ifD (fun h2 => ?_) (fun h2 => ?_)
  · have e : checkC l stops low high = (0, 5) := by rw [checkC, if_pos (by omega)]
    simp -implicitDefEqProofs (disch := omega) only [go_sem, Nat.reduceAdd, Nat.reduceMul, Nat.reduceSub, Nat.reduceBEq, Nat.reduceLeDiff, Nat.reduceLT, fn_call_Check, e66_1, w66_1, e66_3, w66_3, c66_4, e66_6, w66_6, e66_8, w66_8, e66_10, w66_10, c66_11, e66_13, w66_13, e66_15, w66_15, e66_17, w66_17, c66_18, e66_20, w66_20, c66_21, c66_22, c66_23, e66_25, w66_25, c66_26, c66_27, c66_28, c66_29, c66_30, c66_31, e66_33, w66_33, c66_34, c66_35, c66_36, c66_37, pairV, e]
  · omega
theorem ref16_Check_any (l : List Stay) (c : Cap) (stops low high : Int) (hl : l.length ≤ maxLen) : PCalls PR i_transitref16_Check [.slice (l.map Stay.row) c, .int .i64 stops, .int .i64 low, .int .i64 high] (fun v => v = pairV (checkC l stops low high)) := by
  by_cases h : l.length ≤ 1000
  · exact ref16_Check_ok l c stops low high h
  refine acalls_pop fn_transitref16_Check_ok (by simp [fn_transitref16_Check]) ?_
  simp -implicitDefEqProofs (disch := omega) only [go_sem, Nat.reduceAdd, Nat.reduceMul, Nat.reduceSub, Nat.reduceBEq, Nat.reduceLeDiff, Nat.reduceLT, fn_transitref16_Check, e57_1, w57_1, e57_3, w57_3, c57_4, e57_6, w57_6, e57_8, w57_8, e57_10, w57_10, e57_12, w57_12, e57_14, w57_14, c57_15, e57_17, w57_17, e57_19, w57_19, c57_20, e57_22, w57_22, e57_24, w57_24, c57_25, e57_27, w57_27, c57_28, c57_29, c57_30, c57_31, e57_33, w57_33, c57_34, c57_35, c57_36, c57_37, c57_38, e57_40, w57_40, c57_41, c57_42, c57_43, c57_44]
  refine ifD (fun h1 => ?_) (fun h1 => ?_)
  · omega
  simp -implicitDefEqProofs (disch := omega) only [go_sem, Nat.reduceAdd, Nat.reduceMul, Nat.reduceSub, Nat.reduceBEq, Nat.reduceLeDiff, Nat.reduceLT, fn_transitref16_Check, e57_1, w57_1, e57_3, w57_3, c57_4, e57_6, w57_6, e57_8, w57_8, e57_10, w57_10, e57_12, w57_12, e57_14, w57_14, c57_15, e57_17, w57_17, e57_19, w57_19, c57_20, e57_22, w57_22, e57_24, w57_24, c57_25, e57_27, w57_27, c57_28, c57_29, c57_30, c57_31, e57_33, w57_33, c57_34, c57_35, c57_36, c57_37, c57_38, e57_40, w57_40, c57_41, c57_42, c57_43, c57_44]
  refine ifD (fun h2 => ?_) (fun h2 => ?_)
  · have e : checkC l stops low high = (0, 5) := by rw [checkC, if_pos (by omega)]
    simp -implicitDefEqProofs (disch := omega) only [go_sem, Nat.reduceAdd, Nat.reduceMul, Nat.reduceSub, Nat.reduceBEq, Nat.reduceLeDiff, Nat.reduceLT, fn_transitref16_Check, e57_1, w57_1, e57_3, w57_3, c57_4, e57_6, w57_6, e57_8, w57_8, e57_10, w57_10, e57_12, w57_12, e57_14, w57_14, c57_15, e57_17, w57_17, e57_19, w57_19, c57_20, e57_22, w57_22, e57_24, w57_24, c57_25, e57_27, w57_27, c57_28, c57_29, c57_30, c57_31, e57_33, w57_33, c57_34, c57_35, c57_36, c57_37, c57_38, e57_40, w57_40, c57_41, c57_42, c57_43, c57_44, pairV, e]
  · omega
theorem message_within_ok (n lo hi : Int) : PCalls PR i_message_within [.int .i64 n, .int .i64 lo, .int .i64 hi] (fun v => v = .bool (decide (lo ≤ n ∧ n ≤ hi))) := by
  refine acalls_pop fn_message_within_ok (by simp [fn_message_within]) ?_
  simp -implicitDefEqProofs (disch := omega) only [go_sem, Nat.reduceAdd, Nat.reduceMul, Nat.reduceSub, Nat.reduceBEq, Nat.reduceLeDiff, Nat.reduceLT, fn_message_within, e60_1, w60_1, e60_3, w60_3, c60_4, c60_5]
  refine ifD (fun h => ?_) (fun h => ?_)
  · simp -implicitDefEqProofs (disch := omega) only [go_sem, Nat.reduceAdd, Nat.reduceMul, Nat.reduceSub, Nat.reduceBEq, Nat.reduceLeDiff, Nat.reduceLT, fn_message_within, e60_1, w60_1, e60_3, w60_3, c60_4, c60_5]
    exact decide_eq_decide.2 (by omega)
  · simp -implicitDefEqProofs (disch := omega) only [go_sem, Nat.reduceAdd, Nat.reduceMul, Nat.reduceSub, Nat.reduceBEq, Nat.reduceLeDiff, Nat.reduceLT, fn_message_within, e60_1, w60_1, e60_3, w60_3, c60_4, c60_5]
    symm
    exact decide_eq_false (by omega)
theorem date_Valid_ok (n : Int) : PCalls PR i_date_Valid [.int .i64 n] (fun v => v = .bool (decide (0 ≤ n ∧ n ≤ 36524))) := by
  refine acalls_pop fn_date_Valid_ok (by simp [fn_date_Valid]) ?_
  simp -implicitDefEqProofs (disch := omega) only [go_sem, Nat.reduceAdd, Nat.reduceMul, Nat.reduceSub, Nat.reduceBEq, Nat.reduceLeDiff, Nat.reduceLT, fn_date_Valid, e62_1, w62_1, e62_3, w62_3, c62_4, c62_5]
  refine ifD (fun h => ?_) (fun h => ?_)
  · simp -implicitDefEqProofs (disch := omega) only [go_sem, Nat.reduceAdd, Nat.reduceMul, Nat.reduceSub, Nat.reduceBEq, Nat.reduceLeDiff, Nat.reduceLT, fn_date_Valid, e62_1, w62_1, e62_3, w62_3, c62_4, c62_5]
    exact decide_eq_decide.2 (by omega)
  · simp -implicitDefEqProofs (disch := omega) only [go_sem, Nat.reduceAdd, Nat.reduceMul, Nat.reduceSub, Nat.reduceBEq, Nat.reduceLeDiff, Nat.reduceLT, fn_date_Valid, e62_1, w62_1, e62_3, w62_3, c62_4, c62_5]
    symm
    exact decide_eq_false (by omega)

/-- What a kind uses: call, seconds, route, calls. -/
structure Uses where
  c : Bool
  s : Bool
  r : Bool
  k : Bool
def usesOf (n : Int) : Uses := ⟨decide (n = 1 ∨ n = 3), decide (n = 1), decide (n = 5), decide (n = 4 ∨ n = 5)⟩
def Uses.row (u : Uses) : List V := [.bool u.c, .bool u.s, .bool u.r, .bool u.r, .bool u.k]
/-- The errors of what depends on the kind. -/
def rangeBad (m : Msg) (u : Uses) : Prop := (u.c = true ∧ ¬ (0 ≤ m.callNo ∧ m.callNo ≤ 31)) ∨ (u.s = true ∧ ¬ (-43200 ≤ m.secs ∧ m.secs ≤ 43200)) ∨ (u.r = true ∧ ¬ (0 ≤ m.route ∧ m.route ≤ 63))
def argBad (m : Msg) (u : Uses) : Prop := (u.c = false ∧ m.callNo ≠ 0) ∨ (u.s = false ∧ m.secs ≠ 0) ∨ (u.r = false ∧ (m.route ≠ 0 ∨ m.free = true)) ∨ (u.k = false ∧ 0 < m.calls.length)
instance (m : Msg) (u : Uses) : Decidable (rangeBad m u) := by unfold rangeBad; exact inferInstance
instance (m : Msg) (u : Uses) : Decidable (argBad m u) := by unfold argBad; exact inferInstance
def callsErr (m : Msg) (u : Uses) : Int := if u.k = true then (checkC m.calls 64 0 3155932800).2 else 0
def kindErr (m : Msg) (u : Uses) : Int := if rangeBad m u then 2 else if callsErr m u ≠ 0 then callsErr m u else if argBad m u then 1 else 0
def checkM (m : Msg) : Int :=
  if ¬ (0 ≤ m.src ∧ m.src ≤ 7) then 36 else if m.seq < 1 then 2 else if ¬ (0 ≤ m.iss ∧ m.iss ≤ 3155932800) ∨ ¬ (0 ≤ m.exp ∧ m.exp ≤ 3155932800) ∨ m.exp ≤ m.iss then 10
  else if ¬ (1 ≤ m.kind ∧ m.kind ≤ 6) then 35 else if okName m.trip = false then 12 else if ¬ (0 ≤ m.day ∧ m.day ≤ 36524) then 11 else if m.inst < 0 then 2 else kindErr m (usesOf m.kind)

theorem message_used_ok (n : Int) : PCalls PR i_message_used [.int .i64 n] (fun v => v = .agg (usesOf n).row) := by
  refine acalls_pop fn_message_used_ok (by simp [fn_message_used]) ?_
  simp -implicitDefEqProofs (disch := omega) only [go_sem, Nat.reduceAdd, Nat.reduceMul, Nat.reduceSub, Nat.reduceBEq, Nat.reduceLeDiff, Nat.reduceLT, fn_message_used, e64_1, w64_1, e64_3, w64_3, e64_5, w64_5, c64_6, e64_8, w64_8, c64_9, e64_11, w64_11, c64_12, e64_14, w64_14, c64_15, e64_17, w64_17, e64_19, w64_19, e64_21, w64_21, e64_23, w64_23, c64_24, c64_25, e64_27, w64_27, c64_28, c64_29, c64_30]
  refine ifD (fun h => ?_) (fun h => ?_)
  · subst h
    simp -implicitDefEqProofs (disch := omega) only [go_sem, Nat.reduceAdd, Nat.reduceMul, Nat.reduceSub, Nat.reduceBEq, Nat.reduceLeDiff, Nat.reduceLT, fn_message_used, e64_1, w64_1, e64_3, w64_3, e64_5, w64_5, c64_6, e64_8, w64_8, c64_9, e64_11, w64_11, c64_12, e64_14, w64_14, c64_15, e64_17, w64_17, e64_19, w64_19, e64_21, w64_21, e64_23, w64_23, c64_24, c64_25, e64_27, w64_27, c64_28, c64_29, c64_30, Uses.row, usesOf]
    rfl
  simp -implicitDefEqProofs (disch := omega) only [go_sem, Nat.reduceAdd, Nat.reduceMul, Nat.reduceSub, Nat.reduceBEq, Nat.reduceLeDiff, Nat.reduceLT, fn_message_used, e64_1, w64_1, e64_3, w64_3, e64_5, w64_5, c64_6, e64_8, w64_8, c64_9, e64_11, w64_11, c64_12, e64_14, w64_14, c64_15, e64_17, w64_17, e64_19, w64_19, e64_21, w64_21, e64_23, w64_23, c64_24, c64_25, e64_27, w64_27, c64_28, c64_29, c64_30]
  refine ifD (fun h2 => ?_) (fun h2 => ?_)
  · subst h2
    simp -implicitDefEqProofs (disch := omega) only [go_sem, Nat.reduceAdd, Nat.reduceMul, Nat.reduceSub, Nat.reduceBEq, Nat.reduceLeDiff, Nat.reduceLT, fn_message_used, e64_1, w64_1, e64_3, w64_3, e64_5, w64_5, c64_6, e64_8, w64_8, c64_9, e64_11, w64_11, c64_12, e64_14, w64_14, c64_15, e64_17, w64_17, e64_19, w64_19, e64_21, w64_21, e64_23, w64_23, c64_24, c64_25, e64_27, w64_27, c64_28, c64_29, c64_30, Uses.row, usesOf]
    rfl
  simp -implicitDefEqProofs (disch := omega) only [go_sem, Nat.reduceAdd, Nat.reduceMul, Nat.reduceSub, Nat.reduceBEq, Nat.reduceLeDiff, Nat.reduceLT, fn_message_used, e64_1, w64_1, e64_3, w64_3, e64_5, w64_5, c64_6, e64_8, w64_8, c64_9, e64_11, w64_11, c64_12, e64_14, w64_14, c64_15, e64_17, w64_17, e64_19, w64_19, e64_21, w64_21, e64_23, w64_23, c64_24, c64_25, e64_27, w64_27, c64_28, c64_29, c64_30]
  refine ifD (fun h3 => ?_) (fun h3 => ?_)
  · subst h3
    simp -implicitDefEqProofs (disch := omega) only [go_sem, Nat.reduceAdd, Nat.reduceMul, Nat.reduceSub, Nat.reduceBEq, Nat.reduceLeDiff, Nat.reduceLT, fn_message_used, e64_1, w64_1, e64_3, w64_3, e64_5, w64_5, c64_6, e64_8, w64_8, c64_9, e64_11, w64_11, c64_12, e64_14, w64_14, c64_15, e64_17, w64_17, e64_19, w64_19, e64_21, w64_21, e64_23, w64_23, c64_24, c64_25, e64_27, w64_27, c64_28, c64_29, c64_30, Uses.row, usesOf]
    rfl
  simp -implicitDefEqProofs (disch := omega) only [go_sem, Nat.reduceAdd, Nat.reduceMul, Nat.reduceSub, Nat.reduceBEq, Nat.reduceLeDiff, Nat.reduceLT, fn_message_used, e64_1, w64_1, e64_3, w64_3, e64_5, w64_5, c64_6, e64_8, w64_8, c64_9, e64_11, w64_11, c64_12, e64_14, w64_14, c64_15, e64_17, w64_17, e64_19, w64_19, e64_21, w64_21, e64_23, w64_23, c64_24, c64_25, e64_27, w64_27, c64_28, c64_29, c64_30]
  refine ifD (fun h4 => ?_) (fun h4 => ?_)
  · subst h4
    simp -implicitDefEqProofs (disch := omega) only [go_sem, Nat.reduceAdd, Nat.reduceMul, Nat.reduceSub, Nat.reduceBEq, Nat.reduceLeDiff, Nat.reduceLT, fn_message_used, e64_1, w64_1, e64_3, w64_3, e64_5, w64_5, c64_6, e64_8, w64_8, c64_9, e64_11, w64_11, c64_12, e64_14, w64_14, c64_15, e64_17, w64_17, e64_19, w64_19, e64_21, w64_21, e64_23, w64_23, c64_24, c64_25, e64_27, w64_27, c64_28, c64_29, c64_30, Uses.row, usesOf]
    rfl
  have e1 : decide (n = 1 ∨ n = 3) = false := decide_eq_false (by omega)
  have e2 : decide (n = 1) = false := decide_eq_false (by omega)
  have e3 : decide (n = 5) = false := decide_eq_false (by omega)
  have e4 : decide (n = 4 ∨ n = 5) = false := decide_eq_false (by omega)
  simp -implicitDefEqProofs (disch := omega) only [go_sem, Nat.reduceAdd, Nat.reduceMul, Nat.reduceSub, Nat.reduceBEq, Nat.reduceLeDiff, Nat.reduceLT, fn_message_used, e64_1, w64_1, e64_3, w64_3, e64_5, w64_5, c64_6, e64_8, w64_8, c64_9, e64_11, w64_11, c64_12, e64_14, w64_14, c64_15, e64_17, w64_17, e64_19, w64_19, e64_21, w64_21, e64_23, w64_23, c64_24, c64_25, e64_27, w64_27, c64_28, c64_29, c64_30, Uses.row, usesOf, e1, e2, e3, e4]

theorem checkKind_tail (m : Msg) (u : Uses) (Q : Exit → Slots → Mem → Prop) (M : Mem) (hM : M = [.box m.row, .box u.row]) (h1 : argBad m u → Q .ret [(4, .int .i64 1)] M) (h0 : ¬ argBad m u → Q .ret [(4, .int .i64 0)] M) : ∀ s, sget s 2 = .ptr 0 0 → sget s 3 = .ptr 1 0 → wpC PR c63_25 Q s M := by
  subst hM
  intro s g2 g3
  obtain ⟨c, x, r, k⟩ := u
  obtain ⟨m1, m2, m3, m4, m5, m6, m7, m8, m9, m10, m11, m12, m13, m14⟩ := m
  cases c <;> cases x <;> cases r <;> cases k <;> cases m12
  all_goals
    simp -implicitDefEqProofs (disch := omega) only [go_sem, Nat.reduceAdd, Nat.reduceMul, Nat.reduceSub, Nat.reduceBEq, Nat.reduceLeDiff, Nat.reduceLT, fn_message_checkKind, e63_1, w63_1, e63_3, w63_3, c63_4, e63_6, w63_6, e63_8, w63_8, e63_10, w63_10, c63_11, e63_13, w63_13, c63_14, e63_16, w63_16, e63_18, w63_18, c63_19, e63_21, w63_21, e63_23, w63_23, c63_24, c63_25, c63_26, c63_27, c63_28, g2, g3, Msg.row, Uses.row, lenV_slice]
    repeat' (first
      | simp -implicitDefEqProofs (disch := omega) only [go_sem, Nat.reduceAdd, Nat.reduceMul, Nat.reduceSub, Nat.reduceBEq, Nat.reduceLeDiff, Nat.reduceLT, fn_message_checkKind, e63_1, w63_1, e63_3, w63_3, c63_4, e63_6, w63_6, e63_8, w63_8, e63_10, w63_10, c63_11, e63_13, w63_13, c63_14, e63_16, w63_16, e63_18, w63_18, c63_19, e63_21, w63_21, e63_23, w63_23, c63_24, c63_25, c63_26, c63_27, c63_28, g2, g3, Msg.row, Uses.row, lenV_slice]
      | (refine ifD (fun h => ?_) (fun h => ?_)))
  all_goals first
    | (refine h1 ?_
       simp only [argBad, true_and, Bool.false_eq_true, Bool.true_eq_false, false_and, or_true, or_false, true_or, false_or, ne_eq]
       try (first | trivial | omega | (simp; omega))
       done)
    | (refine h0 ?_
       simp only [argBad, true_and, Bool.false_eq_true, Bool.true_eq_false, false_and, or_true, or_false, true_or, false_or, ne_eq]
       try (first | trivial | omega | (simp; omega))
       done)

end Go.Vm.C

