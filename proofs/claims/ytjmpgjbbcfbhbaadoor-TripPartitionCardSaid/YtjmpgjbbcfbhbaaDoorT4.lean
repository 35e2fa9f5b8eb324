/- Contracts: identifiers, calls, Find, Between, Overtakes, the reference's group. -/
import Derived.Test.YtjmpgjbbcfbhbaaDoorT3

namespace Go.Vm.C
open Go.Vm
set_option maxHeartbeats 1000000
set_option maxRecDepth 10000
set_option linter.unusedSimpArgs false
set_option linter.unusedVariables false

/-! ### Numbers and identifiers -/
def within (n low high : Int) : Bool := decide (low ≤ n) && decide (n ≤ high)

/-- A character of an identifier. -/
def letter (c : UInt8) : Bool :=
  (decide (97 ≤ c.toNat) && decide (c.toNat ≤ 122)) || (decide (65 ≤ c.toNat) && decide (c.toNat ≤ 90)) || (decide (48 ≤ c.toNat) && decide (c.toNat ≤ 57))
def mark (c : UInt8) : Bool := decide (c.toNat = 45) || decide (c.toNat = 95) || decide (c.toNat = 46)
def okChar (c : UInt8) : Bool := letter c || mark c
def okName (s : List UInt8) : Bool := s.all okChar && decide (0 < s.length) && decide (s.length ≤ 32)

theorem all_take_succ {s : List UInt8} {i : Nat} {c : UInt8} (h : s[i]? = some c) (p : UInt8 → Bool) : (s.take (i + 1)).all p = ((s.take i).all p && p c) := by
  rw [List.take_add_one, h]
  simp [List.all_append]

theorem all_false {s : List UInt8} {i : Nat} {c : UInt8} (h : s[i]? = some c) {p : UInt8 → Bool} (hp : p c = false) : s.all p = false := by
  rw [List.all_eq_false]
  exact ⟨c, List.mem_of_getElem? h, by simp [hp]⟩

theorem okChar_iff (c : UInt8) : okChar c = true ↔ (97 ≤ c.toNat ∧ c.toNat ≤ 122) ∨ (65 ≤ c.toNat ∧ c.toNat ≤ 90) ∨ (48 ≤ c.toNat ∧ c.toNat ≤ 57) ∨ c.toNat = 45 ∨ c.toNat = 95 ∨ c.toNat = 46 := by
  simp only [okChar, letter, mark, Bool.or_eq_true, Bool.and_eq_true, decide_eq_true_eq]
  omega

theorem okName_false {s : List UInt8} {i : Nat} {c : UInt8} (h : s[i]? = some c) (hc : okChar c = false) : okName s = false := by
  rw [okName, all_false h hc]; rfl
theorem okChar_false (c : UInt8) (h : ¬ ((97 ≤ c.toNat ∧ c.toNat ≤ 122) ∨ (65 ≤ c.toNat ∧ c.toNat ≤ 90) ∨ (48 ≤ c.toNat ∧ c.toNat ≤ 57) ∨ c.toNat = 45 ∨ c.toNat = 95 ∨ c.toNat = 46)) : okChar c = false := by
  rw [← Bool.not_eq_true, okChar_iff]; exact h

theorem ident_Valid_ok (s : List UInt8) (hs : s.length ≤ maxLen) : PCalls PR i_ident_Valid [.str s] (fun v => v = .bool (okName s)) := by
  have hm : maxLen = 9223372036854775807 := by rfl
  refine acalls_pop fn_ident_Valid_ok (by simp [fn_ident_Valid]) ?_
  simp -implicitDefEqProofs (disch := omega) only [go_sem, Nat.reduceAdd, Nat.reduceMul, Nat.reduceSub, Nat.reduceBEq, Nat.reduceLeDiff, Nat.reduceLT, fn_ident_Valid, e31_1, w31_1, e31_3, w31_3, e31_5, w31_5, e31_7, w31_7, e31_9, w31_9, e31_11, w31_11, e31_13, w31_13, e31_15, w31_15, e31_17, w31_17, e31_19, w31_19, e31_21, w31_21, c31_22, c31_23, c31_24, c31_25, c31_26, c31_27, c31_28, c31_29, e31_31, w31_31, c31_32, c31_33, c31_34, c31_35, c31_36, e31_38, w31_38, c31_39, c31_40, c31_41]
  refine wpC_forL s (fun i vs M => (s.take i).all okChar = true ∧ vs = [.str s, .int .i64 i] ∧ M = []) ⟨by simp, rfl, rfl⟩ ?_ ?_
  · rintro i c vs M hc hi hd ⟨hall, rfl, rfl⟩
    simp -implicitDefEqProofs (disch := omega) only [go_sem, Nat.reduceAdd, Nat.reduceMul, Nat.reduceSub, Nat.reduceBEq, Nat.reduceLeDiff, Nat.reduceLT, fn_ident_Valid, e31_1, w31_1, e31_3, w31_3, e31_5, w31_5, e31_7, w31_7, e31_9, w31_9, e31_11, w31_11, e31_13, w31_13, e31_15, w31_15, e31_17, w31_17, e31_19, w31_19, e31_21, w31_21, c31_22, c31_23, c31_24, c31_25, c31_26, c31_27, c31_28, c31_29, e31_31, w31_31, c31_32, c31_33, c31_34, c31_35, c31_36, e31_38, w31_38, c31_39, c31_40, c31_41, open_if, hd, hc]
    repeat' (refine BIf_dec (fun h => ?_) (fun h => ?_))
    all_goals first
      | (refine next_stay hi ⟨?_, rfl, rfl⟩
         rw [all_take_succ hc, hall, (okChar_iff c).2 (by omega)]; rfl)
      | (rw [okName_false hc (okChar_false c (by omega))])
  · rintro vs M ⟨hall, rfl, rfl⟩
    rw [List.take_length] at hall
    simp -implicitDefEqProofs (disch := omega) only [go_sem, Nat.reduceAdd, Nat.reduceMul, Nat.reduceSub, Nat.reduceBEq, Nat.reduceLeDiff, Nat.reduceLT, fn_ident_Valid, e31_1, w31_1, e31_3, w31_3, e31_5, w31_5, e31_7, w31_7, e31_9, w31_9, e31_11, w31_11, e31_13, w31_13, e31_15, w31_15, e31_17, w31_17, e31_19, w31_19, e31_21, w31_21, c31_22, c31_23, c31_24, c31_25, c31_26, c31_27, c31_28, c31_29, e31_31, w31_31, c31_32, c31_33, c31_34, c31_35, c31_36, e31_38, w31_38, c31_39, c31_40, c31_41, dec_irrefl]
    refine ifD (fun h => ?_) (fun h => ?_)
    · have h3 : 0 < s.length := by omega
      simp -implicitDefEqProofs (disch := omega) only [go_sem, Nat.reduceAdd, Nat.reduceMul, Nat.reduceSub, Nat.reduceBEq, Nat.reduceLeDiff, Nat.reduceLT, fn_ident_Valid, e31_1, w31_1, e31_3, w31_3, e31_5, w31_5, e31_7, w31_7, e31_9, w31_9, e31_11, w31_11, e31_13, w31_13, e31_15, w31_15, e31_17, w31_17, e31_19, w31_19, e31_21, w31_21, c31_22, c31_23, c31_24, c31_25, c31_26, c31_27, c31_28, c31_29, e31_31, w31_31, c31_32, c31_33, c31_34, c31_35, c31_36, e31_38, w31_38, c31_39, c31_40, c31_41, okName, hall, h3]
      exact decide_eq_decide.2 (by omega)
    · have h3 : ¬ 0 < s.length := by omega
      simp -implicitDefEqProofs (disch := omega) only [go_sem, Nat.reduceAdd, Nat.reduceMul, Nat.reduceSub, Nat.reduceBEq, Nat.reduceLeDiff, Nat.reduceLT, fn_ident_Valid, e31_1, w31_1, e31_3, w31_3, e31_5, w31_5, e31_7, w31_7, e31_9, w31_9, e31_11, w31_11, e31_13, w31_13, e31_15, w31_15, e31_17, w31_17, e31_19, w31_19, e31_21, w31_21, c31_22, c31_23, c31_24, c31_25, c31_26, c31_27, c31_28, c31_29, e31_31, w31_31, c31_32, c31_33, c31_34, c31_35, c31_36, e31_38, w31_38, c31_39, c31_40, c31_41]
      simp [okName, h3]

/-! ### The check of calls -/
def oneErr (c p : Stay) (i : Nat) (stops low high : Int) : Int :=
  if c.stop < 0 ∨ stops ≤ c.stop then 9 else if 0 < i ∧ p.stop = c.stop then 13 else if c.arrive < low ∨ c.depart < c.arrive ∨ high < c.depart ∨ (0 < i ∧ c.arrive < p.depart) then 10 else 0
def errAt (l : List Stay) (stops low high : Int) (i : Nat) : Int :=
  match l[i]?, l[i - 1]? with
  | some c, some p => oneErr c p i stops low high
  | _, _ => 0
def firstBad (g : Nat → Int) : Nat → Option Nat
  | 0 => none
  | n + 1 => match firstBad g n with
    | some i => some i
    | none => if g n ≠ 0 then some n else none
theorem firstBad_none {g : Nat → Int} : ∀ n, (∀ j, j < n → g j = 0) → firstBad g n = none
  | 0, _ => rfl
  | n + 1, h => by rw [firstBad, firstBad_none n (fun j hj => h j (by omega))]; simp [h n (by omega)]
theorem firstBad_some {g : Nat → Int} {i : Nat} (hi : g i ≠ 0) (hz : ∀ j, j < i → g j = 0) : ∀ m, firstBad g (i + 1 + m) = some i
  | 0 => by rw [Nat.add_zero, firstBad, firstBad_none i hz]; simp [hi]
  | m + 1 => by rw [← Nat.add_assoc, firstBad, firstBad_some hi hz m]
theorem firstBad_at {g : Nat → Int} {i n : Nat} (hi : g i ≠ 0) (hz : ∀ j, j < i → g j = 0) (h : i < n) : firstBad g n = some i := by
  obtain ⟨m, rfl⟩ : ∃ m, n = i + 1 + m := ⟨n - (i + 1), by omega⟩
  exact firstBad_some hi hz m
/-- The first error, and where. -/
def checkC (l : List Stay) (stops low high : Int) : Int × Int :=
  if l.length < 2 ∨ 32 < l.length then (0, 5) else match firstBad (errAt l stops low high) l.length with
  | some i => (i, errAt l stops low high i)
  | none => (0, 0)
def pairV (p : Int × Int) : V := .tuple [.int .i64 p.1, .int .i64 p.2]

theorem call_one_ok (l : List Stay) (c : Cap) (i : Nat) (stops low high : Int) (hi : i < l.length) (hlen : l.length ≤ 1000) : PCalls PR i_call_one [.slice (l.map Stay.row) c, .int .i64 i, .int .i64 stops, .int .i64 low, .int .i64 high] (fun v => v = .int .i64 (errAt l stops low high i)) := by
  obtain ⟨a, ha⟩ : ∃ a, l[i]? = some a := ⟨l[i], by simp⟩
  obtain ⟨b, hb⟩ : ∃ b, l[i - 1]? = some b := ⟨l[i - 1], by simp⟩
  have he : errAt l stops low high i = oneErr a b i stops low high := by simp only [errAt, ha, hb]
  refine acalls_pop fn_call_one_ok (by simp [fn_call_one]) ?_
  simp -implicitDefEqProofs (disch := omega) only [go_sem, Nat.reduceAdd, Nat.reduceMul, Nat.reduceSub, Nat.reduceBEq, Nat.reduceLeDiff, Nat.reduceLT, fn_call_one, e37_1, w37_1, e37_3, w37_3, e37_5, w37_5, c37_6, e37_8, w37_8, e37_10, w37_10, c37_11, e37_13, w37_13, e37_15, w37_15, c37_16, e37_18, w37_18, e37_20, w37_20, c37_21, c37_22, c37_23, c37_24, c37_25, c37_26, ha, Stay.row]
  refine ifD (fun h1 => ?_) (fun h1 => ?_)
  · have e : oneErr a b i stops low high = 9 := by rw [oneErr, if_pos (.inl h1)]
    simp -implicitDefEqProofs (disch := omega) only [go_sem, Nat.reduceAdd, Nat.reduceMul, Nat.reduceSub, Nat.reduceBEq, Nat.reduceLeDiff, Nat.reduceLT, fn_call_one, e37_1, w37_1, e37_3, w37_3, e37_5, w37_5, c37_6, e37_8, w37_8, e37_10, w37_10, c37_11, e37_13, w37_13, e37_15, w37_15, c37_16, e37_18, w37_18, e37_20, w37_20, c37_21, c37_22, c37_23, c37_24, c37_25, c37_26, he, e]
  simp -implicitDefEqProofs (disch := omega) only [go_sem, Nat.reduceAdd, Nat.reduceMul, Nat.reduceSub, Nat.reduceBEq, Nat.reduceLeDiff, Nat.reduceLT, fn_call_one, e37_1, w37_1, e37_3, w37_3, e37_5, w37_5, c37_6, e37_8, w37_8, e37_10, w37_10, c37_11, e37_13, w37_13, e37_15, w37_15, c37_16, e37_18, w37_18, e37_20, w37_20, c37_21, c37_22, c37_23, c37_24, c37_25, c37_26]
  refine ifD (fun h2 => ?_) (fun h2 => ?_)
  · have e : oneErr a b i stops low high = 9 := by rw [oneErr, if_pos (.inr h2)]
    simp -implicitDefEqProofs (disch := omega) only [go_sem, Nat.reduceAdd, Nat.reduceMul, Nat.reduceSub, Nat.reduceBEq, Nat.reduceLeDiff, Nat.reduceLT, fn_call_one, e37_1, w37_1, e37_3, w37_3, e37_5, w37_5, c37_6, e37_8, w37_8, e37_10, w37_10, c37_11, e37_13, w37_13, e37_15, w37_15, c37_16, e37_18, w37_18, e37_20, w37_20, c37_21, c37_22, c37_23, c37_24, c37_25, c37_26, he, e]
  have e1 : oneErr a b i stops low high = if 0 < i ∧ b.stop = a.stop then 13 else if a.arrive < low ∨ a.depart < a.arrive ∨ high < a.depart ∨ (0 < i ∧ a.arrive < b.depart) then 10 else 0 := by rw [oneErr, if_neg (by omega)]
  simp -implicitDefEqProofs (disch := omega) only [go_sem, Nat.reduceAdd, Nat.reduceMul, Nat.reduceSub, Nat.reduceBEq, Nat.reduceLeDiff, Nat.reduceLT, fn_call_one, e37_1, w37_1, e37_3, w37_3, e37_5, w37_5, c37_6, e37_8, w37_8, e37_10, w37_10, c37_11, e37_13, w37_13, e37_15, w37_15, c37_16, e37_18, w37_18, e37_20, w37_20, c37_21, c37_22, c37_23, c37_24, c37_25, c37_26]
  refine ifD (fun h3 => ?_) (fun h3 => ?_)
  · simp -implicitDefEqProofs (disch := omega) only [go_sem, Nat.reduceAdd, Nat.reduceMul, Nat.reduceSub, Nat.reduceBEq, Nat.reduceLeDiff, Nat.reduceLT, fn_call_one, e37_1, w37_1, e37_3, w37_3, e37_5, w37_5, c37_6, e37_8, w37_8, e37_10, w37_10, c37_11, e37_13, w37_13, e37_15, w37_15, c37_16, e37_18, w37_18, e37_20, w37_20, c37_21, c37_22, c37_23, c37_24, c37_25, c37_26, hb, Stay.row]
    refine ifD (fun h4 => ?_) (fun h4 => ?_)
    · have e : oneErr a b i stops low high = 13 := by rw [e1, if_pos ⟨by omega, h4⟩]
      simp -implicitDefEqProofs (disch := omega) only [go_sem, Nat.reduceAdd, Nat.reduceMul, Nat.reduceSub, Nat.reduceBEq, Nat.reduceLeDiff, Nat.reduceLT, fn_call_one, e37_1, w37_1, e37_3, w37_3, e37_5, w37_5, c37_6, e37_8, w37_8, e37_10, w37_10, c37_11, e37_13, w37_13, e37_15, w37_15, c37_16, e37_18, w37_18, e37_20, w37_20, c37_21, c37_22, c37_23, c37_24, c37_25, c37_26, he, e]
    have e2 : oneErr a b i stops low high = if a.arrive < low ∨ a.depart < a.arrive ∨ high < a.depart ∨ (0 < i ∧ a.arrive < b.depart) then 10 else 0 := by rw [e1, if_neg (fun h => h4 h.2)]
    simp -implicitDefEqProofs (disch := omega) only [go_sem, Nat.reduceAdd, Nat.reduceMul, Nat.reduceSub, Nat.reduceBEq, Nat.reduceLeDiff, Nat.reduceLT, fn_call_one, e37_1, w37_1, e37_3, w37_3, e37_5, w37_5, c37_6, e37_8, w37_8, e37_10, w37_10, c37_11, e37_13, w37_13, e37_15, w37_15, c37_16, e37_18, w37_18, e37_20, w37_20, c37_21, c37_22, c37_23, c37_24, c37_25, c37_26]
    refine ifD (fun h5 => ?_) (fun h5 => ?_)
    · have e : oneErr a b i stops low high = 10 := by rw [e2, if_pos (by omega)]
      simp -implicitDefEqProofs (disch := omega) only [go_sem, Nat.reduceAdd, Nat.reduceMul, Nat.reduceSub, Nat.reduceBEq, Nat.reduceLeDiff, Nat.reduceLT, fn_call_one, e37_1, w37_1, e37_3, w37_3, e37_5, w37_5, c37_6, e37_8, w37_8, e37_10, w37_10, c37_11, e37_13, w37_13, e37_15, w37_15, c37_16, e37_18, w37_18, e37_20, w37_20, c37_21, c37_22, c37_23, c37_24, c37_25, c37_26, he, e]
    simp -implicitDefEqProofs (disch := omega) only [go_sem, Nat.reduceAdd, Nat.reduceMul, Nat.reduceSub, Nat.reduceBEq, Nat.reduceLeDiff, Nat.reduceLT, fn_call_one, e37_1, w37_1, e37_3, w37_3, e37_5, w37_5, c37_6, e37_8, w37_8, e37_10, w37_10, c37_11, e37_13, w37_13, e37_15, w37_15, c37_16, e37_18, w37_18, e37_20, w37_20, c37_21, c37_22, c37_23, c37_24, c37_25, c37_26]
    refine ifD (fun h6 => ?_) (fun h6 => ?_)
    · have e : oneErr a b i stops low high = 10 := by rw [e2, if_pos (by omega)]
      simp -implicitDefEqProofs (disch := omega) only [go_sem, Nat.reduceAdd, Nat.reduceMul, Nat.reduceSub, Nat.reduceBEq, Nat.reduceLeDiff, Nat.reduceLT, fn_call_one, e37_1, w37_1, e37_3, w37_3, e37_5, w37_5, c37_6, e37_8, w37_8, e37_10, w37_10, c37_11, e37_13, w37_13, e37_15, w37_15, c37_16, e37_18, w37_18, e37_20, w37_20, c37_21, c37_22, c37_23, c37_24, c37_25, c37_26, he, e]
    simp -implicitDefEqProofs (disch := omega) only [go_sem, Nat.reduceAdd, Nat.reduceMul, Nat.reduceSub, Nat.reduceBEq, Nat.reduceLeDiff, Nat.reduceLT, fn_call_one, e37_1, w37_1, e37_3, w37_3, e37_5, w37_5, c37_6, e37_8, w37_8, e37_10, w37_10, c37_11, e37_13, w37_13, e37_15, w37_15, c37_16, e37_18, w37_18, e37_20, w37_20, c37_21, c37_22, c37_23, c37_24, c37_25, c37_26]
    refine ifD (fun h7 => ?_) (fun h7 => ?_)
    · have e : oneErr a b i stops low high = 10 := by rw [e2, if_pos (by omega)]
      simp -implicitDefEqProofs (disch := omega) only [go_sem, Nat.reduceAdd, Nat.reduceMul, Nat.reduceSub, Nat.reduceBEq, Nat.reduceLeDiff, Nat.reduceLT, fn_call_one, e37_1, w37_1, e37_3, w37_3, e37_5, w37_5, c37_6, e37_8, w37_8, e37_10, w37_10, c37_11, e37_13, w37_13, e37_15, w37_15, c37_16, e37_18, w37_18, e37_20, w37_20, c37_21, c37_22, c37_23, c37_24, c37_25, c37_26, he, e]
    simp -implicitDefEqProofs (disch := omega) only [go_sem, Nat.reduceAdd, Nat.reduceMul, Nat.reduceSub, Nat.reduceBEq, Nat.reduceLeDiff, Nat.reduceLT, fn_call_one, e37_1, w37_1, e37_3, w37_3, e37_5, w37_5, c37_6, e37_8, w37_8, e37_10, w37_10, c37_11, e37_13, w37_13, e37_15, w37_15, c37_16, e37_18, w37_18, e37_20, w37_20, c37_21, c37_22, c37_23, c37_24, c37_25, c37_26]
    refine ifD (fun h8 => ?_) (fun h8 => ?_)
    rotate_left
    · omega
    simp -implicitDefEqProofs (disch := omega) only [go_sem, Nat.reduceAdd, Nat.reduceMul, Nat.reduceSub, Nat.reduceBEq, Nat.reduceLeDiff, Nat.reduceLT, fn_call_one, e37_1, w37_1, e37_3, w37_3, e37_5, w37_5, c37_6, e37_8, w37_8, e37_10, w37_10, c37_11, e37_13, w37_13, e37_15, w37_15, c37_16, e37_18, w37_18, e37_20, w37_20, c37_21, c37_22, c37_23, c37_24, c37_25, c37_26, hb, Stay.row]
    refine ifD (fun h9 => ?_) (fun h9 => ?_)
    · have e : oneErr a b i stops low high = 10 := by rw [e2, if_pos (by omega)]
      simp -implicitDefEqProofs (disch := omega) only [go_sem, Nat.reduceAdd, Nat.reduceMul, Nat.reduceSub, Nat.reduceBEq, Nat.reduceLeDiff, Nat.reduceLT, fn_call_one, e37_1, w37_1, e37_3, w37_3, e37_5, w37_5, c37_6, e37_8, w37_8, e37_10, w37_10, c37_11, e37_13, w37_13, e37_15, w37_15, c37_16, e37_18, w37_18, e37_20, w37_20, c37_21, c37_22, c37_23, c37_24, c37_25, c37_26, he, e]
    · have e : oneErr a b i stops low high = 0 := by rw [e2, if_neg (by omega)]
      simp -implicitDefEqProofs (disch := omega) only [go_sem, Nat.reduceAdd, Nat.reduceMul, Nat.reduceSub, Nat.reduceBEq, Nat.reduceLeDiff, Nat.reduceLT, fn_call_one, e37_1, w37_1, e37_3, w37_3, e37_5, w37_5, c37_6, e37_8, w37_8, e37_10, w37_10, c37_11, e37_13, w37_13, e37_15, w37_15, c37_16, e37_18, w37_18, e37_20, w37_20, c37_21, c37_22, c37_23, c37_24, c37_25, c37_26, he, e]
  · have e2 : oneErr a b i stops low high = if a.arrive < low ∨ a.depart < a.arrive ∨ high < a.depart ∨ (0 < i ∧ a.arrive < b.depart) then 10 else 0 := by rw [e1, if_neg (by omega)]
    simp -implicitDefEqProofs (disch := omega) only [go_sem, Nat.reduceAdd, Nat.reduceMul, Nat.reduceSub, Nat.reduceBEq, Nat.reduceLeDiff, Nat.reduceLT, fn_call_one, e37_1, w37_1, e37_3, w37_3, e37_5, w37_5, c37_6, e37_8, w37_8, e37_10, w37_10, c37_11, e37_13, w37_13, e37_15, w37_15, c37_16, e37_18, w37_18, e37_20, w37_20, c37_21, c37_22, c37_23, c37_24, c37_25, c37_26]
    refine ifD (fun h5 => ?_) (fun h5 => ?_)
    · have e : oneErr a b i stops low high = 10 := by rw [e2, if_pos (by omega)]
      simp -implicitDefEqProofs (disch := omega) only [go_sem, Nat.reduceAdd, Nat.reduceMul, Nat.reduceSub, Nat.reduceBEq, Nat.reduceLeDiff, Nat.reduceLT, fn_call_one, e37_1, w37_1, e37_3, w37_3, e37_5, w37_5, c37_6, e37_8, w37_8, e37_10, w37_10, c37_11, e37_13, w37_13, e37_15, w37_15, c37_16, e37_18, w37_18, e37_20, w37_20, c37_21, c37_22, c37_23, c37_24, c37_25, c37_26, he, e]
    simp -implicitDefEqProofs (disch := omega) only [go_sem, Nat.reduceAdd, Nat.reduceMul, Nat.reduceSub, Nat.reduceBEq, Nat.reduceLeDiff, Nat.reduceLT, fn_call_one, e37_1, w37_1, e37_3, w37_3, e37_5, w37_5, c37_6, e37_8, w37_8, e37_10, w37_10, c37_11, e37_13, w37_13, e37_15, w37_15, c37_16, e37_18, w37_18, e37_20, w37_20, c37_21, c37_22, c37_23, c37_24, c37_25, c37_26]
    refine ifD (fun h6 => ?_) (fun h6 => ?_)
    · have e : oneErr a b i stops low high = 10 := by rw [e2, if_pos (by omega)]
      simp -implicitDefEqProofs (disch := omega) only [go_sem, Nat.reduceAdd, Nat.reduceMul, Nat.reduceSub, Nat.reduceBEq, Nat.reduceLeDiff, Nat.reduceLT, fn_call_one, e37_1, w37_1, e37_3, w37_3, e37_5, w37_5, c37_6, e37_8, w37_8, e37_10, w37_10, c37_11, e37_13, w37_13, e37_15, w37_15, c37_16, e37_18, w37_18, e37_20, w37_20, c37_21, c37_22, c37_23, c37_24, c37_25, c37_26, he, e]
    simp -implicitDefEqProofs (disch := omega) only [go_sem, Nat.reduceAdd, Nat.reduceMul, Nat.reduceSub, Nat.reduceBEq, Nat.reduceLeDiff, Nat.reduceLT, fn_call_one, e37_1, w37_1, e37_3, w37_3, e37_5, w37_5, c37_6, e37_8, w37_8, e37_10, w37_10, c37_11, e37_13, w37_13, e37_15, w37_15, c37_16, e37_18, w37_18, e37_20, w37_20, c37_21, c37_22, c37_23, c37_24, c37_25, c37_26]
    refine ifD (fun h7 => ?_) (fun h7 => ?_)
    · have e : oneErr a b i stops low high = 10 := by rw [e2, if_pos (by omega)]
      simp -implicitDefEqProofs (disch := omega) only [go_sem, Nat.reduceAdd, Nat.reduceMul, Nat.reduceSub, Nat.reduceBEq, Nat.reduceLeDiff, Nat.reduceLT, fn_call_one, e37_1, w37_1, e37_3, w37_3, e37_5, w37_5, c37_6, e37_8, w37_8, e37_10, w37_10, c37_11, e37_13, w37_13, e37_15, w37_15, c37_16, e37_18, w37_18, e37_20, w37_20, c37_21, c37_22, c37_23, c37_24, c37_25, c37_26, he, e]
    simp -implicitDefEqProofs (disch := omega) only [go_sem, Nat.reduceAdd, Nat.reduceMul, Nat.reduceSub, Nat.reduceBEq, Nat.reduceLeDiff, Nat.reduceLT, fn_call_one, e37_1, w37_1, e37_3, w37_3, e37_5, w37_5, c37_6, e37_8, w37_8, e37_10, w37_10, c37_11, e37_13, w37_13, e37_15, w37_15, c37_16, e37_18, w37_18, e37_20, w37_20, c37_21, c37_22, c37_23, c37_24, c37_25, c37_26]
    refine ifD (fun h8 => ?_) (fun h8 => ?_)
    · omega
    have e : oneErr a b i stops low high = 0 := by rw [e2, if_neg (by omega)]
    simp -implicitDefEqProofs (disch := omega) only [go_sem, Nat.reduceAdd, Nat.reduceMul, Nat.reduceSub, Nat.reduceBEq, Nat.reduceLeDiff, Nat.reduceLT, fn_call_one, e37_1, w37_1, e37_3, w37_3, e37_5, w37_5, c37_6, e37_8, w37_8, e37_10, w37_10, c37_11, e37_13, w37_13, e37_15, w37_15, c37_16, e37_18, w37_18, e37_20, w37_20, c37_21, c37_22, c37_23, c37_24, c37_25, c37_26, he, e]

theorem call_Check_ok (l : List Stay) (c : Cap) (stops low high : Int) (hlen : l.length ≤ 1000) : PCalls PR i_call_Check [.slice (l.map Stay.row) c, .int .i64 stops, .int .i64 low, .int .i64 high] (fun v => v = pairV (checkC l stops low high)) := by
  refine acalls_pop fn_call_Check_ok (by simp [fn_call_Check]) ?_
  simp -implicitDefEqProofs (disch := omega) only [go_sem, Nat.reduceAdd, Nat.reduceMul, Nat.reduceSub, Nat.reduceBEq, Nat.reduceLeDiff, Nat.reduceLT, fn_call_Check, e32_1, w32_1, e32_3, w32_3, c32_4, e32_6, w32_6, e32_8, w32_8, e32_10, w32_10, c32_11, e32_13, w32_13, e32_15, w32_15, e32_17, w32_17, c32_18, e32_20, w32_20, c32_21, c32_22, c32_23, e32_25, w32_25, c32_26, c32_27, c32_28, c32_29, c32_30, c32_31, e32_33, w32_33, c32_34, c32_35, c32_36, c32_37]
  refine ifD (fun h1 => ?_) (fun h1 => ?_)
  · have e : checkC l stops low high = (0, 5) := by rw [checkC, if_pos (by omega)]
    simp -implicitDefEqProofs (disch := omega) only [go_sem, Nat.reduceAdd, Nat.reduceMul, Nat.reduceSub, Nat.reduceBEq, Nat.reduceLeDiff, Nat.reduceLT, fn_call_Check, e32_1, w32_1, e32_3, w32_3, c32_4, e32_6, w32_6, e32_8, w32_8, e32_10, w32_10, c32_11, e32_13, w32_13, e32_15, w32_15, e32_17, w32_17, c32_18, e32_20, w32_20, c32_21, c32_22, c32_23, e32_25, w32_25, c32_26, c32_27, c32_28, c32_29, c32_30, c32_31, e32_33, w32_33, c32_34, c32_35, c32_36, c32_37, pairV, e]
  simp -implicitDefEqProofs (disch := omega) only [go_sem, Nat.reduceAdd, Nat.reduceMul, Nat.reduceSub, Nat.reduceBEq, Nat.reduceLeDiff, Nat.reduceLT, fn_call_Check, e32_1, w32_1, e32_3, w32_3, c32_4, e32_6, w32_6, e32_8, w32_8, e32_10, w32_10, c32_11, e32_13, w32_13, e32_15, w32_15, e32_17, w32_17, c32_18, e32_20, w32_20, c32_21, c32_22, c32_23, e32_25, w32_25, c32_26, c32_27, c32_28, c32_29, c32_30, c32_31, e32_33, w32_33, c32_34, c32_35, c32_36, c32_37]
  refine ifD (fun h2 => ?_) (fun h2 => ?_)
  · have e : checkC l stops low high = (0, 5) := by rw [checkC, if_pos (by omega)]
    simp -implicitDefEqProofs (disch := omega) only [go_sem, Nat.reduceAdd, Nat.reduceMul, Nat.reduceSub, Nat.reduceBEq, Nat.reduceLeDiff, Nat.reduceLT, fn_call_Check, e32_1, w32_1, e32_3, w32_3, c32_4, e32_6, w32_6, e32_8, w32_8, e32_10, w32_10, c32_11, e32_13, w32_13, e32_15, w32_15, e32_17, w32_17, c32_18, e32_20, w32_20, c32_21, c32_22, c32_23, e32_25, w32_25, c32_26, c32_27, c32_28, c32_29, c32_30, c32_31, e32_33, w32_33, c32_34, c32_35, c32_36, c32_37, pairV, e]
  simp -implicitDefEqProofs (disch := omega) only [go_sem, Nat.reduceAdd, Nat.reduceMul, Nat.reduceSub, Nat.reduceBEq, Nat.reduceLeDiff, Nat.reduceLT, fn_call_Check, e32_1, w32_1, e32_3, w32_3, c32_4, e32_6, w32_6, e32_8, w32_8, e32_10, w32_10, c32_11, e32_13, w32_13, e32_15, w32_15, e32_17, w32_17, c32_18, e32_20, w32_20, c32_21, c32_22, c32_23, e32_25, w32_25, c32_26, c32_27, c32_28, c32_29, c32_30, c32_31, e32_33, w32_33, c32_34, c32_35, c32_36, c32_37]
  refine wpC_forL l (fun i vs M => (∀ j, j < i → errAt l stops low high j = 0) ∧ vs = [.slice (l.map Stay.row) c, .int .i64 stops, .int .i64 low, .int .i64 high, .int .i64 l.length, .int .i64 i] ∧ M = []) ⟨fun j hj => absurd hj (Nat.not_lt_zero j), rfl, rfl⟩ ?_ ?_
  · rintro i x vs M hx hi hd ⟨hz, rfl, rfl⟩
    simp -implicitDefEqProofs (disch := omega) only [go_sem, Nat.reduceAdd, Nat.reduceMul, Nat.reduceSub, Nat.reduceBEq, Nat.reduceLeDiff, Nat.reduceLT, fn_call_Check, e32_1, w32_1, e32_3, w32_3, c32_4, e32_6, w32_6, e32_8, w32_8, e32_10, w32_10, c32_11, e32_13, w32_13, e32_15, w32_15, e32_17, w32_17, c32_18, e32_20, w32_20, c32_21, c32_22, c32_23, e32_25, w32_25, c32_26, c32_27, c32_28, c32_29, c32_30, c32_31, e32_33, w32_33, c32_34, c32_35, c32_36, c32_37, hd]
    first | refine callD (call_one_ok l c i stops low high hi hlen) ?_ | refine callQD (call_one_ok l c i stops low high hi hlen) ?_
    simp -implicitDefEqProofs (disch := omega) only [go_sem, Nat.reduceAdd, Nat.reduceMul, Nat.reduceSub, Nat.reduceBEq, Nat.reduceLeDiff, Nat.reduceLT, fn_call_Check, e32_1, w32_1, e32_3, w32_3, c32_4, e32_6, w32_6, e32_8, w32_8, e32_10, w32_10, c32_11, e32_13, w32_13, e32_15, w32_15, e32_17, w32_17, c32_18, e32_20, w32_20, c32_21, c32_22, c32_23, e32_25, w32_25, c32_26, c32_27, c32_28, c32_29, c32_30, c32_31, e32_33, w32_33, c32_34, c32_35, c32_36, c32_37]
    refine ifD (fun h3 => ?_) (fun h3 => ?_)
    · simp -implicitDefEqProofs (disch := omega) only [go_sem, Nat.reduceAdd, Nat.reduceMul, Nat.reduceSub, Nat.reduceBEq, Nat.reduceLeDiff, Nat.reduceLT, fn_call_Check, e32_1, w32_1, e32_3, w32_3, c32_4, e32_6, w32_6, e32_8, w32_8, e32_10, w32_10, c32_11, e32_13, w32_13, e32_15, w32_15, e32_17, w32_17, c32_18, e32_20, w32_20, c32_21, c32_22, c32_23, e32_25, w32_25, c32_26, c32_27, c32_28, c32_29, c32_30, c32_31, e32_33, w32_33, c32_34, c32_35, c32_36, c32_37]
      refine next_stay hi ⟨fun j hj => ?_, ?_, rfl⟩
      · rcases Nat.lt_or_ge j i with h4 | h4
        · exact hz j h4
        · have : j = i := by omega
          subst this; exact h3
      · simp only [vals, sget]; rfl
    · have e : checkC l stops low high = ((i : Int), errAt l stops low high i) := by
        rw [checkC, if_neg (by omega), firstBad_at h3 hz hi]
      simp -implicitDefEqProofs (disch := omega) only [go_sem, Nat.reduceAdd, Nat.reduceMul, Nat.reduceSub, Nat.reduceBEq, Nat.reduceLeDiff, Nat.reduceLT, fn_call_Check, e32_1, w32_1, e32_3, w32_3, c32_4, e32_6, w32_6, e32_8, w32_8, e32_10, w32_10, c32_11, e32_13, w32_13, e32_15, w32_15, e32_17, w32_17, c32_18, e32_20, w32_20, c32_21, c32_22, c32_23, e32_25, w32_25, c32_26, c32_27, c32_28, c32_29, c32_30, c32_31, e32_33, w32_33, c32_34, c32_35, c32_36, c32_37, pairV, e]
  · rintro vs M ⟨hz, rfl, rfl⟩
    have e : checkC l stops low high = (0, 0) := by
      rw [checkC, if_neg (by omega), firstBad_none _ hz]
    simp -implicitDefEqProofs (disch := omega) only [go_sem, Nat.reduceAdd, Nat.reduceMul, Nat.reduceSub, Nat.reduceBEq, Nat.reduceLeDiff, Nat.reduceLT, fn_call_Check, e32_1, w32_1, e32_3, w32_3, c32_4, e32_6, w32_6, e32_8, w32_8, e32_10, w32_10, c32_11, e32_13, w32_13, e32_15, w32_15, e32_17, w32_17, c32_18, e32_20, w32_20, c32_21, c32_22, c32_23, e32_25, w32_25, c32_26, c32_27, c32_28, c32_29, c32_30, c32_31, e32_33, w32_33, c32_34, c32_35, c32_36, c32_37, dec_irrefl, pairV, e]

/-! ### Find, connects, Between -/
def hasId (l : List Trp) (id : List UInt8) (j : Nat) : Int := match l[j]? with
  | some t => if t.id = id then 1 else 0
  | none => 0
def findP (l : List Trp) (id : List UInt8) : Option Nat := firstBad (hasId l id) l.length
theorem trip_Find_ok (l : List Trp) (c : Cap) (id : List UInt8) (hl : l.length ≤ maxLen) : PCalls PR i_trip_Find [.slice (l.map Trp.row) c, .str id] (fun v => v = (match findP l id with | some i => .tuple [.int .i64 i, .bool true] | none => .tuple [.int .i64 0, .bool false])) := by
  have hm : maxLen = 9223372036854775807 := by rfl
  refine acalls_pop fn_trip_Find_ok (by simp [fn_trip_Find]) ?_
  simp -implicitDefEqProofs (disch := omega) only [go_sem, Nat.reduceAdd, Nat.reduceMul, Nat.reduceSub, Nat.reduceBEq, Nat.reduceLeDiff, Nat.reduceLT, fn_trip_Find, e16_1, w16_1, e16_3, w16_3, e16_5, w16_5, c16_6, e16_8, w16_8, e16_10, w16_10, c16_11, e16_13, w16_13, c16_14, c16_15, e16_17, w16_17, c16_18, c16_19, c16_20, c16_21, c16_22, c16_23, e16_25, w16_25, c16_26, c16_27, c16_28, List.length_map]
  refine wpC_forL l (fun i vs M => (∀ j, j < i → hasId l id j = 0) ∧ vs = [.slice (l.map Trp.row) c, .str id, .int .i64 l.length, .int .i64 i] ∧ M = []) ⟨fun j h => by omega, rfl, rfl⟩ ?_ ?_
  · rintro i t vs M ht hi hd ⟨hz, rfl, rfl⟩
    have hta := trp_at ht
    simp -implicitDefEqProofs (disch := omega) only [go_sem, Nat.reduceAdd, Nat.reduceMul, Nat.reduceSub, Nat.reduceBEq, Nat.reduceLeDiff, Nat.reduceLT, fn_trip_Find, e16_1, w16_1, e16_3, w16_3, e16_5, w16_5, c16_6, e16_8, w16_8, e16_10, w16_10, c16_11, e16_13, w16_13, c16_14, c16_15, e16_17, w16_17, c16_18, c16_19, c16_20, c16_21, c16_22, c16_23, e16_25, w16_25, c16_26, c16_27, c16_28, List.length_map, hd, hta]
    refine ifD (fun h => ?_) (fun h => ?_)
    · have e : findP l id = some i := firstBad_at (by simp [hasId, ht, h]) hz hi
      simp -implicitDefEqProofs (disch := omega) only [go_sem, Nat.reduceAdd, Nat.reduceMul, Nat.reduceSub, Nat.reduceBEq, Nat.reduceLeDiff, Nat.reduceLT, fn_trip_Find, e16_1, w16_1, e16_3, w16_3, e16_5, w16_5, c16_6, e16_8, w16_8, e16_10, w16_10, c16_11, e16_13, w16_13, c16_14, c16_15, e16_17, w16_17, c16_18, c16_19, c16_20, c16_21, c16_22, c16_23, e16_25, w16_25, c16_26, c16_27, c16_28, e]
    · simp -implicitDefEqProofs (disch := omega) only [go_sem, Nat.reduceAdd, Nat.reduceMul, Nat.reduceSub, Nat.reduceBEq, Nat.reduceLeDiff, Nat.reduceLT, fn_trip_Find, e16_1, w16_1, e16_3, w16_3, e16_5, w16_5, c16_6, e16_8, w16_8, e16_10, w16_10, c16_11, e16_13, w16_13, c16_14, c16_15, e16_17, w16_17, c16_18, c16_19, c16_20, c16_21, c16_22, c16_23, e16_25, w16_25, c16_26, c16_27, c16_28]
      refine next_stay hi ⟨fun j hj => ?_, rfl, rfl⟩
      rcases Nat.lt_or_ge j i with h2 | h2
      · exact hz j h2
      · have : j = i := by omega
        subst this
        simp [hasId, ht, h]
  · rintro vs M ⟨hz, rfl, rfl⟩
    have e : findP l id = none := firstBad_none _ hz
    simp -implicitDefEqProofs (disch := omega) only [go_sem, Nat.reduceAdd, Nat.reduceMul, Nat.reduceSub, Nat.reduceBEq, Nat.reduceLeDiff, Nat.reduceLT, fn_trip_Find, e16_1, w16_1, e16_3, w16_3, e16_5, w16_5, c16_6, e16_8, w16_8, e16_10, w16_10, c16_11, e16_13, w16_13, c16_14, c16_15, e16_17, w16_17, c16_18, c16_19, c16_20, c16_21, c16_22, c16_23, e16_25, w16_25, c16_26, c16_27, c16_28, dec_irrefl, e]
def findZ (l : List Trp) (id : List UInt8) : Int := match findP l id with | some i => i | none => -1
theorem transitref17_Find_ok (l : List Trp) (c : Cap) (id : List UInt8) (hl : l.length ≤ maxLen) : PCalls PR i_transitref17_Find [.slice (l.map Trp.row) c, .str id] (fun v => v = .int .i64 (findZ l id)) := by
  have hm : maxLen = 9223372036854775807 := by rfl
  refine acalls_pop fn_transitref17_Find_ok (by simp [fn_transitref17_Find]) ?_
  simp -implicitDefEqProofs (disch := omega) only [go_sem, Nat.reduceAdd, Nat.reduceMul, Nat.reduceSub, Nat.reduceBEq, Nat.reduceLeDiff, Nat.reduceLT, fn_transitref17_Find, e17_1, w17_1, e17_3, w17_3, e17_5, w17_5, e17_7, w17_7, c17_8, e17_10, w17_10, c17_11, e17_13, w17_13, c17_14, c17_15, c17_16, c17_17, c17_18, e17_20, w17_20, c17_21, c17_22, c17_23, List.length_map]
  refine wpC_forL l (fun i vs M => (∀ j, j < i → hasId l id j = 0) ∧ vs = [.slice (l.map Trp.row) c, .str id, .int .i64 i] ∧ M = []) ⟨fun j h => by omega, rfl, rfl⟩ ?_ ?_
  · rintro i t vs M ht hi hd ⟨hz, rfl, rfl⟩
    have hta := trp_at ht
    simp -implicitDefEqProofs (disch := omega) only [go_sem, Nat.reduceAdd, Nat.reduceMul, Nat.reduceSub, Nat.reduceBEq, Nat.reduceLeDiff, Nat.reduceLT, fn_transitref17_Find, e17_1, w17_1, e17_3, w17_3, e17_5, w17_5, e17_7, w17_7, c17_8, e17_10, w17_10, c17_11, e17_13, w17_13, c17_14, c17_15, c17_16, c17_17, c17_18, e17_20, w17_20, c17_21, c17_22, c17_23, List.length_map, hd, hta]
    refine ifD (fun h => ?_) (fun h => ?_)
    · have e : findZ l id = i := by rw [findZ, show findP l id = some i from firstBad_at (by simp [hasId, ht, h]) hz hi]
      simp -implicitDefEqProofs (disch := omega) only [go_sem, Nat.reduceAdd, Nat.reduceMul, Nat.reduceSub, Nat.reduceBEq, Nat.reduceLeDiff, Nat.reduceLT, fn_transitref17_Find, e17_1, w17_1, e17_3, w17_3, e17_5, w17_5, e17_7, w17_7, c17_8, e17_10, w17_10, c17_11, e17_13, w17_13, c17_14, c17_15, c17_16, c17_17, c17_18, e17_20, w17_20, c17_21, c17_22, c17_23, e]
    · simp -implicitDefEqProofs (disch := omega) only [go_sem, Nat.reduceAdd, Nat.reduceMul, Nat.reduceSub, Nat.reduceBEq, Nat.reduceLeDiff, Nat.reduceLT, fn_transitref17_Find, e17_1, w17_1, e17_3, w17_3, e17_5, w17_5, e17_7, w17_7, c17_8, e17_10, w17_10, c17_11, e17_13, w17_13, c17_14, c17_15, c17_16, c17_17, c17_18, e17_20, w17_20, c17_21, c17_22, c17_23]
      refine next_stay hi ⟨fun j hj => ?_, rfl, rfl⟩
      rcases Nat.lt_or_ge j i with h2 | h2
      · exact hz j h2
      · have : j = i := by omega
        subst this
        simp [hasId, ht, h]
  · rintro vs M ⟨hz, rfl, rfl⟩
    have e : findZ l id = -1 := by rw [findZ, show findP l id = none from firstBad_none _ hz]
    simp -implicitDefEqProofs (disch := omega) only [go_sem, Nat.reduceAdd, Nat.reduceMul, Nat.reduceSub, Nat.reduceBEq, Nat.reduceLeDiff, Nat.reduceLT, fn_transitref17_Find, e17_1, w17_1, e17_3, w17_3, e17_5, w17_5, e17_7, w17_7, c17_8, e17_10, w17_10, c17_11, e17_13, w17_13, c17_14, c17_15, c17_16, c17_17, c17_18, e17_20, w17_20, c17_21, c17_22, c17_23, List.length_map, dec_irrefl, e]
/-- Whether one can board at f before the call i. -/
def boardL (l : List Stay) (f : Int) (i : Nat) : Bool := (l.take i).any fun c => decide (c.stop = f) && c.board
def connA (l : List Stay) (f t : Int) (k : Nat) : Bool := match l[k]? with
  | some c => boardL l f k && (decide (c.stop = t) && c.alight)
  | none => false
def conn (l : List Stay) (f t : Int) : Bool := (List.range l.length).any (connA l f t)
theorem boardL_succ {l : List Stay} {i : Nat} {x : Stay} (hx : l[i]? = some x) (f : Int) : boardL l f (i + 1) = (boardL l f i || (decide (x.stop = f) && x.board)) := by
  rw [boardL, List.take_add_one, hx, List.any_append, ← boardL]; simp
theorem conn_true {l : List Stay} {f t : Int} {k : Nat} (hk : k < l.length) (h : connA l f t k = true) : conn l f t = true := by
  rw [conn, List.any_eq_true]; exact ⟨k, List.mem_range.2 hk, h⟩
theorem conn_false {l : List Stay} {f t : Int} (h : ∀ k, k < l.length → connA l f t k = false) : conn l f t = false := by
  rw [conn, List.any_eq_false]; intro k hk; rw [h k (List.mem_range.1 hk)]; simp
theorem boardL_iff {l : List Stay} {f : Int} {k : Nat} : boardL l f k = true ↔ ∃ i x, i < k ∧ l[i]? = some x ∧ x.stop = f ∧ x.board = true := by
  rw [boardL, List.any_eq_true]
  constructor
  · rintro ⟨x, hx, h⟩
    obtain ⟨i, hi⟩ := List.getElem?_of_mem hx
    rw [List.getElem?_take] at hi
    split at hi
    · rename_i hlt
      simp only [Bool.and_eq_true, decide_eq_true_eq] at h
      exact ⟨i, x, hlt, hi, h.1, h.2⟩
    · cases hi
  · rintro ⟨i, x, hik, hx, h1, h2⟩
    refine ⟨x, ?_, by simp [h1, h2]⟩
    have : (l.take k)[i]? = some x := by rw [List.getElem?_take, if_pos hik, hx]
    exact List.mem_of_getElem? this
theorem trip_connects_ok (t : Trp) (f g : Int) (hl : t.calls.length ≤ 1000) : PCalls PR i_trip_connects [.agg t.row, .int .i64 f, .int .i64 g] (fun v => v = .bool (conn t.calls f g)) := by
  refine acalls_pop fn_trip_connects_ok (by simp [fn_trip_connects]) ?_
  simp -implicitDefEqProofs (disch := omega) only [go_sem, Nat.reduceAdd, Nat.reduceMul, Nat.reduceSub, Nat.reduceBEq, Nat.reduceLeDiff, Nat.reduceLT, fn_trip_connects, e36_1, w36_1, e36_3, w36_3, e36_5, w36_5, e36_7, w36_7, c36_8, e36_10, w36_10, e36_12, w36_12, c36_13, e36_15, w36_15, e36_17, w36_17, c36_18, c36_19, c36_20, e36_22, w36_22, c36_23, c36_24, c36_25, c36_26, c36_27, c36_28, e36_30, w36_30, c36_31, c36_32, c36_33, c36_34, Trp.row, List.length_map]
  refine wpC_forL t.calls (fun i vs M => (∀ j, j < i → connA t.calls f g j = false) ∧ vs = [.int .i64 f, .int .i64 g, .bool (boardL t.calls f i), .slice (t.calls.map Stay.row) t.tag, .int .i64 t.calls.length, .int .i64 i] ∧ M = [.box t.row]) ⟨fun j h => by omega, rfl, rfl⟩ ?_ ?_
  · rintro i x vs M hx hi hd ⟨hz, rfl, rfl⟩
    have gx := stay_at hx
    have hA : connA t.calls f g i = (boardL t.calls f i && (decide (x.stop = g) && x.alight)) := by simp only [connA, hx]
    have hB := boardL_succ hx f
    have fwd : connA t.calls f g i = false → ∀ j, j < i + 1 → connA t.calls f g j = false := fun h j hj => by
      rcases Nat.lt_or_ge j i with h2 | h2
      · exact hz j h2
      · have : j = i := by omega
        subst this
        exact h
    simp -implicitDefEqProofs (disch := omega) only [go_sem, Nat.reduceAdd, Nat.reduceMul, Nat.reduceSub, Nat.reduceBEq, Nat.reduceLeDiff, Nat.reduceLT, fn_trip_connects, e36_1, w36_1, e36_3, w36_3, e36_5, w36_5, e36_7, w36_7, c36_8, e36_10, w36_10, e36_12, w36_12, c36_13, e36_15, w36_15, e36_17, w36_17, c36_18, c36_19, c36_20, e36_22, w36_22, c36_23, c36_24, c36_25, c36_26, c36_27, c36_28, e36_30, w36_30, c36_31, c36_32, c36_33, c36_34, Trp.row, List.length_map, hd, gx]
    cases hb : boardL t.calls f i
    · rw [hb] at hA hB
      simp only [Bool.false_and, Bool.false_or] at hA hB
      simp -implicitDefEqProofs (disch := omega) only [go_sem, Nat.reduceAdd, Nat.reduceMul, Nat.reduceSub, Nat.reduceBEq, Nat.reduceLeDiff, Nat.reduceLT, fn_trip_connects, e36_1, w36_1, e36_3, w36_3, e36_5, w36_5, e36_7, w36_7, c36_8, e36_10, w36_10, e36_12, w36_12, c36_13, e36_15, w36_15, e36_17, w36_17, c36_18, c36_19, c36_20, e36_22, w36_22, c36_23, c36_24, c36_25, c36_26, c36_27, c36_28, e36_30, w36_30, c36_31, c36_32, c36_33, c36_34, Trp.row]
      refine ifD (fun h => ?_) (fun h => ?_)
      · simp -implicitDefEqProofs (disch := omega) only [go_sem, Nat.reduceAdd, Nat.reduceMul, Nat.reduceSub, Nat.reduceBEq, Nat.reduceLeDiff, Nat.reduceLT, fn_trip_connects, e36_1, w36_1, e36_3, w36_3, e36_5, w36_5, e36_7, w36_7, c36_8, e36_10, w36_10, e36_12, w36_12, c36_13, e36_15, w36_15, e36_17, w36_17, c36_18, c36_19, c36_20, e36_22, w36_22, c36_23, c36_24, c36_25, c36_26, c36_27, c36_28, e36_30, w36_30, c36_31, c36_32, c36_33, c36_34, Trp.row]
        refine next_pop hi (by rfl) ⟨fwd hA, ?_, rfl⟩
        rw [hB, h]; simp; rfl
      · simp -implicitDefEqProofs (disch := omega) only [go_sem, Nat.reduceAdd, Nat.reduceMul, Nat.reduceSub, Nat.reduceBEq, Nat.reduceLeDiff, Nat.reduceLT, fn_trip_connects, e36_1, w36_1, e36_3, w36_3, e36_5, w36_5, e36_7, w36_7, c36_8, e36_10, w36_10, e36_12, w36_12, c36_13, e36_15, w36_15, e36_17, w36_17, c36_18, c36_19, c36_20, e36_22, w36_22, c36_23, c36_24, c36_25, c36_26, c36_27, c36_28, e36_30, w36_30, c36_31, c36_32, c36_33, c36_34, Trp.row]
        refine next_pop hi (by rfl) ⟨fwd hA, ?_, rfl⟩
        rw [hB]; simp [h]; rfl
    · rw [hb] at hA hB
      simp only [Bool.true_and, Bool.true_or] at hA hB
      simp -implicitDefEqProofs (disch := omega) only [go_sem, Nat.reduceAdd, Nat.reduceMul, Nat.reduceSub, Nat.reduceBEq, Nat.reduceLeDiff, Nat.reduceLT, fn_trip_connects, e36_1, w36_1, e36_3, w36_3, e36_5, w36_5, e36_7, w36_7, c36_8, e36_10, w36_10, e36_12, w36_12, c36_13, e36_15, w36_15, e36_17, w36_17, c36_18, c36_19, c36_20, e36_22, w36_22, c36_23, c36_24, c36_25, c36_26, c36_27, c36_28, e36_30, w36_30, c36_31, c36_32, c36_33, c36_34, Trp.row]
      refine ifD (fun h => ?_) (fun h => ?_)
      · simp -implicitDefEqProofs (disch := omega) only [go_sem, Nat.reduceAdd, Nat.reduceMul, Nat.reduceSub, Nat.reduceBEq, Nat.reduceLeDiff, Nat.reduceLT, fn_trip_connects, e36_1, w36_1, e36_3, w36_3, e36_5, w36_5, e36_7, w36_7, c36_8, e36_10, w36_10, e36_12, w36_12, c36_13, e36_15, w36_15, e36_17, w36_17, c36_18, c36_19, c36_20, e36_22, w36_22, c36_23, c36_24, c36_25, c36_26, c36_27, c36_28, e36_30, w36_30, c36_31, c36_32, c36_33, c36_34, Trp.row]
        refine ifB (fun h2 => ?_) (fun h2 => ?_)
        · simp -implicitDefEqProofs (disch := omega) only [go_sem, Nat.reduceAdd, Nat.reduceMul, Nat.reduceSub, Nat.reduceBEq, Nat.reduceLeDiff, Nat.reduceLT, fn_trip_connects, e36_1, w36_1, e36_3, w36_3, e36_5, w36_5, e36_7, w36_7, c36_8, e36_10, w36_10, e36_12, w36_12, c36_13, e36_15, w36_15, e36_17, w36_17, c36_18, c36_19, c36_20, e36_22, w36_22, c36_23, c36_24, c36_25, c36_26, c36_27, c36_28, e36_30, w36_30, c36_31, c36_32, c36_33, c36_34, conn_true hi (by rw [hA]; simp [h, h2])]
        · simp -implicitDefEqProofs (disch := omega) only [go_sem, Nat.reduceAdd, Nat.reduceMul, Nat.reduceSub, Nat.reduceBEq, Nat.reduceLeDiff, Nat.reduceLT, fn_trip_connects, e36_1, w36_1, e36_3, w36_3, e36_5, w36_5, e36_7, w36_7, c36_8, e36_10, w36_10, e36_12, w36_12, c36_13, e36_15, w36_15, e36_17, w36_17, c36_18, c36_19, c36_20, e36_22, w36_22, c36_23, c36_24, c36_25, c36_26, c36_27, c36_28, e36_30, w36_30, c36_31, c36_32, c36_33, c36_34]
          refine next_pop hi (by rfl) ⟨fwd (by rw [hA]; simp [h2]), ?_, rfl⟩
          rw [hB]; rfl
      · simp -implicitDefEqProofs (disch := omega) only [go_sem, Nat.reduceAdd, Nat.reduceMul, Nat.reduceSub, Nat.reduceBEq, Nat.reduceLeDiff, Nat.reduceLT, fn_trip_connects, e36_1, w36_1, e36_3, w36_3, e36_5, w36_5, e36_7, w36_7, c36_8, e36_10, w36_10, e36_12, w36_12, c36_13, e36_15, w36_15, e36_17, w36_17, c36_18, c36_19, c36_20, e36_22, w36_22, c36_23, c36_24, c36_25, c36_26, c36_27, c36_28, e36_30, w36_30, c36_31, c36_32, c36_33, c36_34, Trp.row]
        refine next_pop hi (by rfl) ⟨fwd (by rw [hA]; simp [h]), ?_, rfl⟩
        rw [hB]; rfl
  · rintro vs M ⟨hz, rfl, rfl⟩
    simp -implicitDefEqProofs (disch := omega) only [go_sem, Nat.reduceAdd, Nat.reduceMul, Nat.reduceSub, Nat.reduceBEq, Nat.reduceLeDiff, Nat.reduceLT, fn_trip_connects, e36_1, w36_1, e36_3, w36_3, e36_5, w36_5, e36_7, w36_7, c36_8, e36_10, w36_10, e36_12, w36_12, c36_13, e36_15, w36_15, e36_17, w36_17, c36_18, c36_19, c36_20, e36_22, w36_22, c36_23, c36_24, c36_25, c36_26, c36_27, c36_28, e36_30, w36_30, c36_31, c36_32, c36_33, c36_34, dec_irrefl, conn_false hz]
theorem transitref17_Connects_ok (t : Trp) (f g : Int) (hl : t.calls.length ≤ 1000) : PCalls PR i_transitref17_Connects [.agg t.row, .int .i64 f, .int .i64 g] (fun v => v = .bool (conn t.calls f g)) := by
  refine acalls_pop fn_transitref17_Connects_ok (by simp [fn_transitref17_Connects]) ?_
  simp -implicitDefEqProofs (disch := omega) only [go_sem, Nat.reduceAdd, Nat.reduceMul, Nat.reduceSub, Nat.reduceBEq, Nat.reduceLeDiff, Nat.reduceLT, fn_transitref17_Connects, e28_1, w28_1, e28_3, w28_3, e28_5, w28_5, e28_7, w28_7, e28_9, w28_9, e28_11, w28_11, c28_12, e28_14, w28_14, c28_15, e28_17, w28_17, c28_18, c28_19, c28_20, c28_21, c28_22, c28_23, e28_25, w28_25, c28_26, c28_27, c28_28, c28_29, c28_30, e28_32, w28_32, c28_33, c28_34, c28_35, Trp.row, List.length_map]
  refine wpC_forL t.calls (fun i vs M => (∀ j k x y, j < i → j < k → t.calls[j]? = some x → t.calls[k]? = some y → ¬ (x.stop = f ∧ x.board = true ∧ y.stop = g ∧ y.alight = true)) ∧ vs = [.int .i64 f, .int .i64 g, .ptr 0 0, .int .i64 i] ∧ M = [.box t.row]) ⟨fun j k x y h => by omega, rfl, rfl⟩ ?_ ?_
  · rintro i x vs M hx hi hd ⟨hz, rfl, rfl⟩
    have gx := stay_at hx
    simp -implicitDefEqProofs (disch := omega) only [go_sem, Nat.reduceAdd, Nat.reduceMul, Nat.reduceSub, Nat.reduceBEq, Nat.reduceLeDiff, Nat.reduceLT, fn_transitref17_Connects, e28_1, w28_1, e28_3, w28_3, e28_5, w28_5, e28_7, w28_7, e28_9, w28_9, e28_11, w28_11, c28_12, e28_14, w28_14, c28_15, e28_17, w28_17, c28_18, c28_19, c28_20, c28_21, c28_22, c28_23, e28_25, w28_25, c28_26, c28_27, c28_28, c28_29, c28_30, e28_32, w28_32, c28_33, c28_34, c28_35, Trp.row, List.length_map, hd]
    refine wpC_for (t.calls.length - (i + 1)) (fun j vs M => (∀ k y, i < k → k < i + 1 + j → t.calls[k]? = some y → ¬ (x.stop = f ∧ x.board = true ∧ y.stop = g ∧ y.alight = true)) ∧ vs = [.int .i64 f, .int .i64 g, .ptr 0 0, .int .i64 i, .int .i64 ((i + 1 + j : Nat) : Int)] ∧ M = [.box t.row]) ⟨fun k y h1 h2 => by omega, rfl, rfl⟩ ?_ ?_
    rotate_left
    · rintro vs M ⟨h, rfl, rfl⟩
      have hd2 : decide (((i + 1 + (t.calls.length - (i + 1)) : Nat) : Int) < (t.calls.length : Int)) = false := decide_eq_false (by omega)
      simp -implicitDefEqProofs (disch := omega) only [go_sem, Nat.reduceAdd, Nat.reduceMul, Nat.reduceSub, Nat.reduceBEq, Nat.reduceLeDiff, Nat.reduceLT, fn_transitref17_Connects, e28_1, w28_1, e28_3, w28_3, e28_5, w28_5, e28_7, w28_7, e28_9, w28_9, e28_11, w28_11, c28_12, e28_14, w28_14, c28_15, e28_17, w28_17, c28_18, c28_19, c28_20, c28_21, c28_22, c28_23, e28_25, w28_25, c28_26, c28_27, c28_28, c28_29, c28_30, e28_32, w28_32, c28_33, c28_34, c28_35, Trp.row, List.length_map, hd2]
      refine next_stay hi ⟨fun j k x' y hj hjk hx' hy => ?_, rfl, rfl⟩
      rcases Nat.lt_or_ge j i with h2 | h2
      · exact hz j k x' y h2 hjk hx' hy
      · have : j = i := by omega
        subst this
        rw [hx] at hx'
        simp only [Option.some.injEq] at hx'
        subst hx'
        have := (List.getElem?_eq_some_iff.1 hy).1
        exact h k y hjk (by omega) hy
    rintro j vs M hj _ ⟨hno, rfl, rfl⟩
    obtain ⟨y, hy⟩ : ∃ y, t.calls[i + 1 + j]? = some y := ⟨t.calls[i + 1 + j]'(by omega), by simp⟩
    have gy := stay_at hy
    have hd2 : decide (((i + 1 + j : Nat) : Int) < (t.calls.length : Int)) = true := decide_eq_true (by omega)
    have en : ((i + 1 + j : Nat) : Int) + 1 = ((i + 1 + (j + 1) : Nat) : Int) := by omega
    have fwd : ¬ (x.stop = f ∧ x.board = true ∧ y.stop = g ∧ y.alight = true) → ∀ k y, i < k → k < i + 1 + (j + 1) → t.calls[k]? = some y → ¬ (x.stop = f ∧ x.board = true ∧ y.stop = g ∧ y.alight = true) := fun h k z h1 h2 hz => by
      rcases Nat.lt_or_ge k (i + 1 + j) with h3 | h3
      · exact hno k z h1 h3 hz
      · have : k = i + 1 + j := by omega
        subst this
        rw [hy] at hz
        simp only [Option.some.injEq] at hz
        subst hz
        exact h
    simp -implicitDefEqProofs (disch := omega) only [go_sem, Nat.reduceAdd, Nat.reduceMul, Nat.reduceSub, Nat.reduceBEq, Nat.reduceLeDiff, Nat.reduceLT, fn_transitref17_Connects, e28_1, w28_1, e28_3, w28_3, e28_5, w28_5, e28_7, w28_7, e28_9, w28_9, e28_11, w28_11, c28_12, e28_14, w28_14, c28_15, e28_17, w28_17, c28_18, c28_19, c28_20, c28_21, c28_22, c28_23, e28_25, w28_25, c28_26, c28_27, c28_28, c28_29, c28_30, e28_32, w28_32, c28_33, c28_34, c28_35, Trp.row, List.length_map, hd2, gx]
    refine ifD (fun h1 => ?_) (fun h1 => ?_)
    rotate_left
    · simp -implicitDefEqProofs (disch := omega) only [go_sem, Nat.reduceAdd, Nat.reduceMul, Nat.reduceSub, Nat.reduceBEq, Nat.reduceLeDiff, Nat.reduceLT, fn_transitref17_Connects, e28_1, w28_1, e28_3, w28_3, e28_5, w28_5, e28_7, w28_7, e28_9, w28_9, e28_11, w28_11, c28_12, e28_14, w28_14, c28_15, e28_17, w28_17, c28_18, c28_19, c28_20, c28_21, c28_22, c28_23, e28_25, w28_25, c28_26, c28_27, c28_28, c28_29, c28_30, e28_32, w28_32, c28_33, c28_34, c28_35, en]
      exact next_stay hj ⟨fwd (fun h => h1 h.1), rfl, rfl⟩
    simp -implicitDefEqProofs (disch := omega) only [go_sem, Nat.reduceAdd, Nat.reduceMul, Nat.reduceSub, Nat.reduceBEq, Nat.reduceLeDiff, Nat.reduceLT, fn_transitref17_Connects, e28_1, w28_1, e28_3, w28_3, e28_5, w28_5, e28_7, w28_7, e28_9, w28_9, e28_11, w28_11, c28_12, e28_14, w28_14, c28_15, e28_17, w28_17, c28_18, c28_19, c28_20, c28_21, c28_22, c28_23, e28_25, w28_25, c28_26, c28_27, c28_28, c28_29, c28_30, e28_32, w28_32, c28_33, c28_34, c28_35, Trp.row, gx]
    refine ifB (fun h2 => ?_) (fun h2 => ?_)
    rotate_left
    · simp -implicitDefEqProofs (disch := omega) only [go_sem, Nat.reduceAdd, Nat.reduceMul, Nat.reduceSub, Nat.reduceBEq, Nat.reduceLeDiff, Nat.reduceLT, fn_transitref17_Connects, e28_1, w28_1, e28_3, w28_3, e28_5, w28_5, e28_7, w28_7, e28_9, w28_9, e28_11, w28_11, c28_12, e28_14, w28_14, c28_15, e28_17, w28_17, c28_18, c28_19, c28_20, c28_21, c28_22, c28_23, e28_25, w28_25, c28_26, c28_27, c28_28, c28_29, c28_30, e28_32, w28_32, c28_33, c28_34, c28_35, en]
      exact next_stay hj ⟨fwd (fun h => by simp [h2] at h), rfl, rfl⟩
    simp -implicitDefEqProofs (disch := omega) only [go_sem, Nat.reduceAdd, Nat.reduceMul, Nat.reduceSub, Nat.reduceBEq, Nat.reduceLeDiff, Nat.reduceLT, fn_transitref17_Connects, e28_1, w28_1, e28_3, w28_3, e28_5, w28_5, e28_7, w28_7, e28_9, w28_9, e28_11, w28_11, c28_12, e28_14, w28_14, c28_15, e28_17, w28_17, c28_18, c28_19, c28_20, c28_21, c28_22, c28_23, e28_25, w28_25, c28_26, c28_27, c28_28, c28_29, c28_30, e28_32, w28_32, c28_33, c28_34, c28_35, Trp.row, gy]
    refine ifD (fun h3 => ?_) (fun h3 => ?_)
    rotate_left
    · simp -implicitDefEqProofs (disch := omega) only [go_sem, Nat.reduceAdd, Nat.reduceMul, Nat.reduceSub, Nat.reduceBEq, Nat.reduceLeDiff, Nat.reduceLT, fn_transitref17_Connects, e28_1, w28_1, e28_3, w28_3, e28_5, w28_5, e28_7, w28_7, e28_9, w28_9, e28_11, w28_11, c28_12, e28_14, w28_14, c28_15, e28_17, w28_17, c28_18, c28_19, c28_20, c28_21, c28_22, c28_23, e28_25, w28_25, c28_26, c28_27, c28_28, c28_29, c28_30, e28_32, w28_32, c28_33, c28_34, c28_35, en]
      exact next_stay hj ⟨fwd (fun h => h3 h.2.2.1), rfl, rfl⟩
    simp -implicitDefEqProofs (disch := omega) only [go_sem, Nat.reduceAdd, Nat.reduceMul, Nat.reduceSub, Nat.reduceBEq, Nat.reduceLeDiff, Nat.reduceLT, fn_transitref17_Connects, e28_1, w28_1, e28_3, w28_3, e28_5, w28_5, e28_7, w28_7, e28_9, w28_9, e28_11, w28_11, c28_12, e28_14, w28_14, c28_15, e28_17, w28_17, c28_18, c28_19, c28_20, c28_21, c28_22, c28_23, e28_25, w28_25, c28_26, c28_27, c28_28, c28_29, c28_30, e28_32, w28_32, c28_33, c28_34, c28_35, Trp.row, gy]
    refine ifB (fun h4 => ?_) (fun h4 => ?_)
    rotate_left
    · simp -implicitDefEqProofs (disch := omega) only [go_sem, Nat.reduceAdd, Nat.reduceMul, Nat.reduceSub, Nat.reduceBEq, Nat.reduceLeDiff, Nat.reduceLT, fn_transitref17_Connects, e28_1, w28_1, e28_3, w28_3, e28_5, w28_5, e28_7, w28_7, e28_9, w28_9, e28_11, w28_11, c28_12, e28_14, w28_14, c28_15, e28_17, w28_17, c28_18, c28_19, c28_20, c28_21, c28_22, c28_23, e28_25, w28_25, c28_26, c28_27, c28_28, c28_29, c28_30, e28_32, w28_32, c28_33, c28_34, c28_35, en]
      exact next_stay hj ⟨fwd (fun h => by simp [h4] at h), rfl, rfl⟩
    have e : conn t.calls f g = true := conn_true (k := i + 1 + j) (by omega) (by
      simp only [connA, hy]
      rw [boardL_iff.2 ⟨i, x, by omega, hx, h1, h2⟩]
      simp [h3, h4])
    simp -implicitDefEqProofs (disch := omega) only [go_sem, Nat.reduceAdd, Nat.reduceMul, Nat.reduceSub, Nat.reduceBEq, Nat.reduceLeDiff, Nat.reduceLT, fn_transitref17_Connects, e28_1, w28_1, e28_3, w28_3, e28_5, w28_5, e28_7, w28_7, e28_9, w28_9, e28_11, w28_11, c28_12, e28_14, w28_14, c28_15, e28_17, w28_17, c28_18, c28_19, c28_20, c28_21, c28_22, c28_23, e28_25, w28_25, c28_26, c28_27, c28_28, c28_29, c28_30, e28_32, w28_32, c28_33, c28_34, c28_35, e]
  · rintro vs M ⟨hz, rfl, rfl⟩
    have e : conn t.calls f g = false := conn_false fun k hk => by
      obtain ⟨y, hy⟩ : ∃ y, t.calls[k]? = some y := ⟨t.calls[k], by simp⟩
      simp only [connA, hy]
      cases hb : boardL t.calls f k
      · rfl
      obtain ⟨i, x, hik, hx, q1, q2⟩ := boardL_iff.1 hb
      have := hz i k x y (by omega) hik hx hy
      simp only [Bool.true_and]
      cases h5 : (decide (y.stop = g) && y.alight)
      · rfl
      simp only [Bool.and_eq_true, decide_eq_true_eq] at h5
      exact absurd ⟨q1, q2, h5.1, h5.2⟩ this
    simp -implicitDefEqProofs (disch := omega) only [go_sem, Nat.reduceAdd, Nat.reduceMul, Nat.reduceSub, Nat.reduceBEq, Nat.reduceLeDiff, Nat.reduceLT, fn_transitref17_Connects, e28_1, w28_1, e28_3, w28_3, e28_5, w28_5, e28_7, w28_7, e28_9, w28_9, e28_11, w28_11, c28_12, e28_14, w28_14, c28_15, e28_17, w28_17, c28_18, c28_19, c28_20, c28_21, c28_22, c28_23, e28_25, w28_25, c28_26, c28_27, c28_28, c28_29, c28_30, e28_32, w28_32, c28_33, c28_34, c28_35, Trp.row, List.length_map, dec_irrefl, e]
def connI (l : List Trp) (f g : Int) (i : Nat) : Bool := match l[i]? with
  | some t => conn t.calls f g
  | none => false
def betwU (l : List Trp) (f g : Int) (n : Nat) : List Nat := (List.range n).filter (connI l f g)
theorem betwU_succ (l : List Trp) (f g : Int) (n : Nat) : betwU l f g (n + 1) = if connI l f g n then betwU l f g n ++ [n] else betwU l f g n := by
  rw [betwU, List.range_succ, List.filter_append, ← betwU]
  cases h : connI l f g n <;> simp [h]
theorem betwU_len (l : List Trp) (f g : Int) (n : Nat) : (betwU l f g n).length ≤ n := by
  rw [betwU]; exact Nat.le_trans (List.length_filter_le _ _) (by simp)
theorem trip_Between_ok (l : List Trp) (c : Cap) (f g : Int) (hl : l.length ≤ 1000) (hc : ∀ t ∈ l, t.calls.length ≤ 1000) : PCalls PR i_trip_Between [.slice (l.map Trp.row) c, .int .i64 f, .int .i64 g] (fun v => v = .slice ((ints (betwU l f g l.length)).map iRow) .unk) := by
  refine acalls_pop fn_trip_Between_ok (by simp [fn_trip_Between]) ?_
  simp -implicitDefEqProofs (disch := omega) only [go_sem, Nat.reduceAdd, Nat.reduceMul, Nat.reduceSub, Nat.reduceBEq, Nat.reduceLeDiff, Nat.reduceLT, fn_trip_Between, e27_1, w27_1, e27_3, w27_3, e27_5, w27_5, e27_7, w27_7, c27_8, e27_10, w27_10, e27_12, w27_12, e27_14, w27_14, c27_15, c27_16, e27_18, w27_18, c27_19, c27_20, c27_21, c27_22, c27_23, c27_24, e27_26, w27_26, c27_27, c27_28, c27_29, c27_30, List.length_map]
  refine wpC_forL l (fun i vs M => ∃ ver, vs = [.int .i64 f, .int .i64 g, .mslice 0 ver 0 (betwU l f g i).length, .slice (l.map Trp.row) c, .int .i64 l.length, .int .i64 i] ∧ M = [.arr 1 ((betwU l f g i).map idxRow) ver 0]) ⟨0, rfl, rfl⟩ ?_ ?_
  · rintro i t vs M ht hi hd ⟨ver, rfl, rfl⟩
    have hta := trp_at ht
    have hcn := trip_connects_ok t f g (hc t (List.mem_of_getElem? ht))
    have hlen := betwU_len l f g i
    have hsucc := betwU_succ l f g i
    have hci : connI l f g i = conn t.calls f g := by simp only [connI, ht]
    rw [hci] at hsucc
    have e1 : (betwU l f g i).map idxRow ++ [[.int .i64 i]] = (betwU l f g i ++ [i]).map idxRow := by simp [idxRow]
    have e2 : (betwU l f g i).length + 1 = (betwU l f g i ++ [i]).length := by simp
    simp only [Trp.row] at hcn
    simp -implicitDefEqProofs (disch := omega) only [go_sem, Nat.reduceAdd, Nat.reduceMul, Nat.reduceSub, Nat.reduceBEq, Nat.reduceLeDiff, Nat.reduceLT, fn_trip_Between, e27_1, w27_1, e27_3, w27_3, e27_5, w27_5, e27_7, w27_7, c27_8, e27_10, w27_10, e27_12, w27_12, e27_14, w27_14, c27_15, c27_16, e27_18, w27_18, c27_19, c27_20, c27_21, c27_22, c27_23, c27_24, e27_26, w27_26, c27_27, c27_28, c27_29, c27_30, List.length_map, hd, hta]
    first | refine callD (hcn) ?_ | refine callQD (hcn) ?_
    refine ifB (fun h => ?_) (fun h => ?_)
    · rw [h, if_pos rfl] at hsucc
      rw [← hsucc] at e1 e2
      generalize betwU l f g i = S at *
      generalize hS2 : betwU l f g (i + 1) = S2 at *
      simp -implicitDefEqProofs (disch := omega) only [go_sem, Nat.reduceAdd, Nat.reduceMul, Nat.reduceSub, Nat.reduceBEq, Nat.reduceLeDiff, Nat.reduceLT, fn_trip_Between, e27_1, w27_1, e27_3, w27_3, e27_5, w27_5, e27_7, w27_7, c27_8, e27_10, w27_10, e27_12, w27_12, e27_14, w27_14, c27_15, c27_16, e27_18, w27_18, c27_19, c27_20, c27_21, c27_22, c27_23, c27_24, e27_26, w27_26, c27_27, c27_28, c27_29, c27_30, e1, e2]
      exact next_pop hi (by rfl) ⟨ver + 1, by rw [hS2]; rfl, by rw [hS2]; rfl⟩
    · rw [h, if_neg (by simp)] at hsucc
      simp -implicitDefEqProofs (disch := omega) only [go_sem, Nat.reduceAdd, Nat.reduceMul, Nat.reduceSub, Nat.reduceBEq, Nat.reduceLeDiff, Nat.reduceLT, fn_trip_Between, e27_1, w27_1, e27_3, w27_3, e27_5, w27_5, e27_7, w27_7, c27_8, e27_10, w27_10, e27_12, w27_12, e27_14, w27_14, c27_15, c27_16, e27_18, w27_18, c27_19, c27_20, c27_21, c27_22, c27_23, c27_24, e27_26, w27_26, c27_27, c27_28, c27_29, c27_30]
      exact next_pop hi (by rfl) ⟨ver, by rw [hsucc]; rfl, by rw [hsucc]; rfl⟩
  · rintro vs M ⟨ver, rfl, rfl⟩
    have e : List.take (betwU l f g l.length).length ((betwU l f g l.length).map idxRow) = (ints (betwU l f g l.length)).map iRow := by rw [List.take_of_length_le (by simp), idx_rows]
    simp -implicitDefEqProofs (disch := omega) only [go_sem, Nat.reduceAdd, Nat.reduceMul, Nat.reduceSub, Nat.reduceBEq, Nat.reduceLeDiff, Nat.reduceLT, fn_trip_Between, e27_1, w27_1, e27_3, w27_3, e27_5, w27_5, e27_7, w27_7, c27_8, e27_10, w27_10, e27_12, w27_12, e27_14, w27_14, c27_15, c27_16, e27_18, w27_18, c27_19, c27_20, c27_21, c27_22, c27_23, c27_24, e27_26, w27_26, c27_27, c27_28, c27_29, c27_30, List.length_map, dec_irrefl, e]

/-! ### Overtakes -/
def evO (l : List Stay) (k : Nat) : Int := match l[k / 2]? with
  | some c => if k % 2 = 0 then c.arrive else c.depart
  | none => 0
def laterU (a b : List Stay) (n : Nat) : Bool := (List.range n).any fun i => decide (evO a i > evO b i)
def hitU (a b : List Stay) (k : Nat) : Bool := laterU a b k && decide (evO a k < evO b k)
def overt (a b : List Stay) : Bool := samePat a b && (List.range (2 * a.length)).any (hitU a b)
theorem laterU_succ (a b : List Stay) (n : Nat) : laterU a b (n + 1) = (laterU a b n || decide (evO a n > evO b n)) := by
  rw [laterU, List.range_succ, List.any_append, ← laterU]; simp
theorem laterU_iff {a b : List Stay} {n : Nat} : laterU a b n = true ↔ ∃ i, i < n ∧ evO a i > evO b i := by
  rw [laterU, List.any_eq_true]
  constructor
  · rintro ⟨i, hi, h⟩; exact ⟨i, List.mem_range.1 hi, of_decide_eq_true h⟩
  · rintro ⟨i, hi, h⟩; exact ⟨i, List.mem_range.2 hi, decide_eq_true h⟩
theorem overt_true {a b : List Stay} {k : Nat} (hs : samePat a b = true) (hk : k < 2 * a.length) (h : hitU a b k = true) : overt a b = true := by
  rw [overt, hs, Bool.true_and, List.any_eq_true]; exact ⟨k, List.mem_range.2 hk, h⟩
theorem overt_false {a b : List Stay} (h : ∀ k, k < 2 * a.length → hitU a b k = false) : overt a b = false := by
  rw [overt]
  have : (List.range (2 * a.length)).any (hitU a b) = false := by
    rw [List.any_eq_false]; intro k hk; rw [h k (List.mem_range.1 hk)]; simp
  rw [this, Bool.and_false]
theorem evO_even {l : List Stay} {i : Nat} {x : Stay} (h : l[i]? = some x) : evO l (2 * i) = x.arrive := by
  simp only [evO, show 2 * i / 2 = i by omega, h, show 2 * i % 2 = 0 by omega, if_true]
theorem evO_odd {l : List Stay} {i : Nat} {x : Stay} (h : l[i]? = some x) : evO l (2 * i + 1) = x.depart := by
  simp only [evO, show (2 * i + 1) / 2 = i by omega, h, show ¬ ((2 * i + 1) % 2 = 0) by omega, if_false]
theorem samePat_length {a b : List Stay} (h : samePat a b = true) : a.length = b.length := by
  have := congrArg List.length (of_decide_eq_true h)
  simpa [patL] using this
theorem hit_fwd {a b : List Stay} {n : Nat} (hz : ∀ k, k < n → hitU a b k = false) (h : hitU a b n = false) : ∀ k, k < n + 1 → hitU a b k = false := fun k hk => by
  rcases Nat.lt_or_ge k n with h2 | h2
  · exact hz k h2
  · have : k = n := by omega
    subst this
    exact h
theorem trip_Overtakes_ok (a b : Trp) (hl : a.calls.length ≤ 1000) : PCalls PR i_trip_Overtakes [.agg a.row, .agg b.row] (fun v => v = .bool (overt a.calls b.calls)) := by
  have hsp := trip_SamePattern_ok a b hl
  simp only [Trp.row] at hsp
  refine acalls_pop fn_trip_Overtakes_ok (by simp [fn_trip_Overtakes]) ?_
  simp -implicitDefEqProofs (disch := omega) only [go_sem, Nat.reduceAdd, Nat.reduceMul, Nat.reduceSub, Nat.reduceBEq, Nat.reduceLeDiff, Nat.reduceLT, fn_trip_Overtakes, e25_1, w25_1, e25_3, w25_3, c25_4, e25_6, w25_6, e25_8, w25_8, e25_10, w25_10, e25_12, w25_12, c25_13, e25_15, w25_15, e25_17, w25_17, e25_19, w25_19, e25_21, w25_21, c25_22, e25_24, w25_24, e25_26, w25_26, c25_27, e25_29, w25_29, e25_31, w25_31, c25_32, c25_33, c25_34, e25_36, w25_36, c25_37, c25_38, c25_39, c25_40, c25_41, c25_42, c25_43, c25_44, c25_45, e25_47, w25_47, c25_48, c25_49, c25_50, c25_51, c25_52, c25_53, e25_55, w25_55, c25_56, c25_57, c25_58, c25_59, c25_60, Trp.row]
  first | refine callD (hsp) ?_ | refine callQD (hsp) ?_
  refine ifB (fun h => ?_) (fun h => ?_)
  · have e : overt a.calls b.calls = false := by rw [overt]; simp only [Bool.not_eq_true'] at h; rw [h]; rfl
    simp -implicitDefEqProofs (disch := omega) only [go_sem, Nat.reduceAdd, Nat.reduceMul, Nat.reduceSub, Nat.reduceBEq, Nat.reduceLeDiff, Nat.reduceLT, fn_trip_Overtakes, e25_1, w25_1, e25_3, w25_3, c25_4, e25_6, w25_6, e25_8, w25_8, e25_10, w25_10, e25_12, w25_12, c25_13, e25_15, w25_15, e25_17, w25_17, e25_19, w25_19, e25_21, w25_21, c25_22, e25_24, w25_24, e25_26, w25_26, c25_27, e25_29, w25_29, e25_31, w25_31, c25_32, c25_33, c25_34, e25_36, w25_36, c25_37, c25_38, c25_39, c25_40, c25_41, c25_42, c25_43, c25_44, c25_45, e25_47, w25_47, c25_48, c25_49, c25_50, c25_51, c25_52, c25_53, e25_55, w25_55, c25_56, c25_57, c25_58, c25_59, c25_60, e]
  have hs : samePat a.calls b.calls = true := by simpa using h
  have hlen := samePat_length hs
  simp -implicitDefEqProofs (disch := omega) only [go_sem, Nat.reduceAdd, Nat.reduceMul, Nat.reduceSub, Nat.reduceBEq, Nat.reduceLeDiff, Nat.reduceLT, fn_trip_Overtakes, e25_1, w25_1, e25_3, w25_3, c25_4, e25_6, w25_6, e25_8, w25_8, e25_10, w25_10, e25_12, w25_12, c25_13, e25_15, w25_15, e25_17, w25_17, e25_19, w25_19, e25_21, w25_21, c25_22, e25_24, w25_24, e25_26, w25_26, c25_27, e25_29, w25_29, e25_31, w25_31, c25_32, c25_33, c25_34, e25_36, w25_36, c25_37, c25_38, c25_39, c25_40, c25_41, c25_42, c25_43, c25_44, c25_45, e25_47, w25_47, c25_48, c25_49, c25_50, c25_51, c25_52, c25_53, e25_55, w25_55, c25_56, c25_57, c25_58, c25_59, c25_60, List.length_map]
  refine wpC_forL a.calls (fun i vs M => (∀ k, k < 2 * i → hitU a.calls b.calls k = false) ∧ vs = [.ptr 0 0, .ptr 1 0, .bool (laterU a.calls b.calls (2 * i)), .int .i64 a.calls.length, .int .i64 i] ∧ M = [.box a.row, .box b.row]) ⟨fun j h => by omega, rfl, rfl⟩ ?_ ?_
  rotate_left
  · rintro vs M ⟨hz, rfl, rfl⟩
    simp -implicitDefEqProofs (disch := omega) only [go_sem, Nat.reduceAdd, Nat.reduceMul, Nat.reduceSub, Nat.reduceBEq, Nat.reduceLeDiff, Nat.reduceLT, fn_trip_Overtakes, e25_1, w25_1, e25_3, w25_3, c25_4, e25_6, w25_6, e25_8, w25_8, e25_10, w25_10, e25_12, w25_12, c25_13, e25_15, w25_15, e25_17, w25_17, e25_19, w25_19, e25_21, w25_21, c25_22, e25_24, w25_24, e25_26, w25_26, c25_27, e25_29, w25_29, e25_31, w25_31, c25_32, c25_33, c25_34, e25_36, w25_36, c25_37, c25_38, c25_39, c25_40, c25_41, c25_42, c25_43, c25_44, c25_45, e25_47, w25_47, c25_48, c25_49, c25_50, c25_51, c25_52, c25_53, e25_55, w25_55, c25_56, c25_57, c25_58, c25_59, c25_60, dec_irrefl, overt_false hz]
  rintro i x vs M hx hi hd ⟨hz, rfl, rfl⟩
  obtain ⟨y, hy⟩ : ∃ y, b.calls[i]? = some y := ⟨b.calls[i]'(by omega), by simp⟩
  have gx := stay_at hx
  have gy := stay_at hy
  simp -implicitDefEqProofs (disch := omega) only [go_sem, Nat.reduceAdd, Nat.reduceMul, Nat.reduceSub, Nat.reduceBEq, Nat.reduceLeDiff, Nat.reduceLT, fn_trip_Overtakes, e25_1, w25_1, e25_3, w25_3, c25_4, e25_6, w25_6, e25_8, w25_8, e25_10, w25_10, e25_12, w25_12, c25_13, e25_15, w25_15, e25_17, w25_17, e25_19, w25_19, e25_21, w25_21, c25_22, e25_24, w25_24, e25_26, w25_26, c25_27, e25_29, w25_29, e25_31, w25_31, c25_32, c25_33, c25_34, e25_36, w25_36, c25_37, c25_38, c25_39, c25_40, c25_41, c25_42, c25_43, c25_44, c25_45, e25_47, w25_47, c25_48, c25_49, c25_50, c25_51, c25_52, c25_53, e25_55, w25_55, c25_56, c25_57, c25_58, c25_59, c25_60, Trp.row, hd, gx, gy, List.length_map]
  refine wpC_for 2 (fun j vs M => (∀ k, k < 2 * i + j → hitU a.calls b.calls k = false) ∧ vs = [.ptr 0 0, .ptr 1 0, .bool (laterU a.calls b.calls (2 * i + j)), .int .i64 a.calls.length, .int .i64 i, .agg [.int .i64 x.arrive, .int .i64 y.arrive, .int .i64 x.depart, .int .i64 y.depart], .int .i64 j] ∧ M = [.box a.row, .box b.row, .box x.row, .box y.row]) ⟨hz, rfl, rfl⟩ ?_ ?_
  rotate_left
  · rintro vs M ⟨hz2, rfl, rfl⟩
    have d2 : decide (((2 : Nat) : Int) < 2) = false := rfl
    simp -implicitDefEqProofs (disch := omega) only [go_sem, Nat.reduceAdd, Nat.reduceMul, Nat.reduceSub, Nat.reduceBEq, Nat.reduceLeDiff, Nat.reduceLT, fn_trip_Overtakes, e25_1, w25_1, e25_3, w25_3, c25_4, e25_6, w25_6, e25_8, w25_8, e25_10, w25_10, e25_12, w25_12, c25_13, e25_15, w25_15, e25_17, w25_17, e25_19, w25_19, e25_21, w25_21, c25_22, e25_24, w25_24, e25_26, w25_26, c25_27, e25_29, w25_29, e25_31, w25_31, c25_32, c25_33, c25_34, e25_36, w25_36, c25_37, c25_38, c25_39, c25_40, c25_41, c25_42, c25_43, c25_44, c25_45, e25_47, w25_47, c25_48, c25_49, c25_50, c25_51, c25_52, c25_53, e25_55, w25_55, c25_56, c25_57, c25_58, c25_59, c25_60, d2]
    refine next_pop hi (by rfl) ⟨?_, ?_, rfl⟩
    · rw [show 2 * (i + 1) = 2 * i + 2 by omega]; exact hz2
    · rw [show 2 * (i + 1) = 2 * i + 2 by omega]; rfl
  rintro j vs M hj hd2 ⟨hz2, rfl, rfl⟩
  have hk : 2 * i + j < 2 * a.calls.length := by omega
  have hA : hitU a.calls b.calls (2 * i + j) = (laterU a.calls b.calls (2 * i + j) && decide (evO a.calls (2 * i + j) < evO b.calls (2 * i + j))) := rfl
  have hB := laterU_succ a.calls b.calls (2 * i + j)
  have hidx : indexAggV 2 2 true (.agg [.int .i64 x.arrive, .int .i64 y.arrive, .int .i64 x.depart, .int .i64 y.depart]) (.int .i64 j) = some (.agg [.int .i64 (evO a.calls (2 * i + j)), .int .i64 (evO b.calls (2 * i + j))]) := by
    rcases (by omega : j = 0 ∨ j = 1) with rfl | rfl
    · rw [Nat.add_zero, evO_even hx, evO_even hy]; rfl
    · rw [evO_odd hx, evO_odd hy]; rfl
  generalize evO a.calls (2 * i + j) = p at *
  generalize evO b.calls (2 * i + j) = q at *
  have hj2 : ((2 : Nat) : Int) = 2 := rfl
  have t1 : Int.toNat 1 * 1 = 1 := rfl
  have t0 : Int.toNat 0 * 1 = 0 := rfl
  rw [hj2] at hd2
  simp -implicitDefEqProofs (disch := omega) only [go_sem, Nat.reduceAdd, Nat.reduceMul, Nat.reduceSub, Nat.reduceBEq, Nat.reduceLeDiff, Nat.reduceLT, fn_trip_Overtakes, e25_1, w25_1, e25_3, w25_3, c25_4, e25_6, w25_6, e25_8, w25_8, e25_10, w25_10, e25_12, w25_12, c25_13, e25_15, w25_15, e25_17, w25_17, e25_19, w25_19, e25_21, w25_21, c25_22, e25_24, w25_24, e25_26, w25_26, c25_27, e25_29, w25_29, e25_31, w25_31, c25_32, c25_33, c25_34, e25_36, w25_36, c25_37, c25_38, c25_39, c25_40, c25_41, c25_42, c25_43, c25_44, c25_45, e25_47, w25_47, c25_48, c25_49, c25_50, c25_51, c25_52, c25_53, e25_55, w25_55, c25_56, c25_57, c25_58, c25_59, c25_60, Trp.row, Stay.row, hd2, hidx, t1, t0]
  cases hb : laterU a.calls b.calls (2 * i + j)
  · rw [hb] at hA hB
    simp only [Bool.false_and, Bool.false_or] at hA hB
    simp -implicitDefEqProofs (disch := omega) only [go_sem, Nat.reduceAdd, Nat.reduceMul, Nat.reduceSub, Nat.reduceBEq, Nat.reduceLeDiff, Nat.reduceLT, fn_trip_Overtakes, e25_1, w25_1, e25_3, w25_3, c25_4, e25_6, w25_6, e25_8, w25_8, e25_10, w25_10, e25_12, w25_12, c25_13, e25_15, w25_15, e25_17, w25_17, e25_19, w25_19, e25_21, w25_21, c25_22, e25_24, w25_24, e25_26, w25_26, c25_27, e25_29, w25_29, e25_31, w25_31, c25_32, c25_33, c25_34, e25_36, w25_36, c25_37, c25_38, c25_39, c25_40, c25_41, c25_42, c25_43, c25_44, c25_45, e25_47, w25_47, c25_48, c25_49, c25_50, c25_51, c25_52, c25_53, e25_55, w25_55, c25_56, c25_57, c25_58, c25_59, c25_60, Trp.row, Stay.row, t1, t0]
    refine next_pop hj (by rfl) ⟨hit_fwd hz2 hA, ?_, rfl⟩
    rw [← Nat.add_assoc, hB]; rfl
  · rw [hb] at hA hB
    simp only [Bool.true_and, Bool.true_or] at hA hB
    simp -implicitDefEqProofs (disch := omega) only [go_sem, Nat.reduceAdd, Nat.reduceMul, Nat.reduceSub, Nat.reduceBEq, Nat.reduceLeDiff, Nat.reduceLT, fn_trip_Overtakes, e25_1, w25_1, e25_3, w25_3, c25_4, e25_6, w25_6, e25_8, w25_8, e25_10, w25_10, e25_12, w25_12, c25_13, e25_15, w25_15, e25_17, w25_17, e25_19, w25_19, e25_21, w25_21, c25_22, e25_24, w25_24, e25_26, w25_26, c25_27, e25_29, w25_29, e25_31, w25_31, c25_32, c25_33, c25_34, e25_36, w25_36, c25_37, c25_38, c25_39, c25_40, c25_41, c25_42, c25_43, c25_44, c25_45, e25_47, w25_47, c25_48, c25_49, c25_50, c25_51, c25_52, c25_53, e25_55, w25_55, c25_56, c25_57, c25_58, c25_59, c25_60, Trp.row, Stay.row, t1, t0]
    refine ifD (fun h => ?_) (fun h => ?_)
    · simp -implicitDefEqProofs (disch := omega) only [go_sem, Nat.reduceAdd, Nat.reduceMul, Nat.reduceSub, Nat.reduceBEq, Nat.reduceLeDiff, Nat.reduceLT, fn_trip_Overtakes, e25_1, w25_1, e25_3, w25_3, c25_4, e25_6, w25_6, e25_8, w25_8, e25_10, w25_10, e25_12, w25_12, c25_13, e25_15, w25_15, e25_17, w25_17, e25_19, w25_19, e25_21, w25_21, c25_22, e25_24, w25_24, e25_26, w25_26, c25_27, e25_29, w25_29, e25_31, w25_31, c25_32, c25_33, c25_34, e25_36, w25_36, c25_37, c25_38, c25_39, c25_40, c25_41, c25_42, c25_43, c25_44, c25_45, e25_47, w25_47, c25_48, c25_49, c25_50, c25_51, c25_52, c25_53, e25_55, w25_55, c25_56, c25_57, c25_58, c25_59, c25_60, overt_true hs hk (by rw [hA]; simp [h])]
    · simp -implicitDefEqProofs (disch := omega) only [go_sem, Nat.reduceAdd, Nat.reduceMul, Nat.reduceSub, Nat.reduceBEq, Nat.reduceLeDiff, Nat.reduceLT, fn_trip_Overtakes, e25_1, w25_1, e25_3, w25_3, c25_4, e25_6, w25_6, e25_8, w25_8, e25_10, w25_10, e25_12, w25_12, c25_13, e25_15, w25_15, e25_17, w25_17, e25_19, w25_19, e25_21, w25_21, c25_22, e25_24, w25_24, e25_26, w25_26, c25_27, e25_29, w25_29, e25_31, w25_31, c25_32, c25_33, c25_34, e25_36, w25_36, c25_37, c25_38, c25_39, c25_40, c25_41, c25_42, c25_43, c25_44, c25_45, e25_47, w25_47, c25_48, c25_49, c25_50, c25_51, c25_52, c25_53, e25_55, w25_55, c25_56, c25_57, c25_58, c25_59, c25_60, Trp.row, Stay.row, t1, t0]
      refine next_pop hj (by rfl) ⟨hit_fwd hz2 (show hitU a.calls b.calls (2 * i + j) = false by rw [hA]; simp [h]), ?_, rfl⟩
      rw [← Nat.add_assoc, hB]; rfl
theorem transitref17_event_ok (t : Trp) (k : Nat) (hl : t.calls.length ≤ 1000) (hk : k < 2 * t.calls.length) : PCalls PR i_transitref17_event [.agg t.row, .int .i64 k] (fun v => v = .int .i64 (evO t.calls k)) := by
  obtain ⟨x, hx⟩ : ∃ x, t.calls[k / 2]? = some x := ⟨t.calls[k / 2]'(by omega), by simp⟩
  have gx := stay_at hx
  have e1 : binV .rem .none (.int .i64 (k : Int)) (.int .i64 2) = some (.int .i64 ((k % 2 : Nat) : Int)) := by rw [bin_rem _ _ _ _ (by omega), Int.ofNat_tmod k 2]; rfl
  have e2 : binV .quo .none (.int .i64 (k : Int)) (.int .i64 2) = some (.int .i64 ((k / 2 : Nat) : Int)) := by
    have : (k : Int).tdiv 2 = ((k / 2 : Nat) : Int) := (Int.ofNat_tdiv k 2).symm
    rw [bin_quo _ _ _ _ (by omega), this, wrap_i64 _ (by omega) (by omega)]
  refine acalls_pop fn_transitref17_event_ok (by simp [fn_transitref17_event]) ?_
  rcases Nat.mod_two_eq_zero_or_one k with h | h
  · have e3 : evO t.calls k = x.arrive := by simp only [evO, hx, h, if_true]
    rw [h] at e1
    have d0 : decide (((0 : Nat) : Int) = 0) = true := rfl
    have d1 : decide (((1 : Nat) : Int) = 0) = false := rfl
    simp -implicitDefEqProofs (disch := omega) only [go_sem, Nat.reduceAdd, Nat.reduceMul, Nat.reduceSub, Nat.reduceBEq, Nat.reduceLeDiff, Nat.reduceLT, fn_transitref17_event, e35_1, w35_1, e35_3, w35_3, c35_4, e35_6, w35_6, e35_8, w35_8, c35_9, c35_10, c35_11, Trp.row, e1, e2, d0, d1, gx, List.length_map, e3]
  · have e3 : evO t.calls k = x.depart := by simp only [evO, hx, h]; rfl
    rw [h] at e1
    have d0 : decide (((0 : Nat) : Int) = 0) = true := rfl
    have d1 : decide (((1 : Nat) : Int) = 0) = false := rfl
    simp -implicitDefEqProofs (disch := omega) only [go_sem, Nat.reduceAdd, Nat.reduceMul, Nat.reduceSub, Nat.reduceBEq, Nat.reduceLeDiff, Nat.reduceLT, fn_transitref17_event, e35_1, w35_1, e35_3, w35_3, c35_4, e35_6, w35_6, e35_8, w35_8, c35_9, c35_10, c35_11, Trp.row, e1, e2, d0, d1, gx, List.length_map, e3]
theorem transitref17_Overtakes_ok (a b : Trp) (hl : a.calls.length ≤ 1000) : PCalls PR i_transitref17_Overtakes [.agg a.row, .agg b.row] (fun v => v = .bool (overt a.calls b.calls)) := by
  have hsp := transitref17_SamePattern_ok a b hl
  simp only [Trp.row] at hsp
  refine acalls_pop fn_transitref17_Overtakes_ok (by simp [fn_transitref17_Overtakes]) ?_
  simp -implicitDefEqProofs (disch := omega) only [go_sem, Nat.reduceAdd, Nat.reduceMul, Nat.reduceSub, Nat.reduceBEq, Nat.reduceLeDiff, Nat.reduceLT, fn_transitref17_Overtakes, e26_1, w26_1, e26_3, w26_3, c26_4, e26_6, w26_6, e26_8, w26_8, e26_10, w26_10, e26_12, w26_12, e26_14, w26_14, e26_16, w26_16, c26_17, e26_19, w26_19, c26_20, e26_22, w26_22, c26_23, c26_24, c26_25, c26_26, c26_27, c26_28, e26_30, w26_30, c26_31, c26_32, c26_33, c26_34, c26_35, e26_37, w26_37, c26_38, c26_39, c26_40, c26_41, Trp.row]
  first | refine callD (hsp) ?_ | refine callQD (hsp) ?_
  refine ifB (fun h => ?_) (fun h => ?_)
  · have e : overt a.calls b.calls = false := by rw [overt]; simp only [Bool.not_eq_true'] at h; rw [h]; rfl
    simp -implicitDefEqProofs (disch := omega) only [go_sem, Nat.reduceAdd, Nat.reduceMul, Nat.reduceSub, Nat.reduceBEq, Nat.reduceLeDiff, Nat.reduceLT, fn_transitref17_Overtakes, e26_1, w26_1, e26_3, w26_3, c26_4, e26_6, w26_6, e26_8, w26_8, e26_10, w26_10, e26_12, w26_12, e26_14, w26_14, e26_16, w26_16, c26_17, e26_19, w26_19, c26_20, e26_22, w26_22, c26_23, c26_24, c26_25, c26_26, c26_27, c26_28, e26_30, w26_30, c26_31, c26_32, c26_33, c26_34, c26_35, e26_37, w26_37, c26_38, c26_39, c26_40, c26_41, e]
  have hs : samePat a.calls b.calls = true := by simpa using h
  have hlen := samePat_length hs
  simp -implicitDefEqProofs (disch := omega) only [go_sem, Nat.reduceAdd, Nat.reduceMul, Nat.reduceSub, Nat.reduceBEq, Nat.reduceLeDiff, Nat.reduceLT, fn_transitref17_Overtakes, e26_1, w26_1, e26_3, w26_3, c26_4, e26_6, w26_6, e26_8, w26_8, e26_10, w26_10, e26_12, w26_12, e26_14, w26_14, e26_16, w26_16, c26_17, e26_19, w26_19, c26_20, e26_22, w26_22, c26_23, c26_24, c26_25, c26_26, c26_27, c26_28, e26_30, w26_30, c26_31, c26_32, c26_33, c26_34, c26_35, e26_37, w26_37, c26_38, c26_39, c26_40, c26_41, List.length_map]
  refine wpC_for (2 * a.calls.length) (fun i vs M => (∀ j k, j < i → j < k → k < 2 * a.calls.length → ¬ (evO a.calls j > evO b.calls j ∧ evO a.calls k < evO b.calls k)) ∧ vs = [.ptr 0 0, .ptr 1 0, .int .i64 i] ∧ M = [.box a.row, .box b.row]) ⟨fun j k h => by omega, rfl, rfl⟩ ?_ ?_
  rotate_left
  · rintro vs M ⟨hz, rfl, rfl⟩
    have e : overt a.calls b.calls = false := overt_false fun k hk => by
      cases hb : laterU a.calls b.calls k
      · simp only [hitU, hb, Bool.false_and]
      obtain ⟨i, hik, h1⟩ := laterU_iff.1 hb
      simp only [hitU, hb, Bool.true_and]
      exact decide_eq_false fun h2 => hz i k (by omega) hik hk ⟨h1, h2⟩
    have d2 : decide (((2 * a.calls.length : Nat) : Int) < 2 * (a.calls.length : Int)) = false := decide_eq_false (by omega)
    simp -implicitDefEqProofs (disch := omega) only [go_sem, Nat.reduceAdd, Nat.reduceMul, Nat.reduceSub, Nat.reduceBEq, Nat.reduceLeDiff, Nat.reduceLT, fn_transitref17_Overtakes, e26_1, w26_1, e26_3, w26_3, c26_4, e26_6, w26_6, e26_8, w26_8, e26_10, w26_10, e26_12, w26_12, e26_14, w26_14, e26_16, w26_16, c26_17, e26_19, w26_19, c26_20, e26_22, w26_22, c26_23, c26_24, c26_25, c26_26, c26_27, c26_28, e26_30, w26_30, c26_31, c26_32, c26_33, c26_34, c26_35, e26_37, w26_37, c26_38, c26_39, c26_40, c26_41, Trp.row, List.length_map, d2, e]
  rintro i vs M hi _ ⟨hz, rfl, rfl⟩
  have hd : decide ((i : Int) < 2 * (a.calls.length : Int)) = true := decide_eq_true (by omega)
  simp -implicitDefEqProofs (disch := omega) only [go_sem, Nat.reduceAdd, Nat.reduceMul, Nat.reduceSub, Nat.reduceBEq, Nat.reduceLeDiff, Nat.reduceLT, fn_transitref17_Overtakes, e26_1, w26_1, e26_3, w26_3, c26_4, e26_6, w26_6, e26_8, w26_8, e26_10, w26_10, e26_12, w26_12, e26_14, w26_14, e26_16, w26_16, c26_17, e26_19, w26_19, c26_20, e26_22, w26_22, c26_23, c26_24, c26_25, c26_26, c26_27, c26_28, e26_30, w26_30, c26_31, c26_32, c26_33, c26_34, c26_35, e26_37, w26_37, c26_38, c26_39, c26_40, c26_41, Trp.row, List.length_map, hd]
  refine wpC_for (2 * a.calls.length - (i + 1)) (fun j vs M => (∀ k, i < k → k < i + 1 + j → ¬ (evO a.calls i > evO b.calls i ∧ evO a.calls k < evO b.calls k)) ∧ vs = [.ptr 0 0, .ptr 1 0, .int .i64 i, .int .i64 ((i + 1 + j : Nat) : Int)] ∧ M = [.box a.row, .box b.row]) ⟨fun k h1 h2 => by omega, rfl, rfl⟩ ?_ ?_
  rotate_left
  · rintro vs M ⟨h, rfl, rfl⟩
    have hd2 : decide (((i + 1 + (2 * a.calls.length - (i + 1)) : Nat) : Int) < 2 * (a.calls.length : Int)) = false := decide_eq_false (by omega)
    simp -implicitDefEqProofs (disch := omega) only [go_sem, Nat.reduceAdd, Nat.reduceMul, Nat.reduceSub, Nat.reduceBEq, Nat.reduceLeDiff, Nat.reduceLT, fn_transitref17_Overtakes, e26_1, w26_1, e26_3, w26_3, c26_4, e26_6, w26_6, e26_8, w26_8, e26_10, w26_10, e26_12, w26_12, e26_14, w26_14, e26_16, w26_16, c26_17, e26_19, w26_19, c26_20, e26_22, w26_22, c26_23, c26_24, c26_25, c26_26, c26_27, c26_28, e26_30, w26_30, c26_31, c26_32, c26_33, c26_34, c26_35, e26_37, w26_37, c26_38, c26_39, c26_40, c26_41, Trp.row, List.length_map, hd2]
    refine next_stay hi ⟨fun j k hj hjk hk => ?_, rfl, rfl⟩
    rcases Nat.lt_or_ge j i with h2 | h2
    · exact hz j k h2 hjk hk
    · have : j = i := by omega
      subst this
      exact h k hjk (by omega)
  rintro j vs M hj _ ⟨hno, rfl, rfl⟩
  have hd2 : decide (((i + 1 + j : Nat) : Int) < 2 * (a.calls.length : Int)) = true := decide_eq_true (by omega)
  have en : ((i + 1 + j : Nat) : Int) + 1 = ((i + 1 + (j + 1) : Nat) : Int) := by omega
  have ea := transitref17_event_ok a i hl (by omega)
  have eb := transitref17_event_ok b i (by omega) (by omega)
  have fa := transitref17_event_ok a (i + 1 + j) hl (by omega)
  have fb := transitref17_event_ok b (i + 1 + j) (by omega) (by omega)
  simp only [Trp.row] at ea eb fa fb
  have fwd : ¬ (evO a.calls i > evO b.calls i ∧ evO a.calls (i + 1 + j) < evO b.calls (i + 1 + j)) → ∀ k, i < k → k < i + 1 + (j + 1) → ¬ (evO a.calls i > evO b.calls i ∧ evO a.calls k < evO b.calls k) := fun h k h1 h2 => by
    rcases Nat.lt_or_ge k (i + 1 + j) with h3 | h3
    · exact hno k h1 h3
    · have : k = i + 1 + j := by omega
      subst this
      exact h
  have hit : evO a.calls i > evO b.calls i → evO a.calls (i + 1 + j) < evO b.calls (i + 1 + j) → overt a.calls b.calls = true := fun h1 h2 => by
    refine overt_true (k := i + 1 + j) hs (by omega) ?_
    have hL : laterU a.calls b.calls (i + 1 + j) = true := laterU_iff.2 ⟨i, by omega, h1⟩
    rw [hitU, hL, Bool.true_and]
    exact decide_eq_true h2
  generalize evO a.calls i = p at *
  generalize evO b.calls i = q at *
  generalize evO a.calls (i + 1 + j) = p' at *
  generalize evO b.calls (i + 1 + j) = q' at *
  simp -implicitDefEqProofs (disch := omega) only [go_sem, Nat.reduceAdd, Nat.reduceMul, Nat.reduceSub, Nat.reduceBEq, Nat.reduceLeDiff, Nat.reduceLT, fn_transitref17_Overtakes, e26_1, w26_1, e26_3, w26_3, c26_4, e26_6, w26_6, e26_8, w26_8, e26_10, w26_10, e26_12, w26_12, e26_14, w26_14, e26_16, w26_16, c26_17, e26_19, w26_19, c26_20, e26_22, w26_22, c26_23, c26_24, c26_25, c26_26, c26_27, c26_28, e26_30, w26_30, c26_31, c26_32, c26_33, c26_34, c26_35, e26_37, w26_37, c26_38, c26_39, c26_40, c26_41, Trp.row, List.length_map, hd2]
  first | refine callD (ea) ?_ | refine callQD (ea) ?_
  simp -implicitDefEqProofs (disch := omega) only [go_sem, Nat.reduceAdd, Nat.reduceMul, Nat.reduceSub, Nat.reduceBEq, Nat.reduceLeDiff, Nat.reduceLT, fn_transitref17_Overtakes, e26_1, w26_1, e26_3, w26_3, c26_4, e26_6, w26_6, e26_8, w26_8, e26_10, w26_10, e26_12, w26_12, e26_14, w26_14, e26_16, w26_16, c26_17, e26_19, w26_19, c26_20, e26_22, w26_22, c26_23, c26_24, c26_25, c26_26, c26_27, c26_28, e26_30, w26_30, c26_31, c26_32, c26_33, c26_34, c26_35, e26_37, w26_37, c26_38, c26_39, c26_40, c26_41, Trp.row]
  first | refine callD (eb) ?_ | refine callQD (eb) ?_
  simp -implicitDefEqProofs (disch := omega) only [go_sem, Nat.reduceAdd, Nat.reduceMul, Nat.reduceSub, Nat.reduceBEq, Nat.reduceLeDiff, Nat.reduceLT, fn_transitref17_Overtakes, e26_1, w26_1, e26_3, w26_3, c26_4, e26_6, w26_6, e26_8, w26_8, e26_10, w26_10, e26_12, w26_12, e26_14, w26_14, e26_16, w26_16, c26_17, e26_19, w26_19, c26_20, e26_22, w26_22, c26_23, c26_24, c26_25, c26_26, c26_27, c26_28, e26_30, w26_30, c26_31, c26_32, c26_33, c26_34, c26_35, e26_37, w26_37, c26_38, c26_39, c26_40, c26_41, Trp.row]
  refine ifD (fun h1 => ?_) (fun h1 => ?_)
  rotate_left
  · simp -implicitDefEqProofs (disch := omega) only [go_sem, Nat.reduceAdd, Nat.reduceMul, Nat.reduceSub, Nat.reduceBEq, Nat.reduceLeDiff, Nat.reduceLT, fn_transitref17_Overtakes, e26_1, w26_1, e26_3, w26_3, c26_4, e26_6, w26_6, e26_8, w26_8, e26_10, w26_10, e26_12, w26_12, e26_14, w26_14, e26_16, w26_16, c26_17, e26_19, w26_19, c26_20, e26_22, w26_22, c26_23, c26_24, c26_25, c26_26, c26_27, c26_28, e26_30, w26_30, c26_31, c26_32, c26_33, c26_34, c26_35, e26_37, w26_37, c26_38, c26_39, c26_40, c26_41, en]
    exact next_stay hj ⟨fwd (fun h => h1 (by omega)), rfl, rfl⟩
  simp -implicitDefEqProofs (disch := omega) only [go_sem, Nat.reduceAdd, Nat.reduceMul, Nat.reduceSub, Nat.reduceBEq, Nat.reduceLeDiff, Nat.reduceLT, fn_transitref17_Overtakes, e26_1, w26_1, e26_3, w26_3, c26_4, e26_6, w26_6, e26_8, w26_8, e26_10, w26_10, e26_12, w26_12, e26_14, w26_14, e26_16, w26_16, c26_17, e26_19, w26_19, c26_20, e26_22, w26_22, c26_23, c26_24, c26_25, c26_26, c26_27, c26_28, e26_30, w26_30, c26_31, c26_32, c26_33, c26_34, c26_35, e26_37, w26_37, c26_38, c26_39, c26_40, c26_41, Trp.row]
  first | refine callD (fa) ?_ | refine callQD (fa) ?_
  simp -implicitDefEqProofs (disch := omega) only [go_sem, Nat.reduceAdd, Nat.reduceMul, Nat.reduceSub, Nat.reduceBEq, Nat.reduceLeDiff, Nat.reduceLT, fn_transitref17_Overtakes, e26_1, w26_1, e26_3, w26_3, c26_4, e26_6, w26_6, e26_8, w26_8, e26_10, w26_10, e26_12, w26_12, e26_14, w26_14, e26_16, w26_16, c26_17, e26_19, w26_19, c26_20, e26_22, w26_22, c26_23, c26_24, c26_25, c26_26, c26_27, c26_28, e26_30, w26_30, c26_31, c26_32, c26_33, c26_34, c26_35, e26_37, w26_37, c26_38, c26_39, c26_40, c26_41, Trp.row]
  first | refine callD (fb) ?_ | refine callQD (fb) ?_
  simp -implicitDefEqProofs (disch := omega) only [go_sem, Nat.reduceAdd, Nat.reduceMul, Nat.reduceSub, Nat.reduceBEq, Nat.reduceLeDiff, Nat.reduceLT, fn_transitref17_Overtakes, e26_1, w26_1, e26_3, w26_3, c26_4, e26_6, w26_6, e26_8, w26_8, e26_10, w26_10, e26_12, w26_12, e26_14, w26_14, e26_16, w26_16, c26_17, e26_19, w26_19, c26_20, e26_22, w26_22, c26_23, c26_24, c26_25, c26_26, c26_27, c26_28, e26_30, w26_30, c26_31, c26_32, c26_33, c26_34, c26_35, e26_37, w26_37, c26_38, c26_39, c26_40, c26_41, Trp.row]
  refine ifD (fun h2 => ?_) (fun h2 => ?_)
  rotate_left
  · simp -implicitDefEqProofs (disch := omega) only [go_sem, Nat.reduceAdd, Nat.reduceMul, Nat.reduceSub, Nat.reduceBEq, Nat.reduceLeDiff, Nat.reduceLT, fn_transitref17_Overtakes, e26_1, w26_1, e26_3, w26_3, c26_4, e26_6, w26_6, e26_8, w26_8, e26_10, w26_10, e26_12, w26_12, e26_14, w26_14, e26_16, w26_16, c26_17, e26_19, w26_19, c26_20, e26_22, w26_22, c26_23, c26_24, c26_25, c26_26, c26_27, c26_28, e26_30, w26_30, c26_31, c26_32, c26_33, c26_34, c26_35, e26_37, w26_37, c26_38, c26_39, c26_40, c26_41, en]
    exact next_stay hj ⟨fwd (fun h => h2 (by omega)), rfl, rfl⟩
  simp -implicitDefEqProofs (disch := omega) only [go_sem, Nat.reduceAdd, Nat.reduceMul, Nat.reduceSub, Nat.reduceBEq, Nat.reduceLeDiff, Nat.reduceLT, fn_transitref17_Overtakes, e26_1, w26_1, e26_3, w26_3, c26_4, e26_6, w26_6, e26_8, w26_8, e26_10, w26_10, e26_12, w26_12, e26_14, w26_14, e26_16, w26_16, c26_17, e26_19, w26_19, c26_20, e26_22, w26_22, c26_23, c26_24, c26_25, c26_26, c26_27, c26_28, e26_30, w26_30, c26_31, c26_32, c26_33, c26_34, c26_35, e26_37, w26_37, c26_38, c26_39, c26_40, c26_41, hit (by omega) (by omega)]

/-! ### The reference's group -/
def grpU (l : List Trp) (p : List Stay) (n : Nat) : List Nat := (List.range n).filter fun k => match l[k]? with | some t => samePat t.calls p | none => false
theorem grpU_succ (l : List Trp) (p : List Stay) (n : Nat) {t : Trp} (ht : l[n]? = some t) : grpU l p (n + 1) = if samePat t.calls p then grpU l p n ++ [n] else grpU l p n := by
  rw [grpU, List.range_succ, List.filter_append, ← grpU]
  cases h : samePat t.calls p <;> simp [ht, h]
theorem grpU_len (l : List Trp) (p : List Stay) (n : Nat) : (grpU l p n).length ≤ n := by
  rw [grpU]; exact Nat.le_trans (List.length_filter_le _ _) (by simp)
/-- Whether an earlier trip has the pattern of the trip i. -/
def earlier (l : List Trp) (p : List Stay) (i : Nat) : Bool := (List.range i).any fun k => match l[k]? with | some t => samePat t.calls p | none => false
def groupAt (l : List Trp) (i : Nat) : List Nat := match l[i]? with
  | some t => if earlier l t.calls i then [] else grpU l t.calls l.length
  | none => []
theorem transitref17_Group_ok (l : List Trp) (c : Cap) (i : Nat) {x : Trp} (hx : l[i]? = some x) (hl : l.length ≤ 1000) (hc : ∀ t ∈ l, t.calls.length ≤ 1000) : PCalls PR i_transitref17_Group [.slice (l.map Trp.row) c, .int .i64 i] (fun v => ∃ cap, v = .slice ((ints (groupAt l i)).map iRow) cap) := by
  have hil := (List.getElem?_eq_some_iff.1 hx).1
  have gx := trp_at hx
  refine acalls_pop fn_transitref17_Group_ok (by simp [fn_transitref17_Group]) ?_
  simp -implicitDefEqProofs (disch := omega) only [go_sem, Nat.reduceAdd, Nat.reduceMul, Nat.reduceSub, Nat.reduceBEq, Nat.reduceLeDiff, Nat.reduceLT, fn_transitref17_Group, e23_1, w23_1, e23_3, w23_3, e23_5, w23_5, e23_7, w23_7, e23_9, w23_9, e23_11, w23_11, c23_12, e23_14, w23_14, e23_16, w23_16, c23_17, c23_18, c23_19, e23_21, w23_21, c23_22, c23_23, c23_24, c23_25, c23_26, e23_28, w23_28, c23_29, c23_30, c23_31, c23_32, List.length_map]
  refine wpC_forL l (fun k vs M => ∃ ver, earlier l x.calls (min k i) = false ∧ vs = [.slice (l.map Trp.row) c, .int .i64 i, .mslice 0 ver 0 (grpU l x.calls k).length, .int .i64 k] ∧ M = [.arr 1 ((grpU l x.calls k).map idxRow) ver 0]) ⟨0, by simp [earlier], rfl, rfl⟩ ?_ ?_
  rotate_left
  · rintro vs M ⟨ver, he, rfl, rfl⟩
    rw [Nat.min_eq_right (by omega)] at he
    have e : List.take (grpU l x.calls l.length).length ((grpU l x.calls l.length).map idxRow) = (ints (groupAt l i)).map iRow := by
      rw [List.take_of_length_le (by simp), idx_rows]
      simp only [groupAt, hx, he]; rfl
    simp -implicitDefEqProofs (disch := omega) only [go_sem, Nat.reduceAdd, Nat.reduceMul, Nat.reduceSub, Nat.reduceBEq, Nat.reduceLeDiff, Nat.reduceLT, fn_transitref17_Group, e23_1, w23_1, e23_3, w23_3, e23_5, w23_5, e23_7, w23_7, e23_9, w23_9, e23_11, w23_11, c23_12, e23_14, w23_14, e23_16, w23_16, c23_17, c23_18, c23_19, e23_21, w23_21, c23_22, c23_23, c23_24, c23_25, c23_26, e23_28, w23_28, c23_29, c23_30, c23_31, c23_32, List.length_map, dec_irrefl, e]
    exact ⟨_, rfl⟩
  rintro k t vs M ht hk hd ⟨ver, he, rfl, rfl⟩
  have gt := trp_at ht
  have hsp := transitref17_SamePattern_ok t x (hc t (List.mem_of_getElem? ht))
  simp only [Trp.row] at hsp
  have hlen := grpU_len l x.calls k
  have hsucc := grpU_succ l x.calls k ht
  have e1 : (grpU l x.calls k).map idxRow ++ [[.int .i64 k]] = (grpU l x.calls k ++ [k]).map idxRow := by simp [idxRow]
  have e2 : (grpU l x.calls k).length + 1 = (grpU l x.calls k ++ [k]).length := by simp
  have hear : (k < i → samePat t.calls x.calls = false) → earlier l x.calls (min (k + 1) i) = false := fun h => by
    rcases Nat.lt_or_ge k i with h2 | h2
    · rw [Nat.min_eq_left (by omega)] at he ⊢
      rw [earlier, List.range_succ, List.any_append, ← earlier, he]
      simp [ht, h h2]
    · rw [Nat.min_eq_right (by omega)] at he ⊢
      exact he
  simp -implicitDefEqProofs (disch := omega) only [go_sem, Nat.reduceAdd, Nat.reduceMul, Nat.reduceSub, Nat.reduceBEq, Nat.reduceLeDiff, Nat.reduceLT, fn_transitref17_Group, e23_1, w23_1, e23_3, w23_3, e23_5, w23_5, e23_7, w23_7, e23_9, w23_9, e23_11, w23_11, c23_12, e23_14, w23_14, e23_16, w23_16, c23_17, c23_18, c23_19, e23_21, w23_21, c23_22, c23_23, c23_24, c23_25, c23_26, e23_28, w23_28, c23_29, c23_30, c23_31, c23_32, List.length_map, hd, gt, gx]
  first | refine callD (hsp) ?_ | refine callQD (hsp) ?_
  refine ifB (fun h => ?_) (fun h => ?_)
  · have hs : samePat t.calls x.calls = false := by simpa using h
    rw [hs, if_neg (by simp)] at hsucc
    simp -implicitDefEqProofs (disch := omega) only [go_sem, Nat.reduceAdd, Nat.reduceMul, Nat.reduceSub, Nat.reduceBEq, Nat.reduceLeDiff, Nat.reduceLT, fn_transitref17_Group, e23_1, w23_1, e23_3, w23_3, e23_5, w23_5, e23_7, w23_7, e23_9, w23_9, e23_11, w23_11, c23_12, e23_14, w23_14, e23_16, w23_16, c23_17, c23_18, c23_19, e23_21, w23_21, c23_22, c23_23, c23_24, c23_25, c23_26, e23_28, w23_28, c23_29, c23_30, c23_31, c23_32]
    exact next_stay hk ⟨ver, hear (fun _ => hs), by rw [hsucc]; rfl, by rw [hsucc]⟩
  have hs : samePat t.calls x.calls = true := by simpa using h
  simp -implicitDefEqProofs (disch := omega) only [go_sem, Nat.reduceAdd, Nat.reduceMul, Nat.reduceSub, Nat.reduceBEq, Nat.reduceLeDiff, Nat.reduceLT, fn_transitref17_Group, e23_1, w23_1, e23_3, w23_3, e23_5, w23_5, e23_7, w23_7, e23_9, w23_9, e23_11, w23_11, c23_12, e23_14, w23_14, e23_16, w23_16, c23_17, c23_18, c23_19, e23_21, w23_21, c23_22, c23_23, c23_24, c23_25, c23_26, e23_28, w23_28, c23_29, c23_30, c23_31, c23_32]
  refine ifD (fun h2 => ?_) (fun h2 => ?_)
  · have e : groupAt l i = [] := by
      have : earlier l x.calls i = true := by
        rw [earlier, List.any_eq_true]
        exact ⟨k, List.mem_range.2 (by omega), by simp [ht, hs]⟩
      simp only [groupAt, hx, this, if_true]
    simp -implicitDefEqProofs (disch := omega) only [go_sem, Nat.reduceAdd, Nat.reduceMul, Nat.reduceSub, Nat.reduceBEq, Nat.reduceLeDiff, Nat.reduceLT, fn_transitref17_Group, e23_1, w23_1, e23_3, w23_3, e23_5, w23_5, e23_7, w23_7, e23_9, w23_9, e23_11, w23_11, c23_12, e23_14, w23_14, e23_16, w23_16, c23_17, c23_18, c23_19, e23_21, w23_21, c23_22, c23_23, c23_24, c23_25, c23_26, e23_28, w23_28, c23_29, c23_30, c23_31, c23_32, e]
    exact ⟨_, rfl⟩
  rw [hs, if_pos rfl] at hsucc
  rw [← hsucc] at e1 e2
  have hk2 := hear (fun h3 => by omega)
  generalize grpU l x.calls k = S at *
  generalize hS2 : grpU l x.calls (k + 1) = S2 at *
  simp -implicitDefEqProofs (disch := omega) only [go_sem, Nat.reduceAdd, Nat.reduceMul, Nat.reduceSub, Nat.reduceBEq, Nat.reduceLeDiff, Nat.reduceLT, fn_transitref17_Group, e23_1, w23_1, e23_3, w23_3, e23_5, w23_5, e23_7, w23_7, e23_9, w23_9, e23_11, w23_11, c23_12, e23_14, w23_14, e23_16, w23_16, c23_17, c23_18, c23_19, e23_21, w23_21, c23_22, c23_23, c23_24, c23_25, c23_26, e23_28, w23_28, c23_29, c23_30, c23_31, c23_32, e1, e2]
  exact next_stay hk ⟨ver + 1, hk2, by rw [hS2]; rfl, by rw [hS2]⟩

end Go.Vm.C

