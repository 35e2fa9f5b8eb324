/- Contracts: accounts in memory, what was spent, what is left, refunds. -/
import Derived.Test.YtojpmklnmaomlaaT8

namespace Go.Vm.C
open Go.Vm
set_option maxHeartbeats 1000000
set_option maxRecDepth 10000
set_option linter.unusedSimpArgs false
set_option linter.unusedVariables false

/-! ### States in memory -/
def fcell (f : Fares) : List V := [.slice (f.products.map Product.row) .unk, .int .i64 f.discount, .int .i64 f.within, .int .i64 f.limit]
def stRow (fp : Nat) (prev : V) (r : Ride) (n : Int) (S : Nat → Int) : List V :=
  [.ptr fp 0, prev, .int .i64 r.depart, .int .i64 r.arrive, .int .i64 r.zones, .int .i64 r.modes, .int .i64 n, .int .i64 (S 0), .int .i64 (S 1), .int .i64 (S 2), .int .i64 (S 3), .int .i64 (S 4), .int .i64 (S 5), .int .i64 (S 6), .int .i64 (S 7), .int .i64 (S 8)]
theorem nilCheck_ptr (i o : Nat) : nilCheckV (.ptr i o) = some (.ptr i o) := rfl
theorem eq_ptr_nil (i o : Nat) : binV .eql .ptr (.ptr i o) .nilp = some (.bool false) := rfl
theorem take_len {α : Type} (l : List α) : l.take l.length = l := List.take_length

theorem app_get {α : Type} {M : List α} {i : Nat} {b : α} (h : M[i]? = some b) (L : List α) : (M ++ L)[i]? = some b := by
  rw [List.getElem?_append_left (List.getElem?_eq_some_iff.1 h).1, h]
theorem app_take {α : Type} (M L : List α) : (M ++ L).take M.length = M := by simp
/-- The smallest sum of a division of the rides, or -1. -/
def minSum (f : Fares) (l : List Ride) : Int := match best f l 0 with | some d => total d | none => -1
/-- The sums that a state holds. -/
def sums (f : Fares) (l : List Ride) (i : Nat) : Int := if i ≤ l.length then minSum f (l.take i) else 0

/-- The state of the rides rl, the last one first. -/
def StAt (M : Mem) (f : Fares) (fp : Nat) : List Ride → Nat → Prop
  | [], id => ∃ r, M[id]? = some (.box (stRow fp .nilp r 0 (sums f [])))
  | r :: rl, id => ∃ pid, M[id]? = some (.box (stRow fp (.ptr pid 0) r ((rl.length + 1 : Nat) : Int) (sums f (r :: rl).reverse))) ∧ StAt M f fp rl pid
theorem StAt.app {M : Mem} {f : Fares} {fp : Nat} (L : Mem) : ∀ {rl : List Ride} {id : Nat}, StAt M f fp rl id → StAt (M ++ L) f fp rl id
  | [], _, ⟨r, h⟩ => ⟨r, app_get h L⟩
  | _ :: _, _, ⟨pid, h, h2⟩ => ⟨pid, app_get h L, StAt.app L h2⟩

/-- The chain of the rides rl, the last one first, whatever the sums. -/
def ChAt (M : Mem) (fp : Nat) : List Ride → Nat → Prop
  | [], id => ∃ r S, M[id]? = some (.box (stRow fp .nilp r 0 S))
  | r :: rl, id => ∃ pid S, M[id]? = some (.box (stRow fp (.ptr pid 0) r ((rl.length + 1 : Nat) : Int) S)) ∧ ChAt M fp rl pid
theorem ChAt.app {M : Mem} {fp : Nat} (L : Mem) : ∀ {rl : List Ride} {id : Nat}, ChAt M fp rl id → ChAt (M ++ L) fp rl id
  | [], _, ⟨r, S, h⟩ => ⟨r, S, app_get h L⟩
  | _ :: _, _, ⟨pid, S, h, h2⟩ => ⟨pid, S, app_get h L, ChAt.app L h2⟩
theorem StAt.chain {M : Mem} {f : Fares} {fp : Nat} : ∀ {rl : List Ride} {id : Nat}, StAt M f fp rl id → ChAt M fp rl id
  | [], _, ⟨r, h⟩ => ⟨r, _, h⟩
  | _ :: _, _, ⟨pid, h, h2⟩ => ⟨pid, _, h, h2.chain⟩
mutual
theorem under_mono {n m : Nat} (h : n ≤ m) : ∀ v : V, v.under n = true → v.under m = true
  | .ptr _ _, hv => by simp only [V.under, decide_eq_true_eq] at hv ⊢; omega
  | .eptr _ _ _ _, hv => by simp only [V.under, decide_eq_true_eq] at hv ⊢; omega
  | .mslice _ _ _ _, hv => by simp only [V.under, decide_eq_true_eq] at hv ⊢; omega
  | .map _, hv => by simp only [V.under, decide_eq_true_eq] at hv ⊢; omega
  | .fn _ caps, hv => by simp only [V.under] at hv ⊢; exact underL_mono h caps hv
  | .agg cells, hv => by simp only [V.under] at hv ⊢; exact underL_mono h cells hv
  | .tuple vs, hv => by simp only [V.under] at hv ⊢; exact underL_mono h vs hv
  | .undef, _ => rfl
  | .bool _, _ => rfl
  | .int _ _, _ => rfl
  | .str _, _ => rfl
  | .nilp, _ => rfl
  | .nilf, _ => rfl
  | .nilm, _ => rfl
  | .slice _ _, _ => rfl
  | .rref _, _ => rfl
  | .pfn _ _, _ => rfl
theorem underL_mono {n m : Nat} (h : n ≤ m) : ∀ vs : List V, underL n vs = true → underL m vs = true
  | [], _ => rfl
  | v :: vs, hv => by
    simp only [underL, Bool.and_eq_true] at hv ⊢
    exact ⟨under_mono h v hv.1, underL_mono h vs hv.2⟩
end
theorem memUnder_mono {n m : Nat} (h : n ≤ m) : ∀ M : Mem, memUnder n M = true → memUnder m M = true
  | [], _ => rfl
  | B :: M, hv => by
    simp only [memUnder, Bool.and_eq_true] at hv ⊢
    refine ⟨?_, memUnder_mono h M hv.2⟩
    cases B with
    | box cells => exact underL_mono h cells hv.1
    | arr _ _ _ _ => rfl
    | map _ => rfl
    | vec cells _ => exact underL_mono h cells hv.1
    | dead => rfl
theorem memUnder_app (n : Nat) : ∀ M L : Mem, memUnder n (M ++ L) = (memUnder n M && memUnder n L)
  | [], L => by simp [memUnder]
  | B :: M, L => by simp [memUnder, memUnder_app n M L, Bool.and_assoc]

/-- A memory that leads only to itself. -/
def Own (M : Mem) : Prop := memUnder M.length M = true
theorem Own.app {M L : Mem} (h : Own M) (hL : memUnder (M.length + L.length) L = true) : Own (M ++ L) := by
  unfold Own at *
  rw [memUnder_app, List.length_append, memUnder_mono (Nat.le_add_right _ _) M h, hL]; rfl

theorem get_at {α : Type} (M L : List α) (i : Nat) : (M ++ L)[M.length + i]? = L[i]? := by
  rw [List.getElem?_append_right (by omega), Nat.add_sub_cancel_left]
theorem get_at0 {α : Type} (M L : List α) : (M ++ L)[M.length]? = L[0]? := by
  rw [List.getElem?_append_right (by omega), Nat.sub_self]
theorem set_at {α : Type} (M L : List α) (i : Nat) (x : α) : (M ++ L).set (M.length + i) x = M ++ L.set i x := by
  rw [List.set_append, if_neg (by omega), Nat.add_sub_cancel_left]
theorem set_at0 {α : Type} (M L : List α) (x : α) : (M ++ L).set M.length x = M ++ L.set 0 x := by
  rw [List.set_append, if_neg (by omega), Nat.sub_self]

theorem minSum_nil (f : Fares) : minSum f [] = 0 := by
  have := best_end f []
  simp only [List.length_nil] at this
  simp [minSum, this, total]
theorem sums_nil (f : Fares) (i : Nat) : sums f [] i = 0 := by
  unfold sums
  split
  · rw [List.take_nil, minSum_nil]
  · rfl

/-- The fares and the state of the rides rl in memory. -/
structure Held (M : Mem) (f : Fares) (fp : Nat) (rl : List Ride) (id : Nat) : Prop where
  own : Own M
  fares : M[fp]? = some (.box (fcell f))
  st : StAt M f fp rl id

/-! ### Accounts -/
def validB (d : Int) : Bool := decide (0 ≤ d ∧ d ≤ 36524)
theorem account_valid_ok (d : Int) : PCalls PR i_account_valid [.int .i64 d] (fun v => v = .bool (validB d)) := by
  have hcl : PCalls PR i_number_Clamp [.int .i64 d, .int .i64 0, .int .i64 36524] (fun v => v = .int .i64 (if d < 0 then 0 else if 36524 < d then 36524 else d)) := by
    refine acalls_pop fn_number_Clamp_ok (by simp [fn_number_Clamp]) ?_
    simp -implicitDefEqProofs (disch := omega) only [go_sem, Nat.reduceAdd, Nat.reduceMul, Nat.reduceSub, Nat.reduceBEq, Nat.reduceLeDiff, Nat.reduceLT, fn_number_Clamp, e41_1, w41_1, e41_3, w41_3, c41_4, e41_6, w41_6, e41_8, w41_8, c41_9, e41_11, w41_11, e41_13, w41_13, c41_14, c41_15, c41_16, c41_17]
    refine ifD (fun h1 => ?_) (fun h1 => ?_)
    · rw [if_pos h1]
      simp -implicitDefEqProofs (disch := omega) only [go_sem, Nat.reduceAdd, Nat.reduceMul, Nat.reduceSub, Nat.reduceBEq, Nat.reduceLeDiff, Nat.reduceLT, fn_number_Clamp, e41_1, w41_1, e41_3, w41_3, c41_4, e41_6, w41_6, e41_8, w41_8, c41_9, e41_11, w41_11, e41_13, w41_13, c41_14, c41_15, c41_16, c41_17]
    rw [if_neg h1]
    simp -implicitDefEqProofs (disch := omega) only [go_sem, Nat.reduceAdd, Nat.reduceMul, Nat.reduceSub, Nat.reduceBEq, Nat.reduceLeDiff, Nat.reduceLT, fn_number_Clamp, e41_1, w41_1, e41_3, w41_3, c41_4, e41_6, w41_6, e41_8, w41_8, c41_9, e41_11, w41_11, e41_13, w41_13, c41_14, c41_15, c41_16, c41_17]
    refine ifD (fun h2 => ?_) (fun h2 => ?_)
    · rw [if_pos h2]
      simp -implicitDefEqProofs (disch := omega) only [go_sem, Nat.reduceAdd, Nat.reduceMul, Nat.reduceSub, Nat.reduceBEq, Nat.reduceLeDiff, Nat.reduceLT, fn_number_Clamp, e41_1, w41_1, e41_3, w41_3, c41_4, e41_6, w41_6, e41_8, w41_8, c41_9, e41_11, w41_11, e41_13, w41_13, c41_14, c41_15, c41_16, c41_17]
    · rw [if_neg h2]
      simp -implicitDefEqProofs (disch := omega) only [go_sem, Nat.reduceAdd, Nat.reduceMul, Nat.reduceSub, Nat.reduceBEq, Nat.reduceLeDiff, Nat.reduceLT, fn_number_Clamp, e41_1, w41_1, e41_3, w41_3, c41_4, e41_6, w41_6, e41_8, w41_8, c41_9, e41_11, w41_11, e41_13, w41_13, c41_14, c41_15, c41_16, c41_17]
  refine acalls_pop fn_account_valid_ok (by simp [fn_account_valid]) ?_
  simp -implicitDefEqProofs (disch := omega) only [go_sem, Nat.reduceAdd, Nat.reduceMul, Nat.reduceSub, Nat.reduceBEq, Nat.reduceLeDiff, Nat.reduceLT, fn_account_valid, e28_1, w28_1, e28_3, w28_3, c28_4, c28_5]
  first | refine callD (hcl) ?_ | refine callQD (hcl) ?_
  simp -implicitDefEqProofs (disch := omega) only [go_sem, Nat.reduceAdd, Nat.reduceMul, Nat.reduceSub, Nat.reduceBEq, Nat.reduceLeDiff, Nat.reduceLT, fn_account_valid, e28_1, w28_1, e28_3, w28_3, c28_4, c28_5]
  unfold validB
  refine decide_eq_decide.2 ?_
  split
  · omega
  · split <;> omega
/-- An account in memory: its block at id, its map at mid. -/
structure Acc (M : Mem) (f : Fares) (id mid : Nat) (L : List (Int × Int)) : Prop where
  own : memUnder M.length M = true
  box : M[id]? = some (.box (.map mid :: f.row))
  ents : M[mid]? = some (.map (dayMap L))
  ne : id ≠ mid
theorem memUnder_set (n : Nat) : ∀ (M : Mem) (i : Nat) (es : List (V × V)), memUnder n M = true → memUnder n (M.set i (.map es)) = true
  | [], i, es, h => by simpa using h
  | B :: M, 0, es, h => by
    simp only [memUnder, Bool.and_eq_true, List.set_cons_zero] at h ⊢
    exact ⟨rfl, h.2⟩
  | B :: M, i + 1, es, h => by
    simp only [memUnder, Bool.and_eq_true, List.set_cons_succ] at h ⊢
    exact ⟨h.1, memUnder_set n M i es h.2⟩
theorem Acc.set {M : Mem} {f : Fares} {id mid : Nat} {L : List (Int × Int)} (h : Acc M f id mid L) (L' : List (Int × Int)) : Acc (M.set mid (.map (dayMap L'))) f id mid L' := by
  have hlt : mid < M.length := (List.getElem?_eq_some_iff.1 h.ents).1
  refine ⟨?_, ?_, ?_, h.ne⟩
  · rw [List.length_set]; exact memUnder_set _ _ _ _ h.own
  · rw [List.getElem?_set_ne (fun e => h.ne e.symm)]; exact h.box
  · rw [List.getElem?_set_self hlt]
def spentOn (L : List (Int × Int)) (d : Int) : Int := (getL L d).getD 0
theorem spentOn_set (L : List (Int × Int)) (d n e : Int) : spentOn (setL L d n) e = if e = d then n else spentOn L e := by
  unfold spentOn
  rw [getL_set]
  split <;> rfl
theorem eq_nil_nil : binV .eql .ptr .nilp .nilp = some (.bool true) := rfl

theorem Account_Spent_ok {M : Mem} {f : Fares} {id mid : Nat} {L : List (Int × Int)} (h : Acc M f id mid L) (d : Int) : ACalls PR i_account_Account_Spent [.ptr id 0, .int .i64 d] M (fun v M' => v = .int .i64 (spentOn L d) ∧ M' = M) := by
  obtain ⟨hU, hb, he, _⟩ := h
  refine acalls_pop fn_account_Account_Spent_ok (by simp [fn_account_Account_Spent]) ?_
  simp -implicitDefEqProofs (disch := omega) only [go_sem, Nat.reduceAdd, Nat.reduceMul, Nat.reduceSub, Nat.reduceBEq, Nat.reduceLeDiff, Nat.reduceLT, fn_account_Account_Spent, e11_1, w11_1, e11_3, w11_3, c11_4, e11_6, w11_6, e11_8, w11_8, c11_9, c11_10, c11_11, eq_ptr_nil, nilCheck_ptr, hb, he, lookE_day, take_len, hU, spentOn]
/-- What can still be charged. -/
def leftRes (f : Fares) (L : List (Int × Int)) (d : Int) : Int × Bool := if f.limit = 0 ∨ validB d = false then (0, false) else (f.limit - spentOn L d, true)
theorem Account_Left_ok {M : Mem} {f : Fares} {id mid : Nat} {L : List (Int × Int)} (h : Acc M f id mid L) (d : Int) (hf : 0 ≤ f.limit ∧ f.limit ≤ 1000000) (hs : 0 ≤ spentOn L d ∧ spentOn L d ≤ 1000000000) :
    ACalls PR i_account_Account_Left [.ptr id 0, .int .i64 d] M (fun v M' => v = prV (leftRes f L d) ∧ M' = M) := by
  obtain ⟨hU, hb, he, _⟩ := h
  unfold spentOn at hs
  obtain ⟨s1, s2⟩ := hs
  obtain ⟨f1, f2⟩ := hf
  refine acalls_pop fn_account_Account_Left_ok (by simp [fn_account_Account_Left]) ?_
  simp -implicitDefEqProofs (disch := omega) only [go_sem, Nat.reduceAdd, Nat.reduceMul, Nat.reduceSub, Nat.reduceBEq, Nat.reduceLeDiff, Nat.reduceLT, fn_account_Account_Left, e12_1, w12_1, e12_3, w12_3, c12_4, e12_6, w12_6, e12_8, w12_8, c12_9, c12_10, c12_11, eq_ptr_nil, nilCheck_ptr, hb, Fares.row]
  refine ifD (fun h1 => ?_) (fun h1 => ?_)
  · have e : leftRes f L d = (0, false) := by rw [leftRes, if_pos (.inl h1)]
    simp -implicitDefEqProofs (disch := omega) only [go_sem, Nat.reduceAdd, Nat.reduceMul, Nat.reduceSub, Nat.reduceBEq, Nat.reduceLeDiff, Nat.reduceLT, fn_account_Account_Left, e12_1, w12_1, e12_3, w12_3, c12_4, e12_6, w12_6, e12_8, w12_8, c12_9, c12_10, c12_11, take_len, hU, prV, e]
  simp -implicitDefEqProofs (disch := omega) only [go_sem, Nat.reduceAdd, Nat.reduceMul, Nat.reduceSub, Nat.reduceBEq, Nat.reduceLeDiff, Nat.reduceLT, fn_account_Account_Left, e12_1, w12_1, e12_3, w12_3, c12_4, e12_6, w12_6, e12_8, w12_8, c12_9, c12_10, c12_11]
  first | refine callD (account_valid_ok d) ?_ | refine callQD (account_valid_ok d) ?_
  simp -implicitDefEqProofs (disch := omega) only [go_sem, Nat.reduceAdd, Nat.reduceMul, Nat.reduceSub, Nat.reduceBEq, Nat.reduceLeDiff, Nat.reduceLT, fn_account_Account_Left, e12_1, w12_1, e12_3, w12_3, c12_4, e12_6, w12_6, e12_8, w12_8, c12_9, c12_10, c12_11]
  refine ifB (fun h2 => ?_) (fun h2 => ?_)
  rotate_left
  · have e : leftRes f L d = (0, false) := by rw [leftRes, if_pos (.inr h2)]
    simp -implicitDefEqProofs (disch := omega) only [go_sem, Nat.reduceAdd, Nat.reduceMul, Nat.reduceSub, Nat.reduceBEq, Nat.reduceLeDiff, Nat.reduceLT, fn_account_Account_Left, e12_1, w12_1, e12_3, w12_3, c12_4, e12_6, w12_6, e12_8, w12_8, c12_9, c12_10, c12_11, take_len, hU, prV, e]
  have e : leftRes f L d = (f.limit - spentOn L d, true) := by rw [leftRes, if_neg (by simp [h1, h2])]
  simp -implicitDefEqProofs (disch := omega) only [go_sem, Nat.reduceAdd, Nat.reduceMul, Nat.reduceSub, Nat.reduceBEq, Nat.reduceLeDiff, Nat.reduceLT, fn_account_Account_Left, e12_1, w12_1, e12_3, w12_3, c12_4, e12_6, w12_6, e12_8, w12_8, c12_9, c12_10, c12_11, eq_ptr_nil, nilCheck_ptr, hb, he, Fares.row, lookE_day, take_len, hU, prV, e, spentOn]
/-- A refund: the error, and what is spent then. -/
def refundRes (L : List (Int × Int)) (d n : Int) : Int × List (Int × Int) :=
  match getL L d with
  | none => (7, L)
  | some s => if n < 1 ∨ s < n then (2, L) else (0, setL L d (s - n))
theorem Account_Refund_ok {M : Mem} {f : Fares} {id mid : Nat} {L : List (Int × Int)} (h : Acc M f id mid L) (d n : Int) (hs : 0 ≤ spentOn L d ∧ spentOn L d ≤ 1000000000) :
    ACalls PR i_account_Account_Refund [.ptr id 0, .int .i64 d, .int .i64 n] M (fun v M' => v = .int .i64 (refundRes L d n).1 ∧ Acc M' f id mid (refundRes L d n).2 ∧ M'.length = M.length ∧ ∃ es, M' = M.set mid (.map es)) := by
  have h0 := h
  obtain ⟨hU, hb, he, hne⟩ := h
  have hsame : M = M.set mid (.map (dayMap L)) := by
    apply List.ext_getElem?
    intro j
    by_cases hj : mid = j
    · subst hj
      rw [List.getElem?_set_self (List.getElem?_eq_some_iff.1 he).1, he]
    · rw [List.getElem?_set_ne hj]
  refine acalls_pop fn_account_Account_Refund_ok (by simp [fn_account_Account_Refund]) ?_
  simp -implicitDefEqProofs (disch := omega) only [go_sem, Nat.reduceAdd, Nat.reduceMul, Nat.reduceSub, Nat.reduceBEq, Nat.reduceLeDiff, Nat.reduceLT, fn_account_Account_Refund, e24_1, w24_1, e24_3, w24_3, c24_4, e24_6, w24_6, e24_8, w24_8, e24_10, w24_10, c24_11, e24_13, w24_13, e24_15, w24_15, c24_16, e24_18, w24_18, e24_20, w24_20, e24_22, w24_22, c24_23, c24_24, c24_25, c24_26, c24_27, c24_28, c24_29, eq_ptr_nil, nilCheck_ptr, hb, he, lookE_dayT]
  cases hg : getL L d with
  | none =>
    have e : refundRes L d n = (7, L) := by rw [refundRes, hg]
    simp -implicitDefEqProofs (disch := omega) only [go_sem, Nat.reduceAdd, Nat.reduceMul, Nat.reduceSub, Nat.reduceBEq, Nat.reduceLeDiff, Nat.reduceLT, fn_account_Account_Refund, e24_1, w24_1, e24_3, w24_3, c24_4, e24_6, w24_6, e24_8, w24_8, e24_10, w24_10, c24_11, e24_13, w24_13, e24_15, w24_15, c24_16, e24_18, w24_18, e24_20, w24_20, e24_22, w24_22, c24_23, c24_24, c24_25, c24_26, c24_27, c24_28, c24_29, Option.isSome_none, Option.getD_none, take_len, hU, e]
    exact ⟨h0, _, hsame⟩
  | some s =>
    have hsp : spentOn L d = s := by simp [spentOn, hg]
    rw [hsp] at hs
    obtain ⟨s1, s2⟩ := hs
    simp -implicitDefEqProofs (disch := omega) only [go_sem, Nat.reduceAdd, Nat.reduceMul, Nat.reduceSub, Nat.reduceBEq, Nat.reduceLeDiff, Nat.reduceLT, fn_account_Account_Refund, e24_1, w24_1, e24_3, w24_3, c24_4, e24_6, w24_6, e24_8, w24_8, e24_10, w24_10, c24_11, e24_13, w24_13, e24_15, w24_15, c24_16, e24_18, w24_18, e24_20, w24_20, e24_22, w24_22, c24_23, c24_24, c24_25, c24_26, c24_27, c24_28, c24_29, Option.isSome_some, Option.getD_some]
    refine ifD (fun h1 => ?_) (fun h1 => ?_)
    · have e : refundRes L d n = (2, L) := by rw [refundRes, hg]; simp [h1]
      simp -implicitDefEqProofs (disch := omega) only [go_sem, Nat.reduceAdd, Nat.reduceMul, Nat.reduceSub, Nat.reduceBEq, Nat.reduceLeDiff, Nat.reduceLT, fn_account_Account_Refund, e24_1, w24_1, e24_3, w24_3, c24_4, e24_6, w24_6, e24_8, w24_8, e24_10, w24_10, c24_11, e24_13, w24_13, e24_15, w24_15, c24_16, e24_18, w24_18, e24_20, w24_20, e24_22, w24_22, c24_23, c24_24, c24_25, c24_26, c24_27, c24_28, c24_29, take_len, hU, e]
      exact ⟨h0, _, hsame⟩
    simp -implicitDefEqProofs (disch := omega) only [go_sem, Nat.reduceAdd, Nat.reduceMul, Nat.reduceSub, Nat.reduceBEq, Nat.reduceLeDiff, Nat.reduceLT, fn_account_Account_Refund, e24_1, w24_1, e24_3, w24_3, c24_4, e24_6, w24_6, e24_8, w24_8, e24_10, w24_10, c24_11, e24_13, w24_13, e24_15, w24_15, c24_16, e24_18, w24_18, e24_20, w24_20, e24_22, w24_22, c24_23, c24_24, c24_25, c24_26, c24_27, c24_28, c24_29]
    refine ifD (fun h2 => ?_) (fun h2 => ?_)
    · have e : refundRes L d n = (2, L) := by rw [refundRes, hg]; simp [h2]
      simp -implicitDefEqProofs (disch := omega) only [go_sem, Nat.reduceAdd, Nat.reduceMul, Nat.reduceSub, Nat.reduceBEq, Nat.reduceLeDiff, Nat.reduceLT, fn_account_Account_Refund, e24_1, w24_1, e24_3, w24_3, c24_4, e24_6, w24_6, e24_8, w24_8, e24_10, w24_10, c24_11, e24_13, w24_13, e24_15, w24_15, c24_16, e24_18, w24_18, e24_20, w24_20, e24_22, w24_22, c24_23, c24_24, c24_25, c24_26, c24_27, c24_28, c24_29, take_len, hU, e]
      exact ⟨h0, _, hsame⟩
    have e : refundRes L d n = (0, setL L d (s - n)) := by
      rw [refundRes, hg]
      simp only
      rw [if_neg (by omega)]
    simp -implicitDefEqProofs (disch := omega) only [go_sem, Nat.reduceAdd, Nat.reduceMul, Nat.reduceSub, Nat.reduceBEq, Nat.reduceLeDiff, Nat.reduceLT, fn_account_Account_Refund, e24_1, w24_1, e24_3, w24_3, c24_4, e24_6, w24_6, e24_8, w24_8, e24_10, w24_10, c24_11, e24_13, w24_13, e24_15, w24_15, c24_16, e24_18, w24_18, e24_20, w24_20, e24_22, w24_22, c24_23, c24_24, c24_25, c24_26, c24_27, c24_28, c24_29, eq_ptr_nil, nilCheck_ptr, hb, he, updE_day, e]
    have hn := h0.set (setL L d (s - n))
    have hl : (M.set mid (.map (dayMap (setL L d (s - n))))).length = M.length := by simp
    have hU2 : memUnder M.length (M.set mid (.map (dayMap (setL L d (s - n))))) = true := by
      have := hn.own
      rwa [hl] at this
    rw [List.take_of_length_le (Nat.le_of_eq hl)]
    exact ⟨by rw [hl, hU2]; simp, hn, hl, _, rfl⟩

end Go.Vm.C

