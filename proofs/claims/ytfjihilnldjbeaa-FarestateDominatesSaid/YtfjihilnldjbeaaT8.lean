/- Contracts: states in memory, the first state, the price of a state. -/
import Derived.Test.YtfjihilnldjbeaaT7

namespace Go.Vm.C
open Go.Vm
set_option maxHeartbeats 1000000
set_option maxRecDepth 10000
set_option linter.unusedSimpArgs false
set_option linter.unusedVariables false

/-! ### States in memory -/
def fcell (f : Fares) : List V := [.slice (f.products.map Product.row) .unk, .int .i64 f.discount, .int .i64 f.within, .int .i64 f.limit]
def stRow (fp : Nat) (prev : V) (r : Ride) (n : Int) (S : Nat → Int) : List V :=
  [.ptr fp 0, prev, .int .i64 r.depart, .int .i64 r.arrive, .int .i64 r.zones, .int .i64 r.modes, .int .i64 n, .int .i64 (S 0), .int .i64 (S 1), .int .i64 (S 2), .int .i64 (S 3), .int .i64 (S 4), .int .i64 (S 5), .int .i64 (S 6), .int .i64 (S 7), .int .i64 (S 8)]
theorem st_sum (fp : Nat) (prev : V) (r : Ride) (n : Int) (S : Nat → Int) {i : Nat} (h : i < 9) : (stRow fp prev r n S)[7 + i * 1]? = some (.int .i64 (S i)) :=
  nine (p := fun i => (stRow fp prev r n S)[7 + i * 1]? = some (.int .i64 (S i))) rfl rfl rfl rfl rfl rfl rfl rfl rfl h
theorem st_0 (fp : Nat) (prev : V) (r : Ride) (n : Int) (S : Nat → Int) : (stRow fp prev r n S)[0]? = some (.ptr fp 0) := rfl
theorem st_1 (fp : Nat) (prev : V) (r : Ride) (n : Int) (S : Nat → Int) : (stRow fp prev r n S)[1]? = some prev := rfl
theorem st_2 (fp : Nat) (prev : V) (r : Ride) (n : Int) (S : Nat → Int) : ((stRow fp prev r n S).drop 2).take 4 = r.row := rfl
theorem st_6 (fp : Nat) (prev : V) (r : Ride) (n : Int) (S : Nat → Int) : (stRow fp prev r n S)[6]? = some (.int .i64 n) := rfl
theorem st_len (fp : Nat) (prev : V) (r : Ride) (n : Int) (S : Nat → Int) : (stRow fp prev r n S).length = 16 := rfl

theorem nilCheck_ptr (i o : Nat) : nilCheckV (.ptr i o) = some (.ptr i o) := rfl
theorem eq_ptr_nil (i o : Nat) : binV .eql .ptr (.ptr i o) .nilp = some (.bool false) := rfl
theorem take_len {α : Type} (l : List α) : l.take l.length = l := List.take_length

theorem State_Rides_ok {M : Mem} {id fp : Nat} {p : V} {r : Ride} {n : Int} {S : Nat → Int} (hM : M[id]? = some (.box (stRow fp p r n S))) (hU : memUnder M.length M = true) :
    ACalls PR i_farestate_State_Rides [.ptr id 0] M (fun v M' => v = .int .i64 n ∧ M' = M) := by
  refine acalls_pop fn_farestate_State_Rides_ok (by simp [fn_farestate_State_Rides]) ?_
  simp -implicitDefEqProofs (disch := omega) only [go_sem, Nat.reduceAdd, Nat.reduceMul, Nat.reduceSub, Nat.reduceBEq, Nat.reduceLeDiff, Nat.reduceLT, fn_farestate_State_Rides, e15_1, w15_1, e15_3, w15_3, c15_4, e15_6, w15_6, e15_8, w15_8, c15_9, c15_10, c15_11, eq_ptr_nil, nilCheck_ptr, hM, st_6, take_len, hU]

/-- The fare of a sum, or none. -/
def statePrice (f : Fares) (s : Int) : Int × Bool := if s < 0 then (0, false) else if f.limit = 0 ∨ s < f.limit then (s, true) else (f.limit, true)
theorem State_Price_ok {M : Mem} {id fp : Nat} {p : V} {r : Ride} {n : Nat} {S : Nat → Int} {f : Fares} (hM : M[id]? = some (.box (stRow fp p r n S))) (hF : M[fp]? = some (.box (fcell f))) (hU : memUnder M.length M = true) (hn : n < 9) :
    ACalls PR i_farestate_State_Price [.ptr id 0] M (fun v M' => v = prV (statePrice f (S n)) ∧ M' = M) := by
  refine acalls_pop fn_farestate_State_Price_ok (by simp [fn_farestate_State_Price]) ?_
  simp -implicitDefEqProofs (disch := omega) only [go_sem, Nat.reduceAdd, Nat.reduceMul, Nat.reduceSub, Nat.reduceBEq, Nat.reduceLeDiff, Nat.reduceLT, fn_farestate_State_Price, e14_1, w14_1, e14_3, w14_3, c14_4, e14_6, w14_6, e14_8, w14_8, e14_10, w14_10, c14_11, e14_13, w14_13, c14_14, e14_16, w14_16, c14_17, c14_18, c14_19, c14_20, eq_ptr_nil, nilCheck_ptr, hM, st_6, st_sum, take_len, hU]
  refine ifD (fun h1 => ?_) (fun h1 => ?_)
  · simp -implicitDefEqProofs (disch := omega) only [go_sem, Nat.reduceAdd, Nat.reduceMul, Nat.reduceSub, Nat.reduceBEq, Nat.reduceLeDiff, Nat.reduceLT, fn_farestate_State_Price, e14_1, w14_1, e14_3, w14_3, c14_4, e14_6, w14_6, e14_8, w14_8, e14_10, w14_10, c14_11, e14_13, w14_13, c14_14, e14_16, w14_16, c14_17, c14_18, c14_19, c14_20, statePrice, prV, take_len, hU]
    rw [if_pos h1]
  simp -implicitDefEqProofs (disch := omega) only [go_sem, Nat.reduceAdd, Nat.reduceMul, Nat.reduceSub, Nat.reduceBEq, Nat.reduceLeDiff, Nat.reduceLT, fn_farestate_State_Price, e14_1, w14_1, e14_3, w14_3, c14_4, e14_6, w14_6, e14_8, w14_8, e14_10, w14_10, c14_11, e14_13, w14_13, c14_14, e14_16, w14_16, c14_17, c14_18, c14_19, c14_20, eq_ptr_nil, nilCheck_ptr, hM, hF, st_0, st_6, st_sum, take_len, hU, fcell]
  refine ifD (fun h2 => ?_) (fun h2 => ?_)
  · simp -implicitDefEqProofs (disch := omega) only [go_sem, Nat.reduceAdd, Nat.reduceMul, Nat.reduceSub, Nat.reduceBEq, Nat.reduceLeDiff, Nat.reduceLT, fn_farestate_State_Price, e14_1, w14_1, e14_3, w14_3, c14_4, e14_6, w14_6, e14_8, w14_8, e14_10, w14_10, c14_11, e14_13, w14_13, c14_14, e14_16, w14_16, c14_17, c14_18, c14_19, c14_20, statePrice, prV, take_len, hU]
    rw [if_neg h1, if_pos (.inl h2)]
  simp -implicitDefEqProofs (disch := omega) only [go_sem, Nat.reduceAdd, Nat.reduceMul, Nat.reduceSub, Nat.reduceBEq, Nat.reduceLeDiff, Nat.reduceLT, fn_farestate_State_Price, e14_1, w14_1, e14_3, w14_3, c14_4, e14_6, w14_6, e14_8, w14_8, e14_10, w14_10, c14_11, e14_13, w14_13, c14_14, e14_16, w14_16, c14_17, c14_18, c14_19, c14_20, eq_ptr_nil, nilCheck_ptr, hM, hF, st_0, st_6, st_sum, take_len, hU, fcell]
  refine ifD (fun h3 => ?_) (fun h3 => ?_)
  · simp -implicitDefEqProofs (disch := omega) only [go_sem, Nat.reduceAdd, Nat.reduceMul, Nat.reduceSub, Nat.reduceBEq, Nat.reduceLeDiff, Nat.reduceLT, fn_farestate_State_Price, e14_1, w14_1, e14_3, w14_3, c14_4, e14_6, w14_6, e14_8, w14_8, e14_10, w14_10, c14_11, e14_13, w14_13, c14_14, e14_16, w14_16, c14_17, c14_18, c14_19, c14_20, statePrice, prV, take_len, hU]
    rw [if_neg h1, if_pos (.inr h3)]
  simp -implicitDefEqProofs (disch := omega) only [go_sem, Nat.reduceAdd, Nat.reduceMul, Nat.reduceSub, Nat.reduceBEq, Nat.reduceLeDiff, Nat.reduceLT, fn_farestate_State_Price, e14_1, w14_1, e14_3, w14_3, c14_4, e14_6, w14_6, e14_8, w14_8, e14_10, w14_10, c14_11, e14_13, w14_13, c14_14, e14_16, w14_16, c14_17, c14_18, c14_19, c14_20, eq_ptr_nil, nilCheck_ptr, hM, hF, st_0, st_6, st_sum, take_len, hU, fcell, statePrice, prV]
  rw [if_neg h1, if_neg (by omega)]

theorem lt_self (n : Nat) : decide (n < n) = false := by simp
theorem app_get {α : Type} {M : List α} {i : Nat} {b : α} (h : M[i]? = some b) (L : List α) : (M ++ L)[i]? = some b := by
  rw [List.getElem?_append_left (List.getElem?_eq_some_iff.1 h).1, h]
theorem app_last {α : Type} (M : List α) (b : α) : (M ++ [b])[M.length]? = some b := by simp
theorem app_set {α : Type} (M : List α) (b x : α) : (M ++ [b]).set M.length x = M ++ [x] := by simp
theorem app_take {α : Type} (M L : List α) : (M ++ L).take M.length = M := by simp
theorem le_app {α : Type} (M L : List α) : decide (M.length ≤ (M ++ L).length) = true := by simp

/-- The smallest sum of a division of the rides, or -1. -/
def minSum (f : Fares) (l : List Ride) : Int := match best f l 0 with | some d => total d | none => -1
/-- The sums that a state holds. -/
def sums (f : Fares) (l : List Ride) (i : Nat) : Int := if i ≤ l.length then minSum f (l.take i) else 0

/-- The state of the rides rl, the last one first. -/
def StAt (M : Mem) (f : Fares) (fp : Nat) : List Ride → Nat → Prop
  | [], id => ∃ r, M[id]? = some (.box (stRow fp .nilp r 0 (sums f [])))
  | r :: rl, id => ∃ pid, M[id]? = some (.box (stRow fp (.ptr pid 0) r ((rl.length + 1 : Nat) : Int) (sums f (r :: rl).reverse))) ∧ StAt M f fp rl pid
theorem StAt.app {M : Mem} {f : Fares} {fp : Nat} (L : Mem) : ∀ {rl : List Ride} {id : Nat}, StAt M f fp rl id → StAt (M ++ L) f fp rl id
  | [], _, ⟨r, h⟩ => ⟨r, app_get h L⟩
  | _ :: _, _, ⟨pid, h, h2⟩ => ⟨pid, app_get h L, StAt.app L h2⟩

theorem makeSlice_nat0 (zero : List V) (sz bytes n : Nat) (M : Mem) (hn : n ≤ 9) (hb : bytes ≤ 32) : makeSliceV zero sz bytes (.int .i64 (n : Int)) (.int .i64 (n : Int)) M = some (.mslice M.length 0 0 n, M ++ [.arr sz (List.replicate n zero) 0 0]) := by
  have h1 : (n : Int) * (bytes : Int) ≤ 9 * 32 := Int.mul_le_mul (by omega) (by omega) (by omega) (by omega)
  have a1 : decide (0 ≤ (n : Int)) = true := decide_eq_true (by omega)
  have a2 : decide ((n : Int) ≤ (n : Int)) = true := decide_eq_true (by omega)
  have a3 : decide ((n : Int) * (bytes : Int) ≤ 2 ^ 48) = true := decide_eq_true (by omega)
  have a4 : decide ((n : Int) < 2 ^ 62) = true := decide_eq_true (by omega)
  simp only [makeSliceV, a1, a2, a3, a4, Int.toNat_natCast, Bool.and_self, cond_true]

def zrow : List V := [.int .i64 0, .int .i64 0, .int .i64 0, .int .i64 0]
/-- The rows of the list when the last j rides are written. -/
def lrows (rl : List Ride) (j : Nat) : List (List V) := List.replicate (rl.length - j) zrow ++ ((rl.take j).reverse).map Ride.row
theorem lrows_len (rl : List Ride) {j : Nat} (h : j ≤ rl.length) : (lrows rl j).length = rl.length := by simp [lrows]; omega
theorem lrows_set {rl : List Ride} {j : Nat} {r : Ride} (h : rl[j]? = some r) : (lrows rl j).set (rl.length - 1 - j) r.row = lrows rl (j + 1) := by
  have hj : j < rl.length := (List.getElem?_eq_some_iff.1 h).1
  have e : rl.length - j = (rl.length - 1 - j) + 1 := by omega
  have e2 : rl.length - (j + 1) = rl.length - 1 - j := by omega
  rw [lrows, lrows, List.take_add_one, h, e2, e, List.replicate_succ', List.append_assoc]
  simp
theorem lrows_get {rl : List Ride} {j : Nat} (h : j < rl.length) : (lrows rl j)[rl.length - 1 - j]? = some zrow := by
  rw [lrows, List.getElem?_append_left (by simp; omega), List.getElem?_replicate]
  rw [if_pos (by omega)]
theorem lrows_all (rl : List Ride) : lrows rl rl.length = rl.reverse.map Ride.row := by simp [lrows]
theorem lrows_zero (rl : List Ride) : List.replicate rl.length [V.int .i64 0, .int .i64 0, .int .i64 0, .int .i64 0] = lrows rl 0 := by simp [lrows, zrow]

/-- The chain of the rides rl, the last one first, whatever the sums. -/
def ChAt (M : Mem) (fp : Nat) : List Ride → Nat → Prop
  | [], id => ∃ r S, M[id]? = some (.box (stRow fp .nilp r 0 S))
  | r :: rl, id => ∃ pid S, M[id]? = some (.box (stRow fp (.ptr pid 0) r ((rl.length + 1 : Nat) : Int) S)) ∧ ChAt M fp rl pid
theorem ChAt.app {M : Mem} {fp : Nat} (L : Mem) : ∀ {rl : List Ride} {id : Nat}, ChAt M fp rl id → ChAt (M ++ L) fp rl id
  | [], _, ⟨r, S, h⟩ => ⟨r, S, app_get h L⟩
  | _ :: _, _, ⟨pid, S, h, h2⟩ => ⟨pid, S, app_get h L, ChAt.app L h2⟩
theorem StAt.chain {M : Mem} {f : Fares} {fp : Nat} : ∀ {rl : List Ride} {id : Nat}, StAt M f fp rl id → ChAt M fp rl id
  | [], _, ⟨r, h⟩ => ⟨r, _, h⟩
  | _ :: _, _, ⟨pid, h, h2⟩ => ⟨pid, _, h, h2.chain⟩
theorem ChAt.shows {M : Mem} {fp : Nat} {rl : List Ride} {id : Nat} (h : ChAt M fp rl id) : ∃ p r S, M[id]? = some (.box (stRow fp p r (rl.length : Nat) S)) := by
  cases rl with
  | nil => obtain ⟨r, S, h⟩ := h; exact ⟨_, r, S, h⟩
  | cons r rl => obtain ⟨pid, S, h, _⟩ := h; exact ⟨_, r, S, h⟩

/-- What every state shows. -/
theorem StAt.shows {M : Mem} {f : Fares} {fp : Nat} {rl : List Ride} {id : Nat} (h : StAt M f fp rl id) : ∃ p r, M[id]? = some (.box (stRow fp p r (rl.length : Nat) (sums f rl.reverse))) := by
  cases rl with
  | nil => obtain ⟨r, h⟩ := h; exact ⟨_, r, h⟩
  | cons r rl => obtain ⟨pid, h, _⟩ := h; exact ⟨_, r, h⟩

theorem State_list_ok {M : Mem} {id fp : Nat} {rl : List Ride} (hS : ChAt M fp rl id) (hU : memUnder M.length M = true) (hlen : rl.length ≤ 8) :
    ACalls PR i_farestate_State_list [.ptr id 0] M (fun v M' => v = .slice (rl.reverse.map Ride.row) .unk ∧ M' = M) := by
  obtain ⟨p, r, S, hM⟩ := hS.shows
  have hM' := fun L => app_get hM L
  refine acalls_pop fn_farestate_State_list_ok (by simp [fn_farestate_State_list]) ?_
  simp -implicitDefEqProofs (disch := omega) only [go_sem, Nat.reduceAdd, Nat.reduceMul, Nat.reduceSub, Nat.reduceBEq, Nat.reduceLeDiff, Nat.reduceLT, fn_farestate_State_list, e25_1, w25_1, e25_3, w25_3, e25_5, w25_5, e25_7, w25_7, e25_9, w25_9, e25_11, w25_11, c25_12, c25_13, e25_15, w25_15, c25_16, c25_17, c25_18, c25_19, c25_20, e25_22, w25_22, c25_23, c25_24, c25_25, c25_26, nilCheck_ptr, hM, hM', st_6, makeSlice_nat0, lrows_zero]
  refine wpC_for rl.length (fun j vs N => ∃ cur, ChAt M fp (rl.drop j) cur ∧ vs = [.ptr cur 0, .mslice M.length 0 0 rl.length, .int .i64 ((rl.length : Int) - 1 - j)] ∧ N = M ++ [.arr 4 (lrows rl j) 0 0]) ⟨id, hS, by simp [vals, sget], rfl⟩ ?_ ?_
  rotate_left
  · rintro vs N ⟨cur, hc, rfl, rfl⟩
    have h1 : ((rl.length : Int) - 1 - rl.length) = -1 := by omega
    simp -implicitDefEqProofs (disch := omega) only [go_sem, Nat.reduceAdd, Nat.reduceMul, Nat.reduceSub, Nat.reduceBEq, Nat.reduceLeDiff, Nat.reduceLT, fn_farestate_State_list, e25_1, w25_1, e25_3, w25_3, e25_5, w25_5, e25_7, w25_7, e25_9, w25_9, e25_11, w25_11, c25_12, c25_13, e25_15, w25_15, c25_16, c25_17, c25_18, c25_19, c25_20, e25_22, w25_22, c25_23, c25_24, c25_25, c25_26, h1]
    refine ifD (fun h2 => ?_) (fun h2 => ?_)
    · omega
    have ht : List.take rl.length (rl.reverse.map Ride.row) = rl.reverse.map Ride.row := List.take_of_length_le (by simp)
    simp -implicitDefEqProofs (disch := omega) only [go_sem, Nat.reduceAdd, Nat.reduceMul, Nat.reduceSub, Nat.reduceBEq, Nat.reduceLeDiff, Nat.reduceLT, fn_farestate_State_list, e25_1, w25_1, e25_3, w25_3, e25_5, w25_5, e25_7, w25_7, e25_9, w25_9, e25_11, w25_11, c25_12, c25_13, e25_15, w25_15, c25_16, c25_17, c25_18, c25_19, c25_20, e25_22, w25_22, c25_23, c25_24, c25_25, c25_26, app_last, app_take, le_app, hU, lt_self, lrows_all, List.length_reverse, ht]
  rintro j vs N hj hjd ⟨cur, hc, rfl, rfl⟩
  obtain ⟨x, hx⟩ : ∃ x, rl[j]? = some x := ⟨rl[j], by simp⟩
  rw [drop_cons hx] at hc
  obtain ⟨pid, S', hc1, hc2⟩ := hc
  have hc1' := fun L => app_get hc1 L
  obtain ⟨i, hi⟩ : ∃ i : Nat, (rl.length : Int) - 1 - j = i := ⟨rl.length - 1 - j, by omega⟩
  have hi' : i = rl.length - 1 - j := by omega
  have hg := lrows_get (rl := rl) hj
  rw [← hi'] at hg
  have hset := lrows_set hx
  rw [← hi'] at hset
  simp only [Ride.row] at hset
  simp -implicitDefEqProofs (disch := omega) only [go_sem, Nat.reduceAdd, Nat.reduceMul, Nat.reduceSub, Nat.reduceBEq, Nat.reduceLeDiff, Nat.reduceLT, fn_farestate_State_list, e25_1, w25_1, e25_3, w25_3, e25_5, w25_5, e25_7, w25_7, e25_9, w25_9, e25_11, w25_11, c25_12, c25_13, e25_15, w25_15, c25_16, c25_17, c25_18, c25_19, c25_20, e25_22, w25_22, c25_23, c25_24, c25_25, c25_26, hi]
  refine ifD (fun h2 => ?_) (fun h2 => ?_)
  rotate_left
  · omega
  simp -implicitDefEqProofs (disch := omega) only [go_sem, Nat.reduceAdd, Nat.reduceMul, Nat.reduceSub, Nat.reduceBEq, Nat.reduceLeDiff, Nat.reduceLT, fn_farestate_State_list, e25_1, w25_1, e25_3, w25_3, e25_5, w25_5, e25_7, w25_7, e25_9, w25_9, e25_11, w25_11, c25_12, c25_13, e25_15, w25_15, c25_16, c25_17, c25_18, c25_19, c25_20, e25_22, w25_22, c25_23, c25_24, c25_25, c25_26, nilCheck_ptr, hc1', st_1, st_2, st_len, app_last, app_set, lrows_len rl (Nat.le_of_lt hj), hg, zrow, Ride.row, dec_lt]
  refine next_stay hj ⟨pid, hc2, ?_, ?_⟩
  · have : (i : Int) - 1 = (rl.length : Int) - 1 - ((j + 1 : Nat) : Int) := by omega
    simp [vals, sget, this]
  · rw [hset]

mutual
theorem under_mono {n m : Nat} (h : n ≤ m) : ∀ v : V, v.under n = true → v.under m = true
  | .ptr _ _, hv => by simp only [V.under, decide_eq_true_eq] at hv ⊢; omega
  | .eptr _ _ _ _, hv => by simp only [V.under, decide_eq_true_eq] at hv ⊢; omega
  | .mslice _ _ _ _, hv => by simp only [V.under, decide_eq_true_eq] at hv ⊢; omega
  | .map _, hv => by simp only [V.under, decide_eq_true_eq] at hv ⊢; omega
  | .fn _ caps, hv => by simp only [V.under] at hv ⊢; exact underL_mono h caps hv
  | .agg cells, hv => by simp only [V.under] at hv ⊢; exact underL_mono h cells hv
  | .tuple vs, hv => by simp only [V.under] at hv ⊢; exact underL_mono h vs hv
  | .undef, _ => rfl
  | .bool _, _ => rfl
  | .int _ _, _ => rfl
  | .str _, _ => rfl
  | .nilp, _ => rfl
  | .nilf, _ => rfl
  | .nilm, _ => rfl
  | .slice _ _, _ => rfl
  | .rref _, _ => rfl
  | .pfn _ _, _ => rfl
theorem underL_mono {n m : Nat} (h : n ≤ m) : ∀ vs : List V, underL n vs = true → underL m vs = true
  | [], _ => rfl
  | v :: vs, hv => by
    simp only [underL, Bool.and_eq_true] at hv ⊢
    exact ⟨under_mono h v hv.1, underL_mono h vs hv.2⟩
end
theorem memUnder_mono {n m : Nat} (h : n ≤ m) : ∀ M : Mem, memUnder n M = true → memUnder m M = true
  | [], _ => rfl
  | B :: M, hv => by
    simp only [memUnder, Bool.and_eq_true] at hv ⊢
    refine ⟨?_, memUnder_mono h M hv.2⟩
    cases B with
    | box cells => exact underL_mono h cells hv.1
    | arr _ _ _ _ => rfl
    | map _ => rfl
theorem memUnder_app (n : Nat) : ∀ M L : Mem, memUnder n (M ++ L) = (memUnder n M && memUnder n L)
  | [], L => by simp [memUnder]
  | B :: M, L => by simp [memUnder, memUnder_app n M L, Bool.and_assoc]

/-- A memory that leads only to itself. -/
def Own (M : Mem) : Prop := memUnder M.length M = true
theorem Own.app {M L : Mem} (h : Own M) (hL : memUnder (M.length + L.length) L = true) : Own (M ++ L) := by
  unfold Own at *
  rw [memUnder_app, List.length_append, memUnder_mono (Nat.le_add_right _ _) M h, hL]; rfl

theorem get_at {α : Type} (M L : List α) (i : Nat) : (M ++ L)[M.length + i]? = L[i]? := by
  rw [List.getElem?_append_right (by omega), Nat.add_sub_cancel_left]
theorem get_at0 {α : Type} (M L : List α) : (M ++ L)[M.length]? = L[0]? := by
  rw [List.getElem?_append_right (by omega), Nat.sub_self]
theorem set_at {α : Type} (M L : List α) (i : Nat) (x : α) : (M ++ L).set (M.length + i) x = M ++ L.set i x := by
  rw [List.set_append, if_neg (by omega), Nat.add_sub_cancel_left]
theorem set_at0 {α : Type} (M L : List α) (x : α) : (M ++ L).set M.length x = M ++ L.set 0 x := by
  rw [List.set_append, if_neg (by omega), Nat.sub_self]

theorem minSum_nil (f : Fares) : minSum f [] = 0 := by
  have := best_end f []
  simp only [List.length_nil] at this
  simp [minSum, this, total]
theorem sums_nil (f : Fares) (i : Nat) : sums f [] i = 0 := by
  unfold sums
  split
  · rw [List.take_nil, minSum_nil]
  · rfl

/-- The fares and the state of the rides rl in memory. -/
structure Held (M : Mem) (f : Fares) (fp : Nat) (rl : List Ride) (id : Nat) : Prop where
  own : Own M
  fares : M[fp]? = some (.box (fcell f))
  st : StAt M f fp rl id

theorem farestate_Start_ok (f : Fares) (hf : f.wf) {M : Mem} (hU : Own M) :
    ACalls PR i_farestate_Start [.agg f.row] M (fun v M' => (∃ L, M' = M ++ L) ∧ Own M' ∧ ((checkRes f).2 ≠ 0 → v = .tuple [.nilp, .int .i64 20]) ∧
      ((checkRes f).2 = 0 → ∃ id fp, v = .tuple [.ptr id 0, .int .i64 0] ∧ Held M' f fp [] id)) := by
  refine acalls_keep fn_farestate_Start_ok (by simp [fn_farestate_Start]) ?_
  simp only [wpKeep]
  simp -implicitDefEqProofs (disch := omega) only [go_sem, Nat.reduceAdd, Nat.reduceMul, Nat.reduceSub, Nat.reduceBEq, Nat.reduceLeDiff, Nat.reduceLT, fn_farestate_Start, e12_1, w12_1, e12_3, w12_3, e12_5, w12_5, c12_6, e12_8, w12_8, c12_9, e12_11, w12_11, e12_13, w12_13, e12_15, w12_15, c12_16, c12_17, c12_18, c12_19, c12_20, Fares.row, get_at0]
  first | refine callD (product_Check_ok f hf) ?_ | refine callQD (product_Check_ok f hf) ?_
  simp -implicitDefEqProofs (disch := omega) only [go_sem, Nat.reduceAdd, Nat.reduceMul, Nat.reduceSub, Nat.reduceBEq, Nat.reduceLeDiff, Nat.reduceLT, fn_farestate_Start, e12_1, w12_1, e12_3, w12_3, e12_5, w12_5, c12_6, e12_8, w12_8, c12_9, e12_11, w12_11, e12_13, w12_13, e12_15, w12_15, c12_16, c12_17, c12_18, c12_19, c12_20, pairV]
  refine ifD (fun h1 => ?_) (fun h1 => ?_)
  rotate_left
  · simp -implicitDefEqProofs (disch := omega) only [go_sem, Nat.reduceAdd, Nat.reduceMul, Nat.reduceSub, Nat.reduceBEq, Nat.reduceLeDiff, Nat.reduceLT, fn_farestate_Start, e12_1, w12_1, e12_3, w12_3, e12_5, w12_5, c12_6, e12_8, w12_8, c12_9, e12_11, w12_11, e12_13, w12_13, e12_15, w12_15, c12_16, c12_17, c12_18, c12_19, c12_20, pairV]
    refine ⟨⟨_, rfl⟩, hU.app (by simp [memUnder, Blk.under, underL, V.under]), by simp, fun h => absurd h h1⟩
  have hpl := (checkRes_ok h1).len
  simp -implicitDefEqProofs (disch := omega) only [go_sem, Nat.reduceAdd, Nat.reduceMul, Nat.reduceSub, Nat.reduceBEq, Nat.reduceLeDiff, Nat.reduceLT, fn_farestate_Start, e12_1, w12_1, e12_3, w12_3, e12_5, w12_5, c12_6, e12_8, w12_8, c12_9, e12_11, w12_11, e12_13, w12_13, e12_15, w12_15, c12_16, c12_17, c12_18, c12_19, c12_20, Fares.row, get_at0, get_at, set_at0, set_at, List.append_assoc, headLen_map (f := Product.row) (n := 6) (fun r => rfl) f.products, Bool.true_or]
  refine ⟨⟨_, rfl⟩, hU.app (by simp [memUnder, Blk.under, underL, V.under]), fun h => absurd h1 h, fun _ => ⟨M.length + 2, M.length + 1, rfl, ?_⟩⟩
  refine ⟨hU.app (by simp [memUnder, Blk.under, underL, V.under]), by rw [get_at]; rfl, ⟨0, 0, 0, 0⟩, ?_⟩
  rw [get_at]
  simp [stRow, sums_nil]

theorem farestate_within_ok (a b d : Int) (ha : I64 a) (hb : I64 b) (hd : I64 d) (h0 : 0 ≤ d) : PCalls PR i_farestate_within [.int .i64 a, .int .i64 b, .int .i64 d] (fun v => v = .bool (decide (b - a ≤ d))) := by
  obtain ⟨a1, a2⟩ := ha
  obtain ⟨b1, b2⟩ := hb
  obtain ⟨d1, d2⟩ := hd
  refine acalls_pop fn_farestate_within_ok (by simp [fn_farestate_within]) ?_
  simp -implicitDefEqProofs (disch := omega) only [go_sem, Nat.reduceAdd, Nat.reduceMul, Nat.reduceSub, Nat.reduceBEq, Nat.reduceLeDiff, Nat.reduceLT, fn_farestate_within, e43_1, w43_1, e43_3, w43_3, c43_4, c43_5, open_if]
  repeat' (refine BIf_dec (fun h => ?_) (fun h => ?_))
  all_goals
    rw [Bool.eq_iff_iff]
    simp only [decide_eq_true_eq, u64_wrap, i64_wrap, true_iff, false_iff, Bool.false_eq_true]
    omega

theorem State_price_ok (f : Fares) (p : Product) (l : List Ride) (c : Cap) (i : Nat) (hf : f.wf) (hok : f.Ok) (hp : 0 ≤ p.price ∧ p.price ≤ 1000000) (hl : ∀ r ∈ l, r.wf) (hi : i < l.length) (hlen : l.length ≤ maxLen)
    {M : Mem} {id fp : Nat} {pv : V} {r : Ride} {n : Int} {S : Nat → Int} (hM : M[id]? = some (.box (stRow fp pv r n S))) (hF : M[fp]? = some (.box (fcell f))) (hU : Own M) :
    ACalls PR i_farestate_State_price [.ptr id 0, .agg p.row, .slice (l.map Ride.row) c, .int .i64 i] M (fun v M' => v = .int .i64 (ticket f p l i) ∧ M' = M) := by
  have hm : maxLen = 9223372036854775807 := by rfl
  have hU' : memUnder M.length M = true := hU
  obtain ⟨d1, d2⟩ := hok.discount
  have hM' := fun L => app_get hM L
  have hF' := fun L => app_get hF L
  refine acalls_pop fn_farestate_State_price_ok (by simp [fn_farestate_State_price]) ?_
  obtain ⟨b, hb⟩ : ∃ b, l[i]? = some b := ⟨l[i], by simp⟩
  obtain ⟨a, ha⟩ : ∃ a, l[i - 1]? = some a := ⟨l[i - 1], by simp⟩
  have ht : ticket f p l i = if 0 < i ∧ b.depart - a.arrive ≤ f.within then max 0 (p.price - f.discount) else p.price := by simp only [ticket, ha, hb]
  simp -implicitDefEqProofs (disch := omega) only [go_sem, Nat.reduceAdd, Nat.reduceMul, Nat.reduceSub, Nat.reduceBEq, Nat.reduceLeDiff, Nat.reduceLT, fn_farestate_State_price, e27_1, w27_1, e27_3, w27_3, c27_4, e27_6, w27_6, e27_8, w27_8, c27_9, c27_10, c27_11, Product.row]
  refine ifD (fun h1 => ?_) (fun h1 => ?_)
  rotate_left
  · simp -implicitDefEqProofs (disch := omega) only [go_sem, Nat.reduceAdd, Nat.reduceMul, Nat.reduceSub, Nat.reduceBEq, Nat.reduceLeDiff, Nat.reduceLT, fn_farestate_State_price, e27_1, w27_1, e27_3, w27_3, c27_4, e27_6, w27_6, e27_8, w27_8, c27_9, c27_10, c27_11, get_at0, Product.row, ht, app_take, le_app, hU']
    rw [if_neg (fun e => by omega)]
  simp -implicitDefEqProofs (disch := omega) only [go_sem, Nat.reduceAdd, Nat.reduceMul, Nat.reduceSub, Nat.reduceBEq, Nat.reduceLeDiff, Nat.reduceLT, fn_farestate_State_price, e27_1, w27_1, e27_3, w27_3, c27_4, e27_6, w27_6, e27_8, w27_8, c27_9, c27_10, c27_11, nilCheck_ptr, hM', hF', st_0, fcell, Product.row, ha, hb, Ride.row]
  first | refine callD (farestate_within_ok _ _ _ (hl a (List.mem_of_getElem? ha)).2.1 (hl b (List.mem_of_getElem? hb)).1 hf.2.2.2.1 hok.within.1) ?_ | refine callQD (farestate_within_ok _ _ _ (hl a (List.mem_of_getElem? ha)).2.1 (hl b (List.mem_of_getElem? hb)).1 hf.2.2.2.1 hok.within.1) ?_
  simp -implicitDefEqProofs (disch := omega) only [go_sem, Nat.reduceAdd, Nat.reduceMul, Nat.reduceSub, Nat.reduceBEq, Nat.reduceLeDiff, Nat.reduceLT, fn_farestate_State_price, e27_1, w27_1, e27_3, w27_3, c27_4, e27_6, w27_6, e27_8, w27_8, c27_9, c27_10, c27_11]
  refine ifD (fun h2 => ?_) (fun h2 => ?_)
  · simp -implicitDefEqProofs (disch := omega) only [go_sem, Nat.reduceAdd, Nat.reduceMul, Nat.reduceSub, Nat.reduceBEq, Nat.reduceLeDiff, Nat.reduceLT, fn_farestate_State_price, e27_1, w27_1, e27_3, w27_3, c27_4, e27_6, w27_6, e27_8, w27_8, c27_9, c27_10, c27_11, nilCheck_ptr, hM', hF', st_0, fcell, get_at0, Product.row, ht, app_take, le_app, hU']
    rw [if_pos ⟨by omega, h2⟩]
  · simp -implicitDefEqProofs (disch := omega) only [go_sem, Nat.reduceAdd, Nat.reduceMul, Nat.reduceSub, Nat.reduceBEq, Nat.reduceLeDiff, Nat.reduceLT, fn_farestate_State_price, e27_1, w27_1, e27_3, w27_3, c27_4, e27_6, w27_6, e27_8, w27_8, c27_9, c27_10, c27_11, nilCheck_ptr, get_at0, Product.row, ht, app_take, le_app, hU']
    rw [if_neg (fun e => h2 e.2)]

end Go.Vm.C

