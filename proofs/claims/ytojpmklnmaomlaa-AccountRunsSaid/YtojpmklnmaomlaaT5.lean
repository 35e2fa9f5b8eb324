/- The table of the best divisions, and what it says. -/
import Derived.Test.YtojpmklnmaomlaaT4

namespace Go.Vm.C
open Go.Vm
set_option maxHeartbeats 1000000
set_option maxRecDepth 10000
set_option linter.unusedSimpArgs false
set_option linter.unusedVariables false

/-! ### Divisions -/
def rOk (o : Option (List Ticket)) : Bool := o.isSome
def rSum (o : Option (List Ticket)) : Int := match o with | some d => total d | none => 0
def rCnt (o : Option (List Ticket)) : Int := match o with | some d => (d.length : Int) | none => 0
def rTick (o : Option (List Ticket)) : Ticket := match o with | some (t :: _) => t | _ => ⟨0, 0, 0, 0⟩
def restRow (o : Option (List Ticket)) : List V := [.bool (rOk o), .int .i64 (rSum o), .int .i64 (rCnt o), .int .i64 (rTick o).product, .int .i64 (rTick o).first, .int .i64 (rTick o).last, .int .i64 (rTick o).price]

/-- The cells of the table. -/
def flatT (T : Nat → Option (List Ticket)) : List V :=
  restRow (T 0) ++ restRow (T 1) ++ restRow (T 2) ++ restRow (T 3) ++ restRow (T 4) ++ restRow (T 5) ++ restRow (T 6) ++ restRow (T 7) ++ restRow (T 8)

def upd (T : Nat → Option (List Ticket)) (i : Nat) (o : Option (List Ticket)) : Nat → Option (List Ticket) := fun j => if j = i then o else T j
theorem upd_same (T : Nat → Option (List Ticket)) (i : Nat) (o : Option (List Ticket)) : upd T i o i = o := if_pos rfl
theorem upd_ne (T : Nat → Option (List Ticket)) {i j : Nat} (o : Option (List Ticket)) (h : j ≠ i) : upd T i o j = T j := if_neg h
theorem upd_upd (T : Nat → Option (List Ticket)) (i : Nat) (a b : Option (List Ticket)) : upd (upd T i a) i b = upd T i b := by
  funext j; unfold upd; split <;> rfl

theorem nine {p : Nat → Prop} (h0 : p 0) (h1 : p 1) (h2 : p 2) (h3 : p 3) (h4 : p 4) (h5 : p 5) (h6 : p 6) (h7 : p 7) (h8 : p 8) {j : Nat} (h : j < 9) : p j := by
  match j, h with
  | 0, _ => exact h0
  | 1, _ => exact h1
  | 2, _ => exact h2
  | 3, _ => exact h3
  | 4, _ => exact h4
  | 5, _ => exact h5
  | 6, _ => exact h6
  | 7, _ => exact h7
  | 8, _ => exact h8

theorem flat_len (T : Nat → Option (List Ticket)) : (flatT T).length = 63 := rfl
theorem flat_0 (T : Nat → Option (List Ticket)) {j : Nat} (h : j < 9) : (flatT T)[j * 7]? = some (.bool (rOk (T j))) :=
  nine (p := fun j => (flatT T)[j * 7]? = some (.bool (rOk (T j)))) rfl rfl rfl rfl rfl rfl rfl rfl rfl h
theorem flat_00 (T : Nat → Option (List Ticket)) : (flatT T)[0]? = some (.bool (rOk (T 0))) := rfl
theorem flat_01 (T : Nat → Option (List Ticket)) : (flatT T)[1]? = some (.int .i64 (rSum (T 0))) := rfl
theorem flat_1 (T : Nat → Option (List Ticket)) {j : Nat} (h : j < 9) : (flatT T)[j * 7 + 1]? = some (.int .i64 (rSum (T j))) :=
  nine (p := fun j => (flatT T)[j * 7 + 1]? = some (.int .i64 (rSum (T j)))) rfl rfl rfl rfl rfl rfl rfl rfl rfl h
theorem flat_2 (T : Nat → Option (List Ticket)) {j : Nat} (h : j < 9) : (flatT T)[j * 7 + 2]? = some (.int .i64 (rCnt (T j))) :=
  nine (p := fun j => (flatT T)[j * 7 + 2]? = some (.int .i64 (rCnt (T j)))) rfl rfl rfl rfl rfl rfl rfl rfl rfl h
theorem flat_5 (T : Nat → Option (List Ticket)) {j : Nat} (h : j < 9) : (flatT T)[j * 7 + 3 + 2]? = some (.int .i64 (rTick (T j)).last) :=
  nine (p := fun j => (flatT T)[j * 7 + 3 + 2]? = some (.int .i64 (rTick (T j)).last)) rfl rfl rfl rfl rfl rfl rfl rfl rfl h
theorem flat_take (T : Nat → Option (List Ticket)) {j : Nat} (h : j < 9) : ((flatT T).drop (j * 7)).take 7 = restRow (T j) :=
  nine (p := fun j => ((flatT T).drop (j * 7)).take 7 = restRow (T j)) rfl rfl rfl rfl rfl rfl rfl rfl rfl h
theorem flat_take4 (T : Nat → Option (List Ticket)) {j : Nat} (h : j < 9) : ((flatT T).drop (j * 7 + 3)).take 4 = (rTick (T j)).row :=
  nine (p := fun j => ((flatT T).drop (j * 7 + 3)).take 4 = (rTick (T j)).row) rfl rfl rfl rfl rfl rfl rfl rfl rfl h
theorem flat_all (T : Nat → Option (List Ticket)) : (flatT T).take 63 = flatT T := rfl
theorem flat_cell (T : Nat → Option (List Ticket)) : allCell (flatT T) = true := rfl
theorem flat_put (T : Nat → Option (List Ticket)) (o : Option (List Ticket)) {j : Nat} (h : j < 9) : putAt (flatT T) (j * 7) (restRow o) = flatT (upd T j o) := by
  refine nine (p := fun j => putAt (flatT T) (j * 7) (restRow o) = flatT (upd T j o)) ?_ ?_ ?_ ?_ ?_ ?_ ?_ ?_ ?_ h <;> simp [flatT, putAt, upd, restRow]
theorem flat_put1 {j : Nat} (h : j < 9) : putAt (flatT (fun _ => none)) (j * 7) [.bool true] = flatT (upd (fun _ => none) j (some [])) := by
  refine nine (p := fun j => putAt (flatT (fun _ => none)) (j * 7) [.bool true] = flatT (upd (fun _ => none) j (some []))) ?_ ?_ ?_ ?_ ?_ ?_ ?_ ?_ ?_ h <;> simp [flatT, putAt, upd, restRow, rOk, rSum, rCnt, rTick, total]
theorem flat_under (T : Nat → Option (List Ticket)) (n : Nat) : underL n (flatT T) = true := rfl
theorem upd_self (T : Nat → Option (List Ticket)) (i : Nat) : upd T i (T i) = T := by funext j; unfold upd; split <;> simp_all
theorem flat_set (T T' : Nat → Option (List Ticket)) : putAt (flatT T) 0 (flatT T') = flatT T' := by
  simp [flatT, restRow, putAt]

theorem flat_zero : [V.bool false, .int .i64 0, .int .i64 0, .int .i64 0, .int .i64 0, .int .i64 0, .int .i64 0, .bool false, .int .i64 0, .int .i64 0, .int .i64 0, .int .i64 0, .int .i64 0, .int .i64 0, .bool false, .int .i64 0, .int .i64 0, .int .i64 0, .int .i64 0, .int .i64 0, .int .i64 0, .bool false, .int .i64 0, .int .i64 0, .int .i64 0, .int .i64 0, .int .i64 0, .int .i64 0, .bool false, .int .i64 0, .int .i64 0, .int .i64 0, .int .i64 0, .int .i64 0, .int .i64 0, .bool false, .int .i64 0, .int .i64 0, .int .i64 0, .int .i64 0, .int .i64 0, .int .i64 0, .bool false, .int .i64 0, .int .i64 0, .int .i64 0, .int .i64 0, .int .i64 0, .int .i64 0, .bool false, .int .i64 0, .int .i64 0, .int .i64 0, .int .i64 0, .int .i64 0, .int .i64 0, .bool false, .int .i64 0, .int .i64 0, .int .i64 0, .int .i64 0, .int .i64 0, .int .i64 0] = flatT (fun _ => none) := by
  simp [flatT, restRow, rOk, rSum, rCnt, rTick]
theorem flat_freeze (T : Nat → Option (List Ticket)) (M : Mem) (n : Nat) : freezeV M n 20 (.agg (flatT T)) = some (.agg (flatT T)) := by
  simp [freezeV, mapO, flatT, restRow, V.under]
attribute [irreducible] flatT

def betterB (o : Option (List Ticket)) (s n : Int) : Bool := !rOk o || (decide (s < rSum o) || (decide (s = rSum o) && decide (n < rCnt o)))

theorem fare_rest_better_ok (o : Option (List Ticket)) (s n : Int) : PCalls PR i_fare_rest_better [.agg (restRow o), .int .i64 s, .int .i64 n] (fun v => v = .bool (betterB o s n)) := by
  refine acalls_pop fn_fare_rest_better_ok (by simp [fn_fare_rest_better]) ?_
  simp -implicitDefEqProofs (disch := omega) only [go_sem, Nat.reduceAdd, Nat.reduceMul, Nat.reduceSub, Nat.reduceBEq, Nat.reduceLeDiff, Nat.reduceLT, fn_fare_rest_better, e55_1, w55_1, e55_3, w55_3, c55_4, c55_5, restRow]
  refine ifB (fun h1 => ?_) (fun h1 => ?_)
  rotate_left
  · simp -implicitDefEqProofs (disch := omega) only [go_sem, Nat.reduceAdd, Nat.reduceMul, Nat.reduceSub, Nat.reduceBEq, Nat.reduceLeDiff, Nat.reduceLT, fn_fare_rest_better, e55_1, w55_1, e55_3, w55_3, c55_4, c55_5, betterB, h1]
    rfl
  simp -implicitDefEqProofs (disch := omega) only [go_sem, Nat.reduceAdd, Nat.reduceMul, Nat.reduceSub, Nat.reduceBEq, Nat.reduceLeDiff, Nat.reduceLT, fn_fare_rest_better, e55_1, w55_1, e55_3, w55_3, c55_4, c55_5]
  refine ifD (fun h2 => ?_) (fun h2 => ?_)
  · simp -implicitDefEqProofs (disch := omega) only [go_sem, Nat.reduceAdd, Nat.reduceMul, Nat.reduceSub, Nat.reduceBEq, Nat.reduceLeDiff, Nat.reduceLT, fn_fare_rest_better, e55_1, w55_1, e55_3, w55_3, c55_4, c55_5, betterB, h1, h2]
    rfl
  simp -implicitDefEqProofs (disch := omega) only [go_sem, Nat.reduceAdd, Nat.reduceMul, Nat.reduceSub, Nat.reduceBEq, Nat.reduceLeDiff, Nat.reduceLT, fn_fare_rest_better, e55_1, w55_1, e55_3, w55_3, c55_4, c55_5]
  refine ifD (fun h3 => ?_) (fun h3 => ?_)
  · simp -implicitDefEqProofs (disch := omega) only [go_sem, Nat.reduceAdd, Nat.reduceMul, Nat.reduceSub, Nat.reduceBEq, Nat.reduceLeDiff, Nat.reduceLT, fn_fare_rest_better, e55_1, w55_1, e55_3, w55_3, c55_4, c55_5, betterB, h1, h2, h3]
    simp
  · simp -implicitDefEqProofs (disch := omega) only [go_sem, Nat.reduceAdd, Nat.reduceMul, Nat.reduceSub, Nat.reduceBEq, Nat.reduceLeDiff, Nat.reduceLT, fn_fare_rest_better, e55_1, w55_1, e55_3, w55_3, c55_4, c55_5, betterB, h1, h2, h3]
    simp [h2, h3]

/-- The division that begins with a ticket for product p and the rides i to k. -/
def cand (f : Fares) (l : List Ride) (i k p : Nat) (R : Nat → Option (List Ticket)) : Option (List Ticket) :=
  match f.products[p]? with
  | none => none
  | some q => if covers q (part l i k) = true then (R (k + 1)).map (fun d => ⟨p, i, k, ticket f q l i⟩ :: d) else none
def stepP (a c : Option (List Ticket)) : Option (List Ticket) := match c with | none => a | some d => if betterB a (total d) d.length = true then some d else a

theorem total_cons (t : Ticket) (d : List Ticket) : total (t :: d) = t.price + total d := by simp [total]

/-- The sums and the lengths are small. -/
def Mild (d : List Ticket) : Prop := 0 ≤ total d ∧ total d ≤ 1000000 * d.length ∧ d.length ≤ 8

theorem fare_divide_1_ok (f : Fares) (l : List Ride) (c : Cap) (T : Nat → Option (List Ticket)) (i k p : Nat) (q : Product) (d : List Ticket) (hf : f.wf) (hok : f.Ok) (hl : ∀ r ∈ l, r.wf) (hlen : l.length ≤ 8)
    (hik : i ≤ k) (hk : k < l.length) (hq : f.products[p]? = some q) (hT : T (k + 1) = some d) (hd : Mild d) :
    ACalls PR i_fare_divide_1 [.int .i64 i, .int .i64 k, .int .i64 p, .ptr 0 0, .ptr 1 0, .ptr 3 0] [.box f.row, .box [.slice (l.map Ride.row) c], .box (flatT fun _ => none), .box (flatT T)]
      (fun v M => v = .tuple [] ∧ M = [.box f.row, .box [.slice (l.map Ride.row) c], .box (flatT fun _ => none), .box (flatT (upd T i (stepP (T i) (cand f l i k p T))))]) := by
  have hm : maxLen = 9223372036854775807 := by rfl
  have hqm := List.mem_of_getElem? hq
  obtain ⟨d1, d2, d3⟩ := hd
  refine acalls_pop fn_fare_divide_1_ok (by simp [fn_fare_divide_1]) ?_
  simp -implicitDefEqProofs (disch := omega) only [go_sem, Nat.reduceAdd, Nat.reduceMul, Nat.reduceSub, Nat.reduceBEq, Nat.reduceLeDiff, Nat.reduceLT, fn_fare_divide_1, e52_1, w52_1, e52_3, w52_3, e52_5, w52_5, e52_7, w52_7, e52_9, w52_9, c52_10, c52_11, c52_12, Fares.row, hq, Product.row, slice_part l i k _ _ hik hk]
  first | refine callD (product_Covers_ok q (part l i k) _ (hf.1 q hqm) (fun r hr => hl r (part_mem hr)) (by rw [part_len (by omega)]; omega)) ?_ | refine callQD (product_Covers_ok q (part l i k) _ (hf.1 q hqm) (fun r hr => hl r (part_mem hr)) (by rw [part_len (by omega)]; omega)) ?_
  simp -implicitDefEqProofs (disch := omega) only [go_sem, Nat.reduceAdd, Nat.reduceMul, Nat.reduceSub, Nat.reduceBEq, Nat.reduceLeDiff, Nat.reduceLT, fn_fare_divide_1, e52_1, w52_1, e52_3, w52_3, e52_5, w52_5, e52_7, w52_7, e52_9, w52_9, c52_10, c52_11, c52_12]
  refine ifB (fun h1 => ?_) (fun h1 => ?_)
  rotate_left
  · have e : cand f l i k p T = none := by simp only [cand, hq, h1]; rfl
    simp -implicitDefEqProofs (disch := omega) only [go_sem, Nat.reduceAdd, Nat.reduceMul, Nat.reduceSub, Nat.reduceBEq, Nat.reduceLeDiff, Nat.reduceLT, fn_fare_divide_1, e52_1, w52_1, e52_3, w52_3, e52_5, w52_5, e52_7, w52_7, e52_9, w52_9, c52_10, c52_11, c52_12, e, stepP, Fares.row, flat_under, upd_self]
  have e : cand f l i k p T = some (⟨p, i, k, ticket f q l i⟩ :: d) := by simp only [cand, hq, h1, hT, if_true]; rfl
  simp -implicitDefEqProofs (disch := omega) only [go_sem, Nat.reduceAdd, Nat.reduceMul, Nat.reduceSub, Nat.reduceBEq, Nat.reduceLeDiff, Nat.reduceLT, fn_fare_divide_1, e52_1, w52_1, e52_3, w52_3, e52_5, w52_5, e52_7, w52_7, e52_9, w52_9, c52_10, c52_11, c52_12, Fares.row, hq, Product.row]
  first | refine callD (fare_ticketPrice_ok f q l c i hf hok (hok.prods q hqm).1 hl (by omega) (by omega)) ?_ | refine callQD (fare_ticketPrice_ok f q l c i hf hok (hok.prods q hqm).1 hl (by omega) (by omega)) ?_
  have hr := ticket_range (f := f) (l := l) (i := i) (hok.prods q hqm).1 hok.discount.1
  simp -implicitDefEqProofs (disch := omega) only [go_sem, Nat.reduceAdd, Nat.reduceMul, Nat.reduceSub, Nat.reduceBEq, Nat.reduceLeDiff, Nat.reduceLT, fn_fare_divide_1, e52_1, w52_1, e52_3, w52_3, e52_5, w52_5, e52_7, w52_7, e52_9, w52_9, c52_10, c52_11, c52_12, flat_1, flat_2, flat_take, flat_len, hT, rSum, rCnt]
  first | refine callD (fare_rest_better_ok (T i) _ _) ?_ | refine callQD (fare_rest_better_ok (T i) _ _) ?_
  simp -implicitDefEqProofs (disch := omega) only [go_sem, Nat.reduceAdd, Nat.reduceMul, Nat.reduceSub, Nat.reduceBEq, Nat.reduceLeDiff, Nat.reduceLT, fn_fare_divide_1, e52_1, w52_1, e52_3, w52_3, e52_5, w52_5, e52_7, w52_7, e52_9, w52_9, c52_10, c52_11, c52_12]
  refine ifB (fun h2 => ?_) (fun h2 => ?_)
  · have e2 : stepP (T i) (cand f l i k p T) = some (⟨p, i, k, ticket f q l i⟩ :: d) := by
      rw [e]; simp only [stepP, total_cons, List.length_cons, Int.natCast_succ, h2, if_true]
    have hp := flat_put T (some (⟨p, i, k, ticket f q l i⟩ :: d)) (j := i) (by omega)
    simp only [restRow, rOk, rSum, rCnt, rTick, putAt, total_cons, List.length_cons, Option.isSome, Int.natCast_succ] at hp
    simp -implicitDefEqProofs (disch := omega) only [go_sem, Nat.reduceAdd, Nat.reduceMul, Nat.reduceSub, Nat.reduceBEq, Nat.reduceLeDiff, Nat.reduceLT, fn_fare_divide_1, e52_1, w52_1, e52_3, w52_3, e52_5, w52_5, e52_7, w52_7, e52_9, w52_9, c52_10, c52_11, c52_12, hp, flat_len, e2, flat_under, Fares.row]
  · have e2 : stepP (T i) (cand f l i k p T) = T i := by
      rw [e]; simp only [stepP, total_cons, List.length_cons, Int.natCast_succ, h2]; simp
    simp -implicitDefEqProofs (disch := omega) only [go_sem, Nat.reduceAdd, Nat.reduceMul, Nat.reduceSub, Nat.reduceBEq, Nat.reduceLeDiff, Nat.reduceLT, fn_fare_divide_1, e52_1, w52_1, e52_3, w52_3, e52_5, w52_5, e52_7, w52_7, e52_9, w52_9, c52_10, c52_11, c52_12, e2, flat_under, upd_self, Fares.row]

/-! ### The table -/
def accP (f : Fares) (l : List Ride) (i k : Nat) (R : Nat → Option (List Ticket)) (a : Option (List Ticket)) : Nat → Option (List Ticket)
  | 0 => a
  | p + 1 => stepP (accP f l i k R a p) (cand f l i k p R)
def accK (f : Fares) (l : List Ride) (i : Nat) (R : Nat → Option (List Ticket)) : Nat → Option (List Ticket)
  | 0 => none
  | j + 1 => accP f l i (i + j) R (accK f l i R j) f.products.length
def tabs (f : Fares) (l : List Ride) : Nat → Nat → Option (List Ticket)
  | 0 => upd (fun _ => none) l.length (some [])
  | j + 1 => upd (tabs f l j) (l.length - (j + 1)) (accK f l (l.length - (j + 1)) (tabs f l j) (j + 1))
/-- The best divisions from each index on. -/
def best (f : Fares) (l : List Ride) : Nat → Option (List Ticket) := tabs f l l.length

theorem tabs_low (f : Fares) (l : List Ride) : ∀ (j i : Nat), j ≤ l.length → i + j < l.length → tabs f l j i = none
  | 0, i, _, h => by rw [tabs, upd_ne _ _ (by omega)]
  | j + 1, i, hj, h => by rw [tabs, upd_ne _ _ (by omega)]; exact tabs_low f l j i (by omega) (by omega)

theorem cand_congr (f : Fares) (l : List Ride) (i k p : Nat) {R R' : Nat → Option (List Ticket)} (h : R (k + 1) = R' (k + 1)) : cand f l i k p R = cand f l i k p R' := by
  unfold cand; rw [h]

/-- A division of the rides from an index on. -/
def Div (f : Fares) (l : List Ride) : Nat → List Ticket → Prop
  | i, [] => i = l.length
  | i, t :: d => t.first = i ∧ oneErr f l t i = 0 ∧ Div f l (t.last + 1).toNat d

theorem cand_div {f : Fares} {l : List Ride} {i k p : Nat} {R : Nat → Option (List Ticket)} {d : List Ticket} (h : cand f l i k p R = some d) (hik : i ≤ k) (hk : k < l.length)
    (hR : ∀ d, R (k + 1) = some d → Div f l (k + 1) d) : Div f l i d := by
  unfold cand at h
  cases hq : f.products[p]? with
  | none => rw [hq] at h; simp at h
  | some q =>
    rw [hq] at h
    simp only at h
    split at h
    · rename_i hc
      rw [Option.map_eq_some_iff] at h
      obtain ⟨d', h1, rfl⟩ := h
      have hp : p < f.products.length := (List.getElem?_eq_some_iff.1 hq).1
      refine ⟨rfl, ?_, ?_⟩
      · rw [oneErr, if_neg (by simp only; omega), if_neg (by simp only; omega)]
        simp only [Int.toNat_natCast, hq]
        rw [if_neg (by simp [hc]), if_neg (by simp)]
      · have : ((k : Int) + 1).toNat = k + 1 := by omega
        simp only [this]
        exact hR d' h1
    · simp at h

theorem stepP_some {a c : Option (List Ticket)} {d : List Ticket} (h : stepP a c = some d) : a = some d ∨ c = some d := by
  unfold stepP at h
  cases c with
  | none => exact .inl h
  | some e =>
    simp only at h
    split at h
    · exact .inr h
    · exact .inl h

theorem accP_div {f : Fares} {l : List Ride} {i k : Nat} {R : Nat → Option (List Ticket)} {a : Option (List Ticket)} (hik : i ≤ k) (hk : k < l.length)
    (hR : ∀ d, R (k + 1) = some d → Div f l (k + 1) d) (ha : ∀ d, a = some d → Div f l i d) : ∀ (p : Nat) (d : List Ticket), accP f l i k R a p = some d → Div f l i d
  | 0, d, h => ha d h
  | p + 1, d, h => by
    rcases stepP_some h with h1 | h1
    · exact accP_div hik hk hR ha p d h1
    · exact cand_div h1 hik hk hR

theorem accK_div {f : Fares} {l : List Ride} {i : Nat} {R : Nat → Option (List Ticket)} (hR : ∀ k d, i ≤ k → k < l.length → R (k + 1) = some d → Div f l (k + 1) d) :
    ∀ (j : Nat) (d : List Ticket), i + j ≤ l.length → accK f l i R j = some d → Div f l i d
  | 0, d, _, h => by simp [accK] at h
  | j + 1, d, hj, h => accP_div (by omega) (by omega) (fun d hd => hR (i + j) d (by omega) (by omega) hd) (fun d hd => accK_div hR j d (by omega) hd) _ d h

theorem tabs_div (f : Fares) (l : List Ride) : ∀ (j i : Nat) (d : List Ticket), j ≤ l.length → i ≤ l.length → tabs f l j i = some d → Div f l i d
  | 0, i, d, _, hi, h => by
    rw [tabs] at h
    unfold upd at h
    split at h
    · simp only [Option.some.injEq] at h; subst h; assumption
    · simp at h
  | j + 1, i, d, hj, hi, h => by
    rw [tabs] at h
    unfold upd at h
    split at h
    · rename_i e
      subst e
      refine accK_div (fun k d hk hk' hd => ?_) _ d (by omega) h
      exact tabs_div f l j (k + 1) d (by omega) (by omega) hd
    · exact tabs_div f l j i d (by omega) hi h

theorem div_mild {f : Fares} {l : List Ride} (hok : f.Ok) : ∀ (d : List Ticket) (i : Nat), Div f l i d → 0 ≤ total d ∧ total d ≤ 1000000 * d.length ∧ d.length + i ≤ l.length
  | [], i, h => by simp only [Div] at h; subst h; simp [total]
  | t :: d, i, ⟨h1, h2, h3⟩ => by
    obtain ⟨g1, g2, g3, g4, g5⟩ := oneErr_zero hok h2
    have := div_mild hok d _ h3
    rw [total_cons, List.length_cons]
    omega

theorem tabs_mild {f : Fares} {l : List Ride} (hok : f.Ok) (hlen : l.length ≤ 8) {j i : Nat} {d : List Ticket} (hj : j ≤ l.length) (hi : i ≤ l.length) (h : tabs f l j i = some d) : Mild d := by
  have := div_mild hok d i (tabs_div f l j i d hj hi h)
  exact ⟨this.1, this.2.1, by omega⟩

theorem stepP_none (a : Option (List Ticket)) : stepP a none = a := rfl
theorem cand_none {f : Fares} {l : List Ride} {i k p : Nat} {R : Nat → Option (List Ticket)} (h : R (k + 1) = none) : cand f l i k p R = none := by
  unfold cand
  rw [h]
  split
  · rfl
  · split <;> rfl

theorem fare_divide_ok (f : Fares) (l : List Ride) (c : Cap) (hf : f.wf) (hok : f.Ok) (hl : ∀ r ∈ l, r.wf) (hlen : l.length ≤ 8) :
    PCalls PR i_fare_divide [.agg f.row, .slice (l.map Ride.row) c] (fun v => v = .agg (flatT (best f l))) := by
  have hm : maxLen = 9223372036854775807 := by rfl
  have hpl := hok.len
  have hp1 := flat_put1 (j := l.length) (by omega)
  simp only [putAt] at hp1
  refine acalls_pop fn_fare_divide_ok (by simp [fn_fare_divide]) ?_
  simp -implicitDefEqProofs (disch := omega) only [go_sem, Nat.reduceAdd, Nat.reduceMul, Nat.reduceSub, Nat.reduceBEq, Nat.reduceLeDiff, Nat.reduceLT, fn_fare_divide, e39_1, w39_1, e39_3, w39_3, e39_5, w39_5, e39_7, w39_7, e39_9, w39_9, e39_11, w39_11, e39_13, w39_13, e39_15, w39_15, e39_17, w39_17, e39_19, w39_19, e39_21, w39_21, c39_22, e39_24, w39_24, e39_26, w39_26, e39_28, w39_28, c39_29, c39_30, e39_32, w39_32, c39_33, c39_34, c39_35, c39_36, c39_37, c39_38, c39_39, e39_41, w39_41, c39_42, c39_43, c39_44, c39_45, c39_46, c39_47, e39_49, w39_49, c39_50, c39_51, c39_52, c39_53, c39_54, e39_56, w39_56, c39_57, c39_58, c39_59, c39_60, c39_61, c39_62, c39_63, Fares.row, flat_zero, flat_len, hp1]
  refine wpC_for l.length (fun j vs M => vs = [.ptr 0 0, .ptr 2 0, .ptr 3 0, .int .i64 l.length, .fn i_fare_divide_1 [.ptr 0 0, .ptr 1 0, .ptr 3 0], .int .i64 ((l.length : Int) - 1 - j)] ∧
      M = [.box f.row, .box [.slice (l.map Ride.row) c], .box (flatT fun _ => none), .box (flatT (tabs f l j))]) ⟨by simp [vals, sget], by simp [Fares.row, tabs]⟩ ?_ ?_
  rotate_left
  · rintro vs M ⟨rfl, rfl⟩
    have h1 : ((l.length : Int) - 1 - l.length) = -1 := by omega
    simp -implicitDefEqProofs (disch := omega) only [go_sem, Nat.reduceAdd, Nat.reduceMul, Nat.reduceSub, Nat.reduceBEq, Nat.reduceLeDiff, Nat.reduceLT, fn_fare_divide, e39_1, w39_1, e39_3, w39_3, e39_5, w39_5, e39_7, w39_7, e39_9, w39_9, e39_11, w39_11, e39_13, w39_13, e39_15, w39_15, e39_17, w39_17, e39_19, w39_19, e39_21, w39_21, c39_22, e39_24, w39_24, e39_26, w39_26, e39_28, w39_28, c39_29, c39_30, e39_32, w39_32, c39_33, c39_34, c39_35, c39_36, c39_37, c39_38, c39_39, e39_41, w39_41, c39_42, c39_43, c39_44, c39_45, c39_46, c39_47, e39_49, w39_49, c39_50, c39_51, c39_52, c39_53, c39_54, e39_56, w39_56, c39_57, c39_58, c39_59, c39_60, c39_61, c39_62, c39_63, h1, flat_len, flat_all, flat_cell, Fares.row]
    refine ifD (fun h2 => ?_) (fun h2 => ?_)
    · omega
    simp -implicitDefEqProofs (disch := omega) only [go_sem, Nat.reduceAdd, Nat.reduceMul, Nat.reduceSub, Nat.reduceBEq, Nat.reduceLeDiff, Nat.reduceLT, fn_fare_divide, e39_1, w39_1, e39_3, w39_3, e39_5, w39_5, e39_7, w39_7, e39_9, w39_9, e39_11, w39_11, e39_13, w39_13, e39_15, w39_15, e39_17, w39_17, e39_19, w39_19, e39_21, w39_21, c39_22, e39_24, w39_24, e39_26, w39_26, e39_28, w39_28, c39_29, c39_30, e39_32, w39_32, c39_33, c39_34, c39_35, c39_36, c39_37, c39_38, c39_39, e39_41, w39_41, c39_42, c39_43, c39_44, c39_45, c39_46, c39_47, e39_49, w39_49, c39_50, c39_51, c39_52, c39_53, c39_54, e39_56, w39_56, c39_57, c39_58, c39_59, c39_60, c39_61, c39_62, c39_63, flat_len]
    rw [flat_all, flat_set, flat_len, flat_cell]
    simp only [go_sem, cond_true, Nat.reduceBEq]
    rw [flat_len, flat_all]
    simp only [cond_true, Nat.reduceLeDiff, decide_true]
    rw [popPost_some, flat_freeze]
    simp only [go_sem, best, flat_under]
    rfl
  rintro j vs M hj hjd ⟨rfl, rfl⟩
  obtain ⟨i, hi⟩ : ∃ i : Nat, (l.length : Int) - 1 - j = i := ⟨l.length - 1 - j, by omega⟩
  simp -implicitDefEqProofs (disch := omega) only [go_sem, Nat.reduceAdd, Nat.reduceMul, Nat.reduceSub, Nat.reduceBEq, Nat.reduceLeDiff, Nat.reduceLT, fn_fare_divide, e39_1, w39_1, e39_3, w39_3, e39_5, w39_5, e39_7, w39_7, e39_9, w39_9, e39_11, w39_11, e39_13, w39_13, e39_15, w39_15, e39_17, w39_17, e39_19, w39_19, e39_21, w39_21, c39_22, e39_24, w39_24, e39_26, w39_26, e39_28, w39_28, c39_29, c39_30, e39_32, w39_32, c39_33, c39_34, c39_35, c39_36, c39_37, c39_38, c39_39, e39_41, w39_41, c39_42, c39_43, c39_44, c39_45, c39_46, c39_47, e39_49, w39_49, c39_50, c39_51, c39_52, c39_53, c39_54, e39_56, w39_56, c39_57, c39_58, c39_59, c39_60, c39_61, c39_62, c39_63, hi, Fares.row]
  refine ifD (fun h1 => ?_) (fun h1 => ?_)
  rotate_left
  · omega
  simp -implicitDefEqProofs (disch := omega) only [go_sem, Nat.reduceAdd, Nat.reduceMul, Nat.reduceSub, Nat.reduceBEq, Nat.reduceLeDiff, Nat.reduceLT, fn_fare_divide, e39_1, w39_1, e39_3, w39_3, e39_5, w39_5, e39_7, w39_7, e39_9, w39_9, e39_11, w39_11, e39_13, w39_13, e39_15, w39_15, e39_17, w39_17, e39_19, w39_19, e39_21, w39_21, c39_22, e39_24, w39_24, e39_26, w39_26, e39_28, w39_28, c39_29, c39_30, e39_32, w39_32, c39_33, c39_34, c39_35, c39_36, c39_37, c39_38, c39_39, e39_41, w39_41, c39_42, c39_43, c39_44, c39_45, c39_46, c39_47, e39_49, w39_49, c39_50, c39_51, c39_52, c39_53, c39_54, e39_56, w39_56, c39_57, c39_58, c39_59, c39_60, c39_61, c39_62, c39_63, Fares.row]
  refine wpC_for (j + 1) (fun m vs M => vs = [.ptr 0 0, .ptr 2 0, .ptr 3 0, .int .i64 l.length, .fn i_fare_divide_1 [.ptr 0 0, .ptr 1 0, .ptr 3 0], .int .i64 i, .int .i64 ((i + m : Nat) : Int)] ∧
      M = [.box f.row, .box [.slice (l.map Ride.row) c], .box (flatT fun _ => none), .box (flatT (upd (tabs f l j) i (accK f l i (tabs f l j) m)))]) ⟨by simp [vals, sget], ?_⟩ ?_ ?_
  · have e : tabs f l j i = none := tabs_low f l j i (by omega) (by omega)
    have e2 : upd (tabs f l j) i none = tabs f l j := by rw [← e, upd_self]
    simp [Fares.row, accK, e2]
  rotate_left
  · rintro vs M ⟨rfl, rfl⟩
    simp -implicitDefEqProofs (disch := omega) only [go_sem, Nat.reduceAdd, Nat.reduceMul, Nat.reduceSub, Nat.reduceBEq, Nat.reduceLeDiff, Nat.reduceLT, fn_fare_divide, e39_1, w39_1, e39_3, w39_3, e39_5, w39_5, e39_7, w39_7, e39_9, w39_9, e39_11, w39_11, e39_13, w39_13, e39_15, w39_15, e39_17, w39_17, e39_19, w39_19, e39_21, w39_21, c39_22, e39_24, w39_24, e39_26, w39_26, e39_28, w39_28, c39_29, c39_30, e39_32, w39_32, c39_33, c39_34, c39_35, c39_36, c39_37, c39_38, c39_39, e39_41, w39_41, c39_42, c39_43, c39_44, c39_45, c39_46, c39_47, e39_49, w39_49, c39_50, c39_51, c39_52, c39_53, c39_54, e39_56, w39_56, c39_57, c39_58, c39_59, c39_60, c39_61, c39_62, c39_63, flat_len, Fares.row]
    refine ifD (fun h2 => ?_) (fun h2 => ?_)
    · omega
    simp -implicitDefEqProofs (disch := omega) only [go_sem, Nat.reduceAdd, Nat.reduceMul, Nat.reduceSub, Nat.reduceBEq, Nat.reduceLeDiff, Nat.reduceLT, fn_fare_divide, e39_1, w39_1, e39_3, w39_3, e39_5, w39_5, e39_7, w39_7, e39_9, w39_9, e39_11, w39_11, e39_13, w39_13, e39_15, w39_15, e39_17, w39_17, e39_19, w39_19, e39_21, w39_21, c39_22, e39_24, w39_24, e39_26, w39_26, e39_28, w39_28, c39_29, c39_30, e39_32, w39_32, c39_33, c39_34, c39_35, c39_36, c39_37, c39_38, c39_39, e39_41, w39_41, c39_42, c39_43, c39_44, c39_45, c39_46, c39_47, e39_49, w39_49, c39_50, c39_51, c39_52, c39_53, c39_54, e39_56, w39_56, c39_57, c39_58, c39_59, c39_60, c39_61, c39_62, c39_63, Fares.row]
    have e : l.length - (j + 1) = i := by omega
    refine next_stay hj ⟨?_, ?_⟩
    · have : (i : Int) - 1 = (l.length : Int) - 1 - ((j + 1 : Nat) : Int) := by omega
      simp [vals, sget, this]
    · simp [Fares.row, tabs, e]
  rintro m vs M hm1 hmd ⟨rfl, rfl⟩
  simp -implicitDefEqProofs (disch := omega) only [go_sem, Nat.reduceAdd, Nat.reduceMul, Nat.reduceSub, Nat.reduceBEq, Nat.reduceLeDiff, Nat.reduceLT, fn_fare_divide, e39_1, w39_1, e39_3, w39_3, e39_5, w39_5, e39_7, w39_7, e39_9, w39_9, e39_11, w39_11, e39_13, w39_13, e39_15, w39_15, e39_17, w39_17, e39_19, w39_19, e39_21, w39_21, c39_22, e39_24, w39_24, e39_26, w39_26, e39_28, w39_28, c39_29, c39_30, e39_32, w39_32, c39_33, c39_34, c39_35, c39_36, c39_37, c39_38, c39_39, e39_41, w39_41, c39_42, c39_43, c39_44, c39_45, c39_46, c39_47, e39_49, w39_49, c39_50, c39_51, c39_52, c39_53, c39_54, e39_56, w39_56, c39_57, c39_58, c39_59, c39_60, c39_61, c39_62, c39_63, Fares.row]
  refine ifD (fun h2 => ?_) (fun h2 => ?_)
  rotate_left
  · omega
  simp -implicitDefEqProofs (disch := omega) only [go_sem, Nat.reduceAdd, Nat.reduceMul, Nat.reduceSub, Nat.reduceBEq, Nat.reduceLeDiff, Nat.reduceLT, fn_fare_divide, e39_1, w39_1, e39_3, w39_3, e39_5, w39_5, e39_7, w39_7, e39_9, w39_9, e39_11, w39_11, e39_13, w39_13, e39_15, w39_15, e39_17, w39_17, e39_19, w39_19, e39_21, w39_21, c39_22, e39_24, w39_24, e39_26, w39_26, e39_28, w39_28, c39_29, c39_30, e39_32, w39_32, c39_33, c39_34, c39_35, c39_36, c39_37, c39_38, c39_39, e39_41, w39_41, c39_42, c39_43, c39_44, c39_45, c39_46, c39_47, e39_49, w39_49, c39_50, c39_51, c39_52, c39_53, c39_54, e39_56, w39_56, c39_57, c39_58, c39_59, c39_60, c39_61, c39_62, c39_63, Fares.row]
  refine wpC_for f.products.length (fun p vs M => vs = [.ptr 0 0, .ptr 2 0, .ptr 3 0, .int .i64 l.length, .fn i_fare_divide_1 [.ptr 0 0, .ptr 1 0, .ptr 3 0], .int .i64 i, .int .i64 ((i + m : Nat) : Int), .int .i64 f.products.length, .int .i64 p] ∧
      M = [.box f.row, .box [.slice (l.map Ride.row) c], .box (flatT fun _ => none), .box (flatT (upd (tabs f l j) i (accP f l i (i + m) (tabs f l j) (accK f l i (tabs f l j) m) p)))]) ⟨by simp [vals, sget], by simp [Fares.row, accP]⟩ ?_ ?_
  rotate_left
  · rintro vs M ⟨rfl, rfl⟩
    simp -implicitDefEqProofs (disch := omega) only [go_sem, Nat.reduceAdd, Nat.reduceMul, Nat.reduceSub, Nat.reduceBEq, Nat.reduceLeDiff, Nat.reduceLT, fn_fare_divide, e39_1, w39_1, e39_3, w39_3, e39_5, w39_5, e39_7, w39_7, e39_9, w39_9, e39_11, w39_11, e39_13, w39_13, e39_15, w39_15, e39_17, w39_17, e39_19, w39_19, e39_21, w39_21, c39_22, e39_24, w39_24, e39_26, w39_26, e39_28, w39_28, c39_29, c39_30, e39_32, w39_32, c39_33, c39_34, c39_35, c39_36, c39_37, c39_38, c39_39, e39_41, w39_41, c39_42, c39_43, c39_44, c39_45, c39_46, c39_47, e39_49, w39_49, c39_50, c39_51, c39_52, c39_53, c39_54, e39_56, w39_56, c39_57, c39_58, c39_59, c39_60, c39_61, c39_62, c39_63, dec_irrefl, flat_len, Fares.row]
    refine next_stay hm1 ⟨?_, ?_⟩
    · have : ((i + m : Nat) : Int) + 1 = ((i + (m + 1) : Nat) : Int) := by omega
      simp only [vals, sget, this]; rfl
    · simp only [Fares.row, accK]
  rintro p vs M hp hpd ⟨rfl, rfl⟩
  obtain ⟨q, hq⟩ : ∃ q, f.products[p]? = some q := ⟨f.products[p], by simp⟩
  have hne : i + m + 1 ≠ i := by omega
  simp -implicitDefEqProofs (disch := omega) only [go_sem, Nat.reduceAdd, Nat.reduceMul, Nat.reduceSub, Nat.reduceBEq, Nat.reduceLeDiff, Nat.reduceLT, fn_fare_divide, e39_1, w39_1, e39_3, w39_3, e39_5, w39_5, e39_7, w39_7, e39_9, w39_9, e39_11, w39_11, e39_13, w39_13, e39_15, w39_15, e39_17, w39_17, e39_19, w39_19, e39_21, w39_21, c39_22, e39_24, w39_24, e39_26, w39_26, e39_28, w39_28, c39_29, c39_30, e39_32, w39_32, c39_33, c39_34, c39_35, c39_36, c39_37, c39_38, c39_39, e39_41, w39_41, c39_42, c39_43, c39_44, c39_45, c39_46, c39_47, e39_49, w39_49, c39_50, c39_51, c39_52, c39_53, c39_54, e39_56, w39_56, c39_57, c39_58, c39_59, c39_60, c39_61, c39_62, c39_63, hpd, flat_0, flat_len, upd_ne _ _ hne, Fares.row]
  refine ifB (fun h3 => ?_) (fun h3 => ?_)
  rotate_left
  · have e : tabs f l j (i + m + 1) = none := by simpa [rOk] using h3
    simp -implicitDefEqProofs (disch := omega) only [go_sem, Nat.reduceAdd, Nat.reduceMul, Nat.reduceSub, Nat.reduceBEq, Nat.reduceLeDiff, Nat.reduceLT, fn_fare_divide, e39_1, w39_1, e39_3, w39_3, e39_5, w39_5, e39_7, w39_7, e39_9, w39_9, e39_11, w39_11, e39_13, w39_13, e39_15, w39_15, e39_17, w39_17, e39_19, w39_19, e39_21, w39_21, c39_22, e39_24, w39_24, e39_26, w39_26, e39_28, w39_28, c39_29, c39_30, e39_32, w39_32, c39_33, c39_34, c39_35, c39_36, c39_37, c39_38, c39_39, e39_41, w39_41, c39_42, c39_43, c39_44, c39_45, c39_46, c39_47, e39_49, w39_49, c39_50, c39_51, c39_52, c39_53, c39_54, e39_56, w39_56, c39_57, c39_58, c39_59, c39_60, c39_61, c39_62, c39_63, Fares.row]
    refine next_stay hp ⟨?_, ?_⟩
    · simp only [vals, sget]; rfl
    · simp only [Fares.row, accP, cand_none e, stepP_none]
  obtain ⟨d, hd⟩ : ∃ d, tabs f l j (i + m + 1) = some d := Option.isSome_iff_exists.1 h3
  simp -implicitDefEqProofs (disch := omega) only [go_sem, Nat.reduceAdd, Nat.reduceMul, Nat.reduceSub, Nat.reduceBEq, Nat.reduceLeDiff, Nat.reduceLT, fn_fare_divide, e39_1, w39_1, e39_3, w39_3, e39_5, w39_5, e39_7, w39_7, e39_9, w39_9, e39_11, w39_11, e39_13, w39_13, e39_15, w39_15, e39_17, w39_17, e39_19, w39_19, e39_21, w39_21, c39_22, e39_24, w39_24, e39_26, w39_26, e39_28, w39_28, c39_29, c39_30, e39_32, w39_32, c39_33, c39_34, c39_35, c39_36, c39_37, c39_38, c39_39, e39_41, w39_41, c39_42, c39_43, c39_44, c39_45, c39_46, c39_47, e39_49, w39_49, c39_50, c39_51, c39_52, c39_53, c39_54, e39_56, w39_56, c39_57, c39_58, c39_59, c39_60, c39_61, c39_62, c39_63, Fares.row]
  have hT : upd (tabs f l j) i (accP f l i (i + m) (tabs f l j) (accK f l i (tabs f l j) m) p) (i + m + 1) = some d := by rw [upd_ne _ _ hne, hd]
  refine callA (fare_divide_1_ok f l c _ i (i + m) p q d hf hok hl hlen (by omega) (by omega) hq hT (tabs_mild hok hlen (by omega) (by omega) hd)) ?_
  rintro v M ⟨rfl, rfl⟩
  simp -implicitDefEqProofs (disch := omega) only [go_sem, Nat.reduceAdd, Nat.reduceMul, Nat.reduceSub, Nat.reduceBEq, Nat.reduceLeDiff, Nat.reduceLT, fn_fare_divide, e39_1, w39_1, e39_3, w39_3, e39_5, w39_5, e39_7, w39_7, e39_9, w39_9, e39_11, w39_11, e39_13, w39_13, e39_15, w39_15, e39_17, w39_17, e39_19, w39_19, e39_21, w39_21, c39_22, e39_24, w39_24, e39_26, w39_26, e39_28, w39_28, c39_29, c39_30, e39_32, w39_32, c39_33, c39_34, c39_35, c39_36, c39_37, c39_38, c39_39, e39_41, w39_41, c39_42, c39_43, c39_44, c39_45, c39_46, c39_47, e39_49, w39_49, c39_50, c39_51, c39_52, c39_53, c39_54, e39_56, w39_56, c39_57, c39_58, c39_59, c39_60, c39_61, c39_62, c39_63, Fares.row]
  refine next_stay hp ⟨?_, ?_⟩
  · simp only [vals, sget]; rfl
  · have e : cand f l i (i + m) p (upd (tabs f l j) i (accP f l i (i + m) (tabs f l j) (accK f l i (tabs f l j) m) p)) = cand f l i (i + m) p (tabs f l j) := cand_congr f l i (i + m) p (upd_ne _ _ hne)
    simp only [Fares.row, accP, upd_upd, upd_same, e]

/-! ### What the table says -/
theorem tabs_stable (f : Fares) (l : List Ride) : ∀ (m j i : Nat), l.length ≤ i + j → j + m ≤ l.length → tabs f l (j + m) i = tabs f l j i
  | 0, _, _, _, _ => rfl
  | m + 1, j, i, h1, h2 => by
    rw [show j + (m + 1) = (j + m) + 1 from rfl, tabs, upd_ne _ _ (by omega)]
    exact tabs_stable f l m j i h1 (by omega)
theorem best_eq {f : Fares} {l : List Ride} {i j : Nat} (h : l.length ≤ i + j) (hj : j ≤ l.length) : best f l i = tabs f l j i := by
  have := tabs_stable f l (l.length - j) j i h (by omega)
  rwa [Nat.add_sub_cancel' hj] at this
theorem best_end (f : Fares) (l : List Ride) : best f l l.length = some [] := by
  rw [best_eq (j := 0) (by omega) (by omega), tabs, upd_same]

theorem accP_congr {f : Fares} {l : List Ride} {i k : Nat} {R R' : Nat → Option (List Ticket)} (a : Option (List Ticket)) (h : R (k + 1) = R' (k + 1)) : ∀ p, accP f l i k R a p = accP f l i k R' a p
  | 0 => rfl
  | p + 1 => by rw [accP, accP, accP_congr a h p, cand_congr f l i k p h]
theorem accK_congr {f : Fares} {l : List Ride} {i : Nat} {R R' : Nat → Option (List Ticket)} : ∀ j, (∀ k, i ≤ k → k < i + j → R (k + 1) = R' (k + 1)) → accK f l i R j = accK f l i R' j
  | 0, _ => rfl
  | j + 1, h => by rw [accK, accK, accK_congr j (fun k h1 h2 => h k h1 (by omega)), accP_congr _ (h (i + j) (by omega) (by omega))]

theorem best_step {f : Fares} {l : List Ride} {i : Nat} (hi : i < l.length) : best f l i = accK f l i (best f l) (l.length - i) := by
  obtain ⟨j, hj⟩ : ∃ j, l.length = i + (j + 1) := ⟨l.length - i - 1, by omega⟩
  have e1 : l.length - (j + 1) = i := by omega
  have e2 : l.length - i = j + 1 := by omega
  rw [best_eq (j := j + 1) (by omega) (by omega), tabs, e1, upd_same, e2]
  exact accK_congr _ fun k h1 h2 => (best_eq (by omega) (by omega)).symm

theorem accP_from {f : Fares} {l : List Ride} {i k : Nat} {R : Nat → Option (List Ticket)} {a : Option (List Ticket)} {d : List Ticket} : ∀ p, accP f l i k R a p = some d → a = some d ∨ ∃ q, cand f l i k q R = some d
  | 0, h => .inl h
  | p + 1, h => by
    rcases stepP_some h with h1 | h1
    · exact accP_from p h1
    · exact .inr ⟨p, h1⟩
theorem accK_from {f : Fares} {l : List Ride} {i : Nat} {R : Nat → Option (List Ticket)} {d : List Ticket} : ∀ j, accK f l i R j = some d → ∃ k p, i ≤ k ∧ k < i + j ∧ cand f l i k p R = some d
  | 0, h => by simp [accK] at h
  | j + 1, h => by
    rcases accP_from _ h with h1 | ⟨q, h1⟩
    · obtain ⟨k, p, a, b, c⟩ := accK_from j h1
      exact ⟨k, p, a, by omega, c⟩
    · exact ⟨i + j, q, by omega, by omega, h1⟩

/-- The best division begins with a ticket, and the best division of the rest follows. -/
theorem best_chain {f : Fares} {l : List Ride} {i : Nat} {d' : List Ticket} (hi : i < l.length) (h : best f l i = some d') :
    ∃ (t : Ticket) (d : List Ticket) (k : Nat), d' = t :: d ∧ t.first = i ∧ t.last = k ∧ i ≤ k ∧ k < l.length ∧ best f l (k + 1) = some d := by
  rw [best_step hi] at h
  obtain ⟨k, p, h1, h2, h3⟩ := accK_from _ h
  unfold cand at h3
  cases hq : f.products[p]? with
  | none => rw [hq] at h3; simp at h3
  | some q =>
    rw [hq] at h3
    simp only at h3
    split at h3
    · rw [Option.map_eq_some_iff] at h3
      obtain ⟨d, h4, rfl⟩ := h3
      exact ⟨_, d, k, rfl, rfl, rfl, h1, by omega, h4⟩
    · simp at h3

theorem best_div {f : Fares} {l : List Ride} {i : Nat} {d : List Ticket} (hi : i ≤ l.length) (h : best f l i = some d) : Div f l i d := tabs_div f l l.length i d (Nat.le_refl _) hi h

/-- a is there and not dearer, where c is there. -/
def Le (a c : Option (List Ticket)) : Prop := ∀ e, c = some e → ∃ a', a = some a' ∧ total a' ≤ total e
theorem Le.trans {a b c : Option (List Ticket)} (h1 : Le a b) (h2 : Le b c) : Le a c := fun e he => by
  obtain ⟨x, hx, h3⟩ := h2 e he
  obtain ⟨y, hy, h4⟩ := h1 x hx
  exact ⟨y, hy, by omega⟩
theorem betterB_some (e : List Ticket) (s n : Int) : betterB (some e) s n = (decide (s < total e) || (decide (s = total e) && decide (n < (e.length : Int)))) := rfl
theorem oneErr_full {f : Fares} {l : List Ride} {t : Ticket} {i : Nat} (h : oneErr f l t i = 0) :
    ∃ (p k : Nat) (q : Product), t = ⟨p, i, k, ticket f q l i⟩ ∧ f.products[p]? = some q ∧ i ≤ k ∧ k < l.length ∧ covers q (part l i k) = true := by
  unfold oneErr at h
  split at h
  · simp at h
  rename_i h1
  split at h
  · simp at h
  rename_i h2
  obtain ⟨p, hp⟩ : ∃ p : Nat, t.product = p := ⟨t.product.toNat, by omega⟩
  obtain ⟨k, hk⟩ : ∃ k : Nat, t.last = k := ⟨t.last.toNat, by omega⟩
  have hi : t.first = i := by omega
  simp only [hp, hk, hi, Int.toNat_natCast] at h
  split at h
  · simp at h
  rename_i q hq
  split at h
  · simp at h
  rename_i h3
  split at h
  · simp at h
  rename_i h4
  refine ⟨p, k, q, ?_, hq, by omega, by omega, by simpa using h3⟩
  cases t
  simp_all
theorem div_cons {f : Fares} {l : List Ride} {i : Nat} {t : Ticket} {d : List Ticket} (h : Div f l i (t :: d)) :
    ∃ (p k : Nat) (q : Product), t = ⟨p, i, k, ticket f q l i⟩ ∧ f.products[p]? = some q ∧ i ≤ k ∧ k < l.length ∧ covers q (part l i k) = true ∧ Div f l (k + 1) d := by
  obtain ⟨_, h2, h3⟩ := h
  obtain ⟨p, k, q, rfl, a, b, c, e⟩ := oneErr_full h2
  have : ((k : Int) + 1).toNat = k + 1 := by omega
  simp only [this] at h3
  exact ⟨p, k, q, rfl, a, b, c, e, h3⟩
/-- The fare, the tickets and the error. -/
def fareRes (f : Fares) (l : List Ride) : Int × List Ticket × Int :=
  if validRes f l.length ≠ 0 then (0, [], validRes f l.length) else match best f l 0 with
  | none => (0, [], 34)
  | some d => (capped f (total d), d, 0)

theorem fareRes_ok {f : Fares} {l : List Ride} (h : (fareRes f l).2.2 = 0) : validRes f l.length = 0 ∧ ∃ d, best f l 0 = some d ∧ fareRes f l = (capped f (total d), d, 0) := by
  unfold fareRes at h ⊢
  split at h
  · rename_i h1; exact absurd h h1
  · rename_i h1
    simp only [ne_eq, Decidable.not_not] at h1
    rw [if_neg (by simp [h1])]
    refine ⟨h1, ?_⟩
    split at h
    · simp at h
    · rename_i d hd
      exact ⟨d, hd, by simp only [hd]⟩
theorem fareRes_valid {f : Fares} {l : List Ride} (h : validRes f l.length = 0) : fareRes f l = match best f l 0 with | none => (0, [], 34) | some d => (capped f (total d), d, 0) := by
  rw [fareRes, if_neg (by simp [h])]

end Go.Vm.C

