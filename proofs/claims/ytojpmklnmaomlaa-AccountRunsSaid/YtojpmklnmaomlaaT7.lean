/- The reference's price. -/
import Derived.Test.YtojpmklnmaomlaaT6

namespace Go.Vm.C
open Go.Vm
set_option maxHeartbeats 1000000
set_option maxRecDepth 10000
set_option linter.unusedSimpArgs false
set_option linter.unusedVariables false

/-! ### The reference's best division -/
def restCell (o : Option (List Ticket)) : V := match o with | some (t :: d) => .slice ((t :: d).map Ticket.row) .unk | _ => .slice [] .nil
def restRows (n : Nat) (T : Nat → Option (List Ticket)) : List (List V) := (List.range (n + 1)).map fun i => [restCell (T i)]
def paidRows (n : Nat) (T : Nat → Option (List Ticket)) : List (List V) := (List.range (n + 1)).map fun i => [V.bool (rOk (T i))]
theorem rr_len (n : Nat) (T : Nat → Option (List Ticket)) : (restRows n T).length = n + 1 := by simp [restRows]
theorem pp_len (n : Nat) (T : Nat → Option (List Ticket)) : (paidRows n T).length = n + 1 := by simp [paidRows]
theorem rr_get {n i : Nat} (T : Nat → Option (List Ticket)) (h : i ≤ n) : (restRows n T)[i]? = some [restCell (T i)] := by
  rw [restRows, List.getElem?_map, List.getElem?_range (by omega)]; rfl
theorem pp_get {n i : Nat} (T : Nat → Option (List Ticket)) (h : i ≤ n) : (paidRows n T)[i]? = some [V.bool (rOk (T i))] := by
  rw [paidRows, List.getElem?_map, List.getElem?_range (by omega)]; rfl
theorem set_range {α : Type} (g g' : Nat → α) (m i : Nat) (h : ∀ j, j ≠ i → g j = g' j) : ((List.range m).map g).set i (g' i) = (List.range m).map g' := by
  apply List.ext_getElem?
  intro j
  rw [List.getElem?_set]
  simp only [List.length_map, List.length_range, List.getElem?_map]
  by_cases e : i = j
  · subst e
    by_cases hj : i < m
    · simp [hj]
    · simp [hj, List.getElem?_eq_none]
  · rw [if_neg e]
    by_cases hj : j < m
    · simp [hj, h j (fun x => e x.symm)]
    · simp [hj, List.getElem?_eq_none]
theorem rr_set (n i : Nat) (T : Nat → Option (List Ticket)) (o : Option (List Ticket)) : (restRows n T).set i [restCell o] = restRows n (upd T i o) := by
  have := set_range (fun i => [restCell (T i)]) (fun j => [restCell (upd T i o j)]) (n + 1) i (fun j hj => by simp only [upd_ne _ _ hj])
  simp only [upd_same] at this
  exact this
theorem pp_set (n i : Nat) (T : Nat → Option (List Ticket)) (o : Option (List Ticket)) : (paidRows n T).set i [V.bool (rOk o)] = paidRows n (upd T i o) := by
  have := set_range (fun i => [V.bool (rOk (T i))]) (fun j => [V.bool (rOk (upd T i o j))]) (n + 1) i (fun j hj => by simp only [upd_ne _ _ hj])
  simp only [upd_same] at this
  exact this
theorem rr_zero (n : Nat) : List.replicate (n + 1) [V.slice [] .nil] = restRows n (upd (fun _ => none) n (some [])) := by
  have : ∀ i, restCell (upd (fun _ => none) n (some []) i) = .slice [] .nil := by intro i; unfold upd; split <;> rfl
  simp only [restRows, this]
  rw [List.map_const', List.length_range]
theorem pp_zero (n : Nat) : List.replicate (n + 1) [V.bool false] = paidRows n (fun _ => none) := by
  simp only [paidRows, rOk]
  rw [List.map_const', List.length_range]
  rfl

theorem accP_from' {f : Fares} {l : List Ride} {i k : Nat} {R : Nat → Option (List Ticket)} {a : Option (List Ticket)} {d : List Ticket} : ∀ p, accP f l i k R a p = some d → a = some d ∨ ∃ q, q < p ∧ cand f l i k q R = some d
  | 0, h => .inl h
  | p + 1, h => by
    rcases stepP_some h with h1 | h1
    · rcases accP_from' p h1 with h2 | ⟨q, h2, h3⟩
      · exact .inl h2
      · exact .inr ⟨q, by omega, h3⟩
    · exact .inr ⟨p, by omega, h1⟩
theorem cand_head {f : Fares} {l : List Ride} {i k p : Nat} {R : Nat → Option (List Ticket)} {d : List Ticket} (h : cand f l i k p R = some d) : ∃ (t : Ticket) (d' : List Ticket), d = t :: d' ∧ t.last = k ∧ t.product = p := by
  unfold cand at h
  split at h
  · simp at h
  · split at h
    · rw [Option.map_eq_some_iff] at h
      obtain ⟨d', _, rfl⟩ := h
      exact ⟨_, d', rfl, rfl, rfl⟩
    · simp at h
/-- The best so far begins with an earlier last ride, or with the same and an earlier product. -/
theorem acc_head {f : Fares} {l : List Ride} {i m p : Nat} {R : Nat → Option (List Ticket)} {d : List Ticket} (h : accP f l i (i + m) R (accK f l i R m) p = some d) :
    ∃ (t : Ticket) (d' : List Ticket), d = t :: d' ∧ t.last ≤ ((i + m : Nat) : Int) ∧ (t.last = ((i + m : Nat) : Int) → t.product < p) := by
  rcases accP_from' p h with h1 | ⟨q, h1, h2⟩
  · obtain ⟨k, q, h3, h4, h5⟩ := accK_from m h1
    obtain ⟨t, d', rfl, e1, e2⟩ := cand_head h5
    exact ⟨t, d', rfl, by omega, fun e => by omega⟩
  · obtain ⟨t, d', rfl, e1, e2⟩ := cand_head h2
    exact ⟨t, d', rfl, by omega, fun _ => by omega⟩
theorem accP_none {f : Fares} {l : List Ride} {i k : Nat} {R : Nat → Option (List Ticket)} {a : Option (List Ticket)} (h : R (k + 1) = none) : ∀ p, accP f l i k R a p = a
  | 0 => rfl
  | p + 1 => by rw [accP, cand_none h, stepP_none, accP_none h p]

theorem transitref35_better_ok (t s : Ticket) (a b : List Ticket) (c d : Cap) (ha : Small (t :: a)) (hb : Small (s :: b)) (la : (t :: a).length ≤ 1000) (lb : (s :: b).length ≤ 1000) (h1 : s.last ≤ t.last) (h2 : s.last = t.last → s.product < t.product) :
    PCalls PR i_transitref35_better [.slice ((t :: a).map Ticket.row) c, .slice ((s :: b).map Ticket.row) d] (fun v => v = .bool (betterB (some (s :: b)) (total (t :: a)) ((t :: a).length : Nat))) := by
  refine acalls_pop fn_transitref35_better_ok (by simp [fn_transitref35_better]) ?_
  generalize ea : t :: a = A at *
  generalize eb : s :: b = B at *
  have hA : A[0]? = some t := by rw [← ea]; rfl
  have hB : B[0]? = some s := by rw [← eb]; rfl
  simp -implicitDefEqProofs (disch := omega) only [go_sem, Nat.reduceAdd, Nat.reduceMul, Nat.reduceSub, Nat.reduceBEq, Nat.reduceLeDiff, Nat.reduceLT, fn_transitref35_better, e45_1, w45_1, e45_3, w45_3, c45_4, e45_6, w45_6, e45_8, w45_8, c45_9, e45_11, w45_11, e45_13, w45_13, e45_15, w45_15, e45_17, w45_17, c45_18, e45_20, w45_20, e45_22, w45_22, c45_23, e45_25, w45_25, c45_26, c45_27, e45_29, w45_29, c45_30, c45_31, c45_32, c45_33, c45_34, e45_36, w45_36, c45_37, c45_38, c45_39, c45_40, c45_41]
  first | refine callD (transitref35_Sum_ok A c ha la) ?_ | refine callQD (transitref35_Sum_ok A c ha la) ?_
  simp -implicitDefEqProofs (disch := omega) only [go_sem, Nat.reduceAdd, Nat.reduceMul, Nat.reduceSub, Nat.reduceBEq, Nat.reduceLeDiff, Nat.reduceLT, fn_transitref35_better, e45_1, w45_1, e45_3, w45_3, c45_4, e45_6, w45_6, e45_8, w45_8, c45_9, e45_11, w45_11, e45_13, w45_13, e45_15, w45_15, e45_17, w45_17, c45_18, e45_20, w45_20, e45_22, w45_22, c45_23, e45_25, w45_25, c45_26, c45_27, e45_29, w45_29, c45_30, c45_31, c45_32, c45_33, c45_34, e45_36, w45_36, c45_37, c45_38, c45_39, c45_40, c45_41]
  first | refine callD (transitref35_Sum_ok B d hb lb) ?_ | refine callQD (transitref35_Sum_ok B d hb lb) ?_
  simp -implicitDefEqProofs (disch := omega) only [go_sem, Nat.reduceAdd, Nat.reduceMul, Nat.reduceSub, Nat.reduceBEq, Nat.reduceLeDiff, Nat.reduceLT, fn_transitref35_better, e45_1, w45_1, e45_3, w45_3, c45_4, e45_6, w45_6, e45_8, w45_8, c45_9, e45_11, w45_11, e45_13, w45_13, e45_15, w45_15, e45_17, w45_17, c45_18, e45_20, w45_20, e45_22, w45_22, c45_23, e45_25, w45_25, c45_26, c45_27, e45_29, w45_29, c45_30, c45_31, c45_32, c45_33, c45_34, e45_36, w45_36, c45_37, c45_38, c45_39, c45_40, c45_41]
  refine ifD (fun h3 => ?_) (fun h3 => ?_)
  rotate_left
  · simp -implicitDefEqProofs (disch := omega) only [go_sem, Nat.reduceAdd, Nat.reduceMul, Nat.reduceSub, Nat.reduceBEq, Nat.reduceLeDiff, Nat.reduceLT, fn_transitref35_better, e45_1, w45_1, e45_3, w45_3, c45_4, e45_6, w45_6, e45_8, w45_8, c45_9, e45_11, w45_11, e45_13, w45_13, e45_15, w45_15, e45_17, w45_17, c45_18, e45_20, w45_20, e45_22, w45_22, c45_23, e45_25, w45_25, c45_26, c45_27, e45_29, w45_29, c45_30, c45_31, c45_32, c45_33, c45_34, e45_36, w45_36, c45_37, c45_38, c45_39, c45_40, c45_41]
    first | refine callD (transitref35_Sum_ok A c ha la) ?_ | refine callQD (transitref35_Sum_ok A c ha la) ?_
    simp -implicitDefEqProofs (disch := omega) only [go_sem, Nat.reduceAdd, Nat.reduceMul, Nat.reduceSub, Nat.reduceBEq, Nat.reduceLeDiff, Nat.reduceLT, fn_transitref35_better, e45_1, w45_1, e45_3, w45_3, c45_4, e45_6, w45_6, e45_8, w45_8, c45_9, e45_11, w45_11, e45_13, w45_13, e45_15, w45_15, e45_17, w45_17, c45_18, e45_20, w45_20, e45_22, w45_22, c45_23, e45_25, w45_25, c45_26, c45_27, e45_29, w45_29, c45_30, c45_31, c45_32, c45_33, c45_34, e45_36, w45_36, c45_37, c45_38, c45_39, c45_40, c45_41]
    first | refine callD (transitref35_Sum_ok B d hb lb) ?_ | refine callQD (transitref35_Sum_ok B d hb lb) ?_
    simp -implicitDefEqProofs (disch := omega) only [go_sem, Nat.reduceAdd, Nat.reduceMul, Nat.reduceSub, Nat.reduceBEq, Nat.reduceLeDiff, Nat.reduceLT, fn_transitref35_better, e45_1, w45_1, e45_3, w45_3, c45_4, e45_6, w45_6, e45_8, w45_8, c45_9, e45_11, w45_11, e45_13, w45_13, e45_15, w45_15, e45_17, w45_17, c45_18, e45_20, w45_20, e45_22, w45_22, c45_23, e45_25, w45_25, c45_26, c45_27, e45_29, w45_29, c45_30, c45_31, c45_32, c45_33, c45_34, e45_36, w45_36, c45_37, c45_38, c45_39, c45_40, c45_41]
    rw [betterB_some]
    simp [h3]
  simp -implicitDefEqProofs (disch := omega) only [go_sem, Nat.reduceAdd, Nat.reduceMul, Nat.reduceSub, Nat.reduceBEq, Nat.reduceLeDiff, Nat.reduceLT, fn_transitref35_better, e45_1, w45_1, e45_3, w45_3, c45_4, e45_6, w45_6, e45_8, w45_8, c45_9, e45_11, w45_11, e45_13, w45_13, e45_15, w45_15, e45_17, w45_17, c45_18, e45_20, w45_20, e45_22, w45_22, c45_23, e45_25, w45_25, c45_26, c45_27, e45_29, w45_29, c45_30, c45_31, c45_32, c45_33, c45_34, e45_36, w45_36, c45_37, c45_38, c45_39, c45_40, c45_41]
  refine ifD (fun h4 => ?_) (fun h4 => ?_)
  rotate_left
  · simp -implicitDefEqProofs (disch := omega) only [go_sem, Nat.reduceAdd, Nat.reduceMul, Nat.reduceSub, Nat.reduceBEq, Nat.reduceLeDiff, Nat.reduceLT, fn_transitref35_better, e45_1, w45_1, e45_3, w45_3, c45_4, e45_6, w45_6, e45_8, w45_8, c45_9, e45_11, w45_11, e45_13, w45_13, e45_15, w45_15, e45_17, w45_17, c45_18, e45_20, w45_20, e45_22, w45_22, c45_23, e45_25, w45_25, c45_26, c45_27, e45_29, w45_29, c45_30, c45_31, c45_32, c45_33, c45_34, e45_36, w45_36, c45_37, c45_38, c45_39, c45_40, c45_41]
    rw [betterB_some]
    simp [h3]
  have hres : betterB (some B) (total A) (A.length : Nat) = false := by
    rw [betterB_some]; simp [h3, h4]
  simp -implicitDefEqProofs (disch := omega) only [go_sem, Nat.reduceAdd, Nat.reduceMul, Nat.reduceSub, Nat.reduceBEq, Nat.reduceLeDiff, Nat.reduceLT, fn_transitref35_better, e45_1, w45_1, e45_3, w45_3, c45_4, e45_6, w45_6, e45_8, w45_8, c45_9, e45_11, w45_11, e45_13, w45_13, e45_15, w45_15, e45_17, w45_17, c45_18, e45_20, w45_20, e45_22, w45_22, c45_23, e45_25, w45_25, c45_26, c45_27, e45_29, w45_29, c45_30, c45_31, c45_32, c45_33, c45_34, e45_36, w45_36, c45_37, c45_38, c45_39, c45_40, c45_41]
  refine wpC_for A.length (fun i vs M => i = 0 ∧ vs = [.slice (A.map Ticket.row) c, .slice (B.map Ticket.row) d, .int .i64 0] ∧ M = []) ⟨rfl, rfl, rfl⟩ ?_ ?_
  · rintro i vs M hi hid ⟨rfl, rfl, rfl⟩
    simp -implicitDefEqProofs (disch := omega) only [go_sem, Nat.reduceAdd, Nat.reduceMul, Nat.reduceSub, Nat.reduceBEq, Nat.reduceLeDiff, Nat.reduceLT, fn_transitref35_better, e45_1, w45_1, e45_3, w45_3, c45_4, e45_6, w45_6, e45_8, w45_8, c45_9, e45_11, w45_11, e45_13, w45_13, e45_15, w45_15, e45_17, w45_17, c45_18, e45_20, w45_20, e45_22, w45_22, c45_23, e45_25, w45_25, c45_26, c45_27, e45_29, w45_29, c45_30, c45_31, c45_32, c45_33, c45_34, e45_36, w45_36, c45_37, c45_38, c45_39, c45_40, c45_41]
    refine ifD (fun h5 => ?_) (fun h5 => ?_)
    rotate_left
    · omega
    simp -implicitDefEqProofs (disch := omega) only [go_sem, Nat.reduceAdd, Nat.reduceMul, Nat.reduceSub, Nat.reduceBEq, Nat.reduceLeDiff, Nat.reduceLT, fn_transitref35_better, e45_1, w45_1, e45_3, w45_3, c45_4, e45_6, w45_6, e45_8, w45_8, c45_9, e45_11, w45_11, e45_13, w45_13, e45_15, w45_15, e45_17, w45_17, c45_18, e45_20, w45_20, e45_22, w45_22, c45_23, e45_25, w45_25, c45_26, c45_27, e45_29, w45_29, c45_30, c45_31, c45_32, c45_33, c45_34, e45_36, w45_36, c45_37, c45_38, c45_39, c45_40, c45_41, hA, hB, Ticket.row]
    refine ifD (fun h6 => ?_) (fun h6 => ?_)
    rotate_left
    · simp -implicitDefEqProofs (disch := omega) only [go_sem, Nat.reduceAdd, Nat.reduceMul, Nat.reduceSub, Nat.reduceBEq, Nat.reduceLeDiff, Nat.reduceLT, fn_transitref35_better, e45_1, w45_1, e45_3, w45_3, c45_4, e45_6, w45_6, e45_8, w45_8, c45_9, e45_11, w45_11, e45_13, w45_13, e45_15, w45_15, e45_17, w45_17, c45_18, e45_20, w45_20, e45_22, w45_22, c45_23, e45_25, w45_25, c45_26, c45_27, e45_29, w45_29, c45_30, c45_31, c45_32, c45_33, c45_34, e45_36, w45_36, c45_37, c45_38, c45_39, c45_40, c45_41, hA, hB, Ticket.row, hres]
      simp; omega
    simp -implicitDefEqProofs (disch := omega) only [go_sem, Nat.reduceAdd, Nat.reduceMul, Nat.reduceSub, Nat.reduceBEq, Nat.reduceLeDiff, Nat.reduceLT, fn_transitref35_better, e45_1, w45_1, e45_3, w45_3, c45_4, e45_6, w45_6, e45_8, w45_8, c45_9, e45_11, w45_11, e45_13, w45_13, e45_15, w45_15, e45_17, w45_17, c45_18, e45_20, w45_20, e45_22, w45_22, c45_23, e45_25, w45_25, c45_26, c45_27, e45_29, w45_29, c45_30, c45_31, c45_32, c45_33, c45_34, e45_36, w45_36, c45_37, c45_38, c45_39, c45_40, c45_41, hA, hB, Ticket.row]
    have := h2 h6.symm
    refine ifD (fun h7 => ?_) (fun h7 => ?_)
    · omega
    · simp -implicitDefEqProofs (disch := omega) only [go_sem, Nat.reduceAdd, Nat.reduceMul, Nat.reduceSub, Nat.reduceBEq, Nat.reduceLeDiff, Nat.reduceLT, fn_transitref35_better, e45_1, w45_1, e45_3, w45_3, c45_4, e45_6, w45_6, e45_8, w45_8, c45_9, e45_11, w45_11, e45_13, w45_13, e45_15, w45_15, e45_17, w45_17, c45_18, e45_20, w45_20, e45_22, w45_22, c45_23, e45_25, w45_25, c45_26, c45_27, e45_29, w45_29, c45_30, c45_31, c45_32, c45_33, c45_34, e45_36, w45_36, c45_37, c45_38, c45_39, c45_40, c45_41, hA, hB, Ticket.row, hres]
      simp; omega
  · rintro vs M ⟨h0, rfl, rfl⟩
    have : A.length = a.length + 1 := by rw [← ea]; rfl
    omega

theorem cand_cons {f : Fares} {l : List Ride} {i k p : Nat} {q : Product} {R : Nat → Option (List Ticket)} {d : List Ticket} (hq : f.products[p]? = some q) (hc : covers q (part l i k) = true) (hR : R (k + 1) = some d) : cand f l i k p R = some (⟨p, i, k, ticket f q l i⟩ :: d) := by
  simp only [cand, hq, hc, hR, if_true]; rfl
theorem cand_not {f : Fares} {l : List Ride} {i k p : Nat} {q : Product} {R : Nat → Option (List Ticket)} (hq : f.products[p]? = some q) (hc : covers q (part l i k) = false) : cand f l i k p R = none := by
  simp only [cand, hq, hc]; rfl
theorem rest_app (o : List Ticket) : ∃ c, restCell (some o) = .slice (o.map Ticket.row) c := by
  cases o with
  | nil => exact ⟨.nil, rfl⟩
  | cons t d => exact ⟨.unk, rfl⟩

theorem dec_lt {a b : Nat} (h : a < b) : decide (a < b) = true := decide_eq_true h
theorem rest_slice (o : Option (List Ticket)) : ∃ (d : List Ticket) (c : Cap), restCell o = .slice (d.map Ticket.row) c := by
  cases o with
  | none => exact ⟨[], .nil, rfl⟩
  | some d => cases d with
    | nil => exact ⟨[], .nil, rfl⟩
    | cons t d => exact ⟨t :: d, .unk, rfl⟩
theorem makeSlice_nat (zero : List V) (sz bytes n : Nat) (M : Mem) (hn : n ≤ 8) (hb : bytes ≤ 24) : makeSliceV zero sz bytes (.int .i64 ((n : Int) + 1)) (.int .i64 ((n : Int) + 1)) M = some (.mslice M.length 0 0 (n + 1), M ++ [.arr sz (List.replicate (n + 1) zero) 0 0]) := by
  have h1 : ((n : Int) + 1) * (bytes : Int) ≤ 9 * 24 := Int.mul_le_mul (by omega) (by omega) (by omega) (by omega)
  have a1 : decide (0 ≤ (n : Int) + 1) = true := decide_eq_true (by omega)
  have a2 : decide ((n : Int) + 1 ≤ (n : Int) + 1) = true := decide_eq_true (by omega)
  have a3 : decide (((n : Int) + 1) * (bytes : Int) ≤ 2 ^ 48) = true := decide_eq_true (by omega)
  have a4 : decide ((n : Int) + 1 < 2 ^ 62) = true := decide_eq_true (by omega)
  have a5 : ((n : Int) + 1).toNat = n + 1 := by omega
  simp only [makeSliceV, a1, a2, a3, a4, a5, Bool.and_self, cond_true]

theorem transitref35_Best_ok (f : Fares) (l : List Ride) (c : Cap) (hf : f.wf) (hok : f.Ok) (hl : ∀ r ∈ l, r.wf) (hlen : l.length ≤ 8) :
    PCalls PR i_transitref35_Best [.agg f.row, .slice (l.map Ride.row) c] (fun v => v = .tuple [restCell (best f l 0), .bool (rOk (best f l 0))]) := by
  have hm : maxLen = 9223372036854775807 := by rfl
  have hpl := hok.len
  have hz : ((l.length : Int) + 1).toNat = l.length + 1 := by omega
  refine acalls_pop fn_transitref35_Best_ok (by simp [fn_transitref35_Best]) ?_
  have hp0 := pp_set l.length l.length (fun _ => none) (some [])
  simp only [rOk, Option.isSome] at hp0
  simp -implicitDefEqProofs (disch := omega) only [go_sem, Nat.reduceAdd, Nat.reduceMul, Nat.reduceSub, Nat.reduceBEq, Nat.reduceLeDiff, Nat.reduceLT, fn_transitref35_Best, e30_1, w30_1, e30_3, w30_3, e30_5, w30_5, e30_7, w30_7, e30_9, w30_9, e30_11, w30_11, e30_13, w30_13, e30_15, w30_15, e30_17, w30_17, e30_19, w30_19, e30_21, w30_21, e30_23, w30_23, e30_25, w30_25, e30_27, w30_27, e30_29, w30_29, c30_30, c30_31, c30_32, c30_33, e30_35, w30_35, c30_36, c30_37, c30_38, c30_39, c30_40, c30_41, e30_43, w30_43, c30_44, c30_45, c30_46, c30_47, c30_48, c30_49, e30_51, w30_51, c30_52, c30_53, c30_54, c30_55, c30_56, e30_58, w30_58, c30_59, c30_60, c30_61, c30_62, c30_63, c30_64, Fares.row, makeSlice_nat, rr_zero, pp_zero, rr_len, pp_len, pp_get, dec_lt, hp0]
  refine wpC_for l.length (fun j vs M => vs = [.slice (l.map Ride.row) c, .ptr 0 0, .mslice 1 0 0 (l.length + 1), .mslice 2 0 0 (l.length + 1), .int .i64 ((l.length : Int) - 1 - j)] ∧
      M = [.box f.row, .arr 1 (restRows l.length (tabs f l j)) 0 0, .arr 1 (paidRows l.length (tabs f l j)) 0 0]) ⟨by simp [vals, sget], by simp [Fares.row, tabs]⟩ ?_ ?_
  rotate_left
  · rintro vs M ⟨rfl, rfl⟩
    have h1 : ((l.length : Int) - 1 - l.length) = -1 := by omega
    simp -implicitDefEqProofs (disch := omega) only [go_sem, Nat.reduceAdd, Nat.reduceMul, Nat.reduceSub, Nat.reduceBEq, Nat.reduceLeDiff, Nat.reduceLT, fn_transitref35_Best, e30_1, w30_1, e30_3, w30_3, e30_5, w30_5, e30_7, w30_7, e30_9, w30_9, e30_11, w30_11, e30_13, w30_13, e30_15, w30_15, e30_17, w30_17, e30_19, w30_19, e30_21, w30_21, e30_23, w30_23, e30_25, w30_25, e30_27, w30_27, e30_29, w30_29, c30_30, c30_31, c30_32, c30_33, e30_35, w30_35, c30_36, c30_37, c30_38, c30_39, c30_40, c30_41, e30_43, w30_43, c30_44, c30_45, c30_46, c30_47, c30_48, c30_49, e30_51, w30_51, c30_52, c30_53, c30_54, c30_55, c30_56, e30_58, w30_58, c30_59, c30_60, c30_61, c30_62, c30_63, c30_64, h1, Fares.row]
    refine ifD (fun h2 => ?_) (fun h2 => ?_)
    · omega
    obtain ⟨d, cd, hcd⟩ := rest_slice (tabs f l l.length 0)
    simp -implicitDefEqProofs (disch := omega) only [go_sem, Nat.reduceAdd, Nat.reduceMul, Nat.reduceSub, Nat.reduceBEq, Nat.reduceLeDiff, Nat.reduceLT, fn_transitref35_Best, e30_1, w30_1, e30_3, w30_3, e30_5, w30_5, e30_7, w30_7, e30_9, w30_9, e30_11, w30_11, e30_13, w30_13, e30_15, w30_15, e30_17, w30_17, e30_19, w30_19, e30_21, w30_21, e30_23, w30_23, e30_25, w30_25, e30_27, w30_27, e30_29, w30_29, c30_30, c30_31, c30_32, c30_33, e30_35, w30_35, c30_36, c30_37, c30_38, c30_39, c30_40, c30_41, e30_43, w30_43, c30_44, c30_45, c30_46, c30_47, c30_48, c30_49, e30_51, w30_51, c30_52, c30_53, c30_54, c30_55, c30_56, e30_58, w30_58, c30_59, c30_60, c30_61, c30_62, c30_63, c30_64, rr_len, pp_len, rr_get, pp_get, dec_lt, hcd, best]
  rintro j vs M hj hjd ⟨rfl, rfl⟩
  obtain ⟨i, hi⟩ : ∃ i : Nat, (l.length : Int) - 1 - j = i := ⟨l.length - 1 - j, by omega⟩
  simp -implicitDefEqProofs (disch := omega) only [go_sem, Nat.reduceAdd, Nat.reduceMul, Nat.reduceSub, Nat.reduceBEq, Nat.reduceLeDiff, Nat.reduceLT, fn_transitref35_Best, e30_1, w30_1, e30_3, w30_3, e30_5, w30_5, e30_7, w30_7, e30_9, w30_9, e30_11, w30_11, e30_13, w30_13, e30_15, w30_15, e30_17, w30_17, e30_19, w30_19, e30_21, w30_21, e30_23, w30_23, e30_25, w30_25, e30_27, w30_27, e30_29, w30_29, c30_30, c30_31, c30_32, c30_33, e30_35, w30_35, c30_36, c30_37, c30_38, c30_39, c30_40, c30_41, e30_43, w30_43, c30_44, c30_45, c30_46, c30_47, c30_48, c30_49, e30_51, w30_51, c30_52, c30_53, c30_54, c30_55, c30_56, e30_58, w30_58, c30_59, c30_60, c30_61, c30_62, c30_63, c30_64, hi, Fares.row]
  refine ifD (fun h1 => ?_) (fun h1 => ?_)
  rotate_left
  · omega
  simp -implicitDefEqProofs (disch := omega) only [go_sem, Nat.reduceAdd, Nat.reduceMul, Nat.reduceSub, Nat.reduceBEq, Nat.reduceLeDiff, Nat.reduceLT, fn_transitref35_Best, e30_1, w30_1, e30_3, w30_3, e30_5, w30_5, e30_7, w30_7, e30_9, w30_9, e30_11, w30_11, e30_13, w30_13, e30_15, w30_15, e30_17, w30_17, e30_19, w30_19, e30_21, w30_21, e30_23, w30_23, e30_25, w30_25, e30_27, w30_27, e30_29, w30_29, c30_30, c30_31, c30_32, c30_33, e30_35, w30_35, c30_36, c30_37, c30_38, c30_39, c30_40, c30_41, e30_43, w30_43, c30_44, c30_45, c30_46, c30_47, c30_48, c30_49, e30_51, w30_51, c30_52, c30_53, c30_54, c30_55, c30_56, e30_58, w30_58, c30_59, c30_60, c30_61, c30_62, c30_63, c30_64, Fares.row]
  refine wpC_for (j + 1) (fun m vs M => vs = [.slice (l.map Ride.row) c, .ptr 0 0, .mslice 1 0 0 (l.length + 1), .mslice 2 0 0 (l.length + 1), .int .i64 i, .int .i64 ((i + m : Nat) : Int)] ∧
      M = [.box f.row, .arr 1 (restRows l.length (upd (tabs f l j) i (accK f l i (tabs f l j) m))) 0 0, .arr 1 (paidRows l.length (upd (tabs f l j) i (accK f l i (tabs f l j) m))) 0 0]) ⟨by simp [vals, sget], ?_⟩ ?_ ?_
  · have e : tabs f l j i = none := tabs_low f l j i (by omega) (by omega)
    have e2 : upd (tabs f l j) i none = tabs f l j := by rw [← e, upd_self]
    simp [Fares.row, accK, e2]
  rotate_left
  · rintro vs M ⟨rfl, rfl⟩
    simp -implicitDefEqProofs (disch := omega) only [go_sem, Nat.reduceAdd, Nat.reduceMul, Nat.reduceSub, Nat.reduceBEq, Nat.reduceLeDiff, Nat.reduceLT, fn_transitref35_Best, e30_1, w30_1, e30_3, w30_3, e30_5, w30_5, e30_7, w30_7, e30_9, w30_9, e30_11, w30_11, e30_13, w30_13, e30_15, w30_15, e30_17, w30_17, e30_19, w30_19, e30_21, w30_21, e30_23, w30_23, e30_25, w30_25, e30_27, w30_27, e30_29, w30_29, c30_30, c30_31, c30_32, c30_33, e30_35, w30_35, c30_36, c30_37, c30_38, c30_39, c30_40, c30_41, e30_43, w30_43, c30_44, c30_45, c30_46, c30_47, c30_48, c30_49, e30_51, w30_51, c30_52, c30_53, c30_54, c30_55, c30_56, e30_58, w30_58, c30_59, c30_60, c30_61, c30_62, c30_63, c30_64, Fares.row]
    refine ifD (fun h2 => ?_) (fun h2 => ?_)
    · omega
    simp -implicitDefEqProofs (disch := omega) only [go_sem, Nat.reduceAdd, Nat.reduceMul, Nat.reduceSub, Nat.reduceBEq, Nat.reduceLeDiff, Nat.reduceLT, fn_transitref35_Best, e30_1, w30_1, e30_3, w30_3, e30_5, w30_5, e30_7, w30_7, e30_9, w30_9, e30_11, w30_11, e30_13, w30_13, e30_15, w30_15, e30_17, w30_17, e30_19, w30_19, e30_21, w30_21, e30_23, w30_23, e30_25, w30_25, e30_27, w30_27, e30_29, w30_29, c30_30, c30_31, c30_32, c30_33, e30_35, w30_35, c30_36, c30_37, c30_38, c30_39, c30_40, c30_41, e30_43, w30_43, c30_44, c30_45, c30_46, c30_47, c30_48, c30_49, e30_51, w30_51, c30_52, c30_53, c30_54, c30_55, c30_56, e30_58, w30_58, c30_59, c30_60, c30_61, c30_62, c30_63, c30_64, Fares.row]
    have e : l.length - (j + 1) = i := by omega
    refine next_stay hj ⟨?_, ?_⟩
    · have : (i : Int) - 1 = (l.length : Int) - 1 - ((j + 1 : Nat) : Int) := by omega
      simp [vals, sget, this]
    · simp [Fares.row, tabs, e]
  rintro m vs M hm1 hmd ⟨rfl, rfl⟩
  simp -implicitDefEqProofs (disch := omega) only [go_sem, Nat.reduceAdd, Nat.reduceMul, Nat.reduceSub, Nat.reduceBEq, Nat.reduceLeDiff, Nat.reduceLT, fn_transitref35_Best, e30_1, w30_1, e30_3, w30_3, e30_5, w30_5, e30_7, w30_7, e30_9, w30_9, e30_11, w30_11, e30_13, w30_13, e30_15, w30_15, e30_17, w30_17, e30_19, w30_19, e30_21, w30_21, e30_23, w30_23, e30_25, w30_25, e30_27, w30_27, e30_29, w30_29, c30_30, c30_31, c30_32, c30_33, e30_35, w30_35, c30_36, c30_37, c30_38, c30_39, c30_40, c30_41, e30_43, w30_43, c30_44, c30_45, c30_46, c30_47, c30_48, c30_49, e30_51, w30_51, c30_52, c30_53, c30_54, c30_55, c30_56, e30_58, w30_58, c30_59, c30_60, c30_61, c30_62, c30_63, c30_64, Fares.row]
  refine ifD (fun h2 => ?_) (fun h2 => ?_)
  rotate_left
  · omega
  simp -implicitDefEqProofs (disch := omega) only [go_sem, Nat.reduceAdd, Nat.reduceMul, Nat.reduceSub, Nat.reduceBEq, Nat.reduceLeDiff, Nat.reduceLT, fn_transitref35_Best, e30_1, w30_1, e30_3, w30_3, e30_5, w30_5, e30_7, w30_7, e30_9, w30_9, e30_11, w30_11, e30_13, w30_13, e30_15, w30_15, e30_17, w30_17, e30_19, w30_19, e30_21, w30_21, e30_23, w30_23, e30_25, w30_25, e30_27, w30_27, e30_29, w30_29, c30_30, c30_31, c30_32, c30_33, e30_35, w30_35, c30_36, c30_37, c30_38, c30_39, c30_40, c30_41, e30_43, w30_43, c30_44, c30_45, c30_46, c30_47, c30_48, c30_49, e30_51, w30_51, c30_52, c30_53, c30_54, c30_55, c30_56, e30_58, w30_58, c30_59, c30_60, c30_61, c30_62, c30_63, c30_64, Fares.row]
  have hne : i + m + 1 ≠ i := by omega
  refine wpC_for f.products.length (fun p vs M => vs = [.slice (l.map Ride.row) c, .ptr 0 0, .mslice 1 0 0 (l.length + 1), .mslice 2 0 0 (l.length + 1), .int .i64 i, .int .i64 ((i + m : Nat) : Int), .int .i64 p] ∧
      M = [.box f.row, .arr 1 (restRows l.length (upd (tabs f l j) i (accP f l i (i + m) (tabs f l j) (accK f l i (tabs f l j) m) p))) 0 0, .arr 1 (paidRows l.length (upd (tabs f l j) i (accP f l i (i + m) (tabs f l j) (accK f l i (tabs f l j) m) p))) 0 0]) ⟨by simp [vals, sget], by simp [Fares.row, accP]⟩ ?_ ?_
  rotate_left
  · rintro vs M ⟨rfl, rfl⟩
    simp -implicitDefEqProofs (disch := omega) only [go_sem, Nat.reduceAdd, Nat.reduceMul, Nat.reduceSub, Nat.reduceBEq, Nat.reduceLeDiff, Nat.reduceLT, fn_transitref35_Best, e30_1, w30_1, e30_3, w30_3, e30_5, w30_5, e30_7, w30_7, e30_9, w30_9, e30_11, w30_11, e30_13, w30_13, e30_15, w30_15, e30_17, w30_17, e30_19, w30_19, e30_21, w30_21, e30_23, w30_23, e30_25, w30_25, e30_27, w30_27, e30_29, w30_29, c30_30, c30_31, c30_32, c30_33, e30_35, w30_35, c30_36, c30_37, c30_38, c30_39, c30_40, c30_41, e30_43, w30_43, c30_44, c30_45, c30_46, c30_47, c30_48, c30_49, e30_51, w30_51, c30_52, c30_53, c30_54, c30_55, c30_56, e30_58, w30_58, c30_59, c30_60, c30_61, c30_62, c30_63, c30_64, dec_irrefl, Fares.row]
    refine next_stay hm1 ⟨?_, ?_⟩
    · have : ((i + m : Nat) : Int) + 1 = ((i + (m + 1) : Nat) : Int) := by omega
      simp only [vals, sget, this]; rfl
    · simp only [Fares.row, accK]
  rintro p vs M hp hpd ⟨rfl, rfl⟩
  obtain ⟨q, hq⟩ : ∃ q, f.products[p]? = some q := ⟨f.products[p], by simp⟩
  have hqm := List.mem_of_getElem? hq
  simp -implicitDefEqProofs (disch := omega) only [go_sem, Nat.reduceAdd, Nat.reduceMul, Nat.reduceSub, Nat.reduceBEq, Nat.reduceLeDiff, Nat.reduceLT, fn_transitref35_Best, e30_1, w30_1, e30_3, w30_3, e30_5, w30_5, e30_7, w30_7, e30_9, w30_9, e30_11, w30_11, e30_13, w30_13, e30_15, w30_15, e30_17, w30_17, e30_19, w30_19, e30_21, w30_21, e30_23, w30_23, e30_25, w30_25, e30_27, w30_27, e30_29, w30_29, c30_30, c30_31, c30_32, c30_33, e30_35, w30_35, c30_36, c30_37, c30_38, c30_39, c30_40, c30_41, e30_43, w30_43, c30_44, c30_45, c30_46, c30_47, c30_48, c30_49, e30_51, w30_51, c30_52, c30_53, c30_54, c30_55, c30_56, e30_58, w30_58, c30_59, c30_60, c30_61, c30_62, c30_63, c30_64, hpd, pp_len, pp_get, dec_lt, upd_ne _ _ hne, Fares.row]
  refine ifB (fun h3 => ?_) (fun h3 => ?_)
  rotate_left
  · have e : tabs f l j (i + m + 1) = none := by simpa [rOk] using h3
    simp -implicitDefEqProofs (disch := omega) only [go_sem, Nat.reduceAdd, Nat.reduceMul, Nat.reduceSub, Nat.reduceBEq, Nat.reduceLeDiff, Nat.reduceLT, fn_transitref35_Best, e30_1, w30_1, e30_3, w30_3, e30_5, w30_5, e30_7, w30_7, e30_9, w30_9, e30_11, w30_11, e30_13, w30_13, e30_15, w30_15, e30_17, w30_17, e30_19, w30_19, e30_21, w30_21, e30_23, w30_23, e30_25, w30_25, e30_27, w30_27, e30_29, w30_29, c30_30, c30_31, c30_32, c30_33, e30_35, w30_35, c30_36, c30_37, c30_38, c30_39, c30_40, c30_41, e30_43, w30_43, c30_44, c30_45, c30_46, c30_47, c30_48, c30_49, e30_51, w30_51, c30_52, c30_53, c30_54, c30_55, c30_56, e30_58, w30_58, c30_59, c30_60, c30_61, c30_62, c30_63, c30_64, Fares.row, accP_none e]
    refine next_stay hm1 ⟨?_, ?_⟩
    · have : ((i + m : Nat) : Int) + 1 = ((i + (m + 1) : Nat) : Int) := by omega
      simp only [vals, sget, this]; rfl
    · simp only [Fares.row, accK, accP_none e]
  obtain ⟨d, hd⟩ : ∃ d, tabs f l j (i + m + 1) = some d := Option.isSome_iff_exists.1 h3
  obtain ⟨cd, hcd⟩ := rest_app d
  simp -implicitDefEqProofs (disch := omega) only [go_sem, Nat.reduceAdd, Nat.reduceMul, Nat.reduceSub, Nat.reduceBEq, Nat.reduceLeDiff, Nat.reduceLT, fn_transitref35_Best, e30_1, w30_1, e30_3, w30_3, e30_5, w30_5, e30_7, w30_7, e30_9, w30_9, e30_11, w30_11, e30_13, w30_13, e30_15, w30_15, e30_17, w30_17, e30_19, w30_19, e30_21, w30_21, e30_23, w30_23, e30_25, w30_25, e30_27, w30_27, e30_29, w30_29, c30_30, c30_31, c30_32, c30_33, e30_35, w30_35, c30_36, c30_37, c30_38, c30_39, c30_40, c30_41, e30_43, w30_43, c30_44, c30_45, c30_46, c30_47, c30_48, c30_49, e30_51, w30_51, c30_52, c30_53, c30_54, c30_55, c30_56, e30_58, w30_58, c30_59, c30_60, c30_61, c30_62, c30_63, c30_64, Fares.row, hq, Product.row]
  first | refine callD (transitref35_Covers_ok q l c i (i + m) (hf.1 q hqm) (hok.prods q hqm).2.2.2.1.1 hl (by omega) (by omega) (by omega)) ?_ | refine callQD (transitref35_Covers_ok q l c i (i + m) (hf.1 q hqm) (hok.prods q hqm).2.2.2.1.1 hl (by omega) (by omega) (by omega)) ?_
  simp -implicitDefEqProofs (disch := omega) only [go_sem, Nat.reduceAdd, Nat.reduceMul, Nat.reduceSub, Nat.reduceBEq, Nat.reduceLeDiff, Nat.reduceLT, fn_transitref35_Best, e30_1, w30_1, e30_3, w30_3, e30_5, w30_5, e30_7, w30_7, e30_9, w30_9, e30_11, w30_11, e30_13, w30_13, e30_15, w30_15, e30_17, w30_17, e30_19, w30_19, e30_21, w30_21, e30_23, w30_23, e30_25, w30_25, e30_27, w30_27, e30_29, w30_29, c30_30, c30_31, c30_32, c30_33, e30_35, w30_35, c30_36, c30_37, c30_38, c30_39, c30_40, c30_41, e30_43, w30_43, c30_44, c30_45, c30_46, c30_47, c30_48, c30_49, e30_51, w30_51, c30_52, c30_53, c30_54, c30_55, c30_56, e30_58, w30_58, c30_59, c30_60, c30_61, c30_62, c30_63, c30_64, Fares.row]
  refine ifB (fun h4 => ?_) (fun h4 => ?_)
  rotate_left
  · simp -implicitDefEqProofs (disch := omega) only [go_sem, Nat.reduceAdd, Nat.reduceMul, Nat.reduceSub, Nat.reduceBEq, Nat.reduceLeDiff, Nat.reduceLT, fn_transitref35_Best, e30_1, w30_1, e30_3, w30_3, e30_5, w30_5, e30_7, w30_7, e30_9, w30_9, e30_11, w30_11, e30_13, w30_13, e30_15, w30_15, e30_17, w30_17, e30_19, w30_19, e30_21, w30_21, e30_23, w30_23, e30_25, w30_25, e30_27, w30_27, e30_29, w30_29, c30_30, c30_31, c30_32, c30_33, e30_35, w30_35, c30_36, c30_37, c30_38, c30_39, c30_40, c30_41, e30_43, w30_43, c30_44, c30_45, c30_46, c30_47, c30_48, c30_49, e30_51, w30_51, c30_52, c30_53, c30_54, c30_55, c30_56, e30_58, w30_58, c30_59, c30_60, c30_61, c30_62, c30_63, c30_64, Fares.row]
    refine next_stay hp ⟨?_, ?_⟩
    · simp only [vals, sget]; rfl
    · simp only [Fares.row, accP, cand_not hq h4, stepP_none]
  have hc := cand_cons (R := tabs f l j) hq h4 hd
  simp -implicitDefEqProofs (disch := omega) only [go_sem, Nat.reduceAdd, Nat.reduceMul, Nat.reduceSub, Nat.reduceBEq, Nat.reduceLeDiff, Nat.reduceLT, fn_transitref35_Best, e30_1, w30_1, e30_3, w30_3, e30_5, w30_5, e30_7, w30_7, e30_9, w30_9, e30_11, w30_11, e30_13, w30_13, e30_15, w30_15, e30_17, w30_17, e30_19, w30_19, e30_21, w30_21, e30_23, w30_23, e30_25, w30_25, e30_27, w30_27, e30_29, w30_29, c30_30, c30_31, c30_32, c30_33, e30_35, w30_35, c30_36, c30_37, c30_38, c30_39, c30_40, c30_41, e30_43, w30_43, c30_44, c30_45, c30_46, c30_47, c30_48, c30_49, e30_51, w30_51, c30_52, c30_53, c30_54, c30_55, c30_56, e30_58, w30_58, c30_59, c30_60, c30_61, c30_62, c30_63, c30_64, Fares.row, hq, Product.row]
  first | refine callD (transitref35_Ticket_ok f q l c i hf hok (hok.prods q hqm).1 hl (by omega) (by omega)) ?_ | refine callQD (transitref35_Ticket_ok f q l c i hf hok (hok.prods q hqm).1 hl (by omega) (by omega)) ?_
  have hmild := tabs_mild hok hlen (by omega) (by omega) hd
  obtain ⟨hm2, hm3, hm4⟩ := hmild
  simp -implicitDefEqProofs (disch := omega) only [go_sem, Nat.reduceAdd, Nat.reduceMul, Nat.reduceSub, Nat.reduceBEq, Nat.reduceLeDiff, Nat.reduceLT, fn_transitref35_Best, e30_1, w30_1, e30_3, w30_3, e30_5, w30_5, e30_7, w30_7, e30_9, w30_9, e30_11, w30_11, e30_13, w30_13, e30_15, w30_15, e30_17, w30_17, e30_19, w30_19, e30_21, w30_21, e30_23, w30_23, e30_25, w30_25, e30_27, w30_27, e30_29, w30_29, c30_30, c30_31, c30_32, c30_33, e30_35, w30_35, c30_36, c30_37, c30_38, c30_39, c30_40, c30_41, e30_43, w30_43, c30_44, c30_45, c30_46, c30_47, c30_48, c30_49, e30_51, w30_51, c30_52, c30_53, c30_54, c30_55, c30_56, e30_58, w30_58, c30_59, c30_60, c30_61, c30_62, c30_63, c30_64, Fares.row, rr_len, rr_get, dec_lt, upd_ne _ _ hne, hd, hcd, headLen_map (f := Ticket.row) (n := 4) (fun r => rfl) d, Bool.or_true]
  have hnone : rOk (accP f l i (i + m) (tabs f l j) (accK f l i (tabs f l j) m) p) = true ∨ accP f l i (i + m) (tabs f l j) (accK f l i (tabs f l j) m) p = none := by
    cases accP f l i (i + m) (tabs f l j) (accK f l i (tabs f l j) m) p with
    | none => exact .inr rfl
    | some x => exact .inl rfl
  generalize hacc : accP f l i (i + m) (tabs f l j) (accK f l i (tabs f l j) m) p = A at *
  have hset := rr_set l.length i (upd (tabs f l j) i A) (some (⟨p, i, (i + m : Nat), ticket f q l i⟩ :: d))
  have hset2 := pp_set l.length i (upd (tabs f l j) i A) (some (⟨p, i, (i + m : Nat), ticket f q l i⟩ :: d))
  simp only [restCell, rOk, Option.isSome, List.map_cons, Ticket.row] at hset hset2
  simp -implicitDefEqProofs (disch := omega) only [go_sem, Nat.reduceAdd, Nat.reduceMul, Nat.reduceSub, Nat.reduceBEq, Nat.reduceLeDiff, Nat.reduceLT, fn_transitref35_Best, e30_1, w30_1, e30_3, w30_3, e30_5, w30_5, e30_7, w30_7, e30_9, w30_9, e30_11, w30_11, e30_13, w30_13, e30_15, w30_15, e30_17, w30_17, e30_19, w30_19, e30_21, w30_21, e30_23, w30_23, e30_25, w30_25, e30_27, w30_27, e30_29, w30_29, c30_30, c30_31, c30_32, c30_33, e30_35, w30_35, c30_36, c30_37, c30_38, c30_39, c30_40, c30_41, e30_43, w30_43, c30_44, c30_45, c30_46, c30_47, c30_48, c30_49, e30_51, w30_51, c30_52, c30_53, c30_54, c30_55, c30_56, e30_58, w30_58, c30_59, c30_60, c30_61, c30_62, c30_63, c30_64, Fares.row, pp_len, pp_get, dec_lt, upd_same]
  have hdiv : ∀ k e, k + 1 ≤ l.length → tabs f l j (k + 1) = some e → Div f l (k + 1) e := fun k e hk he => tabs_div f l j (k + 1) e (by omega) hk he
  have hD := cand_div hc (show i ≤ i + m by omega) (by omega) (fun e he => hdiv (i + m) e (by omega) he)
  have hcong : cand f l i (i + m) p (upd (tabs f l j) i A) = cand f l i (i + m) p (tabs f l j) := cand_congr f l i (i + m) p (upd_ne _ _ hne)
  have hfin : ∀ o, stepP A (cand f l i (i + m) p (tabs f l j)) = o → upd (upd (tabs f l j) i A) i o = upd (tabs f l j) i (accP f l i (i + m) (tabs f l j) (accK f l i (tabs f l j) m) (p + 1)) := by
    intro o ho
    rw [upd_upd, accP, hacc, ho]
  refine ifB (fun h5 => ?_) (fun h5 => ?_)
  rotate_left
  · have hA : A = none := by rcases hnone with h | h <;> simp_all
    have hst : stepP A (cand f l i (i + m) p (tabs f l j)) = some (⟨p, i, (i + m : Nat), ticket f q l i⟩ :: d) := by rw [hc, hA]; rfl
    simp -implicitDefEqProofs (disch := omega) only [go_sem, Nat.reduceAdd, Nat.reduceMul, Nat.reduceSub, Nat.reduceBEq, Nat.reduceLeDiff, Nat.reduceLT, fn_transitref35_Best, e30_1, w30_1, e30_3, w30_3, e30_5, w30_5, e30_7, w30_7, e30_9, w30_9, e30_11, w30_11, e30_13, w30_13, e30_15, w30_15, e30_17, w30_17, e30_19, w30_19, e30_21, w30_21, e30_23, w30_23, e30_25, w30_25, e30_27, w30_27, e30_29, w30_29, c30_30, c30_31, c30_32, c30_33, e30_35, w30_35, c30_36, c30_37, c30_38, c30_39, c30_40, c30_41, e30_43, w30_43, c30_44, c30_45, c30_46, c30_47, c30_48, c30_49, e30_51, w30_51, c30_52, c30_53, c30_54, c30_55, c30_56, e30_58, w30_58, c30_59, c30_60, c30_61, c30_62, c30_63, c30_64, Fares.row, rr_len, pp_len, rr_get, pp_get, dec_lt, hset, hset2]
    refine next_stay hp ⟨?_, ?_⟩
    · simp only [vals, sget]; rfl
    · rw [hfin _ hst]
  obtain ⟨B, hB⟩ : ∃ B, A = some B := Option.isSome_iff_exists.1 h5
  subst hB
  obtain ⟨s, b, rfl, e1, e2⟩ := acc_head hacc
  have hDB : Div f l i (s :: b) := accP_div (show i ≤ i + m by omega) (by omega) (fun e he => hdiv (i + m) e (by omega) he) (fun e he => accK_div (fun k e hk hk' he => hdiv k e (by omega) he) m e (by omega) he) p _ hacc
  have m1 := div_mild hok _ _ hD
  have m2 := div_mild hok _ _ hDB
  simp -implicitDefEqProofs (disch := omega) only [go_sem, Nat.reduceAdd, Nat.reduceMul, Nat.reduceSub, Nat.reduceBEq, Nat.reduceLeDiff, Nat.reduceLT, fn_transitref35_Best, e30_1, w30_1, e30_3, w30_3, e30_5, w30_5, e30_7, w30_7, e30_9, w30_9, e30_11, w30_11, e30_13, w30_13, e30_15, w30_15, e30_17, w30_17, e30_19, w30_19, e30_21, w30_21, e30_23, w30_23, e30_25, w30_25, e30_27, w30_27, e30_29, w30_29, c30_30, c30_31, c30_32, c30_33, e30_35, w30_35, c30_36, c30_37, c30_38, c30_39, c30_40, c30_41, e30_43, w30_43, c30_44, c30_45, c30_46, c30_47, c30_48, c30_49, e30_51, w30_51, c30_52, c30_53, c30_54, c30_55, c30_56, e30_58, w30_58, c30_59, c30_60, c30_61, c30_62, c30_63, c30_64, Fares.row, rr_len, rr_get, dec_lt, upd_same, restCell]
  first | refine callD (transitref35_better_ok ⟨p, i, (i + m : Nat), ticket f q l i⟩ s d b .unk .unk (div_small hok _ _ hD) (div_small hok _ _ hDB) (by omega) (by omega) e1 e2) ?_ | refine callQD (transitref35_better_ok ⟨p, i, (i + m : Nat), ticket f q l i⟩ s d b .unk .unk (div_small hok _ _ hD) (div_small hok _ _ hDB) (by omega) (by omega) e1 e2) ?_
  simp -implicitDefEqProofs (disch := omega) only [go_sem, Nat.reduceAdd, Nat.reduceMul, Nat.reduceSub, Nat.reduceBEq, Nat.reduceLeDiff, Nat.reduceLT, fn_transitref35_Best, e30_1, w30_1, e30_3, w30_3, e30_5, w30_5, e30_7, w30_7, e30_9, w30_9, e30_11, w30_11, e30_13, w30_13, e30_15, w30_15, e30_17, w30_17, e30_19, w30_19, e30_21, w30_21, e30_23, w30_23, e30_25, w30_25, e30_27, w30_27, e30_29, w30_29, c30_30, c30_31, c30_32, c30_33, e30_35, w30_35, c30_36, c30_37, c30_38, c30_39, c30_40, c30_41, e30_43, w30_43, c30_44, c30_45, c30_46, c30_47, c30_48, c30_49, e30_51, w30_51, c30_52, c30_53, c30_54, c30_55, c30_56, e30_58, w30_58, c30_59, c30_60, c30_61, c30_62, c30_63, c30_64, Fares.row]
  refine ifB (fun h6 => ?_) (fun h6 => ?_)
  · have hst : stepP (some (s :: b)) (cand f l i (i + m) p (tabs f l j)) = some (⟨p, i, (i + m : Nat), ticket f q l i⟩ :: d) := by
      rw [hc]; exact if_pos h6
    simp -implicitDefEqProofs (disch := omega) only [go_sem, Nat.reduceAdd, Nat.reduceMul, Nat.reduceSub, Nat.reduceBEq, Nat.reduceLeDiff, Nat.reduceLT, fn_transitref35_Best, e30_1, w30_1, e30_3, w30_3, e30_5, w30_5, e30_7, w30_7, e30_9, w30_9, e30_11, w30_11, e30_13, w30_13, e30_15, w30_15, e30_17, w30_17, e30_19, w30_19, e30_21, w30_21, e30_23, w30_23, e30_25, w30_25, e30_27, w30_27, e30_29, w30_29, c30_30, c30_31, c30_32, c30_33, e30_35, w30_35, c30_36, c30_37, c30_38, c30_39, c30_40, c30_41, e30_43, w30_43, c30_44, c30_45, c30_46, c30_47, c30_48, c30_49, e30_51, w30_51, c30_52, c30_53, c30_54, c30_55, c30_56, e30_58, w30_58, c30_59, c30_60, c30_61, c30_62, c30_63, c30_64, Fares.row, rr_len, pp_len, rr_get, pp_get, dec_lt, hset, hset2]
    refine next_stay hp ⟨?_, ?_⟩
    · simp only [vals, sget]; rfl
    · rw [hfin _ hst]
  · have hst : stepP (some (s :: b)) (cand f l i (i + m) p (tabs f l j)) = some (s :: b) := by
      rw [hc]; exact if_neg (fun x => absurd (h6.symm.trans x) Bool.false_ne_true)
    have h7 := hfin _ hst
    rw [upd_upd] at h7
    simp -implicitDefEqProofs (disch := omega) only [go_sem, Nat.reduceAdd, Nat.reduceMul, Nat.reduceSub, Nat.reduceBEq, Nat.reduceLeDiff, Nat.reduceLT, fn_transitref35_Best, e30_1, w30_1, e30_3, w30_3, e30_5, w30_5, e30_7, w30_7, e30_9, w30_9, e30_11, w30_11, e30_13, w30_13, e30_15, w30_15, e30_17, w30_17, e30_19, w30_19, e30_21, w30_21, e30_23, w30_23, e30_25, w30_25, e30_27, w30_27, e30_29, w30_29, c30_30, c30_31, c30_32, c30_33, e30_35, w30_35, c30_36, c30_37, c30_38, c30_39, c30_40, c30_41, e30_43, w30_43, c30_44, c30_45, c30_46, c30_47, c30_48, c30_49, e30_51, w30_51, c30_52, c30_53, c30_54, c30_55, c30_56, e30_58, w30_58, c30_59, c30_60, c30_61, c30_62, c30_63, c30_64, Fares.row]
    refine next_stay hp ⟨?_, ?_⟩
    · simp only [vals, sget]; rfl
    · rw [h7]

theorem transitref35_Price_ok (f : Fares) (l : List Ride) (c : Cap) (hf : f.wf) (hl : ∀ r ∈ l, r.wf) :
    PCalls PR i_transitref35_Price [.agg f.row, .slice (l.map Ride.row) c] (fun v => ∃ d, v = fareV (fareRes f l) d) := by
  refine acalls_pop fn_transitref35_Price_ok (by simp [fn_transitref35_Price]) ?_
  simp -implicitDefEqProofs (disch := omega) only [go_sem, Nat.reduceAdd, Nat.reduceMul, Nat.reduceSub, Nat.reduceBEq, Nat.reduceLeDiff, Nat.reduceLT, fn_transitref35_Price, e13_1, w13_1, e13_3, w13_3, c13_4, e13_6, w13_6, e13_8, w13_8, c13_9, e13_11, w13_11, e13_13, w13_13, e13_15, w13_15, c13_16, e13_18, w13_18, e13_20, w13_20, c13_21, c13_22, c13_23, c13_24, c13_25, c13_26, Fares.row]
  first | refine callD (transitref35_Valid_ok f hf) ?_ | refine callQD (transitref35_Valid_ok f hf) ?_
  simp -implicitDefEqProofs (disch := omega) only [go_sem, Nat.reduceAdd, Nat.reduceMul, Nat.reduceSub, Nat.reduceBEq, Nat.reduceLeDiff, Nat.reduceLT, fn_transitref35_Price, e13_1, w13_1, e13_3, w13_3, c13_4, e13_6, w13_6, e13_8, w13_8, c13_9, e13_11, w13_11, e13_13, w13_13, e13_15, w13_15, c13_16, e13_18, w13_18, e13_20, w13_20, c13_21, c13_22, c13_23, c13_24, c13_25, c13_26, faresOk]
  refine ifD (fun h1 => ?_) (fun h1 => ?_)
  rotate_left
  · have e : fareRes f l = (0, [], 20) := by
      have : validRes f l.length = 20 := by rw [validRes, if_pos h1]
      rw [fareRes, if_pos (by simp [this]), this]
    simp -implicitDefEqProofs (disch := omega) only [go_sem, Nat.reduceAdd, Nat.reduceMul, Nat.reduceSub, Nat.reduceBEq, Nat.reduceLeDiff, Nat.reduceLT, fn_transitref35_Price, e13_1, w13_1, e13_3, w13_3, c13_4, e13_6, w13_6, e13_8, w13_8, c13_9, e13_11, w13_11, e13_13, w13_13, e13_15, w13_15, c13_16, e13_18, w13_18, e13_20, w13_20, c13_21, c13_22, c13_23, c13_24, c13_25, c13_26, e, fareV, Fares.row]
    exact ⟨.nil, rfl⟩
  simp -implicitDefEqProofs (disch := omega) only [go_sem, Nat.reduceAdd, Nat.reduceMul, Nat.reduceSub, Nat.reduceBEq, Nat.reduceLeDiff, Nat.reduceLT, fn_transitref35_Price, e13_1, w13_1, e13_3, w13_3, c13_4, e13_6, w13_6, e13_8, w13_8, c13_9, e13_11, w13_11, e13_13, w13_13, e13_15, w13_15, c13_16, e13_18, w13_18, e13_20, w13_20, c13_21, c13_22, c13_23, c13_24, c13_25, c13_26]
  refine ifD (fun h2 => ?_) (fun h2 => ?_)
  · have e : fareRes f l = (0, [], 33) := by
      have : validRes f l.length = 33 := by rw [validRes, if_neg (by simp [h1]), if_pos (by omega)]
      rw [fareRes, if_pos (by simp [this]), this]
    simp -implicitDefEqProofs (disch := omega) only [go_sem, Nat.reduceAdd, Nat.reduceMul, Nat.reduceSub, Nat.reduceBEq, Nat.reduceLeDiff, Nat.reduceLT, fn_transitref35_Price, e13_1, w13_1, e13_3, w13_3, c13_4, e13_6, w13_6, e13_8, w13_8, c13_9, e13_11, w13_11, e13_13, w13_13, e13_15, w13_15, c13_16, e13_18, w13_18, e13_20, w13_20, c13_21, c13_22, c13_23, c13_24, c13_25, c13_26, e, fareV, Fares.row]
    exact ⟨.nil, rfl⟩
  have hok := checkRes_ok h1
  have hv : validRes f l.length = 0 := validRes_zero.2 ⟨h1, by omega⟩
  obtain ⟨o, co, hco⟩ := rest_slice (best f l 0)
  simp -implicitDefEqProofs (disch := omega) only [go_sem, Nat.reduceAdd, Nat.reduceMul, Nat.reduceSub, Nat.reduceBEq, Nat.reduceLeDiff, Nat.reduceLT, fn_transitref35_Price, e13_1, w13_1, e13_3, w13_3, c13_4, e13_6, w13_6, e13_8, w13_8, c13_9, e13_11, w13_11, e13_13, w13_13, e13_15, w13_15, c13_16, e13_18, w13_18, e13_20, w13_20, c13_21, c13_22, c13_23, c13_24, c13_25, c13_26, Fares.row]
  first | refine callD (transitref35_Best_ok f l c hf hok hl (by omega)) ?_ | refine callQD (transitref35_Best_ok f l c hf hok hl (by omega)) ?_
  simp -implicitDefEqProofs (disch := omega) only [go_sem, Nat.reduceAdd, Nat.reduceMul, Nat.reduceSub, Nat.reduceBEq, Nat.reduceLeDiff, Nat.reduceLT, fn_transitref35_Price, e13_1, w13_1, e13_3, w13_3, c13_4, e13_6, w13_6, e13_8, w13_8, c13_9, e13_11, w13_11, e13_13, w13_13, e13_15, w13_15, c13_16, e13_18, w13_18, e13_20, w13_20, c13_21, c13_22, c13_23, c13_24, c13_25, c13_26, hco, Fares.row]
  refine ifB (fun h3 => ?_) (fun h3 => ?_)
  rotate_left
  · have e : fareRes f l = (0, [], 34) := by
      rw [fareRes_valid hv]
      cases hb : best f l 0 with
      | none => rfl
      | some d => simp [rOk, hb] at h3
    simp -implicitDefEqProofs (disch := omega) only [go_sem, Nat.reduceAdd, Nat.reduceMul, Nat.reduceSub, Nat.reduceBEq, Nat.reduceLeDiff, Nat.reduceLT, fn_transitref35_Price, e13_1, w13_1, e13_3, w13_3, c13_4, e13_6, w13_6, e13_8, w13_8, c13_9, e13_11, w13_11, e13_13, w13_13, e13_15, w13_15, c13_16, e13_18, w13_18, e13_20, w13_20, c13_21, c13_22, c13_23, c13_24, c13_25, c13_26, e, fareV, Fares.row]
    exact ⟨.nil, rfl⟩
  obtain ⟨d, hd⟩ : ∃ d, best f l 0 = some d := Option.isSome_iff_exists.1 h3
  have e : fareRes f l = (capped f (total d), d, 0) := by rw [fareRes_valid hv, hd]
  obtain ⟨cd, hcd⟩ := rest_app d
  have hD := best_div (by omega) hd
  have m1 := div_mild hok _ _ hD
  rw [hd, hcd] at hco
  rw [← hco]
  simp -implicitDefEqProofs (disch := omega) only [go_sem, Nat.reduceAdd, Nat.reduceMul, Nat.reduceSub, Nat.reduceBEq, Nat.reduceLeDiff, Nat.reduceLT, fn_transitref35_Price, e13_1, w13_1, e13_3, w13_3, c13_4, e13_6, w13_6, e13_8, w13_8, c13_9, e13_11, w13_11, e13_13, w13_13, e13_15, w13_15, c13_16, e13_18, w13_18, e13_20, w13_20, c13_21, c13_22, c13_23, c13_24, c13_25, c13_26, Fares.row]
  first | refine callD (transitref35_Sum_ok d cd (div_small hok _ _ hD) (by omega)) ?_ | refine callQD (transitref35_Sum_ok d cd (div_small hok _ _ hD) (by omega)) ?_
  first | refine callD (transitref35_Capped_ok f _ hok.limit.1) ?_ | refine callQD (transitref35_Capped_ok f _ hok.limit.1) ?_
  simp -implicitDefEqProofs (disch := omega) only [go_sem, Nat.reduceAdd, Nat.reduceMul, Nat.reduceSub, Nat.reduceBEq, Nat.reduceLeDiff, Nat.reduceLT, fn_transitref35_Price, e13_1, w13_1, e13_3, w13_3, c13_4, e13_6, w13_6, e13_8, w13_8, c13_9, e13_11, w13_11, e13_13, w13_13, e13_15, w13_15, c13_16, e13_18, w13_18, e13_20, w13_20, c13_21, c13_22, c13_23, c13_24, c13_25, c13_26, e, fareV, Fares.row]
  exact ⟨cd, rfl⟩

end Go.Vm.C

