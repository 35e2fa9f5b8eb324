/- Contracts: which division is better. -/
import Derived.Test.YtmpjekmfphppbaaT13

namespace Go.Vm.C
open Go.Vm
set_option maxHeartbeats 1000000
set_option maxRecDepth 10000
set_option linter.unusedSimpArgs false
set_option linter.unusedVariables false

/-! ### The reference's best division -/
def restCell (o : Option (List Ticket)) : V := match o with | some (t :: d) => .slice ((t :: d).map Ticket.row) .unk | _ => .slice [] .nil
def restRows (n : Nat) (T : Nat → Option (List Ticket)) : List (List V) := (List.range (n + 1)).map fun i => [restCell (T i)]
def paidRows (n : Nat) (T : Nat → Option (List Ticket)) : List (List V) := (List.range (n + 1)).map fun i => [V.bool (rOk (T i))]
theorem rr_len (n : Nat) (T : Nat → Option (List Ticket)) : (restRows n T).length = n + 1 := by simp [restRows]
theorem pp_len (n : Nat) (T : Nat → Option (List Ticket)) : (paidRows n T).length = n + 1 := by simp [paidRows]
theorem rr_get {n i : Nat} (T : Nat → Option (List Ticket)) (h : i ≤ n) : (restRows n T)[i]? = some [restCell (T i)] := by
  rw [restRows, List.getElem?_map, List.getElem?_range (by omega)]; rfl
theorem pp_get {n i : Nat} (T : Nat → Option (List Ticket)) (h : i ≤ n) : (paidRows n T)[i]? = some [V.bool (rOk (T i))] := by
  rw [paidRows, List.getElem?_map, List.getElem?_range (by omega)]; rfl
theorem set_range {α : Type} (g g' : Nat → α) (m i : Nat) (h : ∀ j, j ≠ i → g j = g' j) : ((List.range m).map g).set i (g' i) = (List.range m).map g' := by
  apply List.ext_getElem?
  intro j
  rw [List.getElem?_set]
  simp only [List.length_map, List.length_range, List.getElem?_map]
  by_cases e : i = j
  · subst e
    by_cases hj : i < m
    · simp [hj]
    · simp [hj, List.getElem?_eq_none]
  · rw [if_neg e]
    by_cases hj : j < m
    · simp [hj, h j (fun x => e x.symm)]
    · simp [hj, List.getElem?_eq_none]
theorem rr_set (n i : Nat) (T : Nat → Option (List Ticket)) (o : Option (List Ticket)) : (restRows n T).set i [restCell o] = restRows n (upd T i o) := by
  have := set_range (fun i => [restCell (T i)]) (fun j => [restCell (upd T i o j)]) (n + 1) i (fun j hj => by simp only [upd_ne _ _ hj])
  simp only [upd_same] at this
  exact this
theorem pp_set (n i : Nat) (T : Nat → Option (List Ticket)) (o : Option (List Ticket)) : (paidRows n T).set i [V.bool (rOk o)] = paidRows n (upd T i o) := by
  have := set_range (fun i => [V.bool (rOk (T i))]) (fun j => [V.bool (rOk (upd T i o j))]) (n + 1) i (fun j hj => by simp only [upd_ne _ _ hj])
  simp only [upd_same] at this
  exact this
theorem rr_zero (n : Nat) : List.replicate (n + 1) [V.slice [] .nil] = restRows n (upd (fun _ => none) n (some [])) := by
  have : ∀ i, restCell (upd (fun _ => none) n (some []) i) = .slice [] .nil := by intro i; unfold upd; split <;> rfl
  simp only [restRows, this]
  rw [List.map_const', List.length_range]
theorem pp_zero (n : Nat) : List.replicate (n + 1) [V.bool false] = paidRows n (fun _ => none) := by
  simp only [paidRows, rOk]
  rw [List.map_const', List.length_range]
  rfl

theorem accP_from' {f : Fares} {l : List Ride} {i k : Nat} {R : Nat → Option (List Ticket)} {a : Option (List Ticket)} {d : List Ticket} : ∀ p, accP f l i k R a p = some d → a = some d ∨ ∃ q, q < p ∧ cand f l i k q R = some d
  | 0, h => .inl h
  | p + 1, h => by
    rcases stepP_some h with h1 | h1
    · rcases accP_from' p h1 with h2 | ⟨q, h2, h3⟩
      · exact .inl h2
      · exact .inr ⟨q, by omega, h3⟩
    · exact .inr ⟨p, by omega, h1⟩
theorem cand_head {f : Fares} {l : List Ride} {i k p : Nat} {R : Nat → Option (List Ticket)} {d : List Ticket} (h : cand f l i k p R = some d) : ∃ (t : Ticket) (d' : List Ticket), d = t :: d' ∧ t.last = k ∧ t.product = p := by
  unfold cand at h
  split at h
  · simp at h
  · split at h
    · rw [Option.map_eq_some_iff] at h
      obtain ⟨d', _, rfl⟩ := h
      exact ⟨_, d', rfl, rfl, rfl⟩
    · simp at h
/-- The best so far begins with an earlier last ride, or with the same and an earlier product. -/
theorem acc_head {f : Fares} {l : List Ride} {i m p : Nat} {R : Nat → Option (List Ticket)} {d : List Ticket} (h : accP f l i (i + m) R (accK f l i R m) p = some d) :
    ∃ (t : Ticket) (d' : List Ticket), d = t :: d' ∧ t.last ≤ ((i + m : Nat) : Int) ∧ (t.last = ((i + m : Nat) : Int) → t.product < p) := by
  rcases accP_from' p h with h1 | ⟨q, h1, h2⟩
  · obtain ⟨k, q, h3, h4, h5⟩ := accK_from m h1
    obtain ⟨t, d', rfl, e1, e2⟩ := cand_head h5
    exact ⟨t, d', rfl, by omega, fun e => by omega⟩
  · obtain ⟨t, d', rfl, e1, e2⟩ := cand_head h2
    exact ⟨t, d', rfl, by omega, fun _ => by omega⟩
theorem accP_none {f : Fares} {l : List Ride} {i k : Nat} {R : Nat → Option (List Ticket)} {a : Option (List Ticket)} (h : R (k + 1) = none) : ∀ p, accP f l i k R a p = a
  | 0 => rfl
  | p + 1 => by rw [accP, cand_none h, stepP_none, accP_none h p]

theorem transitref35_better_ok (t s : Ticket) (a b : List Ticket) (c d : Cap) (ha : Small (t :: a)) (hb : Small (s :: b)) (la : (t :: a).length ≤ 1000) (lb : (s :: b).length ≤ 1000) (h1 : s.last ≤ t.last) (h2 : s.last = t.last → s.product < t.product) :
    PCalls PR i_transitref35_better [.slice ((t :: a).map Ticket.row) c, .slice ((s :: b).map Ticket.row) d] (fun v => v = .bool (betterB (some (s :: b)) (total (t :: a)) ((t :: a).length : Nat))) := by
  refine acalls_pop fn_transitref35_better_ok (by simp [fn_transitref35_better]) ?_
  generalize ea : t :: a = A at *
  generalize eb : s :: b = B at *
  have hA : A[0]? = some t := by rw [← ea]; rfl
  have hB : B[0]? = some s := by rw [← eb]; rfl
  simp -implicitDefEqProofs (disch := omega) only [go_sem, Nat.reduceAdd, Nat.reduceMul, Nat.reduceSub, Nat.reduceBEq, Nat.reduceLeDiff, Nat.reduceLT, fn_transitref35_better, e37_1, w37_1, e37_3, w37_3, c37_4, e37_6, w37_6, e37_8, w37_8, c37_9, e37_11, w37_11, e37_13, w37_13, e37_15, w37_15, e37_17, w37_17, c37_18, e37_20, w37_20, e37_22, w37_22, c37_23, e37_25, w37_25, c37_26, c37_27, e37_29, w37_29, c37_30, c37_31, c37_32, c37_33, c37_34, e37_36, w37_36, c37_37, c37_38, c37_39, c37_40, c37_41]
  first | refine callD (transitref35_Sum_ok A c ha la) ?_ | refine callQD (transitref35_Sum_ok A c ha la) ?_
  simp -implicitDefEqProofs (disch := omega) only [go_sem, Nat.reduceAdd, Nat.reduceMul, Nat.reduceSub, Nat.reduceBEq, Nat.reduceLeDiff, Nat.reduceLT, fn_transitref35_better, e37_1, w37_1, e37_3, w37_3, c37_4, e37_6, w37_6, e37_8, w37_8, c37_9, e37_11, w37_11, e37_13, w37_13, e37_15, w37_15, e37_17, w37_17, c37_18, e37_20, w37_20, e37_22, w37_22, c37_23, e37_25, w37_25, c37_26, c37_27, e37_29, w37_29, c37_30, c37_31, c37_32, c37_33, c37_34, e37_36, w37_36, c37_37, c37_38, c37_39, c37_40, c37_41]
  first | refine callD (transitref35_Sum_ok B d hb lb) ?_ | refine callQD (transitref35_Sum_ok B d hb lb) ?_
  simp -implicitDefEqProofs (disch := omega) only [go_sem, Nat.reduceAdd, Nat.reduceMul, Nat.reduceSub, Nat.reduceBEq, Nat.reduceLeDiff, Nat.reduceLT, fn_transitref35_better, e37_1, w37_1, e37_3, w37_3, c37_4, e37_6, w37_6, e37_8, w37_8, c37_9, e37_11, w37_11, e37_13, w37_13, e37_15, w37_15, e37_17, w37_17, c37_18, e37_20, w37_20, e37_22, w37_22, c37_23, e37_25, w37_25, c37_26, c37_27, e37_29, w37_29, c37_30, c37_31, c37_32, c37_33, c37_34, e37_36, w37_36, c37_37, c37_38, c37_39, c37_40, c37_41]
  refine ifD (fun h3 => ?_) (fun h3 => ?_)
  rotate_left
  · simp -implicitDefEqProofs (disch := omega) only [go_sem, Nat.reduceAdd, Nat.reduceMul, Nat.reduceSub, Nat.reduceBEq, Nat.reduceLeDiff, Nat.reduceLT, fn_transitref35_better, e37_1, w37_1, e37_3, w37_3, c37_4, e37_6, w37_6, e37_8, w37_8, c37_9, e37_11, w37_11, e37_13, w37_13, e37_15, w37_15, e37_17, w37_17, c37_18, e37_20, w37_20, e37_22, w37_22, c37_23, e37_25, w37_25, c37_26, c37_27, e37_29, w37_29, c37_30, c37_31, c37_32, c37_33, c37_34, e37_36, w37_36, c37_37, c37_38, c37_39, c37_40, c37_41]
    first | refine callD (transitref35_Sum_ok A c ha la) ?_ | refine callQD (transitref35_Sum_ok A c ha la) ?_
    simp -implicitDefEqProofs (disch := omega) only [go_sem, Nat.reduceAdd, Nat.reduceMul, Nat.reduceSub, Nat.reduceBEq, Nat.reduceLeDiff, Nat.reduceLT, fn_transitref35_better, e37_1, w37_1, e37_3, w37_3, c37_4, e37_6, w37_6, e37_8, w37_8, c37_9, e37_11, w37_11, e37_13, w37_13, e37_15, w37_15, e37_17, w37_17, c37_18, e37_20, w37_20, e37_22, w37_22, c37_23, e37_25, w37_25, c37_26, c37_27, e37_29, w37_29, c37_30, c37_31, c37_32, c37_33, c37_34, e37_36, w37_36, c37_37, c37_38, c37_39, c37_40, c37_41]
    first | refine callD (transitref35_Sum_ok B d hb lb) ?_ | refine callQD (transitref35_Sum_ok B d hb lb) ?_
    simp -implicitDefEqProofs (disch := omega) only [go_sem, Nat.reduceAdd, Nat.reduceMul, Nat.reduceSub, Nat.reduceBEq, Nat.reduceLeDiff, Nat.reduceLT, fn_transitref35_better, e37_1, w37_1, e37_3, w37_3, c37_4, e37_6, w37_6, e37_8, w37_8, c37_9, e37_11, w37_11, e37_13, w37_13, e37_15, w37_15, e37_17, w37_17, c37_18, e37_20, w37_20, e37_22, w37_22, c37_23, e37_25, w37_25, c37_26, c37_27, e37_29, w37_29, c37_30, c37_31, c37_32, c37_33, c37_34, e37_36, w37_36, c37_37, c37_38, c37_39, c37_40, c37_41]
    rw [betterB_some]
    simp [h3]
  simp -implicitDefEqProofs (disch := omega) only [go_sem, Nat.reduceAdd, Nat.reduceMul, Nat.reduceSub, Nat.reduceBEq, Nat.reduceLeDiff, Nat.reduceLT, fn_transitref35_better, e37_1, w37_1, e37_3, w37_3, c37_4, e37_6, w37_6, e37_8, w37_8, c37_9, e37_11, w37_11, e37_13, w37_13, e37_15, w37_15, e37_17, w37_17, c37_18, e37_20, w37_20, e37_22, w37_22, c37_23, e37_25, w37_25, c37_26, c37_27, e37_29, w37_29, c37_30, c37_31, c37_32, c37_33, c37_34, e37_36, w37_36, c37_37, c37_38, c37_39, c37_40, c37_41]
  refine ifD (fun h4 => ?_) (fun h4 => ?_)
  rotate_left
  · simp -implicitDefEqProofs (disch := omega) only [go_sem, Nat.reduceAdd, Nat.reduceMul, Nat.reduceSub, Nat.reduceBEq, Nat.reduceLeDiff, Nat.reduceLT, fn_transitref35_better, e37_1, w37_1, e37_3, w37_3, c37_4, e37_6, w37_6, e37_8, w37_8, c37_9, e37_11, w37_11, e37_13, w37_13, e37_15, w37_15, e37_17, w37_17, c37_18, e37_20, w37_20, e37_22, w37_22, c37_23, e37_25, w37_25, c37_26, c37_27, e37_29, w37_29, c37_30, c37_31, c37_32, c37_33, c37_34, e37_36, w37_36, c37_37, c37_38, c37_39, c37_40, c37_41]
    rw [betterB_some]
    simp [h3]
  have hres : betterB (some B) (total A) (A.length : Nat) = false := by
    rw [betterB_some]; simp [h3, h4]
  simp -implicitDefEqProofs (disch := omega) only [go_sem, Nat.reduceAdd, Nat.reduceMul, Nat.reduceSub, Nat.reduceBEq, Nat.reduceLeDiff, Nat.reduceLT, fn_transitref35_better, e37_1, w37_1, e37_3, w37_3, c37_4, e37_6, w37_6, e37_8, w37_8, c37_9, e37_11, w37_11, e37_13, w37_13, e37_15, w37_15, e37_17, w37_17, c37_18, e37_20, w37_20, e37_22, w37_22, c37_23, e37_25, w37_25, c37_26, c37_27, e37_29, w37_29, c37_30, c37_31, c37_32, c37_33, c37_34, e37_36, w37_36, c37_37, c37_38, c37_39, c37_40, c37_41]
  refine wpC_for A.length (fun i vs M => i = 0 ∧ vs = [.slice (A.map Ticket.row) c, .slice (B.map Ticket.row) d, .int .i64 0] ∧ M = []) ⟨rfl, rfl, rfl⟩ ?_ ?_
  · rintro i vs M hi hid ⟨rfl, rfl, rfl⟩
    simp -implicitDefEqProofs (disch := omega) only [go_sem, Nat.reduceAdd, Nat.reduceMul, Nat.reduceSub, Nat.reduceBEq, Nat.reduceLeDiff, Nat.reduceLT, fn_transitref35_better, e37_1, w37_1, e37_3, w37_3, c37_4, e37_6, w37_6, e37_8, w37_8, c37_9, e37_11, w37_11, e37_13, w37_13, e37_15, w37_15, e37_17, w37_17, c37_18, e37_20, w37_20, e37_22, w37_22, c37_23, e37_25, w37_25, c37_26, c37_27, e37_29, w37_29, c37_30, c37_31, c37_32, c37_33, c37_34, e37_36, w37_36, c37_37, c37_38, c37_39, c37_40, c37_41]
    refine ifD (fun h5 => ?_) (fun h5 => ?_)
    rotate_left
    · omega
    simp -implicitDefEqProofs (disch := omega) only [go_sem, Nat.reduceAdd, Nat.reduceMul, Nat.reduceSub, Nat.reduceBEq, Nat.reduceLeDiff, Nat.reduceLT, fn_transitref35_better, e37_1, w37_1, e37_3, w37_3, c37_4, e37_6, w37_6, e37_8, w37_8, c37_9, e37_11, w37_11, e37_13, w37_13, e37_15, w37_15, e37_17, w37_17, c37_18, e37_20, w37_20, e37_22, w37_22, c37_23, e37_25, w37_25, c37_26, c37_27, e37_29, w37_29, c37_30, c37_31, c37_32, c37_33, c37_34, e37_36, w37_36, c37_37, c37_38, c37_39, c37_40, c37_41, hA, hB, Ticket.row]
    refine ifD (fun h6 => ?_) (fun h6 => ?_)
    rotate_left
    · simp -implicitDefEqProofs (disch := omega) only [go_sem, Nat.reduceAdd, Nat.reduceMul, Nat.reduceSub, Nat.reduceBEq, Nat.reduceLeDiff, Nat.reduceLT, fn_transitref35_better, e37_1, w37_1, e37_3, w37_3, c37_4, e37_6, w37_6, e37_8, w37_8, c37_9, e37_11, w37_11, e37_13, w37_13, e37_15, w37_15, e37_17, w37_17, c37_18, e37_20, w37_20, e37_22, w37_22, c37_23, e37_25, w37_25, c37_26, c37_27, e37_29, w37_29, c37_30, c37_31, c37_32, c37_33, c37_34, e37_36, w37_36, c37_37, c37_38, c37_39, c37_40, c37_41, hA, hB, Ticket.row, hres]
      simp; omega
    simp -implicitDefEqProofs (disch := omega) only [go_sem, Nat.reduceAdd, Nat.reduceMul, Nat.reduceSub, Nat.reduceBEq, Nat.reduceLeDiff, Nat.reduceLT, fn_transitref35_better, e37_1, w37_1, e37_3, w37_3, c37_4, e37_6, w37_6, e37_8, w37_8, c37_9, e37_11, w37_11, e37_13, w37_13, e37_15, w37_15, e37_17, w37_17, c37_18, e37_20, w37_20, e37_22, w37_22, c37_23, e37_25, w37_25, c37_26, c37_27, e37_29, w37_29, c37_30, c37_31, c37_32, c37_33, c37_34, e37_36, w37_36, c37_37, c37_38, c37_39, c37_40, c37_41, hA, hB, Ticket.row]
    have := h2 h6.symm
    refine ifD (fun h7 => ?_) (fun h7 => ?_)
    · omega
    · simp -implicitDefEqProofs (disch := omega) only [go_sem, Nat.reduceAdd, Nat.reduceMul, Nat.reduceSub, Nat.reduceBEq, Nat.reduceLeDiff, Nat.reduceLT, fn_transitref35_better, e37_1, w37_1, e37_3, w37_3, c37_4, e37_6, w37_6, e37_8, w37_8, c37_9, e37_11, w37_11, e37_13, w37_13, e37_15, w37_15, e37_17, w37_17, c37_18, e37_20, w37_20, e37_22, w37_22, c37_23, e37_25, w37_25, c37_26, c37_27, e37_29, w37_29, c37_30, c37_31, c37_32, c37_33, c37_34, e37_36, w37_36, c37_37, c37_38, c37_39, c37_40, c37_41, hA, hB, Ticket.row, hres]
      simp; omega
  · rintro vs M ⟨h0, rfl, rfl⟩
    have : A.length = a.length + 1 := by rw [← ea]; rfl
    omega

end Go.Vm.C

