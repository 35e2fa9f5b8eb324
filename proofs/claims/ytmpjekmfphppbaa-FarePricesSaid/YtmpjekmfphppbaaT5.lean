/- Contracts: totals, the check of a ticket. -/
import Derived.Test.YtmpjekmfphppbaaT4

namespace Go.Vm.C
open Go.Vm
set_option maxHeartbeats 1000000
set_option maxRecDepth 10000
set_option linter.unusedSimpArgs false
set_option linter.unusedVariables false

/-! ### Totals -/
theorem total_snoc {l : List Ticket} {i : Nat} {t : Ticket} (h : l[i]? = some t) : total (l.take (i + 1)) = total (l.take i) + t.price := by
  rw [total, total, List.take_add_one, h, List.map_append, List.sum_append]; simp
/-- All prices are small. -/
def Small (l : List Ticket) : Prop := ∀ t ∈ l, 0 ≤ t.price ∧ t.price ≤ 1000000
theorem total_le {l : List Ticket} (h : Small l) : 0 ≤ total l ∧ total l ≤ 1000000 * l.length := by
  induction l with
  | nil => simp [total]
  | cons t l ih =>
    have h1 := ih fun t' h' => h t' (by simp [h'])
    have h2 := h t (by simp)
    have e : total (t :: l) = t.price + total l := by simp [total]
    rw [e, List.length_cons]
    omega
theorem Small.take {l : List Ticket} (h : Small l) (i : Nat) : Small (l.take i) := fun t ht => h t (List.mem_of_mem_take ht)

theorem transitref35_Sum_ok (l : List Ticket) (c : Cap) (h : Small l) (hlen : l.length ≤ 1000) : PCalls PR i_transitref35_Sum [.slice (l.map Ticket.row) c] (fun v => v = .int .i64 (total l)) := by
  refine acalls_pop fn_transitref35_Sum_ok (by simp [fn_transitref35_Sum]) ?_
  simp -implicitDefEqProofs (disch := omega) only [go_sem, Nat.reduceAdd, Nat.reduceMul, Nat.reduceSub, Nat.reduceBEq, Nat.reduceLeDiff, Nat.reduceLT, fn_transitref35_Sum, e25_1, w25_1, e25_3, w25_3, e25_5, w25_5, e25_7, w25_7, e25_9, w25_9, c25_10, e25_12, w25_12, c25_13, c25_14, c25_15, c25_16, c25_17, e25_19, w25_19, c25_20, c25_21, c25_22, c25_23]
  refine wpC_forL l (fun i vs M => vs = [.slice (l.map Ticket.row) c, .int .i64 (total (l.take i)), .int .i64 i] ∧ M = []) ⟨rfl, rfl⟩ ?_ ?_
  · rintro i t vs M ht hi hd ⟨rfl, rfl⟩
    have h1 := total_le (h.take i)
    have h2 := h t (List.mem_of_getElem? ht)
    have h3 : (l.take i).length ≤ 1000 := by simp; omega
    simp -implicitDefEqProofs (disch := omega) only [go_sem, Nat.reduceAdd, Nat.reduceMul, Nat.reduceSub, Nat.reduceBEq, Nat.reduceLeDiff, Nat.reduceLT, fn_transitref35_Sum, e25_1, w25_1, e25_3, w25_3, e25_5, w25_5, e25_7, w25_7, e25_9, w25_9, c25_10, e25_12, w25_12, c25_13, c25_14, c25_15, c25_16, c25_17, e25_19, w25_19, c25_20, c25_21, c25_22, c25_23, hd, ht, Ticket.row]
    refine next_stay hi ⟨?_, rfl⟩
    rw [total_snoc ht]
    rfl
  · rintro vs M ⟨rfl, rfl⟩
    simp -implicitDefEqProofs (disch := omega) only [go_sem, Nat.reduceAdd, Nat.reduceMul, Nat.reduceSub, Nat.reduceBEq, Nat.reduceLeDiff, Nat.reduceLT, fn_transitref35_Sum, e25_1, w25_1, e25_3, w25_3, e25_5, w25_5, e25_7, w25_7, e25_9, w25_9, c25_10, e25_12, w25_12, c25_13, c25_14, c25_15, c25_16, c25_17, e25_19, w25_19, c25_20, c25_21, c25_22, c25_23, dec_irrefl, List.take_length]

/-- The fare of the prices. -/
def totalRes (f : Fares) (l : List Ticket) : Int × Bool :=
  if (checkRes f).2 ≠ 0 ∨ 8 < l.length ∨ l.all (fun t => within t.price 0 1000000) = false then (0, false) else (capped f (total l), true)

theorem all_take {l : List Ticket} {i : Nat} {t : Ticket} (h : l[i]? = some t) (p : Ticket → Bool) : (l.take (i + 1)).all p = ((l.take i).all p && p t) := by
  rw [List.take_add_one, h]
  simp [List.all_append]
theorem small_of_all {l : List Ticket} (h : l.all (fun t => within t.price 0 1000000) = true) : Small l := fun t ht => within_iff.1 (List.all_eq_true.1 h t ht)
theorem all_no {l : List Ticket} {i : Nat} {t : Ticket} (h : l[i]? = some t) {p : Ticket → Bool} (hp : p t = false) : l.all p = false := by
  rw [List.all_eq_false]; exact ⟨t, List.mem_of_getElem? h, by simp [hp]⟩

theorem validRes_zero {f : Fares} {n : Nat} : validRes f n = 0 ↔ (checkRes f).2 = 0 ∧ n ≤ 8 := by
  unfold validRes
  split
  · rename_i h; constructor
    · intro e; simp at e
    · intro e; exact absurd e.1 h
  · rename_i h
    split
    · constructor
      · intro e; simp at e
      · intro e; omega
    · simp only [ne_eq, Decidable.not_not] at h
      exact ⟨fun _ => ⟨h, by omega⟩, fun _ => rfl⟩

theorem totalRes_no {f : Fares} {l : List Ticket} (h : (checkRes f).2 ≠ 0 ∨ 8 < l.length ∨ l.all (fun t => within t.price 0 1000000) = false) : totalRes f l = (0, false) := by rw [totalRes, if_pos h]
theorem totalRes_yes {f : Fares} {l : List Ticket} (h1 : (checkRes f).2 = 0) (h2 : ¬ 8 < l.length) (h3 : l.all (fun t => within t.price 0 1000000) = true) : totalRes f l = (capped f (total l), true) := by
  rw [totalRes, if_neg (by rw [not_or, not_or]; exact ⟨by simp [h1], h2, by simp only [h3]; simp⟩)]

theorem fare_Total_ok (f : Fares) (l : List Ticket) (c : Cap) (hf : f.wf) : PCalls PR i_fare_Total [.agg f.row, .slice (l.map Ticket.row) c] (fun v => v = prV (totalRes f l)) := by
  refine acalls_pop fn_fare_Total_ok (by simp [fn_fare_Total]) ?_
  simp -implicitDefEqProofs (disch := omega) only [go_sem, Nat.reduceAdd, Nat.reduceMul, Nat.reduceSub, Nat.reduceBEq, Nat.reduceLeDiff, Nat.reduceLT, fn_fare_Total, e15_1, w15_1, e15_3, w15_3, c15_4, e15_6, w15_6, e15_8, w15_8, e15_10, w15_10, e15_12, w15_12, c15_13, e15_15, w15_15, e15_17, w15_17, c15_18, e15_20, w15_20, e15_22, w15_22, c15_23, c15_24, c15_25, e15_27, w15_27, c15_28, c15_29, c15_30, c15_31, c15_32, c15_33, e15_35, w15_35, c15_36, c15_37, c15_38, c15_39, c15_40, Fares.row]
  first | refine callD (fare_valid_nil f hf) ?_ | refine callQD (fare_valid_nil f hf) ?_
  simp -implicitDefEqProofs (disch := omega) only [go_sem, Nat.reduceAdd, Nat.reduceMul, Nat.reduceSub, Nat.reduceBEq, Nat.reduceLeDiff, Nat.reduceLT, fn_fare_Total, e15_1, w15_1, e15_3, w15_3, c15_4, e15_6, w15_6, e15_8, w15_8, e15_10, w15_10, e15_12, w15_12, c15_13, e15_15, w15_15, e15_17, w15_17, c15_18, e15_20, w15_20, e15_22, w15_22, c15_23, c15_24, c15_25, e15_27, w15_27, c15_28, c15_29, c15_30, c15_31, c15_32, c15_33, e15_35, w15_35, c15_36, c15_37, c15_38, c15_39, c15_40]
  refine ifD (fun h1 => ?_) (fun h1 => ?_)
  rotate_left
  · simp -implicitDefEqProofs (disch := omega) only [go_sem, Nat.reduceAdd, Nat.reduceMul, Nat.reduceSub, Nat.reduceBEq, Nat.reduceLeDiff, Nat.reduceLT, fn_fare_Total, e15_1, w15_1, e15_3, w15_3, c15_4, e15_6, w15_6, e15_8, w15_8, e15_10, w15_10, e15_12, w15_12, c15_13, e15_15, w15_15, e15_17, w15_17, c15_18, e15_20, w15_20, e15_22, w15_22, c15_23, c15_24, c15_25, e15_27, w15_27, c15_28, c15_29, c15_30, c15_31, c15_32, c15_33, e15_35, w15_35, c15_36, c15_37, c15_38, c15_39, c15_40, totalRes_no (.inl (fun e => h1 (validRes_zero.2 ⟨e, by omega⟩))), prV, Fares.row]
  have hc := (validRes_zero.1 h1).1
  simp -implicitDefEqProofs (disch := omega) only [go_sem, Nat.reduceAdd, Nat.reduceMul, Nat.reduceSub, Nat.reduceBEq, Nat.reduceLeDiff, Nat.reduceLT, fn_fare_Total, e15_1, w15_1, e15_3, w15_3, c15_4, e15_6, w15_6, e15_8, w15_8, e15_10, w15_10, e15_12, w15_12, c15_13, e15_15, w15_15, e15_17, w15_17, c15_18, e15_20, w15_20, e15_22, w15_22, c15_23, c15_24, c15_25, e15_27, w15_27, c15_28, c15_29, c15_30, c15_31, c15_32, c15_33, e15_35, w15_35, c15_36, c15_37, c15_38, c15_39, c15_40]
  refine ifD (fun h2 => ?_) (fun h2 => ?_)
  · have hno := totalRes_no (f := f) (l := l) (.inr (.inl (by omega)))
    simp -implicitDefEqProofs (disch := omega) only [go_sem, Nat.reduceAdd, Nat.reduceMul, Nat.reduceSub, Nat.reduceBEq, Nat.reduceLeDiff, Nat.reduceLT, fn_fare_Total, e15_1, w15_1, e15_3, w15_3, c15_4, e15_6, w15_6, e15_8, w15_8, e15_10, w15_10, e15_12, w15_12, c15_13, e15_15, w15_15, e15_17, w15_17, c15_18, e15_20, w15_20, e15_22, w15_22, c15_23, c15_24, c15_25, e15_27, w15_27, c15_28, c15_29, c15_30, c15_31, c15_32, c15_33, e15_35, w15_35, c15_36, c15_37, c15_38, c15_39, c15_40, hno, prV, Fares.row]
  simp -implicitDefEqProofs (disch := omega) only [go_sem, Nat.reduceAdd, Nat.reduceMul, Nat.reduceSub, Nat.reduceBEq, Nat.reduceLeDiff, Nat.reduceLT, fn_fare_Total, e15_1, w15_1, e15_3, w15_3, c15_4, e15_6, w15_6, e15_8, w15_8, e15_10, w15_10, e15_12, w15_12, c15_13, e15_15, w15_15, e15_17, w15_17, c15_18, e15_20, w15_20, e15_22, w15_22, c15_23, c15_24, c15_25, e15_27, w15_27, c15_28, c15_29, c15_30, c15_31, c15_32, c15_33, e15_35, w15_35, c15_36, c15_37, c15_38, c15_39, c15_40]
  refine wpC_forL l (fun i vs M => (l.take i).all (fun t => within t.price 0 1000000) = true ∧ vs = [.ptr 0 0, .int .i64 (total (l.take i)), .slice (l.map Ticket.row) c, .int .i64 l.length, .int .i64 i] ∧ M = [.box f.row]) ⟨by simp, rfl, rfl⟩ ?_ ?_
  · rintro i t vs M ht hi hd ⟨hall, rfl, rfl⟩
    have h4 := total_le (small_of_all hall)
    have h3 : (l.take i).length ≤ 8 := by simp; omega
    simp -implicitDefEqProofs (disch := omega) only [go_sem, Nat.reduceAdd, Nat.reduceMul, Nat.reduceSub, Nat.reduceBEq, Nat.reduceLeDiff, Nat.reduceLT, fn_fare_Total, e15_1, w15_1, e15_3, w15_3, c15_4, e15_6, w15_6, e15_8, w15_8, e15_10, w15_10, e15_12, w15_12, c15_13, e15_15, w15_15, e15_17, w15_17, c15_18, e15_20, w15_20, e15_22, w15_22, c15_23, c15_24, c15_25, e15_27, w15_27, c15_28, c15_29, c15_30, c15_31, c15_32, c15_33, e15_35, w15_35, c15_36, c15_37, c15_38, c15_39, c15_40, hd, ht, Ticket.row]
    first | refine callD (fare_validPrice_ok _) ?_ | refine callQD (fare_validPrice_ok _) ?_
    simp -implicitDefEqProofs (disch := omega) only [go_sem, Nat.reduceAdd, Nat.reduceMul, Nat.reduceSub, Nat.reduceBEq, Nat.reduceLeDiff, Nat.reduceLT, fn_fare_Total, e15_1, w15_1, e15_3, w15_3, c15_4, e15_6, w15_6, e15_8, w15_8, e15_10, w15_10, e15_12, w15_12, c15_13, e15_15, w15_15, e15_17, w15_17, c15_18, e15_20, w15_20, e15_22, w15_22, c15_23, c15_24, c15_25, e15_27, w15_27, c15_28, c15_29, c15_30, c15_31, c15_32, c15_33, e15_35, w15_35, c15_36, c15_37, c15_38, c15_39, c15_40, Ticket.row]
    refine ifB (fun h5 => ?_) (fun h5 => ?_)
    rotate_left
    · simp -implicitDefEqProofs (disch := omega) only [go_sem, Nat.reduceAdd, Nat.reduceMul, Nat.reduceSub, Nat.reduceBEq, Nat.reduceLeDiff, Nat.reduceLT, fn_fare_Total, e15_1, w15_1, e15_3, w15_3, c15_4, e15_6, w15_6, e15_8, w15_8, e15_10, w15_10, e15_12, w15_12, c15_13, e15_15, w15_15, e15_17, w15_17, c15_18, e15_20, w15_20, e15_22, w15_22, c15_23, c15_24, c15_25, e15_27, w15_27, c15_28, c15_29, c15_30, c15_31, c15_32, c15_33, e15_35, w15_35, c15_36, c15_37, c15_38, c15_39, c15_40, totalRes_no (.inr (.inr (all_no ht h5))), prV, Fares.row]
    have h6 := within_iff.1 h5
    simp -implicitDefEqProofs (disch := omega) only [go_sem, Nat.reduceAdd, Nat.reduceMul, Nat.reduceSub, Nat.reduceBEq, Nat.reduceLeDiff, Nat.reduceLT, fn_fare_Total, e15_1, w15_1, e15_3, w15_3, c15_4, e15_6, w15_6, e15_8, w15_8, e15_10, w15_10, e15_12, w15_12, c15_13, e15_15, w15_15, e15_17, w15_17, c15_18, e15_20, w15_20, e15_22, w15_22, c15_23, c15_24, c15_25, e15_27, w15_27, c15_28, c15_29, c15_30, c15_31, c15_32, c15_33, e15_35, w15_35, c15_36, c15_37, c15_38, c15_39, c15_40, Ticket.row]
    refine next_pop hi rfl ⟨by rw [all_take ht, hall, h5]; rfl, ?_, rfl⟩
    rw [total_snoc ht]
    rfl
  · rintro vs M ⟨hall, rfl, rfl⟩
    rw [List.take_length] at hall
    simp -implicitDefEqProofs (disch := omega) only [go_sem, Nat.reduceAdd, Nat.reduceMul, Nat.reduceSub, Nat.reduceBEq, Nat.reduceLeDiff, Nat.reduceLT, fn_fare_Total, e15_1, w15_1, e15_3, w15_3, c15_4, e15_6, w15_6, e15_8, w15_8, e15_10, w15_10, e15_12, w15_12, c15_13, e15_15, w15_15, e15_17, w15_17, c15_18, e15_20, w15_20, e15_22, w15_22, c15_23, c15_24, c15_25, e15_27, w15_27, c15_28, c15_29, c15_30, c15_31, c15_32, c15_33, e15_35, w15_35, c15_36, c15_37, c15_38, c15_39, c15_40, dec_irrefl, List.take_length, Fares.row]
    first | refine callD (fare_capped_ok f _) ?_ | refine callQD (fare_capped_ok f _) ?_
    simp -implicitDefEqProofs (disch := omega) only [go_sem, Nat.reduceAdd, Nat.reduceMul, Nat.reduceSub, Nat.reduceBEq, Nat.reduceLeDiff, Nat.reduceLT, fn_fare_Total, e15_1, w15_1, e15_3, w15_3, c15_4, e15_6, w15_6, e15_8, w15_8, e15_10, w15_10, e15_12, w15_12, c15_13, e15_15, w15_15, e15_17, w15_17, c15_18, e15_20, w15_20, e15_22, w15_22, c15_23, c15_24, c15_25, e15_27, w15_27, c15_28, c15_29, c15_30, c15_31, c15_32, c15_33, e15_35, w15_35, c15_36, c15_37, c15_38, c15_39, c15_40, totalRes_yes hc (by omega) hall, prV, Fares.row]

theorem transitref35_Total_ok (f : Fares) (l : List Ticket) (c : Cap) (hf : f.wf) : PCalls PR i_transitref35_Total [.agg f.row, .slice (l.map Ticket.row) c] (fun v => v = prV (totalRes f l)) := by
  refine acalls_pop fn_transitref35_Total_ok (by simp [fn_transitref35_Total]) ?_
  simp -implicitDefEqProofs (disch := omega) only [go_sem, Nat.reduceAdd, Nat.reduceMul, Nat.reduceSub, Nat.reduceBEq, Nat.reduceLeDiff, Nat.reduceLT, fn_transitref35_Total, e16_1, w16_1, e16_3, w16_3, c16_4, e16_6, w16_6, e16_8, w16_8, e16_10, w16_10, e16_12, w16_12, c16_13, e16_15, w16_15, c16_16, e16_18, w16_18, c16_19, c16_20, c16_21, c16_22, c16_23, e16_25, w16_25, c16_26, c16_27, c16_28, c16_29, Fares.row]
  first | refine callD (transitref35_Valid_ok f hf) ?_ | refine callQD (transitref35_Valid_ok f hf) ?_
  simp -implicitDefEqProofs (disch := omega) only [go_sem, Nat.reduceAdd, Nat.reduceMul, Nat.reduceSub, Nat.reduceBEq, Nat.reduceLeDiff, Nat.reduceLT, fn_transitref35_Total, e16_1, w16_1, e16_3, w16_3, c16_4, e16_6, w16_6, e16_8, w16_8, e16_10, w16_10, e16_12, w16_12, c16_13, e16_15, w16_15, c16_16, e16_18, w16_18, c16_19, c16_20, c16_21, c16_22, c16_23, e16_25, w16_25, c16_26, c16_27, c16_28, c16_29, faresOk]
  refine ifD (fun h1 => ?_) (fun h1 => ?_)
  rotate_left
  · simp -implicitDefEqProofs (disch := omega) only [go_sem, Nat.reduceAdd, Nat.reduceMul, Nat.reduceSub, Nat.reduceBEq, Nat.reduceLeDiff, Nat.reduceLT, fn_transitref35_Total, e16_1, w16_1, e16_3, w16_3, c16_4, e16_6, w16_6, e16_8, w16_8, e16_10, w16_10, e16_12, w16_12, c16_13, e16_15, w16_15, c16_16, e16_18, w16_18, c16_19, c16_20, c16_21, c16_22, c16_23, e16_25, w16_25, c16_26, c16_27, c16_28, c16_29, totalRes_no (.inl h1), prV, Fares.row]
  simp -implicitDefEqProofs (disch := omega) only [go_sem, Nat.reduceAdd, Nat.reduceMul, Nat.reduceSub, Nat.reduceBEq, Nat.reduceLeDiff, Nat.reduceLT, fn_transitref35_Total, e16_1, w16_1, e16_3, w16_3, c16_4, e16_6, w16_6, e16_8, w16_8, e16_10, w16_10, e16_12, w16_12, c16_13, e16_15, w16_15, c16_16, e16_18, w16_18, c16_19, c16_20, c16_21, c16_22, c16_23, e16_25, w16_25, c16_26, c16_27, c16_28, c16_29]
  refine ifD (fun h2 => ?_) (fun h2 => ?_)
  · have hno := totalRes_no (f := f) (l := l) (.inr (.inl (by omega)))
    simp -implicitDefEqProofs (disch := omega) only [go_sem, Nat.reduceAdd, Nat.reduceMul, Nat.reduceSub, Nat.reduceBEq, Nat.reduceLeDiff, Nat.reduceLT, fn_transitref35_Total, e16_1, w16_1, e16_3, w16_3, c16_4, e16_6, w16_6, e16_8, w16_8, e16_10, w16_10, e16_12, w16_12, c16_13, e16_15, w16_15, c16_16, e16_18, w16_18, c16_19, c16_20, c16_21, c16_22, c16_23, e16_25, w16_25, c16_26, c16_27, c16_28, c16_29, hno, prV, Fares.row]
  simp -implicitDefEqProofs (disch := omega) only [go_sem, Nat.reduceAdd, Nat.reduceMul, Nat.reduceSub, Nat.reduceBEq, Nat.reduceLeDiff, Nat.reduceLT, fn_transitref35_Total, e16_1, w16_1, e16_3, w16_3, c16_4, e16_6, w16_6, e16_8, w16_8, e16_10, w16_10, e16_12, w16_12, c16_13, e16_15, w16_15, c16_16, e16_18, w16_18, c16_19, c16_20, c16_21, c16_22, c16_23, e16_25, w16_25, c16_26, c16_27, c16_28, c16_29]
  refine wpC_forL l (fun i vs M => (l.take i).all (fun t => within t.price 0 1000000) = true ∧ vs = [.slice (l.map Ticket.row) c, .ptr 0 0, .int .i64 i] ∧ M = [.box f.row]) ⟨by simp, rfl, rfl⟩ ?_ ?_
  · rintro i t vs M ht hi hd ⟨hall, rfl, rfl⟩
    simp -implicitDefEqProofs (disch := omega) only [go_sem, Nat.reduceAdd, Nat.reduceMul, Nat.reduceSub, Nat.reduceBEq, Nat.reduceLeDiff, Nat.reduceLT, fn_transitref35_Total, e16_1, w16_1, e16_3, w16_3, c16_4, e16_6, w16_6, e16_8, w16_8, e16_10, w16_10, e16_12, w16_12, c16_13, e16_15, w16_15, c16_16, e16_18, w16_18, c16_19, c16_20, c16_21, c16_22, c16_23, e16_25, w16_25, c16_26, c16_27, c16_28, c16_29, hd, ht, Ticket.row]
    refine ifD (fun h5 => ?_) (fun h5 => ?_)
    · have : within t.price 0 1000000 = false := by rw [← Bool.not_eq_true, within_iff]; omega
      simp -implicitDefEqProofs (disch := omega) only [go_sem, Nat.reduceAdd, Nat.reduceMul, Nat.reduceSub, Nat.reduceBEq, Nat.reduceLeDiff, Nat.reduceLT, fn_transitref35_Total, e16_1, w16_1, e16_3, w16_3, c16_4, e16_6, w16_6, e16_8, w16_8, e16_10, w16_10, e16_12, w16_12, c16_13, e16_15, w16_15, c16_16, e16_18, w16_18, c16_19, c16_20, c16_21, c16_22, c16_23, e16_25, w16_25, c16_26, c16_27, c16_28, c16_29, totalRes_no (.inr (.inr (all_no ht this))), prV, Fares.row]
    simp -implicitDefEqProofs (disch := omega) only [go_sem, Nat.reduceAdd, Nat.reduceMul, Nat.reduceSub, Nat.reduceBEq, Nat.reduceLeDiff, Nat.reduceLT, fn_transitref35_Total, e16_1, w16_1, e16_3, w16_3, c16_4, e16_6, w16_6, e16_8, w16_8, e16_10, w16_10, e16_12, w16_12, c16_13, e16_15, w16_15, c16_16, e16_18, w16_18, c16_19, c16_20, c16_21, c16_22, c16_23, e16_25, w16_25, c16_26, c16_27, c16_28, c16_29, ht, Ticket.row]
    refine ifD (fun h6 => ?_) (fun h6 => ?_)
    · have : within t.price 0 1000000 = false := by rw [← Bool.not_eq_true, within_iff]; omega
      simp -implicitDefEqProofs (disch := omega) only [go_sem, Nat.reduceAdd, Nat.reduceMul, Nat.reduceSub, Nat.reduceBEq, Nat.reduceLeDiff, Nat.reduceLT, fn_transitref35_Total, e16_1, w16_1, e16_3, w16_3, c16_4, e16_6, w16_6, e16_8, w16_8, e16_10, w16_10, e16_12, w16_12, c16_13, e16_15, w16_15, c16_16, e16_18, w16_18, c16_19, c16_20, c16_21, c16_22, c16_23, e16_25, w16_25, c16_26, c16_27, c16_28, c16_29, totalRes_no (.inr (.inr (all_no ht this))), prV, Fares.row]
    simp -implicitDefEqProofs (disch := omega) only [go_sem, Nat.reduceAdd, Nat.reduceMul, Nat.reduceSub, Nat.reduceBEq, Nat.reduceLeDiff, Nat.reduceLT, fn_transitref35_Total, e16_1, w16_1, e16_3, w16_3, c16_4, e16_6, w16_6, e16_8, w16_8, e16_10, w16_10, e16_12, w16_12, c16_13, e16_15, w16_15, c16_16, e16_18, w16_18, c16_19, c16_20, c16_21, c16_22, c16_23, e16_25, w16_25, c16_26, c16_27, c16_28, c16_29]
    refine next_stay hi ⟨?_, rfl, rfl⟩
    rw [all_take ht, hall, within_iff.2 (by omega)]; rfl
  · rintro vs M ⟨hall, rfl, rfl⟩
    rw [List.take_length] at hall
    simp -implicitDefEqProofs (disch := omega) only [go_sem, Nat.reduceAdd, Nat.reduceMul, Nat.reduceSub, Nat.reduceBEq, Nat.reduceLeDiff, Nat.reduceLT, fn_transitref35_Total, e16_1, w16_1, e16_3, w16_3, c16_4, e16_6, w16_6, e16_8, w16_8, e16_10, w16_10, e16_12, w16_12, c16_13, e16_15, w16_15, c16_16, e16_18, w16_18, c16_19, c16_20, c16_21, c16_22, c16_23, e16_25, w16_25, c16_26, c16_27, c16_28, c16_29, dec_irrefl, Fares.row]
    first | refine callD (transitref35_Sum_ok l c (small_of_all hall) (by omega)) ?_ | refine callQD (transitref35_Sum_ok l c (small_of_all hall) (by omega)) ?_
    first | refine callD (transitref35_Capped_ok f _ (checkRes_ok h1).limit.1) ?_ | refine callQD (transitref35_Capped_ok f _ (checkRes_ok h1).limit.1) ?_
    simp -implicitDefEqProofs (disch := omega) only [go_sem, Nat.reduceAdd, Nat.reduceMul, Nat.reduceSub, Nat.reduceBEq, Nat.reduceLeDiff, Nat.reduceLT, fn_transitref35_Total, e16_1, w16_1, e16_3, w16_3, c16_4, e16_6, w16_6, e16_8, w16_8, e16_10, w16_10, e16_12, w16_12, c16_13, e16_15, w16_15, c16_16, e16_18, w16_18, c16_19, c16_20, c16_21, c16_22, c16_23, e16_25, w16_25, c16_26, c16_27, c16_28, c16_29, totalRes_yes h1 (by omega) hall, prV, Fares.row]

/-! ### Verify -/
/-- The error of a ticket whose first ride must be next. -/
def oneErr (f : Fares) (l : List Ride) (t : Ticket) (next : Int) : Int :=
  if t.product < 0 ∨ (f.products.length : Int) ≤ t.product then 9
  else if t.first ≠ next ∨ t.last < t.first ∨ (l.length : Int) ≤ t.last then 8
  else match f.products[t.product.toNat]? with
    | none => 9
    | some p => if covers p (part l t.first.toNat t.last.toNat) = false then 34 else if t.price ≠ ticket f p l t.first.toNat then 1 else 0

def verGo (f : Fares) (l : List Ride) : List Ticket → Int → Int → Int × Int
  | [], next, sum => if next ≠ l.length then (0, 8) else (capped f sum, 0)
  | t :: ts, next, sum => if oneErr f l t next ≠ 0 then (0, oneErr f l t next) else verGo f l ts (t.last + 1) (sum + t.price)

def verRes (f : Fares) (l : List Ride) (ts : List Ticket) : Int × Int := if validRes f l.length ≠ 0 then (0, validRes f l.length) else verGo f l ts 0 0

theorem slice_part (l : List Ride) (i k : Nat) (c : Cap) (M : Mem) (hik : i ≤ k) (hk : k < l.length) :
    sliceV 4 (.slice (l.map Ride.row) c) (some (.int .i64 i)) (some (.int .i64 ((k : Int) + 1))) none M = some (.slice ((part l i k).map Ride.row) (capS c (k + 1) l.length l.length false)) := by
  rw [slice_lh 4 _ c _ _ _ _ M (by omega) (by omega) (by simp; omega) (headLen_map (f := Ride.row) (fun r => rfl) l), List.length_map]
  have e1 : ((i : Int)).toNat = i := by omega
  have e2 : ((k : Int) + 1).toNat = k + 1 := by omega
  rw [e1, e2, part_map]

theorem fare_check_ok (f : Fares) (l : List Ride) (c : Cap) (t : Ticket) (next : Int) (hf : f.wf) (hok : f.Ok) (hl : ∀ r ∈ l, r.wf) (hlen : l.length ≤ 8) (hn : 0 ≤ next) :
    PCalls PR i_fare_check [.agg f.row, .slice (l.map Ride.row) c, .agg t.row, .int .i64 next] (fun v => v = .int .i64 (oneErr f l t next)) := by
  have hm : maxLen = 9223372036854775807 := by rfl
  refine acalls_pop fn_fare_check_ok (by simp [fn_fare_check]) ?_
  simp -implicitDefEqProofs (disch := omega) only [go_sem, Nat.reduceAdd, Nat.reduceMul, Nat.reduceSub, Nat.reduceBEq, Nat.reduceLeDiff, Nat.reduceLT, fn_fare_check, e27_1, w27_1, e27_3, w27_3, c27_4, e27_6, w27_6, c27_7, e27_9, w27_9, c27_10, e27_12, w27_12, e27_14, w27_14, e27_16, w27_16, c27_17, e27_19, w27_19, c27_20, e27_22, w27_22, e27_24, w27_24, c27_25, c27_26, c27_27, c27_28, Fares.row, Ticket.row]
  refine ifD (fun h1 => ?_) (fun h1 => ?_)
  · simp -implicitDefEqProofs (disch := omega) only [go_sem, Nat.reduceAdd, Nat.reduceMul, Nat.reduceSub, Nat.reduceBEq, Nat.reduceLeDiff, Nat.reduceLT, fn_fare_check, e27_1, w27_1, e27_3, w27_3, c27_4, e27_6, w27_6, c27_7, e27_9, w27_9, c27_10, e27_12, w27_12, e27_14, w27_14, e27_16, w27_16, c27_17, e27_19, w27_19, c27_20, e27_22, w27_22, e27_24, w27_24, c27_25, c27_26, c27_27, c27_28, oneErr]
    rw [if_pos (.inl h1)]
  simp -implicitDefEqProofs (disch := omega) only [go_sem, Nat.reduceAdd, Nat.reduceMul, Nat.reduceSub, Nat.reduceBEq, Nat.reduceLeDiff, Nat.reduceLT, fn_fare_check, e27_1, w27_1, e27_3, w27_3, c27_4, e27_6, w27_6, c27_7, e27_9, w27_9, c27_10, e27_12, w27_12, e27_14, w27_14, e27_16, w27_16, c27_17, e27_19, w27_19, c27_20, e27_22, w27_22, e27_24, w27_24, c27_25, c27_26, c27_27, c27_28, Fares.row, Ticket.row]
  refine ifD (fun h2 => ?_) (fun h2 => ?_)
  · simp -implicitDefEqProofs (disch := omega) only [go_sem, Nat.reduceAdd, Nat.reduceMul, Nat.reduceSub, Nat.reduceBEq, Nat.reduceLeDiff, Nat.reduceLT, fn_fare_check, e27_1, w27_1, e27_3, w27_3, c27_4, e27_6, w27_6, c27_7, e27_9, w27_9, c27_10, e27_12, w27_12, e27_14, w27_14, e27_16, w27_16, c27_17, e27_19, w27_19, c27_20, e27_22, w27_22, e27_24, w27_24, c27_25, c27_26, c27_27, c27_28, oneErr]
    rw [if_pos (.inr h2)]
  simp -implicitDefEqProofs (disch := omega) only [go_sem, Nat.reduceAdd, Nat.reduceMul, Nat.reduceSub, Nat.reduceBEq, Nat.reduceLeDiff, Nat.reduceLT, fn_fare_check, e27_1, w27_1, e27_3, w27_3, c27_4, e27_6, w27_6, c27_7, e27_9, w27_9, c27_10, e27_12, w27_12, e27_14, w27_14, e27_16, w27_16, c27_17, e27_19, w27_19, c27_20, e27_22, w27_22, e27_24, w27_24, c27_25, c27_26, c27_27, c27_28, Fares.row, Ticket.row]
  refine ifD (fun h3 => ?_) (fun h3 => ?_)
  rotate_left
  · simp -implicitDefEqProofs (disch := omega) only [go_sem, Nat.reduceAdd, Nat.reduceMul, Nat.reduceSub, Nat.reduceBEq, Nat.reduceLeDiff, Nat.reduceLT, fn_fare_check, e27_1, w27_1, e27_3, w27_3, c27_4, e27_6, w27_6, c27_7, e27_9, w27_9, c27_10, e27_12, w27_12, e27_14, w27_14, e27_16, w27_16, c27_17, e27_19, w27_19, c27_20, e27_22, w27_22, e27_24, w27_24, c27_25, c27_26, c27_27, c27_28, oneErr]
    rw [if_neg (by omega), if_pos (.inl h3)]
  simp -implicitDefEqProofs (disch := omega) only [go_sem, Nat.reduceAdd, Nat.reduceMul, Nat.reduceSub, Nat.reduceBEq, Nat.reduceLeDiff, Nat.reduceLT, fn_fare_check, e27_1, w27_1, e27_3, w27_3, c27_4, e27_6, w27_6, c27_7, e27_9, w27_9, c27_10, e27_12, w27_12, e27_14, w27_14, e27_16, w27_16, c27_17, e27_19, w27_19, c27_20, e27_22, w27_22, e27_24, w27_24, c27_25, c27_26, c27_27, c27_28, Fares.row, Ticket.row]
  refine ifD (fun h4 => ?_) (fun h4 => ?_)
  · simp -implicitDefEqProofs (disch := omega) only [go_sem, Nat.reduceAdd, Nat.reduceMul, Nat.reduceSub, Nat.reduceBEq, Nat.reduceLeDiff, Nat.reduceLT, fn_fare_check, e27_1, w27_1, e27_3, w27_3, c27_4, e27_6, w27_6, c27_7, e27_9, w27_9, c27_10, e27_12, w27_12, e27_14, w27_14, e27_16, w27_16, c27_17, e27_19, w27_19, c27_20, e27_22, w27_22, e27_24, w27_24, c27_25, c27_26, c27_27, c27_28, oneErr]
    rw [if_neg (by omega), if_pos (.inr (.inl h4))]
  simp -implicitDefEqProofs (disch := omega) only [go_sem, Nat.reduceAdd, Nat.reduceMul, Nat.reduceSub, Nat.reduceBEq, Nat.reduceLeDiff, Nat.reduceLT, fn_fare_check, e27_1, w27_1, e27_3, w27_3, c27_4, e27_6, w27_6, c27_7, e27_9, w27_9, c27_10, e27_12, w27_12, e27_14, w27_14, e27_16, w27_16, c27_17, e27_19, w27_19, c27_20, e27_22, w27_22, e27_24, w27_24, c27_25, c27_26, c27_27, c27_28, Fares.row, Ticket.row]
  refine ifD (fun h5 => ?_) (fun h5 => ?_)
  · simp -implicitDefEqProofs (disch := omega) only [go_sem, Nat.reduceAdd, Nat.reduceMul, Nat.reduceSub, Nat.reduceBEq, Nat.reduceLeDiff, Nat.reduceLT, fn_fare_check, e27_1, w27_1, e27_3, w27_3, c27_4, e27_6, w27_6, c27_7, e27_9, w27_9, c27_10, e27_12, w27_12, e27_14, w27_14, e27_16, w27_16, c27_17, e27_19, w27_19, c27_20, e27_22, w27_22, e27_24, w27_24, c27_25, c27_26, c27_27, c27_28, oneErr]
    rw [if_neg (by omega), if_pos (.inr (.inr h5))]
  obtain ⟨q, hq⟩ : ∃ q : Nat, t.product = q := ⟨t.product.toNat, by omega⟩
  obtain ⟨i, hi⟩ : ∃ i : Nat, t.first = i := ⟨t.first.toNat, by omega⟩
  obtain ⟨k, hk⟩ : ∃ k : Nat, t.last = k := ⟨t.last.toNat, by omega⟩
  obtain ⟨p, hp⟩ : ∃ p, f.products[q]? = some p := ⟨f.products[q]'(by omega), by simp⟩
  have hpm := List.mem_of_getElem? hp
  have herr : oneErr f l t next = if covers p (part l i k) = false then 34 else if t.price ≠ ticket f p l i then 1 else 0 := by
    rw [oneErr, if_neg (by omega), if_neg (by omega), hq, hi, hk]
    simp only [Int.toNat_natCast, hp]
  simp -implicitDefEqProofs (disch := omega) only [go_sem, Nat.reduceAdd, Nat.reduceMul, Nat.reduceSub, Nat.reduceBEq, Nat.reduceLeDiff, Nat.reduceLT, fn_fare_check, e27_1, w27_1, e27_3, w27_3, c27_4, e27_6, w27_6, c27_7, e27_9, w27_9, c27_10, e27_12, w27_12, e27_14, w27_14, e27_16, w27_16, c27_17, e27_19, w27_19, c27_20, e27_22, w27_22, e27_24, w27_24, c27_25, c27_26, c27_27, c27_28, Fares.row, Ticket.row, hq, hi, hk, hp, Product.row, slice_part l i k _ _ (show i ≤ k by omega) (show k < l.length by omega)]
  first | refine callD (product_Covers_ok p (part l i k) _ (hf.1 p hpm) (fun r hr => hl r (part_mem hr)) (by rw [part_len (by omega)]; omega)) ?_ | refine callQD (product_Covers_ok p (part l i k) _ (hf.1 p hpm) (fun r hr => hl r (part_mem hr)) (by rw [part_len (by omega)]; omega)) ?_
  simp -implicitDefEqProofs (disch := omega) only [go_sem, Nat.reduceAdd, Nat.reduceMul, Nat.reduceSub, Nat.reduceBEq, Nat.reduceLeDiff, Nat.reduceLT, fn_fare_check, e27_1, w27_1, e27_3, w27_3, c27_4, e27_6, w27_6, c27_7, e27_9, w27_9, c27_10, e27_12, w27_12, e27_14, w27_14, e27_16, w27_16, c27_17, e27_19, w27_19, c27_20, e27_22, w27_22, e27_24, w27_24, c27_25, c27_26, c27_27, c27_28, Fares.row, Ticket.row]
  refine ifB (fun h6 => ?_) (fun h6 => ?_)
  rotate_left
  · simp -implicitDefEqProofs (disch := omega) only [go_sem, Nat.reduceAdd, Nat.reduceMul, Nat.reduceSub, Nat.reduceBEq, Nat.reduceLeDiff, Nat.reduceLT, fn_fare_check, e27_1, w27_1, e27_3, w27_3, c27_4, e27_6, w27_6, c27_7, e27_9, w27_9, c27_10, e27_12, w27_12, e27_14, w27_14, e27_16, w27_16, c27_17, e27_19, w27_19, c27_20, e27_22, w27_22, e27_24, w27_24, c27_25, c27_26, c27_27, c27_28, herr]
    rw [if_pos h6]
  simp -implicitDefEqProofs (disch := omega) only [go_sem, Nat.reduceAdd, Nat.reduceMul, Nat.reduceSub, Nat.reduceBEq, Nat.reduceLeDiff, Nat.reduceLT, fn_fare_check, e27_1, w27_1, e27_3, w27_3, c27_4, e27_6, w27_6, c27_7, e27_9, w27_9, c27_10, e27_12, w27_12, e27_14, w27_14, e27_16, w27_16, c27_17, e27_19, w27_19, c27_20, e27_22, w27_22, e27_24, w27_24, c27_25, c27_26, c27_27, c27_28, Fares.row, Ticket.row, hq, hi, hk, hp, Product.row]
  first | refine callD (fare_ticketPrice_ok f p l c i hf hok (hok.prods p hpm).1 hl (by omega) (by omega)) ?_ | refine callQD (fare_ticketPrice_ok f p l c i hf hok (hok.prods p hpm).1 hl (by omega) (by omega)) ?_
  simp -implicitDefEqProofs (disch := omega) only [go_sem, Nat.reduceAdd, Nat.reduceMul, Nat.reduceSub, Nat.reduceBEq, Nat.reduceLeDiff, Nat.reduceLT, fn_fare_check, e27_1, w27_1, e27_3, w27_3, c27_4, e27_6, w27_6, c27_7, e27_9, w27_9, c27_10, e27_12, w27_12, e27_14, w27_14, e27_16, w27_16, c27_17, e27_19, w27_19, c27_20, e27_22, w27_22, e27_24, w27_24, c27_25, c27_26, c27_27, c27_28]
  refine ifD (fun h7 => ?_) (fun h7 => ?_)
  · simp -implicitDefEqProofs (disch := omega) only [go_sem, Nat.reduceAdd, Nat.reduceMul, Nat.reduceSub, Nat.reduceBEq, Nat.reduceLeDiff, Nat.reduceLT, fn_fare_check, e27_1, w27_1, e27_3, w27_3, c27_4, e27_6, w27_6, c27_7, e27_9, w27_9, c27_10, e27_12, w27_12, e27_14, w27_14, e27_16, w27_16, c27_17, e27_19, w27_19, c27_20, e27_22, w27_22, e27_24, w27_24, c27_25, c27_26, c27_27, c27_28, herr]
    rw [if_neg (by simp [h6]), if_neg (by simp [h7])]
  · simp -implicitDefEqProofs (disch := omega) only [go_sem, Nat.reduceAdd, Nat.reduceMul, Nat.reduceSub, Nat.reduceBEq, Nat.reduceLeDiff, Nat.reduceLT, fn_fare_check, e27_1, w27_1, e27_3, w27_3, c27_4, e27_6, w27_6, c27_7, e27_9, w27_9, c27_10, e27_12, w27_12, e27_14, w27_14, e27_16, w27_16, c27_17, e27_19, w27_19, c27_20, e27_22, w27_22, e27_24, w27_24, c27_25, c27_26, c27_27, c27_28, herr]
    rw [if_neg (by simp [h6]), if_pos h7]

theorem transitref35_one_ok (f : Fares) (l : List Ride) (c : Cap) (t : Ticket) (next : Int) (hf : f.wf) (hok : f.Ok) (hl : ∀ r ∈ l, r.wf) (hlen : l.length ≤ 8) (hn : 0 ≤ next) :
    PCalls PR i_transitref35_one [.agg f.row, .slice (l.map Ride.row) c, .agg t.row, .int .i64 next] (fun v => v = .int .i64 (oneErr f l t next)) := by
  have hm : maxLen = 9223372036854775807 := by rfl
  refine acalls_pop fn_transitref35_one_ok (by simp [fn_transitref35_one]) ?_
  simp -implicitDefEqProofs (disch := omega) only [go_sem, Nat.reduceAdd, Nat.reduceMul, Nat.reduceSub, Nat.reduceBEq, Nat.reduceLeDiff, Nat.reduceLT, fn_transitref35_one, e28_1, w28_1, e28_3, w28_3, c28_4, e28_6, w28_6, e28_8, w28_8, c28_9, e28_11, w28_11, e28_13, w28_13, c28_14, e28_16, w28_16, e28_18, w28_18, c28_19, e28_21, w28_21, e28_23, w28_23, c28_24, c28_25, c28_26, c28_27, c28_28, c28_29, Fares.row, Ticket.row]
  refine ifD (fun h1 => ?_) (fun h1 => ?_)
  · simp -implicitDefEqProofs (disch := omega) only [go_sem, Nat.reduceAdd, Nat.reduceMul, Nat.reduceSub, Nat.reduceBEq, Nat.reduceLeDiff, Nat.reduceLT, fn_transitref35_one, e28_1, w28_1, e28_3, w28_3, c28_4, e28_6, w28_6, e28_8, w28_8, c28_9, e28_11, w28_11, e28_13, w28_13, c28_14, e28_16, w28_16, e28_18, w28_18, c28_19, e28_21, w28_21, e28_23, w28_23, c28_24, c28_25, c28_26, c28_27, c28_28, c28_29, oneErr]
    rw [if_pos (.inl h1)]
  simp -implicitDefEqProofs (disch := omega) only [go_sem, Nat.reduceAdd, Nat.reduceMul, Nat.reduceSub, Nat.reduceBEq, Nat.reduceLeDiff, Nat.reduceLT, fn_transitref35_one, e28_1, w28_1, e28_3, w28_3, c28_4, e28_6, w28_6, e28_8, w28_8, c28_9, e28_11, w28_11, e28_13, w28_13, c28_14, e28_16, w28_16, e28_18, w28_18, c28_19, e28_21, w28_21, e28_23, w28_23, c28_24, c28_25, c28_26, c28_27, c28_28, c28_29, Fares.row, Ticket.row]
  refine ifD (fun h2 => ?_) (fun h2 => ?_)
  · simp -implicitDefEqProofs (disch := omega) only [go_sem, Nat.reduceAdd, Nat.reduceMul, Nat.reduceSub, Nat.reduceBEq, Nat.reduceLeDiff, Nat.reduceLT, fn_transitref35_one, e28_1, w28_1, e28_3, w28_3, c28_4, e28_6, w28_6, e28_8, w28_8, c28_9, e28_11, w28_11, e28_13, w28_13, c28_14, e28_16, w28_16, e28_18, w28_18, c28_19, e28_21, w28_21, e28_23, w28_23, c28_24, c28_25, c28_26, c28_27, c28_28, c28_29, oneErr]
    rw [if_pos (.inr h2)]
  simp -implicitDefEqProofs (disch := omega) only [go_sem, Nat.reduceAdd, Nat.reduceMul, Nat.reduceSub, Nat.reduceBEq, Nat.reduceLeDiff, Nat.reduceLT, fn_transitref35_one, e28_1, w28_1, e28_3, w28_3, c28_4, e28_6, w28_6, e28_8, w28_8, c28_9, e28_11, w28_11, e28_13, w28_13, c28_14, e28_16, w28_16, e28_18, w28_18, c28_19, e28_21, w28_21, e28_23, w28_23, c28_24, c28_25, c28_26, c28_27, c28_28, c28_29, Fares.row, Ticket.row]
  refine ifD (fun h3 => ?_) (fun h3 => ?_)
  rotate_left
  · simp -implicitDefEqProofs (disch := omega) only [go_sem, Nat.reduceAdd, Nat.reduceMul, Nat.reduceSub, Nat.reduceBEq, Nat.reduceLeDiff, Nat.reduceLT, fn_transitref35_one, e28_1, w28_1, e28_3, w28_3, c28_4, e28_6, w28_6, e28_8, w28_8, c28_9, e28_11, w28_11, e28_13, w28_13, c28_14, e28_16, w28_16, e28_18, w28_18, c28_19, e28_21, w28_21, e28_23, w28_23, c28_24, c28_25, c28_26, c28_27, c28_28, c28_29, oneErr]
    rw [if_neg (by omega), if_pos (.inl h3)]
  simp -implicitDefEqProofs (disch := omega) only [go_sem, Nat.reduceAdd, Nat.reduceMul, Nat.reduceSub, Nat.reduceBEq, Nat.reduceLeDiff, Nat.reduceLT, fn_transitref35_one, e28_1, w28_1, e28_3, w28_3, c28_4, e28_6, w28_6, e28_8, w28_8, c28_9, e28_11, w28_11, e28_13, w28_13, c28_14, e28_16, w28_16, e28_18, w28_18, c28_19, e28_21, w28_21, e28_23, w28_23, c28_24, c28_25, c28_26, c28_27, c28_28, c28_29, Fares.row, Ticket.row]
  refine ifD (fun h4 => ?_) (fun h4 => ?_)
  · simp -implicitDefEqProofs (disch := omega) only [go_sem, Nat.reduceAdd, Nat.reduceMul, Nat.reduceSub, Nat.reduceBEq, Nat.reduceLeDiff, Nat.reduceLT, fn_transitref35_one, e28_1, w28_1, e28_3, w28_3, c28_4, e28_6, w28_6, e28_8, w28_8, c28_9, e28_11, w28_11, e28_13, w28_13, c28_14, e28_16, w28_16, e28_18, w28_18, c28_19, e28_21, w28_21, e28_23, w28_23, c28_24, c28_25, c28_26, c28_27, c28_28, c28_29, oneErr]
    rw [if_neg (by omega), if_pos (.inr (.inl h4))]
  simp -implicitDefEqProofs (disch := omega) only [go_sem, Nat.reduceAdd, Nat.reduceMul, Nat.reduceSub, Nat.reduceBEq, Nat.reduceLeDiff, Nat.reduceLT, fn_transitref35_one, e28_1, w28_1, e28_3, w28_3, c28_4, e28_6, w28_6, e28_8, w28_8, c28_9, e28_11, w28_11, e28_13, w28_13, c28_14, e28_16, w28_16, e28_18, w28_18, c28_19, e28_21, w28_21, e28_23, w28_23, c28_24, c28_25, c28_26, c28_27, c28_28, c28_29, Fares.row, Ticket.row]
  refine ifD (fun h5 => ?_) (fun h5 => ?_)
  · simp -implicitDefEqProofs (disch := omega) only [go_sem, Nat.reduceAdd, Nat.reduceMul, Nat.reduceSub, Nat.reduceBEq, Nat.reduceLeDiff, Nat.reduceLT, fn_transitref35_one, e28_1, w28_1, e28_3, w28_3, c28_4, e28_6, w28_6, e28_8, w28_8, c28_9, e28_11, w28_11, e28_13, w28_13, c28_14, e28_16, w28_16, e28_18, w28_18, c28_19, e28_21, w28_21, e28_23, w28_23, c28_24, c28_25, c28_26, c28_27, c28_28, c28_29, oneErr]
    rw [if_neg (by omega), if_pos (.inr (.inr h5))]
  obtain ⟨q, hq⟩ : ∃ q : Nat, t.product = q := ⟨t.product.toNat, by omega⟩
  obtain ⟨i, hi⟩ : ∃ i : Nat, t.first = i := ⟨t.first.toNat, by omega⟩
  obtain ⟨k, hk⟩ : ∃ k : Nat, t.last = k := ⟨t.last.toNat, by omega⟩
  obtain ⟨p, hp⟩ : ∃ p, f.products[q]? = some p := ⟨f.products[q]'(by omega), by simp⟩
  have hpm := List.mem_of_getElem? hp
  have herr : oneErr f l t next = if covers p (part l i k) = false then 34 else if t.price ≠ ticket f p l i then 1 else 0 := by
    rw [oneErr, if_neg (by omega), if_neg (by omega), hq, hi, hk]
    simp only [Int.toNat_natCast, hp]
  simp -implicitDefEqProofs (disch := omega) only [go_sem, Nat.reduceAdd, Nat.reduceMul, Nat.reduceSub, Nat.reduceBEq, Nat.reduceLeDiff, Nat.reduceLT, fn_transitref35_one, e28_1, w28_1, e28_3, w28_3, c28_4, e28_6, w28_6, e28_8, w28_8, c28_9, e28_11, w28_11, e28_13, w28_13, c28_14, e28_16, w28_16, e28_18, w28_18, c28_19, e28_21, w28_21, e28_23, w28_23, c28_24, c28_25, c28_26, c28_27, c28_28, c28_29, Fares.row, Ticket.row, hq, hi, hk, hp, Product.row]
  first | refine callD (transitref35_Covers_ok p l c i k (hf.1 p hpm) (hok.prods p hpm).2.2.2.1.1 hl (by omega) (by omega) (by omega)) ?_ | refine callQD (transitref35_Covers_ok p l c i k (hf.1 p hpm) (hok.prods p hpm).2.2.2.1.1 hl (by omega) (by omega) (by omega)) ?_
  simp -implicitDefEqProofs (disch := omega) only [go_sem, Nat.reduceAdd, Nat.reduceMul, Nat.reduceSub, Nat.reduceBEq, Nat.reduceLeDiff, Nat.reduceLT, fn_transitref35_one, e28_1, w28_1, e28_3, w28_3, c28_4, e28_6, w28_6, e28_8, w28_8, c28_9, e28_11, w28_11, e28_13, w28_13, c28_14, e28_16, w28_16, e28_18, w28_18, c28_19, e28_21, w28_21, e28_23, w28_23, c28_24, c28_25, c28_26, c28_27, c28_28, c28_29, Fares.row, Ticket.row]
  refine ifB (fun h6 => ?_) (fun h6 => ?_)
  rotate_left
  · simp -implicitDefEqProofs (disch := omega) only [go_sem, Nat.reduceAdd, Nat.reduceMul, Nat.reduceSub, Nat.reduceBEq, Nat.reduceLeDiff, Nat.reduceLT, fn_transitref35_one, e28_1, w28_1, e28_3, w28_3, c28_4, e28_6, w28_6, e28_8, w28_8, c28_9, e28_11, w28_11, e28_13, w28_13, c28_14, e28_16, w28_16, e28_18, w28_18, c28_19, e28_21, w28_21, e28_23, w28_23, c28_24, c28_25, c28_26, c28_27, c28_28, c28_29, herr]
    rw [if_pos h6]
  simp -implicitDefEqProofs (disch := omega) only [go_sem, Nat.reduceAdd, Nat.reduceMul, Nat.reduceSub, Nat.reduceBEq, Nat.reduceLeDiff, Nat.reduceLT, fn_transitref35_one, e28_1, w28_1, e28_3, w28_3, c28_4, e28_6, w28_6, e28_8, w28_8, c28_9, e28_11, w28_11, e28_13, w28_13, c28_14, e28_16, w28_16, e28_18, w28_18, c28_19, e28_21, w28_21, e28_23, w28_23, c28_24, c28_25, c28_26, c28_27, c28_28, c28_29, Fares.row, Ticket.row, hq, hi, hk, hp, Product.row]
  first | refine callD (transitref35_Ticket_ok f p l c i hf hok (hok.prods p hpm).1 hl (by omega) (by omega)) ?_ | refine callQD (transitref35_Ticket_ok f p l c i hf hok (hok.prods p hpm).1 hl (by omega) (by omega)) ?_
  simp -implicitDefEqProofs (disch := omega) only [go_sem, Nat.reduceAdd, Nat.reduceMul, Nat.reduceSub, Nat.reduceBEq, Nat.reduceLeDiff, Nat.reduceLT, fn_transitref35_one, e28_1, w28_1, e28_3, w28_3, c28_4, e28_6, w28_6, e28_8, w28_8, c28_9, e28_11, w28_11, e28_13, w28_13, c28_14, e28_16, w28_16, e28_18, w28_18, c28_19, e28_21, w28_21, e28_23, w28_23, c28_24, c28_25, c28_26, c28_27, c28_28, c28_29]
  refine ifD (fun h7 => ?_) (fun h7 => ?_)
  · simp -implicitDefEqProofs (disch := omega) only [go_sem, Nat.reduceAdd, Nat.reduceMul, Nat.reduceSub, Nat.reduceBEq, Nat.reduceLeDiff, Nat.reduceLT, fn_transitref35_one, e28_1, w28_1, e28_3, w28_3, c28_4, e28_6, w28_6, e28_8, w28_8, c28_9, e28_11, w28_11, e28_13, w28_13, c28_14, e28_16, w28_16, e28_18, w28_18, c28_19, e28_21, w28_21, e28_23, w28_23, c28_24, c28_25, c28_26, c28_27, c28_28, c28_29, herr]
    rw [if_neg (by simp [h6]), if_neg (by simp [h7])]
  · simp -implicitDefEqProofs (disch := omega) only [go_sem, Nat.reduceAdd, Nat.reduceMul, Nat.reduceSub, Nat.reduceBEq, Nat.reduceLeDiff, Nat.reduceLT, fn_transitref35_one, e28_1, w28_1, e28_3, w28_3, c28_4, e28_6, w28_6, e28_8, w28_8, c28_9, e28_11, w28_11, e28_13, w28_13, c28_14, e28_16, w28_16, e28_18, w28_18, c28_19, e28_21, w28_21, e28_23, w28_23, c28_24, c28_25, c28_26, c28_27, c28_28, c28_29, herr]
    rw [if_neg (by simp [h6]), if_pos h7]

end Go.Vm.C

