/- Contracts: totals. -/
import Derived.Test.YtojpmklnmaomlaaT3

namespace Go.Vm.C
open Go.Vm
set_option maxHeartbeats 1000000
set_option maxRecDepth 10000
set_option linter.unusedSimpArgs false
set_option linter.unusedVariables false

/-! ### Totals -/
theorem total_snoc {l : List Ticket} {i : Nat} {t : Ticket} (h : l[i]? = some t) : total (l.take (i + 1)) = total (l.take i) + t.price := by
  rw [total, total, List.take_add_one, h, List.map_append, List.sum_append]; simp
/-- All prices are small. -/
def Small (l : List Ticket) : Prop := ∀ t ∈ l, 0 ≤ t.price ∧ t.price ≤ 1000000
theorem total_le {l : List Ticket} (h : Small l) : 0 ≤ total l ∧ total l ≤ 1000000 * l.length := by
  induction l with
  | nil => simp [total]
  | cons t l ih =>
    have h1 := ih fun t' h' => h t' (by simp [h'])
    have h2 := h t (by simp)
    have e : total (t :: l) = t.price + total l := by simp [total]
    rw [e, List.length_cons]
    omega
theorem Small.take {l : List Ticket} (h : Small l) (i : Nat) : Small (l.take i) := fun t ht => h t (List.mem_of_mem_take ht)

theorem transitref35_Sum_ok (l : List Ticket) (c : Cap) (h : Small l) (hlen : l.length ≤ 1000) : PCalls PR i_transitref35_Sum [.slice (l.map Ticket.row) c] (fun v => v = .int .i64 (total l)) := by
  refine acalls_pop fn_transitref35_Sum_ok (by simp [fn_transitref35_Sum]) ?_
  simp -implicitDefEqProofs (disch := omega) only [go_sem, Nat.reduceAdd, Nat.reduceMul, Nat.reduceSub, Nat.reduceBEq, Nat.reduceLeDiff, Nat.reduceLT, fn_transitref35_Sum, e32_1, w32_1, e32_3, w32_3, e32_5, w32_5, e32_7, w32_7, e32_9, w32_9, c32_10, e32_12, w32_12, c32_13, c32_14, c32_15, c32_16, c32_17, e32_19, w32_19, c32_20, c32_21, c32_22, c32_23]
  refine wpC_forL l (fun i vs M => vs = [.slice (l.map Ticket.row) c, .int .i64 (total (l.take i)), .int .i64 i] ∧ M = []) ⟨rfl, rfl⟩ ?_ ?_
  · rintro i t vs M ht hi hd ⟨rfl, rfl⟩
    have h1 := total_le (h.take i)
    have h2 := h t (List.mem_of_getElem? ht)
    have h3 : (l.take i).length ≤ 1000 := by simp; omega
    simp -implicitDefEqProofs (disch := omega) only [go_sem, Nat.reduceAdd, Nat.reduceMul, Nat.reduceSub, Nat.reduceBEq, Nat.reduceLeDiff, Nat.reduceLT, fn_transitref35_Sum, e32_1, w32_1, e32_3, w32_3, e32_5, w32_5, e32_7, w32_7, e32_9, w32_9, c32_10, e32_12, w32_12, c32_13, c32_14, c32_15, c32_16, c32_17, e32_19, w32_19, c32_20, c32_21, c32_22, c32_23, hd, ht, Ticket.row]
    refine next_stay hi ⟨?_, rfl⟩
    rw [total_snoc ht]
    rfl
  · rintro vs M ⟨rfl, rfl⟩
    simp -implicitDefEqProofs (disch := omega) only [go_sem, Nat.reduceAdd, Nat.reduceMul, Nat.reduceSub, Nat.reduceBEq, Nat.reduceLeDiff, Nat.reduceLT, fn_transitref35_Sum, e32_1, w32_1, e32_3, w32_3, e32_5, w32_5, e32_7, w32_7, e32_9, w32_9, c32_10, e32_12, w32_12, c32_13, c32_14, c32_15, c32_16, c32_17, e32_19, w32_19, c32_20, c32_21, c32_22, c32_23, dec_irrefl, List.take_length]

theorem validRes_zero {f : Fares} {n : Nat} : validRes f n = 0 ↔ (checkRes f).2 = 0 ∧ n ≤ 8 := by
  unfold validRes
  split
  · rename_i h; constructor
    · intro e; simp at e
    · intro e; exact absurd e.1 h
  · rename_i h
    split
    · constructor
      · intro e; simp at e
      · intro e; omega
    · simp only [ne_eq, Decidable.not_not] at h
      exact ⟨fun _ => ⟨h, by omega⟩, fun _ => rfl⟩

/-! ### Verify -/
/-- The error of a ticket whose first ride must be next. -/
def oneErr (f : Fares) (l : List Ride) (t : Ticket) (next : Int) : Int :=
  if t.product < 0 ∨ (f.products.length : Int) ≤ t.product then 9
  else if t.first ≠ next ∨ t.last < t.first ∨ (l.length : Int) ≤ t.last then 8
  else match f.products[t.product.toNat]? with
    | none => 9
    | some p => if covers p (part l t.first.toNat t.last.toNat) = false then 34 else if t.price ≠ ticket f p l t.first.toNat then 1 else 0

theorem slice_part (l : List Ride) (i k : Nat) (c : Cap) (M : Mem) (hik : i ≤ k) (hk : k < l.length) :
    sliceV 4 (.slice (l.map Ride.row) c) (some (.int .i64 i)) (some (.int .i64 ((k : Int) + 1))) none M = some (.slice ((part l i k).map Ride.row) (capS c (k + 1) l.length l.length false)) := by
  rw [slice_lh 4 _ c _ _ _ _ M (by omega) (by omega) (by simp; omega) (headLen_map (f := Ride.row) (fun r => rfl) l), List.length_map]
  have e1 : ((i : Int)).toNat = i := by omega
  have e2 : ((k : Int) + 1).toNat = k + 1 := by omega
  rw [e1, e2, part_map]

theorem oneErr_zero {f : Fares} {l : List Ride} {t : Ticket} {next : Int} (hok : f.Ok) (h : oneErr f l t next = 0) :
    t.first = next ∧ t.first ≤ t.last ∧ t.last < l.length ∧ 0 ≤ t.price ∧ t.price ≤ 1000000 := by
  unfold oneErr at h
  split at h
  · simp at h
  rename_i h1
  split at h
  · simp at h
  rename_i h2
  split at h
  · simp at h
  rename_i p hp
  split at h
  · simp at h
  split at h
  · simp at h
  rename_i h3
  simp only [ne_eq, Decidable.not_not] at h3
  have := ticket_range (f := f) (l := l) (i := t.first.toNat) (hok.prods p (List.mem_of_getElem? hp)).1 hok.discount.1
  omega

theorem drop_cons {α : Type} {l : List α} {i : Nat} {t : α} (h : l[i]? = some t) : l.drop i = t :: l.drop (i + 1) := by
  obtain ⟨h1, h2⟩ := List.getElem?_eq_some_iff.1 h
  rw [List.drop_eq_getElem_cons h1, h2]

end Go.Vm.C

