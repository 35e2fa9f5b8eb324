/- The statements TripPartition and TripFollows. -/
import Derived.Test.YtjmpgjbbcfbhbaaDoorT7

namespace Go.Vm.C
open Go.Vm
set_option maxHeartbeats 1000000
set_option maxRecDepth 10000
set_option linter.unusedSimpArgs false
set_option linter.unusedVariables false

/-! ### The groups part the trips -/
theorem sum_set : ∀ (G : List (List Nat)) (j : Nat) (g : List Nat) (i : Nat), G[j]? = some g → ((G.set j (g ++ [i])).map List.length).sum = (G.map List.length).sum + 1
  | [], j, g, i, h => by simp at h
  | x :: G, 0, g, i, h => by
    simp only [List.getElem?_cons_zero, Option.some.injEq] at h
    subst h
    simp; omega
  | x :: G, j + 1, g, i, h => by
    have := sum_set G j g i (by simpa using h)
    simp only [List.set_cons_succ, List.map_cons, List.sum_cons, this]
    omega
theorem gUp_sum (l : List Trp) : ∀ n, n ≤ l.length → ((gUp l n).grps.map List.length).sum = n
  | 0, _ => rfl
  | n + 1, hn => by
    have ih := gUp_sum l n (by omega)
    have ht : l[n]? = some (l[n]'(by omega)) := by simp
    have hlen := (gUp_len l n).1
    rw [gUp, ht]
    simp only [gStep]
    cases hp : posK (keyL l[n].calls) (gUp l n).keys with
    | none => simp [ih]
    | some j =>
      obtain ⟨hj, _⟩ := posK_lt hp
      have hgj : (gUp l n).grps[j]? = some ((gUp l n).grps[j]'(by omega)) := by simp
      simp only
      rw [hgj, Option.getD_some, sum_set _ _ _ _ hgj, ih]
theorem sum_take : ∀ (G : List (List Nat)) (i : Nat) (g : List Nat), G[i]? = some g → ((G.take (i + 1)).map List.length).sum = ((G.take i).map List.length).sum + g.length
  | [], i, g, h => by simp at h
  | x :: G, 0, g, h => by
    simp only [List.getElem?_cons_zero, Option.some.injEq] at h
    subst h
    simp
  | x :: G, i + 1, g, h => by
    have := sum_take G i g (by simpa using h)
    simp only [List.take_succ_cons, List.map_cons, List.sum_cons, this]
    omega
theorem sum_take_le : ∀ (G : List (List Nat)) (i : Nat), ((G.take i).map List.length).sum ≤ (G.map List.length).sum
  | [], i => by simp
  | x :: G, 0 => by simp
  | x :: G, i + 1 => by
    have := sum_take_le G i
    simp only [List.take_succ_cons, List.map_cons, List.sum_cons]
    omega
/-- Which group holds the index a, as far as the groups below i and the first k of the group i tell. -/
def InG (G : List (List Nat)) (a i k : Nat) (x : Int) : Prop :=
  (x = -1 ∧ (∀ (j : Nat) (g : List Nat), j < i → G[j]? = some g → a ∉ g) ∧ ∀ g, G[i]? = some g → a ∉ g.take k) ∨ ∃ (j : Nat) (g : List Nat), G[j]? = some g ∧ a ∈ g ∧ x = (j : Int)
theorem InG.zero (G : List (List Nat)) (a : Nat) : InG G a 0 0 (-1) := .inl ⟨rfl, fun j g h => by omega, fun g _ => by simp⟩
theorem InG.next {G : List (List Nat)} {a i : Nat} {x : Int} {g : List Nat} (hg : G[i]? = some g) (h : InG G a i g.length x) : InG G a (i + 1) 0 x := by
  rcases h with ⟨h1, h2, h3⟩ | h
  · refine .inl ⟨h1, fun j g' hj hg' => ?_, fun g' _ => by simp⟩
    rcases Nat.lt_or_ge j i with h4 | h4
    · exact h2 j g' h4 hg'
    · have : j = i := by omega
      subst this
      rw [hg] at hg'
      simp only [Option.some.injEq] at hg'
      subst hg'
      have := h3 g hg
      rwa [List.take_length] at this
  · exact .inr h
theorem InG.hit {G : List (List Nat)} {a i k : Nat} {g : List Nat} (hg : G[i]? = some g) (hk : g[k]? = some a) (m : Nat) : InG G a i m (i : Int) := .inr ⟨i, g, hg, List.mem_of_getElem? hk, rfl⟩
theorem InG.miss {G : List (List Nat)} {a i k b : Nat} {x : Int} {g : List Nat} (hg : G[i]? = some g) (hk : g[k]? = some b) (hb : b ≠ a) (h : InG G a i k x) : InG G a i (k + 1) x := by
  rcases h with ⟨h1, h2, h3⟩ | h
  · refine .inl ⟨h1, h2, fun g' hg' => ?_⟩
    rw [hg] at hg'
    simp only [Option.some.injEq] at hg'
    subst hg'
    rw [List.take_add_one, hk]
    intro hm
    rcases List.mem_append.1 hm with hm | hm
    · exact h3 g hg hm
    · simp at hm; exact hb hm.symm
  · exact .inr h
structure Part (l : List Trp) (G : List (List Nat)) : Prop where
  len : G.length ≤ l.length
  sum : (G.map List.length).sum = l.length
  all : ∀ a, a < l.length → ∃ (j : Nat) (g : List Nat), G[j]? = some g ∧ a ∈ g
  same : ∀ (j : Nat) (g : List Nat) (i : Nat) (h : List Nat) (a b : Nat), G[j]? = some g → G[i]? = some h → a ∈ g → b ∈ h → (j = i ↔ samePat (callsAt l a) (callsAt l b) = true)
  mem : ∀ (j : Nat) (g : List Nat), G[j]? = some g → g.length ≤ l.length
theorem part_of (l : List Trp) : Part l (grpsL l) := by
  have hI := gInv l l.length (Nat.le_refl _)
  have hs := gUp_sum l l.length (Nat.le_refl _)
  have hm : ∀ (j : Nat) (g : List Nat), (grpsL l)[j]? = some g → ∃ k, (gUp l l.length).keys[j]? = some k ∧ g = grpK l l.length k := fun j g h => by
    rw [grpsL, hI.grps, List.getElem?_map] at h
    obtain ⟨k, h1, h2⟩ := Option.map_eq_some_iff.1 h
    exact ⟨k, h1, h2.symm⟩
  have hin : ∀ (a : Nat) (k : List UInt8), a ∈ grpK l l.length k ↔ a < l.length ∧ keyL (callsAt l a) = k := fun a k => by
    rw [grpK, List.mem_filter, List.mem_range, decide_eq_true_eq]
  have hlen : (grpsL l).length ≤ l.length := by
    have := gUp_len l l.length
    rw [grpsL, ← this.1]; exact this.2.1
  refine ⟨hlen, hs, fun a ha => ?_, fun j g i h a b hj hi ha hb => ?_, fun j g hj => ?_⟩
  · obtain ⟨j, hj⟩ := List.getElem?_of_mem (hI.all a ha)
    exact ⟨j, grpK l l.length (keyL (callsAt l a)), by rw [grpsL, hI.grps, List.getElem?_map, hj]; rfl, (hin _ _).2 ⟨ha, rfl⟩⟩
  · obtain ⟨k, h1, rfl⟩ := hm j g hj
    obtain ⟨k', h2, rfl⟩ := hm i h hi
    have ea := ((hin _ _).1 ha).2
    have eb := ((hin _ _).1 hb).2
    rw [← key_iff, ea, eb]
    constructor
    · intro e
      subst e
      rw [h1] at h2
      exact Option.some.inj h2
    · intro e
      subst e
      have hjl := (List.getElem?_eq_some_iff.1 h1).1
      exact (List.getElem?_inj hjl hI.nodup).1 (h1.trans h2.symm)
  · obtain ⟨k, _, rfl⟩ := hm j g hj
    rw [grpK]
    exact Nat.le_trans (List.length_filter_le _ _) (by simp)
theorem Partition_law (l : List Trp) (c : Cap) (a b : Int) (hw : ∀ t ∈ l, t.wf) : PCalls PR i_transitlaw17_TripPartition [.slice (l.map Trp.row) c, .int .i64 a, .int .i64 b] (fun v => v = .bool true) := by
  have hx := exampleHolds_ok
  have ht := table_ok l c 40 (by omega)
  refine acalls_pop fn_transitlaw17_TripPartition_ok (by simp [fn_transitlaw17_TripPartition]) ?_
  simp -implicitDefEqProofs (disch := omega) only [go_sem, Nat.reduceAdd, Nat.reduceMul, Nat.reduceSub, Nat.reduceBEq, Nat.reduceLeDiff, Nat.reduceLT, fn_transitlaw17_TripPartition, e9_1, w9_1, e9_3, w9_3, c9_4, e9_6, w9_6, e9_8, w9_8, e9_10, w9_10, e9_12, w9_12, e9_14, w9_14, e9_16, w9_16, e9_18, w9_18, e9_20, w9_20, e9_22, w9_22, e9_24, w9_24, e9_26, w9_26, e9_28, w9_28, c9_29, c9_30, e9_32, w9_32, c9_33, c9_34, c9_35, c9_36, c9_37, c9_38, c9_39, e9_41, w9_41, c9_42, c9_43, c9_44, c9_45, c9_46, e9_48, w9_48, c9_49, c9_50, c9_51, c9_52, c9_53, c9_54]
  first | refine callD (ht) ?_ | refine callQD (ht) ?_
  refine ifB (fun h => ?_) (fun h => ?_)
  · simp -implicitDefEqProofs (disch := omega) only [go_sem, Nat.reduceAdd, Nat.reduceMul, Nat.reduceSub, Nat.reduceBEq, Nat.reduceLeDiff, Nat.reduceLT, fn_transitlaw17_TripPartition, e9_1, w9_1, e9_3, w9_3, c9_4, e9_6, w9_6, e9_8, w9_8, e9_10, w9_10, e9_12, w9_12, e9_14, w9_14, e9_16, w9_16, e9_18, w9_18, e9_20, w9_20, e9_22, w9_22, e9_24, w9_24, e9_26, w9_26, e9_28, w9_28, c9_29, c9_30, e9_32, w9_32, c9_33, c9_34, c9_35, c9_36, c9_37, c9_38, c9_39, e9_41, w9_41, c9_42, c9_43, c9_44, c9_45, c9_46, e9_48, w9_48, c9_49, c9_50, c9_51, c9_52, c9_53, c9_54]
    first | refine callD (hx) ?_ | refine callQD (hx) ?_
    simp -implicitDefEqProofs (disch := omega) only [go_sem, Nat.reduceAdd, Nat.reduceMul, Nat.reduceSub, Nat.reduceBEq, Nat.reduceLeDiff, Nat.reduceLT, fn_transitlaw17_TripPartition, e9_1, w9_1, e9_3, w9_3, c9_4, e9_6, w9_6, e9_8, w9_8, e9_10, w9_10, e9_12, w9_12, e9_14, w9_14, e9_16, w9_16, e9_18, w9_18, e9_20, w9_20, e9_22, w9_22, e9_24, w9_24, e9_26, w9_26, e9_28, w9_28, c9_29, c9_30, e9_32, w9_32, c9_33, c9_34, c9_35, c9_36, c9_37, c9_38, c9_39, e9_41, w9_41, c9_42, c9_43, c9_44, c9_45, c9_46, e9_48, w9_48, c9_49, c9_50, c9_51, c9_52, c9_53, c9_54]
  obtain ⟨hl, hs⟩ := table_spec (l := l) (n := 40) (by simpa using h)
  simp -implicitDefEqProofs (disch := omega) only [go_sem, Nat.reduceAdd, Nat.reduceMul, Nat.reduceSub, Nat.reduceBEq, Nat.reduceLeDiff, Nat.reduceLT, fn_transitlaw17_TripPartition, e9_1, w9_1, e9_3, w9_3, c9_4, e9_6, w9_6, e9_8, w9_8, e9_10, w9_10, e9_12, w9_12, e9_14, w9_14, e9_16, w9_16, e9_18, w9_18, e9_20, w9_20, e9_22, w9_22, e9_24, w9_24, e9_26, w9_26, e9_28, w9_28, c9_29, c9_30, e9_32, w9_32, c9_33, c9_34, c9_35, c9_36, c9_37, c9_38, c9_39, e9_41, w9_41, c9_42, c9_43, c9_44, c9_45, c9_46, e9_48, w9_48, c9_49, c9_50, c9_51, c9_52, c9_53, c9_54]
  refine ifD (fun k1 => ?_) (fun k1 => ?_)
  · simp -implicitDefEqProofs (disch := omega) only [go_sem, Nat.reduceAdd, Nat.reduceMul, Nat.reduceSub, Nat.reduceBEq, Nat.reduceLeDiff, Nat.reduceLT, fn_transitlaw17_TripPartition, e9_1, w9_1, e9_3, w9_3, c9_4, e9_6, w9_6, e9_8, w9_8, e9_10, w9_10, e9_12, w9_12, e9_14, w9_14, e9_16, w9_16, e9_18, w9_18, e9_20, w9_20, e9_22, w9_22, e9_24, w9_24, e9_26, w9_26, e9_28, w9_28, c9_29, c9_30, e9_32, w9_32, c9_33, c9_34, c9_35, c9_36, c9_37, c9_38, c9_39, e9_41, w9_41, c9_42, c9_43, c9_44, c9_45, c9_46, e9_48, w9_48, c9_49, c9_50, c9_51, c9_52, c9_53, c9_54]
    first | refine callD (hx) ?_ | refine callQD (hx) ?_
    simp -implicitDefEqProofs (disch := omega) only [go_sem, Nat.reduceAdd, Nat.reduceMul, Nat.reduceSub, Nat.reduceBEq, Nat.reduceLeDiff, Nat.reduceLT, fn_transitlaw17_TripPartition, e9_1, w9_1, e9_3, w9_3, c9_4, e9_6, w9_6, e9_8, w9_8, e9_10, w9_10, e9_12, w9_12, e9_14, w9_14, e9_16, w9_16, e9_18, w9_18, e9_20, w9_20, e9_22, w9_22, e9_24, w9_24, e9_26, w9_26, e9_28, w9_28, c9_29, c9_30, e9_32, w9_32, c9_33, c9_34, c9_35, c9_36, c9_37, c9_38, c9_39, e9_41, w9_41, c9_42, c9_43, c9_44, c9_45, c9_46, e9_48, w9_48, c9_49, c9_50, c9_51, c9_52, c9_53, c9_54]
  simp -implicitDefEqProofs (disch := omega) only [go_sem, Nat.reduceAdd, Nat.reduceMul, Nat.reduceSub, Nat.reduceBEq, Nat.reduceLeDiff, Nat.reduceLT, fn_transitlaw17_TripPartition, e9_1, w9_1, e9_3, w9_3, c9_4, e9_6, w9_6, e9_8, w9_8, e9_10, w9_10, e9_12, w9_12, e9_14, w9_14, e9_16, w9_16, e9_18, w9_18, e9_20, w9_20, e9_22, w9_22, e9_24, w9_24, e9_26, w9_26, e9_28, w9_28, c9_29, c9_30, e9_32, w9_32, c9_33, c9_34, c9_35, c9_36, c9_37, c9_38, c9_39, e9_41, w9_41, c9_42, c9_43, c9_44, c9_45, c9_46, e9_48, w9_48, c9_49, c9_50, c9_51, c9_52, c9_53, c9_54, List.length_map]
  refine ifD (fun k2 => ?_) (fun k2 => ?_)
  · simp -implicitDefEqProofs (disch := omega) only [go_sem, Nat.reduceAdd, Nat.reduceMul, Nat.reduceSub, Nat.reduceBEq, Nat.reduceLeDiff, Nat.reduceLT, fn_transitlaw17_TripPartition, e9_1, w9_1, e9_3, w9_3, c9_4, e9_6, w9_6, e9_8, w9_8, e9_10, w9_10, e9_12, w9_12, e9_14, w9_14, e9_16, w9_16, e9_18, w9_18, e9_20, w9_20, e9_22, w9_22, e9_24, w9_24, e9_26, w9_26, e9_28, w9_28, c9_29, c9_30, e9_32, w9_32, c9_33, c9_34, c9_35, c9_36, c9_37, c9_38, c9_39, e9_41, w9_41, c9_42, c9_43, c9_44, c9_45, c9_46, e9_48, w9_48, c9_49, c9_50, c9_51, c9_52, c9_53, c9_54]
    first | refine callD (hx) ?_ | refine callQD (hx) ?_
    simp -implicitDefEqProofs (disch := omega) only [go_sem, Nat.reduceAdd, Nat.reduceMul, Nat.reduceSub, Nat.reduceBEq, Nat.reduceLeDiff, Nat.reduceLT, fn_transitlaw17_TripPartition, e9_1, w9_1, e9_3, w9_3, c9_4, e9_6, w9_6, e9_8, w9_8, e9_10, w9_10, e9_12, w9_12, e9_14, w9_14, e9_16, w9_16, e9_18, w9_18, e9_20, w9_20, e9_22, w9_22, e9_24, w9_24, e9_26, w9_26, e9_28, w9_28, c9_29, c9_30, e9_32, w9_32, c9_33, c9_34, c9_35, c9_36, c9_37, c9_38, c9_39, e9_41, w9_41, c9_42, c9_43, c9_44, c9_45, c9_46, e9_48, w9_48, c9_49, c9_50, c9_51, c9_52, c9_53, c9_54]
  simp -implicitDefEqProofs (disch := omega) only [go_sem, Nat.reduceAdd, Nat.reduceMul, Nat.reduceSub, Nat.reduceBEq, Nat.reduceLeDiff, Nat.reduceLT, fn_transitlaw17_TripPartition, e9_1, w9_1, e9_3, w9_3, c9_4, e9_6, w9_6, e9_8, w9_8, e9_10, w9_10, e9_12, w9_12, e9_14, w9_14, e9_16, w9_16, e9_18, w9_18, e9_20, w9_20, e9_22, w9_22, e9_24, w9_24, e9_26, w9_26, e9_28, w9_28, c9_29, c9_30, e9_32, w9_32, c9_33, c9_34, c9_35, c9_36, c9_37, c9_38, c9_39, e9_41, w9_41, c9_42, c9_43, c9_44, c9_45, c9_46, e9_48, w9_48, c9_49, c9_50, c9_51, c9_52, c9_53, c9_54]
  refine ifD (fun k3 => ?_) (fun k3 => ?_)
  · simp -implicitDefEqProofs (disch := omega) only [go_sem, Nat.reduceAdd, Nat.reduceMul, Nat.reduceSub, Nat.reduceBEq, Nat.reduceLeDiff, Nat.reduceLT, fn_transitlaw17_TripPartition, e9_1, w9_1, e9_3, w9_3, c9_4, e9_6, w9_6, e9_8, w9_8, e9_10, w9_10, e9_12, w9_12, e9_14, w9_14, e9_16, w9_16, e9_18, w9_18, e9_20, w9_20, e9_22, w9_22, e9_24, w9_24, e9_26, w9_26, e9_28, w9_28, c9_29, c9_30, e9_32, w9_32, c9_33, c9_34, c9_35, c9_36, c9_37, c9_38, c9_39, e9_41, w9_41, c9_42, c9_43, c9_44, c9_45, c9_46, e9_48, w9_48, c9_49, c9_50, c9_51, c9_52, c9_53, c9_54]
    first | refine callD (hx) ?_ | refine callQD (hx) ?_
    simp -implicitDefEqProofs (disch := omega) only [go_sem, Nat.reduceAdd, Nat.reduceMul, Nat.reduceSub, Nat.reduceBEq, Nat.reduceLeDiff, Nat.reduceLT, fn_transitlaw17_TripPartition, e9_1, w9_1, e9_3, w9_3, c9_4, e9_6, w9_6, e9_8, w9_8, e9_10, w9_10, e9_12, w9_12, e9_14, w9_14, e9_16, w9_16, e9_18, w9_18, e9_20, w9_20, e9_22, w9_22, e9_24, w9_24, e9_26, w9_26, e9_28, w9_28, c9_29, c9_30, e9_32, w9_32, c9_33, c9_34, c9_35, c9_36, c9_37, c9_38, c9_39, e9_41, w9_41, c9_42, c9_43, c9_44, c9_45, c9_46, e9_48, w9_48, c9_49, c9_50, c9_51, c9_52, c9_53, c9_54]
  simp -implicitDefEqProofs (disch := omega) only [go_sem, Nat.reduceAdd, Nat.reduceMul, Nat.reduceSub, Nat.reduceBEq, Nat.reduceLeDiff, Nat.reduceLT, fn_transitlaw17_TripPartition, e9_1, w9_1, e9_3, w9_3, c9_4, e9_6, w9_6, e9_8, w9_8, e9_10, w9_10, e9_12, w9_12, e9_14, w9_14, e9_16, w9_16, e9_18, w9_18, e9_20, w9_20, e9_22, w9_22, e9_24, w9_24, e9_26, w9_26, e9_28, w9_28, c9_29, c9_30, e9_32, w9_32, c9_33, c9_34, c9_35, c9_36, c9_37, c9_38, c9_39, e9_41, w9_41, c9_42, c9_43, c9_44, c9_45, c9_46, e9_48, w9_48, c9_49, c9_50, c9_51, c9_52, c9_53, c9_54, List.length_map]
  refine ifD (fun k4 => ?_) (fun k4 => ?_)
  · simp -implicitDefEqProofs (disch := omega) only [go_sem, Nat.reduceAdd, Nat.reduceMul, Nat.reduceSub, Nat.reduceBEq, Nat.reduceLeDiff, Nat.reduceLT, fn_transitlaw17_TripPartition, e9_1, w9_1, e9_3, w9_3, c9_4, e9_6, w9_6, e9_8, w9_8, e9_10, w9_10, e9_12, w9_12, e9_14, w9_14, e9_16, w9_16, e9_18, w9_18, e9_20, w9_20, e9_22, w9_22, e9_24, w9_24, e9_26, w9_26, e9_28, w9_28, c9_29, c9_30, e9_32, w9_32, c9_33, c9_34, c9_35, c9_36, c9_37, c9_38, c9_39, e9_41, w9_41, c9_42, c9_43, c9_44, c9_45, c9_46, e9_48, w9_48, c9_49, c9_50, c9_51, c9_52, c9_53, c9_54]
    first | refine callD (hx) ?_ | refine callQD (hx) ?_
    simp -implicitDefEqProofs (disch := omega) only [go_sem, Nat.reduceAdd, Nat.reduceMul, Nat.reduceSub, Nat.reduceBEq, Nat.reduceLeDiff, Nat.reduceLT, fn_transitlaw17_TripPartition, e9_1, w9_1, e9_3, w9_3, c9_4, e9_6, w9_6, e9_8, w9_8, e9_10, w9_10, e9_12, w9_12, e9_14, w9_14, e9_16, w9_16, e9_18, w9_18, e9_20, w9_20, e9_22, w9_22, e9_24, w9_24, e9_26, w9_26, e9_28, w9_28, c9_29, c9_30, e9_32, w9_32, c9_33, c9_34, c9_35, c9_36, c9_37, c9_38, c9_39, e9_41, w9_41, c9_42, c9_43, c9_44, c9_45, c9_46, e9_48, w9_48, c9_49, c9_50, c9_51, c9_52, c9_53, c9_54]
  obtain ⟨a, rfl⟩ : ∃ n : Nat, a = n := ⟨a.toNat, by omega⟩
  obtain ⟨b, rfl⟩ : ∃ n : Nat, b = n := ⟨b.toNat, by omega⟩
  have hc : ∀ t ∈ l, t.calls.length ≤ 1000 := fun t ht => by have := (hs t ht).2; omega
  have h1 := Groups_ok l c (by omega) (fun t ht => ⟨hc t ht, (hw t ht).2.2.2.1⟩)
  have hP := part_of l
  generalize grpsL l = G at *
  have hrow : ∀ (j : Nat) (x : List Nat), G[j]? = some x → (G.map fun g => [grpV g])[j]? = some [.slice ((ints x).map iRow) .unk] := fun j x h => by rw [List.getElem?_map, h, ← idx_rows]; rfl
  simp -implicitDefEqProofs (disch := omega) only [go_sem, Nat.reduceAdd, Nat.reduceMul, Nat.reduceSub, Nat.reduceBEq, Nat.reduceLeDiff, Nat.reduceLT, fn_transitlaw17_TripPartition, e9_1, w9_1, e9_3, w9_3, c9_4, e9_6, w9_6, e9_8, w9_8, e9_10, w9_10, e9_12, w9_12, e9_14, w9_14, e9_16, w9_16, e9_18, w9_18, e9_20, w9_20, e9_22, w9_22, e9_24, w9_24, e9_26, w9_26, e9_28, w9_28, c9_29, c9_30, e9_32, w9_32, c9_33, c9_34, c9_35, c9_36, c9_37, c9_38, c9_39, e9_41, w9_41, c9_42, c9_43, c9_44, c9_45, c9_46, e9_48, w9_48, c9_49, c9_50, c9_51, c9_52, c9_53, c9_54]
  first | refine callD (h1) ?_ | refine callQD (h1) ?_
  simp -implicitDefEqProofs (disch := omega) only [go_sem, Nat.reduceAdd, Nat.reduceMul, Nat.reduceSub, Nat.reduceBEq, Nat.reduceLeDiff, Nat.reduceLT, fn_transitlaw17_TripPartition, e9_1, w9_1, e9_3, w9_3, c9_4, e9_6, w9_6, e9_8, w9_8, e9_10, w9_10, e9_12, w9_12, e9_14, w9_14, e9_16, w9_16, e9_18, w9_18, e9_20, w9_20, e9_22, w9_22, e9_24, w9_24, e9_26, w9_26, e9_28, w9_28, c9_29, c9_30, e9_32, w9_32, c9_33, c9_34, c9_35, c9_36, c9_37, c9_38, c9_39, e9_41, w9_41, c9_42, c9_43, c9_44, c9_45, c9_46, e9_48, w9_48, c9_49, c9_50, c9_51, c9_52, c9_53, c9_54, grpsV, List.length_map]
  refine wpC_forL G (fun i vs M => ∃ x y : Int, InG G a i 0 x ∧ InG G b i 0 y ∧ vs = [.slice (l.map Trp.row) c, .int .i64 a, .int .i64 b, .slice (G.map fun g => [grpV g]) .unk, .int .i64 x, .int .i64 y, .int .i64 (((G.take i).map List.length).sum : Nat), .int .i64 i] ∧ M = []) ⟨-1, -1, InG.zero G a, InG.zero G b, rfl, rfl⟩ ?_ ?_
  · rintro i g vs M hg hi hd ⟨x, y, gx, gy, rfl, rfl⟩
    have hgr := hrow i g hg
    have hgl := hP.mem i g hg
    have hGl := hP.len
    have hil : (ints g).length = g.length := by simp [ints]
    have hst := sum_take G i g hg
    have hle := sum_take_le G (i + 1)
    rw [hP.sum] at hle
    have eadd : (((G.take i).map List.length).sum : Int) + (g.length : Int) = (((G.take (i + 1)).map List.length).sum : Nat) := by omega
    simp -implicitDefEqProofs (disch := omega) only [go_sem, Nat.reduceAdd, Nat.reduceMul, Nat.reduceSub, Nat.reduceBEq, Nat.reduceLeDiff, Nat.reduceLT, fn_transitlaw17_TripPartition, e9_1, w9_1, e9_3, w9_3, c9_4, e9_6, w9_6, e9_8, w9_8, e9_10, w9_10, e9_12, w9_12, e9_14, w9_14, e9_16, w9_16, e9_18, w9_18, e9_20, w9_20, e9_22, w9_22, e9_24, w9_24, e9_26, w9_26, e9_28, w9_28, c9_29, c9_30, e9_32, w9_32, c9_33, c9_34, c9_35, c9_36, c9_37, c9_38, c9_39, e9_41, w9_41, c9_42, c9_43, c9_44, c9_45, c9_46, e9_48, w9_48, c9_49, c9_50, c9_51, c9_52, c9_53, c9_54, hd, List.length_map, hgr, hil, eadd]
    refine wpC_forL g (fun k vs M => ∃ x y : Int, InG G a i k x ∧ InG G b i k y ∧ vs = [.slice (l.map Trp.row) c, .int .i64 a, .int .i64 b, .slice (G.map fun g => [grpV g]) .unk, .int .i64 x, .int .i64 y, .int .i64 (((G.take (i + 1)).map List.length).sum : Nat), .int .i64 i, .int .i64 k] ∧ M = []) ⟨x, y, gx, gy, rfl, rfl⟩ ?_ ?_
    rotate_left
    · rintro vs M ⟨x, y, gx, gy, rfl, rfl⟩
      simp -implicitDefEqProofs (disch := omega) only [go_sem, Nat.reduceAdd, Nat.reduceMul, Nat.reduceSub, Nat.reduceBEq, Nat.reduceLeDiff, Nat.reduceLT, fn_transitlaw17_TripPartition, e9_1, w9_1, e9_3, w9_3, c9_4, e9_6, w9_6, e9_8, w9_8, e9_10, w9_10, e9_12, w9_12, e9_14, w9_14, e9_16, w9_16, e9_18, w9_18, e9_20, w9_20, e9_22, w9_22, e9_24, w9_24, e9_26, w9_26, e9_28, w9_28, c9_29, c9_30, e9_32, w9_32, c9_33, c9_34, c9_35, c9_36, c9_37, c9_38, c9_39, e9_41, w9_41, c9_42, c9_43, c9_44, c9_45, c9_46, e9_48, w9_48, c9_49, c9_50, c9_51, c9_52, c9_53, c9_54, List.length_map, hgr, hil, dec_irrefl]
      exact next_stay hi ⟨x, y, gx.next hg, gy.next hg, rfl, rfl⟩
    rintro k e vs M hk hkl hd2 ⟨x, y, gx, gy, rfl, rfl⟩
    have ge := irow_at (l := ints g) (i := k) (x := (e : Int)) (by rw [ints, List.getElem?_map, hk]; rfl)
    simp -implicitDefEqProofs (disch := omega) only [go_sem, Nat.reduceAdd, Nat.reduceMul, Nat.reduceSub, Nat.reduceBEq, Nat.reduceLeDiff, Nat.reduceLT, fn_transitlaw17_TripPartition, e9_1, w9_1, e9_3, w9_3, c9_4, e9_6, w9_6, e9_8, w9_8, e9_10, w9_10, e9_12, w9_12, e9_14, w9_14, e9_16, w9_16, e9_18, w9_18, e9_20, w9_20, e9_22, w9_22, e9_24, w9_24, e9_26, w9_26, e9_28, w9_28, c9_29, c9_30, e9_32, w9_32, c9_33, c9_34, c9_35, c9_36, c9_37, c9_38, c9_39, e9_41, w9_41, c9_42, c9_43, c9_44, c9_45, c9_46, e9_48, w9_48, c9_49, c9_50, c9_51, c9_52, c9_53, c9_54, List.length_map, hgr, hil, hd2, ge]
    refine ifD (fun q1 => ?_) (fun q1 => ?_)
    · have q1' : e = a := by omega
      subst q1'
      simp -implicitDefEqProofs (disch := omega) only [go_sem, Nat.reduceAdd, Nat.reduceMul, Nat.reduceSub, Nat.reduceBEq, Nat.reduceLeDiff, Nat.reduceLT, fn_transitlaw17_TripPartition, e9_1, w9_1, e9_3, w9_3, c9_4, e9_6, w9_6, e9_8, w9_8, e9_10, w9_10, e9_12, w9_12, e9_14, w9_14, e9_16, w9_16, e9_18, w9_18, e9_20, w9_20, e9_22, w9_22, e9_24, w9_24, e9_26, w9_26, e9_28, w9_28, c9_29, c9_30, e9_32, w9_32, c9_33, c9_34, c9_35, c9_36, c9_37, c9_38, c9_39, e9_41, w9_41, c9_42, c9_43, c9_44, c9_45, c9_46, e9_48, w9_48, c9_49, c9_50, c9_51, c9_52, c9_53, c9_54, List.length_map, hgr, hil, ge]
      refine ifD (fun q2 => ?_) (fun q2 => ?_)
      · have q2' : e = b := by omega
        subst q2'
        simp -implicitDefEqProofs (disch := omega) only [go_sem, Nat.reduceAdd, Nat.reduceMul, Nat.reduceSub, Nat.reduceBEq, Nat.reduceLeDiff, Nat.reduceLT, fn_transitlaw17_TripPartition, e9_1, w9_1, e9_3, w9_3, c9_4, e9_6, w9_6, e9_8, w9_8, e9_10, w9_10, e9_12, w9_12, e9_14, w9_14, e9_16, w9_16, e9_18, w9_18, e9_20, w9_20, e9_22, w9_22, e9_24, w9_24, e9_26, w9_26, e9_28, w9_28, c9_29, c9_30, e9_32, w9_32, c9_33, c9_34, c9_35, c9_36, c9_37, c9_38, c9_39, e9_41, w9_41, c9_42, c9_43, c9_44, c9_45, c9_46, e9_48, w9_48, c9_49, c9_50, c9_51, c9_52, c9_53, c9_54]
        exact next_stay hkl ⟨i, i, InG.hit hg hk _, InG.hit hg hk _, rfl, rfl⟩
      · simp -implicitDefEqProofs (disch := omega) only [go_sem, Nat.reduceAdd, Nat.reduceMul, Nat.reduceSub, Nat.reduceBEq, Nat.reduceLeDiff, Nat.reduceLT, fn_transitlaw17_TripPartition, e9_1, w9_1, e9_3, w9_3, c9_4, e9_6, w9_6, e9_8, w9_8, e9_10, w9_10, e9_12, w9_12, e9_14, w9_14, e9_16, w9_16, e9_18, w9_18, e9_20, w9_20, e9_22, w9_22, e9_24, w9_24, e9_26, w9_26, e9_28, w9_28, c9_29, c9_30, e9_32, w9_32, c9_33, c9_34, c9_35, c9_36, c9_37, c9_38, c9_39, e9_41, w9_41, c9_42, c9_43, c9_44, c9_45, c9_46, e9_48, w9_48, c9_49, c9_50, c9_51, c9_52, c9_53, c9_54]
        exact next_stay hkl ⟨i, y, InG.hit hg hk _, gy.miss hg hk (by omega), rfl, rfl⟩
    · simp -implicitDefEqProofs (disch := omega) only [go_sem, Nat.reduceAdd, Nat.reduceMul, Nat.reduceSub, Nat.reduceBEq, Nat.reduceLeDiff, Nat.reduceLT, fn_transitlaw17_TripPartition, e9_1, w9_1, e9_3, w9_3, c9_4, e9_6, w9_6, e9_8, w9_8, e9_10, w9_10, e9_12, w9_12, e9_14, w9_14, e9_16, w9_16, e9_18, w9_18, e9_20, w9_20, e9_22, w9_22, e9_24, w9_24, e9_26, w9_26, e9_28, w9_28, c9_29, c9_30, e9_32, w9_32, c9_33, c9_34, c9_35, c9_36, c9_37, c9_38, c9_39, e9_41, w9_41, c9_42, c9_43, c9_44, c9_45, c9_46, e9_48, w9_48, c9_49, c9_50, c9_51, c9_52, c9_53, c9_54, List.length_map, hgr, hil, ge]
      refine ifD (fun q2 => ?_) (fun q2 => ?_)
      · have q2' : e = b := by omega
        subst q2'
        simp -implicitDefEqProofs (disch := omega) only [go_sem, Nat.reduceAdd, Nat.reduceMul, Nat.reduceSub, Nat.reduceBEq, Nat.reduceLeDiff, Nat.reduceLT, fn_transitlaw17_TripPartition, e9_1, w9_1, e9_3, w9_3, c9_4, e9_6, w9_6, e9_8, w9_8, e9_10, w9_10, e9_12, w9_12, e9_14, w9_14, e9_16, w9_16, e9_18, w9_18, e9_20, w9_20, e9_22, w9_22, e9_24, w9_24, e9_26, w9_26, e9_28, w9_28, c9_29, c9_30, e9_32, w9_32, c9_33, c9_34, c9_35, c9_36, c9_37, c9_38, c9_39, e9_41, w9_41, c9_42, c9_43, c9_44, c9_45, c9_46, e9_48, w9_48, c9_49, c9_50, c9_51, c9_52, c9_53, c9_54]
        exact next_stay hkl ⟨x, i, gx.miss hg hk (by omega), InG.hit hg hk _, rfl, rfl⟩
      · simp -implicitDefEqProofs (disch := omega) only [go_sem, Nat.reduceAdd, Nat.reduceMul, Nat.reduceSub, Nat.reduceBEq, Nat.reduceLeDiff, Nat.reduceLT, fn_transitlaw17_TripPartition, e9_1, w9_1, e9_3, w9_3, c9_4, e9_6, w9_6, e9_8, w9_8, e9_10, w9_10, e9_12, w9_12, e9_14, w9_14, e9_16, w9_16, e9_18, w9_18, e9_20, w9_20, e9_22, w9_22, e9_24, w9_24, e9_26, w9_26, e9_28, w9_28, c9_29, c9_30, e9_32, w9_32, c9_33, c9_34, c9_35, c9_36, c9_37, c9_38, c9_39, e9_41, w9_41, c9_42, c9_43, c9_44, c9_45, c9_46, e9_48, w9_48, c9_49, c9_50, c9_51, c9_52, c9_53, c9_54]
        exact next_stay hkl ⟨x, y, gx.miss hg hk (by omega), gy.miss hg hk (by omega), rfl, rfl⟩
  · rintro vs M ⟨x, y, gx, gy, rfl, rfl⟩
    have fin : ∀ {a : Nat} {x : Int}, a < l.length → InG G a G.length 0 x → ∃ (j : Nat) (g : List Nat), G[j]? = some g ∧ a ∈ g ∧ x = (j : Int) := fun {a x} ha h => by
      rcases h with ⟨_, h2, _⟩ | h
      · obtain ⟨j, g, hj, hm⟩ := hP.all a ha
        exact absurd hm (h2 j g (List.getElem?_eq_some_iff.1 hj).1 hj)
      · exact h
    obtain ⟨j, g, hj, ha, rfl⟩ := fin (by omega) gx
    obtain ⟨i, g', hi, hb, rfl⟩ := fin (by omega) gy
    have hsame := hP.same j g i g' a b hj hi ha hb
    have hta : l[a]? = some (l[a]'(by omega)) := by simp
    have htb : l[b]? = some (l[b]'(by omega)) := by simp
    rw [callsAt_some hta, callsAt_some htb] at hsame
    have ga := trp_at hta
    have gb := trp_at htb
    have hsp := trip_SamePattern_ok l[a] l[b] (hc _ (List.mem_of_getElem? hta))
    generalize l[a] = ta at *
    generalize l[b] = tb at *
    simp only [Trp.row] at hsp
    have hsum : ((List.map List.length (List.take G.length G)).sum : Int) = (l.length : Int) := by rw [List.take_length, hP.sum]
    have d1 : decide ((0 : Int) ≤ (j : Int)) = true := decide_eq_true (by omega)
    have d2 : decide ((0 : Int) ≤ (i : Int)) = true := decide_eq_true (by omega)
    have e : (decide ((j : Int) = (i : Int))) = samePat ta.calls tb.calls := by
      rw [Bool.eq_iff_iff, decide_eq_true_eq, ← hsame]; omega
    rw [hsum]
    simp -implicitDefEqProofs (disch := omega) only [go_sem, Nat.reduceAdd, Nat.reduceMul, Nat.reduceSub, Nat.reduceBEq, Nat.reduceLeDiff, Nat.reduceLT, fn_transitlaw17_TripPartition, e9_1, w9_1, e9_3, w9_3, c9_4, e9_6, w9_6, e9_8, w9_8, e9_10, w9_10, e9_12, w9_12, e9_14, w9_14, e9_16, w9_16, e9_18, w9_18, e9_20, w9_20, e9_22, w9_22, e9_24, w9_24, e9_26, w9_26, e9_28, w9_28, c9_29, c9_30, e9_32, w9_32, c9_33, c9_34, c9_35, c9_36, c9_37, c9_38, c9_39, e9_41, w9_41, c9_42, c9_43, c9_44, c9_45, c9_46, e9_48, w9_48, c9_49, c9_50, c9_51, c9_52, c9_53, c9_54, List.length_map, dec_irrefl, d1, d2, ga, gb, e]
    first | refine callD (hsp) ?_ | refine callQD (hsp) ?_
    simp -implicitDefEqProofs (disch := omega) only [go_sem, Nat.reduceAdd, Nat.reduceMul, Nat.reduceSub, Nat.reduceBEq, Nat.reduceLeDiff, Nat.reduceLT, fn_transitlaw17_TripPartition, e9_1, w9_1, e9_3, w9_3, c9_4, e9_6, w9_6, e9_8, w9_8, e9_10, w9_10, e9_12, w9_12, e9_14, w9_14, e9_16, w9_16, e9_18, w9_18, e9_20, w9_20, e9_22, w9_22, e9_24, w9_24, e9_26, w9_26, e9_28, w9_28, c9_29, c9_30, e9_32, w9_32, c9_33, c9_34, c9_35, c9_36, c9_37, c9_38, c9_39, e9_41, w9_41, c9_42, c9_43, c9_44, c9_45, c9_46, e9_48, w9_48, c9_49, c9_50, c9_51, c9_52, c9_53, c9_54]
    first | refine callD (hx) ?_ | refine callQD (hx) ?_
    simp -implicitDefEqProofs (disch := omega) only [go_sem, Nat.reduceAdd, Nat.reduceMul, Nat.reduceSub, Nat.reduceBEq, Nat.reduceLeDiff, Nat.reduceLT, fn_transitlaw17_TripPartition, e9_1, w9_1, e9_3, w9_3, c9_4, e9_6, w9_6, e9_8, w9_8, e9_10, w9_10, e9_12, w9_12, e9_14, w9_14, e9_16, w9_16, e9_18, w9_18, e9_20, w9_20, e9_22, w9_22, e9_24, w9_24, e9_26, w9_26, e9_28, w9_28, c9_29, c9_30, e9_32, w9_32, c9_33, c9_34, c9_35, c9_36, c9_37, c9_38, c9_39, e9_41, w9_41, c9_42, c9_43, c9_44, c9_45, c9_46, e9_48, w9_48, c9_49, c9_50, c9_51, c9_52, c9_53, c9_54]

/-! ### A call on values that lead to memory, read as they stand -/
theorem isScal_rep {w w' : World} {Γ Γ' : Env} {v : V} {cv : Value} (hs : v.isScal = true) (h : Rep w Γ v cv) : Rep w' Γ' v cv := by
  cases h <;> simp [V.isScal] at hs
  · exact .bool _
  · exact .int _ _
  · exact .str _
  · exact .nilp
  · exact .nilf
  · exact .nilm
/-- A call whose arguments lead to memory, where the callee's contract speaks of the frozen arguments, and its result is a number, a string or a truth value. -/
theorem callF {f : Nat} {args args' : List V} {R : V → Prop} {M : Mem} {K : V → Mem → Prop} (h : PCalls PR f args' R) (hf : mapO (freezeV M 0 20) args = some args') (hu : underL 0 args' = true) (hs : ∀ v, R v → v.isScal = true) (hk : ∀ v, R v → K v M) : ACalls PR f args M K := by
  refine ⟨h.1, fun w Γ cargs hg ha => ?_⟩
  obtain ⟨hl, hget⟩ := mapO_get hf
  let Γ1 : Env := ⟨w.heap.size, [], (Γ.froze w 0).S⟩
  have hg1 : Good w Γ1 [] := ⟨rfl, fun i l B hl => by simp [Γ1] at hl, fun i l hl => by simp [Γ1] at hl, fun i j l l' hl => by simp [Γ1] at hl, fun b o hs => by
    rcases hs with hs | ⟨_, _, _, _, _, _, hv⟩
    · exact hg.scell b o hs
    · exact hv, Nat.le_refl _, fun w' hb => hg.tab w' (hb.mono hg.base)⟩
  have hargs : RepL w Γ1 args' cargs := ⟨by rw [ha.1, hl], fun j y hy => by
    obtain ⟨x, hx, hxy⟩ := hget j y hy
    exact Rep.move (n := 0) (w := w) (Γ := Γ.froze w 0) (Γ' := Γ1) (w' := w) (fun b o hs => ⟨hs, rfl⟩) (fun i hi => absurd hi (Nat.not_lt_zero i)) (freeze_rep hg 20 (ha.2 j x hx) hxy) (underL_get hu j y hy)⟩
  refine (h.2 w Γ1 cargs hg1 hargs).mono ?_
  rintro e w' ⟨v, cv, Γ0, M', he, ⟨hR, hM, _⟩, hrep, hg0, hext⟩
  subst hM
  have hbel : Go.RowKit.Below w.heap.size w w' := hext.below
  let Γ' : Env := ⟨Γ.B0, Γ.locs, fun b q => Γ0.S b q ∧ (b < w.heap.size → Γ.S b q)⟩
  have hE : Ext w Γ w' Γ' := ⟨fun b q hs => ⟨⟨(hext.s b q (Or.inl hs)).1, fun _ => hs⟩, (hext.s b q (Or.inl hs)).2⟩, fun i l hl => ⟨l, hl, Nat.le_refl _, fun _ => rfl, fun _ => rfl⟩, rfl, hbel.mono hg.base, fun b q hb hs => hs.2 (Nat.lt_of_lt_of_le hb hg.base)⟩
  refine ⟨v, cv, Γ', M, he, hk v hR, isScal_rep (hs v hR) hrep, ?_, hE⟩
  exact ⟨hg.len, fun i l B hl hB => (hg.blk i l B hl hB).keep hE (fun hv => hbel.block _ (hg.loc_lt hl hv)) (fun hv q hs => hs.2 (hg.loc_lt hl hv)), hg.b0, hg.inj, fun b q hs => hg0.scell b q hs.1, Nat.le_trans hg.base hbel.size, hg.tab_ext hE⟩
theorem callFD {f : Nat} {args args' : List V} {v : V} {M : Mem} {K : V → Mem → Prop} (h : PCalls PR f args' (fun x => x = v)) (hf : mapO (freezeV M 0 20) args = some args') (hu : underL 0 args' = true) (hs : v.isScal = true) (hk : K v M) : @CallH PR f args M ⟨K⟩ :=
  callF h hf hu (fun x hx => by rw [hx]; exact hs) fun x hx => by rw [hx]; exact hk

/-! ### The same events, later -/
def Stay.later (s : Int) (c : Stay) : Stay := ⟨c.stop, c.arrive + s, c.depart + s, c.board, c.alight⟩
def laterL (s : Int) (l : List Stay) : List Stay := l.map (Stay.later s)
theorem laterL_len (s : Int) (l : List Stay) : (laterL s l).length = l.length := by simp [laterL]
theorem laterL_snoc {s : Int} {l : List Stay} {i : Nat} {x : Stay} (h : l[i]? = some x) : laterL s (l.take (i + 1)) = laterL s (l.take i) ++ [x.later s] := by rw [laterL, List.take_add_one, h]; simp [laterL]
theorem evO_later (s : Int) (l : List Stay) {k : Nat} (hk : k < 2 * l.length) : evO (laterL s l) k = evO l k + s := by
  obtain ⟨x, hx⟩ : ∃ x, l[k / 2]? = some x := ⟨l[k / 2]'(by omega), by simp⟩
  have hy : (laterL s l)[k / 2]? = some (x.later s) := by rw [laterL, List.getElem?_map, hx]; rfl
  simp only [evO, hx, hy, Stay.later]
  split <;> rfl
theorem samePat_later (s : Int) (l : List Stay) : samePat l (laterL s l) = true := by
  refine decide_eq_true ?_
  simp [patL, laterL, Function.comp_def, patC, Stay.later]
theorem no_overt {a b : List Stay} (s : Int) (h : ∀ k, k < 2 * a.length → evO a k = evO b k + s) : overt a b = false := by
  refine overt_false fun k hk => ?_
  cases hL : laterU a b k
  · simp only [hitU, hL, Bool.false_and]
  obtain ⟨i, hi, h1⟩ := laterU_iff.1 hL
  simp only [hitU, hL, Bool.true_and]
  refine decide_eq_false fun h2 => ?_
  have e1 := h i (by omega)
  have e2 := h k hk
  omega
theorem getapp {M : Mem} {i : Nat} {B : Blk} (h : M[i]? = some B) (X : Blk) : (M ++ [X])[i]? = some B := by
  rw [List.getElem?_append_left (List.getElem?_eq_some_iff.1 h).1]; exact h
def uRow (t : Trp) (w : V) : List V := [.str t.id, .int .i64 t.route, .int .i64 t.cal, .bool t.free, w]
/-- The later trip's calls in memory, behind i rounds. -/
def Grown (t : Trp) (s : Int) (i : Nat) (M : Mem) : Prop :=
  M[0]? = some (.box t.row) ∧ ((i = 0 ∧ M = [.box t.row, .box (uRow t (.slice [] .nil))]) ∨ (0 < i ∧ ∃ ver, M[1]? = some (.box (uRow t (.mslice 3 ver 0 i))) ∧ M[3]? = some (.arr 5 ((laterL s (t.calls.take i)).map Stay.row) ver 0)))
theorem Follows_law (t : Trp) (s : Int) : PCalls PR i_transitlaw17_TripFollows [.agg t.row, .int .i64 s] (fun v => v = .bool true) := by
  have hx := exampleHolds_ok
  have h1 := small17_ok t
  simp only [Trp.row] at h1
  refine acalls_pop fn_transitlaw17_TripFollows_ok (by simp [fn_transitlaw17_TripFollows]) ?_
  simp -implicitDefEqProofs (disch := omega) only [go_sem, Nat.reduceAdd, Nat.reduceMul, Nat.reduceSub, Nat.reduceBEq, Nat.reduceLeDiff, Nat.reduceLT, fn_transitlaw17_TripFollows, e10_1, w10_1, e10_3, w10_3, c10_4, e10_6, w10_6, e10_8, w10_8, e10_10, w10_10, e10_12, w10_12, e10_14, w10_14, e10_16, w10_16, e10_18, w10_18, c10_19, e10_21, w10_21, e10_23, w10_23, e10_25, w10_25, e10_27, w10_27, c10_28, c10_29, c10_30, c10_31, c10_32, e10_34, w10_34, c10_35, c10_36, c10_37, c10_38, c10_39, e10_41, w10_41, c10_42, c10_43, c10_44, c10_45, c10_46, c10_47, Trp.row]
  first | refine callD (h1) ?_ | refine callQD (h1) ?_
  refine ifB (fun h => ?_) (fun h => ?_)
  · simp -implicitDefEqProofs (disch := omega) only [go_sem, Nat.reduceAdd, Nat.reduceMul, Nat.reduceSub, Nat.reduceBEq, Nat.reduceLeDiff, Nat.reduceLT, fn_transitlaw17_TripFollows, e10_1, w10_1, e10_3, w10_3, c10_4, e10_6, w10_6, e10_8, w10_8, e10_10, w10_10, e10_12, w10_12, e10_14, w10_14, e10_16, w10_16, e10_18, w10_18, c10_19, e10_21, w10_21, e10_23, w10_23, e10_25, w10_25, e10_27, w10_27, c10_28, c10_29, c10_30, c10_31, c10_32, e10_34, w10_34, c10_35, c10_36, c10_37, c10_38, c10_39, e10_41, w10_41, c10_42, c10_43, c10_44, c10_45, c10_46, c10_47]
    first | refine callD (hx) ?_ | refine callQD (hx) ?_
    simp -implicitDefEqProofs (disch := omega) only [go_sem, Nat.reduceAdd, Nat.reduceMul, Nat.reduceSub, Nat.reduceBEq, Nat.reduceLeDiff, Nat.reduceLT, fn_transitlaw17_TripFollows, e10_1, w10_1, e10_3, w10_3, c10_4, e10_6, w10_6, e10_8, w10_8, e10_10, w10_10, e10_12, w10_12, e10_14, w10_14, e10_16, w10_16, e10_18, w10_18, c10_19, e10_21, w10_21, e10_23, w10_23, e10_25, w10_25, e10_27, w10_27, c10_28, c10_29, c10_30, c10_31, c10_32, e10_34, w10_34, c10_35, c10_36, c10_37, c10_38, c10_39, e10_41, w10_41, c10_42, c10_43, c10_44, c10_45, c10_46, c10_47]
  simp -implicitDefEqProofs (disch := omega) only [go_sem, Nat.reduceAdd, Nat.reduceMul, Nat.reduceSub, Nat.reduceBEq, Nat.reduceLeDiff, Nat.reduceLT, fn_transitlaw17_TripFollows, e10_1, w10_1, e10_3, w10_3, c10_4, e10_6, w10_6, e10_8, w10_8, e10_10, w10_10, e10_12, w10_12, e10_14, w10_14, e10_16, w10_16, e10_18, w10_18, c10_19, e10_21, w10_21, e10_23, w10_23, e10_25, w10_25, e10_27, w10_27, c10_28, c10_29, c10_30, c10_31, c10_32, e10_34, w10_34, c10_35, c10_36, c10_37, c10_38, c10_39, e10_41, w10_41, c10_42, c10_43, c10_44, c10_45, c10_46, c10_47]
  refine ifD (fun k1 => ?_) (fun k1 => ?_)
  · simp -implicitDefEqProofs (disch := omega) only [go_sem, Nat.reduceAdd, Nat.reduceMul, Nat.reduceSub, Nat.reduceBEq, Nat.reduceLeDiff, Nat.reduceLT, fn_transitlaw17_TripFollows, e10_1, w10_1, e10_3, w10_3, c10_4, e10_6, w10_6, e10_8, w10_8, e10_10, w10_10, e10_12, w10_12, e10_14, w10_14, e10_16, w10_16, e10_18, w10_18, c10_19, e10_21, w10_21, e10_23, w10_23, e10_25, w10_25, e10_27, w10_27, c10_28, c10_29, c10_30, c10_31, c10_32, e10_34, w10_34, c10_35, c10_36, c10_37, c10_38, c10_39, e10_41, w10_41, c10_42, c10_43, c10_44, c10_45, c10_46, c10_47]
    first | refine callD (hx) ?_ | refine callQD (hx) ?_
    simp -implicitDefEqProofs (disch := omega) only [go_sem, Nat.reduceAdd, Nat.reduceMul, Nat.reduceSub, Nat.reduceBEq, Nat.reduceLeDiff, Nat.reduceLT, fn_transitlaw17_TripFollows, e10_1, w10_1, e10_3, w10_3, c10_4, e10_6, w10_6, e10_8, w10_8, e10_10, w10_10, e10_12, w10_12, e10_14, w10_14, e10_16, w10_16, e10_18, w10_18, c10_19, e10_21, w10_21, e10_23, w10_23, e10_25, w10_25, e10_27, w10_27, c10_28, c10_29, c10_30, c10_31, c10_32, e10_34, w10_34, c10_35, c10_36, c10_37, c10_38, c10_39, e10_41, w10_41, c10_42, c10_43, c10_44, c10_45, c10_46, c10_47]
  simp -implicitDefEqProofs (disch := omega) only [go_sem, Nat.reduceAdd, Nat.reduceMul, Nat.reduceSub, Nat.reduceBEq, Nat.reduceLeDiff, Nat.reduceLT, fn_transitlaw17_TripFollows, e10_1, w10_1, e10_3, w10_3, c10_4, e10_6, w10_6, e10_8, w10_8, e10_10, w10_10, e10_12, w10_12, e10_14, w10_14, e10_16, w10_16, e10_18, w10_18, c10_19, e10_21, w10_21, e10_23, w10_23, e10_25, w10_25, e10_27, w10_27, c10_28, c10_29, c10_30, c10_31, c10_32, e10_34, w10_34, c10_35, c10_36, c10_37, c10_38, c10_39, e10_41, w10_41, c10_42, c10_43, c10_44, c10_45, c10_46, c10_47]
  refine ifD (fun k2 => ?_) (fun k2 => ?_)
  · simp -implicitDefEqProofs (disch := omega) only [go_sem, Nat.reduceAdd, Nat.reduceMul, Nat.reduceSub, Nat.reduceBEq, Nat.reduceLeDiff, Nat.reduceLT, fn_transitlaw17_TripFollows, e10_1, w10_1, e10_3, w10_3, c10_4, e10_6, w10_6, e10_8, w10_8, e10_10, w10_10, e10_12, w10_12, e10_14, w10_14, e10_16, w10_16, e10_18, w10_18, c10_19, e10_21, w10_21, e10_23, w10_23, e10_25, w10_25, e10_27, w10_27, c10_28, c10_29, c10_30, c10_31, c10_32, e10_34, w10_34, c10_35, c10_36, c10_37, c10_38, c10_39, e10_41, w10_41, c10_42, c10_43, c10_44, c10_45, c10_46, c10_47]
    first | refine callD (hx) ?_ | refine callQD (hx) ?_
    simp -implicitDefEqProofs (disch := omega) only [go_sem, Nat.reduceAdd, Nat.reduceMul, Nat.reduceSub, Nat.reduceBEq, Nat.reduceLeDiff, Nat.reduceLT, fn_transitlaw17_TripFollows, e10_1, w10_1, e10_3, w10_3, c10_4, e10_6, w10_6, e10_8, w10_8, e10_10, w10_10, e10_12, w10_12, e10_14, w10_14, e10_16, w10_16, e10_18, w10_18, c10_19, e10_21, w10_21, e10_23, w10_23, e10_25, w10_25, e10_27, w10_27, c10_28, c10_29, c10_30, c10_31, c10_32, e10_34, w10_34, c10_35, c10_36, c10_37, c10_38, c10_39, e10_41, w10_41, c10_42, c10_43, c10_44, c10_45, c10_46, c10_47]
  have hl : t.calls.length ≤ 40 := by simp [smallT] at h; omega
  simp -implicitDefEqProofs (disch := omega) only [go_sem, Nat.reduceAdd, Nat.reduceMul, Nat.reduceSub, Nat.reduceBEq, Nat.reduceLeDiff, Nat.reduceLT, fn_transitlaw17_TripFollows, e10_1, w10_1, e10_3, w10_3, c10_4, e10_6, w10_6, e10_8, w10_8, e10_10, w10_10, e10_12, w10_12, e10_14, w10_14, e10_16, w10_16, e10_18, w10_18, c10_19, e10_21, w10_21, e10_23, w10_23, e10_25, w10_25, e10_27, w10_27, c10_28, c10_29, c10_30, c10_31, c10_32, e10_34, w10_34, c10_35, c10_36, c10_37, c10_38, c10_39, e10_41, w10_41, c10_42, c10_43, c10_44, c10_45, c10_46, c10_47, Trp.row, List.length_map]
  refine wpC_forL t.calls (fun i vs M => Grown t s i M ∧ vs = [.int .i64 s, .ptr 0 0, .ptr 1 0, .int .i64 i]) ⟨⟨rfl, .inl ⟨rfl, rfl⟩⟩, rfl⟩ ?_ ?_
  · rintro i x vs M hx' hi hd ⟨hg, rfl⟩
    have gx := stay_at hx'
    have hsn := laterL_snoc (s := s) hx'
    obtain ⟨hM0, ⟨rfl, rfl⟩ | ⟨hpos, ver, hM1, hM3⟩⟩ := hg
    · simp -implicitDefEqProofs (disch := omega) only [go_sem, Nat.reduceAdd, Nat.reduceMul, Nat.reduceSub, Nat.reduceBEq, Nat.reduceLeDiff, Nat.reduceLT, fn_transitlaw17_TripFollows, e10_1, w10_1, e10_3, w10_3, c10_4, e10_6, w10_6, e10_8, w10_8, e10_10, w10_10, e10_12, w10_12, e10_14, w10_14, e10_16, w10_16, e10_18, w10_18, c10_19, e10_21, w10_21, e10_23, w10_23, e10_25, w10_25, e10_27, w10_27, c10_28, c10_29, c10_30, c10_31, c10_32, e10_34, w10_34, c10_35, c10_36, c10_37, c10_38, c10_39, e10_41, w10_41, c10_42, c10_43, c10_44, c10_45, c10_46, c10_47, Trp.row, uRow, List.length_map, hd, gx]
      refine ifD (fun q1 => ?_) (fun q1 => ?_)
      · simp -implicitDefEqProofs (disch := omega) only [go_sem, Nat.reduceAdd, Nat.reduceMul, Nat.reduceSub, Nat.reduceBEq, Nat.reduceLeDiff, Nat.reduceLT, fn_transitlaw17_TripFollows, e10_1, w10_1, e10_3, w10_3, c10_4, e10_6, w10_6, e10_8, w10_8, e10_10, w10_10, e10_12, w10_12, e10_14, w10_14, e10_16, w10_16, e10_18, w10_18, c10_19, e10_21, w10_21, e10_23, w10_23, e10_25, w10_25, e10_27, w10_27, c10_28, c10_29, c10_30, c10_31, c10_32, e10_34, w10_34, c10_35, c10_36, c10_37, c10_38, c10_39, e10_41, w10_41, c10_42, c10_43, c10_44, c10_45, c10_46, c10_47]
        first | refine callD (hx) ?_ | refine callQD (hx) ?_
        simp -implicitDefEqProofs (disch := omega) only [go_sem, Nat.reduceAdd, Nat.reduceMul, Nat.reduceSub, Nat.reduceBEq, Nat.reduceLeDiff, Nat.reduceLT, fn_transitlaw17_TripFollows, e10_1, w10_1, e10_3, w10_3, c10_4, e10_6, w10_6, e10_8, w10_8, e10_10, w10_10, e10_12, w10_12, e10_14, w10_14, e10_16, w10_16, e10_18, w10_18, c10_19, e10_21, w10_21, e10_23, w10_23, e10_25, w10_25, e10_27, w10_27, c10_28, c10_29, c10_30, c10_31, c10_32, e10_34, w10_34, c10_35, c10_36, c10_37, c10_38, c10_39, e10_41, w10_41, c10_42, c10_43, c10_44, c10_45, c10_46, c10_47]
      simp -implicitDefEqProofs (disch := omega) only [go_sem, Nat.reduceAdd, Nat.reduceMul, Nat.reduceSub, Nat.reduceBEq, Nat.reduceLeDiff, Nat.reduceLT, fn_transitlaw17_TripFollows, e10_1, w10_1, e10_3, w10_3, c10_4, e10_6, w10_6, e10_8, w10_8, e10_10, w10_10, e10_12, w10_12, e10_14, w10_14, e10_16, w10_16, e10_18, w10_18, c10_19, e10_21, w10_21, e10_23, w10_23, e10_25, w10_25, e10_27, w10_27, c10_28, c10_29, c10_30, c10_31, c10_32, e10_34, w10_34, c10_35, c10_36, c10_37, c10_38, c10_39, e10_41, w10_41, c10_42, c10_43, c10_44, c10_45, c10_46, c10_47, Trp.row, Stay.row, uRow]
      refine ifD (fun q2 => ?_) (fun q2 => ?_)
      · simp -implicitDefEqProofs (disch := omega) only [go_sem, Nat.reduceAdd, Nat.reduceMul, Nat.reduceSub, Nat.reduceBEq, Nat.reduceLeDiff, Nat.reduceLT, fn_transitlaw17_TripFollows, e10_1, w10_1, e10_3, w10_3, c10_4, e10_6, w10_6, e10_8, w10_8, e10_10, w10_10, e10_12, w10_12, e10_14, w10_14, e10_16, w10_16, e10_18, w10_18, c10_19, e10_21, w10_21, e10_23, w10_23, e10_25, w10_25, e10_27, w10_27, c10_28, c10_29, c10_30, c10_31, c10_32, e10_34, w10_34, c10_35, c10_36, c10_37, c10_38, c10_39, e10_41, w10_41, c10_42, c10_43, c10_44, c10_45, c10_46, c10_47]
        first | refine callD (hx) ?_ | refine callQD (hx) ?_
        simp -implicitDefEqProofs (disch := omega) only [go_sem, Nat.reduceAdd, Nat.reduceMul, Nat.reduceSub, Nat.reduceBEq, Nat.reduceLeDiff, Nat.reduceLT, fn_transitlaw17_TripFollows, e10_1, w10_1, e10_3, w10_3, c10_4, e10_6, w10_6, e10_8, w10_8, e10_10, w10_10, e10_12, w10_12, e10_14, w10_14, e10_16, w10_16, e10_18, w10_18, c10_19, e10_21, w10_21, e10_23, w10_23, e10_25, w10_25, e10_27, w10_27, c10_28, c10_29, c10_30, c10_31, c10_32, e10_34, w10_34, c10_35, c10_36, c10_37, c10_38, c10_39, e10_41, w10_41, c10_42, c10_43, c10_44, c10_45, c10_46, c10_47]
      simp -implicitDefEqProofs (disch := omega) only [go_sem, Nat.reduceAdd, Nat.reduceMul, Nat.reduceSub, Nat.reduceBEq, Nat.reduceLeDiff, Nat.reduceLT, fn_transitlaw17_TripFollows, e10_1, w10_1, e10_3, w10_3, c10_4, e10_6, w10_6, e10_8, w10_8, e10_10, w10_10, e10_12, w10_12, e10_14, w10_14, e10_16, w10_16, e10_18, w10_18, c10_19, e10_21, w10_21, e10_23, w10_23, e10_25, w10_25, e10_27, w10_27, c10_28, c10_29, c10_30, c10_31, c10_32, e10_34, w10_34, c10_35, c10_36, c10_37, c10_38, c10_39, e10_41, w10_41, c10_42, c10_43, c10_44, c10_45, c10_46, c10_47, Trp.row, Stay.row, uRow]
      refine ifD (fun q3 => ?_) (fun q3 => ?_)
      · simp -implicitDefEqProofs (disch := omega) only [go_sem, Nat.reduceAdd, Nat.reduceMul, Nat.reduceSub, Nat.reduceBEq, Nat.reduceLeDiff, Nat.reduceLT, fn_transitlaw17_TripFollows, e10_1, w10_1, e10_3, w10_3, c10_4, e10_6, w10_6, e10_8, w10_8, e10_10, w10_10, e10_12, w10_12, e10_14, w10_14, e10_16, w10_16, e10_18, w10_18, c10_19, e10_21, w10_21, e10_23, w10_23, e10_25, w10_25, e10_27, w10_27, c10_28, c10_29, c10_30, c10_31, c10_32, e10_34, w10_34, c10_35, c10_36, c10_37, c10_38, c10_39, e10_41, w10_41, c10_42, c10_43, c10_44, c10_45, c10_46, c10_47]
        first | refine callD (hx) ?_ | refine callQD (hx) ?_
        simp -implicitDefEqProofs (disch := omega) only [go_sem, Nat.reduceAdd, Nat.reduceMul, Nat.reduceSub, Nat.reduceBEq, Nat.reduceLeDiff, Nat.reduceLT, fn_transitlaw17_TripFollows, e10_1, w10_1, e10_3, w10_3, c10_4, e10_6, w10_6, e10_8, w10_8, e10_10, w10_10, e10_12, w10_12, e10_14, w10_14, e10_16, w10_16, e10_18, w10_18, c10_19, e10_21, w10_21, e10_23, w10_23, e10_25, w10_25, e10_27, w10_27, c10_28, c10_29, c10_30, c10_31, c10_32, e10_34, w10_34, c10_35, c10_36, c10_37, c10_38, c10_39, e10_41, w10_41, c10_42, c10_43, c10_44, c10_45, c10_46, c10_47]
      simp -implicitDefEqProofs (disch := omega) only [go_sem, Nat.reduceAdd, Nat.reduceMul, Nat.reduceSub, Nat.reduceBEq, Nat.reduceLeDiff, Nat.reduceLT, fn_transitlaw17_TripFollows, e10_1, w10_1, e10_3, w10_3, c10_4, e10_6, w10_6, e10_8, w10_8, e10_10, w10_10, e10_12, w10_12, e10_14, w10_14, e10_16, w10_16, e10_18, w10_18, c10_19, e10_21, w10_21, e10_23, w10_23, e10_25, w10_25, e10_27, w10_27, c10_28, c10_29, c10_30, c10_31, c10_32, e10_34, w10_34, c10_35, c10_36, c10_37, c10_38, c10_39, e10_41, w10_41, c10_42, c10_43, c10_44, c10_45, c10_46, c10_47, Trp.row, Stay.row, uRow]
      refine ifD (fun q4 => ?_) (fun q4 => ?_)
      · simp -implicitDefEqProofs (disch := omega) only [go_sem, Nat.reduceAdd, Nat.reduceMul, Nat.reduceSub, Nat.reduceBEq, Nat.reduceLeDiff, Nat.reduceLT, fn_transitlaw17_TripFollows, e10_1, w10_1, e10_3, w10_3, c10_4, e10_6, w10_6, e10_8, w10_8, e10_10, w10_10, e10_12, w10_12, e10_14, w10_14, e10_16, w10_16, e10_18, w10_18, c10_19, e10_21, w10_21, e10_23, w10_23, e10_25, w10_25, e10_27, w10_27, c10_28, c10_29, c10_30, c10_31, c10_32, e10_34, w10_34, c10_35, c10_36, c10_37, c10_38, c10_39, e10_41, w10_41, c10_42, c10_43, c10_44, c10_45, c10_46, c10_47]
        first | refine callD (hx) ?_ | refine callQD (hx) ?_
        simp -implicitDefEqProofs (disch := omega) only [go_sem, Nat.reduceAdd, Nat.reduceMul, Nat.reduceSub, Nat.reduceBEq, Nat.reduceLeDiff, Nat.reduceLT, fn_transitlaw17_TripFollows, e10_1, w10_1, e10_3, w10_3, c10_4, e10_6, w10_6, e10_8, w10_8, e10_10, w10_10, e10_12, w10_12, e10_14, w10_14, e10_16, w10_16, e10_18, w10_18, c10_19, e10_21, w10_21, e10_23, w10_23, e10_25, w10_25, e10_27, w10_27, c10_28, c10_29, c10_30, c10_31, c10_32, e10_34, w10_34, c10_35, c10_36, c10_37, c10_38, c10_39, e10_41, w10_41, c10_42, c10_43, c10_44, c10_45, c10_46, c10_47]
      simp -implicitDefEqProofs (disch := omega) only [go_sem, Nat.reduceAdd, Nat.reduceMul, Nat.reduceSub, Nat.reduceBEq, Nat.reduceLeDiff, Nat.reduceLT, fn_transitlaw17_TripFollows, e10_1, w10_1, e10_3, w10_3, c10_4, e10_6, w10_6, e10_8, w10_8, e10_10, w10_10, e10_12, w10_12, e10_14, w10_14, e10_16, w10_16, e10_18, w10_18, c10_19, e10_21, w10_21, e10_23, w10_23, e10_25, w10_25, e10_27, w10_27, c10_28, c10_29, c10_30, c10_31, c10_32, e10_34, w10_34, c10_35, c10_36, c10_37, c10_38, c10_39, e10_41, w10_41, c10_42, c10_43, c10_44, c10_45, c10_46, c10_47, Trp.row, Stay.row, uRow]
      have hap : appV false 5 32 (V.slice [] .nil) (V.slice [[V.int .i64 x.stop, V.int .i64 (x.arrive + s), V.int .i64 (x.depart + s), V.bool x.board, V.bool x.alight]] .full)
        [.box [.str t.id, .int .i64 t.route, .int .i64 t.cal, .bool t.free, .slice (t.calls.map Stay.row) t.tag], .box [.str t.id, .int .i64 t.route, .int .i64 t.cal, .bool t.free, .slice [] .nil], .box [.int .i64 x.stop, .int .i64 (x.arrive + s), .int .i64 (x.depart + s), .bool x.board, .bool x.alight]] =
        some (.mslice 3 0 0 1, [.box [.str t.id, .int .i64 t.route, .int .i64 t.cal, .bool t.free, .slice (t.calls.map Stay.row) t.tag], .box [.str t.id, .int .i64 t.route, .int .i64 t.cal, .bool t.free, .slice [] .nil], .box [.int .i64 x.stop, .int .i64 (x.arrive + s), .int .i64 (x.depart + s), .bool x.board, .bool x.alight], .arr 5 [[.int .i64 x.stop, .int .i64 (x.arrive + s), .int .i64 (x.depart + s), .bool x.board, .bool x.alight]] 0 0]) := rfl
      simp -implicitDefEqProofs (disch := omega) only [go_sem, Nat.reduceAdd, Nat.reduceMul, Nat.reduceSub, Nat.reduceBEq, Nat.reduceLeDiff, Nat.reduceLT, fn_transitlaw17_TripFollows, e10_1, w10_1, e10_3, w10_3, c10_4, e10_6, w10_6, e10_8, w10_8, e10_10, w10_10, e10_12, w10_12, e10_14, w10_14, e10_16, w10_16, e10_18, w10_18, c10_19, e10_21, w10_21, e10_23, w10_23, e10_25, w10_25, e10_27, w10_27, c10_28, c10_29, c10_30, c10_31, c10_32, e10_34, w10_34, c10_35, c10_36, c10_37, c10_38, c10_39, e10_41, w10_41, c10_42, c10_43, c10_44, c10_45, c10_46, c10_47, Trp.row, Stay.row, uRow, hap]
      refine next_stay hi ⟨⟨rfl, .inr ⟨by omega, 0, rfl, ?_⟩⟩, rfl⟩
      rw [hsn]; rfl
    · have hA0 := getapp hM0
      have hA1 := getapp hM1
      have hA3 := getapp hM3
      have hS1 : ∀ X B, ((M ++ [X]).set 3 B)[1]? = some (.box (uRow t (.mslice 3 ver 0 i))) := fun X B => by rw [List.getElem?_set_ne (by omega)]; exact hA1 X
      simp only [Trp.row, uRow] at hM0 hM1 hA0 hA1 hS1
      simp -implicitDefEqProofs (disch := omega) only [go_sem, Nat.reduceAdd, Nat.reduceMul, Nat.reduceSub, Nat.reduceBEq, Nat.reduceLeDiff, Nat.reduceLT, fn_transitlaw17_TripFollows, e10_1, w10_1, e10_3, w10_3, c10_4, e10_6, w10_6, e10_8, w10_8, e10_10, w10_10, e10_12, w10_12, e10_14, w10_14, e10_16, w10_16, e10_18, w10_18, c10_19, e10_21, w10_21, e10_23, w10_23, e10_25, w10_25, e10_27, w10_27, c10_28, c10_29, c10_30, c10_31, c10_32, e10_34, w10_34, c10_35, c10_36, c10_37, c10_38, c10_39, e10_41, w10_41, c10_42, c10_43, c10_44, c10_45, c10_46, c10_47, Trp.row, uRow, List.length_map, hd, gx, hM0, memlast, memset]
      refine ifD (fun q1 => ?_) (fun q1 => ?_)
      · simp -implicitDefEqProofs (disch := omega) only [go_sem, Nat.reduceAdd, Nat.reduceMul, Nat.reduceSub, Nat.reduceBEq, Nat.reduceLeDiff, Nat.reduceLT, fn_transitlaw17_TripFollows, e10_1, w10_1, e10_3, w10_3, c10_4, e10_6, w10_6, e10_8, w10_8, e10_10, w10_10, e10_12, w10_12, e10_14, w10_14, e10_16, w10_16, e10_18, w10_18, c10_19, e10_21, w10_21, e10_23, w10_23, e10_25, w10_25, e10_27, w10_27, c10_28, c10_29, c10_30, c10_31, c10_32, e10_34, w10_34, c10_35, c10_36, c10_37, c10_38, c10_39, e10_41, w10_41, c10_42, c10_43, c10_44, c10_45, c10_46, c10_47, memlast, memset, hA1, hA3, hS1]
        first | refine callD (hx) ?_ | refine callQD (hx) ?_
        simp -implicitDefEqProofs (disch := omega) only [go_sem, Nat.reduceAdd, Nat.reduceMul, Nat.reduceSub, Nat.reduceBEq, Nat.reduceLeDiff, Nat.reduceLT, fn_transitlaw17_TripFollows, e10_1, w10_1, e10_3, w10_3, c10_4, e10_6, w10_6, e10_8, w10_8, e10_10, w10_10, e10_12, w10_12, e10_14, w10_14, e10_16, w10_16, e10_18, w10_18, c10_19, e10_21, w10_21, e10_23, w10_23, e10_25, w10_25, e10_27, w10_27, c10_28, c10_29, c10_30, c10_31, c10_32, e10_34, w10_34, c10_35, c10_36, c10_37, c10_38, c10_39, e10_41, w10_41, c10_42, c10_43, c10_44, c10_45, c10_46, c10_47, memlast, memset, hA1, hA3, hS1]
      simp -implicitDefEqProofs (disch := omega) only [go_sem, Nat.reduceAdd, Nat.reduceMul, Nat.reduceSub, Nat.reduceBEq, Nat.reduceLeDiff, Nat.reduceLT, fn_transitlaw17_TripFollows, e10_1, w10_1, e10_3, w10_3, c10_4, e10_6, w10_6, e10_8, w10_8, e10_10, w10_10, e10_12, w10_12, e10_14, w10_14, e10_16, w10_16, e10_18, w10_18, c10_19, e10_21, w10_21, e10_23, w10_23, e10_25, w10_25, e10_27, w10_27, c10_28, c10_29, c10_30, c10_31, c10_32, e10_34, w10_34, c10_35, c10_36, c10_37, c10_38, c10_39, e10_41, w10_41, c10_42, c10_43, c10_44, c10_45, c10_46, c10_47, Trp.row, Stay.row, uRow, memlast, memset, hA1, hA3, hS1]
      refine ifD (fun q2 => ?_) (fun q2 => ?_)
      · simp -implicitDefEqProofs (disch := omega) only [go_sem, Nat.reduceAdd, Nat.reduceMul, Nat.reduceSub, Nat.reduceBEq, Nat.reduceLeDiff, Nat.reduceLT, fn_transitlaw17_TripFollows, e10_1, w10_1, e10_3, w10_3, c10_4, e10_6, w10_6, e10_8, w10_8, e10_10, w10_10, e10_12, w10_12, e10_14, w10_14, e10_16, w10_16, e10_18, w10_18, c10_19, e10_21, w10_21, e10_23, w10_23, e10_25, w10_25, e10_27, w10_27, c10_28, c10_29, c10_30, c10_31, c10_32, e10_34, w10_34, c10_35, c10_36, c10_37, c10_38, c10_39, e10_41, w10_41, c10_42, c10_43, c10_44, c10_45, c10_46, c10_47, memlast, memset, hA1, hA3, hS1]
        first | refine callD (hx) ?_ | refine callQD (hx) ?_
        simp -implicitDefEqProofs (disch := omega) only [go_sem, Nat.reduceAdd, Nat.reduceMul, Nat.reduceSub, Nat.reduceBEq, Nat.reduceLeDiff, Nat.reduceLT, fn_transitlaw17_TripFollows, e10_1, w10_1, e10_3, w10_3, c10_4, e10_6, w10_6, e10_8, w10_8, e10_10, w10_10, e10_12, w10_12, e10_14, w10_14, e10_16, w10_16, e10_18, w10_18, c10_19, e10_21, w10_21, e10_23, w10_23, e10_25, w10_25, e10_27, w10_27, c10_28, c10_29, c10_30, c10_31, c10_32, e10_34, w10_34, c10_35, c10_36, c10_37, c10_38, c10_39, e10_41, w10_41, c10_42, c10_43, c10_44, c10_45, c10_46, c10_47, memlast, memset, hA1, hA3, hS1]
      simp -implicitDefEqProofs (disch := omega) only [go_sem, Nat.reduceAdd, Nat.reduceMul, Nat.reduceSub, Nat.reduceBEq, Nat.reduceLeDiff, Nat.reduceLT, fn_transitlaw17_TripFollows, e10_1, w10_1, e10_3, w10_3, c10_4, e10_6, w10_6, e10_8, w10_8, e10_10, w10_10, e10_12, w10_12, e10_14, w10_14, e10_16, w10_16, e10_18, w10_18, c10_19, e10_21, w10_21, e10_23, w10_23, e10_25, w10_25, e10_27, w10_27, c10_28, c10_29, c10_30, c10_31, c10_32, e10_34, w10_34, c10_35, c10_36, c10_37, c10_38, c10_39, e10_41, w10_41, c10_42, c10_43, c10_44, c10_45, c10_46, c10_47, Trp.row, Stay.row, uRow, memlast, memset, hA1, hA3, hS1]
      refine ifD (fun q3 => ?_) (fun q3 => ?_)
      · simp -implicitDefEqProofs (disch := omega) only [go_sem, Nat.reduceAdd, Nat.reduceMul, Nat.reduceSub, Nat.reduceBEq, Nat.reduceLeDiff, Nat.reduceLT, fn_transitlaw17_TripFollows, e10_1, w10_1, e10_3, w10_3, c10_4, e10_6, w10_6, e10_8, w10_8, e10_10, w10_10, e10_12, w10_12, e10_14, w10_14, e10_16, w10_16, e10_18, w10_18, c10_19, e10_21, w10_21, e10_23, w10_23, e10_25, w10_25, e10_27, w10_27, c10_28, c10_29, c10_30, c10_31, c10_32, e10_34, w10_34, c10_35, c10_36, c10_37, c10_38, c10_39, e10_41, w10_41, c10_42, c10_43, c10_44, c10_45, c10_46, c10_47, memlast, memset, hA1, hA3, hS1]
        first | refine callD (hx) ?_ | refine callQD (hx) ?_
        simp -implicitDefEqProofs (disch := omega) only [go_sem, Nat.reduceAdd, Nat.reduceMul, Nat.reduceSub, Nat.reduceBEq, Nat.reduceLeDiff, Nat.reduceLT, fn_transitlaw17_TripFollows, e10_1, w10_1, e10_3, w10_3, c10_4, e10_6, w10_6, e10_8, w10_8, e10_10, w10_10, e10_12, w10_12, e10_14, w10_14, e10_16, w10_16, e10_18, w10_18, c10_19, e10_21, w10_21, e10_23, w10_23, e10_25, w10_25, e10_27, w10_27, c10_28, c10_29, c10_30, c10_31, c10_32, e10_34, w10_34, c10_35, c10_36, c10_37, c10_38, c10_39, e10_41, w10_41, c10_42, c10_43, c10_44, c10_45, c10_46, c10_47, memlast, memset, hA1, hA3, hS1]
      simp -implicitDefEqProofs (disch := omega) only [go_sem, Nat.reduceAdd, Nat.reduceMul, Nat.reduceSub, Nat.reduceBEq, Nat.reduceLeDiff, Nat.reduceLT, fn_transitlaw17_TripFollows, e10_1, w10_1, e10_3, w10_3, c10_4, e10_6, w10_6, e10_8, w10_8, e10_10, w10_10, e10_12, w10_12, e10_14, w10_14, e10_16, w10_16, e10_18, w10_18, c10_19, e10_21, w10_21, e10_23, w10_23, e10_25, w10_25, e10_27, w10_27, c10_28, c10_29, c10_30, c10_31, c10_32, e10_34, w10_34, c10_35, c10_36, c10_37, c10_38, c10_39, e10_41, w10_41, c10_42, c10_43, c10_44, c10_45, c10_46, c10_47, Trp.row, Stay.row, uRow, memlast, memset, hA1, hA3, hS1]
      refine ifD (fun q4 => ?_) (fun q4 => ?_)
      · simp -implicitDefEqProofs (disch := omega) only [go_sem, Nat.reduceAdd, Nat.reduceMul, Nat.reduceSub, Nat.reduceBEq, Nat.reduceLeDiff, Nat.reduceLT, fn_transitlaw17_TripFollows, e10_1, w10_1, e10_3, w10_3, c10_4, e10_6, w10_6, e10_8, w10_8, e10_10, w10_10, e10_12, w10_12, e10_14, w10_14, e10_16, w10_16, e10_18, w10_18, c10_19, e10_21, w10_21, e10_23, w10_23, e10_25, w10_25, e10_27, w10_27, c10_28, c10_29, c10_30, c10_31, c10_32, e10_34, w10_34, c10_35, c10_36, c10_37, c10_38, c10_39, e10_41, w10_41, c10_42, c10_43, c10_44, c10_45, c10_46, c10_47, memlast, memset, hA1, hA3, hS1]
        first | refine callD (hx) ?_ | refine callQD (hx) ?_
        simp -implicitDefEqProofs (disch := omega) only [go_sem, Nat.reduceAdd, Nat.reduceMul, Nat.reduceSub, Nat.reduceBEq, Nat.reduceLeDiff, Nat.reduceLT, fn_transitlaw17_TripFollows, e10_1, w10_1, e10_3, w10_3, c10_4, e10_6, w10_6, e10_8, w10_8, e10_10, w10_10, e10_12, w10_12, e10_14, w10_14, e10_16, w10_16, e10_18, w10_18, c10_19, e10_21, w10_21, e10_23, w10_23, e10_25, w10_25, e10_27, w10_27, c10_28, c10_29, c10_30, c10_31, c10_32, e10_34, w10_34, c10_35, c10_36, c10_37, c10_38, c10_39, e10_41, w10_41, c10_42, c10_43, c10_44, c10_45, c10_46, c10_47, memlast, memset, hA1, hA3, hS1]
      simp -implicitDefEqProofs (disch := omega) only [go_sem, Nat.reduceAdd, Nat.reduceMul, Nat.reduceSub, Nat.reduceBEq, Nat.reduceLeDiff, Nat.reduceLT, fn_transitlaw17_TripFollows, e10_1, w10_1, e10_3, w10_3, c10_4, e10_6, w10_6, e10_8, w10_8, e10_10, w10_10, e10_12, w10_12, e10_14, w10_14, e10_16, w10_16, e10_18, w10_18, c10_19, e10_21, w10_21, e10_23, w10_23, e10_25, w10_25, e10_27, w10_27, c10_28, c10_29, c10_30, c10_31, c10_32, e10_34, w10_34, c10_35, c10_36, c10_37, c10_38, c10_39, e10_41, w10_41, c10_42, c10_43, c10_44, c10_45, c10_46, c10_47, Trp.row, Stay.row, uRow, memlast, memset, hA1, hA3, hS1]
      have hlen : (laterL s (t.calls.take i)).length = i := by rw [laterL_len, List.length_take]; omega
      have hbe : (i == i) = true := by simp
      have hdd : decide ((i + 1) * 64 ≤ 2 ^ 48) = true := decide_eq_true (by omega)
      rw [hlen]
      simp -implicitDefEqProofs (disch := omega) only [go_sem, Nat.reduceAdd, Nat.reduceMul, Nat.reduceSub, Nat.reduceBEq, Nat.reduceLeDiff, Nat.reduceLT, fn_transitlaw17_TripFollows, e10_1, w10_1, e10_3, w10_3, c10_4, e10_6, w10_6, e10_8, w10_8, e10_10, w10_10, e10_12, w10_12, e10_14, w10_14, e10_16, w10_16, e10_18, w10_18, c10_19, e10_21, w10_21, e10_23, w10_23, e10_25, w10_25, e10_27, w10_27, c10_28, c10_29, c10_30, c10_31, c10_32, e10_34, w10_34, c10_35, c10_36, c10_37, c10_38, c10_39, e10_41, w10_41, c10_42, c10_43, c10_44, c10_45, c10_46, c10_47, Trp.row, Stay.row, uRow, hbe, hdd, hS1]
      have l1 := (List.getElem?_eq_some_iff.1 hM1).1
      have l3 := (List.getElem?_eq_some_iff.1 hM3).1
      refine next_stay hi ⟨⟨?_, .inr ⟨by omega, ver + 1, ?_, ?_⟩⟩, rfl⟩
      · rw [List.getElem?_set_ne (by omega), List.getElem?_set_ne (by omega)]; exact hA0 _
      · rw [List.getElem?_set_self (by simp; omega)]; rfl
      · rw [List.getElem?_set_ne (by omega), List.getElem?_set_self (by simp; omega), hsn]
        simp [Stay.row, Stay.later]
  · rintro vs M ⟨⟨hM0, hg⟩, rfl⟩
    obtain ⟨w, tag, hM1, hfz⟩ : ∃ w tag, M[1]? = some (.box (uRow t w)) ∧ freezeV M 0 19 w = some (.slice ((laterL s t.calls).map Stay.row) tag) := by
      rcases hg with ⟨h0, rfl⟩ | ⟨hpos, ver, hM1, hM3⟩
      · refine ⟨_, .nil, rfl, ?_⟩
        have : t.calls = [] := List.length_eq_zero_iff.1 h0
        rw [this]; rfl
      · refine ⟨_, .unk, hM1, ?_⟩
        rw [List.take_length] at hM3
        have e : ((laterL s t.calls).map Stay.row).length = t.calls.length := by simp [laterL]
        simp only [freezeV, hM3, Nat.not_lt_zero, decide_false, cond_false, beq_self_eq_true, Nat.zero_add, e, Nat.le_refl, decide_true, Bool.and_self, cond_true, List.drop_zero]
        rw [List.take_of_length_le (by omega)]
    let u : Trp := ⟨t.id, t.route, t.cal, t.free, laterL s t.calls, tag⟩
    have hu : u.calls = laterL s t.calls := rfl
    have hur : u.row = [.str t.id, .int .i64 t.route, .int .i64 t.cal, .bool t.free, .slice ((laterL s t.calls).map Stay.row) tag] := rfl
    have zs : ∀ a, freezeV M 0 19 (.str a) = some (.str a) := fun _ => rfl
    have zi : ∀ k n, freezeV M 0 19 (.int k n) = some (.int k n) := fun _ _ => rfl
    have zb : ∀ b, freezeV M 0 19 (.bool b) = some (.bool b) := fun _ => rfl
    have zl : ∀ r c, freezeV M 0 19 (.slice r c) = some (.slice r c) := fun _ _ => rfl
    have za : ∀ cs, freezeV M 0 20 (.agg cs) = (mapO (freezeV M 0 19) cs).map .agg := fun _ => rfl
    have f1 : mapO (freezeV M 0 20) [.agg [.str t.id, .int .i64 t.route, .int .i64 t.cal, .bool t.free, .slice (t.calls.map Stay.row) t.tag], .agg [.str t.id, .int .i64 t.route, .int .i64 t.cal, .bool t.free, w]] = some [.agg t.row, .agg u.row] := by
      rw [hur]; simp only [mapO, za, zs, zi, zb, zl, hfz, Option.map_some, Trp.row]
    have f2 : mapO (freezeV M 0 20) [.agg [.str t.id, .int .i64 t.route, .int .i64 t.cal, .bool t.free, w], .agg [.str t.id, .int .i64 t.route, .int .i64 t.cal, .bool t.free, .slice (t.calls.map Stay.row) t.tag]] = some [.agg u.row, .agg t.row] := by
      rw [hur]; simp only [mapO, za, zs, zi, zb, zl, hfz, Option.map_some, Trp.row]
    have hlu : u.calls.length = t.calls.length := by rw [hu, laterL_len]
    have c1 := trip_SamePattern_ok t u (by omega)
    rw [hu, samePat_later] at c1
    have c2 := trip_Overtakes_ok t u (by omega)
    rw [hu, no_overt (-s) (fun k hk => by rw [evO_later s t.calls hk]; omega)] at c2
    have c3 := trip_Overtakes_ok u t (by omega)
    rw [hu, no_overt s (fun k hk => by rw [laterL_len] at hk; exact evO_later s t.calls hk)] at c3
    have c4 := trip_Overtakes_ok t t (by omega)
    rw [no_overt 0 (fun k _ => by omega)] at c4
    simp only [Trp.row] at c4
    simp only [Trp.row, uRow] at hM0 hM1
    simp -implicitDefEqProofs (disch := omega) only [go_sem, Nat.reduceAdd, Nat.reduceMul, Nat.reduceSub, Nat.reduceBEq, Nat.reduceLeDiff, Nat.reduceLT, fn_transitlaw17_TripFollows, e10_1, w10_1, e10_3, w10_3, c10_4, e10_6, w10_6, e10_8, w10_8, e10_10, w10_10, e10_12, w10_12, e10_14, w10_14, e10_16, w10_16, e10_18, w10_18, c10_19, e10_21, w10_21, e10_23, w10_23, e10_25, w10_25, e10_27, w10_27, c10_28, c10_29, c10_30, c10_31, c10_32, e10_34, w10_34, c10_35, c10_36, c10_37, c10_38, c10_39, e10_41, w10_41, c10_42, c10_43, c10_44, c10_45, c10_46, c10_47, Trp.row, List.length_map, dec_irrefl, hM0, hM1]
    refine callFD c1 f1 rfl rfl ?_
    simp -implicitDefEqProofs (disch := omega) only [go_sem, Nat.reduceAdd, Nat.reduceMul, Nat.reduceSub, Nat.reduceBEq, Nat.reduceLeDiff, Nat.reduceLT, fn_transitlaw17_TripFollows, e10_1, w10_1, e10_3, w10_3, c10_4, e10_6, w10_6, e10_8, w10_8, e10_10, w10_10, e10_12, w10_12, e10_14, w10_14, e10_16, w10_16, e10_18, w10_18, c10_19, e10_21, w10_21, e10_23, w10_23, e10_25, w10_25, e10_27, w10_27, c10_28, c10_29, c10_30, c10_31, c10_32, e10_34, w10_34, c10_35, c10_36, c10_37, c10_38, c10_39, e10_41, w10_41, c10_42, c10_43, c10_44, c10_45, c10_46, c10_47, hM0, hM1]
    refine callFD c2 f1 rfl rfl ?_
    simp -implicitDefEqProofs (disch := omega) only [go_sem, Nat.reduceAdd, Nat.reduceMul, Nat.reduceSub, Nat.reduceBEq, Nat.reduceLeDiff, Nat.reduceLT, fn_transitlaw17_TripFollows, e10_1, w10_1, e10_3, w10_3, c10_4, e10_6, w10_6, e10_8, w10_8, e10_10, w10_10, e10_12, w10_12, e10_14, w10_14, e10_16, w10_16, e10_18, w10_18, c10_19, e10_21, w10_21, e10_23, w10_23, e10_25, w10_25, e10_27, w10_27, c10_28, c10_29, c10_30, c10_31, c10_32, e10_34, w10_34, c10_35, c10_36, c10_37, c10_38, c10_39, e10_41, w10_41, c10_42, c10_43, c10_44, c10_45, c10_46, c10_47, hM0, hM1]
    refine callFD c3 f2 rfl rfl ?_
    simp -implicitDefEqProofs (disch := omega) only [go_sem, Nat.reduceAdd, Nat.reduceMul, Nat.reduceSub, Nat.reduceBEq, Nat.reduceLeDiff, Nat.reduceLT, fn_transitlaw17_TripFollows, e10_1, w10_1, e10_3, w10_3, c10_4, e10_6, w10_6, e10_8, w10_8, e10_10, w10_10, e10_12, w10_12, e10_14, w10_14, e10_16, w10_16, e10_18, w10_18, c10_19, e10_21, w10_21, e10_23, w10_23, e10_25, w10_25, e10_27, w10_27, c10_28, c10_29, c10_30, c10_31, c10_32, e10_34, w10_34, c10_35, c10_36, c10_37, c10_38, c10_39, e10_41, w10_41, c10_42, c10_43, c10_44, c10_45, c10_46, c10_47, hM0, hM1]
    first | refine callD (c4) ?_ | refine callQD (c4) ?_
    simp -implicitDefEqProofs (disch := omega) only [go_sem, Nat.reduceAdd, Nat.reduceMul, Nat.reduceSub, Nat.reduceBEq, Nat.reduceLeDiff, Nat.reduceLT, fn_transitlaw17_TripFollows, e10_1, w10_1, e10_3, w10_3, c10_4, e10_6, w10_6, e10_8, w10_8, e10_10, w10_10, e10_12, w10_12, e10_14, w10_14, e10_16, w10_16, e10_18, w10_18, c10_19, e10_21, w10_21, e10_23, w10_23, e10_25, w10_25, e10_27, w10_27, c10_28, c10_29, c10_30, c10_31, c10_32, e10_34, w10_34, c10_35, c10_36, c10_37, c10_38, c10_39, e10_41, w10_41, c10_42, c10_43, c10_44, c10_45, c10_46, c10_47]
    first | refine callD (hx) ?_ | refine callQD (hx) ?_
    simp -implicitDefEqProofs (disch := omega) only [go_sem, Nat.reduceAdd, Nat.reduceMul, Nat.reduceSub, Nat.reduceBEq, Nat.reduceLeDiff, Nat.reduceLT, fn_transitlaw17_TripFollows, e10_1, w10_1, e10_3, w10_3, c10_4, e10_6, w10_6, e10_8, w10_8, e10_10, w10_10, e10_12, w10_12, e10_14, w10_14, e10_16, w10_16, e10_18, w10_18, c10_19, e10_21, w10_21, e10_23, w10_23, e10_25, w10_25, e10_27, w10_27, c10_28, c10_29, c10_30, c10_31, c10_32, e10_34, w10_34, c10_35, c10_36, c10_37, c10_38, c10_39, e10_41, w10_41, c10_42, c10_43, c10_44, c10_45, c10_46, c10_47]

end Go.Vm.C

