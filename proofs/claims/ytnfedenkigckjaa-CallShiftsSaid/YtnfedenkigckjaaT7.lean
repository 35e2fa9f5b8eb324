/- The statement CallCounts. -/
import Derived.Test.YtnfedenkigckjaaT6

namespace Go.Vm.C
open Go.Vm
set_option maxHeartbeats 1000000
set_option maxRecDepth 10000
set_option linter.unusedSimpArgs false
set_option linter.unusedVariables false

/-! ### The rides are just the ridable pairs -/
theorem rowP_mem {t : Nat → Nat → Bool} {i : Nat} : ∀ {k : Nat} {x : Nat × Nat}, x ∈ Go.Proofs.rowP t i k → x.1 = i ∧ i < x.2 ∧ x.2 < k ∧ t x.1 x.2 = true
  | 0, x, h => by simp [Go.Proofs.rowP] at h
  | k + 1, x, h => by
    rw [Go.Proofs.rowP, List.mem_append] at h
    rcases h with h | h
    · obtain ⟨a, b, c, d⟩ := rowP_mem h
      exact ⟨a, b, by omega, d⟩
    · split at h
      · rename_i hc
        simp at h; subst h
        exact ⟨rfl, hc.1, by simp, hc.2⟩
      · simp at h
theorem pairsTo_mem {t : Nat → Nat → Bool} {n : Nat} : ∀ {i : Nat} {x : Nat × Nat}, x ∈ Go.Proofs.pairsTo t n i → x.1 < i ∧ x.1 < x.2 ∧ x.2 < n ∧ t x.1 x.2 = true
  | 0, x, h => by simp [Go.Proofs.pairsTo] at h
  | i + 1, x, h => by
    rw [Go.Proofs.pairsTo, List.mem_append] at h
    rcases h with h | h
    · obtain ⟨a, b, c, d⟩ := pairsTo_mem h
      exact ⟨by omega, b, c, d⟩
    · obtain ⟨a, b, c, d⟩ := rowP_mem h
      exact ⟨by omega, by omega, c, d⟩
def Lex (a b : Nat × Nat) : Prop := a.1 < b.1 ∨ (a.1 = b.1 ∧ a.2 < b.2)
theorem rowP_lex (t : Nat → Nat → Bool) (i : Nat) : ∀ k, (Go.Proofs.rowP t i k).Pairwise Lex
  | 0 => by simp [Go.Proofs.rowP]
  | k + 1 => by
    rw [Go.Proofs.rowP, List.pairwise_append]
    refine ⟨rowP_lex t i k, ?_, ?_⟩
    · split <;> simp
    · intro a ha b hb
      obtain ⟨a1, a2, a3, _⟩ := rowP_mem ha
      split at hb
      · simp at hb; subst hb
        exact .inr ⟨a1, a3⟩
      · simp at hb
theorem pairsTo_lex (t : Nat → Nat → Bool) (n : Nat) : ∀ i, (Go.Proofs.pairsTo t n i).Pairwise Lex
  | 0 => by simp [Go.Proofs.pairsTo]
  | i + 1 => by
    rw [Go.Proofs.pairsTo, List.pairwise_append]
    refine ⟨pairsTo_lex t n i, rowP_lex t i n, ?_⟩
    intro a ha b hb
    have h1 := (pairsTo_mem ha).1
    have h2 := (rowP_mem hb).1
    exact .inl (by omega)
theorem rides_lex (l : List Stay) {i : Nat} {a b : Nat × Nat} (ha : (ridesOf l)[i]? = some a) (hb : (ridesOf l)[i + 1]? = some b) : Lex a b := by
  have h := List.pairwise_iff_getElem.1 (pairsTo_lex (rideT l) l.length l.length)
  obtain ⟨h1, rfl⟩ := List.getElem?_eq_some_iff.1 ha
  obtain ⟨h2, rfl⟩ := List.getElem?_eq_some_iff.1 hb
  exact h i (i + 1) h1 h2 (by omega)
theorem check_all {l : List Stay} {s lo hi : Int} (h : (checkC l s lo hi).2 = 0) : ∀ j, j < l.length → errAt l s lo hi j = 0 := by
  intro j hj
  by_cases hz : ∀ i, i < l.length → errAt l s lo hi i = 0
  · exact hz j hj
  · exfalso
    obtain ⟨i, hi1, hi2, hi3⟩ : ∃ i, i < l.length ∧ errAt l s lo hi i ≠ 0 ∧ ∀ j, j < i → errAt l s lo hi j = 0 := by
      have : ∃ i, i < l.length ∧ errAt l s lo hi i ≠ 0 := by
        rcases Classical.not_forall.1 hz with ⟨i, hi⟩
        exact ⟨i, by
          rcases Nat.lt_or_ge i l.length with h1 | h1
          · exact ⟨h1, fun e => hi fun _ => e⟩
          · exact absurd (fun h2 => absurd h2 (by omega)) hi⟩
      have key : ∀ n, (∃ i, i < n ∧ i < l.length ∧ errAt l s lo hi i ≠ 0) → ∃ i, i < l.length ∧ errAt l s lo hi i ≠ 0 ∧ ∀ j, j < i → errAt l s lo hi j = 0 := by
        intro n
        induction n with
        | zero => rintro ⟨i, h1, _⟩; omega
        | succ n ih =>
          intro _
          by_cases hex : ∃ i, i < n ∧ i < l.length ∧ errAt l s lo hi i ≠ 0
          · exact ih hex
          · rename_i hh
            obtain ⟨i, h1, h2, h3⟩ := hh
            refine ⟨i, h2, h3, fun j hj => ?_⟩
            refine Classical.byContradiction fun hne => hex ⟨j, by omega, by omega, hne⟩
      obtain ⟨i, h1, h2⟩ := this
      exact key (i + 1) ⟨i, by omega, h1, h2⟩
    unfold checkC at h
    split at h
    · simp at h
    · rw [firstBad_at hi2 hi3 hi1] at h
      exact hi2 h
theorem err_zero {l : List Stay} {s lo hi : Int} {i : Nat} {a b : Stay} (ha : l[i]? = some a) (hb : l[i - 1]? = some b) (h : errAt l s lo hi i = 0) : a.arrive ≤ a.depart ∧ (0 < i → b.depart ≤ a.arrive) := by
  simp only [errAt, ha, hb, oneErr] at h
  split at h
  · omega
  · split at h
    · omega
    · split at h
      · omega
      · omega
theorem times_up {l : List Stay} {s lo hi : Int} (h : ∀ j, j < l.length → errAt l s lo hi j = 0) {i : Nat} {a : Stay} (ha : l[i]? = some a) : ∀ m (b : Stay), l[i + 1 + m]? = some b → a.depart ≤ b.arrive
  | 0, b, hb => by
    have hlt := (List.getElem?_eq_some_iff.1 hb).1
    exact (err_zero hb (by simpa using ha) (h _ hlt)).2 (by omega)
  | m + 1, b, hb => by
    have hlt := (List.getElem?_eq_some_iff.1 hb).1
    obtain ⟨c, hc⟩ : ∃ c, l[i + 1 + m]? = some c := ⟨l[i + 1 + m], by simp⟩
    have h1 := times_up h ha m c hc
    have hlt2 := (List.getElem?_eq_some_iff.1 hc).1
    obtain ⟨d, hd⟩ : ∃ d, l[i + 1 + m - 1]? = some d := ⟨l[i + 1 + m - 1], by simp⟩
    have h2 := (err_zero hc hd (h _ hlt2)).1
    have h3 := (err_zero hb (by simpa [← Nat.add_assoc] using hc) (h _ hlt)).2 (by omega)
    omega
theorem ridB_row {l : List Stay} {i k : Nat} (hk : k < l.length) : (Go.Proofs.rowP (rideT l) i (k + 1)).length = (Go.Proofs.rowP (rideT l) i k).length + (if ridB l i k = true then 1 else 0) := by
  rcases Nat.lt_or_ge i k with h | h
  · rw [ridB_yes h hk]
    by_cases ht : rideT l i k = true
    · rw [Go.Proofs.rowP_hit h ht, if_pos ht]; simp
    · rw [Go.Proofs.rowP_miss (by simpa using ht), if_neg ht]; rfl
  · rw [ridB_no (by omega), Go.Proofs.rowP, if_neg (by omega)]
    simp

theorem CallCounts_law (l : List Stay) (c : Cap) (st lo hi : Int) : PCalls PR i_transitlaw16_CallCounts [.slice (l.map Stay.row) c, .agg (boundsRow st lo hi)] (fun v => v = .bool true) := by
  refine acalls_pop fn_transitlaw16_CallCounts_ok (by simp [fn_transitlaw16_CallCounts]) ?_
  simp -implicitDefEqProofs (disch := omega) only [go_sem, Nat.reduceAdd, Nat.reduceMul, Nat.reduceSub, Nat.reduceBEq, Nat.reduceLeDiff, Nat.reduceLT, fn_transitlaw16_CallCounts, e7_1, w7_1, e7_3, w7_3, c7_4, e7_6, w7_6, e7_8, w7_8, e7_10, w7_10, c7_11, e7_13, w7_13, e7_15, w7_15, e7_17, w7_17, e7_19, w7_19, c7_20, e7_22, w7_22, e7_24, w7_24, e7_26, w7_26, c7_27, e7_29, w7_29, e7_31, w7_31, e7_33, w7_33, c7_34, c7_35, e7_37, w7_37, c7_38, c7_39, c7_40, c7_41, c7_42, c7_43, c7_44, c7_45, e7_47, w7_47, c7_48, c7_49, c7_50, c7_51, c7_52, c7_53, e7_55, w7_55, e7_57, w7_57, e7_59, w7_59, c7_60, e7_62, w7_62, e7_64, w7_64, c7_65, e7_67, w7_67, e7_69, w7_69, c7_70, e7_72, w7_72, e7_74, w7_74, c7_75, e7_77, w7_77, c7_78, c7_79, c7_80, c7_81, e7_83, w7_83, c7_84, c7_85, c7_86, c7_87, c7_88, c7_89, e7_91, w7_91, c7_92, c7_93, c7_94, c7_95, c7_96, c7_97, c7_98, c7_99, c7_100, boundsRow]
  refine ifD (fun h1 => ?_) (fun h1 => ?_)
  · simp -implicitDefEqProofs (disch := omega) only [go_sem, Nat.reduceAdd, Nat.reduceMul, Nat.reduceSub, Nat.reduceBEq, Nat.reduceLeDiff, Nat.reduceLT, fn_transitlaw16_CallCounts, e7_1, w7_1, e7_3, w7_3, c7_4, e7_6, w7_6, e7_8, w7_8, e7_10, w7_10, c7_11, e7_13, w7_13, e7_15, w7_15, e7_17, w7_17, e7_19, w7_19, c7_20, e7_22, w7_22, e7_24, w7_24, e7_26, w7_26, c7_27, e7_29, w7_29, e7_31, w7_31, e7_33, w7_33, c7_34, c7_35, e7_37, w7_37, c7_38, c7_39, c7_40, c7_41, c7_42, c7_43, c7_44, c7_45, e7_47, w7_47, c7_48, c7_49, c7_50, c7_51, c7_52, c7_53, e7_55, w7_55, e7_57, w7_57, e7_59, w7_59, c7_60, e7_62, w7_62, e7_64, w7_64, c7_65, e7_67, w7_67, e7_69, w7_69, c7_70, e7_72, w7_72, e7_74, w7_74, c7_75, e7_77, w7_77, c7_78, c7_79, c7_80, c7_81, e7_83, w7_83, c7_84, c7_85, c7_86, c7_87, c7_88, c7_89, e7_91, w7_91, c7_92, c7_93, c7_94, c7_95, c7_96, c7_97, c7_98, c7_99, c7_100]
    first | refine callD (exampleHolds_ok) ?_ | refine callQD (exampleHolds_ok) ?_
    simp -implicitDefEqProofs (disch := omega) only [go_sem, Nat.reduceAdd, Nat.reduceMul, Nat.reduceSub, Nat.reduceBEq, Nat.reduceLeDiff, Nat.reduceLT, fn_transitlaw16_CallCounts, e7_1, w7_1, e7_3, w7_3, c7_4, e7_6, w7_6, e7_8, w7_8, e7_10, w7_10, c7_11, e7_13, w7_13, e7_15, w7_15, e7_17, w7_17, e7_19, w7_19, c7_20, e7_22, w7_22, e7_24, w7_24, e7_26, w7_26, c7_27, e7_29, w7_29, e7_31, w7_31, e7_33, w7_33, c7_34, c7_35, e7_37, w7_37, c7_38, c7_39, c7_40, c7_41, c7_42, c7_43, c7_44, c7_45, e7_47, w7_47, c7_48, c7_49, c7_50, c7_51, c7_52, c7_53, e7_55, w7_55, e7_57, w7_57, e7_59, w7_59, c7_60, e7_62, w7_62, e7_64, w7_64, c7_65, e7_67, w7_67, e7_69, w7_69, c7_70, e7_72, w7_72, e7_74, w7_74, c7_75, e7_77, w7_77, c7_78, c7_79, c7_80, c7_81, e7_83, w7_83, c7_84, c7_85, c7_86, c7_87, c7_88, c7_89, e7_91, w7_91, c7_92, c7_93, c7_94, c7_95, c7_96, c7_97, c7_98, c7_99, c7_100]
  have hll : l.length * l.length ≤ 60 * 60 := Nat.mul_le_mul (by omega) (by omega)
  have hrl : (ridesOf l).length ≤ l.length * l.length := Go.Proofs.pairsTo_len (rideT l) l.length l.length
  have htk : (ridesOf l).take (4000 : Int).toNat = ridesOf l := List.take_of_length_le (by
    have : (4000 : Int).toNat = 4000 := rfl
    omega)
  simp -implicitDefEqProofs (disch := omega) only [go_sem, Nat.reduceAdd, Nat.reduceMul, Nat.reduceSub, Nat.reduceBEq, Nat.reduceLeDiff, Nat.reduceLT, fn_transitlaw16_CallCounts, e7_1, w7_1, e7_3, w7_3, c7_4, e7_6, w7_6, e7_8, w7_8, e7_10, w7_10, c7_11, e7_13, w7_13, e7_15, w7_15, e7_17, w7_17, e7_19, w7_19, c7_20, e7_22, w7_22, e7_24, w7_24, e7_26, w7_26, c7_27, e7_29, w7_29, e7_31, w7_31, e7_33, w7_33, c7_34, c7_35, e7_37, w7_37, c7_38, c7_39, c7_40, c7_41, c7_42, c7_43, c7_44, c7_45, e7_47, w7_47, c7_48, c7_49, c7_50, c7_51, c7_52, c7_53, e7_55, w7_55, e7_57, w7_57, e7_59, w7_59, c7_60, e7_62, w7_62, e7_64, w7_64, c7_65, e7_67, w7_67, e7_69, w7_69, c7_70, e7_72, w7_72, e7_74, w7_74, c7_75, e7_77, w7_77, c7_78, c7_79, c7_80, c7_81, e7_83, w7_83, c7_84, c7_85, c7_86, c7_87, c7_88, c7_89, e7_91, w7_91, c7_92, c7_93, c7_94, c7_95, c7_96, c7_97, c7_98, c7_99, c7_100]
  first | refine callD (rides_ok l c 4000 (by omega)) ?_ | refine callQD (rides_ok l c 4000 (by omega)) ?_
  rw [htk]
  simp -implicitDefEqProofs (disch := omega) only [go_sem, Nat.reduceAdd, Nat.reduceMul, Nat.reduceSub, Nat.reduceBEq, Nat.reduceLeDiff, Nat.reduceLT, fn_transitlaw16_CallCounts, e7_1, w7_1, e7_3, w7_3, c7_4, e7_6, w7_6, e7_8, w7_8, e7_10, w7_10, c7_11, e7_13, w7_13, e7_15, w7_15, e7_17, w7_17, e7_19, w7_19, c7_20, e7_22, w7_22, e7_24, w7_24, e7_26, w7_26, c7_27, e7_29, w7_29, e7_31, w7_31, e7_33, w7_33, c7_34, c7_35, e7_37, w7_37, c7_38, c7_39, c7_40, c7_41, c7_42, c7_43, c7_44, c7_45, e7_47, w7_47, c7_48, c7_49, c7_50, c7_51, c7_52, c7_53, e7_55, w7_55, e7_57, w7_57, e7_59, w7_59, c7_60, e7_62, w7_62, e7_64, w7_64, c7_65, e7_67, w7_67, e7_69, w7_69, c7_70, e7_72, w7_72, e7_74, w7_74, c7_75, e7_77, w7_77, c7_78, c7_79, c7_80, c7_81, e7_83, w7_83, c7_84, c7_85, c7_86, c7_87, c7_88, c7_89, e7_91, w7_91, c7_92, c7_93, c7_94, c7_95, c7_96, c7_97, c7_98, c7_99, c7_100]
  have hmem : ∀ (i : Nat) (x : Nat × Nat), (ridesOf l)[i]? = some x → x.1 < x.2 ∧ x.2 < l.length ∧ rideT l x.1 x.2 = true := fun i x hx => by
    obtain ⟨_, a, b, d⟩ := pairsTo_mem (List.mem_of_getElem? hx)
    exact ⟨a, b, d⟩
  refine wpC_for l.length (fun i vs M => vs = [.slice (l.map Stay.row) c, .ptr 0 0, .slice ((ridesOf l).map pairRow) .unk, .int .i64 (Go.Proofs.pairsTo (rideT l) l.length i).length, .int .i64 l.length, .int .i64 i] ∧ M = [.box (boundsRow st lo hi)]) ⟨rfl, rfl⟩ ?_ ?_
  · rintro i vs M hi' hd ⟨rfl, rfl⟩
    have hcnt := Go.Proofs.pairsTo_len (rideT l) l.length i
    have hil : i * l.length ≤ 60 * 60 := Nat.mul_le_mul (by omega) (by omega)
    simp -implicitDefEqProofs (disch := omega) only [go_sem, Nat.reduceAdd, Nat.reduceMul, Nat.reduceSub, Nat.reduceBEq, Nat.reduceLeDiff, Nat.reduceLT, fn_transitlaw16_CallCounts, e7_1, w7_1, e7_3, w7_3, c7_4, e7_6, w7_6, e7_8, w7_8, e7_10, w7_10, c7_11, e7_13, w7_13, e7_15, w7_15, e7_17, w7_17, e7_19, w7_19, c7_20, e7_22, w7_22, e7_24, w7_24, e7_26, w7_26, c7_27, e7_29, w7_29, e7_31, w7_31, e7_33, w7_33, c7_34, c7_35, e7_37, w7_37, c7_38, c7_39, c7_40, c7_41, c7_42, c7_43, c7_44, c7_45, e7_47, w7_47, c7_48, c7_49, c7_50, c7_51, c7_52, c7_53, e7_55, w7_55, e7_57, w7_57, e7_59, w7_59, c7_60, e7_62, w7_62, e7_64, w7_64, c7_65, e7_67, w7_67, e7_69, w7_69, c7_70, e7_72, w7_72, e7_74, w7_74, c7_75, e7_77, w7_77, c7_78, c7_79, c7_80, c7_81, e7_83, w7_83, c7_84, c7_85, c7_86, c7_87, c7_88, c7_89, e7_91, w7_91, c7_92, c7_93, c7_94, c7_95, c7_96, c7_97, c7_98, c7_99, c7_100, hd]
    refine wpC_for l.length (fun j vs M => vs = [.slice (l.map Stay.row) c, .ptr 0 0, .slice ((ridesOf l).map pairRow) .unk, .int .i64 ((Go.Proofs.pairsTo (rideT l) l.length i).length + (Go.Proofs.rowP (rideT l) i j).length : Nat), .int .i64 i, .int .i64 l.length, .int .i64 i, .int .i64 l.length, .int .i64 j] ∧ M = [.box (boundsRow st lo hi)]) ⟨rfl, rfl⟩ ?_ ?_
    · rintro j vs M hj hjd ⟨rfl, rfl⟩
      have hrow := Go.Proofs.rowP_len (rideT l) i j
      have hnext := ridB_row (l := l) (i := i) hj
      simp -implicitDefEqProofs (disch := omega) only [go_sem, Nat.reduceAdd, Nat.reduceMul, Nat.reduceSub, Nat.reduceBEq, Nat.reduceLeDiff, Nat.reduceLT, fn_transitlaw16_CallCounts, e7_1, w7_1, e7_3, w7_3, c7_4, e7_6, w7_6, e7_8, w7_8, e7_10, w7_10, c7_11, e7_13, w7_13, e7_15, w7_15, e7_17, w7_17, e7_19, w7_19, c7_20, e7_22, w7_22, e7_24, w7_24, e7_26, w7_26, c7_27, e7_29, w7_29, e7_31, w7_31, e7_33, w7_33, c7_34, c7_35, e7_37, w7_37, c7_38, c7_39, c7_40, c7_41, c7_42, c7_43, c7_44, c7_45, e7_47, w7_47, c7_48, c7_49, c7_50, c7_51, c7_52, c7_53, e7_55, w7_55, e7_57, w7_57, e7_59, w7_59, c7_60, e7_62, w7_62, e7_64, w7_64, c7_65, e7_67, w7_67, e7_69, w7_69, c7_70, e7_72, w7_72, e7_74, w7_74, c7_75, e7_77, w7_77, c7_78, c7_79, c7_80, c7_81, e7_83, w7_83, c7_84, c7_85, c7_86, c7_87, c7_88, c7_89, e7_91, w7_91, c7_92, c7_93, c7_94, c7_95, c7_96, c7_97, c7_98, c7_99, c7_100, hjd]
      first | refine callD (call_Ridable_ok l c i j) ?_ | refine callQD (call_Ridable_ok l c i j) ?_
      simp -implicitDefEqProofs (disch := omega) only [go_sem, Nat.reduceAdd, Nat.reduceMul, Nat.reduceSub, Nat.reduceBEq, Nat.reduceLeDiff, Nat.reduceLT, fn_transitlaw16_CallCounts, e7_1, w7_1, e7_3, w7_3, c7_4, e7_6, w7_6, e7_8, w7_8, e7_10, w7_10, c7_11, e7_13, w7_13, e7_15, w7_15, e7_17, w7_17, e7_19, w7_19, c7_20, e7_22, w7_22, e7_24, w7_24, e7_26, w7_26, c7_27, e7_29, w7_29, e7_31, w7_31, e7_33, w7_33, c7_34, c7_35, e7_37, w7_37, c7_38, c7_39, c7_40, c7_41, c7_42, c7_43, c7_44, c7_45, e7_47, w7_47, c7_48, c7_49, c7_50, c7_51, c7_52, c7_53, e7_55, w7_55, e7_57, w7_57, e7_59, w7_59, c7_60, e7_62, w7_62, e7_64, w7_64, c7_65, e7_67, w7_67, e7_69, w7_69, c7_70, e7_72, w7_72, e7_74, w7_74, c7_75, e7_77, w7_77, c7_78, c7_79, c7_80, c7_81, e7_83, w7_83, c7_84, c7_85, c7_86, c7_87, c7_88, c7_89, e7_91, w7_91, c7_92, c7_93, c7_94, c7_95, c7_96, c7_97, c7_98, c7_99, c7_100]
      refine ifB (fun h => ?_) (fun h => ?_)
      · rw [h, if_pos rfl] at hnext
        simp -implicitDefEqProofs (disch := omega) only [go_sem, Nat.reduceAdd, Nat.reduceMul, Nat.reduceSub, Nat.reduceBEq, Nat.reduceLeDiff, Nat.reduceLT, fn_transitlaw16_CallCounts, e7_1, w7_1, e7_3, w7_3, c7_4, e7_6, w7_6, e7_8, w7_8, e7_10, w7_10, c7_11, e7_13, w7_13, e7_15, w7_15, e7_17, w7_17, e7_19, w7_19, c7_20, e7_22, w7_22, e7_24, w7_24, e7_26, w7_26, c7_27, e7_29, w7_29, e7_31, w7_31, e7_33, w7_33, c7_34, c7_35, e7_37, w7_37, c7_38, c7_39, c7_40, c7_41, c7_42, c7_43, c7_44, c7_45, e7_47, w7_47, c7_48, c7_49, c7_50, c7_51, c7_52, c7_53, e7_55, w7_55, e7_57, w7_57, e7_59, w7_59, c7_60, e7_62, w7_62, e7_64, w7_64, c7_65, e7_67, w7_67, e7_69, w7_69, c7_70, e7_72, w7_72, e7_74, w7_74, c7_75, e7_77, w7_77, c7_78, c7_79, c7_80, c7_81, e7_83, w7_83, c7_84, c7_85, c7_86, c7_87, c7_88, c7_89, e7_91, w7_91, c7_92, c7_93, c7_94, c7_95, c7_96, c7_97, c7_98, c7_99, c7_100]
        refine next_stay hj ⟨?_, rfl⟩
        rw [hnext]
        simp only [vals, sget]
        rfl
      · rw [h, if_neg (by simp), Nat.add_zero] at hnext
        simp -implicitDefEqProofs (disch := omega) only [go_sem, Nat.reduceAdd, Nat.reduceMul, Nat.reduceSub, Nat.reduceBEq, Nat.reduceLeDiff, Nat.reduceLT, fn_transitlaw16_CallCounts, e7_1, w7_1, e7_3, w7_3, c7_4, e7_6, w7_6, e7_8, w7_8, e7_10, w7_10, c7_11, e7_13, w7_13, e7_15, w7_15, e7_17, w7_17, e7_19, w7_19, c7_20, e7_22, w7_22, e7_24, w7_24, e7_26, w7_26, c7_27, e7_29, w7_29, e7_31, w7_31, e7_33, w7_33, c7_34, c7_35, e7_37, w7_37, c7_38, c7_39, c7_40, c7_41, c7_42, c7_43, c7_44, c7_45, e7_47, w7_47, c7_48, c7_49, c7_50, c7_51, c7_52, c7_53, e7_55, w7_55, e7_57, w7_57, e7_59, w7_59, c7_60, e7_62, w7_62, e7_64, w7_64, c7_65, e7_67, w7_67, e7_69, w7_69, c7_70, e7_72, w7_72, e7_74, w7_74, c7_75, e7_77, w7_77, c7_78, c7_79, c7_80, c7_81, e7_83, w7_83, c7_84, c7_85, c7_86, c7_87, c7_88, c7_89, e7_91, w7_91, c7_92, c7_93, c7_94, c7_95, c7_96, c7_97, c7_98, c7_99, c7_100]
        refine next_stay hj ⟨?_, rfl⟩
        rw [hnext]
        simp only [vals, sget]; rfl
    · rintro vs M ⟨rfl, rfl⟩
      simp -implicitDefEqProofs (disch := omega) only [go_sem, Nat.reduceAdd, Nat.reduceMul, Nat.reduceSub, Nat.reduceBEq, Nat.reduceLeDiff, Nat.reduceLT, fn_transitlaw16_CallCounts, e7_1, w7_1, e7_3, w7_3, c7_4, e7_6, w7_6, e7_8, w7_8, e7_10, w7_10, c7_11, e7_13, w7_13, e7_15, w7_15, e7_17, w7_17, e7_19, w7_19, c7_20, e7_22, w7_22, e7_24, w7_24, e7_26, w7_26, c7_27, e7_29, w7_29, e7_31, w7_31, e7_33, w7_33, c7_34, c7_35, e7_37, w7_37, c7_38, c7_39, c7_40, c7_41, c7_42, c7_43, c7_44, c7_45, e7_47, w7_47, c7_48, c7_49, c7_50, c7_51, c7_52, c7_53, e7_55, w7_55, e7_57, w7_57, e7_59, w7_59, c7_60, e7_62, w7_62, e7_64, w7_64, c7_65, e7_67, w7_67, e7_69, w7_69, c7_70, e7_72, w7_72, e7_74, w7_74, c7_75, e7_77, w7_77, c7_78, c7_79, c7_80, c7_81, e7_83, w7_83, c7_84, c7_85, c7_86, c7_87, c7_88, c7_89, e7_91, w7_91, c7_92, c7_93, c7_94, c7_95, c7_96, c7_97, c7_98, c7_99, c7_100, dec_irrefl]
      refine next_stay hi' ⟨?_, rfl⟩
      rw [Go.Proofs.pairsTo, List.length_append]
      simp only [vals, sget]; rfl
  rintro vs M ⟨rfl, rfl⟩
  simp -implicitDefEqProofs (disch := omega) only [go_sem, Nat.reduceAdd, Nat.reduceMul, Nat.reduceSub, Nat.reduceBEq, Nat.reduceLeDiff, Nat.reduceLT, fn_transitlaw16_CallCounts, e7_1, w7_1, e7_3, w7_3, c7_4, e7_6, w7_6, e7_8, w7_8, e7_10, w7_10, c7_11, e7_13, w7_13, e7_15, w7_15, e7_17, w7_17, e7_19, w7_19, c7_20, e7_22, w7_22, e7_24, w7_24, e7_26, w7_26, c7_27, e7_29, w7_29, e7_31, w7_31, e7_33, w7_33, c7_34, c7_35, e7_37, w7_37, c7_38, c7_39, c7_40, c7_41, c7_42, c7_43, c7_44, c7_45, e7_47, w7_47, c7_48, c7_49, c7_50, c7_51, c7_52, c7_53, e7_55, w7_55, e7_57, w7_57, e7_59, w7_59, c7_60, e7_62, w7_62, e7_64, w7_64, c7_65, e7_67, w7_67, e7_69, w7_69, c7_70, e7_72, w7_72, e7_74, w7_74, c7_75, e7_77, w7_77, c7_78, c7_79, c7_80, c7_81, e7_83, w7_83, c7_84, c7_85, c7_86, c7_87, c7_88, c7_89, e7_91, w7_91, c7_92, c7_93, c7_94, c7_95, c7_96, c7_97, c7_98, c7_99, c7_100, dec_irrefl, boundsRow]
  first | refine callD (call_Check_ok l c st lo hi (by omega)) ?_ | refine callQD (call_Check_ok l c st lo hi (by omega)) ?_
  simp -implicitDefEqProofs (disch := omega) only [go_sem, Nat.reduceAdd, Nat.reduceMul, Nat.reduceSub, Nat.reduceBEq, Nat.reduceLeDiff, Nat.reduceLT, fn_transitlaw16_CallCounts, e7_1, w7_1, e7_3, w7_3, c7_4, e7_6, w7_6, e7_8, w7_8, e7_10, w7_10, c7_11, e7_13, w7_13, e7_15, w7_15, e7_17, w7_17, e7_19, w7_19, c7_20, e7_22, w7_22, e7_24, w7_24, e7_26, w7_26, c7_27, e7_29, w7_29, e7_31, w7_31, e7_33, w7_33, c7_34, c7_35, e7_37, w7_37, c7_38, c7_39, c7_40, c7_41, c7_42, c7_43, c7_44, c7_45, e7_47, w7_47, c7_48, c7_49, c7_50, c7_51, c7_52, c7_53, e7_55, w7_55, e7_57, w7_57, e7_59, w7_59, c7_60, e7_62, w7_62, e7_64, w7_64, c7_65, e7_67, w7_67, e7_69, w7_69, c7_70, e7_72, w7_72, e7_74, w7_74, c7_75, e7_77, w7_77, c7_78, c7_79, c7_80, c7_81, e7_83, w7_83, c7_84, c7_85, c7_86, c7_87, c7_88, c7_89, e7_91, w7_91, c7_92, c7_93, c7_94, c7_95, c7_96, c7_97, c7_98, c7_99, c7_100, pairV]
  refine wpC_forL (ridesOf l) (fun i vs M => vs = [.slice (l.map Stay.row) c, .slice ((ridesOf l).map pairRow) .unk, .int .i64 (Go.Proofs.pairsTo (rideT l) l.length l.length).length, .int .i64 (checkC l st lo hi).2, .slice ((ridesOf l).map pairRow) .unk, .int .i64 (ridesOf l).length, .int .i64 i] ∧ M = [.box (boundsRow st lo hi)]) ⟨rfl, rfl⟩ ?_ ?_
  rotate_left
  · rintro vs M ⟨rfl, rfl⟩
    have e : ((Go.Proofs.pairsTo (rideT l) l.length l.length).length : Int) = ((ridesOf l).length : Int) := rfl
    simp -implicitDefEqProofs (disch := omega) only [go_sem, Nat.reduceAdd, Nat.reduceMul, Nat.reduceSub, Nat.reduceBEq, Nat.reduceLeDiff, Nat.reduceLT, fn_transitlaw16_CallCounts, e7_1, w7_1, e7_3, w7_3, c7_4, e7_6, w7_6, e7_8, w7_8, e7_10, w7_10, c7_11, e7_13, w7_13, e7_15, w7_15, e7_17, w7_17, e7_19, w7_19, c7_20, e7_22, w7_22, e7_24, w7_24, e7_26, w7_26, c7_27, e7_29, w7_29, e7_31, w7_31, e7_33, w7_33, c7_34, c7_35, e7_37, w7_37, c7_38, c7_39, c7_40, c7_41, c7_42, c7_43, c7_44, c7_45, e7_47, w7_47, c7_48, c7_49, c7_50, c7_51, c7_52, c7_53, e7_55, w7_55, e7_57, w7_57, e7_59, w7_59, c7_60, e7_62, w7_62, e7_64, w7_64, c7_65, e7_67, w7_67, e7_69, w7_69, c7_70, e7_72, w7_72, e7_74, w7_74, c7_75, e7_77, w7_77, c7_78, c7_79, c7_80, c7_81, e7_83, w7_83, c7_84, c7_85, c7_86, c7_87, c7_88, c7_89, e7_91, w7_91, c7_92, c7_93, c7_94, c7_95, c7_96, c7_97, c7_98, c7_99, c7_100, dec_irrefl, e]
    first | refine callD (exampleHolds_ok) ?_ | refine callQD (exampleHolds_ok) ?_
    simp -implicitDefEqProofs (disch := omega) only [go_sem, Nat.reduceAdd, Nat.reduceMul, Nat.reduceSub, Nat.reduceBEq, Nat.reduceLeDiff, Nat.reduceLT, fn_transitlaw16_CallCounts, e7_1, w7_1, e7_3, w7_3, c7_4, e7_6, w7_6, e7_8, w7_8, e7_10, w7_10, c7_11, e7_13, w7_13, e7_15, w7_15, e7_17, w7_17, e7_19, w7_19, c7_20, e7_22, w7_22, e7_24, w7_24, e7_26, w7_26, c7_27, e7_29, w7_29, e7_31, w7_31, e7_33, w7_33, c7_34, c7_35, e7_37, w7_37, c7_38, c7_39, c7_40, c7_41, c7_42, c7_43, c7_44, c7_45, e7_47, w7_47, c7_48, c7_49, c7_50, c7_51, c7_52, c7_53, e7_55, w7_55, e7_57, w7_57, e7_59, w7_59, c7_60, e7_62, w7_62, e7_64, w7_64, c7_65, e7_67, w7_67, e7_69, w7_69, c7_70, e7_72, w7_72, e7_74, w7_74, c7_75, e7_77, w7_77, c7_78, c7_79, c7_80, c7_81, e7_83, w7_83, c7_84, c7_85, c7_86, c7_87, c7_88, c7_89, e7_91, w7_91, c7_92, c7_93, c7_94, c7_95, c7_96, c7_97, c7_98, c7_99, c7_100]
  rintro i x vs M hx hi' hd ⟨rfl, rfl⟩
  obtain ⟨m1, m2, m3⟩ := hmem i x hx
  have t1 : Int.toNat 1 = 1 := rfl
  have t0 : Int.toNat 0 = 0 := rfl
  have hrid : ridB l (x.1 : Int) (x.2 : Int) = true := by rw [ridB_yes m1 m2]; exact m3
  simp -implicitDefEqProofs (disch := omega) only [go_sem, Nat.reduceAdd, Nat.reduceMul, Nat.reduceSub, Nat.reduceBEq, Nat.reduceLeDiff, Nat.reduceLT, fn_transitlaw16_CallCounts, e7_1, w7_1, e7_3, w7_3, c7_4, e7_6, w7_6, e7_8, w7_8, e7_10, w7_10, c7_11, e7_13, w7_13, e7_15, w7_15, e7_17, w7_17, e7_19, w7_19, c7_20, e7_22, w7_22, e7_24, w7_24, e7_26, w7_26, c7_27, e7_29, w7_29, e7_31, w7_31, e7_33, w7_33, c7_34, c7_35, e7_37, w7_37, c7_38, c7_39, c7_40, c7_41, c7_42, c7_43, c7_44, c7_45, e7_47, w7_47, c7_48, c7_49, c7_50, c7_51, c7_52, c7_53, e7_55, w7_55, e7_57, w7_57, e7_59, w7_59, c7_60, e7_62, w7_62, e7_64, w7_64, c7_65, e7_67, w7_67, e7_69, w7_69, c7_70, e7_72, w7_72, e7_74, w7_74, c7_75, e7_77, w7_77, c7_78, c7_79, c7_80, c7_81, e7_83, w7_83, c7_84, c7_85, c7_86, c7_87, c7_88, c7_89, e7_91, w7_91, c7_92, c7_93, c7_94, c7_95, c7_96, c7_97, c7_98, c7_99, c7_100, hd, hx, pairRow, boundsRow]
  first | refine callD (call_Ridable_ok l c x.1 x.2) ?_ | refine callQD (call_Ridable_ok l c x.1 x.2) ?_
  rw [hrid]
  simp -implicitDefEqProofs (disch := omega) only [go_sem, Nat.reduceAdd, Nat.reduceMul, Nat.reduceSub, Nat.reduceBEq, Nat.reduceLeDiff, Nat.reduceLT, fn_transitlaw16_CallCounts, e7_1, w7_1, e7_3, w7_3, c7_4, e7_6, w7_6, e7_8, w7_8, e7_10, w7_10, c7_11, e7_13, w7_13, e7_15, w7_15, e7_17, w7_17, e7_19, w7_19, c7_20, e7_22, w7_22, e7_24, w7_24, e7_26, w7_26, c7_27, e7_29, w7_29, e7_31, w7_31, e7_33, w7_33, c7_34, c7_35, e7_37, w7_37, c7_38, c7_39, c7_40, c7_41, c7_42, c7_43, c7_44, c7_45, e7_47, w7_47, c7_48, c7_49, c7_50, c7_51, c7_52, c7_53, e7_55, w7_55, e7_57, w7_57, e7_59, w7_59, c7_60, e7_62, w7_62, e7_64, w7_64, c7_65, e7_67, w7_67, e7_69, w7_69, c7_70, e7_72, w7_72, e7_74, w7_74, c7_75, e7_77, w7_77, c7_78, c7_79, c7_80, c7_81, e7_83, w7_83, c7_84, c7_85, c7_86, c7_87, c7_88, c7_89, e7_91, w7_91, c7_92, c7_93, c7_94, c7_95, c7_96, c7_97, c7_98, c7_99, c7_100]
  refine ifD (fun h2 => ?_) (fun h2 => ?_)
  · omega
  simp -implicitDefEqProofs (disch := omega) only [go_sem, Nat.reduceAdd, Nat.reduceMul, Nat.reduceSub, Nat.reduceBEq, Nat.reduceLeDiff, Nat.reduceLT, fn_transitlaw16_CallCounts, e7_1, w7_1, e7_3, w7_3, c7_4, e7_6, w7_6, e7_8, w7_8, e7_10, w7_10, c7_11, e7_13, w7_13, e7_15, w7_15, e7_17, w7_17, e7_19, w7_19, c7_20, e7_22, w7_22, e7_24, w7_24, e7_26, w7_26, c7_27, e7_29, w7_29, e7_31, w7_31, e7_33, w7_33, c7_34, c7_35, e7_37, w7_37, c7_38, c7_39, c7_40, c7_41, c7_42, c7_43, c7_44, c7_45, e7_47, w7_47, c7_48, c7_49, c7_50, c7_51, c7_52, c7_53, e7_55, w7_55, e7_57, w7_57, e7_59, w7_59, c7_60, e7_62, w7_62, e7_64, w7_64, c7_65, e7_67, w7_67, e7_69, w7_69, c7_70, e7_72, w7_72, e7_74, w7_74, c7_75, e7_77, w7_77, c7_78, c7_79, c7_80, c7_81, e7_83, w7_83, c7_84, c7_85, c7_86, c7_87, c7_88, c7_89, e7_91, w7_91, c7_92, c7_93, c7_94, c7_95, c7_96, c7_97, c7_98, c7_99, c7_100, pairRow, t0, t1]
  refine ifD (fun h3 => ?_) (fun h3 => ?_)
  · omega
  simp -implicitDefEqProofs (disch := omega) only [go_sem, Nat.reduceAdd, Nat.reduceMul, Nat.reduceSub, Nat.reduceBEq, Nat.reduceLeDiff, Nat.reduceLT, fn_transitlaw16_CallCounts, e7_1, w7_1, e7_3, w7_3, c7_4, e7_6, w7_6, e7_8, w7_8, e7_10, w7_10, c7_11, e7_13, w7_13, e7_15, w7_15, e7_17, w7_17, e7_19, w7_19, c7_20, e7_22, w7_22, e7_24, w7_24, e7_26, w7_26, c7_27, e7_29, w7_29, e7_31, w7_31, e7_33, w7_33, c7_34, c7_35, e7_37, w7_37, c7_38, c7_39, c7_40, c7_41, c7_42, c7_43, c7_44, c7_45, e7_47, w7_47, c7_48, c7_49, c7_50, c7_51, c7_52, c7_53, e7_55, w7_55, e7_57, w7_57, e7_59, w7_59, c7_60, e7_62, w7_62, e7_64, w7_64, c7_65, e7_67, w7_67, e7_69, w7_69, c7_70, e7_72, w7_72, e7_74, w7_74, c7_75, e7_77, w7_77, c7_78, c7_79, c7_80, c7_81, e7_83, w7_83, c7_84, c7_85, c7_86, c7_87, c7_88, c7_89, e7_91, w7_91, c7_92, c7_93, c7_94, c7_95, c7_96, c7_97, c7_98, c7_99, c7_100, pairRow, t0, t1]
  refine ifD (fun h4 => ?_) (fun h4 => ?_)
  · omega
  obtain ⟨a, ha⟩ : ∃ a, l[x.1]? = some a := ⟨l[x.1], by simp⟩
  obtain ⟨b, hb⟩ : ∃ b, l[x.2]? = some b := ⟨l[x.2], by simp⟩
  simp -implicitDefEqProofs (disch := omega) only [go_sem, Nat.reduceAdd, Nat.reduceMul, Nat.reduceSub, Nat.reduceBEq, Nat.reduceLeDiff, Nat.reduceLT, fn_transitlaw16_CallCounts, e7_1, w7_1, e7_3, w7_3, c7_4, e7_6, w7_6, e7_8, w7_8, e7_10, w7_10, c7_11, e7_13, w7_13, e7_15, w7_15, e7_17, w7_17, e7_19, w7_19, c7_20, e7_22, w7_22, e7_24, w7_24, e7_26, w7_26, c7_27, e7_29, w7_29, e7_31, w7_31, e7_33, w7_33, c7_34, c7_35, e7_37, w7_37, c7_38, c7_39, c7_40, c7_41, c7_42, c7_43, c7_44, c7_45, e7_47, w7_47, c7_48, c7_49, c7_50, c7_51, c7_52, c7_53, e7_55, w7_55, e7_57, w7_57, e7_59, w7_59, c7_60, e7_62, w7_62, e7_64, w7_64, c7_65, e7_67, w7_67, e7_69, w7_69, c7_70, e7_72, w7_72, e7_74, w7_74, c7_75, e7_77, w7_77, c7_78, c7_79, c7_80, c7_81, e7_83, w7_83, c7_84, c7_85, c7_86, c7_87, c7_88, c7_89, e7_91, w7_91, c7_92, c7_93, c7_94, c7_95, c7_96, c7_97, c7_98, c7_99, c7_100, pairRow, t0, t1]
  refine ifD (fun h5 => ?_) (fun h5 => ?_)
  · have hz := check_all h5
    have hle : a.depart ≤ b.arrive := by
      obtain ⟨m, hm⟩ : ∃ m, x.2 = x.1 + 1 + m := ⟨x.2 - (x.1 + 1), by omega⟩
      rw [hm] at hb
      exact times_up hz ha m b hb
    simp -implicitDefEqProofs (disch := omega) only [go_sem, Nat.reduceAdd, Nat.reduceMul, Nat.reduceSub, Nat.reduceBEq, Nat.reduceLeDiff, Nat.reduceLT, fn_transitlaw16_CallCounts, e7_1, w7_1, e7_3, w7_3, c7_4, e7_6, w7_6, e7_8, w7_8, e7_10, w7_10, c7_11, e7_13, w7_13, e7_15, w7_15, e7_17, w7_17, e7_19, w7_19, c7_20, e7_22, w7_22, e7_24, w7_24, e7_26, w7_26, c7_27, e7_29, w7_29, e7_31, w7_31, e7_33, w7_33, c7_34, c7_35, e7_37, w7_37, c7_38, c7_39, c7_40, c7_41, c7_42, c7_43, c7_44, c7_45, e7_47, w7_47, c7_48, c7_49, c7_50, c7_51, c7_52, c7_53, e7_55, w7_55, e7_57, w7_57, e7_59, w7_59, c7_60, e7_62, w7_62, e7_64, w7_64, c7_65, e7_67, w7_67, e7_69, w7_69, c7_70, e7_72, w7_72, e7_74, w7_74, c7_75, e7_77, w7_77, c7_78, c7_79, c7_80, c7_81, e7_83, w7_83, c7_84, c7_85, c7_86, c7_87, c7_88, c7_89, e7_91, w7_91, c7_92, c7_93, c7_94, c7_95, c7_96, c7_97, c7_98, c7_99, c7_100, pairRow, ha, hb, Stay.row, t0, t1]
    refine ifD (fun h6 => ?_) (fun h6 => ?_)
    · omega
    simp -implicitDefEqProofs (disch := omega) only [go_sem, Nat.reduceAdd, Nat.reduceMul, Nat.reduceSub, Nat.reduceBEq, Nat.reduceLeDiff, Nat.reduceLT, fn_transitlaw16_CallCounts, e7_1, w7_1, e7_3, w7_3, c7_4, e7_6, w7_6, e7_8, w7_8, e7_10, w7_10, c7_11, e7_13, w7_13, e7_15, w7_15, e7_17, w7_17, e7_19, w7_19, c7_20, e7_22, w7_22, e7_24, w7_24, e7_26, w7_26, c7_27, e7_29, w7_29, e7_31, w7_31, e7_33, w7_33, c7_34, c7_35, e7_37, w7_37, c7_38, c7_39, c7_40, c7_41, c7_42, c7_43, c7_44, c7_45, e7_47, w7_47, c7_48, c7_49, c7_50, c7_51, c7_52, c7_53, e7_55, w7_55, e7_57, w7_57, e7_59, w7_59, c7_60, e7_62, w7_62, e7_64, w7_64, c7_65, e7_67, w7_67, e7_69, w7_69, c7_70, e7_72, w7_72, e7_74, w7_74, c7_75, e7_77, w7_77, c7_78, c7_79, c7_80, c7_81, e7_83, w7_83, c7_84, c7_85, c7_86, c7_87, c7_88, c7_89, e7_91, w7_91, c7_92, c7_93, c7_94, c7_95, c7_96, c7_97, c7_98, c7_99, c7_100, pairRow, t0, t1]
    refine ifD (fun h7 => ?_) (fun h7 => ?_)
    · obtain ⟨y, hy⟩ : ∃ y, (ridesOf l)[i - 1]? = some y := ⟨(ridesOf l)[i - 1], by simp⟩
      have hlex : Lex y x := rides_lex l hy (by rw [show i - 1 + 1 = i by omega]; exact hx)
      unfold Lex at hlex
      simp -implicitDefEqProofs (disch := omega) only [go_sem, Nat.reduceAdd, Nat.reduceMul, Nat.reduceSub, Nat.reduceBEq, Nat.reduceLeDiff, Nat.reduceLT, fn_transitlaw16_CallCounts, e7_1, w7_1, e7_3, w7_3, c7_4, e7_6, w7_6, e7_8, w7_8, e7_10, w7_10, c7_11, e7_13, w7_13, e7_15, w7_15, e7_17, w7_17, e7_19, w7_19, c7_20, e7_22, w7_22, e7_24, w7_24, e7_26, w7_26, c7_27, e7_29, w7_29, e7_31, w7_31, e7_33, w7_33, c7_34, c7_35, e7_37, w7_37, c7_38, c7_39, c7_40, c7_41, c7_42, c7_43, c7_44, c7_45, e7_47, w7_47, c7_48, c7_49, c7_50, c7_51, c7_52, c7_53, e7_55, w7_55, e7_57, w7_57, e7_59, w7_59, c7_60, e7_62, w7_62, e7_64, w7_64, c7_65, e7_67, w7_67, e7_69, w7_69, c7_70, e7_72, w7_72, e7_74, w7_74, c7_75, e7_77, w7_77, c7_78, c7_79, c7_80, c7_81, e7_83, w7_83, c7_84, c7_85, c7_86, c7_87, c7_88, c7_89, e7_91, w7_91, c7_92, c7_93, c7_94, c7_95, c7_96, c7_97, c7_98, c7_99, c7_100, pairRow, t0, t1, hy]
      refine ifD (fun h8 => ?_) (fun h8 => ?_)
      · omega
      simp -implicitDefEqProofs (disch := omega) only [go_sem, Nat.reduceAdd, Nat.reduceMul, Nat.reduceSub, Nat.reduceBEq, Nat.reduceLeDiff, Nat.reduceLT, fn_transitlaw16_CallCounts, e7_1, w7_1, e7_3, w7_3, c7_4, e7_6, w7_6, e7_8, w7_8, e7_10, w7_10, c7_11, e7_13, w7_13, e7_15, w7_15, e7_17, w7_17, e7_19, w7_19, c7_20, e7_22, w7_22, e7_24, w7_24, e7_26, w7_26, c7_27, e7_29, w7_29, e7_31, w7_31, e7_33, w7_33, c7_34, c7_35, e7_37, w7_37, c7_38, c7_39, c7_40, c7_41, c7_42, c7_43, c7_44, c7_45, e7_47, w7_47, c7_48, c7_49, c7_50, c7_51, c7_52, c7_53, e7_55, w7_55, e7_57, w7_57, e7_59, w7_59, c7_60, e7_62, w7_62, e7_64, w7_64, c7_65, e7_67, w7_67, e7_69, w7_69, c7_70, e7_72, w7_72, e7_74, w7_74, c7_75, e7_77, w7_77, c7_78, c7_79, c7_80, c7_81, e7_83, w7_83, c7_84, c7_85, c7_86, c7_87, c7_88, c7_89, e7_91, w7_91, c7_92, c7_93, c7_94, c7_95, c7_96, c7_97, c7_98, c7_99, c7_100, pairRow, t0, t1, hy]
      refine ifD (fun h9 => ?_) (fun h9 => ?_)
      · simp -implicitDefEqProofs (disch := omega) only [go_sem, Nat.reduceAdd, Nat.reduceMul, Nat.reduceSub, Nat.reduceBEq, Nat.reduceLeDiff, Nat.reduceLT, fn_transitlaw16_CallCounts, e7_1, w7_1, e7_3, w7_3, c7_4, e7_6, w7_6, e7_8, w7_8, e7_10, w7_10, c7_11, e7_13, w7_13, e7_15, w7_15, e7_17, w7_17, e7_19, w7_19, c7_20, e7_22, w7_22, e7_24, w7_24, e7_26, w7_26, c7_27, e7_29, w7_29, e7_31, w7_31, e7_33, w7_33, c7_34, c7_35, e7_37, w7_37, c7_38, c7_39, c7_40, c7_41, c7_42, c7_43, c7_44, c7_45, e7_47, w7_47, c7_48, c7_49, c7_50, c7_51, c7_52, c7_53, e7_55, w7_55, e7_57, w7_57, e7_59, w7_59, c7_60, e7_62, w7_62, e7_64, w7_64, c7_65, e7_67, w7_67, e7_69, w7_69, c7_70, e7_72, w7_72, e7_74, w7_74, c7_75, e7_77, w7_77, c7_78, c7_79, c7_80, c7_81, e7_83, w7_83, c7_84, c7_85, c7_86, c7_87, c7_88, c7_89, e7_91, w7_91, c7_92, c7_93, c7_94, c7_95, c7_96, c7_97, c7_98, c7_99, c7_100, pairRow, t0, t1, hy]
        refine ifD (fun h10 => ?_) (fun h10 => ?_)
        · omega
        simp -implicitDefEqProofs (disch := omega) only [go_sem, Nat.reduceAdd, Nat.reduceMul, Nat.reduceSub, Nat.reduceBEq, Nat.reduceLeDiff, Nat.reduceLT, fn_transitlaw16_CallCounts, e7_1, w7_1, e7_3, w7_3, c7_4, e7_6, w7_6, e7_8, w7_8, e7_10, w7_10, c7_11, e7_13, w7_13, e7_15, w7_15, e7_17, w7_17, e7_19, w7_19, c7_20, e7_22, w7_22, e7_24, w7_24, e7_26, w7_26, c7_27, e7_29, w7_29, e7_31, w7_31, e7_33, w7_33, c7_34, c7_35, e7_37, w7_37, c7_38, c7_39, c7_40, c7_41, c7_42, c7_43, c7_44, c7_45, e7_47, w7_47, c7_48, c7_49, c7_50, c7_51, c7_52, c7_53, e7_55, w7_55, e7_57, w7_57, e7_59, w7_59, c7_60, e7_62, w7_62, e7_64, w7_64, c7_65, e7_67, w7_67, e7_69, w7_69, c7_70, e7_72, w7_72, e7_74, w7_74, c7_75, e7_77, w7_77, c7_78, c7_79, c7_80, c7_81, e7_83, w7_83, c7_84, c7_85, c7_86, c7_87, c7_88, c7_89, e7_91, w7_91, c7_92, c7_93, c7_94, c7_95, c7_96, c7_97, c7_98, c7_99, c7_100, pairRow, t0, t1]
        refine next_pop hi' rfl ⟨?_, rfl⟩
        simp only [vals, sget]; rfl
      · simp -implicitDefEqProofs (disch := omega) only [go_sem, Nat.reduceAdd, Nat.reduceMul, Nat.reduceSub, Nat.reduceBEq, Nat.reduceLeDiff, Nat.reduceLT, fn_transitlaw16_CallCounts, e7_1, w7_1, e7_3, w7_3, c7_4, e7_6, w7_6, e7_8, w7_8, e7_10, w7_10, c7_11, e7_13, w7_13, e7_15, w7_15, e7_17, w7_17, e7_19, w7_19, c7_20, e7_22, w7_22, e7_24, w7_24, e7_26, w7_26, c7_27, e7_29, w7_29, e7_31, w7_31, e7_33, w7_33, c7_34, c7_35, e7_37, w7_37, c7_38, c7_39, c7_40, c7_41, c7_42, c7_43, c7_44, c7_45, e7_47, w7_47, c7_48, c7_49, c7_50, c7_51, c7_52, c7_53, e7_55, w7_55, e7_57, w7_57, e7_59, w7_59, c7_60, e7_62, w7_62, e7_64, w7_64, c7_65, e7_67, w7_67, e7_69, w7_69, c7_70, e7_72, w7_72, e7_74, w7_74, c7_75, e7_77, w7_77, c7_78, c7_79, c7_80, c7_81, e7_83, w7_83, c7_84, c7_85, c7_86, c7_87, c7_88, c7_89, e7_91, w7_91, c7_92, c7_93, c7_94, c7_95, c7_96, c7_97, c7_98, c7_99, c7_100, pairRow, t0, t1]
        refine next_pop hi' rfl ⟨?_, rfl⟩
        simp only [vals, sget]; rfl
    · simp -implicitDefEqProofs (disch := omega) only [go_sem, Nat.reduceAdd, Nat.reduceMul, Nat.reduceSub, Nat.reduceBEq, Nat.reduceLeDiff, Nat.reduceLT, fn_transitlaw16_CallCounts, e7_1, w7_1, e7_3, w7_3, c7_4, e7_6, w7_6, e7_8, w7_8, e7_10, w7_10, c7_11, e7_13, w7_13, e7_15, w7_15, e7_17, w7_17, e7_19, w7_19, c7_20, e7_22, w7_22, e7_24, w7_24, e7_26, w7_26, c7_27, e7_29, w7_29, e7_31, w7_31, e7_33, w7_33, c7_34, c7_35, e7_37, w7_37, c7_38, c7_39, c7_40, c7_41, c7_42, c7_43, c7_44, c7_45, e7_47, w7_47, c7_48, c7_49, c7_50, c7_51, c7_52, c7_53, e7_55, w7_55, e7_57, w7_57, e7_59, w7_59, c7_60, e7_62, w7_62, e7_64, w7_64, c7_65, e7_67, w7_67, e7_69, w7_69, c7_70, e7_72, w7_72, e7_74, w7_74, c7_75, e7_77, w7_77, c7_78, c7_79, c7_80, c7_81, e7_83, w7_83, c7_84, c7_85, c7_86, c7_87, c7_88, c7_89, e7_91, w7_91, c7_92, c7_93, c7_94, c7_95, c7_96, c7_97, c7_98, c7_99, c7_100, pairRow, t0, t1]
      refine next_pop hi' rfl ⟨?_, rfl⟩
      simp only [vals, sget]; rfl
  · simp -implicitDefEqProofs (disch := omega) only [go_sem, Nat.reduceAdd, Nat.reduceMul, Nat.reduceSub, Nat.reduceBEq, Nat.reduceLeDiff, Nat.reduceLT, fn_transitlaw16_CallCounts, e7_1, w7_1, e7_3, w7_3, c7_4, e7_6, w7_6, e7_8, w7_8, e7_10, w7_10, c7_11, e7_13, w7_13, e7_15, w7_15, e7_17, w7_17, e7_19, w7_19, c7_20, e7_22, w7_22, e7_24, w7_24, e7_26, w7_26, c7_27, e7_29, w7_29, e7_31, w7_31, e7_33, w7_33, c7_34, c7_35, e7_37, w7_37, c7_38, c7_39, c7_40, c7_41, c7_42, c7_43, c7_44, c7_45, e7_47, w7_47, c7_48, c7_49, c7_50, c7_51, c7_52, c7_53, e7_55, w7_55, e7_57, w7_57, e7_59, w7_59, c7_60, e7_62, w7_62, e7_64, w7_64, c7_65, e7_67, w7_67, e7_69, w7_69, c7_70, e7_72, w7_72, e7_74, w7_74, c7_75, e7_77, w7_77, c7_78, c7_79, c7_80, c7_81, e7_83, w7_83, c7_84, c7_85, c7_86, c7_87, c7_88, c7_89, e7_91, w7_91, c7_92, c7_93, c7_94, c7_95, c7_96, c7_97, c7_98, c7_99, c7_100, pairRow, t0, t1]
    refine ifD (fun h7 => ?_) (fun h7 => ?_)
    · obtain ⟨y, hy⟩ : ∃ y, (ridesOf l)[i - 1]? = some y := ⟨(ridesOf l)[i - 1], by simp⟩
      have hlex : Lex y x := rides_lex l hy (by rw [show i - 1 + 1 = i by omega]; exact hx)
      unfold Lex at hlex
      simp -implicitDefEqProofs (disch := omega) only [go_sem, Nat.reduceAdd, Nat.reduceMul, Nat.reduceSub, Nat.reduceBEq, Nat.reduceLeDiff, Nat.reduceLT, fn_transitlaw16_CallCounts, e7_1, w7_1, e7_3, w7_3, c7_4, e7_6, w7_6, e7_8, w7_8, e7_10, w7_10, c7_11, e7_13, w7_13, e7_15, w7_15, e7_17, w7_17, e7_19, w7_19, c7_20, e7_22, w7_22, e7_24, w7_24, e7_26, w7_26, c7_27, e7_29, w7_29, e7_31, w7_31, e7_33, w7_33, c7_34, c7_35, e7_37, w7_37, c7_38, c7_39, c7_40, c7_41, c7_42, c7_43, c7_44, c7_45, e7_47, w7_47, c7_48, c7_49, c7_50, c7_51, c7_52, c7_53, e7_55, w7_55, e7_57, w7_57, e7_59, w7_59, c7_60, e7_62, w7_62, e7_64, w7_64, c7_65, e7_67, w7_67, e7_69, w7_69, c7_70, e7_72, w7_72, e7_74, w7_74, c7_75, e7_77, w7_77, c7_78, c7_79, c7_80, c7_81, e7_83, w7_83, c7_84, c7_85, c7_86, c7_87, c7_88, c7_89, e7_91, w7_91, c7_92, c7_93, c7_94, c7_95, c7_96, c7_97, c7_98, c7_99, c7_100, pairRow, t0, t1, hy]
      refine ifD (fun h8 => ?_) (fun h8 => ?_)
      · omega
      simp -implicitDefEqProofs (disch := omega) only [go_sem, Nat.reduceAdd, Nat.reduceMul, Nat.reduceSub, Nat.reduceBEq, Nat.reduceLeDiff, Nat.reduceLT, fn_transitlaw16_CallCounts, e7_1, w7_1, e7_3, w7_3, c7_4, e7_6, w7_6, e7_8, w7_8, e7_10, w7_10, c7_11, e7_13, w7_13, e7_15, w7_15, e7_17, w7_17, e7_19, w7_19, c7_20, e7_22, w7_22, e7_24, w7_24, e7_26, w7_26, c7_27, e7_29, w7_29, e7_31, w7_31, e7_33, w7_33, c7_34, c7_35, e7_37, w7_37, c7_38, c7_39, c7_40, c7_41, c7_42, c7_43, c7_44, c7_45, e7_47, w7_47, c7_48, c7_49, c7_50, c7_51, c7_52, c7_53, e7_55, w7_55, e7_57, w7_57, e7_59, w7_59, c7_60, e7_62, w7_62, e7_64, w7_64, c7_65, e7_67, w7_67, e7_69, w7_69, c7_70, e7_72, w7_72, e7_74, w7_74, c7_75, e7_77, w7_77, c7_78, c7_79, c7_80, c7_81, e7_83, w7_83, c7_84, c7_85, c7_86, c7_87, c7_88, c7_89, e7_91, w7_91, c7_92, c7_93, c7_94, c7_95, c7_96, c7_97, c7_98, c7_99, c7_100, pairRow, t0, t1, hy]
      refine ifD (fun h9 => ?_) (fun h9 => ?_)
      · simp -implicitDefEqProofs (disch := omega) only [go_sem, Nat.reduceAdd, Nat.reduceMul, Nat.reduceSub, Nat.reduceBEq, Nat.reduceLeDiff, Nat.reduceLT, fn_transitlaw16_CallCounts, e7_1, w7_1, e7_3, w7_3, c7_4, e7_6, w7_6, e7_8, w7_8, e7_10, w7_10, c7_11, e7_13, w7_13, e7_15, w7_15, e7_17, w7_17, e7_19, w7_19, c7_20, e7_22, w7_22, e7_24, w7_24, e7_26, w7_26, c7_27, e7_29, w7_29, e7_31, w7_31, e7_33, w7_33, c7_34, c7_35, e7_37, w7_37, c7_38, c7_39, c7_40, c7_41, c7_42, c7_43, c7_44, c7_45, e7_47, w7_47, c7_48, c7_49, c7_50, c7_51, c7_52, c7_53, e7_55, w7_55, e7_57, w7_57, e7_59, w7_59, c7_60, e7_62, w7_62, e7_64, w7_64, c7_65, e7_67, w7_67, e7_69, w7_69, c7_70, e7_72, w7_72, e7_74, w7_74, c7_75, e7_77, w7_77, c7_78, c7_79, c7_80, c7_81, e7_83, w7_83, c7_84, c7_85, c7_86, c7_87, c7_88, c7_89, e7_91, w7_91, c7_92, c7_93, c7_94, c7_95, c7_96, c7_97, c7_98, c7_99, c7_100, pairRow, t0, t1, hy]
        refine ifD (fun h10 => ?_) (fun h10 => ?_)
        · omega
        simp -implicitDefEqProofs (disch := omega) only [go_sem, Nat.reduceAdd, Nat.reduceMul, Nat.reduceSub, Nat.reduceBEq, Nat.reduceLeDiff, Nat.reduceLT, fn_transitlaw16_CallCounts, e7_1, w7_1, e7_3, w7_3, c7_4, e7_6, w7_6, e7_8, w7_8, e7_10, w7_10, c7_11, e7_13, w7_13, e7_15, w7_15, e7_17, w7_17, e7_19, w7_19, c7_20, e7_22, w7_22, e7_24, w7_24, e7_26, w7_26, c7_27, e7_29, w7_29, e7_31, w7_31, e7_33, w7_33, c7_34, c7_35, e7_37, w7_37, c7_38, c7_39, c7_40, c7_41, c7_42, c7_43, c7_44, c7_45, e7_47, w7_47, c7_48, c7_49, c7_50, c7_51, c7_52, c7_53, e7_55, w7_55, e7_57, w7_57, e7_59, w7_59, c7_60, e7_62, w7_62, e7_64, w7_64, c7_65, e7_67, w7_67, e7_69, w7_69, c7_70, e7_72, w7_72, e7_74, w7_74, c7_75, e7_77, w7_77, c7_78, c7_79, c7_80, c7_81, e7_83, w7_83, c7_84, c7_85, c7_86, c7_87, c7_88, c7_89, e7_91, w7_91, c7_92, c7_93, c7_94, c7_95, c7_96, c7_97, c7_98, c7_99, c7_100, pairRow, t0, t1]
        refine next_pop hi' rfl ⟨?_, rfl⟩
        simp only [vals, sget]; rfl
      · simp -implicitDefEqProofs (disch := omega) only [go_sem, Nat.reduceAdd, Nat.reduceMul, Nat.reduceSub, Nat.reduceBEq, Nat.reduceLeDiff, Nat.reduceLT, fn_transitlaw16_CallCounts, e7_1, w7_1, e7_3, w7_3, c7_4, e7_6, w7_6, e7_8, w7_8, e7_10, w7_10, c7_11, e7_13, w7_13, e7_15, w7_15, e7_17, w7_17, e7_19, w7_19, c7_20, e7_22, w7_22, e7_24, w7_24, e7_26, w7_26, c7_27, e7_29, w7_29, e7_31, w7_31, e7_33, w7_33, c7_34, c7_35, e7_37, w7_37, c7_38, c7_39, c7_40, c7_41, c7_42, c7_43, c7_44, c7_45, e7_47, w7_47, c7_48, c7_49, c7_50, c7_51, c7_52, c7_53, e7_55, w7_55, e7_57, w7_57, e7_59, w7_59, c7_60, e7_62, w7_62, e7_64, w7_64, c7_65, e7_67, w7_67, e7_69, w7_69, c7_70, e7_72, w7_72, e7_74, w7_74, c7_75, e7_77, w7_77, c7_78, c7_79, c7_80, c7_81, e7_83, w7_83, c7_84, c7_85, c7_86, c7_87, c7_88, c7_89, e7_91, w7_91, c7_92, c7_93, c7_94, c7_95, c7_96, c7_97, c7_98, c7_99, c7_100, pairRow, t0, t1]
        refine next_pop hi' rfl ⟨?_, rfl⟩
        simp only [vals, sget]; rfl
    · simp -implicitDefEqProofs (disch := omega) only [go_sem, Nat.reduceAdd, Nat.reduceMul, Nat.reduceSub, Nat.reduceBEq, Nat.reduceLeDiff, Nat.reduceLT, fn_transitlaw16_CallCounts, e7_1, w7_1, e7_3, w7_3, c7_4, e7_6, w7_6, e7_8, w7_8, e7_10, w7_10, c7_11, e7_13, w7_13, e7_15, w7_15, e7_17, w7_17, e7_19, w7_19, c7_20, e7_22, w7_22, e7_24, w7_24, e7_26, w7_26, c7_27, e7_29, w7_29, e7_31, w7_31, e7_33, w7_33, c7_34, c7_35, e7_37, w7_37, c7_38, c7_39, c7_40, c7_41, c7_42, c7_43, c7_44, c7_45, e7_47, w7_47, c7_48, c7_49, c7_50, c7_51, c7_52, c7_53, e7_55, w7_55, e7_57, w7_57, e7_59, w7_59, c7_60, e7_62, w7_62, e7_64, w7_64, c7_65, e7_67, w7_67, e7_69, w7_69, c7_70, e7_72, w7_72, e7_74, w7_74, c7_75, e7_77, w7_77, c7_78, c7_79, c7_80, c7_81, e7_83, w7_83, c7_84, c7_85, c7_86, c7_87, c7_88, c7_89, e7_91, w7_91, c7_92, c7_93, c7_94, c7_95, c7_96, c7_97, c7_98, c7_99, c7_100, pairRow, t0, t1]
      refine next_pop hi' rfl ⟨?_, rfl⟩
      simp only [vals, sget]; rfl

end Go.Vm.C

