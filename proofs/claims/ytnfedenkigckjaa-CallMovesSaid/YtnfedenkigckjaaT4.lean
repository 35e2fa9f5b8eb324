/- Contracts: the reference's rides, and the chapter's example. -/
import Derived.Test.YtnfedenkigckjaaT3

namespace Go.Vm.C
open Go.Vm
set_option maxHeartbeats 1000000
set_option maxRecDepth 10000
set_option linter.unusedSimpArgs false
set_option linter.unusedVariables false

theorem ref16_Same_ok (a b : List Nat) (c d : Cap) (ha : a.length ≤ maxLen) : PCalls PR i_transitref16_Same [.slice (a.map intRow) c, .slice (b.map intRow) d] (fun v => v = .bool (decide (a = b))) := by
  have hm : maxLen = 9223372036854775807 := by rfl
  refine acalls_pop fn_transitref16_Same_ok (by simp [fn_transitref16_Same]) ?_
  simp -implicitDefEqProofs (disch := omega) only [go_sem, Nat.reduceAdd, Nat.reduceMul, Nat.reduceSub, Nat.reduceBEq, Nat.reduceLeDiff, Nat.reduceLT, fn_transitref16_Same, e18_1, w18_1, e18_3, w18_3, c18_4, e18_6, w18_6, e18_8, w18_8, e18_10, w18_10, e18_12, w18_12, c18_13, e18_15, w18_15, c18_16, e18_18, w18_18, c18_19, c18_20, c18_21, c18_22, c18_23, e18_25, w18_25, c18_26, c18_27, c18_28, c18_29]
  refine ifD (fun h1 => ?_) (fun h1 => ?_)
  rotate_left
  · have e : decide (a = b) = false := decide_eq_false (fun e => by subst e; exact h1 rfl)
    simp -implicitDefEqProofs (disch := omega) only [go_sem, Nat.reduceAdd, Nat.reduceMul, Nat.reduceSub, Nat.reduceBEq, Nat.reduceLeDiff, Nat.reduceLT, fn_transitref16_Same, e18_1, w18_1, e18_3, w18_3, c18_4, e18_6, w18_6, e18_8, w18_8, e18_10, w18_10, e18_12, w18_12, c18_13, e18_15, w18_15, c18_16, e18_18, w18_18, c18_19, c18_20, c18_21, c18_22, c18_23, e18_25, w18_25, c18_26, c18_27, c18_28, c18_29, e]
  simp -implicitDefEqProofs (disch := omega) only [go_sem, Nat.reduceAdd, Nat.reduceMul, Nat.reduceSub, Nat.reduceBEq, Nat.reduceLeDiff, Nat.reduceLT, fn_transitref16_Same, e18_1, w18_1, e18_3, w18_3, c18_4, e18_6, w18_6, e18_8, w18_8, e18_10, w18_10, e18_12, w18_12, c18_13, e18_15, w18_15, c18_16, e18_18, w18_18, c18_19, c18_20, c18_21, c18_22, c18_23, e18_25, w18_25, c18_26, c18_27, c18_28, c18_29]
  refine wpC_forL a (fun i vs M => (∀ j, j < i → a[j]? = b[j]?) ∧ vs = [.slice (a.map intRow) c, .slice (b.map intRow) d, .int .i64 i] ∧ M = []) ⟨fun j hj => absurd hj (Nat.not_lt_zero j), rfl, rfl⟩ ?_ ?_
  rotate_left
  · rintro vs M ⟨hall, rfl, rfl⟩
    have e : decide (a = b) = true := by
      refine decide_eq_true (List.ext_getElem? fun j => ?_)
      rcases Nat.lt_or_ge j a.length with h6 | h6
      · exact hall j h6
      · rw [List.getElem?_eq_none h6, List.getElem?_eq_none (by omega)]
    simp -implicitDefEqProofs (disch := omega) only [go_sem, Nat.reduceAdd, Nat.reduceMul, Nat.reduceSub, Nat.reduceBEq, Nat.reduceLeDiff, Nat.reduceLT, fn_transitref16_Same, e18_1, w18_1, e18_3, w18_3, c18_4, e18_6, w18_6, e18_8, w18_8, e18_10, w18_10, e18_12, w18_12, c18_13, e18_15, w18_15, c18_16, e18_18, w18_18, c18_19, c18_20, c18_21, c18_22, c18_23, e18_25, w18_25, c18_26, c18_27, c18_28, c18_29, dec_irrefl, e]
  rintro i x vs M hx hi hid ⟨hall, rfl, rfl⟩
  obtain ⟨y, hy⟩ : ∃ y, b[i]? = some y := ⟨b[i], by simp⟩
  simp -implicitDefEqProofs (disch := omega) only [go_sem, Nat.reduceAdd, Nat.reduceMul, Nat.reduceSub, Nat.reduceBEq, Nat.reduceLeDiff, Nat.reduceLT, fn_transitref16_Same, e18_1, w18_1, e18_3, w18_3, c18_4, e18_6, w18_6, e18_8, w18_8, e18_10, w18_10, e18_12, w18_12, c18_13, e18_15, w18_15, c18_16, e18_18, w18_18, c18_19, c18_20, c18_21, c18_22, c18_23, e18_25, w18_25, c18_26, c18_27, c18_28, c18_29, hid, hx, hy, intRow]
  refine ifD (fun h2 => ?_) (fun h2 => ?_)
  · simp -implicitDefEqProofs (disch := omega) only [go_sem, Nat.reduceAdd, Nat.reduceMul, Nat.reduceSub, Nat.reduceBEq, Nat.reduceLeDiff, Nat.reduceLT, fn_transitref16_Same, e18_1, w18_1, e18_3, w18_3, c18_4, e18_6, w18_6, e18_8, w18_8, e18_10, w18_10, e18_12, w18_12, c18_13, e18_15, w18_15, c18_16, e18_18, w18_18, c18_19, c18_20, c18_21, c18_22, c18_23, e18_25, w18_25, c18_26, c18_27, c18_28, c18_29]
    refine next_stay hi ⟨fun j hj => ?_, ?_, rfl⟩
    · rcases Nat.lt_or_ge j i with h4 | h4
      · exact hall j h4
      · have : j = i := by omega
        subst this
        rw [hx, hy]
        congr 1
        omega
    · simp only [vals, sget]; rfl
  · have e : decide (a = b) = false := decide_eq_false (fun e => by subst e; rw [hx] at hy; simp only [Option.some.injEq] at hy; subst hy; exact h2 rfl)
    simp -implicitDefEqProofs (disch := omega) only [go_sem, Nat.reduceAdd, Nat.reduceMul, Nat.reduceSub, Nat.reduceBEq, Nat.reduceLeDiff, Nat.reduceLT, fn_transitref16_Same, e18_1, w18_1, e18_3, w18_3, c18_4, e18_6, w18_6, e18_8, w18_8, e18_10, w18_10, e18_12, w18_12, c18_13, e18_15, w18_15, c18_16, e18_18, w18_18, c18_19, c18_20, c18_21, c18_22, c18_23, e18_25, w18_25, c18_26, c18_27, c18_28, c18_29, e]
theorem near_ok (n : Int) : PCalls PR i_transitlaw16_near [.int .i64 n] (fun v => v = .bool (decide (-1099511627776 ≤ n ∧ n ≤ 1099511627776))) := by
  refine acalls_pop fn_transitlaw16_near_ok (by simp [fn_transitlaw16_near]) ?_
  simp -implicitDefEqProofs (disch := omega) only [go_sem, Nat.reduceAdd, Nat.reduceMul, Nat.reduceSub, Nat.reduceBEq, Nat.reduceLeDiff, Nat.reduceLT, fn_transitlaw16_near, e26_1, w26_1, e26_3, w26_3, c26_4, c26_5]
  refine ifD (fun h => ?_) (fun h => ?_)
  · simp -implicitDefEqProofs (disch := omega) only [go_sem, Nat.reduceAdd, Nat.reduceMul, Nat.reduceSub, Nat.reduceBEq, Nat.reduceLeDiff, Nat.reduceLT, fn_transitlaw16_near, e26_1, w26_1, e26_3, w26_3, c26_4, c26_5]
    simp [h]
  · simp -implicitDefEqProofs (disch := omega) only [go_sem, Nat.reduceAdd, Nat.reduceMul, Nat.reduceSub, Nat.reduceBEq, Nat.reduceLeDiff, Nat.reduceLT, fn_transitlaw16_near, e26_1, w26_1, e26_3, w26_3, c26_4, c26_5]
    simp [h]

abbrev rideT (l : List Stay) : Nat → Nat → Bool := fun i k => boards l i && alights l k
theorem rides_len (l : List Stay) {i k : Nat} (hi : i < l.length) (hk : k ≤ l.length) (hlen : l.length ≤ 1000) : (Go.Proofs.pairsTo (rideT l) l.length i ++ Go.Proofs.rowP (rideT l) i k).length ≤ 1000000 := by
  have h1 := (Go.Proofs.pairs_pre (t := rideT l) hi hk).length_le
  have h2 := Go.Proofs.pairsTo_len (rideT l) l.length l.length
  have h3 : l.length * l.length ≤ 1000 * 1000 := Nat.mul_le_mul hlen hlen
  omega
theorem ref16_Rides_ok (l : List Stay) (c : Cap) (hlen : l.length ≤ 1000) : PCalls PR i_transitref16_Rides [.slice (l.map Stay.row) c] (fun v => v = .slice ((ridesOf l).map pairRow) .unk) := by
  refine acalls_pop fn_transitref16_Rides_ok (by simp [fn_transitref16_Rides]) ?_
  simp -implicitDefEqProofs (disch := omega) only [go_sem, Nat.reduceAdd, Nat.reduceMul, Nat.reduceSub, Nat.reduceBEq, Nat.reduceLeDiff, Nat.reduceLT, fn_transitref16_Rides, e17_1, w17_1, e17_3, w17_3, e17_5, w17_5, e17_7, w17_7, e17_9, w17_9, e17_11, w17_11, e17_13, w17_13, e17_15, w17_15, c17_16, e17_18, w17_18, c17_19, c17_20, c17_21, c17_22, c17_23, c17_24, e17_26, w17_26, c17_27, c17_28, c17_29, c17_30, c17_31, e17_33, w17_33, c17_34, c17_35, c17_36, c17_37]
  refine wpC_for l.length (fun i vs M => ∃ ver, vs = [.slice (l.map Stay.row) c, .mslice 0 ver 0 (Go.Proofs.pairsTo (rideT l) l.length i).length, .int .i64 i] ∧ M = [.arr 2 ((Go.Proofs.pairsTo (rideT l) l.length i).map pairRow) ver 0]) ⟨0, rfl, rfl⟩ ?_ ?_
  rotate_left
  · rintro vs M ⟨ver, rfl, rfl⟩
    simp -implicitDefEqProofs (disch := omega) only [go_sem, Nat.reduceAdd, Nat.reduceMul, Nat.reduceSub, Nat.reduceBEq, Nat.reduceLeDiff, Nat.reduceLT, fn_transitref16_Rides, e17_1, w17_1, e17_3, w17_3, e17_5, w17_5, e17_7, w17_7, e17_9, w17_9, e17_11, w17_11, e17_13, w17_13, e17_15, w17_15, c17_16, e17_18, w17_18, c17_19, c17_20, c17_21, c17_22, c17_23, c17_24, e17_26, w17_26, c17_27, c17_28, c17_29, c17_30, c17_31, e17_33, w17_33, c17_34, c17_35, c17_36, c17_37, dec_irrefl, ridesOf, Go.Proofs.pairsOf]
  rintro i vs M hi hid ⟨ver, rfl, rfl⟩
  simp -implicitDefEqProofs (disch := omega) only [go_sem, Nat.reduceAdd, Nat.reduceMul, Nat.reduceSub, Nat.reduceBEq, Nat.reduceLeDiff, Nat.reduceLT, fn_transitref16_Rides, e17_1, w17_1, e17_3, w17_3, e17_5, w17_5, e17_7, w17_7, e17_9, w17_9, e17_11, w17_11, e17_13, w17_13, e17_15, w17_15, c17_16, e17_18, w17_18, c17_19, c17_20, c17_21, c17_22, c17_23, c17_24, e17_26, w17_26, c17_27, c17_28, c17_29, c17_30, c17_31, e17_33, w17_33, c17_34, c17_35, c17_36, c17_37, hid]
  refine wpC_for (l.length - (i + 1)) (fun j vs M => ∃ (ver : Nat) (L : List (Nat × Nat)), L = Go.Proofs.pairsTo (rideT l) l.length i ++ Go.Proofs.rowP (rideT l) i (i + 1 + j) ∧ vs = [.slice (l.map Stay.row) c, .mslice 0 ver 0 L.length, .int .i64 i, .int .i64 ((i : Int) + 1 + j)] ∧ M = [.arr 2 (L.map pairRow) ver 0]) ⟨ver, _, by rw [Nat.add_zero, Go.Proofs.rowP_start _ _ _ (Nat.le_refl _), List.append_nil], by simp [vals, sget], rfl⟩ ?_ ?_
  rotate_left
  · rintro vs M ⟨ver, L, hL, rfl, rfl⟩
    have e : i + 1 + (l.length - (i + 1)) = l.length := by omega
    rw [e] at hL
    have hL' : L = Go.Proofs.pairsTo (rideT l) l.length (i + 1) := by rw [hL, Go.Proofs.pairsTo]
    subst hL'
    simp -implicitDefEqProofs (disch := omega) only [go_sem, Nat.reduceAdd, Nat.reduceMul, Nat.reduceSub, Nat.reduceBEq, Nat.reduceLeDiff, Nat.reduceLT, fn_transitref16_Rides, e17_1, w17_1, e17_3, w17_3, e17_5, w17_5, e17_7, w17_7, e17_9, w17_9, e17_11, w17_11, e17_13, w17_13, e17_15, w17_15, c17_16, e17_18, w17_18, c17_19, c17_20, c17_21, c17_22, c17_23, c17_24, e17_26, w17_26, c17_27, c17_28, c17_29, c17_30, c17_31, e17_33, w17_33, c17_34, c17_35, c17_36, c17_37]
    refine ifD (fun h => ?_) (fun h => ?_)
    · omega
    simp -implicitDefEqProofs (disch := omega) only [go_sem, Nat.reduceAdd, Nat.reduceMul, Nat.reduceSub, Nat.reduceBEq, Nat.reduceLeDiff, Nat.reduceLT, fn_transitref16_Rides, e17_1, w17_1, e17_3, w17_3, e17_5, w17_5, e17_7, w17_7, e17_9, w17_9, e17_11, w17_11, e17_13, w17_13, e17_15, w17_15, c17_16, e17_18, w17_18, c17_19, c17_20, c17_21, c17_22, c17_23, c17_24, e17_26, w17_26, c17_27, c17_28, c17_29, c17_30, c17_31, e17_33, w17_33, c17_34, c17_35, c17_36, c17_37]
    refine next_stay hi ⟨ver, ?_, rfl⟩
    simp only [vals, sget]; rfl
  rintro j vs M hj hjd ⟨ver, L, hL, rfl, rfl⟩
  have hlL : L.length ≤ 1000000 := by rw [hL]; exact rides_len l hi (by omega) hlen
  obtain ⟨k, hk⟩ : ∃ k : Nat, (i : Int) + 1 + j = k := ⟨i + 1 + j, by omega⟩
  have hk' : k = i + 1 + j := by omega
  rw [← hk'] at hL
  simp -implicitDefEqProofs (disch := omega) only [go_sem, Nat.reduceAdd, Nat.reduceMul, Nat.reduceSub, Nat.reduceBEq, Nat.reduceLeDiff, Nat.reduceLT, fn_transitref16_Rides, e17_1, w17_1, e17_3, w17_3, e17_5, w17_5, e17_7, w17_7, e17_9, w17_9, e17_11, w17_11, e17_13, w17_13, e17_15, w17_15, c17_16, e17_18, w17_18, c17_19, c17_20, c17_21, c17_22, c17_23, c17_24, e17_26, w17_26, c17_27, c17_28, c17_29, c17_30, c17_31, e17_33, w17_33, c17_34, c17_35, c17_36, c17_37, hk]
  refine ifD (fun h => ?_) (fun h => ?_)
  rotate_left
  · omega
  simp -implicitDefEqProofs (disch := omega) only [go_sem, Nat.reduceAdd, Nat.reduceMul, Nat.reduceSub, Nat.reduceBEq, Nat.reduceLeDiff, Nat.reduceLT, fn_transitref16_Rides, e17_1, w17_1, e17_3, w17_3, e17_5, w17_5, e17_7, w17_7, e17_9, w17_9, e17_11, w17_11, e17_13, w17_13, e17_15, w17_15, c17_16, e17_18, w17_18, c17_19, c17_20, c17_21, c17_22, c17_23, c17_24, e17_26, w17_26, c17_27, c17_28, c17_29, c17_30, c17_31, e17_33, w17_33, c17_34, c17_35, c17_36, c17_37]
  first | refine callD (ref16_Ridable_ok l c i k) ?_ | refine callQD (ref16_Ridable_ok l c i k) ?_
  rw [ridB_yes (by omega) (by omega)]
  simp -implicitDefEqProofs (disch := omega) only [go_sem, Nat.reduceAdd, Nat.reduceMul, Nat.reduceSub, Nat.reduceBEq, Nat.reduceLeDiff, Nat.reduceLT, fn_transitref16_Rides, e17_1, w17_1, e17_3, w17_3, e17_5, w17_5, e17_7, w17_7, e17_9, w17_9, e17_11, w17_11, e17_13, w17_13, e17_15, w17_15, c17_16, e17_18, w17_18, c17_19, c17_20, c17_21, c17_22, c17_23, c17_24, e17_26, w17_26, c17_27, c17_28, c17_29, c17_30, c17_31, e17_33, w17_33, c17_34, c17_35, c17_36, c17_37]
  have hn : (k : Int) + 1 = (i : Int) + 1 + ((j + 1 : Nat) : Int) := by omega
  have hr : i + 1 + (j + 1) = k + 1 := by omega
  refine ifB (fun h4 => ?_) (fun h4 => ?_)
  · simp -implicitDefEqProofs (disch := omega) only [go_sem, Nat.reduceAdd, Nat.reduceMul, Nat.reduceSub, Nat.reduceBEq, Nat.reduceLeDiff, Nat.reduceLT, fn_transitref16_Rides, e17_1, w17_1, e17_3, w17_3, e17_5, w17_5, e17_7, w17_7, e17_9, w17_9, e17_11, w17_11, e17_13, w17_13, e17_15, w17_15, c17_16, e17_18, w17_18, c17_19, c17_20, c17_21, c17_22, c17_23, c17_24, e17_26, w17_26, c17_27, c17_28, c17_29, c17_30, c17_31, e17_33, w17_33, c17_34, c17_35, c17_36, c17_37]
    refine next_stay hj ⟨ver + 1, L ++ [(i, k)], ?_, ?_, ?_⟩
    · rw [hr, Go.Proofs.rowP_hit (by omega) h4, ← List.append_assoc, ← hL]
    · simp only [vals, sget, List.length_append, hn]; rfl
    · simp only [List.map_append]; rfl
  · simp -implicitDefEqProofs (disch := omega) only [go_sem, Nat.reduceAdd, Nat.reduceMul, Nat.reduceSub, Nat.reduceBEq, Nat.reduceLeDiff, Nat.reduceLT, fn_transitref16_Rides, e17_1, w17_1, e17_3, w17_3, e17_5, w17_5, e17_7, w17_7, e17_9, w17_9, e17_11, w17_11, e17_13, w17_13, e17_15, w17_15, c17_16, e17_18, w17_18, c17_19, c17_20, c17_21, c17_22, c17_23, c17_24, e17_26, w17_26, c17_27, c17_28, c17_29, c17_30, c17_31, e17_33, w17_33, c17_34, c17_35, c17_36, c17_37]
    refine next_stay hj ⟨ver, L, ?_, ?_, rfl⟩
    · rw [hr, Go.Proofs.rowP_miss h4, ← hL]
    · simp only [vals, sget, hn]; rfl


def exC : List Stay := [⟨0, 100, 110, true, false⟩, ⟨1, 200, 200, true, true⟩, ⟨0, 300, 300, false, true⟩]
theorem exC1 : checkC exC 2 100 300 = (0, 0) := by decide +kernel
theorem exC2 : checkC exC 2 101 300 = (0, 10) := by decide +kernel
theorem exC3 : checkC exC 1 100 300 = (1, 9) := by decide +kernel
theorem exC4 : (ridesOf exC).take (9 : Int).toNat = [(0, 1), (0, 2), (1, 2)] := by decide +kernel
theorem exC5 : atTo exC 0 exC.length = [0, 2] := by decide +kernel
theorem exC6 : durOf exC = 190 := by decide +kernel
theorem ex16_list (Q : Exit → Slots → Mem → Prop) (s : Slots) (M : Mem) (h : Q .normal [(1, .slice (exC.map Stay.row) .full)] M) : wpC PR c11_3 Q s M := by
  rw [e11_3]; exact h
theorem exampleHolds_ok : PCalls PR i_transitlaw16_exampleHolds [] (fun v => v = .bool true) := by
  refine acalls_pop (fn := fn_transitlaw16_exampleHolds) fn_transitlaw16_exampleHolds_ok (Nat.zero_le _) ?_
  unfold wpPop
  simp only [fn_transitlaw16_exampleHolds]
  rw [c11_20, wpC_seq, e11_1, w11_1, seqK_normal, c11_19, wpC_seq]
  refine ex16_list _ _ _ ?_
  rw [seqK_normal, c11_18, wpC_seq, e11_5, w11_5]
  simp only [sget]
  first | refine callD (call_Check_ok exC .full 2 100 300 (by simp [exC])) ?_ | refine callQD (call_Check_ok exC .full 2 100 300 (by simp [exC])) ?_
  rw [exC1]
  simp -implicitDefEqProofs (disch := omega) only [go_sem, Nat.reduceAdd, Nat.reduceMul, Nat.reduceSub, Nat.reduceBEq, Nat.reduceLeDiff, Nat.reduceLT, pairV, c11_17, e11_7, w11_7]
  first | refine callD (call_Check_ok exC .full 2 101 300 (by simp [exC])) ?_ | refine callQD (call_Check_ok exC .full 2 101 300 (by simp [exC])) ?_
  rw [exC2]
  simp -implicitDefEqProofs (disch := omega) only [go_sem, Nat.reduceAdd, Nat.reduceMul, Nat.reduceSub, Nat.reduceBEq, Nat.reduceLeDiff, Nat.reduceLT, pairV, c11_16, e11_9, w11_9]
  first | refine callD (call_Check_ok exC .full 1 100 300 (by simp [exC])) ?_ | refine callQD (call_Check_ok exC .full 1 100 300 (by simp [exC])) ?_
  rw [exC3]
  simp -implicitDefEqProofs (disch := omega) only [go_sem, Nat.reduceAdd, Nat.reduceMul, Nat.reduceSub, Nat.reduceBEq, Nat.reduceLeDiff, Nat.reduceLT, pairV, c11_15, e11_11, w11_11]
  first | refine callD (rides_ok exC .full 9 (by simp [exC])) ?_ | refine callQD (rides_ok exC .full 9 (by simp [exC])) ?_
  rw [exC4]
  have n0 : ((0 : Nat) : Int) = 0 := rfl
  have n1 : ((1 : Nat) : Int) = 1 := rfl
  have n2 : ((2 : Nat) : Int) = 2 := rfl
  have n3 : ((3 : Nat) : Int) = 3 := rfl
  simp -implicitDefEqProofs (disch := omega) only [go_sem, Nat.reduceAdd, Nat.reduceMul, Nat.reduceSub, Nat.reduceBEq, Nat.reduceLeDiff, Nat.reduceLT, List.map_cons, List.map_nil, pairRow, c11_14, e11_13, w11_13, n0, n1, n2, n3]
  first | refine callD (call_At_ok exC .full 0 (by simp [exC])) ?_ | refine callQD (call_At_ok exC .full 0 (by simp [exC])) ?_
  rw [exC5]
  simp -implicitDefEqProofs (disch := omega) only [go_sem, Nat.reduceAdd, Nat.reduceMul, Nat.reduceSub, Nat.reduceBEq, Nat.reduceLeDiff, Nat.reduceLT, n0, n1, n2, n3]
  first | refine callD (ref16_Same_ok [0, 2] [0, 2] .unk .full (by decide +kernel)) ?_ | refine callQD (ref16_Same_ok [0, 2] [0, 2] .unk .full (by decide +kernel)) ?_
  simp -implicitDefEqProofs (disch := omega) only [go_sem, Nat.reduceAdd, Nat.reduceMul, Nat.reduceSub, Nat.reduceBEq, Nat.reduceLeDiff, Nat.reduceLT]
  first | refine callD (call_Duration_ok exC .full (by simp [exC])) ?_ | refine callQD (call_Duration_ok exC .full (by simp [exC])) ?_
  rw [exC6]
  simp -implicitDefEqProofs (disch := omega) only [go_sem, Nat.reduceAdd, Nat.reduceMul, Nat.reduceSub, Nat.reduceBEq, Nat.reduceLeDiff, Nat.reduceLT]

end Go.Vm.C

