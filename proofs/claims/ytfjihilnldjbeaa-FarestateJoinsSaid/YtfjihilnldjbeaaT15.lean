/- The statements FarestateJoins and FarestateEquals. -/
import Derived.Test.YtfjihilnldjbeaaT14

namespace Go.Vm.C
open Go.Vm
set_option maxHeartbeats 1000000
set_option maxRecDepth 10000
set_option linter.unusedSimpArgs false
set_option linter.unusedVariables false

theorem ref_range {f : Fares} {l : List Ride} (hc : (checkRes f).2 = 0) : 0 ≤ (fareRes f l).1 ∧ (fareRes f l).1 ≤ 9000000 := by
  have hok := checkRes_ok hc
  by_cases h : (fareRes f l).2.2 = 0
  · obtain ⟨hv, d, hd, hr⟩ := fareRes_ok h
    obtain ⟨_, hlen⟩ := validRes_zero.1 hv
    have := div_mild hok _ _ (best_div (by omega) hd)
    have h2 := capped_range (f := f) (a := total d) hok.limit.1 this.1
    rw [hr]
    simp only
    omega
  · have : (fareRes f l).1 = 0 := by
      unfold fareRes at h ⊢
      split
      · rfl
      · rename_i h1
        rw [if_neg h1] at h
        split
        · rfl
        · rename_i d hd
          simp [hd] at h
    omega

theorem FarestateJoins_law (f : Fares) (l : List Ride) (c : Cap) (a : Ride) (hf : f.wf) (hl : ∀ x ∈ l, x.wf) (ha : a.wf) :
    PCalls PR i_transitlaw36_FarestateJoins [.agg f.row, .slice (l.map Ride.row) c, .agg a.row] (fun v => v = .bool true) := by
  have hown : Own [.box f.row, .box a.row] := by simp [Own, memUnder, Blk.under, underL, V.under, Fares.row, Ride.row]
  have hex : ∀ {N : Mem}, Own N → ACalls PR i_transitlaw36_exampleHolds [] N (fun v M' => v = .bool true ∧ M' = N) := fun h => exampleHolds_ok h
  have hbx : ([.box f.row, .box a.row] : Mem)[1]? = some (.box a.row) := rfl
  have hfx : ([.box f.row, .box a.row] : Mem)[0]? = some (.box f.row) := rfl
  simp only [Fares.row, Ride.row, List.cons_append, List.nil_append] at hown hbx hfx
  refine acalls_pop fn_transitlaw36_FarestateJoins_ok (by simp [fn_transitlaw36_FarestateJoins]) ?_
  simp -implicitDefEqProofs (disch := omega) only [go_sem, Nat.reduceAdd, Nat.reduceMul, Nat.reduceSub, Nat.reduceBEq, Nat.reduceLeDiff, Nat.reduceLT, fn_transitlaw36_FarestateJoins, e9_1, w9_1, e9_3, w9_3, c9_4, e9_6, w9_6, e9_8, w9_8, e9_10, w9_10, e9_12, w9_12, c9_13, e9_15, w9_15, e9_17, w9_17, e9_19, w9_19, c9_20, e9_22, w9_22, e9_24, w9_24, e9_26, w9_26, e9_28, w9_28, e9_30, w9_30, c9_31, c9_32, c9_33, c9_34, c9_35, c9_36, c9_37, c9_38, c9_39, c9_40, c9_41, Fares.row, Ride.row]
  first | refine callD (small36_ok f hf) ?_ | refine callQD (small36_ok f hf) ?_
  simp -implicitDefEqProofs (disch := omega) only [go_sem, Nat.reduceAdd, Nat.reduceMul, Nat.reduceSub, Nat.reduceBEq, Nat.reduceLeDiff, Nat.reduceLT, fn_transitlaw36_FarestateJoins, e9_1, w9_1, e9_3, w9_3, c9_4, e9_6, w9_6, e9_8, w9_8, e9_10, w9_10, e9_12, w9_12, c9_13, e9_15, w9_15, e9_17, w9_17, e9_19, w9_19, c9_20, e9_22, w9_22, e9_24, w9_24, e9_26, w9_26, e9_28, w9_28, e9_30, w9_30, c9_31, c9_32, c9_33, c9_34, c9_35, c9_36, c9_37, c9_38, c9_39, c9_40, c9_41, Fares.row]
  refine ifB (fun h1 => ?_) (fun h1 => ?_)
  rotate_left
  · simp -implicitDefEqProofs (disch := omega) only [go_sem, Nat.reduceAdd, Nat.reduceMul, Nat.reduceSub, Nat.reduceBEq, Nat.reduceLeDiff, Nat.reduceLT, fn_transitlaw36_FarestateJoins, e9_1, w9_1, e9_3, w9_3, c9_4, e9_6, w9_6, e9_8, w9_8, e9_10, w9_10, e9_12, w9_12, c9_13, e9_15, w9_15, e9_17, w9_17, e9_19, w9_19, c9_20, e9_22, w9_22, e9_24, w9_24, e9_26, w9_26, e9_28, w9_28, e9_30, w9_30, c9_31, c9_32, c9_33, c9_34, c9_35, c9_36, c9_37, c9_38, c9_39, c9_40, c9_41]
    refine callA (hex hown) ?_
    rintro v N ⟨rfl, rfl⟩
    simp -implicitDefEqProofs (disch := omega) only [go_sem, Nat.reduceAdd, Nat.reduceMul, Nat.reduceSub, Nat.reduceBEq, Nat.reduceLeDiff, Nat.reduceLT, fn_transitlaw36_FarestateJoins, e9_1, w9_1, e9_3, w9_3, c9_4, e9_6, w9_6, e9_8, w9_8, e9_10, w9_10, e9_12, w9_12, c9_13, e9_15, w9_15, e9_17, w9_17, e9_19, w9_19, c9_20, e9_22, w9_22, e9_24, w9_24, e9_26, w9_26, e9_28, w9_28, e9_30, w9_30, c9_31, c9_32, c9_33, c9_34, c9_35, c9_36, c9_37, c9_38, c9_39, c9_40, c9_41]
  simp -implicitDefEqProofs (disch := omega) only [go_sem, Nat.reduceAdd, Nat.reduceMul, Nat.reduceSub, Nat.reduceBEq, Nat.reduceLeDiff, Nat.reduceLT, fn_transitlaw36_FarestateJoins, e9_1, w9_1, e9_3, w9_3, c9_4, e9_6, w9_6, e9_8, w9_8, e9_10, w9_10, e9_12, w9_12, c9_13, e9_15, w9_15, e9_17, w9_17, e9_19, w9_19, c9_20, e9_22, w9_22, e9_24, w9_24, e9_26, w9_26, e9_28, w9_28, e9_30, w9_30, c9_31, c9_32, c9_33, c9_34, c9_35, c9_36, c9_37, c9_38, c9_39, c9_40, c9_41, Fares.row]
  refine ifD (fun h2 => ?_) (fun h2 => ?_)
  · simp -implicitDefEqProofs (disch := omega) only [go_sem, Nat.reduceAdd, Nat.reduceMul, Nat.reduceSub, Nat.reduceBEq, Nat.reduceLeDiff, Nat.reduceLT, fn_transitlaw36_FarestateJoins, e9_1, w9_1, e9_3, w9_3, c9_4, e9_6, w9_6, e9_8, w9_8, e9_10, w9_10, e9_12, w9_12, c9_13, e9_15, w9_15, e9_17, w9_17, e9_19, w9_19, c9_20, e9_22, w9_22, e9_24, w9_24, e9_26, w9_26, e9_28, w9_28, e9_30, w9_30, c9_31, c9_32, c9_33, c9_34, c9_35, c9_36, c9_37, c9_38, c9_39, c9_40, c9_41]
    refine callA (hex hown) ?_
    rintro v N ⟨rfl, rfl⟩
    simp -implicitDefEqProofs (disch := omega) only [go_sem, Nat.reduceAdd, Nat.reduceMul, Nat.reduceSub, Nat.reduceBEq, Nat.reduceLeDiff, Nat.reduceLT, fn_transitlaw36_FarestateJoins, e9_1, w9_1, e9_3, w9_3, c9_4, e9_6, w9_6, e9_8, w9_8, e9_10, w9_10, e9_12, w9_12, c9_13, e9_15, w9_15, e9_17, w9_17, e9_19, w9_19, c9_20, e9_22, w9_22, e9_24, w9_24, e9_26, w9_26, e9_28, w9_28, e9_30, w9_30, c9_31, c9_32, c9_33, c9_34, c9_35, c9_36, c9_37, c9_38, c9_39, c9_40, c9_41]
  simp -implicitDefEqProofs (disch := omega) only [go_sem, Nat.reduceAdd, Nat.reduceMul, Nat.reduceSub, Nat.reduceBEq, Nat.reduceLeDiff, Nat.reduceLT, fn_transitlaw36_FarestateJoins, e9_1, w9_1, e9_3, w9_3, c9_4, e9_6, w9_6, e9_8, w9_8, e9_10, w9_10, e9_12, w9_12, c9_13, e9_15, w9_15, e9_17, w9_17, e9_19, w9_19, c9_20, e9_22, w9_22, e9_24, w9_24, e9_26, w9_26, e9_28, w9_28, e9_30, w9_30, c9_31, c9_32, c9_33, c9_34, c9_35, c9_36, c9_37, c9_38, c9_39, c9_40, c9_41, Fares.row]
  first | refine callD (transitref35_Valid_ok f hf) ?_ | refine callQD (transitref35_Valid_ok f hf) ?_
  simp -implicitDefEqProofs (disch := omega) only [go_sem, Nat.reduceAdd, Nat.reduceMul, Nat.reduceSub, Nat.reduceBEq, Nat.reduceLeDiff, Nat.reduceLT, fn_transitlaw36_FarestateJoins, e9_1, w9_1, e9_3, w9_3, c9_4, e9_6, w9_6, e9_8, w9_8, e9_10, w9_10, e9_12, w9_12, c9_13, e9_15, w9_15, e9_17, w9_17, e9_19, w9_19, c9_20, e9_22, w9_22, e9_24, w9_24, e9_26, w9_26, e9_28, w9_28, e9_30, w9_30, c9_31, c9_32, c9_33, c9_34, c9_35, c9_36, c9_37, c9_38, c9_39, c9_40, c9_41]
  refine ifB (fun h3 => ?_) (fun h3 => ?_)
  rotate_left
  · simp -implicitDefEqProofs (disch := omega) only [go_sem, Nat.reduceAdd, Nat.reduceMul, Nat.reduceSub, Nat.reduceBEq, Nat.reduceLeDiff, Nat.reduceLT, fn_transitlaw36_FarestateJoins, e9_1, w9_1, e9_3, w9_3, c9_4, e9_6, w9_6, e9_8, w9_8, e9_10, w9_10, e9_12, w9_12, c9_13, e9_15, w9_15, e9_17, w9_17, e9_19, w9_19, c9_20, e9_22, w9_22, e9_24, w9_24, e9_26, w9_26, e9_28, w9_28, e9_30, w9_30, c9_31, c9_32, c9_33, c9_34, c9_35, c9_36, c9_37, c9_38, c9_39, c9_40, c9_41]
    refine callA (hex hown) ?_
    rintro v N ⟨rfl, rfl⟩
    simp -implicitDefEqProofs (disch := omega) only [go_sem, Nat.reduceAdd, Nat.reduceMul, Nat.reduceSub, Nat.reduceBEq, Nat.reduceLeDiff, Nat.reduceLT, fn_transitlaw36_FarestateJoins, e9_1, w9_1, e9_3, w9_3, c9_4, e9_6, w9_6, e9_8, w9_8, e9_10, w9_10, e9_12, w9_12, c9_13, e9_15, w9_15, e9_17, w9_17, e9_19, w9_19, c9_20, e9_22, w9_22, e9_24, w9_24, e9_26, w9_26, e9_28, w9_28, e9_30, w9_30, c9_31, c9_32, c9_33, c9_34, c9_35, c9_36, c9_37, c9_38, c9_39, c9_40, c9_41]
  have hc : (checkRes f).2 = 0 := by simpa [faresOk] using h3
  have hok := checkRes_ok hc
  have hlw : ∀ x ∈ l.reverse, x.wf := fun x hx => hl x (List.mem_reverse.1 hx)
  have hlr : l.reverse.length < 8 := by simp; omega
  have hlt : l.length < 8 := by omega
  simp -implicitDefEqProofs (disch := omega) only [go_sem, Nat.reduceAdd, Nat.reduceMul, Nat.reduceSub, Nat.reduceBEq, Nat.reduceLeDiff, Nat.reduceLT, fn_transitlaw36_FarestateJoins, e9_1, w9_1, e9_3, w9_3, c9_4, e9_6, w9_6, e9_8, w9_8, e9_10, w9_10, e9_12, w9_12, c9_13, e9_15, w9_15, e9_17, w9_17, e9_19, w9_19, c9_20, e9_22, w9_22, e9_24, w9_24, e9_26, w9_26, e9_28, w9_28, e9_30, w9_30, c9_31, c9_32, c9_33, c9_34, c9_35, c9_36, c9_37, c9_38, c9_39, c9_40, c9_41, Fares.row]
  refine callA (made_ok f l _ hf hc hl (by omega) hown) ?_
  rintro v N ⟨L, id, fp, rfl, rfl, H⟩
  have hbx := app_get hbx L
  have hfx := app_get hfx L
  generalize [Blk.box _, Blk.box _] ++ L = N at *
  simp -implicitDefEqProofs (disch := omega) only [go_sem, Nat.reduceAdd, Nat.reduceMul, Nat.reduceSub, Nat.reduceBEq, Nat.reduceLeDiff, Nat.reduceLT, fn_transitlaw36_FarestateJoins, e9_1, w9_1, e9_3, w9_3, c9_4, e9_6, w9_6, e9_8, w9_8, e9_10, w9_10, e9_12, w9_12, c9_13, e9_15, w9_15, e9_17, w9_17, e9_19, w9_19, c9_20, e9_22, w9_22, e9_24, w9_24, e9_26, w9_26, e9_28, w9_28, e9_30, w9_30, c9_31, c9_32, c9_33, c9_34, c9_35, c9_36, c9_37, c9_38, c9_39, c9_40, c9_41, hbx, hfx]
  refine callA (made_ok f [a] .full hf hc (by intro x hx; simp only [List.mem_singleton] at hx; subst hx; exact ha) (by simp) H.own) ?_
  rintro v N' ⟨L, id1, fp1, rfl, rfl, H1⟩
  have hbx := app_get hbx L
  have H := H.app H1.own
  generalize N ++ L = N at *
  simp -implicitDefEqProofs (disch := omega) only [go_sem, Nat.reduceAdd, Nat.reduceMul, Nat.reduceSub, Nat.reduceBEq, Nat.reduceLeDiff, Nat.reduceLT, fn_transitlaw36_FarestateJoins, e9_1, w9_1, e9_3, w9_3, c9_4, e9_6, w9_6, e9_8, w9_8, e9_10, w9_10, e9_12, w9_12, c9_13, e9_15, w9_15, e9_17, w9_17, e9_19, w9_19, c9_20, e9_22, w9_22, e9_24, w9_24, e9_26, w9_26, e9_28, w9_28, e9_30, w9_30, c9_31, c9_32, c9_33, c9_34, c9_35, c9_36, c9_37, c9_38, c9_39, c9_40, c9_41, hbx]
  refine callA (farestate_Ride_ok f a hf hok ha H hlw hlr) ?_
  rintro v N' ⟨L, ia, rfl, rfl, HA⟩
  have H := H.app HA.own
  have H1 := H1.app HA.own
  generalize N ++ L = N at *
  have e1 : (a :: l.reverse).reverse = l ++ [a] := by simp
  have j1 : (l ++ [a]).take l.length = l := by simp
  have j2 : (l ++ [a]).drop l.length = [a] := by simp
  have r1 := ref_range (l := l) hc
  have r2 := ref_range (l := [a]) hc
  simp -implicitDefEqProofs (disch := omega) only [go_sem, Nat.reduceAdd, Nat.reduceMul, Nat.reduceSub, Nat.reduceBEq, Nat.reduceLeDiff, Nat.reduceLT, fn_transitlaw36_FarestateJoins, e9_1, w9_1, e9_3, w9_3, c9_4, e9_6, w9_6, e9_8, w9_8, e9_10, w9_10, e9_12, w9_12, c9_13, e9_15, w9_15, e9_17, w9_17, e9_19, w9_19, c9_20, e9_22, w9_22, e9_24, w9_24, e9_26, w9_26, e9_28, w9_28, e9_30, w9_30, c9_31, c9_32, c9_33, c9_34, c9_35, c9_36, c9_37, c9_38, c9_39, c9_40, c9_41, eq_ptr_nil]
  refine callA (Price_held H (by omega)) ?_
  rintro v N ⟨rfl, rfl⟩
  rw [List.reverse_reverse, price_eq hc (by omega)]
  simp -implicitDefEqProofs (disch := omega) only [go_sem, Nat.reduceAdd, Nat.reduceMul, Nat.reduceSub, Nat.reduceBEq, Nat.reduceLeDiff, Nat.reduceLT, fn_transitlaw36_FarestateJoins, e9_1, w9_1, e9_3, w9_3, c9_4, e9_6, w9_6, e9_8, w9_8, e9_10, w9_10, e9_12, w9_12, c9_13, e9_15, w9_15, e9_17, w9_17, e9_19, w9_19, c9_20, e9_22, w9_22, e9_24, w9_24, e9_26, w9_26, e9_28, w9_28, e9_30, w9_30, c9_31, c9_32, c9_33, c9_34, c9_35, c9_36, c9_37, c9_38, c9_39, c9_40, c9_41, prV]
  refine callA (Price_held H1 (by simp)) ?_
  rintro v N ⟨rfl, rfl⟩
  rw [List.reverse_reverse, price_eq hc (by simp)]
  simp -implicitDefEqProofs (disch := omega) only [go_sem, Nat.reduceAdd, Nat.reduceMul, Nat.reduceSub, Nat.reduceBEq, Nat.reduceLeDiff, Nat.reduceLT, fn_transitlaw36_FarestateJoins, e9_1, w9_1, e9_3, w9_3, c9_4, e9_6, w9_6, e9_8, w9_8, e9_10, w9_10, e9_12, w9_12, c9_13, e9_15, w9_15, e9_17, w9_17, e9_19, w9_19, c9_20, e9_22, w9_22, e9_24, w9_24, e9_26, w9_26, e9_28, w9_28, e9_30, w9_30, c9_31, c9_32, c9_33, c9_34, c9_35, c9_36, c9_37, c9_38, c9_39, c9_40, c9_41, prV]
  refine callA (Price_held HA (by simp; omega)) ?_
  rintro v N ⟨rfl, rfl⟩
  rw [e1, price_eq hc (by simp; omega)]
  simp -implicitDefEqProofs (disch := omega) only [go_sem, Nat.reduceAdd, Nat.reduceMul, Nat.reduceSub, Nat.reduceBEq, Nat.reduceLeDiff, Nat.reduceLT, fn_transitlaw36_FarestateJoins, e9_1, w9_1, e9_3, w9_3, c9_4, e9_6, w9_6, e9_8, w9_8, e9_10, w9_10, e9_12, w9_12, c9_13, e9_15, w9_15, e9_17, w9_17, e9_19, w9_19, c9_20, e9_22, w9_22, e9_24, w9_24, e9_26, w9_26, e9_28, w9_28, e9_30, w9_30, c9_31, c9_32, c9_33, c9_34, c9_35, c9_36, c9_37, c9_38, c9_39, c9_40, c9_41, prV, refPrice]
  refine ifD (fun h5 => ?_) (fun h5 => ?_)
  rotate_left
  · refine callA (hex HA.own) ?_
    rintro v N ⟨rfl, rfl⟩
    simp -implicitDefEqProofs (disch := omega) only [go_sem, Nat.reduceAdd, Nat.reduceMul, Nat.reduceSub, Nat.reduceBEq, Nat.reduceLeDiff, Nat.reduceLT, fn_transitlaw36_FarestateJoins, e9_1, w9_1, e9_3, w9_3, c9_4, e9_6, w9_6, e9_8, w9_8, e9_10, w9_10, e9_12, w9_12, c9_13, e9_15, w9_15, e9_17, w9_17, e9_19, w9_19, c9_20, e9_22, w9_22, e9_24, w9_24, e9_26, w9_26, e9_28, w9_28, e9_30, w9_30, c9_31, c9_32, c9_33, c9_34, c9_35, c9_36, c9_37, c9_38, c9_39, c9_40, c9_41]
  simp -implicitDefEqProofs (disch := omega) only [go_sem, Nat.reduceAdd, Nat.reduceMul, Nat.reduceSub, Nat.reduceBEq, Nat.reduceLeDiff, Nat.reduceLT, fn_transitlaw36_FarestateJoins, e9_1, w9_1, e9_3, w9_3, c9_4, e9_6, w9_6, e9_8, w9_8, e9_10, w9_10, e9_12, w9_12, c9_13, e9_15, w9_15, e9_17, w9_17, e9_19, w9_19, c9_20, e9_22, w9_22, e9_24, w9_24, e9_26, w9_26, e9_28, w9_28, e9_30, w9_30, c9_31, c9_32, c9_33, c9_34, c9_35, c9_36, c9_37, c9_38, c9_39, c9_40, c9_41]
  refine ifD (fun h6 => ?_) (fun h6 => ?_)
  rotate_left
  · refine callA (hex HA.own) ?_
    rintro v N ⟨rfl, rfl⟩
    simp -implicitDefEqProofs (disch := omega) only [go_sem, Nat.reduceAdd, Nat.reduceMul, Nat.reduceSub, Nat.reduceBEq, Nat.reduceLeDiff, Nat.reduceLT, fn_transitlaw36_FarestateJoins, e9_1, w9_1, e9_3, w9_3, c9_4, e9_6, w9_6, e9_8, w9_8, e9_10, w9_10, e9_12, w9_12, c9_13, e9_15, w9_15, e9_17, w9_17, e9_19, w9_19, c9_20, e9_22, w9_22, e9_24, w9_24, e9_26, w9_26, e9_28, w9_28, e9_30, w9_30, c9_31, c9_32, c9_33, c9_34, c9_35, c9_36, c9_37, c9_38, c9_39, c9_40, c9_41]
  have hj := joins (f := f) (l := l ++ [a]) (k := l.length) (by simp) (by simp; omega) (by rw [j1]; exact h5) (by rw [j2]; exact h6)
  rw [j1, j2] at hj
  simp -implicitDefEqProofs (disch := omega) only [go_sem, Nat.reduceAdd, Nat.reduceMul, Nat.reduceSub, Nat.reduceBEq, Nat.reduceLeDiff, Nat.reduceLT, fn_transitlaw36_FarestateJoins, e9_1, w9_1, e9_3, w9_3, c9_4, e9_6, w9_6, e9_8, w9_8, e9_10, w9_10, e9_12, w9_12, c9_13, e9_15, w9_15, e9_17, w9_17, e9_19, w9_19, c9_20, e9_22, w9_22, e9_24, w9_24, e9_26, w9_26, e9_28, w9_28, e9_30, w9_30, c9_31, c9_32, c9_33, c9_34, c9_35, c9_36, c9_37, c9_38, c9_39, c9_40, c9_41, hj.1]
  refine ifD (fun h7 => ?_) (fun h7 => ?_)
  rotate_left
  · have := hj.2.2.2.2.2; omega
  refine callA (hex HA.own) ?_
  rintro v N ⟨rfl, rfl⟩
  simp -implicitDefEqProofs (disch := omega) only [go_sem, Nat.reduceAdd, Nat.reduceMul, Nat.reduceSub, Nat.reduceBEq, Nat.reduceLeDiff, Nat.reduceLT, fn_transitlaw36_FarestateJoins, e9_1, w9_1, e9_3, w9_3, c9_4, e9_6, w9_6, e9_8, w9_8, e9_10, w9_10, e9_12, w9_12, c9_13, e9_15, w9_15, e9_17, w9_17, e9_19, w9_19, c9_20, e9_22, w9_22, e9_24, w9_24, e9_26, w9_26, e9_28, w9_28, e9_30, w9_30, c9_31, c9_32, c9_33, c9_34, c9_35, c9_36, c9_37, c9_38, c9_39, c9_40, c9_41]

theorem row_inj {p q : Product} (h : p.row = q.row) : p = q := by
  cases p; cases q
  simp only [Product.row, List.cons.injEq, V.str.injEq, V.int.injEq, true_and, and_true] at h
  obtain ⟨rfl, rfl, rfl, rfl, rfl, rfl⟩ := h
  rfl
theorem map_row_inj : ∀ {l m : List Product}, l.map Product.row = m.map Product.row → l = m
  | [], [], _ => rfl
  | [], _ :: _, h => by simp at h
  | _ :: _, [], h => by simp at h
  | a :: l, b :: m, h => by
    rw [List.map_cons, List.map_cons, List.cons.injEq] at h
    rw [row_inj h.1, map_row_inj h.2]
theorem sameF_eq {f g : Fares} (h : sameF f g) : g = ⟨f.products, g.tag, f.discount, f.within, f.limit⟩ := by
  obtain ⟨h1, h2, h3, h4⟩ := h
  cases f; cases g
  simp only at h1 h2 h3 h4 ⊢
  rw [map_row_inj h1, h2, h3, h4]
theorem minSum_tag (f : Fares) (t : Cap) (l : List Ride) : minSum ⟨f.products, t, f.discount, f.within, f.limit⟩ l = minSum f l := by cases f; kernel_rfl
theorem opens_tag (f : Fares) (t : Cap) (l : List Ride) : opens ⟨f.products, t, f.discount, f.within, f.limit⟩ l = opens f l := by cases f; kernel_rfl
theorem domL_tag (f : Fares) (t : Cap) (rl ql : List Ride) : domL ⟨f.products, t, f.discount, f.within, f.limit⟩ f rl ql = domL f f rl ql ∧ domL f ⟨f.products, t, f.discount, f.within, f.limit⟩ rl ql = domL f f rl ql := by
  simp only [domL, closedL, closedB, minSum_tag, opens_tag, and_self]
theorem sameF_symm {f g : Fares} (h : sameF f g) : sameF g f := ⟨h.1.symm, h.2.1.symm, h.2.2.1.symm, h.2.2.2.symm⟩
theorem dom_same {f g : Fares} (h : sameF f g) (rl : List Ride) : domL f g rl rl = true ∧ domL g f rl rl = true := by
  rw [sameF_eq h, (domL_tag f _ rl rl).1, (domL_tag f _ rl rl).2]
  exact ⟨domL_refl rl, domL_refl rl⟩

theorem same36_ok (f g : Fares) (hf : f.wf) (hg : g.wf) (hn : f.products.length ≤ 40) : PCalls PR i_transitlaw36_same [.agg f.row, .agg g.row] (fun v => ∃ b : Bool, v = .bool b ∧ (b = true ↔ sameF f g)) := by
  refine acalls_pop fn_transitlaw36_same_ok (by simp [fn_transitlaw36_same]) ?_
  simp -implicitDefEqProofs (disch := omega) only [go_sem, Nat.reduceAdd, Nat.reduceMul, Nat.reduceSub, Nat.reduceBEq, Nat.reduceLeDiff, Nat.reduceLT, fn_transitlaw36_same, e21_1, w21_1, e21_3, w21_3, c21_4, e21_6, w21_6, e21_8, w21_8, e21_10, w21_10, e21_12, w21_12, c21_13, e21_15, w21_15, c21_16, e21_18, w21_18, c21_19, c21_20, c21_21, c21_22, c21_23, e21_25, w21_25, c21_26, c21_27, c21_28, c21_29, Fares.row]
  refine ifD (fun h3 => ?_) (fun h3 => ?_)
  rotate_left
  · simp -implicitDefEqProofs (disch := omega) only [go_sem, Nat.reduceAdd, Nat.reduceMul, Nat.reduceSub, Nat.reduceBEq, Nat.reduceLeDiff, Nat.reduceLT, fn_transitlaw36_same, e21_1, w21_1, e21_3, w21_3, c21_4, e21_6, w21_6, e21_8, w21_8, e21_10, w21_10, e21_12, w21_12, c21_13, e21_15, w21_15, c21_16, e21_18, w21_18, c21_19, c21_20, c21_21, c21_22, c21_23, e21_25, w21_25, c21_26, c21_27, c21_28, c21_29, Fares.row]
    exact ⟨false, rfl, by simp, fun e => absurd e.2.1 h3⟩
  simp -implicitDefEqProofs (disch := omega) only [go_sem, Nat.reduceAdd, Nat.reduceMul, Nat.reduceSub, Nat.reduceBEq, Nat.reduceLeDiff, Nat.reduceLT, fn_transitlaw36_same, e21_1, w21_1, e21_3, w21_3, c21_4, e21_6, w21_6, e21_8, w21_8, e21_10, w21_10, e21_12, w21_12, c21_13, e21_15, w21_15, c21_16, e21_18, w21_18, c21_19, c21_20, c21_21, c21_22, c21_23, e21_25, w21_25, c21_26, c21_27, c21_28, c21_29, Fares.row]
  refine ifD (fun h4 => ?_) (fun h4 => ?_)
  rotate_left
  · simp -implicitDefEqProofs (disch := omega) only [go_sem, Nat.reduceAdd, Nat.reduceMul, Nat.reduceSub, Nat.reduceBEq, Nat.reduceLeDiff, Nat.reduceLT, fn_transitlaw36_same, e21_1, w21_1, e21_3, w21_3, c21_4, e21_6, w21_6, e21_8, w21_8, e21_10, w21_10, e21_12, w21_12, c21_13, e21_15, w21_15, c21_16, e21_18, w21_18, c21_19, c21_20, c21_21, c21_22, c21_23, e21_25, w21_25, c21_26, c21_27, c21_28, c21_29, Fares.row]
    exact ⟨false, rfl, by simp, fun e => absurd e.2.2.1 h4⟩
  simp -implicitDefEqProofs (disch := omega) only [go_sem, Nat.reduceAdd, Nat.reduceMul, Nat.reduceSub, Nat.reduceBEq, Nat.reduceLeDiff, Nat.reduceLT, fn_transitlaw36_same, e21_1, w21_1, e21_3, w21_3, c21_4, e21_6, w21_6, e21_8, w21_8, e21_10, w21_10, e21_12, w21_12, c21_13, e21_15, w21_15, c21_16, e21_18, w21_18, c21_19, c21_20, c21_21, c21_22, c21_23, e21_25, w21_25, c21_26, c21_27, c21_28, c21_29, Fares.row]
  refine ifD (fun h5 => ?_) (fun h5 => ?_)
  rotate_left
  · simp -implicitDefEqProofs (disch := omega) only [go_sem, Nat.reduceAdd, Nat.reduceMul, Nat.reduceSub, Nat.reduceBEq, Nat.reduceLeDiff, Nat.reduceLT, fn_transitlaw36_same, e21_1, w21_1, e21_3, w21_3, c21_4, e21_6, w21_6, e21_8, w21_8, e21_10, w21_10, e21_12, w21_12, c21_13, e21_15, w21_15, c21_16, e21_18, w21_18, c21_19, c21_20, c21_21, c21_22, c21_23, e21_25, w21_25, c21_26, c21_27, c21_28, c21_29, Fares.row]
    exact ⟨false, rfl, by simp, fun e => absurd e.2.2.2 h5⟩
  simp -implicitDefEqProofs (disch := omega) only [go_sem, Nat.reduceAdd, Nat.reduceMul, Nat.reduceSub, Nat.reduceBEq, Nat.reduceLeDiff, Nat.reduceLT, fn_transitlaw36_same, e21_1, w21_1, e21_3, w21_3, c21_4, e21_6, w21_6, e21_8, w21_8, e21_10, w21_10, e21_12, w21_12, c21_13, e21_15, w21_15, c21_16, e21_18, w21_18, c21_19, c21_20, c21_21, c21_22, c21_23, e21_25, w21_25, c21_26, c21_27, c21_28, c21_29, Fares.row]
  refine ifD (fun h2 => ?_) (fun h2 => ?_)
  rotate_left
  · simp -implicitDefEqProofs (disch := omega) only [go_sem, Nat.reduceAdd, Nat.reduceMul, Nat.reduceSub, Nat.reduceBEq, Nat.reduceLeDiff, Nat.reduceLT, fn_transitlaw36_same, e21_1, w21_1, e21_3, w21_3, c21_4, e21_6, w21_6, e21_8, w21_8, e21_10, w21_10, e21_12, w21_12, c21_13, e21_15, w21_15, c21_16, e21_18, w21_18, c21_19, c21_20, c21_21, c21_22, c21_23, e21_25, w21_25, c21_26, c21_27, c21_28, c21_29, Fares.row]
    refine ⟨false, rfl, by simp, fun e => absurd (by have := congrArg List.length e.1; simp only [List.length_map] at this; omega) h2⟩
  simp -implicitDefEqProofs (disch := omega) only [go_sem, Nat.reduceAdd, Nat.reduceMul, Nat.reduceSub, Nat.reduceBEq, Nat.reduceLeDiff, Nat.reduceLT, fn_transitlaw36_same, e21_1, w21_1, e21_3, w21_3, c21_4, e21_6, w21_6, e21_8, w21_8, e21_10, w21_10, e21_12, w21_12, c21_13, e21_15, w21_15, c21_16, e21_18, w21_18, c21_19, c21_20, c21_21, c21_22, c21_23, e21_25, w21_25, c21_26, c21_27, c21_28, c21_29, Fares.row]
  refine wpC_forL f.products (fun i vs N => (∀ j, j < i → (f.products[j]?).map Product.row = (g.products[j]?).map Product.row) ∧ vs = [.ptr 0 0, .ptr 1 0, .int .i64 i] ∧ N = [.box f.row, .box g.row]) ⟨fun j hj => absurd hj (Nat.not_lt_zero j), rfl, by simp [Fares.row]⟩ ?_ ?_
  rotate_left
  · rintro vs N ⟨hall, rfl, rfl⟩
    simp -implicitDefEqProofs (disch := omega) only [go_sem, Nat.reduceAdd, Nat.reduceMul, Nat.reduceSub, Nat.reduceBEq, Nat.reduceLeDiff, Nat.reduceLT, fn_transitlaw36_same, e21_1, w21_1, e21_3, w21_3, c21_4, e21_6, w21_6, e21_8, w21_8, e21_10, w21_10, e21_12, w21_12, c21_13, e21_15, w21_15, c21_16, e21_18, w21_18, c21_19, c21_20, c21_21, c21_22, c21_23, e21_25, w21_25, c21_26, c21_27, c21_28, c21_29, dec_irrefl, Fares.row]
    refine ⟨true, rfl, fun _ => ⟨?_, h3, h4, h5⟩, fun _ => rfl⟩
    apply List.ext_getElem?
    intro j
    rw [List.getElem?_map, List.getElem?_map]
    rcases Nat.lt_or_ge j f.products.length with h6 | h6
    · exact hall j h6
    · rw [List.getElem?_eq_none h6, List.getElem?_eq_none (by omega)]
  rintro i a vs N ha hi hid ⟨hall, rfl, rfl⟩
  obtain ⟨b, hb⟩ : ∃ b, g.products[i]? = some b := ⟨g.products[i], by simp⟩
  simp -implicitDefEqProofs (disch := omega) only [go_sem, Nat.reduceAdd, Nat.reduceMul, Nat.reduceSub, Nat.reduceBEq, Nat.reduceLeDiff, Nat.reduceLT, fn_transitlaw36_same, e21_1, w21_1, e21_3, w21_3, c21_4, e21_6, w21_6, e21_8, w21_8, e21_10, w21_10, e21_12, w21_12, c21_13, e21_15, w21_15, c21_16, e21_18, w21_18, c21_19, c21_20, c21_21, c21_22, c21_23, e21_25, w21_25, c21_26, c21_27, c21_28, c21_29, hid, ha, hb, Fares.row, Product.row]
  refine ifB (fun h6 => ?_) (fun h6 => ?_)
  · simp only [Bool.and_eq_true, decide_eq_true_eq] at h6
    obtain ⟨e1, e2, e3, e4, e5, e6⟩ := h6
    have hrow : a.row = b.row := by simp only [Product.row, e1, e2, e3, e4, e5, e6]
    simp -implicitDefEqProofs (disch := omega) only [go_sem, Nat.reduceAdd, Nat.reduceMul, Nat.reduceSub, Nat.reduceBEq, Nat.reduceLeDiff, Nat.reduceLT, fn_transitlaw36_same, e21_1, w21_1, e21_3, w21_3, c21_4, e21_6, w21_6, e21_8, w21_8, e21_10, w21_10, e21_12, w21_12, c21_13, e21_15, w21_15, c21_16, e21_18, w21_18, c21_19, c21_20, c21_21, c21_22, c21_23, e21_25, w21_25, c21_26, c21_27, c21_28, c21_29]
    refine next_stay hi ⟨?_, ?_, rfl⟩
    · intro j hj
      rcases Nat.lt_or_ge j i with h7 | h7
      · exact hall j h7
      · have : j = i := by omega
        subst this
        rw [ha, hb]; simp [hrow]
    · simp only [vals, sget]; rfl
  · simp -implicitDefEqProofs (disch := omega) only [go_sem, Nat.reduceAdd, Nat.reduceMul, Nat.reduceSub, Nat.reduceBEq, Nat.reduceLeDiff, Nat.reduceLT, fn_transitlaw36_same, e21_1, w21_1, e21_3, w21_3, c21_4, e21_6, w21_6, e21_8, w21_8, e21_10, w21_10, e21_12, w21_12, c21_13, e21_15, w21_15, c21_16, e21_18, w21_18, c21_19, c21_20, c21_21, c21_22, c21_23, e21_25, w21_25, c21_26, c21_27, c21_28, c21_29]
    refine ⟨false, rfl, by simp, fun e => ?_⟩
    have := congrArg (fun x => x[i]?) e.1
    simp only [List.getElem?_map, ha, hb, Option.map_some, Option.some.injEq, Product.row, List.cons.injEq, V.str.injEq, V.int.injEq, true_and, and_true] at this
    obtain ⟨e1, e2, e3, e4, e5, e6⟩ := this
    simp [e1, e2, e3, e4, e5, e6] at h6

theorem FarestateEquals_law (f : Fares) (l : List Ride) (c : Cap) (g : Fares) (hf : f.wf) (hl : ∀ x ∈ l, x.wf) (hg : g.wf) :
    PCalls PR i_transitlaw36_FarestateEquals [.agg f.row, .slice (l.map Ride.row) c, .agg g.row] (fun v => v = .bool true) := by
  have hown : Own [.box f.row, .box g.row] := by simp [Own, memUnder, Blk.under, underL, V.under, Fares.row]
  have hex : ∀ {N : Mem}, Own N → ACalls PR i_transitlaw36_exampleHolds [] N (fun v M' => v = .bool true ∧ M' = N) := fun h => exampleHolds_ok h
  have hgx : ([.box f.row, .box g.row] : Mem)[1]? = some (.box g.row) := rfl
  have hfx : ([.box f.row, .box g.row] : Mem)[0]? = some (.box f.row) := rfl
  simp only [Fares.row] at hown hgx hfx
  refine acalls_pop fn_transitlaw36_FarestateEquals_ok (by simp [fn_transitlaw36_FarestateEquals]) ?_
  simp -implicitDefEqProofs (disch := omega) only [go_sem, Nat.reduceAdd, Nat.reduceMul, Nat.reduceSub, Nat.reduceBEq, Nat.reduceLeDiff, Nat.reduceLT, fn_transitlaw36_FarestateEquals, e8_1, w8_1, e8_3, w8_3, c8_4, e8_6, w8_6, e8_8, w8_8, e8_10, w8_10, e8_12, w8_12, e8_14, w8_14, c8_15, e8_17, w8_17, e8_19, w8_19, c8_20, e8_22, w8_22, e8_24, w8_24, c8_25, c8_26, c8_27, c8_28, c8_29, c8_30, c8_31, c8_32, Fares.row]
  first | refine callD (small36_ok f hf) ?_ | refine callQD (small36_ok f hf) ?_
  simp -implicitDefEqProofs (disch := omega) only [go_sem, Nat.reduceAdd, Nat.reduceMul, Nat.reduceSub, Nat.reduceBEq, Nat.reduceLeDiff, Nat.reduceLT, fn_transitlaw36_FarestateEquals, e8_1, w8_1, e8_3, w8_3, c8_4, e8_6, w8_6, e8_8, w8_8, e8_10, w8_10, e8_12, w8_12, e8_14, w8_14, c8_15, e8_17, w8_17, e8_19, w8_19, c8_20, e8_22, w8_22, e8_24, w8_24, c8_25, c8_26, c8_27, c8_28, c8_29, c8_30, c8_31, c8_32, Fares.row]
  refine ifB (fun h1 => ?_) (fun h1 => ?_)
  rotate_left
  · simp -implicitDefEqProofs (disch := omega) only [go_sem, Nat.reduceAdd, Nat.reduceMul, Nat.reduceSub, Nat.reduceBEq, Nat.reduceLeDiff, Nat.reduceLT, fn_transitlaw36_FarestateEquals, e8_1, w8_1, e8_3, w8_3, c8_4, e8_6, w8_6, e8_8, w8_8, e8_10, w8_10, e8_12, w8_12, e8_14, w8_14, c8_15, e8_17, w8_17, e8_19, w8_19, c8_20, e8_22, w8_22, e8_24, w8_24, c8_25, c8_26, c8_27, c8_28, c8_29, c8_30, c8_31, c8_32]
    refine callA (hex hown) ?_
    rintro v N ⟨rfl, rfl⟩
    simp -implicitDefEqProofs (disch := omega) only [go_sem, Nat.reduceAdd, Nat.reduceMul, Nat.reduceSub, Nat.reduceBEq, Nat.reduceLeDiff, Nat.reduceLT, fn_transitlaw36_FarestateEquals, e8_1, w8_1, e8_3, w8_3, c8_4, e8_6, w8_6, e8_8, w8_8, e8_10, w8_10, e8_12, w8_12, e8_14, w8_14, c8_15, e8_17, w8_17, e8_19, w8_19, c8_20, e8_22, w8_22, e8_24, w8_24, c8_25, c8_26, c8_27, c8_28, c8_29, c8_30, c8_31, c8_32]
  simp -implicitDefEqProofs (disch := omega) only [go_sem, Nat.reduceAdd, Nat.reduceMul, Nat.reduceSub, Nat.reduceBEq, Nat.reduceLeDiff, Nat.reduceLT, fn_transitlaw36_FarestateEquals, e8_1, w8_1, e8_3, w8_3, c8_4, e8_6, w8_6, e8_8, w8_8, e8_10, w8_10, e8_12, w8_12, e8_14, w8_14, c8_15, e8_17, w8_17, e8_19, w8_19, c8_20, e8_22, w8_22, e8_24, w8_24, c8_25, c8_26, c8_27, c8_28, c8_29, c8_30, c8_31, c8_32, Fares.row]
  first | refine callD (small36_ok g hg) ?_ | refine callQD (small36_ok g hg) ?_
  simp -implicitDefEqProofs (disch := omega) only [go_sem, Nat.reduceAdd, Nat.reduceMul, Nat.reduceSub, Nat.reduceBEq, Nat.reduceLeDiff, Nat.reduceLT, fn_transitlaw36_FarestateEquals, e8_1, w8_1, e8_3, w8_3, c8_4, e8_6, w8_6, e8_8, w8_8, e8_10, w8_10, e8_12, w8_12, e8_14, w8_14, c8_15, e8_17, w8_17, e8_19, w8_19, c8_20, e8_22, w8_22, e8_24, w8_24, c8_25, c8_26, c8_27, c8_28, c8_29, c8_30, c8_31, c8_32, Fares.row]
  refine ifB (fun h1' => ?_) (fun h1' => ?_)
  rotate_left
  · simp -implicitDefEqProofs (disch := omega) only [go_sem, Nat.reduceAdd, Nat.reduceMul, Nat.reduceSub, Nat.reduceBEq, Nat.reduceLeDiff, Nat.reduceLT, fn_transitlaw36_FarestateEquals, e8_1, w8_1, e8_3, w8_3, c8_4, e8_6, w8_6, e8_8, w8_8, e8_10, w8_10, e8_12, w8_12, e8_14, w8_14, c8_15, e8_17, w8_17, e8_19, w8_19, c8_20, e8_22, w8_22, e8_24, w8_24, c8_25, c8_26, c8_27, c8_28, c8_29, c8_30, c8_31, c8_32]
    refine callA (hex hown) ?_
    rintro v N ⟨rfl, rfl⟩
    simp -implicitDefEqProofs (disch := omega) only [go_sem, Nat.reduceAdd, Nat.reduceMul, Nat.reduceSub, Nat.reduceBEq, Nat.reduceLeDiff, Nat.reduceLT, fn_transitlaw36_FarestateEquals, e8_1, w8_1, e8_3, w8_3, c8_4, e8_6, w8_6, e8_8, w8_8, e8_10, w8_10, e8_12, w8_12, e8_14, w8_14, c8_15, e8_17, w8_17, e8_19, w8_19, c8_20, e8_22, w8_22, e8_24, w8_24, c8_25, c8_26, c8_27, c8_28, c8_29, c8_30, c8_31, c8_32]
  simp -implicitDefEqProofs (disch := omega) only [go_sem, Nat.reduceAdd, Nat.reduceMul, Nat.reduceSub, Nat.reduceBEq, Nat.reduceLeDiff, Nat.reduceLT, fn_transitlaw36_FarestateEquals, e8_1, w8_1, e8_3, w8_3, c8_4, e8_6, w8_6, e8_8, w8_8, e8_10, w8_10, e8_12, w8_12, e8_14, w8_14, c8_15, e8_17, w8_17, e8_19, w8_19, c8_20, e8_22, w8_22, e8_24, w8_24, c8_25, c8_26, c8_27, c8_28, c8_29, c8_30, c8_31, c8_32, Fares.row]
  refine ifD (fun h2 => ?_) (fun h2 => ?_)
  · simp -implicitDefEqProofs (disch := omega) only [go_sem, Nat.reduceAdd, Nat.reduceMul, Nat.reduceSub, Nat.reduceBEq, Nat.reduceLeDiff, Nat.reduceLT, fn_transitlaw36_FarestateEquals, e8_1, w8_1, e8_3, w8_3, c8_4, e8_6, w8_6, e8_8, w8_8, e8_10, w8_10, e8_12, w8_12, e8_14, w8_14, c8_15, e8_17, w8_17, e8_19, w8_19, c8_20, e8_22, w8_22, e8_24, w8_24, c8_25, c8_26, c8_27, c8_28, c8_29, c8_30, c8_31, c8_32]
    refine callA (hex hown) ?_
    rintro v N ⟨rfl, rfl⟩
    simp -implicitDefEqProofs (disch := omega) only [go_sem, Nat.reduceAdd, Nat.reduceMul, Nat.reduceSub, Nat.reduceBEq, Nat.reduceLeDiff, Nat.reduceLT, fn_transitlaw36_FarestateEquals, e8_1, w8_1, e8_3, w8_3, c8_4, e8_6, w8_6, e8_8, w8_8, e8_10, w8_10, e8_12, w8_12, e8_14, w8_14, c8_15, e8_17, w8_17, e8_19, w8_19, c8_20, e8_22, w8_22, e8_24, w8_24, c8_25, c8_26, c8_27, c8_28, c8_29, c8_30, c8_31, c8_32]
  simp -implicitDefEqProofs (disch := omega) only [go_sem, Nat.reduceAdd, Nat.reduceMul, Nat.reduceSub, Nat.reduceBEq, Nat.reduceLeDiff, Nat.reduceLT, fn_transitlaw36_FarestateEquals, e8_1, w8_1, e8_3, w8_3, c8_4, e8_6, w8_6, e8_8, w8_8, e8_10, w8_10, e8_12, w8_12, e8_14, w8_14, c8_15, e8_17, w8_17, e8_19, w8_19, c8_20, e8_22, w8_22, e8_24, w8_24, c8_25, c8_26, c8_27, c8_28, c8_29, c8_30, c8_31, c8_32, Fares.row]
  first | refine callD (transitref35_Valid_ok f hf) ?_ | refine callQD (transitref35_Valid_ok f hf) ?_
  simp -implicitDefEqProofs (disch := omega) only [go_sem, Nat.reduceAdd, Nat.reduceMul, Nat.reduceSub, Nat.reduceBEq, Nat.reduceLeDiff, Nat.reduceLT, fn_transitlaw36_FarestateEquals, e8_1, w8_1, e8_3, w8_3, c8_4, e8_6, w8_6, e8_8, w8_8, e8_10, w8_10, e8_12, w8_12, e8_14, w8_14, c8_15, e8_17, w8_17, e8_19, w8_19, c8_20, e8_22, w8_22, e8_24, w8_24, c8_25, c8_26, c8_27, c8_28, c8_29, c8_30, c8_31, c8_32, Fares.row]
  refine ifB (fun h3 => ?_) (fun h3 => ?_)
  rotate_left
  · simp -implicitDefEqProofs (disch := omega) only [go_sem, Nat.reduceAdd, Nat.reduceMul, Nat.reduceSub, Nat.reduceBEq, Nat.reduceLeDiff, Nat.reduceLT, fn_transitlaw36_FarestateEquals, e8_1, w8_1, e8_3, w8_3, c8_4, e8_6, w8_6, e8_8, w8_8, e8_10, w8_10, e8_12, w8_12, e8_14, w8_14, c8_15, e8_17, w8_17, e8_19, w8_19, c8_20, e8_22, w8_22, e8_24, w8_24, c8_25, c8_26, c8_27, c8_28, c8_29, c8_30, c8_31, c8_32]
    refine callA (hex hown) ?_
    rintro v N ⟨rfl, rfl⟩
    simp -implicitDefEqProofs (disch := omega) only [go_sem, Nat.reduceAdd, Nat.reduceMul, Nat.reduceSub, Nat.reduceBEq, Nat.reduceLeDiff, Nat.reduceLT, fn_transitlaw36_FarestateEquals, e8_1, w8_1, e8_3, w8_3, c8_4, e8_6, w8_6, e8_8, w8_8, e8_10, w8_10, e8_12, w8_12, e8_14, w8_14, c8_15, e8_17, w8_17, e8_19, w8_19, c8_20, e8_22, w8_22, e8_24, w8_24, c8_25, c8_26, c8_27, c8_28, c8_29, c8_30, c8_31, c8_32]
  have hc : (checkRes f).2 = 0 := by simpa [faresOk] using h3
  have hok := checkRes_ok hc
  simp -implicitDefEqProofs (disch := omega) only [go_sem, Nat.reduceAdd, Nat.reduceMul, Nat.reduceSub, Nat.reduceBEq, Nat.reduceLeDiff, Nat.reduceLT, fn_transitlaw36_FarestateEquals, e8_1, w8_1, e8_3, w8_3, c8_4, e8_6, w8_6, e8_8, w8_8, e8_10, w8_10, e8_12, w8_12, e8_14, w8_14, c8_15, e8_17, w8_17, e8_19, w8_19, c8_20, e8_22, w8_22, e8_24, w8_24, c8_25, c8_26, c8_27, c8_28, c8_29, c8_30, c8_31, c8_32, Fares.row]
  first | refine callD (transitref35_Valid_ok g hg) ?_ | refine callQD (transitref35_Valid_ok g hg) ?_
  simp -implicitDefEqProofs (disch := omega) only [go_sem, Nat.reduceAdd, Nat.reduceMul, Nat.reduceSub, Nat.reduceBEq, Nat.reduceLeDiff, Nat.reduceLT, fn_transitlaw36_FarestateEquals, e8_1, w8_1, e8_3, w8_3, c8_4, e8_6, w8_6, e8_8, w8_8, e8_10, w8_10, e8_12, w8_12, e8_14, w8_14, c8_15, e8_17, w8_17, e8_19, w8_19, c8_20, e8_22, w8_22, e8_24, w8_24, c8_25, c8_26, c8_27, c8_28, c8_29, c8_30, c8_31, c8_32, Fares.row]
  refine ifB (fun h3' => ?_) (fun h3' => ?_)
  rotate_left
  · simp -implicitDefEqProofs (disch := omega) only [go_sem, Nat.reduceAdd, Nat.reduceMul, Nat.reduceSub, Nat.reduceBEq, Nat.reduceLeDiff, Nat.reduceLT, fn_transitlaw36_FarestateEquals, e8_1, w8_1, e8_3, w8_3, c8_4, e8_6, w8_6, e8_8, w8_8, e8_10, w8_10, e8_12, w8_12, e8_14, w8_14, c8_15, e8_17, w8_17, e8_19, w8_19, c8_20, e8_22, w8_22, e8_24, w8_24, c8_25, c8_26, c8_27, c8_28, c8_29, c8_30, c8_31, c8_32]
    refine callA (hex hown) ?_
    rintro v N ⟨rfl, rfl⟩
    simp -implicitDefEqProofs (disch := omega) only [go_sem, Nat.reduceAdd, Nat.reduceMul, Nat.reduceSub, Nat.reduceBEq, Nat.reduceLeDiff, Nat.reduceLT, fn_transitlaw36_FarestateEquals, e8_1, w8_1, e8_3, w8_3, c8_4, e8_6, w8_6, e8_8, w8_8, e8_10, w8_10, e8_12, w8_12, e8_14, w8_14, c8_15, e8_17, w8_17, e8_19, w8_19, c8_20, e8_22, w8_22, e8_24, w8_24, c8_25, c8_26, c8_27, c8_28, c8_29, c8_30, c8_31, c8_32]
  have hcg : (checkRes g).2 = 0 := by simpa [faresOk] using h3'
  have hokg := checkRes_ok hcg
  have hlw : ∀ x ∈ l.reverse, x.wf := fun x hx => hl x (List.mem_reverse.1 hx)
  have hlr : l.reverse.length ≤ 8 := by simp; omega
  have hlt : l.length ≤ 8 := by omega
  simp -implicitDefEqProofs (disch := omega) only [go_sem, Nat.reduceAdd, Nat.reduceMul, Nat.reduceSub, Nat.reduceBEq, Nat.reduceLeDiff, Nat.reduceLT, fn_transitlaw36_FarestateEquals, e8_1, w8_1, e8_3, w8_3, c8_4, e8_6, w8_6, e8_8, w8_8, e8_10, w8_10, e8_12, w8_12, e8_14, w8_14, c8_15, e8_17, w8_17, e8_19, w8_19, c8_20, e8_22, w8_22, e8_24, w8_24, c8_25, c8_26, c8_27, c8_28, c8_29, c8_30, c8_31, c8_32, Fares.row]
  refine callA (made_ok f l _ hf hc hl (by omega) hown) ?_
  rintro v N ⟨L, ia, fa, rfl, rfl, HA⟩
  have hgx := app_get hgx L
  have hfx := app_get hfx L
  generalize [Blk.box _, Blk.box _] ++ L = N at *
  simp -implicitDefEqProofs (disch := omega) only [go_sem, Nat.reduceAdd, Nat.reduceMul, Nat.reduceSub, Nat.reduceBEq, Nat.reduceLeDiff, Nat.reduceLT, fn_transitlaw36_FarestateEquals, e8_1, w8_1, e8_3, w8_3, c8_4, e8_6, w8_6, e8_8, w8_8, e8_10, w8_10, e8_12, w8_12, e8_14, w8_14, c8_15, e8_17, w8_17, e8_19, w8_19, c8_20, e8_22, w8_22, e8_24, w8_24, c8_25, c8_26, c8_27, c8_28, c8_29, c8_30, c8_31, c8_32, hfx]
  refine callA (made_ok f l _ hf hc hl (by omega) HA.own) ?_
  rintro v N' ⟨L, ib, fb, rfl, rfl, HB⟩
  have hgx := app_get hgx L
  have hfx := app_get hfx L
  have HA := HA.app HB.own
  generalize N ++ L = N at *
  simp -implicitDefEqProofs (disch := omega) only [go_sem, Nat.reduceAdd, Nat.reduceMul, Nat.reduceSub, Nat.reduceBEq, Nat.reduceLeDiff, Nat.reduceLT, fn_transitlaw36_FarestateEquals, e8_1, w8_1, e8_3, w8_3, c8_4, e8_6, w8_6, e8_8, w8_8, e8_10, w8_10, e8_12, w8_12, e8_14, w8_14, c8_15, e8_17, w8_17, e8_19, w8_19, c8_20, e8_22, w8_22, e8_24, w8_24, c8_25, c8_26, c8_27, c8_28, c8_29, c8_30, c8_31, c8_32, hgx]
  refine callA (made_ok g l _ hg hcg hl (by omega) HB.own) ?_
  rintro v N' ⟨L, ic, fc, rfl, rfl, HC⟩
  have hgx := app_get hgx L
  have hfx := app_get hfx L
  have HA := HA.app HC.own
  have HB := HB.app HC.own
  generalize N ++ L = N at *
  simp -implicitDefEqProofs (disch := omega) only [go_sem, Nat.reduceAdd, Nat.reduceMul, Nat.reduceSub, Nat.reduceBEq, Nat.reduceLeDiff, Nat.reduceLT, fn_transitlaw36_FarestateEquals, e8_1, w8_1, e8_3, w8_3, c8_4, e8_6, w8_6, e8_8, w8_8, e8_10, w8_10, e8_12, w8_12, e8_14, w8_14, c8_15, e8_17, w8_17, e8_19, w8_19, c8_20, e8_22, w8_22, e8_24, w8_24, c8_25, c8_26, c8_27, c8_28, c8_29, c8_30, c8_31, c8_32, eq_ptr_nil]
  refine callA (Dom_yes hf hok hf hok HA HB hlw hlr hlw hlr (sameF_refl f) (domL_refl _)) ?_
  rintro v N ⟨rfl, rfl⟩
  simp -implicitDefEqProofs (disch := omega) only [go_sem, Nat.reduceAdd, Nat.reduceMul, Nat.reduceSub, Nat.reduceBEq, Nat.reduceLeDiff, Nat.reduceLT, fn_transitlaw36_FarestateEquals, e8_1, w8_1, e8_3, w8_3, c8_4, e8_6, w8_6, e8_8, w8_8, e8_10, w8_10, e8_12, w8_12, e8_14, w8_14, c8_15, e8_17, w8_17, e8_19, w8_19, c8_20, e8_22, w8_22, e8_24, w8_24, c8_25, c8_26, c8_27, c8_28, c8_29, c8_30, c8_31, c8_32]
  refine callA (Dom_yes hf hok hf hok HB HA hlw hlr hlw hlr (sameF_refl f) (domL_refl _)) ?_
  rintro v N ⟨rfl, rfl⟩
  simp -implicitDefEqProofs (disch := omega) only [go_sem, Nat.reduceAdd, Nat.reduceMul, Nat.reduceSub, Nat.reduceBEq, Nat.reduceLeDiff, Nat.reduceLT, fn_transitlaw36_FarestateEquals, e8_1, w8_1, e8_3, w8_3, c8_4, e8_6, w8_6, e8_8, w8_8, e8_10, w8_10, e8_12, w8_12, e8_14, w8_14, c8_15, e8_17, w8_17, e8_19, w8_19, c8_20, e8_22, w8_22, e8_24, w8_24, c8_25, c8_26, c8_27, c8_28, c8_29, c8_30, c8_31, c8_32, hfx, hgx]
  refine callP (same36_ok f g hf hg (by have := hok.len; omega)) ?_
  rintro v ⟨b, rfl, hb⟩
  simp -implicitDefEqProofs (disch := omega) only [go_sem, Nat.reduceAdd, Nat.reduceMul, Nat.reduceSub, Nat.reduceBEq, Nat.reduceLeDiff, Nat.reduceLT, fn_transitlaw36_FarestateEquals, e8_1, w8_1, e8_3, w8_3, c8_4, e8_6, w8_6, e8_8, w8_8, e8_10, w8_10, e8_12, w8_12, e8_14, w8_14, c8_15, e8_17, w8_17, e8_19, w8_19, c8_20, e8_22, w8_22, e8_24, w8_24, c8_25, c8_26, c8_27, c8_28, c8_29, c8_30, c8_31, c8_32]
  refine ifB (fun h5 => ?_) (fun h5 => ?_)
  · have hs := hb.1 h5
    simp -implicitDefEqProofs (disch := omega) only [go_sem, Nat.reduceAdd, Nat.reduceMul, Nat.reduceSub, Nat.reduceBEq, Nat.reduceLeDiff, Nat.reduceLT, fn_transitlaw36_FarestateEquals, e8_1, w8_1, e8_3, w8_3, c8_4, e8_6, w8_6, e8_8, w8_8, e8_10, w8_10, e8_12, w8_12, e8_14, w8_14, c8_15, e8_17, w8_17, e8_19, w8_19, c8_20, e8_22, w8_22, e8_24, w8_24, c8_25, c8_26, c8_27, c8_28, c8_29, c8_30, c8_31, c8_32]
    refine callA (Dom_yes hf hok hg hokg HA HC hlw hlr hlw hlr hs (dom_same hs _).1) ?_
    rintro v N ⟨rfl, rfl⟩
    simp -implicitDefEqProofs (disch := omega) only [go_sem, Nat.reduceAdd, Nat.reduceMul, Nat.reduceSub, Nat.reduceBEq, Nat.reduceLeDiff, Nat.reduceLT, fn_transitlaw36_FarestateEquals, e8_1, w8_1, e8_3, w8_3, c8_4, e8_6, w8_6, e8_8, w8_8, e8_10, w8_10, e8_12, w8_12, e8_14, w8_14, c8_15, e8_17, w8_17, e8_19, w8_19, c8_20, e8_22, w8_22, e8_24, w8_24, c8_25, c8_26, c8_27, c8_28, c8_29, c8_30, c8_31, c8_32]
    refine callA (Dom_yes hg hokg hf hok HC HA hlw hlr hlw hlr (sameF_symm hs) (dom_same hs _).2) ?_
    rintro v N ⟨rfl, rfl⟩
    simp -implicitDefEqProofs (disch := omega) only [go_sem, Nat.reduceAdd, Nat.reduceMul, Nat.reduceSub, Nat.reduceBEq, Nat.reduceLeDiff, Nat.reduceLT, fn_transitlaw36_FarestateEquals, e8_1, w8_1, e8_3, w8_3, c8_4, e8_6, w8_6, e8_8, w8_8, e8_10, w8_10, e8_12, w8_12, e8_14, w8_14, c8_15, e8_17, w8_17, e8_19, w8_19, c8_20, e8_22, w8_22, e8_24, w8_24, c8_25, c8_26, c8_27, c8_28, c8_29, c8_30, c8_31, c8_32]
    refine callA (hex HA.own) ?_
    rintro v N ⟨rfl, rfl⟩
    simp -implicitDefEqProofs (disch := omega) only [go_sem, Nat.reduceAdd, Nat.reduceMul, Nat.reduceSub, Nat.reduceBEq, Nat.reduceLeDiff, Nat.reduceLT, fn_transitlaw36_FarestateEquals, e8_1, w8_1, e8_3, w8_3, c8_4, e8_6, w8_6, e8_8, w8_8, e8_10, w8_10, e8_12, w8_12, e8_14, w8_14, c8_15, e8_17, w8_17, e8_19, w8_19, c8_20, e8_22, w8_22, e8_24, w8_24, c8_25, c8_26, c8_27, c8_28, c8_29, c8_30, c8_31, c8_32]
  · have hs : ¬ sameF f g := fun e => by rw [hb.2 e] at h5; simp at h5
    simp -implicitDefEqProofs (disch := omega) only [go_sem, Nat.reduceAdd, Nat.reduceMul, Nat.reduceSub, Nat.reduceBEq, Nat.reduceLeDiff, Nat.reduceLT, fn_transitlaw36_FarestateEquals, e8_1, w8_1, e8_3, w8_3, c8_4, e8_6, w8_6, e8_8, w8_8, e8_10, w8_10, e8_12, w8_12, e8_14, w8_14, c8_15, e8_17, w8_17, e8_19, w8_19, c8_20, e8_22, w8_22, e8_24, w8_24, c8_25, c8_26, c8_27, c8_28, c8_29, c8_30, c8_31, c8_32]
    refine callA (Dom_no hf hok hg hokg HA HC hlw hlr hlw hlr (fun e => hs e.1)) ?_
    rintro v N ⟨rfl, rfl⟩
    simp -implicitDefEqProofs (disch := omega) only [go_sem, Nat.reduceAdd, Nat.reduceMul, Nat.reduceSub, Nat.reduceBEq, Nat.reduceLeDiff, Nat.reduceLT, fn_transitlaw36_FarestateEquals, e8_1, w8_1, e8_3, w8_3, c8_4, e8_6, w8_6, e8_8, w8_8, e8_10, w8_10, e8_12, w8_12, e8_14, w8_14, c8_15, e8_17, w8_17, e8_19, w8_19, c8_20, e8_22, w8_22, e8_24, w8_24, c8_25, c8_26, c8_27, c8_28, c8_29, c8_30, c8_31, c8_32]
    refine callA (Dom_no hg hokg hf hok HC HA hlw hlr hlw hlr (fun e => hs (sameF_symm e.1))) ?_
    rintro v N ⟨rfl, rfl⟩
    simp -implicitDefEqProofs (disch := omega) only [go_sem, Nat.reduceAdd, Nat.reduceMul, Nat.reduceSub, Nat.reduceBEq, Nat.reduceLeDiff, Nat.reduceLT, fn_transitlaw36_FarestateEquals, e8_1, w8_1, e8_3, w8_3, c8_4, e8_6, w8_6, e8_8, w8_8, e8_10, w8_10, e8_12, w8_12, e8_14, w8_14, c8_15, e8_17, w8_17, e8_19, w8_19, c8_20, e8_22, w8_22, e8_24, w8_24, c8_25, c8_26, c8_27, c8_28, c8_29, c8_30, c8_31, c8_32]
    refine callA (hex HA.own) ?_
    rintro v N ⟨rfl, rfl⟩
    simp -implicitDefEqProofs (disch := omega) only [go_sem, Nat.reduceAdd, Nat.reduceMul, Nat.reduceSub, Nat.reduceBEq, Nat.reduceLeDiff, Nat.reduceLT, fn_transitlaw36_FarestateEquals, e8_1, w8_1, e8_3, w8_3, c8_4, e8_6, w8_6, e8_8, w8_8, e8_10, w8_10, e8_12, w8_12, e8_14, w8_14, c8_15, e8_17, w8_17, e8_19, w8_19, c8_20, e8_22, w8_22, e8_24, w8_24, c8_25, c8_26, c8_27, c8_28, c8_29, c8_30, c8_31, c8_32]

end Go.Vm.C

