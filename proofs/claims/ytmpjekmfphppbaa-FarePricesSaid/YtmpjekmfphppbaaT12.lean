/- The statement FareGrows. -/
import Derived.Test.YtmpjekmfphppbaaT11

namespace Go.Vm.C
open Go.Vm
set_option maxHeartbeats 1000000
set_option maxRecDepth 10000
set_option linter.unusedSimpArgs false
set_option linter.unusedVariables false

theorem slice_pre (l : List Ride) (k : Nat) (c : Cap) (M : Mem) (hk : k ≤ l.length) :
    sliceV 4 (.slice (l.map Ride.row) c) none (some (.int .i64 k)) none M = some (.slice ((l.take k).map Ride.row) (capS c k l.length l.length false)) := by
  rw [slice_h 4 _ c _ _ M (by omega) (by simp; omega) (headLen_map (f := Ride.row) (fun r => rfl) l), List.length_map, List.map_take]
  rfl
theorem slice_post (l : List Ride) (k : Nat) (c : Cap) (M : Mem) (hk : k ≤ l.length) :
    ∃ c', sliceV 4 (.slice (l.map Ride.row) c) (some (.int .i64 k)) none none M = some (.slice ((l.drop k).map Ride.row) c') := by
  rw [slice_l 4 _ c _ _ M (by omega) (by simp; omega) (headLen_map (f := Ride.row) (fun r => rfl) l), List.map_drop]
  exact ⟨_, rfl⟩

theorem fareRes_best {f : Fares} {l : List Ride} {d : List Ticket} (h : validRes f l.length = 0) (hd : best f l 0 = some d) : fareRes f l = (capped f (total d), d, 0) := by rw [fareRes_valid h, hd]

theorem grows {f : Fares} {l : List Ride} {k : Nat} (hk : k ≤ l.length) (hs : Sorted l) (h : (fareRes f l).2.2 = 0) : (fareRes f (l.take k)).2.2 = 0 ∧ (fareRes f (l.take k)).1 ≤ (fareRes f l).1 := by
  obtain ⟨hv, d, hd, hr⟩ := fareRes_ok h
  obtain ⟨hc, hlen⟩ := validRes_zero.1 hv
  have hok := checkRes_ok hc
  obtain ⟨d', h1, h2⟩ := div_cut hok hs hk d 0 (best_div (by omega) hd) (by omega)
  obtain ⟨d'', h3, h4⟩ := best_min d' 0 h1
  have hv' : validRes f (l.take k).length = 0 := validRes_zero.2 ⟨hc, by rw [List.length_take]; omega⟩
  rw [hr, fareRes_best hv' h3]
  exact ⟨rfl, capped_mono (by omega)⟩

theorem take_wf {l : List Ride} {k : Nat} (hl : ∀ r ∈ l, r.wf) : ∀ r ∈ l.take k, r.wf := fun r hr => hl r (List.mem_of_mem_take hr)
theorem drop_wf {l : List Ride} {k : Nat} (hl : ∀ r ∈ l, r.wf) : ∀ r ∈ l.drop k, r.wf := fun r hr => hl r (List.mem_of_mem_drop hr)

theorem FareGrows_law (f : Fares) (l : List Ride) (c : Cap) (n : Int) (hf : f.wf) (hl : ∀ r ∈ l, r.wf) (hlen : l.length ≤ maxLen) :
    PCalls PR i_transitlaw35_FareGrows [.agg f.row, .slice (l.map Ride.row) c, .int .i64 n] (fun v => v = .bool true) := by
  have hm : maxLen = 9223372036854775807 := by rfl
  refine acalls_pop fn_transitlaw35_FareGrows_ok (by simp [fn_transitlaw35_FareGrows]) ?_
  simp -implicitDefEqProofs (disch := omega) only [go_sem, Nat.reduceAdd, Nat.reduceMul, Nat.reduceSub, Nat.reduceBEq, Nat.reduceLeDiff, Nat.reduceLT, fn_transitlaw35_FareGrows, e5_1, w5_1, e5_3, w5_3, c5_4, e5_6, w5_6, e5_8, w5_8, e5_10, w5_10, e5_12, w5_12, c5_13, e5_15, w5_15, c5_16, e5_18, w5_18, c5_19, c5_20, c5_21, c5_22, c5_23, e5_25, w5_25, e5_27, w5_27, e5_29, w5_29, c5_30, c5_31, c5_32, c5_33, c5_34, c5_35, Fares.row]
  first | refine callD (small_ok f l c hf) ?_ | refine callQD (small_ok f l c hf) ?_
  simp -implicitDefEqProofs (disch := omega) only [go_sem, Nat.reduceAdd, Nat.reduceMul, Nat.reduceSub, Nat.reduceBEq, Nat.reduceLeDiff, Nat.reduceLT, fn_transitlaw35_FareGrows, e5_1, w5_1, e5_3, w5_3, c5_4, e5_6, w5_6, e5_8, w5_8, e5_10, w5_10, e5_12, w5_12, c5_13, e5_15, w5_15, c5_16, e5_18, w5_18, c5_19, c5_20, c5_21, c5_22, c5_23, e5_25, w5_25, e5_27, w5_27, e5_29, w5_29, c5_30, c5_31, c5_32, c5_33, c5_34, c5_35]
  refine ifB (fun h1 => ?_) (fun h1 => ?_)
  rotate_left
  · simp -implicitDefEqProofs (disch := omega) only [go_sem, Nat.reduceAdd, Nat.reduceMul, Nat.reduceSub, Nat.reduceBEq, Nat.reduceLeDiff, Nat.reduceLT, fn_transitlaw35_FareGrows, e5_1, w5_1, e5_3, w5_3, c5_4, e5_6, w5_6, e5_8, w5_8, e5_10, w5_10, e5_12, w5_12, c5_13, e5_15, w5_15, c5_16, e5_18, w5_18, c5_19, c5_20, c5_21, c5_22, c5_23, e5_25, w5_25, e5_27, w5_27, e5_29, w5_29, c5_30, c5_31, c5_32, c5_33, c5_34, c5_35]
    first | refine callD (example35_ok) ?_ | refine callQD (example35_ok) ?_
    simp -implicitDefEqProofs (disch := omega) only [go_sem, Nat.reduceAdd, Nat.reduceMul, Nat.reduceSub, Nat.reduceBEq, Nat.reduceLeDiff, Nat.reduceLT, fn_transitlaw35_FareGrows, e5_1, w5_1, e5_3, w5_3, c5_4, e5_6, w5_6, e5_8, w5_8, e5_10, w5_10, e5_12, w5_12, c5_13, e5_15, w5_15, c5_16, e5_18, w5_18, c5_19, c5_20, c5_21, c5_22, c5_23, e5_25, w5_25, e5_27, w5_27, e5_29, w5_29, c5_30, c5_31, c5_32, c5_33, c5_34, c5_35]
  simp -implicitDefEqProofs (disch := omega) only [go_sem, Nat.reduceAdd, Nat.reduceMul, Nat.reduceSub, Nat.reduceBEq, Nat.reduceLeDiff, Nat.reduceLT, fn_transitlaw35_FareGrows, e5_1, w5_1, e5_3, w5_3, c5_4, e5_6, w5_6, e5_8, w5_8, e5_10, w5_10, e5_12, w5_12, c5_13, e5_15, w5_15, c5_16, e5_18, w5_18, c5_19, c5_20, c5_21, c5_22, c5_23, e5_25, w5_25, e5_27, w5_27, e5_29, w5_29, c5_30, c5_31, c5_32, c5_33, c5_34, c5_35]
  refine ifD (fun h2 => ?_) (fun h2 => ?_)
  · simp -implicitDefEqProofs (disch := omega) only [go_sem, Nat.reduceAdd, Nat.reduceMul, Nat.reduceSub, Nat.reduceBEq, Nat.reduceLeDiff, Nat.reduceLT, fn_transitlaw35_FareGrows, e5_1, w5_1, e5_3, w5_3, c5_4, e5_6, w5_6, e5_8, w5_8, e5_10, w5_10, e5_12, w5_12, c5_13, e5_15, w5_15, c5_16, e5_18, w5_18, c5_19, c5_20, c5_21, c5_22, c5_23, e5_25, w5_25, e5_27, w5_27, e5_29, w5_29, c5_30, c5_31, c5_32, c5_33, c5_34, c5_35]
    first | refine callD (example35_ok) ?_ | refine callQD (example35_ok) ?_
    simp -implicitDefEqProofs (disch := omega) only [go_sem, Nat.reduceAdd, Nat.reduceMul, Nat.reduceSub, Nat.reduceBEq, Nat.reduceLeDiff, Nat.reduceLT, fn_transitlaw35_FareGrows, e5_1, w5_1, e5_3, w5_3, c5_4, e5_6, w5_6, e5_8, w5_8, e5_10, w5_10, e5_12, w5_12, c5_13, e5_15, w5_15, c5_16, e5_18, w5_18, c5_19, c5_20, c5_21, c5_22, c5_23, e5_25, w5_25, e5_27, w5_27, e5_29, w5_29, c5_30, c5_31, c5_32, c5_33, c5_34, c5_35]
  simp -implicitDefEqProofs (disch := omega) only [go_sem, Nat.reduceAdd, Nat.reduceMul, Nat.reduceSub, Nat.reduceBEq, Nat.reduceLeDiff, Nat.reduceLT, fn_transitlaw35_FareGrows, e5_1, w5_1, e5_3, w5_3, c5_4, e5_6, w5_6, e5_8, w5_8, e5_10, w5_10, e5_12, w5_12, c5_13, e5_15, w5_15, c5_16, e5_18, w5_18, c5_19, c5_20, c5_21, c5_22, c5_23, e5_25, w5_25, e5_27, w5_27, e5_29, w5_29, c5_30, c5_31, c5_32, c5_33, c5_34, c5_35]
  refine ifD (fun h3 => ?_) (fun h3 => ?_)
  · simp -implicitDefEqProofs (disch := omega) only [go_sem, Nat.reduceAdd, Nat.reduceMul, Nat.reduceSub, Nat.reduceBEq, Nat.reduceLeDiff, Nat.reduceLT, fn_transitlaw35_FareGrows, e5_1, w5_1, e5_3, w5_3, c5_4, e5_6, w5_6, e5_8, w5_8, e5_10, w5_10, e5_12, w5_12, c5_13, e5_15, w5_15, c5_16, e5_18, w5_18, c5_19, c5_20, c5_21, c5_22, c5_23, e5_25, w5_25, e5_27, w5_27, e5_29, w5_29, c5_30, c5_31, c5_32, c5_33, c5_34, c5_35]
    first | refine callD (example35_ok) ?_ | refine callQD (example35_ok) ?_
    simp -implicitDefEqProofs (disch := omega) only [go_sem, Nat.reduceAdd, Nat.reduceMul, Nat.reduceSub, Nat.reduceBEq, Nat.reduceLeDiff, Nat.reduceLT, fn_transitlaw35_FareGrows, e5_1, w5_1, e5_3, w5_3, c5_4, e5_6, w5_6, e5_8, w5_8, e5_10, w5_10, e5_12, w5_12, c5_13, e5_15, w5_15, c5_16, e5_18, w5_18, c5_19, c5_20, c5_21, c5_22, c5_23, e5_25, w5_25, e5_27, w5_27, e5_29, w5_29, c5_30, c5_31, c5_32, c5_33, c5_34, c5_35]
  obtain ⟨k, rfl⟩ : ∃ k : Nat, n = k := ⟨n.toNat, by omega⟩
  simp -implicitDefEqProofs (disch := omega) only [go_sem, Nat.reduceAdd, Nat.reduceMul, Nat.reduceSub, Nat.reduceBEq, Nat.reduceLeDiff, Nat.reduceLT, fn_transitlaw35_FareGrows, e5_1, w5_1, e5_3, w5_3, c5_4, e5_6, w5_6, e5_8, w5_8, e5_10, w5_10, e5_12, w5_12, c5_13, e5_15, w5_15, c5_16, e5_18, w5_18, c5_19, c5_20, c5_21, c5_22, c5_23, e5_25, w5_25, e5_27, w5_27, e5_29, w5_29, c5_30, c5_31, c5_32, c5_33, c5_34, c5_35]
  refine wpC_for (l.length - 1) (fun i vs M => (∀ j, j < i → ∀ a b, l[j]? = some a → l[j + 1]? = some b → a.depart ≤ b.depart) ∧ vs = [.slice (l.map Ride.row) c, .int .i64 k, .ptr 0 0, .int .i64 ((i : Int) + 1)] ∧ M = [.box f.row]) ⟨fun j hj => absurd hj (Nat.not_lt_zero j), rfl, rfl⟩ ?_ ?_
  rotate_left
  · rintro vs M ⟨hs, rfl, rfl⟩
    simp -implicitDefEqProofs (disch := omega) only [go_sem, Nat.reduceAdd, Nat.reduceMul, Nat.reduceSub, Nat.reduceBEq, Nat.reduceLeDiff, Nat.reduceLT, fn_transitlaw35_FareGrows, e5_1, w5_1, e5_3, w5_3, c5_4, e5_6, w5_6, e5_8, w5_8, e5_10, w5_10, e5_12, w5_12, c5_13, e5_15, w5_15, c5_16, e5_18, w5_18, c5_19, c5_20, c5_21, c5_22, c5_23, e5_25, w5_25, e5_27, w5_27, e5_29, w5_29, c5_30, c5_31, c5_32, c5_33, c5_34, c5_35, Fares.row]
    refine ifD (fun h4 => ?_) (fun h4 => ?_)
    · omega
    have hsort : Sorted l := fun i a b ha hb => hs i (by have := (List.getElem?_eq_some_iff.1 hb).1; omega) a b ha hb
    simp -implicitDefEqProofs (disch := omega) only [go_sem, Nat.reduceAdd, Nat.reduceMul, Nat.reduceSub, Nat.reduceBEq, Nat.reduceLeDiff, Nat.reduceLT, fn_transitlaw35_FareGrows, e5_1, w5_1, e5_3, w5_3, c5_4, e5_6, w5_6, e5_8, w5_8, e5_10, w5_10, e5_12, w5_12, c5_13, e5_15, w5_15, c5_16, e5_18, w5_18, c5_19, c5_20, c5_21, c5_22, c5_23, e5_25, w5_25, e5_27, w5_27, e5_29, w5_29, c5_30, c5_31, c5_32, c5_33, c5_34, c5_35, Fares.row]
    refine callP (fare_Price_ok f l c hf hl) ?_
    rintro v ⟨e, rfl⟩
    simp -implicitDefEqProofs (disch := omega) only [go_sem, Nat.reduceAdd, Nat.reduceMul, Nat.reduceSub, Nat.reduceBEq, Nat.reduceLeDiff, Nat.reduceLT, fn_transitlaw35_FareGrows, e5_1, w5_1, e5_3, w5_3, c5_4, e5_6, w5_6, e5_8, w5_8, e5_10, w5_10, e5_12, w5_12, c5_13, e5_15, w5_15, c5_16, e5_18, w5_18, c5_19, c5_20, c5_21, c5_22, c5_23, e5_25, w5_25, e5_27, w5_27, e5_29, w5_29, c5_30, c5_31, c5_32, c5_33, c5_34, c5_35, fareV, Fares.row, slice_pre l k _ _ (by omega)]
    refine callP (fare_Price_ok f (l.take k) _ hf (take_wf hl)) ?_
    rintro v ⟨e', rfl⟩
    simp -implicitDefEqProofs (disch := omega) only [go_sem, Nat.reduceAdd, Nat.reduceMul, Nat.reduceSub, Nat.reduceBEq, Nat.reduceLeDiff, Nat.reduceLT, fn_transitlaw35_FareGrows, e5_1, w5_1, e5_3, w5_3, c5_4, e5_6, w5_6, e5_8, w5_8, e5_10, w5_10, e5_12, w5_12, c5_13, e5_15, w5_15, c5_16, e5_18, w5_18, c5_19, c5_20, c5_21, c5_22, c5_23, e5_25, w5_25, e5_27, w5_27, e5_29, w5_29, c5_30, c5_31, c5_32, c5_33, c5_34, c5_35, fareV, Fares.row]
    refine ifD (fun h5 => ?_) (fun h5 => ?_)
    · obtain ⟨g1, g2⟩ := grows (k := k) (by omega) hsort h5
      simp -implicitDefEqProofs (disch := omega) only [go_sem, Nat.reduceAdd, Nat.reduceMul, Nat.reduceSub, Nat.reduceBEq, Nat.reduceLeDiff, Nat.reduceLT, fn_transitlaw35_FareGrows, e5_1, w5_1, e5_3, w5_3, c5_4, e5_6, w5_6, e5_8, w5_8, e5_10, w5_10, e5_12, w5_12, c5_13, e5_15, w5_15, c5_16, e5_18, w5_18, c5_19, c5_20, c5_21, c5_22, c5_23, e5_25, w5_25, e5_27, w5_27, e5_29, w5_29, c5_30, c5_31, c5_32, c5_33, c5_34, c5_35, g1]
      refine ifD (fun h6 => ?_) (fun h6 => ?_)
      · first | refine callD (example35_ok) ?_ | refine callQD (example35_ok) ?_
        simp -implicitDefEqProofs (disch := omega) only [go_sem, Nat.reduceAdd, Nat.reduceMul, Nat.reduceSub, Nat.reduceBEq, Nat.reduceLeDiff, Nat.reduceLT, fn_transitlaw35_FareGrows, e5_1, w5_1, e5_3, w5_3, c5_4, e5_6, w5_6, e5_8, w5_8, e5_10, w5_10, e5_12, w5_12, c5_13, e5_15, w5_15, c5_16, e5_18, w5_18, c5_19, c5_20, c5_21, c5_22, c5_23, e5_25, w5_25, e5_27, w5_27, e5_29, w5_29, c5_30, c5_31, c5_32, c5_33, c5_34, c5_35]
      · omega
    · first | refine callD (example35_ok) ?_ | refine callQD (example35_ok) ?_
      simp -implicitDefEqProofs (disch := omega) only [go_sem, Nat.reduceAdd, Nat.reduceMul, Nat.reduceSub, Nat.reduceBEq, Nat.reduceLeDiff, Nat.reduceLT, fn_transitlaw35_FareGrows, e5_1, w5_1, e5_3, w5_3, c5_4, e5_6, w5_6, e5_8, w5_8, e5_10, w5_10, e5_12, w5_12, c5_13, e5_15, w5_15, c5_16, e5_18, w5_18, c5_19, c5_20, c5_21, c5_22, c5_23, e5_25, w5_25, e5_27, w5_27, e5_29, w5_29, c5_30, c5_31, c5_32, c5_33, c5_34, c5_35]
  rintro i vs M hi hid ⟨hs, rfl, rfl⟩
  obtain ⟨a, ha⟩ : ∃ a, l[i]? = some a := ⟨l[i], by simp⟩
  obtain ⟨b, hb⟩ : ∃ b, l[i + 1]? = some b := ⟨l[i + 1], by simp⟩
  have e1 : (i : Int) + 1 - 1 = i := by omega
  simp -implicitDefEqProofs (disch := omega) only [go_sem, Nat.reduceAdd, Nat.reduceMul, Nat.reduceSub, Nat.reduceBEq, Nat.reduceLeDiff, Nat.reduceLT, fn_transitlaw35_FareGrows, e5_1, w5_1, e5_3, w5_3, c5_4, e5_6, w5_6, e5_8, w5_8, e5_10, w5_10, e5_12, w5_12, c5_13, e5_15, w5_15, c5_16, e5_18, w5_18, c5_19, c5_20, c5_21, c5_22, c5_23, e5_25, w5_25, e5_27, w5_27, e5_29, w5_29, c5_30, c5_31, c5_32, c5_33, c5_34, c5_35, Fares.row]
  refine ifD (fun h4 => ?_) (fun h4 => ?_)
  rotate_left
  · omega
  simp -implicitDefEqProofs (disch := omega) only [go_sem, Nat.reduceAdd, Nat.reduceMul, Nat.reduceSub, Nat.reduceBEq, Nat.reduceLeDiff, Nat.reduceLT, fn_transitlaw35_FareGrows, e5_1, w5_1, e5_3, w5_3, c5_4, e5_6, w5_6, e5_8, w5_8, e5_10, w5_10, e5_12, w5_12, c5_13, e5_15, w5_15, c5_16, e5_18, w5_18, c5_19, c5_20, c5_21, c5_22, c5_23, e5_25, w5_25, e5_27, w5_27, e5_29, w5_29, c5_30, c5_31, c5_32, c5_33, c5_34, c5_35, Fares.row, e1, ha, hb, Ride.row]
  refine ifD (fun h5 => ?_) (fun h5 => ?_)
  · simp -implicitDefEqProofs (disch := omega) only [go_sem, Nat.reduceAdd, Nat.reduceMul, Nat.reduceSub, Nat.reduceBEq, Nat.reduceLeDiff, Nat.reduceLT, fn_transitlaw35_FareGrows, e5_1, w5_1, e5_3, w5_3, c5_4, e5_6, w5_6, e5_8, w5_8, e5_10, w5_10, e5_12, w5_12, c5_13, e5_15, w5_15, c5_16, e5_18, w5_18, c5_19, c5_20, c5_21, c5_22, c5_23, e5_25, w5_25, e5_27, w5_27, e5_29, w5_29, c5_30, c5_31, c5_32, c5_33, c5_34, c5_35]
    first | refine callD (example35_ok) ?_ | refine callQD (example35_ok) ?_
    simp -implicitDefEqProofs (disch := omega) only [go_sem, Nat.reduceAdd, Nat.reduceMul, Nat.reduceSub, Nat.reduceBEq, Nat.reduceLeDiff, Nat.reduceLT, fn_transitlaw35_FareGrows, e5_1, w5_1, e5_3, w5_3, c5_4, e5_6, w5_6, e5_8, w5_8, e5_10, w5_10, e5_12, w5_12, c5_13, e5_15, w5_15, c5_16, e5_18, w5_18, c5_19, c5_20, c5_21, c5_22, c5_23, e5_25, w5_25, e5_27, w5_27, e5_29, w5_29, c5_30, c5_31, c5_32, c5_33, c5_34, c5_35, Fares.row]
  simp -implicitDefEqProofs (disch := omega) only [go_sem, Nat.reduceAdd, Nat.reduceMul, Nat.reduceSub, Nat.reduceBEq, Nat.reduceLeDiff, Nat.reduceLT, fn_transitlaw35_FareGrows, e5_1, w5_1, e5_3, w5_3, c5_4, e5_6, w5_6, e5_8, w5_8, e5_10, w5_10, e5_12, w5_12, c5_13, e5_15, w5_15, c5_16, e5_18, w5_18, c5_19, c5_20, c5_21, c5_22, c5_23, e5_25, w5_25, e5_27, w5_27, e5_29, w5_29, c5_30, c5_31, c5_32, c5_33, c5_34, c5_35]
  refine next_stay hi ⟨?_, ?_, rfl⟩
  · intro j hj x y hx hy
    rcases Nat.lt_or_ge j i with h6 | h6
    · exact hs j h6 x y hx hy
    · have : j = i := by omega
      subst this
      rw [ha] at hx; rw [hb] at hy
      simp only [Option.some.injEq] at hx hy
      subst hx; subst hy
      omega
  · simp only [vals, sget]; rfl

end Go.Vm.C

