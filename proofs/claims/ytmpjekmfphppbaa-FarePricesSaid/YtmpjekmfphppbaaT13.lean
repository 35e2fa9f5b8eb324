/- The statements FareJoins and FareExists. -/
import Derived.Test.YtmpjekmfphppbaaT12

namespace Go.Vm.C
open Go.Vm
set_option maxHeartbeats 1000000
set_option maxRecDepth 10000
set_option linter.unusedSimpArgs false
set_option linter.unusedVariables false

theorem capped_add {f : Fares} {n a b : Int} (h0 : 0 ≤ f.limit) (ha : 0 ≤ a) (hb : 0 ≤ b) (h : n ≤ a + b) : capped f n ≤ capped f a + capped f b := by
  unfold capped
  split <;> split <;> split <;> omega
theorem capped_range {f : Fares} {a : Int} (h0 : 0 ≤ f.limit) (ha : 0 ≤ a) : 0 ≤ capped f a ∧ capped f a ≤ a := by
  unfold capped
  split <;> omega

theorem joins {f : Fares} {l : List Ride} {k : Nat} (hk : k ≤ l.length) (hlen : l.length ≤ 8) (h1 : (fareRes f (l.take k)).2.2 = 0) (h2 : (fareRes f (l.drop k)).2.2 = 0) :
    (fareRes f l).2.2 = 0 ∧ 0 ≤ (fareRes f (l.take k)).1 ∧ (fareRes f (l.take k)).1 ≤ 1073741824 ∧ 0 ≤ (fareRes f (l.drop k)).1 ∧ (fareRes f (l.drop k)).1 ≤ 1073741824 ∧ (fareRes f l).1 ≤ (fareRes f (l.take k)).1 + (fareRes f (l.drop k)).1 := by
  obtain ⟨hv1, d1, hd1, hr1⟩ := fareRes_ok h1
  obtain ⟨hv2, d2, hd2, hr2⟩ := fareRes_ok h2
  obtain ⟨hc, _⟩ := validRes_zero.1 hv1
  have hok := checkRes_ok hc
  have hD1 := best_div (by omega) hd1
  have hD2 := best_div (by omega) hd2
  have m1 := div_mild hok _ _ hD1
  have m2 := div_mild hok _ _ hD2
  rw [List.length_take] at m1
  rw [List.length_drop] at m2
  obtain ⟨e, e1, e2⟩ := div_rest hok d2 0 hD2 (by omega)
  obtain ⟨d', e3, e4⟩ := div_join e1 (by omega) d1 0 hD1
  obtain ⟨d'', e5, e6⟩ := best_min d' 0 e3
  have hv : validRes f l.length = 0 := validRes_zero.2 ⟨hc, hlen⟩
  rw [hr1, hr2, fareRes_best hv e5]
  have c1 := capped_range (f := f) hok.limit.1 m1.1
  have c2 := capped_range (f := f) hok.limit.1 m2.1
  refine ⟨rfl, c1.1, ?_, c2.1, ?_, capped_add hok.limit.1 m1.1 m2.1 (by omega)⟩
  · simp only; omega
  · simp only; omega

theorem FareJoins_law (f : Fares) (l : List Ride) (c : Cap) (n : Int) (hf : f.wf) (hl : ∀ r ∈ l, r.wf) (hlen : l.length ≤ maxLen) :
    PCalls PR i_transitlaw35_FareJoins [.agg f.row, .slice (l.map Ride.row) c, .int .i64 n] (fun v => v = .bool true) := by
  have hm : maxLen = 9223372036854775807 := by rfl
  refine acalls_pop fn_transitlaw35_FareJoins_ok (by simp [fn_transitlaw35_FareJoins]) ?_
  simp -implicitDefEqProofs (disch := omega) only [go_sem, Nat.reduceAdd, Nat.reduceMul, Nat.reduceSub, Nat.reduceBEq, Nat.reduceLeDiff, Nat.reduceLT, fn_transitlaw35_FareJoins, e6_1, w6_1, e6_3, w6_3, c6_4, e6_6, w6_6, e6_8, w6_8, e6_10, w6_10, e6_12, w6_12, e6_14, w6_14, c6_15, e6_17, w6_17, e6_19, w6_19, c6_20, c6_21, c6_22, c6_23, c6_24, c6_25, c6_26, Fares.row]
  first | refine callD (small_ok f l c hf) ?_ | refine callQD (small_ok f l c hf) ?_
  simp -implicitDefEqProofs (disch := omega) only [go_sem, Nat.reduceAdd, Nat.reduceMul, Nat.reduceSub, Nat.reduceBEq, Nat.reduceLeDiff, Nat.reduceLT, fn_transitlaw35_FareJoins, e6_1, w6_1, e6_3, w6_3, c6_4, e6_6, w6_6, e6_8, w6_8, e6_10, w6_10, e6_12, w6_12, e6_14, w6_14, c6_15, e6_17, w6_17, e6_19, w6_19, c6_20, c6_21, c6_22, c6_23, c6_24, c6_25, c6_26]
  refine ifB (fun h1 => ?_) (fun h1 => ?_)
  rotate_left
  · simp -implicitDefEqProofs (disch := omega) only [go_sem, Nat.reduceAdd, Nat.reduceMul, Nat.reduceSub, Nat.reduceBEq, Nat.reduceLeDiff, Nat.reduceLT, fn_transitlaw35_FareJoins, e6_1, w6_1, e6_3, w6_3, c6_4, e6_6, w6_6, e6_8, w6_8, e6_10, w6_10, e6_12, w6_12, e6_14, w6_14, c6_15, e6_17, w6_17, e6_19, w6_19, c6_20, c6_21, c6_22, c6_23, c6_24, c6_25, c6_26]
    first | refine callD (example35_ok) ?_ | refine callQD (example35_ok) ?_
    simp -implicitDefEqProofs (disch := omega) only [go_sem, Nat.reduceAdd, Nat.reduceMul, Nat.reduceSub, Nat.reduceBEq, Nat.reduceLeDiff, Nat.reduceLT, fn_transitlaw35_FareJoins, e6_1, w6_1, e6_3, w6_3, c6_4, e6_6, w6_6, e6_8, w6_8, e6_10, w6_10, e6_12, w6_12, e6_14, w6_14, c6_15, e6_17, w6_17, e6_19, w6_19, c6_20, c6_21, c6_22, c6_23, c6_24, c6_25, c6_26]
  simp -implicitDefEqProofs (disch := omega) only [go_sem, Nat.reduceAdd, Nat.reduceMul, Nat.reduceSub, Nat.reduceBEq, Nat.reduceLeDiff, Nat.reduceLT, fn_transitlaw35_FareJoins, e6_1, w6_1, e6_3, w6_3, c6_4, e6_6, w6_6, e6_8, w6_8, e6_10, w6_10, e6_12, w6_12, e6_14, w6_14, c6_15, e6_17, w6_17, e6_19, w6_19, c6_20, c6_21, c6_22, c6_23, c6_24, c6_25, c6_26]
  refine ifD (fun h2 => ?_) (fun h2 => ?_)
  · simp -implicitDefEqProofs (disch := omega) only [go_sem, Nat.reduceAdd, Nat.reduceMul, Nat.reduceSub, Nat.reduceBEq, Nat.reduceLeDiff, Nat.reduceLT, fn_transitlaw35_FareJoins, e6_1, w6_1, e6_3, w6_3, c6_4, e6_6, w6_6, e6_8, w6_8, e6_10, w6_10, e6_12, w6_12, e6_14, w6_14, c6_15, e6_17, w6_17, e6_19, w6_19, c6_20, c6_21, c6_22, c6_23, c6_24, c6_25, c6_26]
    first | refine callD (example35_ok) ?_ | refine callQD (example35_ok) ?_
    simp -implicitDefEqProofs (disch := omega) only [go_sem, Nat.reduceAdd, Nat.reduceMul, Nat.reduceSub, Nat.reduceBEq, Nat.reduceLeDiff, Nat.reduceLT, fn_transitlaw35_FareJoins, e6_1, w6_1, e6_3, w6_3, c6_4, e6_6, w6_6, e6_8, w6_8, e6_10, w6_10, e6_12, w6_12, e6_14, w6_14, c6_15, e6_17, w6_17, e6_19, w6_19, c6_20, c6_21, c6_22, c6_23, c6_24, c6_25, c6_26]
  simp -implicitDefEqProofs (disch := omega) only [go_sem, Nat.reduceAdd, Nat.reduceMul, Nat.reduceSub, Nat.reduceBEq, Nat.reduceLeDiff, Nat.reduceLT, fn_transitlaw35_FareJoins, e6_1, w6_1, e6_3, w6_3, c6_4, e6_6, w6_6, e6_8, w6_8, e6_10, w6_10, e6_12, w6_12, e6_14, w6_14, c6_15, e6_17, w6_17, e6_19, w6_19, c6_20, c6_21, c6_22, c6_23, c6_24, c6_25, c6_26]
  refine ifD (fun h3 => ?_) (fun h3 => ?_)
  · simp -implicitDefEqProofs (disch := omega) only [go_sem, Nat.reduceAdd, Nat.reduceMul, Nat.reduceSub, Nat.reduceBEq, Nat.reduceLeDiff, Nat.reduceLT, fn_transitlaw35_FareJoins, e6_1, w6_1, e6_3, w6_3, c6_4, e6_6, w6_6, e6_8, w6_8, e6_10, w6_10, e6_12, w6_12, e6_14, w6_14, c6_15, e6_17, w6_17, e6_19, w6_19, c6_20, c6_21, c6_22, c6_23, c6_24, c6_25, c6_26]
    first | refine callD (example35_ok) ?_ | refine callQD (example35_ok) ?_
    simp -implicitDefEqProofs (disch := omega) only [go_sem, Nat.reduceAdd, Nat.reduceMul, Nat.reduceSub, Nat.reduceBEq, Nat.reduceLeDiff, Nat.reduceLT, fn_transitlaw35_FareJoins, e6_1, w6_1, e6_3, w6_3, c6_4, e6_6, w6_6, e6_8, w6_8, e6_10, w6_10, e6_12, w6_12, e6_14, w6_14, c6_15, e6_17, w6_17, e6_19, w6_19, c6_20, c6_21, c6_22, c6_23, c6_24, c6_25, c6_26]
  simp -implicitDefEqProofs (disch := omega) only [go_sem, Nat.reduceAdd, Nat.reduceMul, Nat.reduceSub, Nat.reduceBEq, Nat.reduceLeDiff, Nat.reduceLT, fn_transitlaw35_FareJoins, e6_1, w6_1, e6_3, w6_3, c6_4, e6_6, w6_6, e6_8, w6_8, e6_10, w6_10, e6_12, w6_12, e6_14, w6_14, c6_15, e6_17, w6_17, e6_19, w6_19, c6_20, c6_21, c6_22, c6_23, c6_24, c6_25, c6_26]
  refine ifD (fun h4 => ?_) (fun h4 => ?_)
  · simp -implicitDefEqProofs (disch := omega) only [go_sem, Nat.reduceAdd, Nat.reduceMul, Nat.reduceSub, Nat.reduceBEq, Nat.reduceLeDiff, Nat.reduceLT, fn_transitlaw35_FareJoins, e6_1, w6_1, e6_3, w6_3, c6_4, e6_6, w6_6, e6_8, w6_8, e6_10, w6_10, e6_12, w6_12, e6_14, w6_14, c6_15, e6_17, w6_17, e6_19, w6_19, c6_20, c6_21, c6_22, c6_23, c6_24, c6_25, c6_26]
    first | refine callD (example35_ok) ?_ | refine callQD (example35_ok) ?_
    simp -implicitDefEqProofs (disch := omega) only [go_sem, Nat.reduceAdd, Nat.reduceMul, Nat.reduceSub, Nat.reduceBEq, Nat.reduceLeDiff, Nat.reduceLT, fn_transitlaw35_FareJoins, e6_1, w6_1, e6_3, w6_3, c6_4, e6_6, w6_6, e6_8, w6_8, e6_10, w6_10, e6_12, w6_12, e6_14, w6_14, c6_15, e6_17, w6_17, e6_19, w6_19, c6_20, c6_21, c6_22, c6_23, c6_24, c6_25, c6_26]
  obtain ⟨k, rfl⟩ : ∃ k : Nat, n = k := ⟨n.toNat, by omega⟩
  simp -implicitDefEqProofs (disch := omega) only [go_sem, Nat.reduceAdd, Nat.reduceMul, Nat.reduceSub, Nat.reduceBEq, Nat.reduceLeDiff, Nat.reduceLT, fn_transitlaw35_FareJoins, e6_1, w6_1, e6_3, w6_3, c6_4, e6_6, w6_6, e6_8, w6_8, e6_10, w6_10, e6_12, w6_12, e6_14, w6_14, c6_15, e6_17, w6_17, e6_19, w6_19, c6_20, c6_21, c6_22, c6_23, c6_24, c6_25, c6_26, Fares.row]
  refine callP (fare_Price_ok f l c hf hl) ?_
  rintro v ⟨e, rfl⟩
  simp -implicitDefEqProofs (disch := omega) only [go_sem, Nat.reduceAdd, Nat.reduceMul, Nat.reduceSub, Nat.reduceBEq, Nat.reduceLeDiff, Nat.reduceLT, fn_transitlaw35_FareJoins, e6_1, w6_1, e6_3, w6_3, c6_4, e6_6, w6_6, e6_8, w6_8, e6_10, w6_10, e6_12, w6_12, e6_14, w6_14, c6_15, e6_17, w6_17, e6_19, w6_19, c6_20, c6_21, c6_22, c6_23, c6_24, c6_25, c6_26, fareV, Fares.row, slice_pre l k _ _ (by omega)]
  refine callP (fare_Price_ok f (l.take k) _ hf (take_wf hl)) ?_
  rintro v ⟨e', rfl⟩
  obtain ⟨c', hc'⟩ := slice_post l k c [.box f.row] (by omega)
  simp only [Fares.row] at hc'
  simp -implicitDefEqProofs (disch := omega) only [go_sem, Nat.reduceAdd, Nat.reduceMul, Nat.reduceSub, Nat.reduceBEq, Nat.reduceLeDiff, Nat.reduceLT, fn_transitlaw35_FareJoins, e6_1, w6_1, e6_3, w6_3, c6_4, e6_6, w6_6, e6_8, w6_8, e6_10, w6_10, e6_12, w6_12, e6_14, w6_14, c6_15, e6_17, w6_17, e6_19, w6_19, c6_20, c6_21, c6_22, c6_23, c6_24, c6_25, c6_26, fareV, Fares.row, hc']
  refine callP (fare_Price_ok f (l.drop k) _ hf (drop_wf hl)) ?_
  rintro v ⟨e'', rfl⟩
  simp -implicitDefEqProofs (disch := omega) only [go_sem, Nat.reduceAdd, Nat.reduceMul, Nat.reduceSub, Nat.reduceBEq, Nat.reduceLeDiff, Nat.reduceLT, fn_transitlaw35_FareJoins, e6_1, w6_1, e6_3, w6_3, c6_4, e6_6, w6_6, e6_8, w6_8, e6_10, w6_10, e6_12, w6_12, e6_14, w6_14, c6_15, e6_17, w6_17, e6_19, w6_19, c6_20, c6_21, c6_22, c6_23, c6_24, c6_25, c6_26, fareV, Fares.row]
  refine ifD (fun h5 => ?_) (fun h5 => ?_)
  rotate_left
  · simp -implicitDefEqProofs (disch := omega) only [go_sem, Nat.reduceAdd, Nat.reduceMul, Nat.reduceSub, Nat.reduceBEq, Nat.reduceLeDiff, Nat.reduceLT, fn_transitlaw35_FareJoins, e6_1, w6_1, e6_3, w6_3, c6_4, e6_6, w6_6, e6_8, w6_8, e6_10, w6_10, e6_12, w6_12, e6_14, w6_14, c6_15, e6_17, w6_17, e6_19, w6_19, c6_20, c6_21, c6_22, c6_23, c6_24, c6_25, c6_26]
    first | refine callD (example35_ok) ?_ | refine callQD (example35_ok) ?_
    simp -implicitDefEqProofs (disch := omega) only [go_sem, Nat.reduceAdd, Nat.reduceMul, Nat.reduceSub, Nat.reduceBEq, Nat.reduceLeDiff, Nat.reduceLT, fn_transitlaw35_FareJoins, e6_1, w6_1, e6_3, w6_3, c6_4, e6_6, w6_6, e6_8, w6_8, e6_10, w6_10, e6_12, w6_12, e6_14, w6_14, c6_15, e6_17, w6_17, e6_19, w6_19, c6_20, c6_21, c6_22, c6_23, c6_24, c6_25, c6_26]
  simp -implicitDefEqProofs (disch := omega) only [go_sem, Nat.reduceAdd, Nat.reduceMul, Nat.reduceSub, Nat.reduceBEq, Nat.reduceLeDiff, Nat.reduceLT, fn_transitlaw35_FareJoins, e6_1, w6_1, e6_3, w6_3, c6_4, e6_6, w6_6, e6_8, w6_8, e6_10, w6_10, e6_12, w6_12, e6_14, w6_14, c6_15, e6_17, w6_17, e6_19, w6_19, c6_20, c6_21, c6_22, c6_23, c6_24, c6_25, c6_26]
  refine ifD (fun h6 => ?_) (fun h6 => ?_)
  rotate_left
  · simp -implicitDefEqProofs (disch := omega) only [go_sem, Nat.reduceAdd, Nat.reduceMul, Nat.reduceSub, Nat.reduceBEq, Nat.reduceLeDiff, Nat.reduceLT, fn_transitlaw35_FareJoins, e6_1, w6_1, e6_3, w6_3, c6_4, e6_6, w6_6, e6_8, w6_8, e6_10, w6_10, e6_12, w6_12, e6_14, w6_14, c6_15, e6_17, w6_17, e6_19, w6_19, c6_20, c6_21, c6_22, c6_23, c6_24, c6_25, c6_26]
    first | refine callD (example35_ok) ?_ | refine callQD (example35_ok) ?_
    simp -implicitDefEqProofs (disch := omega) only [go_sem, Nat.reduceAdd, Nat.reduceMul, Nat.reduceSub, Nat.reduceBEq, Nat.reduceLeDiff, Nat.reduceLT, fn_transitlaw35_FareJoins, e6_1, w6_1, e6_3, w6_3, c6_4, e6_6, w6_6, e6_8, w6_8, e6_10, w6_10, e6_12, w6_12, e6_14, w6_14, c6_15, e6_17, w6_17, e6_19, w6_19, c6_20, c6_21, c6_22, c6_23, c6_24, c6_25, c6_26]
  obtain ⟨g1, g2, g3, g4, g5, g6⟩ := joins (k := k) (by omega) (by omega) h5 h6
  simp -implicitDefEqProofs (disch := omega) only [go_sem, Nat.reduceAdd, Nat.reduceMul, Nat.reduceSub, Nat.reduceBEq, Nat.reduceLeDiff, Nat.reduceLT, fn_transitlaw35_FareJoins, e6_1, w6_1, e6_3, w6_3, c6_4, e6_6, w6_6, e6_8, w6_8, e6_10, w6_10, e6_12, w6_12, e6_14, w6_14, c6_15, e6_17, w6_17, e6_19, w6_19, c6_20, c6_21, c6_22, c6_23, c6_24, c6_25, c6_26, g1]
  refine ifD (fun h7 => ?_) (fun h7 => ?_)
  rotate_left
  · omega
  refine ifD (fun h7 => ?_) (fun h7 => ?_)
  rotate_left
  · omega
  refine ifD (fun h7 => ?_) (fun h7 => ?_)
  rotate_left
  · omega
  refine ifD (fun h7 => ?_) (fun h7 => ?_)
  rotate_left
  · omega
  simp -implicitDefEqProofs (disch := omega) only [go_sem, Nat.reduceAdd, Nat.reduceMul, Nat.reduceSub, Nat.reduceBEq, Nat.reduceLeDiff, Nat.reduceLT, fn_transitlaw35_FareJoins, e6_1, w6_1, e6_3, w6_3, c6_4, e6_6, w6_6, e6_8, w6_8, e6_10, w6_10, e6_12, w6_12, e6_14, w6_14, c6_15, e6_17, w6_17, e6_19, w6_19, c6_20, c6_21, c6_22, c6_23, c6_24, c6_25, c6_26]
  refine ifD (fun h7 => ?_) (fun h7 => ?_)
  rotate_left
  · omega
  first | refine callD (example35_ok) ?_ | refine callQD (example35_ok) ?_
  simp -implicitDefEqProofs (disch := omega) only [go_sem, Nat.reduceAdd, Nat.reduceMul, Nat.reduceSub, Nat.reduceBEq, Nat.reduceLeDiff, Nat.reduceLT, fn_transitlaw35_FareJoins, e6_1, w6_1, e6_3, w6_3, c6_4, e6_6, w6_6, e6_8, w6_8, e6_10, w6_10, e6_12, w6_12, e6_14, w6_14, c6_15, e6_17, w6_17, e6_19, w6_19, c6_20, c6_21, c6_22, c6_23, c6_24, c6_25, c6_26]

theorem fareRes_bad {f : Fares} {l : List Ride} (h : (checkRes f).2 ≠ 0) : fareRes f l = (0, [], 20) := by
  have : validRes f l.length = 20 := by rw [validRes, if_pos h]
  rw [fareRes, if_pos (by simp [this]), this]
theorem fareRes_cases {f : Fares} {l : List Ride} (h : (checkRes f).2 = 0) (hlen : l.length ≤ 8) : ((fareRes f l).2.2 = 0 ∧ ∃ d, best f l 0 = some d) ∨ ((fareRes f l).2.2 = 34 ∧ ¬ ∃ d, best f l 0 = some d) := by
  rw [fareRes_valid (validRes_zero.2 ⟨h, hlen⟩)]
  cases hb : best f l 0 with
  | none => exact .inr ⟨rfl, by rintro ⟨d, h⟩; simp at h⟩
  | some d => exact .inl ⟨rfl, d, rfl⟩
theorem part_one {l : List Ride} {j : Nat} : part l j j = (l.drop j).take 1 := by
  have : j + 1 - j = 1 := by omega
  unfold part
  rw [this]

theorem exists_iff {f : Fares} {l : List Ride} (hc : (checkRes f).2 = 0) (hlen : l.length ≤ 8) : (fareRes f l).2.2 = 0 ↔ ∀ j, j < l.length → (fareRes f (part l j j)).2.2 = 0 := by
  have hok := checkRes_ok hc
  have key : ∀ j, j < l.length → ((fareRes f (part l j j)).2.2 = 0 ↔ ∃ (p : Nat) (q : Product), f.products[p]? = some q ∧ covers q (part l j j) = true) := by
    intro j hj
    rw [part_one, ← part_one, ← single_iff hj, ← part_one]
    rcases fareRes_cases (l := part l j j) hc (by rw [part_len (by omega)]; omega) with ⟨h1, h2⟩ | ⟨h1, h2⟩
    · exact ⟨fun _ => h2, fun _ => h1⟩
    · exact ⟨fun h => absurd h (by rw [h1]; omega), fun h => absurd h h2⟩
  constructor
  · intro h j hj
    obtain ⟨hv, d, hd, _⟩ := fareRes_ok h
    exact (key j hj).2 (div_all hok d 0 (best_div (by omega) hd) j (by omega) hj)
  · intro h
    obtain ⟨d, hd⟩ := div_singles (f := f) (l := l) (fun j hj => (key j hj).1 (h j hj)) l.length 0 (by omega)
    obtain ⟨d', h1, _⟩ := best_min d 0 hd
    rw [fareRes_best (validRes_zero.2 ⟨hc, hlen⟩) h1]

theorem FareExists_law (f : Fares) (l : List Ride) (c : Cap) (hf : f.wf) (hl : ∀ r ∈ l, r.wf) (hlen : l.length ≤ maxLen) :
    PCalls PR i_transitlaw35_FareExists [.agg f.row, .slice (l.map Ride.row) c] (fun v => v = .bool true) := by
  have hm : maxLen = 9223372036854775807 := by rfl
  refine acalls_pop fn_transitlaw35_FareExists_ok (by simp [fn_transitlaw35_FareExists]) ?_
  simp -implicitDefEqProofs (disch := omega) only [go_sem, Nat.reduceAdd, Nat.reduceMul, Nat.reduceSub, Nat.reduceBEq, Nat.reduceLeDiff, Nat.reduceLT, fn_transitlaw35_FareExists, e4_1, w4_1, e4_3, w4_3, c4_4, e4_6, w4_6, e4_8, w4_8, e4_10, w4_10, e4_12, w4_12, e4_14, w4_14, c4_15, e4_17, w4_17, e4_19, w4_19, e4_21, w4_21, c4_22, e4_24, w4_24, e4_26, w4_26, c4_27, c4_28, c4_29, c4_30, e4_32, w4_32, c4_33, c4_34, c4_35, c4_36, c4_37, c4_38, e4_40, w4_40, c4_41, e4_43, w4_43, e4_45, w4_45, c4_46, c4_47, c4_48, c4_49, c4_50, c4_51, c4_52, Fares.row]
  first | refine callD (small_ok f l c hf) ?_ | refine callQD (small_ok f l c hf) ?_
  simp -implicitDefEqProofs (disch := omega) only [go_sem, Nat.reduceAdd, Nat.reduceMul, Nat.reduceSub, Nat.reduceBEq, Nat.reduceLeDiff, Nat.reduceLT, fn_transitlaw35_FareExists, e4_1, w4_1, e4_3, w4_3, c4_4, e4_6, w4_6, e4_8, w4_8, e4_10, w4_10, e4_12, w4_12, e4_14, w4_14, c4_15, e4_17, w4_17, e4_19, w4_19, e4_21, w4_21, c4_22, e4_24, w4_24, e4_26, w4_26, c4_27, c4_28, c4_29, c4_30, e4_32, w4_32, c4_33, c4_34, c4_35, c4_36, c4_37, c4_38, e4_40, w4_40, c4_41, e4_43, w4_43, e4_45, w4_45, c4_46, c4_47, c4_48, c4_49, c4_50, c4_51, c4_52]
  refine ifB (fun h1 => ?_) (fun h1 => ?_)
  rotate_left
  · simp -implicitDefEqProofs (disch := omega) only [go_sem, Nat.reduceAdd, Nat.reduceMul, Nat.reduceSub, Nat.reduceBEq, Nat.reduceLeDiff, Nat.reduceLT, fn_transitlaw35_FareExists, e4_1, w4_1, e4_3, w4_3, c4_4, e4_6, w4_6, e4_8, w4_8, e4_10, w4_10, e4_12, w4_12, e4_14, w4_14, c4_15, e4_17, w4_17, e4_19, w4_19, e4_21, w4_21, c4_22, e4_24, w4_24, e4_26, w4_26, c4_27, c4_28, c4_29, c4_30, e4_32, w4_32, c4_33, c4_34, c4_35, c4_36, c4_37, c4_38, e4_40, w4_40, c4_41, e4_43, w4_43, e4_45, w4_45, c4_46, c4_47, c4_48, c4_49, c4_50, c4_51, c4_52]
    first | refine callD (example35_ok) ?_ | refine callQD (example35_ok) ?_
    simp -implicitDefEqProofs (disch := omega) only [go_sem, Nat.reduceAdd, Nat.reduceMul, Nat.reduceSub, Nat.reduceBEq, Nat.reduceLeDiff, Nat.reduceLT, fn_transitlaw35_FareExists, e4_1, w4_1, e4_3, w4_3, c4_4, e4_6, w4_6, e4_8, w4_8, e4_10, w4_10, e4_12, w4_12, e4_14, w4_14, c4_15, e4_17, w4_17, e4_19, w4_19, e4_21, w4_21, c4_22, e4_24, w4_24, e4_26, w4_26, c4_27, c4_28, c4_29, c4_30, e4_32, w4_32, c4_33, c4_34, c4_35, c4_36, c4_37, c4_38, e4_40, w4_40, c4_41, e4_43, w4_43, e4_45, w4_45, c4_46, c4_47, c4_48, c4_49, c4_50, c4_51, c4_52]
  simp -implicitDefEqProofs (disch := omega) only [go_sem, Nat.reduceAdd, Nat.reduceMul, Nat.reduceSub, Nat.reduceBEq, Nat.reduceLeDiff, Nat.reduceLT, fn_transitlaw35_FareExists, e4_1, w4_1, e4_3, w4_3, c4_4, e4_6, w4_6, e4_8, w4_8, e4_10, w4_10, e4_12, w4_12, e4_14, w4_14, c4_15, e4_17, w4_17, e4_19, w4_19, e4_21, w4_21, c4_22, e4_24, w4_24, e4_26, w4_26, c4_27, c4_28, c4_29, c4_30, e4_32, w4_32, c4_33, c4_34, c4_35, c4_36, c4_37, c4_38, e4_40, w4_40, c4_41, e4_43, w4_43, e4_45, w4_45, c4_46, c4_47, c4_48, c4_49, c4_50, c4_51, c4_52]
  refine ifD (fun h2 => ?_) (fun h2 => ?_)
  · simp -implicitDefEqProofs (disch := omega) only [go_sem, Nat.reduceAdd, Nat.reduceMul, Nat.reduceSub, Nat.reduceBEq, Nat.reduceLeDiff, Nat.reduceLT, fn_transitlaw35_FareExists, e4_1, w4_1, e4_3, w4_3, c4_4, e4_6, w4_6, e4_8, w4_8, e4_10, w4_10, e4_12, w4_12, e4_14, w4_14, c4_15, e4_17, w4_17, e4_19, w4_19, e4_21, w4_21, c4_22, e4_24, w4_24, e4_26, w4_26, c4_27, c4_28, c4_29, c4_30, e4_32, w4_32, c4_33, c4_34, c4_35, c4_36, c4_37, c4_38, e4_40, w4_40, c4_41, e4_43, w4_43, e4_45, w4_45, c4_46, c4_47, c4_48, c4_49, c4_50, c4_51, c4_52]
    first | refine callD (example35_ok) ?_ | refine callQD (example35_ok) ?_
    simp -implicitDefEqProofs (disch := omega) only [go_sem, Nat.reduceAdd, Nat.reduceMul, Nat.reduceSub, Nat.reduceBEq, Nat.reduceLeDiff, Nat.reduceLT, fn_transitlaw35_FareExists, e4_1, w4_1, e4_3, w4_3, c4_4, e4_6, w4_6, e4_8, w4_8, e4_10, w4_10, e4_12, w4_12, e4_14, w4_14, c4_15, e4_17, w4_17, e4_19, w4_19, e4_21, w4_21, c4_22, e4_24, w4_24, e4_26, w4_26, c4_27, c4_28, c4_29, c4_30, e4_32, w4_32, c4_33, c4_34, c4_35, c4_36, c4_37, c4_38, e4_40, w4_40, c4_41, e4_43, w4_43, e4_45, w4_45, c4_46, c4_47, c4_48, c4_49, c4_50, c4_51, c4_52]
  simp -implicitDefEqProofs (disch := omega) only [go_sem, Nat.reduceAdd, Nat.reduceMul, Nat.reduceSub, Nat.reduceBEq, Nat.reduceLeDiff, Nat.reduceLT, fn_transitlaw35_FareExists, e4_1, w4_1, e4_3, w4_3, c4_4, e4_6, w4_6, e4_8, w4_8, e4_10, w4_10, e4_12, w4_12, e4_14, w4_14, c4_15, e4_17, w4_17, e4_19, w4_19, e4_21, w4_21, c4_22, e4_24, w4_24, e4_26, w4_26, c4_27, c4_28, c4_29, c4_30, e4_32, w4_32, c4_33, c4_34, c4_35, c4_36, c4_37, c4_38, e4_40, w4_40, c4_41, e4_43, w4_43, e4_45, w4_45, c4_46, c4_47, c4_48, c4_49, c4_50, c4_51, c4_52, Fares.row]
  refine callP (fare_Price_ok f l c hf hl) ?_
  rintro v ⟨e, rfl⟩
  simp -implicitDefEqProofs (disch := omega) only [go_sem, Nat.reduceAdd, Nat.reduceMul, Nat.reduceSub, Nat.reduceBEq, Nat.reduceLeDiff, Nat.reduceLT, fn_transitlaw35_FareExists, e4_1, w4_1, e4_3, w4_3, c4_4, e4_6, w4_6, e4_8, w4_8, e4_10, w4_10, e4_12, w4_12, e4_14, w4_14, c4_15, e4_17, w4_17, e4_19, w4_19, e4_21, w4_21, c4_22, e4_24, w4_24, e4_26, w4_26, c4_27, c4_28, c4_29, c4_30, e4_32, w4_32, c4_33, c4_34, c4_35, c4_36, c4_37, c4_38, e4_40, w4_40, c4_41, e4_43, w4_43, e4_45, w4_45, c4_46, c4_47, c4_48, c4_49, c4_50, c4_51, c4_52, fareV, Fares.row]
  refine wpC_for l.length (fun i vs M => ∃ b : Bool, (b = true ↔ ∀ j, j < i → (fareRes f (part l j j)).2.2 = 0) ∧ (0 < i → (checkRes f).2 = 0) ∧
      vs = [.slice (l.map Ride.row) c, .ptr 0 0, .int .i64 (fareRes f l).2.2, .bool b, .int .i64 l.length, .int .i64 i] ∧ M = [.box f.row]) ⟨true, by simp, fun h => absurd h (Nat.lt_irrefl 0), rfl, rfl⟩ ?_ ?_
  rotate_left
  · rintro vs M ⟨b, hb, hc, rfl, rfl⟩
    by_cases hcheck : (checkRes f).2 = 0
    · have hiff := exists_iff (l := l) hcheck (by omega)
      rcases fareRes_cases (l := l) hcheck (by omega) with ⟨he, _⟩ | ⟨he, _⟩
      · have hbt : b = true := hb.2 (hiff.1 he)
        subst hbt
        simp -implicitDefEqProofs (disch := omega) only [go_sem, Nat.reduceAdd, Nat.reduceMul, Nat.reduceSub, Nat.reduceBEq, Nat.reduceLeDiff, Nat.reduceLT, fn_transitlaw35_FareExists, e4_1, w4_1, e4_3, w4_3, c4_4, e4_6, w4_6, e4_8, w4_8, e4_10, w4_10, e4_12, w4_12, e4_14, w4_14, c4_15, e4_17, w4_17, e4_19, w4_19, e4_21, w4_21, c4_22, e4_24, w4_24, e4_26, w4_26, c4_27, c4_28, c4_29, c4_30, e4_32, w4_32, c4_33, c4_34, c4_35, c4_36, c4_37, c4_38, e4_40, w4_40, c4_41, e4_43, w4_43, e4_45, w4_45, c4_46, c4_47, c4_48, c4_49, c4_50, c4_51, c4_52, dec_irrefl, Fares.row]
        refine ifD (fun h5 => ?_) (fun h5 => ?_)
        rotate_left
        · omega
        simp -implicitDefEqProofs (disch := omega) only [go_sem, Nat.reduceAdd, Nat.reduceMul, Nat.reduceSub, Nat.reduceBEq, Nat.reduceLeDiff, Nat.reduceLT, fn_transitlaw35_FareExists, e4_1, w4_1, e4_3, w4_3, c4_4, e4_6, w4_6, e4_8, w4_8, e4_10, w4_10, e4_12, w4_12, e4_14, w4_14, c4_15, e4_17, w4_17, e4_19, w4_19, e4_21, w4_21, c4_22, e4_24, w4_24, e4_26, w4_26, c4_27, c4_28, c4_29, c4_30, e4_32, w4_32, c4_33, c4_34, c4_35, c4_36, c4_37, c4_38, e4_40, w4_40, c4_41, e4_43, w4_43, e4_45, w4_45, c4_46, c4_47, c4_48, c4_49, c4_50, c4_51, c4_52]
        refine ifD (fun h6 => ?_) (fun h6 => ?_)
        · omega
        simp -implicitDefEqProofs (disch := omega) only [go_sem, Nat.reduceAdd, Nat.reduceMul, Nat.reduceSub, Nat.reduceBEq, Nat.reduceLeDiff, Nat.reduceLT, fn_transitlaw35_FareExists, e4_1, w4_1, e4_3, w4_3, c4_4, e4_6, w4_6, e4_8, w4_8, e4_10, w4_10, e4_12, w4_12, e4_14, w4_14, c4_15, e4_17, w4_17, e4_19, w4_19, e4_21, w4_21, c4_22, e4_24, w4_24, e4_26, w4_26, c4_27, c4_28, c4_29, c4_30, e4_32, w4_32, c4_33, c4_34, c4_35, c4_36, c4_37, c4_38, e4_40, w4_40, c4_41, e4_43, w4_43, e4_45, w4_45, c4_46, c4_47, c4_48, c4_49, c4_50, c4_51, c4_52]
        refine ifD (fun _ => ?_) (fun h => absurd (by simp [he]) h)
        first | refine callD (example35_ok) ?_ | refine callQD (example35_ok) ?_
        simp -implicitDefEqProofs (disch := omega) only [go_sem, Nat.reduceAdd, Nat.reduceMul, Nat.reduceSub, Nat.reduceBEq, Nat.reduceLeDiff, Nat.reduceLT, fn_transitlaw35_FareExists, e4_1, w4_1, e4_3, w4_3, c4_4, e4_6, w4_6, e4_8, w4_8, e4_10, w4_10, e4_12, w4_12, e4_14, w4_14, c4_15, e4_17, w4_17, e4_19, w4_19, e4_21, w4_21, c4_22, e4_24, w4_24, e4_26, w4_26, c4_27, c4_28, c4_29, c4_30, e4_32, w4_32, c4_33, c4_34, c4_35, c4_36, c4_37, c4_38, e4_40, w4_40, c4_41, e4_43, w4_43, e4_45, w4_45, c4_46, c4_47, c4_48, c4_49, c4_50, c4_51, c4_52]
      · have hbf : b = false := by
          cases b with
          | false => rfl
          | true => have := hiff.2 (hb.1 rfl); rw [he] at this; omega
        subst hbf
        simp -implicitDefEqProofs (disch := omega) only [go_sem, Nat.reduceAdd, Nat.reduceMul, Nat.reduceSub, Nat.reduceBEq, Nat.reduceLeDiff, Nat.reduceLT, fn_transitlaw35_FareExists, e4_1, w4_1, e4_3, w4_3, c4_4, e4_6, w4_6, e4_8, w4_8, e4_10, w4_10, e4_12, w4_12, e4_14, w4_14, c4_15, e4_17, w4_17, e4_19, w4_19, e4_21, w4_21, c4_22, e4_24, w4_24, e4_26, w4_26, c4_27, c4_28, c4_29, c4_30, e4_32, w4_32, c4_33, c4_34, c4_35, c4_36, c4_37, c4_38, e4_40, w4_40, c4_41, e4_43, w4_43, e4_45, w4_45, c4_46, c4_47, c4_48, c4_49, c4_50, c4_51, c4_52, dec_irrefl, Fares.row]
        refine ifD (fun h5 => ?_) (fun h5 => ?_)
        · omega
        simp -implicitDefEqProofs (disch := omega) only [go_sem, Nat.reduceAdd, Nat.reduceMul, Nat.reduceSub, Nat.reduceBEq, Nat.reduceLeDiff, Nat.reduceLT, fn_transitlaw35_FareExists, e4_1, w4_1, e4_3, w4_3, c4_4, e4_6, w4_6, e4_8, w4_8, e4_10, w4_10, e4_12, w4_12, e4_14, w4_14, c4_15, e4_17, w4_17, e4_19, w4_19, e4_21, w4_21, c4_22, e4_24, w4_24, e4_26, w4_26, c4_27, c4_28, c4_29, c4_30, e4_32, w4_32, c4_33, c4_34, c4_35, c4_36, c4_37, c4_38, e4_40, w4_40, c4_41, e4_43, w4_43, e4_45, w4_45, c4_46, c4_47, c4_48, c4_49, c4_50, c4_51, c4_52]
        refine ifD (fun h6 => ?_) (fun h6 => ?_)
        rotate_left
        · omega
        simp -implicitDefEqProofs (disch := omega) only [go_sem, Nat.reduceAdd, Nat.reduceMul, Nat.reduceSub, Nat.reduceBEq, Nat.reduceLeDiff, Nat.reduceLT, fn_transitlaw35_FareExists, e4_1, w4_1, e4_3, w4_3, c4_4, e4_6, w4_6, e4_8, w4_8, e4_10, w4_10, e4_12, w4_12, e4_14, w4_14, c4_15, e4_17, w4_17, e4_19, w4_19, e4_21, w4_21, c4_22, e4_24, w4_24, e4_26, w4_26, c4_27, c4_28, c4_29, c4_30, e4_32, w4_32, c4_33, c4_34, c4_35, c4_36, c4_37, c4_38, e4_40, w4_40, c4_41, e4_43, w4_43, e4_45, w4_45, c4_46, c4_47, c4_48, c4_49, c4_50, c4_51, c4_52]
        refine ifD (fun h7 => ?_) (fun h7 => ?_)
        · omega
        simp -implicitDefEqProofs (disch := omega) only [go_sem, Nat.reduceAdd, Nat.reduceMul, Nat.reduceSub, Nat.reduceBEq, Nat.reduceLeDiff, Nat.reduceLT, fn_transitlaw35_FareExists, e4_1, w4_1, e4_3, w4_3, c4_4, e4_6, w4_6, e4_8, w4_8, e4_10, w4_10, e4_12, w4_12, e4_14, w4_14, c4_15, e4_17, w4_17, e4_19, w4_19, e4_21, w4_21, c4_22, e4_24, w4_24, e4_26, w4_26, c4_27, c4_28, c4_29, c4_30, e4_32, w4_32, c4_33, c4_34, c4_35, c4_36, c4_37, c4_38, e4_40, w4_40, c4_41, e4_43, w4_43, e4_45, w4_45, c4_46, c4_47, c4_48, c4_49, c4_50, c4_51, c4_52]
        refine ifD (fun _ => ?_) (fun h => absurd (by simp [he]) h)
        first | refine callD (example35_ok) ?_ | refine callQD (example35_ok) ?_
        simp -implicitDefEqProofs (disch := omega) only [go_sem, Nat.reduceAdd, Nat.reduceMul, Nat.reduceSub, Nat.reduceBEq, Nat.reduceLeDiff, Nat.reduceLT, fn_transitlaw35_FareExists, e4_1, w4_1, e4_3, w4_3, c4_4, e4_6, w4_6, e4_8, w4_8, e4_10, w4_10, e4_12, w4_12, e4_14, w4_14, c4_15, e4_17, w4_17, e4_19, w4_19, e4_21, w4_21, c4_22, e4_24, w4_24, e4_26, w4_26, c4_27, c4_28, c4_29, c4_30, e4_32, w4_32, c4_33, c4_34, c4_35, c4_36, c4_37, c4_38, e4_40, w4_40, c4_41, e4_43, w4_43, e4_45, w4_45, c4_46, c4_47, c4_48, c4_49, c4_50, c4_51, c4_52]
    · have h0 : l.length = 0 := by
        rcases Nat.eq_zero_or_pos l.length with h | h
        · exact h
        · exact absurd (hc h) hcheck
      simp -implicitDefEqProofs (disch := omega) only [go_sem, Nat.reduceAdd, Nat.reduceMul, Nat.reduceSub, Nat.reduceBEq, Nat.reduceLeDiff, Nat.reduceLT, fn_transitlaw35_FareExists, e4_1, w4_1, e4_3, w4_3, c4_4, e4_6, w4_6, e4_8, w4_8, e4_10, w4_10, e4_12, w4_12, e4_14, w4_14, c4_15, e4_17, w4_17, e4_19, w4_19, e4_21, w4_21, c4_22, e4_24, w4_24, e4_26, w4_26, c4_27, c4_28, c4_29, c4_30, e4_32, w4_32, c4_33, c4_34, c4_35, c4_36, c4_37, c4_38, e4_40, w4_40, c4_41, e4_43, w4_43, e4_45, w4_45, c4_46, c4_47, c4_48, c4_49, c4_50, c4_51, c4_52, dec_irrefl, fareRes_bad hcheck, h0, Fares.row]
      refine ifD (fun h5 => ?_) (fun h5 => ?_)
      · omega
      simp -implicitDefEqProofs (disch := omega) only [go_sem, Nat.reduceAdd, Nat.reduceMul, Nat.reduceSub, Nat.reduceBEq, Nat.reduceLeDiff, Nat.reduceLT, fn_transitlaw35_FareExists, e4_1, w4_1, e4_3, w4_3, c4_4, e4_6, w4_6, e4_8, w4_8, e4_10, w4_10, e4_12, w4_12, e4_14, w4_14, c4_15, e4_17, w4_17, e4_19, w4_19, e4_21, w4_21, c4_22, e4_24, w4_24, e4_26, w4_26, c4_27, c4_28, c4_29, c4_30, e4_32, w4_32, c4_33, c4_34, c4_35, c4_36, c4_37, c4_38, e4_40, w4_40, c4_41, e4_43, w4_43, e4_45, w4_45, c4_46, c4_47, c4_48, c4_49, c4_50, c4_51, c4_52]
      refine ifD (fun h6 => ?_) (fun h6 => ?_)
      · omega
      simp -implicitDefEqProofs (disch := omega) only [go_sem, Nat.reduceAdd, Nat.reduceMul, Nat.reduceSub, Nat.reduceBEq, Nat.reduceLeDiff, Nat.reduceLT, fn_transitlaw35_FareExists, e4_1, w4_1, e4_3, w4_3, c4_4, e4_6, w4_6, e4_8, w4_8, e4_10, w4_10, e4_12, w4_12, e4_14, w4_14, c4_15, e4_17, w4_17, e4_19, w4_19, e4_21, w4_21, c4_22, e4_24, w4_24, e4_26, w4_26, c4_27, c4_28, c4_29, c4_30, e4_32, w4_32, c4_33, c4_34, c4_35, c4_36, c4_37, c4_38, e4_40, w4_40, c4_41, e4_43, w4_43, e4_45, w4_45, c4_46, c4_47, c4_48, c4_49, c4_50, c4_51, c4_52]
      refine ifD (fun h7 => ?_) (fun h7 => ?_)
      rotate_left
      · omega
      simp -implicitDefEqProofs (disch := omega) only [go_sem, Nat.reduceAdd, Nat.reduceMul, Nat.reduceSub, Nat.reduceBEq, Nat.reduceLeDiff, Nat.reduceLT, fn_transitlaw35_FareExists, e4_1, w4_1, e4_3, w4_3, c4_4, e4_6, w4_6, e4_8, w4_8, e4_10, w4_10, e4_12, w4_12, e4_14, w4_14, c4_15, e4_17, w4_17, e4_19, w4_19, e4_21, w4_21, c4_22, e4_24, w4_24, e4_26, w4_26, c4_27, c4_28, c4_29, c4_30, e4_32, w4_32, c4_33, c4_34, c4_35, c4_36, c4_37, c4_38, e4_40, w4_40, c4_41, e4_43, w4_43, e4_45, w4_45, c4_46, c4_47, c4_48, c4_49, c4_50, c4_51, c4_52, Fares.row]
  rintro i vs M hi hid ⟨b, hb, hc, rfl, rfl⟩
  simp -implicitDefEqProofs (disch := omega) only [go_sem, Nat.reduceAdd, Nat.reduceMul, Nat.reduceSub, Nat.reduceBEq, Nat.reduceLeDiff, Nat.reduceLT, fn_transitlaw35_FareExists, e4_1, w4_1, e4_3, w4_3, c4_4, e4_6, w4_6, e4_8, w4_8, e4_10, w4_10, e4_12, w4_12, e4_14, w4_14, c4_15, e4_17, w4_17, e4_19, w4_19, e4_21, w4_21, c4_22, e4_24, w4_24, e4_26, w4_26, c4_27, c4_28, c4_29, c4_30, e4_32, w4_32, c4_33, c4_34, c4_35, c4_36, c4_37, c4_38, e4_40, w4_40, c4_41, e4_43, w4_43, e4_45, w4_45, c4_46, c4_47, c4_48, c4_49, c4_50, c4_51, c4_52, Fares.row, hid, slice_part l i i _ _ (Nat.le_refl i) hi]
  refine callP (fare_Price_ok f (part l i i) _ hf (fun r hr => hl r (part_mem hr))) ?_
  rintro v ⟨e', rfl⟩
  simp -implicitDefEqProofs (disch := omega) only [go_sem, Nat.reduceAdd, Nat.reduceMul, Nat.reduceSub, Nat.reduceBEq, Nat.reduceLeDiff, Nat.reduceLT, fn_transitlaw35_FareExists, e4_1, w4_1, e4_3, w4_3, c4_4, e4_6, w4_6, e4_8, w4_8, e4_10, w4_10, e4_12, w4_12, e4_14, w4_14, c4_15, e4_17, w4_17, e4_19, w4_19, e4_21, w4_21, c4_22, e4_24, w4_24, e4_26, w4_26, c4_27, c4_28, c4_29, c4_30, e4_32, w4_32, c4_33, c4_34, c4_35, c4_36, c4_37, c4_38, e4_40, w4_40, c4_41, e4_43, w4_43, e4_45, w4_45, c4_46, c4_47, c4_48, c4_49, c4_50, c4_51, c4_52, fareV, Fares.row]
  have hpl : (part l i i).length = 1 := by rw [part_len (by omega)]; omega
  refine ifD (fun h3 => ?_) (fun h3 => ?_)
  · have hcheck : (checkRes f).2 ≠ 0 := by
      intro h
      rcases fareRes_cases (l := part l i i) h (by omega) with ⟨he, _⟩ | ⟨he, _⟩ <;> omega
    simp -implicitDefEqProofs (disch := omega) only [go_sem, Nat.reduceAdd, Nat.reduceMul, Nat.reduceSub, Nat.reduceBEq, Nat.reduceLeDiff, Nat.reduceLT, fn_transitlaw35_FareExists, e4_1, w4_1, e4_3, w4_3, c4_4, e4_6, w4_6, e4_8, w4_8, e4_10, w4_10, e4_12, w4_12, e4_14, w4_14, c4_15, e4_17, w4_17, e4_19, w4_19, e4_21, w4_21, c4_22, e4_24, w4_24, e4_26, w4_26, c4_27, c4_28, c4_29, c4_30, e4_32, w4_32, c4_33, c4_34, c4_35, c4_36, c4_37, c4_38, e4_40, w4_40, c4_41, e4_43, w4_43, e4_45, w4_45, c4_46, c4_47, c4_48, c4_49, c4_50, c4_51, c4_52, fareRes_bad hcheck, Fares.row]
    first | refine callD (example35_ok) ?_ | refine callQD (example35_ok) ?_
    simp -implicitDefEqProofs (disch := omega) only [go_sem, Nat.reduceAdd, Nat.reduceMul, Nat.reduceSub, Nat.reduceBEq, Nat.reduceLeDiff, Nat.reduceLT, fn_transitlaw35_FareExists, e4_1, w4_1, e4_3, w4_3, c4_4, e4_6, w4_6, e4_8, w4_8, e4_10, w4_10, e4_12, w4_12, e4_14, w4_14, c4_15, e4_17, w4_17, e4_19, w4_19, e4_21, w4_21, c4_22, e4_24, w4_24, e4_26, w4_26, c4_27, c4_28, c4_29, c4_30, e4_32, w4_32, c4_33, c4_34, c4_35, c4_36, c4_37, c4_38, e4_40, w4_40, c4_41, e4_43, w4_43, e4_45, w4_45, c4_46, c4_47, c4_48, c4_49, c4_50, c4_51, c4_52, Fares.row]
  have hcheck : (checkRes f).2 = 0 := by
    apply Classical.byContradiction
    intro h
    exact h3 (by rw [fareRes_bad h])
  simp -implicitDefEqProofs (disch := omega) only [go_sem, Nat.reduceAdd, Nat.reduceMul, Nat.reduceSub, Nat.reduceBEq, Nat.reduceLeDiff, Nat.reduceLT, fn_transitlaw35_FareExists, e4_1, w4_1, e4_3, w4_3, c4_4, e4_6, w4_6, e4_8, w4_8, e4_10, w4_10, e4_12, w4_12, e4_14, w4_14, c4_15, e4_17, w4_17, e4_19, w4_19, e4_21, w4_21, c4_22, e4_24, w4_24, e4_26, w4_26, c4_27, c4_28, c4_29, c4_30, e4_32, w4_32, c4_33, c4_34, c4_35, c4_36, c4_37, c4_38, e4_40, w4_40, c4_41, e4_43, w4_43, e4_45, w4_45, c4_46, c4_47, c4_48, c4_49, c4_50, c4_51, c4_52, Fares.row]
  refine ifB (fun h4 => ?_) (fun h4 => ?_)
  · simp -implicitDefEqProofs (disch := omega) only [go_sem, Nat.reduceAdd, Nat.reduceMul, Nat.reduceSub, Nat.reduceBEq, Nat.reduceLeDiff, Nat.reduceLT, fn_transitlaw35_FareExists, e4_1, w4_1, e4_3, w4_3, c4_4, e4_6, w4_6, e4_8, w4_8, e4_10, w4_10, e4_12, w4_12, e4_14, w4_14, c4_15, e4_17, w4_17, e4_19, w4_19, e4_21, w4_21, c4_22, e4_24, w4_24, e4_26, w4_26, c4_27, c4_28, c4_29, c4_30, e4_32, w4_32, c4_33, c4_34, c4_35, c4_36, c4_37, c4_38, e4_40, w4_40, c4_41, e4_43, w4_43, e4_45, w4_45, c4_46, c4_47, c4_48, c4_49, c4_50, c4_51, c4_52, Fares.row]
    refine next_stay hi ⟨decide ((fareRes f (part l i i)).2.2 = 0), ?_, fun _ => hcheck, ?_, rfl⟩
    · rw [decide_eq_true_eq]
      constructor
      · intro h j hj
        rcases Nat.lt_or_ge j i with h6 | h6
        · exact hb.1 h4 j h6
        · have : j = i := by omega
          subst this; exact h
      · exact fun h => h i (by omega)
    · simp only [vals, sget]; rfl
  · simp -implicitDefEqProofs (disch := omega) only [go_sem, Nat.reduceAdd, Nat.reduceMul, Nat.reduceSub, Nat.reduceBEq, Nat.reduceLeDiff, Nat.reduceLT, fn_transitlaw35_FareExists, e4_1, w4_1, e4_3, w4_3, c4_4, e4_6, w4_6, e4_8, w4_8, e4_10, w4_10, e4_12, w4_12, e4_14, w4_14, c4_15, e4_17, w4_17, e4_19, w4_19, e4_21, w4_21, c4_22, e4_24, w4_24, e4_26, w4_26, c4_27, c4_28, c4_29, c4_30, e4_32, w4_32, c4_33, c4_34, c4_35, c4_36, c4_37, c4_38, e4_40, w4_40, c4_41, e4_43, w4_43, e4_45, w4_45, c4_46, c4_47, c4_48, c4_49, c4_50, c4_51, c4_52, Fares.row]
    refine next_stay hi ⟨false, ?_, fun _ => hcheck, ?_, rfl⟩
    · constructor
      · intro h; simp at h
      · intro h
        exact absurd (hb.2 fun j hj => h j (by omega)) (by simp [h4])
    · simp only [vals, sget]; rfl

end Go.Vm.C

