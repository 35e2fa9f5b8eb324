/- The statements' functions return true. -/
import Derived.Test.YtcgejpmgaaghkaaT5

namespace Go.Vm.C
open Go.Vm
set_option maxHeartbeats 1000000
set_option maxRecDepth 10000
set_option linter.unusedSimpArgs false
set_option linter.unusedVariables false

theorem example_ok : PCalls PR i_transitlaw21_exampleHolds [] (fun x => x = .bool true) :=
  pcalls_eval tab_ok 3000 (by kernel_rfl) rfl

/-! ### What the arguments read as -/
def ctProduct : List CT := [.str, .int .i64, .int .i64, .int .i64, .int .i64, .int .i64]
def ctRide : List CT := [.int .i64, .int .i64, .int .i64, .int .i64]
def ctFares : List CT := [.slice ctProduct, .int .i64, .int .i64, .int .i64]

theorem read_product {vs : List V} (h : HasR ctProduct vs) : ∃ p : Product, vs = p.row ∧ p.wf := by
  obtain ⟨_, _, rfl, h1, h⟩ := hasR_cons h
  obtain ⟨_, _, rfl, h2, h⟩ := hasR_cons h
  obtain ⟨_, _, rfl, h3, h⟩ := hasR_cons h
  obtain ⟨_, _, rfl, h4, h⟩ := hasR_cons h
  obtain ⟨_, _, rfl, h5, h⟩ := hasR_cons h
  obtain ⟨_, _, rfl, h6, h⟩ := hasR_cons h
  cases hasR_nil h
  obtain ⟨s, rfl, hs⟩ := hasC_str h1
  obtain ⟨a, rfl, ha⟩ := hasC_i64 h2
  obtain ⟨b, rfl, hb⟩ := hasC_i64 h3
  obtain ⟨c, rfl, hc⟩ := hasC_i64 h4
  obtain ⟨d, rfl, hd⟩ := hasC_i64 h5
  obtain ⟨e, rfl, he⟩ := hasC_i64 h6
  exact ⟨⟨s, a, b, c, d, e⟩, rfl, hs, ha, hb, hc, hd, he⟩

theorem read_ride {vs : List V} (h : HasR ctRide vs) : ∃ r : Ride, vs = r.row ∧ r.wf := by
  obtain ⟨_, _, rfl, h1, h⟩ := hasR_cons h
  obtain ⟨_, _, rfl, h2, h⟩ := hasR_cons h
  obtain ⟨_, _, rfl, h3, h⟩ := hasR_cons h
  obtain ⟨_, _, rfl, h4, h⟩ := hasR_cons h
  cases hasR_nil h
  obtain ⟨a, rfl, ha⟩ := hasC_i64 h1
  obtain ⟨b, rfl, hb⟩ := hasC_i64 h2
  obtain ⟨c, rfl, hc⟩ := hasC_i64 h3
  obtain ⟨d, rfl, hd⟩ := hasC_i64 h4
  exact ⟨⟨a, b, c, d⟩, rfl, ha, hb, hc, hd⟩

theorem read_fares {vs : List V} (h : HasR ctFares vs) : ∃ f : Fares, vs = f.row ∧ f.wf := by
  obtain ⟨_, _, rfl, h1, h⟩ := hasR_cons h
  obtain ⟨_, _, rfl, h2, h⟩ := hasR_cons h
  obtain ⟨_, _, rfl, h3, h⟩ := hasR_cons h
  obtain ⟨_, _, rfl, h4, h⟩ := hasR_cons h
  cases hasR_nil h
  obtain ⟨l, c, rfl, hl, hlen, _⟩ := hasC_slice (fun vs h => read_product h) h1
  obtain ⟨a, rfl, ha⟩ := hasC_i64 h2
  obtain ⟨b, rfl, hb⟩ := hasC_i64 h3
  obtain ⟨d, rfl, hd⟩ := hasC_i64 h4
  exact ⟨⟨l, c, a, b, d⟩, rfl, hl, hlen, ha, hb, hd⟩

theorem read_rides {v : V} (h : HasC (.slice ctRide) v) : ∃ (l : List Ride) (c : Cap), v = .slice (l.map Ride.row) c ∧ (∀ r ∈ l, r.wf) ∧ l.length ≤ maxLen := by
  obtain ⟨l, c, rfl, hl, hlen, _⟩ := hasC_slice (fun vs h => read_ride h) h
  exact ⟨l, c, rfl, hl, hlen⟩

/-! ### The statements' functions -/
theorem large_ok (f : Fares) (l : List Ride) (c : Cap) : PCalls PR i_transitlaw21_large [.agg f.row, .slice (l.map Ride.row) c] (fun v => v = .bool (decide (40 < f.products.length ∨ 40 < l.length))) := by
  refine acalls_pop fn_transitlaw21_large_ok (by simp [fn_transitlaw21_large]) ?_
  simp -implicitDefEqProofs (disch := omega) only [go_sem, Nat.reduceAdd, Nat.reduceMul, Nat.reduceSub, Nat.reduceBEq, Nat.reduceLeDiff, Nat.reduceLT, fn_transitlaw21_large, e9_1, w9_1, e9_3, w9_3, c9_4, c9_5, Fares.row]
  refine ifD (fun h => ?_) (fun h => ?_)
  · have : 40 < f.products.length := by omega
    simp -implicitDefEqProofs (disch := omega) only [go_sem, Nat.reduceAdd, Nat.reduceMul, Nat.reduceSub, Nat.reduceBEq, Nat.reduceLeDiff, Nat.reduceLT, fn_transitlaw21_large, e9_1, w9_1, e9_3, w9_3, c9_4, c9_5, this, Fares.row]
    simp
  · have : ¬ 40 < f.products.length := by omega
    simp -implicitDefEqProofs (disch := omega) only [go_sem, Nat.reduceAdd, Nat.reduceMul, Nat.reduceSub, Nat.reduceBEq, Nat.reduceLeDiff, Nat.reduceLT, fn_transitlaw21_large, e9_1, w9_1, e9_3, w9_3, c9_4, c9_5, this, Fares.row]
    simp
    omega

theorem large_nil (f : Fares) : PCalls PR i_transitlaw21_large [.agg f.row, .slice [] .nil] (fun v => v = .bool (decide (40 < f.products.length))) := by
  have := large_ok f [] .nil
  simpa using this

theorem ProductChecks_law (f : Fares) (hf : f.wf) : PCalls PR i_transitlaw21_ProductChecks [.agg f.row] (fun v => v = .bool true) := by
  refine acalls_pop fn_transitlaw21_ProductChecks_ok (by simp [fn_transitlaw21_ProductChecks]) ?_
  simp -implicitDefEqProofs (disch := omega) only [go_sem, Nat.reduceAdd, Nat.reduceMul, Nat.reduceSub, Nat.reduceBEq, Nat.reduceLeDiff, Nat.reduceLT, fn_transitlaw21_ProductChecks, e3_1, w3_1, e3_3, w3_3, c3_4, e3_6, w3_6, e3_8, w3_8, e3_10, w3_10, e3_12, w3_12, c3_13, c3_14, c3_15, c3_16, c3_17, Fares.row]
  first | refine callD (large_nil f) ?_ | refine callQD (large_nil f) ?_
  simp -implicitDefEqProofs (disch := omega) only [go_sem, Nat.reduceAdd, Nat.reduceMul, Nat.reduceSub, Nat.reduceBEq, Nat.reduceLeDiff, Nat.reduceLT, fn_transitlaw21_ProductChecks, e3_1, w3_1, e3_3, w3_3, c3_4, e3_6, w3_6, e3_8, w3_8, e3_10, w3_10, e3_12, w3_12, c3_13, c3_14, c3_15, c3_16, c3_17]
  refine ifD (fun h => ?_) (fun h => ?_)
  · simp -implicitDefEqProofs (disch := omega) only [go_sem, Nat.reduceAdd, Nat.reduceMul, Nat.reduceSub, Nat.reduceBEq, Nat.reduceLeDiff, Nat.reduceLT, fn_transitlaw21_ProductChecks, e3_1, w3_1, e3_3, w3_3, c3_4, e3_6, w3_6, e3_8, w3_8, e3_10, w3_10, e3_12, w3_12, c3_13, c3_14, c3_15, c3_16, c3_17]
    first | refine callD (example_ok) ?_ | refine callQD (example_ok) ?_
    simp -implicitDefEqProofs (disch := omega) only [go_sem, Nat.reduceAdd, Nat.reduceMul, Nat.reduceSub, Nat.reduceBEq, Nat.reduceLeDiff, Nat.reduceLT, fn_transitlaw21_ProductChecks, e3_1, w3_1, e3_3, w3_3, c3_4, e3_6, w3_6, e3_8, w3_8, e3_10, w3_10, e3_12, w3_12, c3_13, c3_14, c3_15, c3_16, c3_17]
  simp -implicitDefEqProofs (disch := omega) only [go_sem, Nat.reduceAdd, Nat.reduceMul, Nat.reduceSub, Nat.reduceBEq, Nat.reduceLeDiff, Nat.reduceLT, fn_transitlaw21_ProductChecks, e3_1, w3_1, e3_3, w3_3, c3_4, e3_6, w3_6, e3_8, w3_8, e3_10, w3_10, e3_12, w3_12, c3_13, c3_14, c3_15, c3_16, c3_17, Fares.row]
  first | refine callD (product_Check_ok f hf) ?_ | refine callQD (product_Check_ok f hf) ?_
  simp -implicitDefEqProofs (disch := omega) only [go_sem, Nat.reduceAdd, Nat.reduceMul, Nat.reduceSub, Nat.reduceBEq, Nat.reduceLeDiff, Nat.reduceLT, fn_transitlaw21_ProductChecks, e3_1, w3_1, e3_3, w3_3, c3_4, e3_6, w3_6, e3_8, w3_8, e3_10, w3_10, e3_12, w3_12, c3_13, c3_14, c3_15, c3_16, c3_17, pairV, Fares.row]
  first | refine callD (transitref21_Check_ok f hf) ?_ | refine callQD (transitref21_Check_ok f hf) ?_
  simp -implicitDefEqProofs (disch := omega) only [go_sem, Nat.reduceAdd, Nat.reduceMul, Nat.reduceSub, Nat.reduceBEq, Nat.reduceLeDiff, Nat.reduceLT, fn_transitlaw21_ProductChecks, e3_1, w3_1, e3_3, w3_3, c3_4, e3_6, w3_6, e3_8, w3_8, e3_10, w3_10, e3_12, w3_12, c3_13, c3_14, c3_15, c3_16, c3_17, pairV]
  first | refine callD (example_ok) ?_ | refine callQD (example_ok) ?_
  simp -implicitDefEqProofs (disch := omega) only [go_sem, Nat.reduceAdd, Nat.reduceMul, Nat.reduceSub, Nat.reduceBEq, Nat.reduceLeDiff, Nat.reduceLT, fn_transitlaw21_ProductChecks, e3_1, w3_1, e3_3, w3_3, c3_4, e3_6, w3_6, e3_8, w3_8, e3_10, w3_10, e3_12, w3_12, c3_13, c3_14, c3_15, c3_16, c3_17]

theorem ProductPrices_law (f : Fares) (i wait : Int) (hf : f.wf) : PCalls PR i_transitlaw21_ProductPrices [.agg f.row, .int .i64 i, .int .i64 wait] (fun v => v = .bool true) := by
  refine acalls_pop fn_transitlaw21_ProductPrices_ok (by simp [fn_transitlaw21_ProductPrices]) ?_
  simp -implicitDefEqProofs (disch := omega) only [go_sem, Nat.reduceAdd, Nat.reduceMul, Nat.reduceSub, Nat.reduceBEq, Nat.reduceLeDiff, Nat.reduceLT, fn_transitlaw21_ProductPrices, e5_1, w5_1, e5_3, w5_3, c5_4, e5_6, w5_6, e5_8, w5_8, e5_10, w5_10, e5_12, w5_12, e5_14, w5_14, e5_16, w5_16, c5_17, c5_18, c5_19, c5_20, c5_21, c5_22, c5_23, Fares.row]
  first | refine callD (large_nil f) ?_ | refine callQD (large_nil f) ?_
  simp -implicitDefEqProofs (disch := omega) only [go_sem, Nat.reduceAdd, Nat.reduceMul, Nat.reduceSub, Nat.reduceBEq, Nat.reduceLeDiff, Nat.reduceLT, fn_transitlaw21_ProductPrices, e5_1, w5_1, e5_3, w5_3, c5_4, e5_6, w5_6, e5_8, w5_8, e5_10, w5_10, e5_12, w5_12, e5_14, w5_14, e5_16, w5_16, c5_17, c5_18, c5_19, c5_20, c5_21, c5_22, c5_23]
  refine ifD (fun h => ?_) (fun h => ?_)
  · simp -implicitDefEqProofs (disch := omega) only [go_sem, Nat.reduceAdd, Nat.reduceMul, Nat.reduceSub, Nat.reduceBEq, Nat.reduceLeDiff, Nat.reduceLT, fn_transitlaw21_ProductPrices, e5_1, w5_1, e5_3, w5_3, c5_4, e5_6, w5_6, e5_8, w5_8, e5_10, w5_10, e5_12, w5_12, e5_14, w5_14, e5_16, w5_16, c5_17, c5_18, c5_19, c5_20, c5_21, c5_22, c5_23]
    first | refine callD (example_ok) ?_ | refine callQD (example_ok) ?_
    simp -implicitDefEqProofs (disch := omega) only [go_sem, Nat.reduceAdd, Nat.reduceMul, Nat.reduceSub, Nat.reduceBEq, Nat.reduceLeDiff, Nat.reduceLT, fn_transitlaw21_ProductPrices, e5_1, w5_1, e5_3, w5_3, c5_4, e5_6, w5_6, e5_8, w5_8, e5_10, w5_10, e5_12, w5_12, e5_14, w5_14, e5_16, w5_16, c5_17, c5_18, c5_19, c5_20, c5_21, c5_22, c5_23]
  simp -implicitDefEqProofs (disch := omega) only [go_sem, Nat.reduceAdd, Nat.reduceMul, Nat.reduceSub, Nat.reduceBEq, Nat.reduceLeDiff, Nat.reduceLT, fn_transitlaw21_ProductPrices, e5_1, w5_1, e5_3, w5_3, c5_4, e5_6, w5_6, e5_8, w5_8, e5_10, w5_10, e5_12, w5_12, e5_14, w5_14, e5_16, w5_16, c5_17, c5_18, c5_19, c5_20, c5_21, c5_22, c5_23, Fares.row]
  first | refine callD (product_Price_ok f _ _ _ hf) ?_ | refine callQD (product_Price_ok f _ _ _ hf) ?_
  simp -implicitDefEqProofs (disch := omega) only [go_sem, Nat.reduceAdd, Nat.reduceMul, Nat.reduceSub, Nat.reduceBEq, Nat.reduceLeDiff, Nat.reduceLT, fn_transitlaw21_ProductPrices, e5_1, w5_1, e5_3, w5_3, c5_4, e5_6, w5_6, e5_8, w5_8, e5_10, w5_10, e5_12, w5_12, e5_14, w5_14, e5_16, w5_16, c5_17, c5_18, c5_19, c5_20, c5_21, c5_22, c5_23, prV, Fares.row]
  first | refine callD (transitref21_Price_ok f _ _ _ hf) ?_ | refine callQD (transitref21_Price_ok f _ _ _ hf) ?_
  simp -implicitDefEqProofs (disch := omega) only [go_sem, Nat.reduceAdd, Nat.reduceMul, Nat.reduceSub, Nat.reduceBEq, Nat.reduceLeDiff, Nat.reduceLT, fn_transitlaw21_ProductPrices, e5_1, w5_1, e5_3, w5_3, c5_4, e5_6, w5_6, e5_8, w5_8, e5_10, w5_10, e5_12, w5_12, e5_14, w5_14, e5_16, w5_16, c5_17, c5_18, c5_19, c5_20, c5_21, c5_22, c5_23, prV, Fares.row]
  first | refine callD (product_Price_ok f _ _ _ hf) ?_ | refine callQD (product_Price_ok f _ _ _ hf) ?_
  simp -implicitDefEqProofs (disch := omega) only [go_sem, Nat.reduceAdd, Nat.reduceMul, Nat.reduceSub, Nat.reduceBEq, Nat.reduceLeDiff, Nat.reduceLT, fn_transitlaw21_ProductPrices, e5_1, w5_1, e5_3, w5_3, c5_4, e5_6, w5_6, e5_8, w5_8, e5_10, w5_10, e5_12, w5_12, e5_14, w5_14, e5_16, w5_16, c5_17, c5_18, c5_19, c5_20, c5_21, c5_22, c5_23, prV, Fares.row]
  first | refine callD (transitref21_Price_ok f _ _ _ hf) ?_ | refine callQD (transitref21_Price_ok f _ _ _ hf) ?_
  simp -implicitDefEqProofs (disch := omega) only [go_sem, Nat.reduceAdd, Nat.reduceMul, Nat.reduceSub, Nat.reduceBEq, Nat.reduceLeDiff, Nat.reduceLT, fn_transitlaw21_ProductPrices, e5_1, w5_1, e5_3, w5_3, c5_4, e5_6, w5_6, e5_8, w5_8, e5_10, w5_10, e5_12, w5_12, e5_14, w5_14, e5_16, w5_16, c5_17, c5_18, c5_19, c5_20, c5_21, c5_22, c5_23, prV, Fares.row]
  first | refine callD (example_ok) ?_ | refine callQD (example_ok) ?_
  simp -implicitDefEqProofs (disch := omega) only [go_sem, Nat.reduceAdd, Nat.reduceMul, Nat.reduceSub, Nat.reduceBEq, Nat.reduceLeDiff, Nat.reduceLT, fn_transitlaw21_ProductPrices, e5_1, w5_1, e5_3, w5_3, c5_4, e5_6, w5_6, e5_8, w5_8, e5_10, w5_10, e5_12, w5_12, e5_14, w5_14, e5_16, w5_16, c5_17, c5_18, c5_19, c5_20, c5_21, c5_22, c5_23]

theorem ProductCheapest_law (f : Fares) (l : List Ride) (c : Cap) (hf : f.wf) (hl : ∀ r ∈ l, r.wf) (hlen : l.length ≤ maxLen) : PCalls PR i_transitlaw21_ProductCheapest [.agg f.row, .slice (l.map Ride.row) c] (fun v => v = .bool true) := by
  refine acalls_pop fn_transitlaw21_ProductCheapest_ok (by simp [fn_transitlaw21_ProductCheapest]) ?_
  simp -implicitDefEqProofs (disch := omega) only [go_sem, Nat.reduceAdd, Nat.reduceMul, Nat.reduceSub, Nat.reduceBEq, Nat.reduceLeDiff, Nat.reduceLT, fn_transitlaw21_ProductCheapest, e6_1, w6_1, e6_3, w6_3, c6_4, e6_6, w6_6, e6_8, w6_8, e6_10, w6_10, e6_12, w6_12, c6_13, c6_14, c6_15, c6_16, c6_17, Fares.row]
  first | refine callD (large_ok f l c) ?_ | refine callQD (large_ok f l c) ?_
  simp -implicitDefEqProofs (disch := omega) only [go_sem, Nat.reduceAdd, Nat.reduceMul, Nat.reduceSub, Nat.reduceBEq, Nat.reduceLeDiff, Nat.reduceLT, fn_transitlaw21_ProductCheapest, e6_1, w6_1, e6_3, w6_3, c6_4, e6_6, w6_6, e6_8, w6_8, e6_10, w6_10, e6_12, w6_12, c6_13, c6_14, c6_15, c6_16, c6_17]
  refine ifD (fun h => ?_) (fun h => ?_)
  · simp -implicitDefEqProofs (disch := omega) only [go_sem, Nat.reduceAdd, Nat.reduceMul, Nat.reduceSub, Nat.reduceBEq, Nat.reduceLeDiff, Nat.reduceLT, fn_transitlaw21_ProductCheapest, e6_1, w6_1, e6_3, w6_3, c6_4, e6_6, w6_6, e6_8, w6_8, e6_10, w6_10, e6_12, w6_12, c6_13, c6_14, c6_15, c6_16, c6_17]
    first | refine callD (example_ok) ?_ | refine callQD (example_ok) ?_
    simp -implicitDefEqProofs (disch := omega) only [go_sem, Nat.reduceAdd, Nat.reduceMul, Nat.reduceSub, Nat.reduceBEq, Nat.reduceLeDiff, Nat.reduceLT, fn_transitlaw21_ProductCheapest, e6_1, w6_1, e6_3, w6_3, c6_4, e6_6, w6_6, e6_8, w6_8, e6_10, w6_10, e6_12, w6_12, c6_13, c6_14, c6_15, c6_16, c6_17]
  have hsm : f.products.length ≤ 40 := by omega
  simp -implicitDefEqProofs (disch := omega) only [go_sem, Nat.reduceAdd, Nat.reduceMul, Nat.reduceSub, Nat.reduceBEq, Nat.reduceLeDiff, Nat.reduceLT, fn_transitlaw21_ProductCheapest, e6_1, w6_1, e6_3, w6_3, c6_4, e6_6, w6_6, e6_8, w6_8, e6_10, w6_10, e6_12, w6_12, c6_13, c6_14, c6_15, c6_16, c6_17, Fares.row]
  first | refine callD (product_Cheapest_ok f l c hf hl hlen hsm) ?_ | refine callQD (product_Cheapest_ok f l c hf hl hlen hsm) ?_
  simp -implicitDefEqProofs (disch := omega) only [go_sem, Nat.reduceAdd, Nat.reduceMul, Nat.reduceSub, Nat.reduceBEq, Nat.reduceLeDiff, Nat.reduceLT, fn_transitlaw21_ProductCheapest, e6_1, w6_1, e6_3, w6_3, c6_4, e6_6, w6_6, e6_8, w6_8, e6_10, w6_10, e6_12, w6_12, c6_13, c6_14, c6_15, c6_16, c6_17, chV, Fares.row]
  first | refine callD (transitref21_Cheapest_ok f l c hf hl hlen hsm) ?_ | refine callQD (transitref21_Cheapest_ok f l c hf hl hlen hsm) ?_
  simp -implicitDefEqProofs (disch := omega) only [go_sem, Nat.reduceAdd, Nat.reduceMul, Nat.reduceSub, Nat.reduceBEq, Nat.reduceLeDiff, Nat.reduceLT, fn_transitlaw21_ProductCheapest, e6_1, w6_1, e6_3, w6_3, c6_4, e6_6, w6_6, e6_8, w6_8, e6_10, w6_10, e6_12, w6_12, c6_13, c6_14, c6_15, c6_16, c6_17, chV]
  first | refine callD (example_ok) ?_ | refine callQD (example_ok) ?_
  simp -implicitDefEqProofs (disch := omega) only [go_sem, Nat.reduceAdd, Nat.reduceMul, Nat.reduceSub, Nat.reduceBEq, Nat.reduceLeDiff, Nat.reduceLT, fn_transitlaw21_ProductCheapest, e6_1, w6_1, e6_3, w6_3, c6_4, e6_6, w6_6, e6_8, w6_8, e6_10, w6_10, e6_12, w6_12, c6_13, c6_14, c6_15, c6_16, c6_17]

theorem ProductSelects_law (f : Fares) (l : List Ride) (c : Cap) (hf : f.wf) (hl : ∀ r ∈ l, r.wf) (hlen : l.length ≤ maxLen) : PCalls PR i_transitlaw21_ProductSelects [.agg f.row, .slice (l.map Ride.row) c] (fun v => v = .bool true) := by
  refine acalls_pop fn_transitlaw21_ProductSelects_ok (by simp [fn_transitlaw21_ProductSelects]) ?_
  simp -implicitDefEqProofs (disch := omega) only [go_sem, Nat.reduceAdd, Nat.reduceMul, Nat.reduceSub, Nat.reduceBEq, Nat.reduceLeDiff, Nat.reduceLT, fn_transitlaw21_ProductSelects, e4_1, w4_1, e4_3, w4_3, c4_4, e4_6, w4_6, e4_8, w4_8, e4_10, w4_10, e4_12, w4_12, c4_13, e4_15, w4_15, c4_16, e4_18, w4_18, c4_19, c4_20, c4_21, c4_22, c4_23, e4_25, w4_25, c4_26, c4_27, c4_28, c4_29, Fares.row]
  first | refine callD (large_ok f l c) ?_ | refine callQD (large_ok f l c) ?_
  simp -implicitDefEqProofs (disch := omega) only [go_sem, Nat.reduceAdd, Nat.reduceMul, Nat.reduceSub, Nat.reduceBEq, Nat.reduceLeDiff, Nat.reduceLT, fn_transitlaw21_ProductSelects, e4_1, w4_1, e4_3, w4_3, c4_4, e4_6, w4_6, e4_8, w4_8, e4_10, w4_10, e4_12, w4_12, c4_13, e4_15, w4_15, c4_16, e4_18, w4_18, c4_19, c4_20, c4_21, c4_22, c4_23, e4_25, w4_25, c4_26, c4_27, c4_28, c4_29]
  refine ifD (fun h => ?_) (fun h => ?_)
  · simp -implicitDefEqProofs (disch := omega) only [go_sem, Nat.reduceAdd, Nat.reduceMul, Nat.reduceSub, Nat.reduceBEq, Nat.reduceLeDiff, Nat.reduceLT, fn_transitlaw21_ProductSelects, e4_1, w4_1, e4_3, w4_3, c4_4, e4_6, w4_6, e4_8, w4_8, e4_10, w4_10, e4_12, w4_12, c4_13, e4_15, w4_15, c4_16, e4_18, w4_18, c4_19, c4_20, c4_21, c4_22, c4_23, e4_25, w4_25, c4_26, c4_27, c4_28, c4_29]
    first | refine callD (example_ok) ?_ | refine callQD (example_ok) ?_
    simp -implicitDefEqProofs (disch := omega) only [go_sem, Nat.reduceAdd, Nat.reduceMul, Nat.reduceSub, Nat.reduceBEq, Nat.reduceLeDiff, Nat.reduceLT, fn_transitlaw21_ProductSelects, e4_1, w4_1, e4_3, w4_3, c4_4, e4_6, w4_6, e4_8, w4_8, e4_10, w4_10, e4_12, w4_12, c4_13, e4_15, w4_15, c4_16, e4_18, w4_18, c4_19, c4_20, c4_21, c4_22, c4_23, e4_25, w4_25, c4_26, c4_27, c4_28, c4_29]
  have hsm : f.products.length ≤ 40 := by omega
  have hol := options_len f l
  have hm : maxLen = 9223372036854775807 := by rfl
  simp -implicitDefEqProofs (disch := omega) only [go_sem, Nat.reduceAdd, Nat.reduceMul, Nat.reduceSub, Nat.reduceBEq, Nat.reduceLeDiff, Nat.reduceLT, fn_transitlaw21_ProductSelects, e4_1, w4_1, e4_3, w4_3, c4_4, e4_6, w4_6, e4_8, w4_8, e4_10, w4_10, e4_12, w4_12, c4_13, e4_15, w4_15, c4_16, e4_18, w4_18, c4_19, c4_20, c4_21, c4_22, c4_23, e4_25, w4_25, c4_26, c4_27, c4_28, c4_29, Fares.row]
  refine wpC_forL f.products (fun i vs M => vs = [.slice (l.map Ride.row) c, .ptr 0 0, .int .i64 i] ∧ M = [.box f.row]) ⟨rfl, rfl⟩ ?_ ?_
  · rintro i p vs M hp hi hd ⟨rfl, rfl⟩
    simp -implicitDefEqProofs (disch := omega) only [go_sem, Nat.reduceAdd, Nat.reduceMul, Nat.reduceSub, Nat.reduceBEq, Nat.reduceLeDiff, Nat.reduceLT, fn_transitlaw21_ProductSelects, e4_1, w4_1, e4_3, w4_3, c4_4, e4_6, w4_6, e4_8, w4_8, e4_10, w4_10, e4_12, w4_12, c4_13, e4_15, w4_15, c4_16, e4_18, w4_18, c4_19, c4_20, c4_21, c4_22, c4_23, e4_25, w4_25, c4_26, c4_27, c4_28, c4_29, Fares.row, hd, hp, Product.row]
    first | refine callD (product_Covers_ok p l c (hf.1 p (List.mem_of_getElem? hp)) hl hlen) ?_ | refine callQD (product_Covers_ok p l c (hf.1 p (List.mem_of_getElem? hp)) hl hlen) ?_
    simp -implicitDefEqProofs (disch := omega) only [go_sem, Nat.reduceAdd, Nat.reduceMul, Nat.reduceSub, Nat.reduceBEq, Nat.reduceLeDiff, Nat.reduceLT, fn_transitlaw21_ProductSelects, e4_1, w4_1, e4_3, w4_3, c4_4, e4_6, w4_6, e4_8, w4_8, e4_10, w4_10, e4_12, w4_12, c4_13, e4_15, w4_15, c4_16, e4_18, w4_18, c4_19, c4_20, c4_21, c4_22, c4_23, e4_25, w4_25, c4_26, c4_27, c4_28, c4_29, Fares.row, hp, Product.row]
    first | refine callD (transitref21_Covers_ok p l c (hf.1 p (List.mem_of_getElem? hp)) hl hlen) ?_ | refine callQD (transitref21_Covers_ok p l c (hf.1 p (List.mem_of_getElem? hp)) hl hlen) ?_
    simp -implicitDefEqProofs (disch := omega) only [go_sem, Nat.reduceAdd, Nat.reduceMul, Nat.reduceSub, Nat.reduceBEq, Nat.reduceLeDiff, Nat.reduceLT, fn_transitlaw21_ProductSelects, e4_1, w4_1, e4_3, w4_3, c4_4, e4_6, w4_6, e4_8, w4_8, e4_10, w4_10, e4_12, w4_12, c4_13, e4_15, w4_15, c4_16, e4_18, w4_18, c4_19, c4_20, c4_21, c4_22, c4_23, e4_25, w4_25, c4_26, c4_27, c4_28, c4_29]
    exact next_stay hi ⟨rfl, rfl⟩
  · rintro vs M ⟨rfl, rfl⟩
    simp -implicitDefEqProofs (disch := omega) only [go_sem, Nat.reduceAdd, Nat.reduceMul, Nat.reduceSub, Nat.reduceBEq, Nat.reduceLeDiff, Nat.reduceLT, fn_transitlaw21_ProductSelects, e4_1, w4_1, e4_3, w4_3, c4_4, e4_6, w4_6, e4_8, w4_8, e4_10, w4_10, e4_12, w4_12, c4_13, e4_15, w4_15, c4_16, e4_18, w4_18, c4_19, c4_20, c4_21, c4_22, c4_23, e4_25, w4_25, c4_26, c4_27, c4_28, c4_29, dec_irrefl, Fares.row]
    first | refine callD (product_Options_ok f l c hf hl hlen hsm) ?_ | refine callQD (product_Options_ok f l c hf hl hlen hsm) ?_
    simp -implicitDefEqProofs (disch := omega) only [go_sem, Nat.reduceAdd, Nat.reduceMul, Nat.reduceSub, Nat.reduceBEq, Nat.reduceLeDiff, Nat.reduceLT, fn_transitlaw21_ProductSelects, e4_1, w4_1, e4_3, w4_3, c4_4, e4_6, w4_6, e4_8, w4_8, e4_10, w4_10, e4_12, w4_12, c4_13, e4_15, w4_15, c4_16, e4_18, w4_18, c4_19, c4_20, c4_21, c4_22, c4_23, e4_25, w4_25, c4_26, c4_27, c4_28, c4_29, Fares.row]
    first | refine callD (transitref21_Options_ok f l c hf hl hlen hsm) ?_ | refine callQD (transitref21_Options_ok f l c hf hl hlen hsm) ?_
    first | refine callD (SameInts_ok _ _ _ _ (by omega)) ?_ | refine callQD (SameInts_ok _ _ _ _ (by omega)) ?_
    simp -implicitDefEqProofs (disch := omega) only [go_sem, Nat.reduceAdd, Nat.reduceMul, Nat.reduceSub, Nat.reduceBEq, Nat.reduceLeDiff, Nat.reduceLT, fn_transitlaw21_ProductSelects, e4_1, w4_1, e4_3, w4_3, c4_4, e4_6, w4_6, e4_8, w4_8, e4_10, w4_10, e4_12, w4_12, c4_13, e4_15, w4_15, c4_16, e4_18, w4_18, c4_19, c4_20, c4_21, c4_22, c4_23, e4_25, w4_25, c4_26, c4_27, c4_28, c4_29]
    first | refine callD (example_ok) ?_ | refine callQD (example_ok) ?_
    simp -implicitDefEqProofs (disch := omega) only [go_sem, Nat.reduceAdd, Nat.reduceMul, Nat.reduceSub, Nat.reduceBEq, Nat.reduceLeDiff, Nat.reduceLT, fn_transitlaw21_ProductSelects, e4_1, w4_1, e4_3, w4_3, c4_4, e4_6, w4_6, e4_8, w4_8, e4_10, w4_10, e4_12, w4_12, c4_13, e4_15, w4_15, c4_16, e4_18, w4_18, c4_19, c4_20, c4_21, c4_22, c4_23, e4_25, w4_25, c4_26, c4_27, c4_28, c4_29, Fares.row]

theorem priceRes_yes {f : Fares} {i : Nat} {p : Product} (h : (checkRes f).2 = 0) (hp : f.products[i]? = some p) (first : Bool) (wait : Int) :
    priceRes f i first wait = ((if first = true ∨ f.within < wait then p.price else max 0 (p.price - f.discount)), true) := by
  have hi := (List.getElem?_eq_some_iff.1 hp).1
  rw [priceRes, if_neg (by rw [not_or, not_or]; exact ⟨by simp [h], by omega, by omega⟩), Int.toNat_natCast, priceAt_eq hp]
  split <;> rfl

theorem ProductDiscounts_law (f : Fares) (wait more : Int) (hf : f.wf) (hw : I64 wait) (hmo : I64 more) : PCalls PR i_transitlaw21_ProductDiscounts [.agg f.row, .int .i64 wait, .int .i64 more] (fun v => v = .bool true) := by
  refine acalls_pop fn_transitlaw21_ProductDiscounts_ok (by simp [fn_transitlaw21_ProductDiscounts]) ?_
  obtain ⟨w1, w2⟩ := hw
  obtain ⟨m1, m2⟩ := hmo
  simp -implicitDefEqProofs (disch := omega) only [go_sem, Nat.reduceAdd, Nat.reduceMul, Nat.reduceSub, Nat.reduceBEq, Nat.reduceLeDiff, Nat.reduceLT, fn_transitlaw21_ProductDiscounts, e8_1, w8_1, e8_3, w8_3, c8_4, e8_6, w8_6, e8_8, w8_8, e8_10, w8_10, c8_11, e8_13, w8_13, c8_14, e8_16, w8_16, e8_18, w8_18, e8_20, w8_20, e8_22, w8_22, e8_24, w8_24, e8_26, w8_26, e8_28, w8_28, c8_29, e8_31, w8_31, c8_32, c8_33, c8_34, c8_35, e8_37, w8_37, c8_38, c8_39, c8_40, c8_41, c8_42, e8_44, w8_44, c8_45, c8_46, c8_47, c8_48, c8_49, c8_50, Fares.row]
  first | refine callD (large_nil f) ?_ | refine callQD (large_nil f) ?_
  simp -implicitDefEqProofs (disch := omega) only [go_sem, Nat.reduceAdd, Nat.reduceMul, Nat.reduceSub, Nat.reduceBEq, Nat.reduceLeDiff, Nat.reduceLT, fn_transitlaw21_ProductDiscounts, e8_1, w8_1, e8_3, w8_3, c8_4, e8_6, w8_6, e8_8, w8_8, e8_10, w8_10, c8_11, e8_13, w8_13, c8_14, e8_16, w8_16, e8_18, w8_18, e8_20, w8_20, e8_22, w8_22, e8_24, w8_24, e8_26, w8_26, e8_28, w8_28, c8_29, e8_31, w8_31, c8_32, c8_33, c8_34, c8_35, e8_37, w8_37, c8_38, c8_39, c8_40, c8_41, c8_42, e8_44, w8_44, c8_45, c8_46, c8_47, c8_48, c8_49, c8_50]
  refine ifD (fun h => ?_) (fun h => ?_)
  · simp -implicitDefEqProofs (disch := omega) only [go_sem, Nat.reduceAdd, Nat.reduceMul, Nat.reduceSub, Nat.reduceBEq, Nat.reduceLeDiff, Nat.reduceLT, fn_transitlaw21_ProductDiscounts, e8_1, w8_1, e8_3, w8_3, c8_4, e8_6, w8_6, e8_8, w8_8, e8_10, w8_10, c8_11, e8_13, w8_13, c8_14, e8_16, w8_16, e8_18, w8_18, e8_20, w8_20, e8_22, w8_22, e8_24, w8_24, e8_26, w8_26, e8_28, w8_28, c8_29, e8_31, w8_31, c8_32, c8_33, c8_34, c8_35, e8_37, w8_37, c8_38, c8_39, c8_40, c8_41, c8_42, e8_44, w8_44, c8_45, c8_46, c8_47, c8_48, c8_49, c8_50]
    first | refine callD (example_ok) ?_ | refine callQD (example_ok) ?_
    simp -implicitDefEqProofs (disch := omega) only [go_sem, Nat.reduceAdd, Nat.reduceMul, Nat.reduceSub, Nat.reduceBEq, Nat.reduceLeDiff, Nat.reduceLT, fn_transitlaw21_ProductDiscounts, e8_1, w8_1, e8_3, w8_3, c8_4, e8_6, w8_6, e8_8, w8_8, e8_10, w8_10, c8_11, e8_13, w8_13, c8_14, e8_16, w8_16, e8_18, w8_18, e8_20, w8_20, e8_22, w8_22, e8_24, w8_24, e8_26, w8_26, e8_28, w8_28, c8_29, e8_31, w8_31, c8_32, c8_33, c8_34, c8_35, e8_37, w8_37, c8_38, c8_39, c8_40, c8_41, c8_42, e8_44, w8_44, c8_45, c8_46, c8_47, c8_48, c8_49, c8_50]
  simp -implicitDefEqProofs (disch := omega) only [go_sem, Nat.reduceAdd, Nat.reduceMul, Nat.reduceSub, Nat.reduceBEq, Nat.reduceLeDiff, Nat.reduceLT, fn_transitlaw21_ProductDiscounts, e8_1, w8_1, e8_3, w8_3, c8_4, e8_6, w8_6, e8_8, w8_8, e8_10, w8_10, c8_11, e8_13, w8_13, c8_14, e8_16, w8_16, e8_18, w8_18, e8_20, w8_20, e8_22, w8_22, e8_24, w8_24, e8_26, w8_26, e8_28, w8_28, c8_29, e8_31, w8_31, c8_32, c8_33, c8_34, c8_35, e8_37, w8_37, c8_38, c8_39, c8_40, c8_41, c8_42, e8_44, w8_44, c8_45, c8_46, c8_47, c8_48, c8_49, c8_50, Fares.row]
  first | refine callD (product_Check_ok f hf) ?_ | refine callQD (product_Check_ok f hf) ?_
  simp -implicitDefEqProofs (disch := omega) only [go_sem, Nat.reduceAdd, Nat.reduceMul, Nat.reduceSub, Nat.reduceBEq, Nat.reduceLeDiff, Nat.reduceLT, fn_transitlaw21_ProductDiscounts, e8_1, w8_1, e8_3, w8_3, c8_4, e8_6, w8_6, e8_8, w8_8, e8_10, w8_10, c8_11, e8_13, w8_13, c8_14, e8_16, w8_16, e8_18, w8_18, e8_20, w8_20, e8_22, w8_22, e8_24, w8_24, e8_26, w8_26, e8_28, w8_28, c8_29, e8_31, w8_31, c8_32, c8_33, c8_34, c8_35, e8_37, w8_37, c8_38, c8_39, c8_40, c8_41, c8_42, e8_44, w8_44, c8_45, c8_46, c8_47, c8_48, c8_49, c8_50, pairV]
  refine ifD (fun h1 => ?_) (fun h1 => ?_)
  rotate_left
  · simp -implicitDefEqProofs (disch := omega) only [go_sem, Nat.reduceAdd, Nat.reduceMul, Nat.reduceSub, Nat.reduceBEq, Nat.reduceLeDiff, Nat.reduceLT, fn_transitlaw21_ProductDiscounts, e8_1, w8_1, e8_3, w8_3, c8_4, e8_6, w8_6, e8_8, w8_8, e8_10, w8_10, c8_11, e8_13, w8_13, c8_14, e8_16, w8_16, e8_18, w8_18, e8_20, w8_20, e8_22, w8_22, e8_24, w8_24, e8_26, w8_26, e8_28, w8_28, c8_29, e8_31, w8_31, c8_32, c8_33, c8_34, c8_35, e8_37, w8_37, c8_38, c8_39, c8_40, c8_41, c8_42, e8_44, w8_44, c8_45, c8_46, c8_47, c8_48, c8_49, c8_50]
    first | refine callD (example_ok) ?_ | refine callQD (example_ok) ?_
    simp -implicitDefEqProofs (disch := omega) only [go_sem, Nat.reduceAdd, Nat.reduceMul, Nat.reduceSub, Nat.reduceBEq, Nat.reduceLeDiff, Nat.reduceLT, fn_transitlaw21_ProductDiscounts, e8_1, w8_1, e8_3, w8_3, c8_4, e8_6, w8_6, e8_8, w8_8, e8_10, w8_10, c8_11, e8_13, w8_13, c8_14, e8_16, w8_16, e8_18, w8_18, e8_20, w8_20, e8_22, w8_22, e8_24, w8_24, e8_26, w8_26, e8_28, w8_28, c8_29, e8_31, w8_31, c8_32, c8_33, c8_34, c8_35, e8_37, w8_37, c8_38, c8_39, c8_40, c8_41, c8_42, e8_44, w8_44, c8_45, c8_46, c8_47, c8_48, c8_49, c8_50]
  simp -implicitDefEqProofs (disch := omega) only [go_sem, Nat.reduceAdd, Nat.reduceMul, Nat.reduceSub, Nat.reduceBEq, Nat.reduceLeDiff, Nat.reduceLT, fn_transitlaw21_ProductDiscounts, e8_1, w8_1, e8_3, w8_3, c8_4, e8_6, w8_6, e8_8, w8_8, e8_10, w8_10, c8_11, e8_13, w8_13, c8_14, e8_16, w8_16, e8_18, w8_18, e8_20, w8_20, e8_22, w8_22, e8_24, w8_24, e8_26, w8_26, e8_28, w8_28, c8_29, e8_31, w8_31, c8_32, c8_33, c8_34, c8_35, e8_37, w8_37, c8_38, c8_39, c8_40, c8_41, c8_42, e8_44, w8_44, c8_45, c8_46, c8_47, c8_48, c8_49, c8_50]
  have hok := checkRes_ok h1
  obtain ⟨d1, d2⟩ := hok.discount
  refine wpC_forL f.products (fun i vs M => vs = [.int .i64 wait, .ptr 0 0, .int .i64 (min wait more), .int .i64 (max wait more), .int .i64 i] ∧ M = [.box f.row]) ⟨rfl, rfl⟩ ?_ ?_
  · rintro i p vs M hp hi hd ⟨rfl, rfl⟩
    obtain ⟨⟨p1, p2⟩, _⟩ := hok.prods p (List.mem_of_getElem? hp)
    have r1 := priceRes_yes h1 hp
    simp -implicitDefEqProofs (disch := omega) only [go_sem, Nat.reduceAdd, Nat.reduceMul, Nat.reduceSub, Nat.reduceBEq, Nat.reduceLeDiff, Nat.reduceLT, fn_transitlaw21_ProductDiscounts, e8_1, w8_1, e8_3, w8_3, c8_4, e8_6, w8_6, e8_8, w8_8, e8_10, w8_10, c8_11, e8_13, w8_13, c8_14, e8_16, w8_16, e8_18, w8_18, e8_20, w8_20, e8_22, w8_22, e8_24, w8_24, e8_26, w8_26, e8_28, w8_28, c8_29, e8_31, w8_31, c8_32, c8_33, c8_34, c8_35, e8_37, w8_37, c8_38, c8_39, c8_40, c8_41, c8_42, e8_44, w8_44, c8_45, c8_46, c8_47, c8_48, c8_49, c8_50, hd, Fares.row]
    first | refine callD (product_Price_ok f _ _ _ hf) ?_ | refine callQD (product_Price_ok f _ _ _ hf) ?_
    simp -implicitDefEqProofs (disch := omega) only [go_sem, Nat.reduceAdd, Nat.reduceMul, Nat.reduceSub, Nat.reduceBEq, Nat.reduceLeDiff, Nat.reduceLT, fn_transitlaw21_ProductDiscounts, e8_1, w8_1, e8_3, w8_3, c8_4, e8_6, w8_6, e8_8, w8_8, e8_10, w8_10, c8_11, e8_13, w8_13, c8_14, e8_16, w8_16, e8_18, w8_18, e8_20, w8_20, e8_22, w8_22, e8_24, w8_24, e8_26, w8_26, e8_28, w8_28, c8_29, e8_31, w8_31, c8_32, c8_33, c8_34, c8_35, e8_37, w8_37, c8_38, c8_39, c8_40, c8_41, c8_42, e8_44, w8_44, c8_45, c8_46, c8_47, c8_48, c8_49, c8_50, prV, r1, Fares.row]
    first | refine callD (product_Price_ok f _ _ _ hf) ?_ | refine callQD (product_Price_ok f _ _ _ hf) ?_
    simp -implicitDefEqProofs (disch := omega) only [go_sem, Nat.reduceAdd, Nat.reduceMul, Nat.reduceSub, Nat.reduceBEq, Nat.reduceLeDiff, Nat.reduceLT, fn_transitlaw21_ProductDiscounts, e8_1, w8_1, e8_3, w8_3, c8_4, e8_6, w8_6, e8_8, w8_8, e8_10, w8_10, c8_11, e8_13, w8_13, c8_14, e8_16, w8_16, e8_18, w8_18, e8_20, w8_20, e8_22, w8_22, e8_24, w8_24, e8_26, w8_26, e8_28, w8_28, c8_29, e8_31, w8_31, c8_32, c8_33, c8_34, c8_35, e8_37, w8_37, c8_38, c8_39, c8_40, c8_41, c8_42, e8_44, w8_44, c8_45, c8_46, c8_47, c8_48, c8_49, c8_50, prV, r1, Fares.row]
    first | refine callD (product_Price_ok f _ _ _ hf) ?_ | refine callQD (product_Price_ok f _ _ _ hf) ?_
    obtain ⟨b, hb⟩ : ∃ b, b = (if false = true ∨ f.within < min wait more then p.price else max 0 (p.price - f.discount)) := ⟨_, rfl⟩
    obtain ⟨c, hc⟩ : ∃ c, c = (if false = true ∨ f.within < max wait more then p.price else max 0 (p.price - f.discount)) := ⟨_, rfl⟩
    obtain ⟨a, ha⟩ : ∃ a, a = (if true = true ∨ f.within < wait then p.price else max 0 (p.price - f.discount)) := ⟨_, rfl⟩
    simp -implicitDefEqProofs (disch := omega) only [go_sem, Nat.reduceAdd, Nat.reduceMul, Nat.reduceSub, Nat.reduceBEq, Nat.reduceLeDiff, Nat.reduceLT, fn_transitlaw21_ProductDiscounts, e8_1, w8_1, e8_3, w8_3, c8_4, e8_6, w8_6, e8_8, w8_8, e8_10, w8_10, c8_11, e8_13, w8_13, c8_14, e8_16, w8_16, e8_18, w8_18, e8_20, w8_20, e8_22, w8_22, e8_24, w8_24, e8_26, w8_26, e8_28, w8_28, c8_29, e8_31, w8_31, c8_32, c8_33, c8_34, c8_35, e8_37, w8_37, c8_38, c8_39, c8_40, c8_41, c8_42, e8_44, w8_44, c8_45, c8_46, c8_47, c8_48, c8_49, c8_50, prV, r1, Fares.row, hp, Product.row, ← hb, ← hc, ← ha]
    have e1 : a = p.price := by rw [ha, if_pos (.inl rfl)]
    have e2 : b = p.price ∨ b = max 0 (p.price - f.discount) := by rw [hb]; split <;> simp
    have e3 : c = p.price ∨ c = max 0 (p.price - f.discount) := by rw [hc]; split <;> simp
    have e4 : b ≤ c := by
      rw [hb, hc]
      by_cases g : f.within < min wait more
      · rw [if_pos (.inr g), if_pos (.inr (by omega))]; omega
      · rw [if_neg (by simpa using by omega)]
        split <;> omega
    clear hb hc ha r1
    subst e1
    refine ifD (fun g => ?_) (fun g => ?_)
    rotate_left
    · exact absurd rfl g
    simp -implicitDefEqProofs (disch := omega) only [go_sem, Nat.reduceAdd, Nat.reduceMul, Nat.reduceSub, Nat.reduceBEq, Nat.reduceLeDiff, Nat.reduceLT, fn_transitlaw21_ProductDiscounts, e8_1, w8_1, e8_3, w8_3, c8_4, e8_6, w8_6, e8_8, w8_8, e8_10, w8_10, c8_11, e8_13, w8_13, c8_14, e8_16, w8_16, e8_18, w8_18, e8_20, w8_20, e8_22, w8_22, e8_24, w8_24, e8_26, w8_26, e8_28, w8_28, c8_29, e8_31, w8_31, c8_32, c8_33, c8_34, c8_35, e8_37, w8_37, c8_38, c8_39, c8_40, c8_41, c8_42, e8_44, w8_44, c8_45, c8_46, c8_47, c8_48, c8_49, c8_50]
    refine ifD (fun g => ?_) (fun g => ?_)
    · exfalso; omega
    simp -implicitDefEqProofs (disch := omega) only [go_sem, Nat.reduceAdd, Nat.reduceMul, Nat.reduceSub, Nat.reduceBEq, Nat.reduceLeDiff, Nat.reduceLT, fn_transitlaw21_ProductDiscounts, e8_1, w8_1, e8_3, w8_3, c8_4, e8_6, w8_6, e8_8, w8_8, e8_10, w8_10, c8_11, e8_13, w8_13, c8_14, e8_16, w8_16, e8_18, w8_18, e8_20, w8_20, e8_22, w8_22, e8_24, w8_24, e8_26, w8_26, e8_28, w8_28, c8_29, e8_31, w8_31, c8_32, c8_33, c8_34, c8_35, e8_37, w8_37, c8_38, c8_39, c8_40, c8_41, c8_42, e8_44, w8_44, c8_45, c8_46, c8_47, c8_48, c8_49, c8_50]
    refine ifD (fun g => ?_) (fun g => ?_)
    · exfalso; omega
    simp -implicitDefEqProofs (disch := omega) only [go_sem, Nat.reduceAdd, Nat.reduceMul, Nat.reduceSub, Nat.reduceBEq, Nat.reduceLeDiff, Nat.reduceLT, fn_transitlaw21_ProductDiscounts, e8_1, w8_1, e8_3, w8_3, c8_4, e8_6, w8_6, e8_8, w8_8, e8_10, w8_10, c8_11, e8_13, w8_13, c8_14, e8_16, w8_16, e8_18, w8_18, e8_20, w8_20, e8_22, w8_22, e8_24, w8_24, e8_26, w8_26, e8_28, w8_28, c8_29, e8_31, w8_31, c8_32, c8_33, c8_34, c8_35, e8_37, w8_37, c8_38, c8_39, c8_40, c8_41, c8_42, e8_44, w8_44, c8_45, c8_46, c8_47, c8_48, c8_49, c8_50]
    refine ifD (fun g => ?_) (fun g => ?_)
    · exfalso; omega
    simp -implicitDefEqProofs (disch := omega) only [go_sem, Nat.reduceAdd, Nat.reduceMul, Nat.reduceSub, Nat.reduceBEq, Nat.reduceLeDiff, Nat.reduceLT, fn_transitlaw21_ProductDiscounts, e8_1, w8_1, e8_3, w8_3, c8_4, e8_6, w8_6, e8_8, w8_8, e8_10, w8_10, c8_11, e8_13, w8_13, c8_14, e8_16, w8_16, e8_18, w8_18, e8_20, w8_20, e8_22, w8_22, e8_24, w8_24, e8_26, w8_26, e8_28, w8_28, c8_29, e8_31, w8_31, c8_32, c8_33, c8_34, c8_35, e8_37, w8_37, c8_38, c8_39, c8_40, c8_41, c8_42, e8_44, w8_44, c8_45, c8_46, c8_47, c8_48, c8_49, c8_50, Fares.row]
    refine ifD (fun g => ?_) (fun g => ?_)
    · exfalso; omega
    simp -implicitDefEqProofs (disch := omega) only [go_sem, Nat.reduceAdd, Nat.reduceMul, Nat.reduceSub, Nat.reduceBEq, Nat.reduceLeDiff, Nat.reduceLT, fn_transitlaw21_ProductDiscounts, e8_1, w8_1, e8_3, w8_3, c8_4, e8_6, w8_6, e8_8, w8_8, e8_10, w8_10, c8_11, e8_13, w8_13, c8_14, e8_16, w8_16, e8_18, w8_18, e8_20, w8_20, e8_22, w8_22, e8_24, w8_24, e8_26, w8_26, e8_28, w8_28, c8_29, e8_31, w8_31, c8_32, c8_33, c8_34, c8_35, e8_37, w8_37, c8_38, c8_39, c8_40, c8_41, c8_42, e8_44, w8_44, c8_45, c8_46, c8_47, c8_48, c8_49, c8_50, Fares.row]
    exact next_stay hi ⟨rfl, rfl⟩
  · rintro vs M ⟨rfl, rfl⟩
    simp -implicitDefEqProofs (disch := omega) only [go_sem, Nat.reduceAdd, Nat.reduceMul, Nat.reduceSub, Nat.reduceBEq, Nat.reduceLeDiff, Nat.reduceLT, fn_transitlaw21_ProductDiscounts, e8_1, w8_1, e8_3, w8_3, c8_4, e8_6, w8_6, e8_8, w8_8, e8_10, w8_10, c8_11, e8_13, w8_13, c8_14, e8_16, w8_16, e8_18, w8_18, e8_20, w8_20, e8_22, w8_22, e8_24, w8_24, e8_26, w8_26, e8_28, w8_28, c8_29, e8_31, w8_31, c8_32, c8_33, c8_34, c8_35, e8_37, w8_37, c8_38, c8_39, c8_40, c8_41, c8_42, e8_44, w8_44, c8_45, c8_46, c8_47, c8_48, c8_49, c8_50, dec_irrefl, Fares.row]
    first | refine callD (example_ok) ?_ | refine callQD (example_ok) ?_
    simp -implicitDefEqProofs (disch := omega) only [go_sem, Nat.reduceAdd, Nat.reduceMul, Nat.reduceSub, Nat.reduceBEq, Nat.reduceLeDiff, Nat.reduceLT, fn_transitlaw21_ProductDiscounts, e8_1, w8_1, e8_3, w8_3, c8_4, e8_6, w8_6, e8_8, w8_8, e8_10, w8_10, c8_11, e8_13, w8_13, c8_14, e8_16, w8_16, e8_18, w8_18, e8_20, w8_20, e8_22, w8_22, e8_24, w8_24, e8_26, w8_26, e8_28, w8_28, c8_29, e8_31, w8_31, c8_32, c8_33, c8_34, c8_35, e8_37, w8_37, c8_38, c8_39, c8_40, c8_41, c8_42, e8_44, w8_44, c8_45, c8_46, c8_47, c8_48, c8_49, c8_50, Fares.row]

end Go.Vm.C

