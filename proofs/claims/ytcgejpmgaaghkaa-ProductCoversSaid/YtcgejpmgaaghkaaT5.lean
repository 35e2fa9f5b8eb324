/- Contracts: prices and the cheapest product. -/
import Derived.Test.YtcgejpmgaaghkaaT4

namespace Go.Vm.C
open Go.Vm
set_option maxHeartbeats 1000000
set_option maxRecDepth 10000
set_option linter.unusedSimpArgs false
set_option linter.unusedVariables false

theorem firstErr_zero {e : Nat → Int} {n : Nat} (h : (firstErr e n).2 = 0) : ∀ k, k < n → e k = 0 := by
  intro k hk
  unfold firstErr at h
  cases hf : (List.range n).find? (fun k => decide (e k ≠ 0)) with
  | none =>
    rw [List.find?_eq_none] at hf
    have := hf k (List.mem_range.2 hk)
    simpa using this
  | some j =>
    rw [hf] at h
    have := List.find?_some hf
    simp only [ne_eq, decide_not, Bool.not_eq_true', decide_eq_false_iff_not] at this
    exact absurd h this

theorem within_iff {n a b : Int} : within n a b = true ↔ a ≤ n ∧ n ≤ b := by simp [within]

structure Fares.Ok (f : Fares) : Prop where
  discount : 0 ≤ f.discount ∧ f.discount ≤ 1000000
  within : 0 ≤ f.within ∧ f.within ≤ 86400
  limit : 0 ≤ f.limit ∧ f.limit ≤ 1000000
  len : f.products.length ≤ 16
  prods : ∀ p ∈ f.products, (0 ≤ p.price ∧ p.price ≤ 1000000) ∧ (1 ≤ p.rides ∧ p.rides ≤ 8) ∧ (1 ≤ p.zones ∧ p.zones ≤ 16) ∧ (0 ≤ p.seconds ∧ p.seconds ≤ 86400) ∧ (1 ≤ p.modes ∧ p.modes ≤ 255)

theorem checkRes_ok {f : Fares} (h : (checkRes f).2 = 0) : f.Ok := by
  unfold checkRes at h
  split at h
  · rename_i hw
    split at h
    · simp at h
    · rename_i hl
      have hz := firstErr_zero h
      refine ⟨within_iff.1 hw.1, within_iff.1 hw.2.1, within_iff.1 hw.2.2, by omega, fun p hp => ?_⟩
      obtain ⟨i, hi⟩ := List.getElem?_of_mem hp
      have := hz i (List.getElem?_eq_some_iff.1 hi).1
      simp only [prodErr, hi] at this
      split at this
      · simp at this
      · split at this
        · simp at this
        · split at this
          · simp at this
          · rename_i hr
            simp only [Bool.not_eq_false, Product.right, Bool.and_eq_true, within_iff] at hr
            exact hr
  · simp at h

def priceAt (f : Fares) (i : Nat) : Int := ((f.products[i]?).map Product.price).getD 0
theorem priceAt_eq {f : Fares} {i : Nat} {p : Product} (h : f.products[i]? = some p) : priceAt f i = p.price := by simp [priceAt, h]

/-- The price of a ticket. -/
def priceRes (f : Fares) (i : Int) (first : Bool) (wait : Int) : Int × Bool :=
  if (checkRes f).2 ≠ 0 ∨ i < 0 ∨ (f.products.length : Int) ≤ i then (0, false)
  else if first = true ∨ f.within < wait then (priceAt f i.toNat, true) else (max 0 (priceAt f i.toNat - f.discount), true)

def prV (p : Int × Bool) : V := .tuple [.int .i64 p.1, .bool p.2]

theorem priceRes_no {f : Fares} {i : Int} {first : Bool} {wait : Int} (h : (checkRes f).2 ≠ 0 ∨ i < 0 ∨ (f.products.length : Int) ≤ i) : priceRes f i first wait = (0, false) := by rw [priceRes, if_pos h]

theorem product_Price_ok (f : Fares) (i : Int) (first : Bool) (wait : Int) (hf : f.wf) : PCalls PR i_product_Price [.agg f.row, .int .i64 i, .bool first, .int .i64 wait] (fun v => v = prV (priceRes f i first wait)) := by
  refine acalls_pop fn_product_Price_ok (by simp [fn_product_Price]) ?_
  simp -implicitDefEqProofs (disch := omega) only [go_sem, Nat.reduceAdd, Nat.reduceMul, Nat.reduceSub, Nat.reduceBEq, Nat.reduceLeDiff, Nat.reduceLT, fn_product_Price, e18_1, w18_1, e18_3, w18_3, e18_5, w18_5, c18_6, e18_8, w18_8, e18_10, w18_10, e18_12, w18_12, c18_13, e18_15, w18_15, e18_17, w18_17, c18_18, c18_19, c18_20, c18_21, c18_22, c18_23, Fares.row]
  first | refine callD (product_Check_ok f hf) ?_ | refine callQD (product_Check_ok f hf) ?_
  simp -implicitDefEqProofs (disch := omega) only [go_sem, Nat.reduceAdd, Nat.reduceMul, Nat.reduceSub, Nat.reduceBEq, Nat.reduceLeDiff, Nat.reduceLT, fn_product_Price, e18_1, w18_1, e18_3, w18_3, e18_5, w18_5, c18_6, e18_8, w18_8, e18_10, w18_10, e18_12, w18_12, c18_13, e18_15, w18_15, e18_17, w18_17, c18_18, c18_19, c18_20, c18_21, c18_22, c18_23, pairV]
  refine ifD (fun h1 => ?_) (fun h1 => ?_)
  rotate_left
  · simp -implicitDefEqProofs (disch := omega) only [go_sem, Nat.reduceAdd, Nat.reduceMul, Nat.reduceSub, Nat.reduceBEq, Nat.reduceLeDiff, Nat.reduceLT, fn_product_Price, e18_1, w18_1, e18_3, w18_3, e18_5, w18_5, c18_6, e18_8, w18_8, e18_10, w18_10, e18_12, w18_12, c18_13, e18_15, w18_15, e18_17, w18_17, c18_18, c18_19, c18_20, c18_21, c18_22, c18_23, priceRes_no (.inl h1), prV]
  simp -implicitDefEqProofs (disch := omega) only [go_sem, Nat.reduceAdd, Nat.reduceMul, Nat.reduceSub, Nat.reduceBEq, Nat.reduceLeDiff, Nat.reduceLT, fn_product_Price, e18_1, w18_1, e18_3, w18_3, e18_5, w18_5, c18_6, e18_8, w18_8, e18_10, w18_10, e18_12, w18_12, c18_13, e18_15, w18_15, e18_17, w18_17, c18_18, c18_19, c18_20, c18_21, c18_22, c18_23]
  refine ifD (fun h2 => ?_) (fun h2 => ?_)
  · simp -implicitDefEqProofs (disch := omega) only [go_sem, Nat.reduceAdd, Nat.reduceMul, Nat.reduceSub, Nat.reduceBEq, Nat.reduceLeDiff, Nat.reduceLT, fn_product_Price, e18_1, w18_1, e18_3, w18_3, e18_5, w18_5, c18_6, e18_8, w18_8, e18_10, w18_10, e18_12, w18_12, c18_13, e18_15, w18_15, e18_17, w18_17, c18_18, c18_19, c18_20, c18_21, c18_22, c18_23, priceRes_no (.inr (.inl h2)), prV]
  simp -implicitDefEqProofs (disch := omega) only [go_sem, Nat.reduceAdd, Nat.reduceMul, Nat.reduceSub, Nat.reduceBEq, Nat.reduceLeDiff, Nat.reduceLT, fn_product_Price, e18_1, w18_1, e18_3, w18_3, e18_5, w18_5, c18_6, e18_8, w18_8, e18_10, w18_10, e18_12, w18_12, c18_13, e18_15, w18_15, e18_17, w18_17, c18_18, c18_19, c18_20, c18_21, c18_22, c18_23, Fares.row]
  refine ifD (fun h3 => ?_) (fun h3 => ?_)
  · simp -implicitDefEqProofs (disch := omega) only [go_sem, Nat.reduceAdd, Nat.reduceMul, Nat.reduceSub, Nat.reduceBEq, Nat.reduceLeDiff, Nat.reduceLT, fn_product_Price, e18_1, w18_1, e18_3, w18_3, e18_5, w18_5, c18_6, e18_8, w18_8, e18_10, w18_10, e18_12, w18_12, c18_13, e18_15, w18_15, e18_17, w18_17, c18_18, c18_19, c18_20, c18_21, c18_22, c18_23, priceRes_no (.inr (.inr h3)), prV, Fares.row]
  obtain ⟨k, rfl⟩ : ∃ k : Nat, i = k := ⟨i.toNat, by omega⟩
  obtain ⟨p, hp⟩ : ∃ p, f.products[k]? = some p := ⟨f.products[k]'(by omega), by simp⟩
  have hok := checkRes_ok h1
  obtain ⟨⟨p1, p2⟩, _⟩ := hok.prods p (List.mem_of_getElem? hp)
  obtain ⟨d1, d2⟩ := hok.discount
  have hres : priceRes f k first wait = if first = true ∨ f.within < wait then (p.price, true) else (max 0 (p.price - f.discount), true) := by
    rw [priceRes, if_neg (by rw [not_or, not_or]; exact ⟨by simp [h1], h2, h3⟩), Int.toNat_natCast, priceAt_eq hp]
  simp -implicitDefEqProofs (disch := omega) only [go_sem, Nat.reduceAdd, Nat.reduceMul, Nat.reduceSub, Nat.reduceBEq, Nat.reduceLeDiff, Nat.reduceLT, fn_product_Price, e18_1, w18_1, e18_3, w18_3, e18_5, w18_5, c18_6, e18_8, w18_8, e18_10, w18_10, e18_12, w18_12, c18_13, e18_15, w18_15, e18_17, w18_17, c18_18, c18_19, c18_20, c18_21, c18_22, c18_23, Fares.row, hp, Product.row]
  refine ifB (fun h4 => ?_) (fun h4 => ?_)
  · rw [if_pos (.inl h4)] at hres
    simp -implicitDefEqProofs (disch := omega) only [go_sem, Nat.reduceAdd, Nat.reduceMul, Nat.reduceSub, Nat.reduceBEq, Nat.reduceLeDiff, Nat.reduceLT, fn_product_Price, e18_1, w18_1, e18_3, w18_3, e18_5, w18_5, c18_6, e18_8, w18_8, e18_10, w18_10, e18_12, w18_12, c18_13, e18_15, w18_15, e18_17, w18_17, c18_18, c18_19, c18_20, c18_21, c18_22, c18_23, hres, prV]
  simp -implicitDefEqProofs (disch := omega) only [go_sem, Nat.reduceAdd, Nat.reduceMul, Nat.reduceSub, Nat.reduceBEq, Nat.reduceLeDiff, Nat.reduceLT, fn_product_Price, e18_1, w18_1, e18_3, w18_3, e18_5, w18_5, c18_6, e18_8, w18_8, e18_10, w18_10, e18_12, w18_12, c18_13, e18_15, w18_15, e18_17, w18_17, c18_18, c18_19, c18_20, c18_21, c18_22, c18_23, Fares.row]
  refine ifD (fun h5 => ?_) (fun h5 => ?_)
  · rw [if_pos (.inr h5)] at hres
    simp -implicitDefEqProofs (disch := omega) only [go_sem, Nat.reduceAdd, Nat.reduceMul, Nat.reduceSub, Nat.reduceBEq, Nat.reduceLeDiff, Nat.reduceLT, fn_product_Price, e18_1, w18_1, e18_3, w18_3, e18_5, w18_5, c18_6, e18_8, w18_8, e18_10, w18_10, e18_12, w18_12, c18_13, e18_15, w18_15, e18_17, w18_17, c18_18, c18_19, c18_20, c18_21, c18_22, c18_23, hres, prV]
  · rw [if_neg (by rw [not_or]; exact ⟨by simp [h4], h5⟩)] at hres
    simp -implicitDefEqProofs (disch := omega) only [go_sem, Nat.reduceAdd, Nat.reduceMul, Nat.reduceSub, Nat.reduceBEq, Nat.reduceLeDiff, Nat.reduceLT, fn_product_Price, e18_1, w18_1, e18_3, w18_3, e18_5, w18_5, c18_6, e18_8, w18_8, e18_10, w18_10, e18_12, w18_12, c18_13, e18_15, w18_15, e18_17, w18_17, c18_18, c18_19, c18_20, c18_21, c18_22, c18_23, Fares.row, hres, prV]

theorem transitref21_Price_ok (f : Fares) (i : Int) (first : Bool) (wait : Int) (hf : f.wf) : PCalls PR i_transitref21_Price [.agg f.row, .int .i64 i, .bool first, .int .i64 wait] (fun v => v = prV (priceRes f i first wait)) := by
  refine acalls_pop fn_transitref21_Price_ok (by simp [fn_transitref21_Price]) ?_
  simp -implicitDefEqProofs (disch := omega) only [go_sem, Nat.reduceAdd, Nat.reduceMul, Nat.reduceSub, Nat.reduceBEq, Nat.reduceLeDiff, Nat.reduceLT, fn_transitref21_Price, e19_1, w19_1, e19_3, w19_3, e19_5, w19_5, c19_6, e19_8, w19_8, c19_9, e19_11, w19_11, e19_13, w19_13, c19_14, e19_16, w19_16, e19_18, w19_18, c19_19, e19_21, w19_21, e19_23, w19_23, c19_24, c19_25, c19_26, c19_27, c19_28, c19_29, Fares.row]
  first | refine callD (transitref21_Check_ok f hf) ?_ | refine callQD (transitref21_Check_ok f hf) ?_
  simp -implicitDefEqProofs (disch := omega) only [go_sem, Nat.reduceAdd, Nat.reduceMul, Nat.reduceSub, Nat.reduceBEq, Nat.reduceLeDiff, Nat.reduceLT, fn_transitref21_Price, e19_1, w19_1, e19_3, w19_3, e19_5, w19_5, c19_6, e19_8, w19_8, c19_9, e19_11, w19_11, e19_13, w19_13, c19_14, e19_16, w19_16, e19_18, w19_18, c19_19, e19_21, w19_21, e19_23, w19_23, c19_24, c19_25, c19_26, c19_27, c19_28, c19_29, pairV]
  refine ifD (fun h1 => ?_) (fun h1 => ?_)
  rotate_left
  · simp -implicitDefEqProofs (disch := omega) only [go_sem, Nat.reduceAdd, Nat.reduceMul, Nat.reduceSub, Nat.reduceBEq, Nat.reduceLeDiff, Nat.reduceLT, fn_transitref21_Price, e19_1, w19_1, e19_3, w19_3, e19_5, w19_5, c19_6, e19_8, w19_8, c19_9, e19_11, w19_11, e19_13, w19_13, c19_14, e19_16, w19_16, e19_18, w19_18, c19_19, e19_21, w19_21, e19_23, w19_23, c19_24, c19_25, c19_26, c19_27, c19_28, c19_29, priceRes_no (.inl h1), prV]
  simp -implicitDefEqProofs (disch := omega) only [go_sem, Nat.reduceAdd, Nat.reduceMul, Nat.reduceSub, Nat.reduceBEq, Nat.reduceLeDiff, Nat.reduceLT, fn_transitref21_Price, e19_1, w19_1, e19_3, w19_3, e19_5, w19_5, c19_6, e19_8, w19_8, c19_9, e19_11, w19_11, e19_13, w19_13, c19_14, e19_16, w19_16, e19_18, w19_18, c19_19, e19_21, w19_21, e19_23, w19_23, c19_24, c19_25, c19_26, c19_27, c19_28, c19_29]
  refine ifD (fun h2 => ?_) (fun h2 => ?_)
  · simp -implicitDefEqProofs (disch := omega) only [go_sem, Nat.reduceAdd, Nat.reduceMul, Nat.reduceSub, Nat.reduceBEq, Nat.reduceLeDiff, Nat.reduceLT, fn_transitref21_Price, e19_1, w19_1, e19_3, w19_3, e19_5, w19_5, c19_6, e19_8, w19_8, c19_9, e19_11, w19_11, e19_13, w19_13, c19_14, e19_16, w19_16, e19_18, w19_18, c19_19, e19_21, w19_21, e19_23, w19_23, c19_24, c19_25, c19_26, c19_27, c19_28, c19_29, priceRes_no (.inr (.inl h2)), prV]
  simp -implicitDefEqProofs (disch := omega) only [go_sem, Nat.reduceAdd, Nat.reduceMul, Nat.reduceSub, Nat.reduceBEq, Nat.reduceLeDiff, Nat.reduceLT, fn_transitref21_Price, e19_1, w19_1, e19_3, w19_3, e19_5, w19_5, c19_6, e19_8, w19_8, c19_9, e19_11, w19_11, e19_13, w19_13, c19_14, e19_16, w19_16, e19_18, w19_18, c19_19, e19_21, w19_21, e19_23, w19_23, c19_24, c19_25, c19_26, c19_27, c19_28, c19_29, Fares.row]
  refine ifD (fun h3 => ?_) (fun h3 => ?_)
  · simp -implicitDefEqProofs (disch := omega) only [go_sem, Nat.reduceAdd, Nat.reduceMul, Nat.reduceSub, Nat.reduceBEq, Nat.reduceLeDiff, Nat.reduceLT, fn_transitref21_Price, e19_1, w19_1, e19_3, w19_3, e19_5, w19_5, c19_6, e19_8, w19_8, c19_9, e19_11, w19_11, e19_13, w19_13, c19_14, e19_16, w19_16, e19_18, w19_18, c19_19, e19_21, w19_21, e19_23, w19_23, c19_24, c19_25, c19_26, c19_27, c19_28, c19_29, priceRes_no (.inr (.inr h3)), prV, Fares.row]
  obtain ⟨k, rfl⟩ : ∃ k : Nat, i = k := ⟨i.toNat, by omega⟩
  obtain ⟨p, hp⟩ : ∃ p, f.products[k]? = some p := ⟨f.products[k]'(by omega), by simp⟩
  have hok := checkRes_ok h1
  obtain ⟨⟨p1, p2⟩, _⟩ := hok.prods p (List.mem_of_getElem? hp)
  obtain ⟨d1, d2⟩ := hok.discount
  have hres : priceRes f k first wait = if first = true ∨ f.within < wait then (p.price, true) else (max 0 (p.price - f.discount), true) := by
    rw [priceRes, if_neg (by rw [not_or, not_or]; exact ⟨by simp [h1], h2, h3⟩), Int.toNat_natCast, priceAt_eq hp]
  simp -implicitDefEqProofs (disch := omega) only [go_sem, Nat.reduceAdd, Nat.reduceMul, Nat.reduceSub, Nat.reduceBEq, Nat.reduceLeDiff, Nat.reduceLT, fn_transitref21_Price, e19_1, w19_1, e19_3, w19_3, e19_5, w19_5, c19_6, e19_8, w19_8, c19_9, e19_11, w19_11, e19_13, w19_13, c19_14, e19_16, w19_16, e19_18, w19_18, c19_19, e19_21, w19_21, e19_23, w19_23, c19_24, c19_25, c19_26, c19_27, c19_28, c19_29, Fares.row, hp, Product.row]
  refine ifB (fun h4 => ?_) (fun h4 => ?_)
  · rw [if_pos (.inl h4)] at hres
    simp -implicitDefEqProofs (disch := omega) only [go_sem, Nat.reduceAdd, Nat.reduceMul, Nat.reduceSub, Nat.reduceBEq, Nat.reduceLeDiff, Nat.reduceLT, fn_transitref21_Price, e19_1, w19_1, e19_3, w19_3, e19_5, w19_5, c19_6, e19_8, w19_8, c19_9, e19_11, w19_11, e19_13, w19_13, c19_14, e19_16, w19_16, e19_18, w19_18, c19_19, e19_21, w19_21, e19_23, w19_23, c19_24, c19_25, c19_26, c19_27, c19_28, c19_29, hres, prV]
  simp -implicitDefEqProofs (disch := omega) only [go_sem, Nat.reduceAdd, Nat.reduceMul, Nat.reduceSub, Nat.reduceBEq, Nat.reduceLeDiff, Nat.reduceLT, fn_transitref21_Price, e19_1, w19_1, e19_3, w19_3, e19_5, w19_5, c19_6, e19_8, w19_8, c19_9, e19_11, w19_11, e19_13, w19_13, c19_14, e19_16, w19_16, e19_18, w19_18, c19_19, e19_21, w19_21, e19_23, w19_23, c19_24, c19_25, c19_26, c19_27, c19_28, c19_29, Fares.row]
  refine ifD (fun h5 => ?_) (fun h5 => ?_)
  · rw [if_pos (.inr h5)] at hres
    simp -implicitDefEqProofs (disch := omega) only [go_sem, Nat.reduceAdd, Nat.reduceMul, Nat.reduceSub, Nat.reduceBEq, Nat.reduceLeDiff, Nat.reduceLT, fn_transitref21_Price, e19_1, w19_1, e19_3, w19_3, e19_5, w19_5, c19_6, e19_8, w19_8, c19_9, e19_11, w19_11, e19_13, w19_13, c19_14, e19_16, w19_16, e19_18, w19_18, c19_19, e19_21, w19_21, e19_23, w19_23, c19_24, c19_25, c19_26, c19_27, c19_28, c19_29, hres, prV]
  rw [if_neg (by rw [not_or]; exact ⟨by simp [h4], h5⟩)] at hres
  simp -implicitDefEqProofs (disch := omega) only [go_sem, Nat.reduceAdd, Nat.reduceMul, Nat.reduceSub, Nat.reduceBEq, Nat.reduceLeDiff, Nat.reduceLT, fn_transitref21_Price, e19_1, w19_1, e19_3, w19_3, e19_5, w19_5, c19_6, e19_8, w19_8, c19_9, e19_11, w19_11, e19_13, w19_13, c19_14, e19_16, w19_16, e19_18, w19_18, c19_19, e19_21, w19_21, e19_23, w19_23, c19_24, c19_25, c19_26, c19_27, c19_28, c19_29, Fares.row]
  refine ifD (fun h6 => ?_) (fun h6 => ?_)
  · rw [show max 0 (p.price - f.discount) = 0 by omega] at hres
    simp -implicitDefEqProofs (disch := omega) only [go_sem, Nat.reduceAdd, Nat.reduceMul, Nat.reduceSub, Nat.reduceBEq, Nat.reduceLeDiff, Nat.reduceLT, fn_transitref21_Price, e19_1, w19_1, e19_3, w19_3, e19_5, w19_5, c19_6, e19_8, w19_8, c19_9, e19_11, w19_11, e19_13, w19_13, c19_14, e19_16, w19_16, e19_18, w19_18, c19_19, e19_21, w19_21, e19_23, w19_23, c19_24, c19_25, c19_26, c19_27, c19_28, c19_29, Fares.row, hres, prV]
  · rw [show max 0 (p.price - f.discount) = p.price - f.discount by omega] at hres
    simp -implicitDefEqProofs (disch := omega) only [go_sem, Nat.reduceAdd, Nat.reduceMul, Nat.reduceSub, Nat.reduceBEq, Nat.reduceLeDiff, Nat.reduceLT, fn_transitref21_Price, e19_1, w19_1, e19_3, w19_3, e19_5, w19_5, c19_6, e19_8, w19_8, c19_9, e19_11, w19_11, e19_13, w19_13, c19_14, e19_16, w19_16, e19_18, w19_18, c19_19, e19_21, w19_21, e19_23, w19_23, c19_24, c19_25, c19_26, c19_27, c19_28, c19_29, Fares.row, hres, prV]

/-! ### Cheapest -/
def better (pr : Nat → Int) (b i : Nat) : Nat := if pr i < pr b then i else b
def bestK (pr : Nat → Int) (l : List Nat) (k : Nat) : Nat := (l.take k).foldl (better pr) (l.headD 0)
theorem bestK_succ {pr : Nat → Int} {l : List Nat} {k i : Nat} (h : l[k]? = some i) : bestK pr l (k + 1) = better pr (bestK pr l k) i := by
  rw [bestK, List.take_add_one, h, List.foldl_append]; rfl
theorem bestK_zero {pr : Nat → Int} {l : List Nat} {i : Nat} (h : l[0]? = some i) : bestK pr l 0 = i := by
  cases l with
  | nil => simp at h
  | cons a r => simp at h; simp [bestK, h]
theorem bestK_mem {pr : Nat → Int} {l : List Nat} (h : 0 < l.length) : ∀ k, k ≤ l.length → bestK pr l k ∈ l
  | 0, _ => by
    cases l with
    | nil => simp at h
    | cons a r => simp [bestK]
  | k + 1, hk => by
    obtain ⟨i, hi⟩ : ∃ i, l[k]? = some i := ⟨l[k], by simp⟩
    rw [bestK_succ hi, better]
    split
    · exact List.mem_of_getElem? hi
    · exact bestK_mem h k (by omega)

/-- The cheapest product. -/
def cheapest (f : Fares) (l : List Ride) : Int × Int × Bool :=
  if (checkRes f).2 ≠ 0 ∨ (options f l).length = 0 then (0, 0, false)
  else let b := bestK (priceAt f) (options f l) (options f l).length; ((b : Int), priceAt f b, true)
def chV (p : Int × Int × Bool) : V := .tuple [.int .i64 p.1, .int .i64 p.2.1, .bool p.2.2]

/-- What is kept after k options. -/
def kept (f : Fares) (o : List Nat) (k : Nat) : Mem :=
  if k = 0 then [.box f.row, .box [.int .i64 0], .box [.int .i64 0], .box [.bool false]]
  else [.box f.row, .box [.int .i64 (bestK (priceAt f) o k)], .box [.int .i64 (priceAt f (bestK (priceAt f) o k))], .box [.bool true]]

theorem Cheapest_keep (f : Fares) (o : List Nat) (k i : Nat) (hi : o[k]? = some i) (hil : i < f.products.length) :
    ACalls PR i_product_Cheapest_1 [.int .i64 i, .ptr 0 0, .ptr 3 0, .ptr 2 0, .ptr 1 0] (kept f o k) (fun v M' => v = .tuple [] ∧ M' = kept f o (k + 1)) := by
  obtain ⟨p, hp⟩ : ∃ p, f.products[i]? = some p := ⟨f.products[i], by simp⟩
  have hpr := priceAt_eq hp
  have hb := bestK_succ (pr := priceAt f) hi
  refine acalls_pop fn_product_Cheapest_1_ok (by simp [fn_product_Cheapest_1]) ?_
  by_cases hk : k = 0
  · subst hk
    rw [bestK_zero hi] at hb
    have hbi : better (priceAt f) i i = i := by simp [better]
    rw [hbi] at hb
    simp only [kept, if_true, if_neg (Nat.succ_ne_zero 0), Nat.zero_add, hb] at *
    simp -implicitDefEqProofs (disch := omega) only [go_sem, Nat.reduceAdd, Nat.reduceMul, Nat.reduceSub, Nat.reduceBEq, Nat.reduceLeDiff, Nat.reduceLT, fn_product_Cheapest_1, e36_1, w36_1, e36_3, w36_3, e36_5, w36_5, c36_6, Fares.row, hp, Product.row, hpr]
  · simp only [kept, if_neg hk, if_neg (Nat.succ_ne_zero k), hb]
    simp -implicitDefEqProofs (disch := omega) only [go_sem, Nat.reduceAdd, Nat.reduceMul, Nat.reduceSub, Nat.reduceBEq, Nat.reduceLeDiff, Nat.reduceLT, fn_product_Cheapest_1, e36_1, w36_1, e36_3, w36_3, e36_5, w36_5, c36_6, Fares.row, hp, Product.row]
    refine ifD (fun h => ?_) (fun h => ?_)
    · have : better (priceAt f) (bestK (priceAt f) o k) i = i := by rw [better, if_pos (by rw [hpr]; exact h)]
      simp -implicitDefEqProofs (disch := omega) only [go_sem, Nat.reduceAdd, Nat.reduceMul, Nat.reduceSub, Nat.reduceBEq, Nat.reduceLeDiff, Nat.reduceLT, fn_product_Cheapest_1, e36_1, w36_1, e36_3, w36_3, e36_5, w36_5, c36_6, Fares.row, this, hpr]
    · have : better (priceAt f) (bestK (priceAt f) o k) i = bestK (priceAt f) o k := by rw [better, if_neg (by rw [hpr]; exact h)]
      simp -implicitDefEqProofs (disch := omega) only [go_sem, Nat.reduceAdd, Nat.reduceMul, Nat.reduceSub, Nat.reduceBEq, Nat.reduceLeDiff, Nat.reduceLT, fn_product_Cheapest_1, e36_1, w36_1, e36_3, w36_3, e36_5, w36_5, c36_6, Fares.row, this]

theorem options_len (f : Fares) (l : List Ride) : (options f l).length ≤ f.products.length := idxs_le _ _
theorem options_lt {f : Fares} {l : List Ride} {i : Nat} (h : i ∈ options f l) : i < f.products.length := (idxs_mem.1 h).1

theorem product_Cheapest_ok (f : Fares) (l : List Ride) (c : Cap) (hf : f.wf) (hl : ∀ r ∈ l, r.wf) (hlen : l.length ≤ maxLen) (hsm : f.products.length ≤ 40) : PCalls PR i_product_Cheapest [.agg f.row, .slice (l.map Ride.row) c] (fun v => v = chV (cheapest f l)) := by
  refine acalls_pop fn_product_Cheapest_ok (by simp [fn_product_Cheapest]) ?_
  have hm := options_len f l
  simp -implicitDefEqProofs (disch := omega) only [go_sem, Nat.reduceAdd, Nat.reduceMul, Nat.reduceSub, Nat.reduceBEq, Nat.reduceLeDiff, Nat.reduceLT, fn_product_Cheapest, e20_1, w20_1, e20_3, w20_3, e20_5, w20_5, c20_6, e20_8, w20_8, e20_10, w20_10, e20_12, w20_12, e20_14, w20_14, e20_16, w20_16, c20_17, e20_19, w20_19, e20_21, w20_21, c20_22, c20_23, e20_25, w20_25, c20_26, c20_27, c20_28, c20_29, c20_30, c20_31, e20_33, w20_33, c20_34, c20_35, c20_36, c20_37, c20_38, c20_39, c20_40, Fares.row]
  first | refine callD (product_Check_ok f hf) ?_ | refine callQD (product_Check_ok f hf) ?_
  simp -implicitDefEqProofs (disch := omega) only [go_sem, Nat.reduceAdd, Nat.reduceMul, Nat.reduceSub, Nat.reduceBEq, Nat.reduceLeDiff, Nat.reduceLT, fn_product_Cheapest, e20_1, w20_1, e20_3, w20_3, e20_5, w20_5, c20_6, e20_8, w20_8, e20_10, w20_10, e20_12, w20_12, e20_14, w20_14, e20_16, w20_16, c20_17, e20_19, w20_19, e20_21, w20_21, c20_22, c20_23, e20_25, w20_25, c20_26, c20_27, c20_28, c20_29, c20_30, c20_31, e20_33, w20_33, c20_34, c20_35, c20_36, c20_37, c20_38, c20_39, c20_40, pairV]
  refine ifD (fun h1 => ?_) (fun h1 => ?_)
  rotate_left
  · have : cheapest f l = (0, 0, false) := by rw [cheapest, if_pos (.inl h1)]
    simp -implicitDefEqProofs (disch := omega) only [go_sem, Nat.reduceAdd, Nat.reduceMul, Nat.reduceSub, Nat.reduceBEq, Nat.reduceLeDiff, Nat.reduceLT, fn_product_Cheapest, e20_1, w20_1, e20_3, w20_3, e20_5, w20_5, c20_6, e20_8, w20_8, e20_10, w20_10, e20_12, w20_12, e20_14, w20_14, e20_16, w20_16, c20_17, e20_19, w20_19, e20_21, w20_21, c20_22, c20_23, e20_25, w20_25, c20_26, c20_27, c20_28, c20_29, c20_30, c20_31, e20_33, w20_33, c20_34, c20_35, c20_36, c20_37, c20_38, c20_39, c20_40, this, chV]
  simp -implicitDefEqProofs (disch := omega) only [go_sem, Nat.reduceAdd, Nat.reduceMul, Nat.reduceSub, Nat.reduceBEq, Nat.reduceLeDiff, Nat.reduceLT, fn_product_Cheapest, e20_1, w20_1, e20_3, w20_3, e20_5, w20_5, c20_6, e20_8, w20_8, e20_10, w20_10, e20_12, w20_12, e20_14, w20_14, e20_16, w20_16, c20_17, e20_19, w20_19, e20_21, w20_21, c20_22, c20_23, e20_25, w20_25, c20_26, c20_27, c20_28, c20_29, c20_30, c20_31, e20_33, w20_33, c20_34, c20_35, c20_36, c20_37, c20_38, c20_39, c20_40, Fares.row]
  first | refine callD (product_Options_ok f l c hf hl hlen hsm) ?_ | refine callQD (product_Options_ok f l c hf hl hlen hsm) ?_
  simp -implicitDefEqProofs (disch := omega) only [go_sem, Nat.reduceAdd, Nat.reduceMul, Nat.reduceSub, Nat.reduceBEq, Nat.reduceLeDiff, Nat.reduceLT, fn_product_Cheapest, e20_1, w20_1, e20_3, w20_3, e20_5, w20_5, c20_6, e20_8, w20_8, e20_10, w20_10, e20_12, w20_12, e20_14, w20_14, e20_16, w20_16, c20_17, e20_19, w20_19, e20_21, w20_21, c20_22, c20_23, e20_25, w20_25, c20_26, c20_27, c20_28, c20_29, c20_30, c20_31, e20_33, w20_33, c20_34, c20_35, c20_36, c20_37, c20_38, c20_39, c20_40]
  refine wpC_forL (options f l) (fun k vs M => vs = [.ptr 1 0, .ptr 2 0, .ptr 3 0, .fn i_product_Cheapest_1 [.ptr 0 0, .ptr 3 0, .ptr 2 0, .ptr 1 0], .slice ((options f l).map intRow) .unk, .int .i64 (options f l).length, .int .i64 k] ∧
    M = kept f (options f l) k) ⟨rfl, rfl⟩ ?_ ?_
  · rintro k i vs M hi hk hd ⟨rfl, rfl⟩
    simp -implicitDefEqProofs (disch := omega) only [go_sem, Nat.reduceAdd, Nat.reduceMul, Nat.reduceSub, Nat.reduceBEq, Nat.reduceLeDiff, Nat.reduceLT, fn_product_Cheapest, e20_1, w20_1, e20_3, w20_3, e20_5, w20_5, c20_6, e20_8, w20_8, e20_10, w20_10, e20_12, w20_12, e20_14, w20_14, e20_16, w20_16, c20_17, e20_19, w20_19, e20_21, w20_21, c20_22, c20_23, e20_25, w20_25, c20_26, c20_27, c20_28, c20_29, c20_30, c20_31, e20_33, w20_33, c20_34, c20_35, c20_36, c20_37, c20_38, c20_39, c20_40, hd, hi, intRow]
    refine callA (Cheapest_keep f (options f l) k i hi (options_lt (List.mem_of_getElem? hi))) ?_
    rintro v M' ⟨rfl, rfl⟩
    simp -implicitDefEqProofs (disch := omega) only [go_sem, Nat.reduceAdd, Nat.reduceMul, Nat.reduceSub, Nat.reduceBEq, Nat.reduceLeDiff, Nat.reduceLT, fn_product_Cheapest, e20_1, w20_1, e20_3, w20_3, e20_5, w20_5, c20_6, e20_8, w20_8, e20_10, w20_10, e20_12, w20_12, e20_14, w20_14, e20_16, w20_16, c20_17, e20_19, w20_19, e20_21, w20_21, c20_22, c20_23, e20_25, w20_25, c20_26, c20_27, c20_28, c20_29, c20_30, c20_31, e20_33, w20_33, c20_34, c20_35, c20_36, c20_37, c20_38, c20_39, c20_40]
    exact next_stay hk ⟨rfl, rfl⟩
  · rintro vs M ⟨rfl, rfl⟩
    by_cases h0 : (options f l).length = 0
    · have : cheapest f l = (0, 0, false) := by rw [cheapest, if_pos (.inr h0)]
      simp only [kept, h0, if_true]
      simp -implicitDefEqProofs (disch := omega) only [go_sem, Nat.reduceAdd, Nat.reduceMul, Nat.reduceSub, Nat.reduceBEq, Nat.reduceLeDiff, Nat.reduceLT, fn_product_Cheapest, e20_1, w20_1, e20_3, w20_3, e20_5, w20_5, c20_6, e20_8, w20_8, e20_10, w20_10, e20_12, w20_12, e20_14, w20_14, e20_16, w20_16, c20_17, e20_19, w20_19, e20_21, w20_21, c20_22, c20_23, e20_25, w20_25, c20_26, c20_27, c20_28, c20_29, c20_30, c20_31, e20_33, w20_33, c20_34, c20_35, c20_36, c20_37, c20_38, c20_39, c20_40, dec_irrefl, this, chV, Fares.row]
    · have : cheapest f l = ((bestK (priceAt f) (options f l) (options f l).length : Int), priceAt f (bestK (priceAt f) (options f l) (options f l).length), true) := by
        rw [cheapest, if_neg (by rw [not_or]; exact ⟨by simp [h1], h0⟩)]
      simp only [kept, if_neg h0]
      simp -implicitDefEqProofs (disch := omega) only [go_sem, Nat.reduceAdd, Nat.reduceMul, Nat.reduceSub, Nat.reduceBEq, Nat.reduceLeDiff, Nat.reduceLT, fn_product_Cheapest, e20_1, w20_1, e20_3, w20_3, e20_5, w20_5, c20_6, e20_8, w20_8, e20_10, w20_10, e20_12, w20_12, e20_14, w20_14, e20_16, w20_16, c20_17, e20_19, w20_19, e20_21, w20_21, c20_22, c20_23, e20_25, w20_25, c20_26, c20_27, c20_28, c20_29, c20_30, c20_31, e20_33, w20_33, c20_34, c20_35, c20_36, c20_37, c20_38, c20_39, c20_40, dec_irrefl, this, chV, Fares.row]

theorem transitref21_Cheapest_ok (f : Fares) (l : List Ride) (c : Cap) (hf : f.wf) (hl : ∀ r ∈ l, r.wf) (hlen : l.length ≤ maxLen) (hsm : f.products.length ≤ 40) : PCalls PR i_transitref21_Cheapest [.agg f.row, .slice (l.map Ride.row) c] (fun v => v = chV (cheapest f l)) := by
  refine acalls_pop fn_transitref21_Cheapest_ok (by simp [fn_transitref21_Cheapest]) ?_
  have hm := options_len f l
  simp -implicitDefEqProofs (disch := omega) only [go_sem, Nat.reduceAdd, Nat.reduceMul, Nat.reduceSub, Nat.reduceBEq, Nat.reduceLeDiff, Nat.reduceLT, fn_transitref21_Cheapest, e21_1, w21_1, e21_3, w21_3, e21_5, w21_5, e21_7, w21_7, c21_8, e21_10, w21_10, c21_11, e21_13, w21_13, e21_15, w21_15, e21_17, w21_17, e21_19, w21_19, e21_21, w21_21, c21_22, e21_24, w21_24, c21_25, c21_26, c21_27, c21_28, c21_29, e21_31, w21_31, c21_32, c21_33, c21_34, c21_35, c21_36, c21_37, Fares.row]
  first | refine callD (transitref21_Options_ok f l c hf hl hlen hsm) ?_ | refine callQD (transitref21_Options_ok f l c hf hl hlen hsm) ?_
  simp -implicitDefEqProofs (disch := omega) only [go_sem, Nat.reduceAdd, Nat.reduceMul, Nat.reduceSub, Nat.reduceBEq, Nat.reduceLeDiff, Nat.reduceLT, fn_transitref21_Cheapest, e21_1, w21_1, e21_3, w21_3, e21_5, w21_5, e21_7, w21_7, c21_8, e21_10, w21_10, c21_11, e21_13, w21_13, e21_15, w21_15, e21_17, w21_17, e21_19, w21_19, e21_21, w21_21, c21_22, e21_24, w21_24, c21_25, c21_26, c21_27, c21_28, c21_29, e21_31, w21_31, c21_32, c21_33, c21_34, c21_35, c21_36, c21_37, Fares.row]
  first | refine callD (transitref21_Check_ok f hf) ?_ | refine callQD (transitref21_Check_ok f hf) ?_
  simp -implicitDefEqProofs (disch := omega) only [go_sem, Nat.reduceAdd, Nat.reduceMul, Nat.reduceSub, Nat.reduceBEq, Nat.reduceLeDiff, Nat.reduceLT, fn_transitref21_Cheapest, e21_1, w21_1, e21_3, w21_3, e21_5, w21_5, e21_7, w21_7, c21_8, e21_10, w21_10, c21_11, e21_13, w21_13, e21_15, w21_15, e21_17, w21_17, e21_19, w21_19, e21_21, w21_21, c21_22, e21_24, w21_24, c21_25, c21_26, c21_27, c21_28, c21_29, e21_31, w21_31, c21_32, c21_33, c21_34, c21_35, c21_36, c21_37, pairV]
  refine ifD (fun h1 => ?_) (fun h1 => ?_)
  rotate_left
  · have : cheapest f l = (0, 0, false) := by rw [cheapest, if_pos (.inl h1)]
    simp -implicitDefEqProofs (disch := omega) only [go_sem, Nat.reduceAdd, Nat.reduceMul, Nat.reduceSub, Nat.reduceBEq, Nat.reduceLeDiff, Nat.reduceLT, fn_transitref21_Cheapest, e21_1, w21_1, e21_3, w21_3, e21_5, w21_5, e21_7, w21_7, c21_8, e21_10, w21_10, c21_11, e21_13, w21_13, e21_15, w21_15, e21_17, w21_17, e21_19, w21_19, e21_21, w21_21, c21_22, e21_24, w21_24, c21_25, c21_26, c21_27, c21_28, c21_29, e21_31, w21_31, c21_32, c21_33, c21_34, c21_35, c21_36, c21_37, this, chV]
  simp -implicitDefEqProofs (disch := omega) only [go_sem, Nat.reduceAdd, Nat.reduceMul, Nat.reduceSub, Nat.reduceBEq, Nat.reduceLeDiff, Nat.reduceLT, fn_transitref21_Cheapest, e21_1, w21_1, e21_3, w21_3, e21_5, w21_5, e21_7, w21_7, c21_8, e21_10, w21_10, c21_11, e21_13, w21_13, e21_15, w21_15, e21_17, w21_17, e21_19, w21_19, e21_21, w21_21, c21_22, e21_24, w21_24, c21_25, c21_26, c21_27, c21_28, c21_29, e21_31, w21_31, c21_32, c21_33, c21_34, c21_35, c21_36, c21_37]
  refine ifD (fun h2 => ?_) (fun h2 => ?_)
  · have : cheapest f l = (0, 0, false) := by rw [cheapest, if_pos (.inr (by omega))]
    simp -implicitDefEqProofs (disch := omega) only [go_sem, Nat.reduceAdd, Nat.reduceMul, Nat.reduceSub, Nat.reduceBEq, Nat.reduceLeDiff, Nat.reduceLT, fn_transitref21_Cheapest, e21_1, w21_1, e21_3, w21_3, e21_5, w21_5, e21_7, w21_7, c21_8, e21_10, w21_10, c21_11, e21_13, w21_13, e21_15, w21_15, e21_17, w21_17, e21_19, w21_19, e21_21, w21_21, c21_22, e21_24, w21_24, c21_25, c21_26, c21_27, c21_28, c21_29, e21_31, w21_31, c21_32, c21_33, c21_34, c21_35, c21_36, c21_37, this, chV]
  have h0 : 0 < (options f l).length := by omega
  have hres : cheapest f l = ((bestK (priceAt f) (options f l) (options f l).length : Int), priceAt f (bestK (priceAt f) (options f l) (options f l).length), true) := by
    rw [cheapest, if_neg (by rw [not_or]; exact ⟨by simp [h1], by omega⟩)]
  obtain ⟨a, _, ha, _⟩ := first_last h0
  have prod : ∀ j, j ∈ options f l → ∃ p, f.products[j]? = some p := fun j hj => ⟨f.products[j]'(options_lt hj), by simp⟩
  simp -implicitDefEqProofs (disch := omega) only [go_sem, Nat.reduceAdd, Nat.reduceMul, Nat.reduceSub, Nat.reduceBEq, Nat.reduceLeDiff, Nat.reduceLT, fn_transitref21_Cheapest, e21_1, w21_1, e21_3, w21_3, e21_5, w21_5, e21_7, w21_7, c21_8, e21_10, w21_10, c21_11, e21_13, w21_13, e21_15, w21_15, e21_17, w21_17, e21_19, w21_19, e21_21, w21_21, c21_22, e21_24, w21_24, c21_25, c21_26, c21_27, c21_28, c21_29, e21_31, w21_31, c21_32, c21_33, c21_34, c21_35, c21_36, c21_37, ha, intRow]
  refine wpC_forL (options f l) (fun k vs M => vs = [.ptr 0 0, .slice ((options f l).map intRow) .unk, .int .i64 (bestK (priceAt f) (options f l) k), .int .i64 k] ∧ M = [.box f.row]) ⟨by rw [bestK_zero ha]; rfl, rfl⟩ ?_ ?_
  · rintro k i vs M hi hk hd ⟨rfl, rfl⟩
    obtain ⟨p, hp⟩ := prod i (List.mem_of_getElem? hi)
    obtain ⟨q, hq⟩ := prod _ (bestK_mem (pr := priceAt f) h0 k (by omega))
    have hb := bestK_succ (pr := priceAt f) hi
    simp -implicitDefEqProofs (disch := omega) only [go_sem, Nat.reduceAdd, Nat.reduceMul, Nat.reduceSub, Nat.reduceBEq, Nat.reduceLeDiff, Nat.reduceLT, fn_transitref21_Cheapest, e21_1, w21_1, e21_3, w21_3, e21_5, w21_5, e21_7, w21_7, c21_8, e21_10, w21_10, c21_11, e21_13, w21_13, e21_15, w21_15, e21_17, w21_17, e21_19, w21_19, e21_21, w21_21, c21_22, e21_24, w21_24, c21_25, c21_26, c21_27, c21_28, c21_29, e21_31, w21_31, c21_32, c21_33, c21_34, c21_35, c21_36, c21_37, hd, hi, intRow, Fares.row, hp, hq, Product.row]
    refine ifD (fun h => ?_) (fun h => ?_)
    · simp -implicitDefEqProofs (disch := omega) only [go_sem, Nat.reduceAdd, Nat.reduceMul, Nat.reduceSub, Nat.reduceBEq, Nat.reduceLeDiff, Nat.reduceLT, fn_transitref21_Cheapest, e21_1, w21_1, e21_3, w21_3, e21_5, w21_5, e21_7, w21_7, c21_8, e21_10, w21_10, c21_11, e21_13, w21_13, e21_15, w21_15, e21_17, w21_17, e21_19, w21_19, e21_21, w21_21, c21_22, e21_24, w21_24, c21_25, c21_26, c21_27, c21_28, c21_29, e21_31, w21_31, c21_32, c21_33, c21_34, c21_35, c21_36, c21_37, hi, intRow]
      refine next_stay hk ⟨?_, rfl⟩
      rw [hb, better, if_pos (by rw [priceAt_eq hp, priceAt_eq hq]; exact h)]
      rfl
    · simp -implicitDefEqProofs (disch := omega) only [go_sem, Nat.reduceAdd, Nat.reduceMul, Nat.reduceSub, Nat.reduceBEq, Nat.reduceLeDiff, Nat.reduceLT, fn_transitref21_Cheapest, e21_1, w21_1, e21_3, w21_3, e21_5, w21_5, e21_7, w21_7, c21_8, e21_10, w21_10, c21_11, e21_13, w21_13, e21_15, w21_15, e21_17, w21_17, e21_19, w21_19, e21_21, w21_21, c21_22, e21_24, w21_24, c21_25, c21_26, c21_27, c21_28, c21_29, e21_31, w21_31, c21_32, c21_33, c21_34, c21_35, c21_36, c21_37]
      refine next_stay hk ⟨?_, rfl⟩
      rw [hb, better, if_neg (by rw [priceAt_eq hp, priceAt_eq hq]; exact h)]
      rfl
  · rintro vs M ⟨rfl, rfl⟩
    obtain ⟨q, hq⟩ := prod _ (bestK_mem (pr := priceAt f) h0 _ (Nat.le_refl _))
    simp -implicitDefEqProofs (disch := omega) only [go_sem, Nat.reduceAdd, Nat.reduceMul, Nat.reduceSub, Nat.reduceBEq, Nat.reduceLeDiff, Nat.reduceLT, fn_transitref21_Cheapest, e21_1, w21_1, e21_3, w21_3, e21_5, w21_5, e21_7, w21_7, c21_8, e21_10, w21_10, c21_11, e21_13, w21_13, e21_15, w21_15, e21_17, w21_17, e21_19, w21_19, e21_21, w21_21, c21_22, e21_24, w21_24, c21_25, c21_26, c21_27, c21_28, c21_29, e21_31, w21_31, c21_32, c21_33, c21_34, c21_35, c21_36, c21_37, dec_irrefl, Fares.row, hq, Product.row, hres, chV, priceAt_eq hq]

/-! ### Lists of integers -/
theorem SameInts_ok (a b : List Nat) (c d : Cap) (ha : a.length ≤ maxLen) : PCalls PR i_transitref03_SameInts [.slice (a.map intRow) c, .slice (b.map intRow) d] (fun v => v = .bool (decide (a = b))) := by
  have hm : maxLen = 9223372036854775807 := by rfl
  refine acalls_pop fn_transitref03_SameInts_ok (by simp [fn_transitref03_SameInts]) ?_
  simp -implicitDefEqProofs (disch := omega) only [go_sem, Nat.reduceAdd, Nat.reduceMul, Nat.reduceSub, Nat.reduceBEq, Nat.reduceLeDiff, Nat.reduceLT, fn_transitref03_SameInts, e15_1, w15_1, e15_3, w15_3, c15_4, e15_6, w15_6, e15_8, w15_8, e15_10, w15_10, e15_12, w15_12, c15_13, e15_15, w15_15, c15_16, e15_18, w15_18, c15_19, c15_20, c15_21, c15_22, c15_23, e15_25, w15_25, c15_26, c15_27, c15_28, c15_29]
  refine ifD (fun h => ?_) (fun h => ?_)
  rotate_left
  · have : ¬ a = b := fun e => h (by rw [e])
    simp -implicitDefEqProofs (disch := omega) only [go_sem, Nat.reduceAdd, Nat.reduceMul, Nat.reduceSub, Nat.reduceBEq, Nat.reduceLeDiff, Nat.reduceLT, fn_transitref03_SameInts, e15_1, w15_1, e15_3, w15_3, c15_4, e15_6, w15_6, e15_8, w15_8, e15_10, w15_10, e15_12, w15_12, c15_13, e15_15, w15_15, c15_16, e15_18, w15_18, c15_19, c15_20, c15_21, c15_22, c15_23, e15_25, w15_25, c15_26, c15_27, c15_28, c15_29, this]
  simp -implicitDefEqProofs (disch := omega) only [go_sem, Nat.reduceAdd, Nat.reduceMul, Nat.reduceSub, Nat.reduceBEq, Nat.reduceLeDiff, Nat.reduceLT, fn_transitref03_SameInts, e15_1, w15_1, e15_3, w15_3, c15_4, e15_6, w15_6, e15_8, w15_8, e15_10, w15_10, e15_12, w15_12, c15_13, e15_15, w15_15, c15_16, e15_18, w15_18, c15_19, c15_20, c15_21, c15_22, c15_23, e15_25, w15_25, c15_26, c15_27, c15_28, c15_29]
  have hl : a.length = b.length := by omega
  refine wpC_forL a (fun i vs M => a.take i = b.take i ∧ vs = [.slice (a.map intRow) c, .slice (b.map intRow) d, .int .i64 i] ∧ M = []) ⟨rfl, rfl, rfl⟩ ?_ ?_
  · rintro i x vs M hx hi hd ⟨hall, rfl, rfl⟩
    obtain ⟨y, hy⟩ : ∃ y, b[i]? = some y := ⟨b[i]'(by omega), by simp⟩
    simp -implicitDefEqProofs (disch := omega) only [go_sem, Nat.reduceAdd, Nat.reduceMul, Nat.reduceSub, Nat.reduceBEq, Nat.reduceLeDiff, Nat.reduceLT, fn_transitref03_SameInts, e15_1, w15_1, e15_3, w15_3, c15_4, e15_6, w15_6, e15_8, w15_8, e15_10, w15_10, e15_12, w15_12, c15_13, e15_15, w15_15, c15_16, e15_18, w15_18, c15_19, c15_20, c15_21, c15_22, c15_23, e15_25, w15_25, c15_26, c15_27, c15_28, c15_29, hd, hx, hy, intRow]
    refine ifD (fun g => ?_) (fun g => ?_)
    · simp -implicitDefEqProofs (disch := omega) only [go_sem, Nat.reduceAdd, Nat.reduceMul, Nat.reduceSub, Nat.reduceBEq, Nat.reduceLeDiff, Nat.reduceLT, fn_transitref03_SameInts, e15_1, w15_1, e15_3, w15_3, c15_4, e15_6, w15_6, e15_8, w15_8, e15_10, w15_10, e15_12, w15_12, c15_13, e15_15, w15_15, c15_16, e15_18, w15_18, c15_19, c15_20, c15_21, c15_22, c15_23, e15_25, w15_25, c15_26, c15_27, c15_28, c15_29]
      refine next_stay hi ⟨?_, rfl, rfl⟩
      have : x = y := by omega
      rw [List.take_add_one, List.take_add_one, hx, hy, hall, this]
    · have : ¬ a = b := fun e => by subst e; rw [hx] at hy; simp at hy; omega
      simp -implicitDefEqProofs (disch := omega) only [go_sem, Nat.reduceAdd, Nat.reduceMul, Nat.reduceSub, Nat.reduceBEq, Nat.reduceLeDiff, Nat.reduceLT, fn_transitref03_SameInts, e15_1, w15_1, e15_3, w15_3, c15_4, e15_6, w15_6, e15_8, w15_8, e15_10, w15_10, e15_12, w15_12, c15_13, e15_15, w15_15, c15_16, e15_18, w15_18, c15_19, c15_20, c15_21, c15_22, c15_23, e15_25, w15_25, c15_26, c15_27, c15_28, c15_29, this]
  · rintro vs M ⟨hall, rfl, rfl⟩
    have : a = b := by rw [List.take_length, hl, List.take_length] at hall; exact hall
    simp -implicitDefEqProofs (disch := omega) only [go_sem, Nat.reduceAdd, Nat.reduceMul, Nat.reduceSub, Nat.reduceBEq, Nat.reduceLeDiff, Nat.reduceLT, fn_transitref03_SameInts, e15_1, w15_1, e15_3, w15_3, c15_4, e15_6, w15_6, e15_8, w15_8, e15_10, w15_10, e15_12, w15_12, c15_13, e15_15, w15_15, c15_16, e15_18, w15_18, c15_19, c15_20, c15_21, c15_22, c15_23, e15_25, w15_25, c15_26, c15_27, c15_28, c15_29, dec_irrefl, this]

end Go.Vm.C

