/- Contracts: charges and new accounts. -/
import Derived.Test.YtojpmklnmaomlaaT9

namespace Go.Vm.C
open Go.Vm
set_option maxHeartbeats 1000000
set_option maxRecDepth 10000
set_option linter.unusedSimpArgs false
set_option linter.unusedVariables false

theorem ref_range {f : Fares} {l : List Ride} (hc : (checkRes f).2 = 0) : 0 ≤ (fareRes f l).1 ∧ (fareRes f l).1 ≤ 9000000 := by
  have hok := checkRes_ok hc
  by_cases h : (fareRes f l).2.2 = 0
  · obtain ⟨hv, d, hd, hr⟩ := fareRes_ok h
    obtain ⟨_, hlen⟩ := validRes_zero.1 hv
    have := div_mild hok _ _ (best_div (by omega) hd)
    have h2 := capped_range (f := f) (a := total d) hok.limit.1 this.1
    rw [hr]
    simp only
    omega
  · have : (fareRes f l).1 = 0 := by
      unfold fareRes at h ⊢
      split
      · rfl
      · rename_i h1
        rw [if_neg h1] at h
        split
        · rfl
        · rename_i d hd
          simp [hd] at h
    omega

/-- A charge: the amount, the error, and what is spent then. -/
def chargeAmt (f : Fares) (L : List (Int × Int)) (d : Int) (l : List Ride) : Int := if f.limit ≠ 0 then min (fareRes f l).1 (f.limit - spentOn L d) else (fareRes f l).1
def chargeRes (f : Fares) (L : List (Int × Int)) (d : Int) (l : List Ride) : Int × Int × List (Int × Int) :=
  if validB d = false then (0, 11, L) else if (fareRes f l).2.2 ≠ 0 then (0, (fareRes f l).2.2, L) else (chargeAmt f L d l, 0, setL L d (spentOn L d + chargeAmt f L d l))
theorem Acc.same {M : Mem} {f : Fares} {id mid : Nat} {L : List (Int × Int)} (h : Acc M f id mid L) : M = M.set mid (.map (dayMap L)) := by
  apply List.ext_getElem?
  intro j
  by_cases hj : mid = j
  · subst hj
    rw [List.getElem?_set_self (List.getElem?_eq_some_iff.1 h.ents).1, h.ents]
  · rw [List.getElem?_set_ne hj]
theorem Account_Charge_ok {M : Mem} {f : Fares} {id mid : Nat} {L : List (Int × Int)} (hf : f.wf) (hc : (checkRes f).2 = 0) (h : Acc M f id mid L) (d : Int) (l : List Ride) (c : Cap) (hl : ∀ r ∈ l, r.wf) (hs : 0 ≤ spentOn L d ∧ spentOn L d ≤ 1000000000) :
    ACalls PR i_account_Account_Charge [.ptr id 0, .int .i64 d, .slice (l.map Ride.row) c] M (fun v M' => v = pairV ((chargeRes f L d l).1, (chargeRes f L d l).2.1) ∧ Acc M' f id mid (chargeRes f L d l).2.2 ∧ M'.length = M.length ∧ ∃ es, M' = M.set mid (.map es)) := by
  have h0 := h
  have hsame := h.same
  have hok := checkRes_ok hc
  obtain ⟨l1, l2⟩ := hok.limit
  obtain ⟨hU, hb, he, hne⟩ := h
  obtain ⟨s1, s2⟩ := hs
  have hr := ref_range (l := l) hc
  refine acalls_pop fn_account_Account_Charge_ok (by simp [fn_account_Account_Charge]) ?_
  simp -implicitDefEqProofs (disch := omega) only [go_sem, Nat.reduceAdd, Nat.reduceMul, Nat.reduceSub, Nat.reduceBEq, Nat.reduceLeDiff, Nat.reduceLT, fn_account_Account_Charge, e23_1, w23_1, e23_3, w23_3, c23_4, e23_6, w23_6, e23_8, w23_8, c23_9, e23_11, w23_11, e23_13, w23_13, e23_15, w23_15, c23_16, e23_18, w23_18, e23_20, w23_20, e23_22, w23_22, e23_24, w23_24, e23_26, w23_26, c23_27, c23_28, c23_29, c23_30, c23_31, c23_32, c23_33, c23_34, eq_ptr_nil]
  first | refine callD (account_valid_ok d) ?_ | refine callQD (account_valid_ok d) ?_
  simp -implicitDefEqProofs (disch := omega) only [go_sem, Nat.reduceAdd, Nat.reduceMul, Nat.reduceSub, Nat.reduceBEq, Nat.reduceLeDiff, Nat.reduceLT, fn_account_Account_Charge, e23_1, w23_1, e23_3, w23_3, c23_4, e23_6, w23_6, e23_8, w23_8, c23_9, e23_11, w23_11, e23_13, w23_13, e23_15, w23_15, c23_16, e23_18, w23_18, e23_20, w23_20, e23_22, w23_22, e23_24, w23_24, e23_26, w23_26, c23_27, c23_28, c23_29, c23_30, c23_31, c23_32, c23_33, c23_34]
  refine ifB (fun h1 => ?_) (fun h1 => ?_)
  rotate_left
  · have e : chargeRes f L d l = (0, 11, L) := by rw [chargeRes, if_pos h1]
    simp -implicitDefEqProofs (disch := omega) only [go_sem, Nat.reduceAdd, Nat.reduceMul, Nat.reduceSub, Nat.reduceBEq, Nat.reduceLeDiff, Nat.reduceLT, fn_account_Account_Charge, e23_1, w23_1, e23_3, w23_3, c23_4, e23_6, w23_6, e23_8, w23_8, c23_9, e23_11, w23_11, e23_13, w23_13, e23_15, w23_15, c23_16, e23_18, w23_18, e23_20, w23_20, e23_22, w23_22, e23_24, w23_24, e23_26, w23_26, c23_27, c23_28, c23_29, c23_30, c23_31, c23_32, c23_33, c23_34, take_len, hU, e, pairV]
    exact ⟨h0, _, hsame⟩
  simp -implicitDefEqProofs (disch := omega) only [go_sem, Nat.reduceAdd, Nat.reduceMul, Nat.reduceSub, Nat.reduceBEq, Nat.reduceLeDiff, Nat.reduceLT, fn_account_Account_Charge, e23_1, w23_1, e23_3, w23_3, c23_4, e23_6, w23_6, e23_8, w23_8, c23_9, e23_11, w23_11, e23_13, w23_13, e23_15, w23_15, c23_16, e23_18, w23_18, e23_20, w23_20, e23_22, w23_22, e23_24, w23_24, e23_26, w23_26, c23_27, c23_28, c23_29, c23_30, c23_31, c23_32, c23_33, c23_34, nilCheck_ptr, hb, Fares.row]
  refine callP (fare_Price_ok f l c hf hl) ?_
  rintro v ⟨e', rfl⟩
  simp -implicitDefEqProofs (disch := omega) only [go_sem, Nat.reduceAdd, Nat.reduceMul, Nat.reduceSub, Nat.reduceBEq, Nat.reduceLeDiff, Nat.reduceLT, fn_account_Account_Charge, e23_1, w23_1, e23_3, w23_3, c23_4, e23_6, w23_6, e23_8, w23_8, c23_9, e23_11, w23_11, e23_13, w23_13, e23_15, w23_15, c23_16, e23_18, w23_18, e23_20, w23_20, e23_22, w23_22, e23_24, w23_24, e23_26, w23_26, c23_27, c23_28, c23_29, c23_30, c23_31, c23_32, c23_33, c23_34, fareV]
  refine ifD (fun h2 => ?_) (fun h2 => ?_)
  rotate_left
  · have e : chargeRes f L d l = (0, (fareRes f l).2.2, L) := by rw [chargeRes, if_neg (by simp [h1]), if_pos h2]
    simp -implicitDefEqProofs (disch := omega) only [go_sem, Nat.reduceAdd, Nat.reduceMul, Nat.reduceSub, Nat.reduceBEq, Nat.reduceLeDiff, Nat.reduceLT, fn_account_Account_Charge, e23_1, w23_1, e23_3, w23_3, c23_4, e23_6, w23_6, e23_8, w23_8, c23_9, e23_11, w23_11, e23_13, w23_13, e23_15, w23_15, c23_16, e23_18, w23_18, e23_20, w23_20, e23_22, w23_22, e23_24, w23_24, e23_26, w23_26, c23_27, c23_28, c23_29, c23_30, c23_31, c23_32, c23_33, c23_34, take_len, hU, e, pairV]
    exact ⟨h0, _, hsame⟩
  have e : chargeRes f L d l = (chargeAmt f L d l, 0, setL L d (spentOn L d + chargeAmt f L d l)) := by rw [chargeRes, if_neg (by simp [h1]), if_neg (by simpa using h2)]
  have hn := h0.set (setL L d (spentOn L d + chargeAmt f L d l))
  have hlen : (M.set mid (.map (dayMap (setL L d (spentOn L d + chargeAmt f L d l))))).length = M.length := by simp
  have hU2 : memUnder M.length (M.set mid (.map (dayMap (setL L d (spentOn L d + chargeAmt f L d l))))) = true := by
    have := hn.own
    rwa [hlen] at this
  have hsp : (getL L d).getD 0 = spentOn L d := rfl
  rw [e]
  simp -implicitDefEqProofs (disch := omega) only [go_sem, Nat.reduceAdd, Nat.reduceMul, Nat.reduceSub, Nat.reduceBEq, Nat.reduceLeDiff, Nat.reduceLT, fn_account_Account_Charge, e23_1, w23_1, e23_3, w23_3, c23_4, e23_6, w23_6, e23_8, w23_8, c23_9, e23_11, w23_11, e23_13, w23_13, e23_15, w23_15, c23_16, e23_18, w23_18, e23_20, w23_20, e23_22, w23_22, e23_24, w23_24, e23_26, w23_26, c23_27, c23_28, c23_29, c23_30, c23_31, c23_32, c23_33, c23_34, nilCheck_ptr, hb, Fares.row]
  refine ifD (fun h3 => ?_) (fun h3 => ?_)
  · have ea : chargeAmt f L d l = (fareRes f l).1 := by rw [chargeAmt, if_neg (by simp [h3])]
    rw [ea] at hn hlen hU2 ⊢
    simp -implicitDefEqProofs (disch := omega) only [go_sem, Nat.reduceAdd, Nat.reduceMul, Nat.reduceSub, Nat.reduceBEq, Nat.reduceLeDiff, Nat.reduceLT, fn_account_Account_Charge, e23_1, w23_1, e23_3, w23_3, c23_4, e23_6, w23_6, e23_8, w23_8, c23_9, e23_11, w23_11, e23_13, w23_13, e23_15, w23_15, c23_16, e23_18, w23_18, e23_20, w23_20, e23_22, w23_22, e23_24, w23_24, e23_26, w23_26, c23_27, c23_28, c23_29, c23_30, c23_31, c23_32, c23_33, c23_34, eq_ptr_nil, nilCheck_ptr, hb, he, Fares.row, lookE_day, updE_day, hsp, pairV]
    rw [List.take_of_length_le (Nat.le_of_eq hlen)]
    exact ⟨by simp [hU2], hn, hlen, _, rfl⟩
  · have ea : chargeAmt f L d l = min (fareRes f l).1 (f.limit - spentOn L d) := by rw [chargeAmt, if_pos h3]
    rw [ea] at hn hlen hU2 ⊢
    simp -implicitDefEqProofs (disch := omega) only [go_sem, Nat.reduceAdd, Nat.reduceMul, Nat.reduceSub, Nat.reduceBEq, Nat.reduceLeDiff, Nat.reduceLT, fn_account_Account_Charge, e23_1, w23_1, e23_3, w23_3, c23_4, e23_6, w23_6, e23_8, w23_8, c23_9, e23_11, w23_11, e23_13, w23_13, e23_15, w23_15, c23_16, e23_18, w23_18, e23_20, w23_20, e23_22, w23_22, e23_24, w23_24, e23_26, w23_26, c23_27, c23_28, c23_29, c23_30, c23_31, c23_32, c23_33, c23_34, eq_ptr_nil, nilCheck_ptr, hb, he, Fares.row, lookE_day, updE_day, hsp, pairV]
    rw [List.take_of_length_le (Nat.le_of_eq hlen)]
    exact ⟨by simp [hU2], hn, hlen, _, rfl⟩
theorem Account_Charge_nil (d : Int) (l : List Ride) (c : Cap) {M : Mem} (hU : memUnder M.length M = true) : ACalls PR i_account_Account_Charge [.nilp, .int .i64 d, .slice (l.map Ride.row) c] M (fun v M' => v = pairV (0, 40) ∧ M' = M) := by
  refine acalls_pop fn_account_Account_Charge_ok (by simp [fn_account_Account_Charge]) ?_
  simp -implicitDefEqProofs (disch := omega) only [go_sem, Nat.reduceAdd, Nat.reduceMul, Nat.reduceSub, Nat.reduceBEq, Nat.reduceLeDiff, Nat.reduceLT, fn_account_Account_Charge, e23_1, w23_1, e23_3, w23_3, c23_4, e23_6, w23_6, e23_8, w23_8, c23_9, e23_11, w23_11, e23_13, w23_13, e23_15, w23_15, c23_16, e23_18, w23_18, e23_20, w23_20, e23_22, w23_22, e23_24, w23_24, e23_26, w23_26, c23_27, c23_28, c23_29, c23_30, c23_31, c23_32, c23_33, c23_34, eq_nil_nil, take_len, hU, pairV]
theorem Account_Total_ok {M : Mem} {f : Fares} {id mid : Nat} {L : List (Int × Int)} (h : Acc M f id mid L) (hs : -9223372036854775808 ≤ sumL L ∧ sumL L ≤ 9223372036854775807) :
    ACalls PR i_account_Account_Total [.ptr id 0] M (fun v M' => v = .int .i64 (sumL L) ∧ M' = M) := by
  refine acalls_pop fn_account_Account_Total_ok (by simp [fn_account_Account_Total]) ?_
  simp -implicitDefEqProofs (disch := omega) only [go_sem, Nat.reduceAdd, Nat.reduceMul, Nat.reduceSub, Nat.reduceBEq, Nat.reduceLeDiff, Nat.reduceLT, fn_account_Account_Total, e18_1, w18_1, e18_3, w18_3, c18_4, e18_6, w18_6, e18_8, w18_8, c18_9, c18_10, c18_11, eq_ptr_nil, nilCheck_ptr]
  refine callA (account_sum_ok h.box h.ents hs) ?_
  rintro v N ⟨rfl, rfl⟩
  have hU := h.own
  simp -implicitDefEqProofs (disch := omega) only [go_sem, Nat.reduceAdd, Nat.reduceMul, Nat.reduceSub, Nat.reduceBEq, Nat.reduceLeDiff, Nat.reduceLT, fn_account_Account_Total, e18_1, w18_1, e18_3, w18_3, c18_4, e18_6, w18_6, e18_8, w18_8, c18_9, c18_10, c18_11, take_len, hU]

theorem Clone_ok (l : List Product) (c : Cap) (hl : l.length ≤ 40) (hc : c = .nil ∧ l = [] ∨ c = .any ∨ c = .full) : PCalls PR i_slices_Clone_api_Product_api_Product [.slice (l.map Product.row) c] (fun v => ∃ c', v = .slice (l.map Product.row) c') := by
  have h1 := headLen_map (f := Product.row) (n := 6) (fun r => rfl) l
  have e1 : binV .eql .slice (.slice [] .nil) (.slice [] .nil) = some (.bool true) := rfl
  have e2 : ∀ rows, binV .eql .slice (.slice rows .any) (.slice [] .nil) = some (.bool false) := fun rows => rfl
  have e3 : ∀ rows, binV .eql .slice (.slice rows .full) (.slice [] .nil) = some (.bool false) := fun rows => rfl
  refine acalls_pop fn_slices_Clone_api_Product_api_Product_ok (by simp [fn_slices_Clone_api_Product_api_Product]) ?_
  rcases hc with ⟨rfl, rfl⟩ | rfl | rfl
  · simp -implicitDefEqProofs (disch := omega) only [go_sem, Nat.reduceAdd, Nat.reduceMul, Nat.reduceSub, Nat.reduceBEq, Nat.reduceLeDiff, Nat.reduceLT, fn_slices_Clone_api_Product_api_Product, e27_1, w27_1, e27_3, w27_3, c27_4, e27_6, w27_6, e27_8, w27_8, c27_9, c27_10, c27_11, List.map_nil, e1]
    exact ⟨.nil, rfl⟩
  · simp -implicitDefEqProofs (disch := omega) only [go_sem, Nat.reduceAdd, Nat.reduceMul, Nat.reduceSub, Nat.reduceBEq, Nat.reduceLeDiff, Nat.reduceLT, fn_slices_Clone_api_Product_api_Product, e27_1, w27_1, e27_3, w27_3, c27_4, e27_6, w27_6, e27_8, w27_8, c27_9, c27_10, c27_11, h1, e2, Bool.or_true]
    exact ⟨.unk, rfl⟩
  · simp -implicitDefEqProofs (disch := omega) only [go_sem, Nat.reduceAdd, Nat.reduceMul, Nat.reduceSub, Nat.reduceBEq, Nat.reduceLeDiff, Nat.reduceLT, fn_slices_Clone_api_Product_api_Product, e27_1, w27_1, e27_3, w27_3, c27_4, e27_6, w27_6, e27_8, w27_8, c27_9, c27_10, c27_11, h1, e3, Bool.or_true]
    exact ⟨.unk, rfl⟩
theorem account_New_ok (f : Fares) (hf : f.wf) (ht : f.tag = .nil ∧ f.products = [] ∨ f.tag = .any ∨ f.tag = .full) {M : Mem} (hU : memUnder M.length M = true) :
    ACalls PR i_account_New [.agg f.row] M (fun v M' => (∃ L, M' = M ++ L) ∧ memUnder M'.length M' = true ∧ ((checkRes f).2 ≠ 0 → v = .tuple [.nilp, .int .i64 20]) ∧
      ((checkRes f).2 = 0 → ∃ id mid t, v = .tuple [.ptr id 0, .int .i64 0] ∧ M.length ≤ id ∧ M.length ≤ mid ∧ Acc M' ⟨f.products, t, f.discount, f.within, f.limit⟩ id mid [])) := by
  have hfp : ∀ N, ACalls PR i_fare_Price [.agg f.row, .slice [] .nil] N (fun v M' => (∃ d, v = fareV (fareRes f []) d) ∧ M' = N) := fun N => PCalls.call (fare_Price_ok f [] .nil hf (by simp)) rfl (fun v hv _ => ⟨hv, rfl⟩)
  have hown : Own M := hU
  have hz : (fareRes f []).2.2 = 0 ↔ (checkRes f).2 = 0 := by
    constructor
    · intro h
      exact (validRes_zero.1 (fareRes_ok h).1).1
    · intro h
      rw [fareRes_valid (validRes_zero.2 ⟨h, by simp⟩ : validRes f ([] : List Ride).length = 0)]
      have := best_end f []
      simp only [List.length_nil] at this
      simp [this]
  refine acalls_keep fn_account_New_ok (by simp [fn_account_New]) ?_
  simp only [wpKeep]
  simp -implicitDefEqProofs (disch := omega) only [go_sem, Nat.reduceAdd, Nat.reduceMul, Nat.reduceSub, Nat.reduceBEq, Nat.reduceLeDiff, Nat.reduceLT, fn_account_New, e9_1, w9_1, e9_3, w9_3, e9_5, w9_5, c9_6, e9_8, w9_8, e9_10, w9_10, e9_12, w9_12, c9_13, c9_14, c9_15, c9_16, c9_17, Fares.row, get_at0]
  refine callA (hfp _) ?_
  rintro v N ⟨⟨e', rfl⟩, rfl⟩
  simp -implicitDefEqProofs (disch := omega) only [go_sem, Nat.reduceAdd, Nat.reduceMul, Nat.reduceSub, Nat.reduceBEq, Nat.reduceLeDiff, Nat.reduceLT, fn_account_New, e9_1, w9_1, e9_3, w9_3, e9_5, w9_5, c9_6, e9_8, w9_8, e9_10, w9_10, e9_12, w9_12, c9_13, c9_14, c9_15, c9_16, c9_17, fareV]
  refine ifD (fun h1 => ?_) (fun h1 => ?_)
  rotate_left
  · have h2 : (checkRes f).2 ≠ 0 := fun e => h1 (hz.2 e)
    simp -implicitDefEqProofs (disch := omega) only [go_sem, Nat.reduceAdd, Nat.reduceMul, Nat.reduceSub, Nat.reduceBEq, Nat.reduceLeDiff, Nat.reduceLT, fn_account_New, e9_1, w9_1, e9_3, w9_3, e9_5, w9_5, c9_6, e9_8, w9_8, e9_10, w9_10, e9_12, w9_12, c9_13, c9_14, c9_15, c9_16, c9_17]
    exact ⟨⟨_, rfl⟩, by have := hown.app (L := [.box f.row]) (by simp [memUnder, Blk.under, underL, V.under, Fares.row]); simpa [Own, Fares.row] using this, fun _ => trivial, fun e => absurd e h2⟩
  have hc := hz.1 h1
  have hpl := (checkRes_ok hc).len
  simp -implicitDefEqProofs (disch := omega) only [go_sem, Nat.reduceAdd, Nat.reduceMul, Nat.reduceSub, Nat.reduceBEq, Nat.reduceLeDiff, Nat.reduceLT, fn_account_New, e9_1, w9_1, e9_3, w9_3, e9_5, w9_5, c9_6, e9_8, w9_8, e9_10, w9_10, e9_12, w9_12, c9_13, c9_14, c9_15, c9_16, c9_17, Fares.row, get_at0]
  refine callP (Clone_ok f.products f.tag (by omega) ht) ?_
  rintro v ⟨t, rfl⟩
  simp -implicitDefEqProofs (disch := omega) only [go_sem, Nat.reduceAdd, Nat.reduceMul, Nat.reduceSub, Nat.reduceBEq, Nat.reduceLeDiff, Nat.reduceLT, fn_account_New, e9_1, w9_1, e9_3, w9_3, e9_5, w9_5, c9_6, e9_8, w9_8, e9_10, w9_10, e9_12, w9_12, c9_13, c9_14, c9_15, c9_16, c9_17, get_at0, get_at, set_at0, set_at, List.append_assoc]
  have hm : memUnder (M.length + 3) (M ++ [.box [.slice (f.products.map Product.row) t, .int .i64 f.discount, .int .i64 f.within, .int .i64 f.limit], .map [], .box [.map (M.length + 1), .slice (f.products.map Product.row) t, .int .i64 f.discount, .int .i64 f.within, .int .i64 f.limit]]) = true := by
    have := hown.app (L := [.box [.slice (f.products.map Product.row) t, .int .i64 f.discount, .int .i64 f.within, .int .i64 f.limit], .map [], .box [.map (M.length + 1), .slice (f.products.map Product.row) t, .int .i64 f.discount, .int .i64 f.within, .int .i64 f.limit]]) (by simp [memUnder, Blk.under, underL, V.under])
    simpa [Own] using this
  refine ⟨⟨_, rfl⟩, hm, fun e => absurd hc e, fun _ => ⟨_, M.length + 1, t, rfl, by omega, by omega, ?_, ?_, ?_, by omega⟩⟩
  · simpa using hm
  · rw [get_at]; rfl
  · rw [get_at]; rfl

end Go.Vm.C

