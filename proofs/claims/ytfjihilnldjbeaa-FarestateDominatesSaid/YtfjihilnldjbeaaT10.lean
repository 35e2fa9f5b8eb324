/- Contracts: states after rides, equal fares, better tickets. -/
import Derived.Test.YtfjihilnldjbeaaT9

namespace Go.Vm.C
open Go.Vm
set_option maxHeartbeats 1000000
set_option maxRecDepth 10000
set_option linter.unusedSimpArgs false
set_option linter.unusedVariables false

theorem made_ok (f : Fares) (l : List Ride) (c : Cap) (hf : f.wf) (hc : (checkRes f).2 = 0) (hl : ∀ x ∈ l, x.wf) (hlen : l.length ≤ 8) {M : Mem} (hU : Own M) :
    ACalls PR i_transitlaw36_made [.agg f.row, .slice (l.map Ride.row) c] M (fun v M' => ∃ L id fp, M' = M ++ L ∧ v = .tuple [.ptr id 0, .bool true] ∧ Held M' f fp l.reverse id) := by
  have hok := checkRes_ok hc
  have hown : Own (M ++ [.box f.row]) := hU.app (by simp [memUnder, Blk.under, underL, V.under, Fares.row])
  refine acalls_keep fn_transitlaw36_made_ok (by simp [fn_transitlaw36_made]) ?_
  simp only [wpKeep]
  simp -implicitDefEqProofs (disch := omega) only [go_sem, Nat.reduceAdd, Nat.reduceMul, Nat.reduceSub, Nat.reduceBEq, Nat.reduceLeDiff, Nat.reduceLT, fn_transitlaw36_made, e17_1, w17_1, e17_3, w17_3, e17_5, w17_5, c17_6, e17_8, w17_8, e17_10, w17_10, e17_12, w17_12, e17_14, w17_14, e17_16, w17_16, c17_17, e17_19, w17_19, c17_20, c17_21, e17_23, w17_23, c17_24, c17_25, c17_26, c17_27, c17_28, e17_30, w17_30, c17_31, c17_32, c17_33, c17_34, c17_35, Fares.row, get_at0]
  refine callA (farestate_Start_ok f hf hown) ?_
  rintro v N ⟨⟨L, rfl⟩, _, _, h2⟩
  obtain ⟨id, fp, rfl, hH⟩ := h2 hc
  simp -implicitDefEqProofs (disch := omega) only [go_sem, Nat.reduceAdd, Nat.reduceMul, Nat.reduceSub, Nat.reduceBEq, Nat.reduceLeDiff, Nat.reduceLT, fn_transitlaw36_made, e17_1, w17_1, e17_3, w17_3, e17_5, w17_5, c17_6, e17_8, w17_8, e17_10, w17_10, e17_12, w17_12, e17_14, w17_14, e17_16, w17_16, c17_17, e17_19, w17_19, c17_20, c17_21, e17_23, w17_23, c17_24, c17_25, c17_26, c17_27, c17_28, e17_30, w17_30, c17_31, c17_32, c17_33, c17_34, c17_35, eq_ptr_nil]
  refine wpC_for l.length (fun i vs N => ∃ L id fp, N = M ++ L ∧ Held N f fp (l.take i).reverse id ∧ vs = [.slice (l.map Ride.row) c, .ptr id 0, .int .i64 i]) ⟨_, id, fp, by rw [List.append_assoc], by simpa using hH, by simp [vals, sget]⟩ ?_ ?_
  rotate_left
  · rintro vs N ⟨L, id, fp, rfl, hH, rfl⟩
    rw [List.take_length] at hH
    simp -implicitDefEqProofs (disch := omega) only [go_sem, Nat.reduceAdd, Nat.reduceMul, Nat.reduceSub, Nat.reduceBEq, Nat.reduceLeDiff, Nat.reduceLT, fn_transitlaw36_made, e17_1, w17_1, e17_3, w17_3, e17_5, w17_5, c17_6, e17_8, w17_8, e17_10, w17_10, e17_12, w17_12, e17_14, w17_14, e17_16, w17_16, c17_17, e17_19, w17_19, c17_20, c17_21, e17_23, w17_23, c17_24, c17_25, c17_26, c17_27, c17_28, e17_30, w17_30, c17_31, c17_32, c17_33, c17_34, c17_35, dec_irrefl]
    exact ⟨L, id, fp, rfl, rfl, hH⟩
  rintro i vs N hi hid ⟨L, id, fp, rfl, hH, rfl⟩
  obtain ⟨x, hx⟩ : ∃ x, l[i]? = some x := ⟨l[i], by simp⟩
  simp -implicitDefEqProofs (disch := omega) only [go_sem, Nat.reduceAdd, Nat.reduceMul, Nat.reduceSub, Nat.reduceBEq, Nat.reduceLeDiff, Nat.reduceLT, fn_transitlaw36_made, e17_1, w17_1, e17_3, w17_3, e17_5, w17_5, c17_6, e17_8, w17_8, e17_10, w17_10, e17_12, w17_12, e17_14, w17_14, e17_16, w17_16, c17_17, e17_19, w17_19, c17_20, c17_21, e17_23, w17_23, c17_24, c17_25, c17_26, c17_27, c17_28, e17_30, w17_30, c17_31, c17_32, c17_33, c17_34, c17_35, hid, hx, Ride.row]
  refine callA (farestate_Ride_ok f x hf hok (hl x (List.mem_of_getElem? hx)) hH (fun y hy => hl y (List.mem_of_mem_take (List.mem_reverse.1 hy))) (by simp; omega)) ?_
  rintro v N ⟨L', id', rfl, rfl, hH'⟩
  simp -implicitDefEqProofs (disch := omega) only [go_sem, Nat.reduceAdd, Nat.reduceMul, Nat.reduceSub, Nat.reduceBEq, Nat.reduceLeDiff, Nat.reduceLT, fn_transitlaw36_made, e17_1, w17_1, e17_3, w17_3, e17_5, w17_5, c17_6, e17_8, w17_8, e17_10, w17_10, e17_12, w17_12, e17_14, w17_14, e17_16, w17_16, c17_17, e17_19, w17_19, c17_20, c17_21, e17_23, w17_23, c17_24, c17_25, c17_26, c17_27, c17_28, e17_30, w17_30, c17_31, c17_32, c17_33, c17_34, c17_35, eq_ptr_nil]
  refine next_stay hi ⟨L ++ L', id', fp, by rw [List.append_assoc], ?_, ?_⟩
  · rw [List.take_add_one, hx, List.reverse_append]
    simpa using hH'
  · simp only [vals, sget]; rfl

/-- The same fares. -/
def sameF (f g : Fares) : Prop := f.products.map Product.row = g.products.map Product.row ∧ f.discount = g.discount ∧ f.within = g.within ∧ f.limit = g.limit

theorem sameFares_ok (f g : Fares) (hf : f.products.length ≤ 40) {M : Mem} {fp gp : Nat} (hF : M[fp]? = some (.box (fcell f))) (hG : M[gp]? = some (.box (fcell g))) (hU : Own M) :
    ACalls PR i_farestate_sameFares [.ptr fp 0, .ptr gp 0] M (fun v M' => (∃ b : Bool, v = .bool b ∧ (b = true ↔ sameF f g)) ∧ M' = M) := by
  have hU' : memUnder M.length M = true := hU
  have hF' := fun L => app_get hF L
  have hG' := fun L => app_get hG L
  refine acalls_pop fn_farestate_sameFares_ok (by simp [fn_farestate_sameFares]) ?_
  have bnef : ∀ b : Bool, (b != false) = b := fun b => by cases b <;> rfl
  simp -implicitDefEqProofs (disch := omega) only [go_sem, Nat.reduceAdd, Nat.reduceMul, Nat.reduceSub, Nat.reduceBEq, Nat.reduceLeDiff, Nat.reduceLT, fn_farestate_sameFares, e29_1, w29_1, e29_3, w29_3, e29_5, w29_5, c29_6, c29_7, c29_8, e29_10, w29_10, c29_11, e29_13, w29_13, e29_15, w29_15, e29_17, w29_17, c29_18, e29_20, w29_20, e29_22, w29_22, c29_23, e29_25, w29_25, c29_26, c29_27, e29_29, w29_29, c29_30, c29_31, c29_32, c29_33, c29_34, c29_35, e29_37, w29_37, c29_38, c29_39, c29_40, c29_41, c29_42, hF, hG, bnef]
  refine ifD (fun h1 => ?_) (fun h1 => ?_)
  · subst h1
    rw [hF] at hG
    have e : fcell f = fcell g := by simpa using hG
    have hs : sameF f g := by
      simp only [fcell, List.cons.injEq, V.slice.injEq, V.int.injEq, true_and, and_true] at e
      exact ⟨e.1, e.2.1, e.2.2.1, e.2.2.2⟩
    simp -implicitDefEqProofs (disch := omega) only [go_sem, Nat.reduceAdd, Nat.reduceMul, Nat.reduceSub, Nat.reduceBEq, Nat.reduceLeDiff, Nat.reduceLT, fn_farestate_sameFares, e29_1, w29_1, e29_3, w29_3, e29_5, w29_5, c29_6, c29_7, c29_8, e29_10, w29_10, c29_11, e29_13, w29_13, e29_15, w29_15, e29_17, w29_17, c29_18, e29_20, w29_20, e29_22, w29_22, c29_23, e29_25, w29_25, c29_26, c29_27, e29_29, w29_29, c29_30, c29_31, c29_32, c29_33, c29_34, c29_35, e29_37, w29_37, c29_38, c29_39, c29_40, c29_41, c29_42, take_len, hU']
    exact ⟨true, rfl, by simpa using hs⟩
  simp -implicitDefEqProofs (disch := omega) only [go_sem, Nat.reduceAdd, Nat.reduceMul, Nat.reduceSub, Nat.reduceBEq, Nat.reduceLeDiff, Nat.reduceLT, fn_farestate_sameFares, e29_1, w29_1, e29_3, w29_3, e29_5, w29_5, c29_6, c29_7, c29_8, e29_10, w29_10, c29_11, e29_13, w29_13, e29_15, w29_15, e29_17, w29_17, c29_18, e29_20, w29_20, e29_22, w29_22, c29_23, e29_25, w29_25, c29_26, c29_27, e29_29, w29_29, c29_30, c29_31, c29_32, c29_33, c29_34, c29_35, e29_37, w29_37, c29_38, c29_39, c29_40, c29_41, c29_42, nilCheck_ptr, hF, hG, fcell]
  refine ifD (fun h2 => ?_) (fun h2 => ?_)
  rotate_left
  · simp -implicitDefEqProofs (disch := omega) only [go_sem, Nat.reduceAdd, Nat.reduceMul, Nat.reduceSub, Nat.reduceBEq, Nat.reduceLeDiff, Nat.reduceLT, fn_farestate_sameFares, e29_1, w29_1, e29_3, w29_3, e29_5, w29_5, c29_6, c29_7, c29_8, e29_10, w29_10, c29_11, e29_13, w29_13, e29_15, w29_15, e29_17, w29_17, c29_18, e29_20, w29_20, e29_22, w29_22, c29_23, e29_25, w29_25, c29_26, c29_27, e29_29, w29_29, c29_30, c29_31, c29_32, c29_33, c29_34, c29_35, e29_37, w29_37, c29_38, c29_39, c29_40, c29_41, c29_42, take_len, hU']
    refine ⟨false, rfl, by simp, fun e => absurd (by have := congrArg List.length e.1; simp only [List.length_map] at this; omega) h2⟩
  simp -implicitDefEqProofs (disch := omega) only [go_sem, Nat.reduceAdd, Nat.reduceMul, Nat.reduceSub, Nat.reduceBEq, Nat.reduceLeDiff, Nat.reduceLT, fn_farestate_sameFares, e29_1, w29_1, e29_3, w29_3, e29_5, w29_5, c29_6, c29_7, c29_8, e29_10, w29_10, c29_11, e29_13, w29_13, e29_15, w29_15, e29_17, w29_17, c29_18, e29_20, w29_20, e29_22, w29_22, c29_23, e29_25, w29_25, c29_26, c29_27, e29_29, w29_29, c29_30, c29_31, c29_32, c29_33, c29_34, c29_35, e29_37, w29_37, c29_38, c29_39, c29_40, c29_41, c29_42, nilCheck_ptr, hF, hG, fcell]
  refine ifD (fun h3 => ?_) (fun h3 => ?_)
  rotate_left
  · simp -implicitDefEqProofs (disch := omega) only [go_sem, Nat.reduceAdd, Nat.reduceMul, Nat.reduceSub, Nat.reduceBEq, Nat.reduceLeDiff, Nat.reduceLT, fn_farestate_sameFares, e29_1, w29_1, e29_3, w29_3, e29_5, w29_5, c29_6, c29_7, c29_8, e29_10, w29_10, c29_11, e29_13, w29_13, e29_15, w29_15, e29_17, w29_17, c29_18, e29_20, w29_20, e29_22, w29_22, c29_23, e29_25, w29_25, c29_26, c29_27, e29_29, w29_29, c29_30, c29_31, c29_32, c29_33, c29_34, c29_35, e29_37, w29_37, c29_38, c29_39, c29_40, c29_41, c29_42, take_len, hU']
    exact ⟨false, rfl, by simp, fun e => absurd e.2.1 h3⟩
  simp -implicitDefEqProofs (disch := omega) only [go_sem, Nat.reduceAdd, Nat.reduceMul, Nat.reduceSub, Nat.reduceBEq, Nat.reduceLeDiff, Nat.reduceLT, fn_farestate_sameFares, e29_1, w29_1, e29_3, w29_3, e29_5, w29_5, c29_6, c29_7, c29_8, e29_10, w29_10, c29_11, e29_13, w29_13, e29_15, w29_15, e29_17, w29_17, c29_18, e29_20, w29_20, e29_22, w29_22, c29_23, e29_25, w29_25, c29_26, c29_27, e29_29, w29_29, c29_30, c29_31, c29_32, c29_33, c29_34, c29_35, e29_37, w29_37, c29_38, c29_39, c29_40, c29_41, c29_42, nilCheck_ptr, hF, hG, fcell]
  refine ifD (fun h4 => ?_) (fun h4 => ?_)
  rotate_left
  · simp -implicitDefEqProofs (disch := omega) only [go_sem, Nat.reduceAdd, Nat.reduceMul, Nat.reduceSub, Nat.reduceBEq, Nat.reduceLeDiff, Nat.reduceLT, fn_farestate_sameFares, e29_1, w29_1, e29_3, w29_3, e29_5, w29_5, c29_6, c29_7, c29_8, e29_10, w29_10, c29_11, e29_13, w29_13, e29_15, w29_15, e29_17, w29_17, c29_18, e29_20, w29_20, e29_22, w29_22, c29_23, e29_25, w29_25, c29_26, c29_27, e29_29, w29_29, c29_30, c29_31, c29_32, c29_33, c29_34, c29_35, e29_37, w29_37, c29_38, c29_39, c29_40, c29_41, c29_42, take_len, hU']
    exact ⟨false, rfl, by simp, fun e => absurd e.2.2.1 h4⟩
  simp -implicitDefEqProofs (disch := omega) only [go_sem, Nat.reduceAdd, Nat.reduceMul, Nat.reduceSub, Nat.reduceBEq, Nat.reduceLeDiff, Nat.reduceLT, fn_farestate_sameFares, e29_1, w29_1, e29_3, w29_3, e29_5, w29_5, c29_6, c29_7, c29_8, e29_10, w29_10, c29_11, e29_13, w29_13, e29_15, w29_15, e29_17, w29_17, c29_18, e29_20, w29_20, e29_22, w29_22, c29_23, e29_25, w29_25, c29_26, c29_27, e29_29, w29_29, c29_30, c29_31, c29_32, c29_33, c29_34, c29_35, e29_37, w29_37, c29_38, c29_39, c29_40, c29_41, c29_42, nilCheck_ptr, hF, hG, fcell]
  refine ifD (fun h5 => ?_) (fun h5 => ?_)
  rotate_left
  · simp -implicitDefEqProofs (disch := omega) only [go_sem, Nat.reduceAdd, Nat.reduceMul, Nat.reduceSub, Nat.reduceBEq, Nat.reduceLeDiff, Nat.reduceLT, fn_farestate_sameFares, e29_1, w29_1, e29_3, w29_3, e29_5, w29_5, c29_6, c29_7, c29_8, e29_10, w29_10, c29_11, e29_13, w29_13, e29_15, w29_15, e29_17, w29_17, c29_18, e29_20, w29_20, e29_22, w29_22, c29_23, e29_25, w29_25, c29_26, c29_27, e29_29, w29_29, c29_30, c29_31, c29_32, c29_33, c29_34, c29_35, e29_37, w29_37, c29_38, c29_39, c29_40, c29_41, c29_42, take_len, hU']
    exact ⟨false, rfl, by simp, fun e => absurd e.2.2.2 h5⟩
  simp -implicitDefEqProofs (disch := omega) only [go_sem, Nat.reduceAdd, Nat.reduceMul, Nat.reduceSub, Nat.reduceBEq, Nat.reduceLeDiff, Nat.reduceLT, fn_farestate_sameFares, e29_1, w29_1, e29_3, w29_3, e29_5, w29_5, c29_6, c29_7, c29_8, e29_10, w29_10, c29_11, e29_13, w29_13, e29_15, w29_15, e29_17, w29_17, c29_18, e29_20, w29_20, e29_22, w29_22, c29_23, e29_25, w29_25, c29_26, c29_27, e29_29, w29_29, c29_30, c29_31, c29_32, c29_33, c29_34, c29_35, e29_37, w29_37, c29_38, c29_39, c29_40, c29_41, c29_42, nilCheck_ptr, hF, hG, fcell]
  refine wpC_forL f.products (fun i vs N => (∀ j, j < i → (f.products[j]?).map Product.row = (g.products[j]?).map Product.row) ∧ vs = [.ptr gp 0, .slice (f.products.map Product.row) .unk, .int .i64 f.products.length, .int .i64 i] ∧ N = M) ⟨fun j hj => absurd hj (Nat.not_lt_zero j), by simp [vals, sget], rfl⟩ ?_ ?_
  rotate_left
  · rintro vs N ⟨hall, rfl, rfl⟩
    simp -implicitDefEqProofs (disch := omega) only [go_sem, Nat.reduceAdd, Nat.reduceMul, Nat.reduceSub, Nat.reduceBEq, Nat.reduceLeDiff, Nat.reduceLT, fn_farestate_sameFares, e29_1, w29_1, e29_3, w29_3, e29_5, w29_5, c29_6, c29_7, c29_8, e29_10, w29_10, c29_11, e29_13, w29_13, e29_15, w29_15, e29_17, w29_17, c29_18, e29_20, w29_20, e29_22, w29_22, c29_23, e29_25, w29_25, c29_26, c29_27, e29_29, w29_29, c29_30, c29_31, c29_32, c29_33, c29_34, c29_35, e29_37, w29_37, c29_38, c29_39, c29_40, c29_41, c29_42, dec_irrefl, take_len, hU']
    refine ⟨true, rfl, fun _ => ⟨?_, h3, h4, h5⟩, fun _ => rfl⟩
    apply List.ext_getElem?
    intro j
    rw [List.getElem?_map, List.getElem?_map]
    rcases Nat.lt_or_ge j f.products.length with h6 | h6
    · exact hall j h6
    · rw [List.getElem?_eq_none h6, List.getElem?_eq_none (by omega)]
  rintro i a vs N ha hi hid ⟨hall, rfl, rfl⟩
  obtain ⟨b, hb⟩ : ∃ b, g.products[i]? = some b := ⟨g.products[i], by simp⟩
  simp -implicitDefEqProofs (disch := omega) only [go_sem, Nat.reduceAdd, Nat.reduceMul, Nat.reduceSub, Nat.reduceBEq, Nat.reduceLeDiff, Nat.reduceLT, fn_farestate_sameFares, e29_1, w29_1, e29_3, w29_3, e29_5, w29_5, c29_6, c29_7, c29_8, e29_10, w29_10, c29_11, e29_13, w29_13, e29_15, w29_15, e29_17, w29_17, c29_18, e29_20, w29_20, e29_22, w29_22, c29_23, e29_25, w29_25, c29_26, c29_27, e29_29, w29_29, c29_30, c29_31, c29_32, c29_33, c29_34, c29_35, e29_37, w29_37, c29_38, c29_39, c29_40, c29_41, c29_42, hid, ha, hb, hG', nilCheck_ptr, fcell, get_at0, set_at0, Product.row]
  refine ifB (fun h6 => ?_) (fun h6 => ?_)
  · simp only [Bool.and_eq_true, decide_eq_true_eq] at h6
    obtain ⟨e1, e2, e3, e4, e5, e6⟩ := h6
    have hrow : a.row = b.row := by simp only [Product.row, e1, e2, e3, e4, e5, e6]
    simp -implicitDefEqProofs (disch := omega) only [go_sem, Nat.reduceAdd, Nat.reduceMul, Nat.reduceSub, Nat.reduceBEq, Nat.reduceLeDiff, Nat.reduceLT, fn_farestate_sameFares, e29_1, w29_1, e29_3, w29_3, e29_5, w29_5, c29_6, c29_7, c29_8, e29_10, w29_10, c29_11, e29_13, w29_13, e29_15, w29_15, e29_17, w29_17, c29_18, e29_20, w29_20, e29_22, w29_22, c29_23, e29_25, w29_25, c29_26, c29_27, e29_29, w29_29, c29_30, c29_31, c29_32, c29_33, c29_34, c29_35, e29_37, w29_37, c29_38, c29_39, c29_40, c29_41, c29_42]
    refine next_pop hi ?_ ⟨?_, ?_, ?_⟩
    · have h7 : gp < N.length := (List.getElem?_eq_some_iff.1 hG).1
      simp [popOK, vals, sget, underL, V.under, h7, hU']
    · intro j hj
      rcases Nat.lt_or_ge j i with h7 | h7
      · exact hall j h7
      · have : j = i := by omega
        subst this
        rw [ha, hb]; simp [hrow]
    · simp only [vals, sget]; rfl
    · exact app_take _ _
  · simp -implicitDefEqProofs (disch := omega) only [go_sem, Nat.reduceAdd, Nat.reduceMul, Nat.reduceSub, Nat.reduceBEq, Nat.reduceLeDiff, Nat.reduceLT, fn_farestate_sameFares, e29_1, w29_1, e29_3, w29_3, e29_5, w29_5, c29_6, c29_7, c29_8, e29_10, w29_10, c29_11, e29_13, w29_13, e29_15, w29_15, e29_17, w29_17, c29_18, e29_20, w29_20, e29_22, w29_22, c29_23, e29_25, w29_25, c29_26, c29_27, e29_29, w29_29, c29_30, c29_31, c29_32, c29_33, c29_34, c29_35, e29_37, w29_37, c29_38, c29_39, c29_40, c29_41, c29_42, app_take, le_app, hU']
    refine ⟨false, rfl, by simp, fun e => ?_⟩
    have := congrArg (fun x => x[i]?) e.1
    simp only [List.getElem?_map, ha, hb, Option.map_some, Option.some.injEq, Product.row, List.cons.injEq, V.str.injEq, V.int.injEq, true_and, and_true] at this
    obtain ⟨e1, e2, e3, e4, e5, e6⟩ := this
    simp [e1, e2, e3, e4, e5, e6] at h6

/-- A ticket that may cover more rides. -/
structure Open where
  product : Int
  depart : Int
  rides : Int
  sum : Int
  zones : Nat
def Open.row (o : Open) : List V := [.int .i64 o.product, .int .i64 o.depart, .int .i64 o.rides, .int .i64 o.sum, .int .u64 o.zones]
def replB (o x : Open) : Bool := decide (o.product = x.product) && (decide (x.depart ≤ o.depart) && (decide (o.rides ≤ x.rides) && (decide (o.sum ≤ x.sum) && decide (minus o.zones x.zones = 0))))
theorem replaces_ok (o x : Open) (ho : o.zones < 18446744073709551616) (hx : x.zones < 18446744073709551616) : PCalls PR i_farestate_open_replaces [.agg o.row, .agg x.row] (fun v => v = .bool (replB o x)) := by
  refine acalls_pop fn_farestate_open_replaces_ok (by simp [fn_farestate_open_replaces]) ?_
  simp -implicitDefEqProofs (disch := omega) only [go_sem, Nat.reduceAdd, Nat.reduceMul, Nat.reduceSub, Nat.reduceBEq, Nat.reduceLeDiff, Nat.reduceLT, fn_farestate_open_replaces, e32_1, w32_1, e32_3, w32_3, c32_4, c32_5, Open.row]
  refine ifD (fun h1 => ?_) (fun h1 => ?_)
  rotate_left
  · simp -implicitDefEqProofs (disch := omega) only [go_sem, Nat.reduceAdd, Nat.reduceMul, Nat.reduceSub, Nat.reduceBEq, Nat.reduceLeDiff, Nat.reduceLT, fn_farestate_open_replaces, e32_1, w32_1, e32_3, w32_3, c32_4, c32_5, replB]
    simp [h1]
  simp -implicitDefEqProofs (disch := omega) only [go_sem, Nat.reduceAdd, Nat.reduceMul, Nat.reduceSub, Nat.reduceBEq, Nat.reduceLeDiff, Nat.reduceLT, fn_farestate_open_replaces, e32_1, w32_1, e32_3, w32_3, c32_4, c32_5]
  refine ifD (fun h2 => ?_) (fun h2 => ?_)
  rotate_left
  · simp -implicitDefEqProofs (disch := omega) only [go_sem, Nat.reduceAdd, Nat.reduceMul, Nat.reduceSub, Nat.reduceBEq, Nat.reduceLeDiff, Nat.reduceLT, fn_farestate_open_replaces, e32_1, w32_1, e32_3, w32_3, c32_4, c32_5, replB]
    simp [h2]
  simp -implicitDefEqProofs (disch := omega) only [go_sem, Nat.reduceAdd, Nat.reduceMul, Nat.reduceSub, Nat.reduceBEq, Nat.reduceLeDiff, Nat.reduceLT, fn_farestate_open_replaces, e32_1, w32_1, e32_3, w32_3, c32_4, c32_5]
  refine ifD (fun h3 => ?_) (fun h3 => ?_)
  rotate_left
  · simp -implicitDefEqProofs (disch := omega) only [go_sem, Nat.reduceAdd, Nat.reduceMul, Nat.reduceSub, Nat.reduceBEq, Nat.reduceLeDiff, Nat.reduceLT, fn_farestate_open_replaces, e32_1, w32_1, e32_3, w32_3, c32_4, c32_5, replB]
    simp [h3]
  simp -implicitDefEqProofs (disch := omega) only [go_sem, Nat.reduceAdd, Nat.reduceMul, Nat.reduceSub, Nat.reduceBEq, Nat.reduceLeDiff, Nat.reduceLT, fn_farestate_open_replaces, e32_1, w32_1, e32_3, w32_3, c32_4, c32_5]
  refine ifD (fun h4 => ?_) (fun h4 => ?_)
  rotate_left
  · simp -implicitDefEqProofs (disch := omega) only [go_sem, Nat.reduceAdd, Nat.reduceMul, Nat.reduceSub, Nat.reduceBEq, Nat.reduceLeDiff, Nat.reduceLT, fn_farestate_open_replaces, e32_1, w32_1, e32_3, w32_3, c32_4, c32_5, replB]
    simp [h4]
  simp -implicitDefEqProofs (disch := omega) only [go_sem, Nat.reduceAdd, Nat.reduceMul, Nat.reduceSub, Nat.reduceBEq, Nat.reduceLeDiff, Nat.reduceLT, fn_farestate_open_replaces, e32_1, w32_1, e32_3, w32_3, c32_4, c32_5]
  rw [andNotK_nat _ _ ho hx]
  simp only [replB, h1, h2, h3, h4, decide_true, Bool.true_and]
  exact decide_eq_decide.2 (by omega)

def closedB (f : Fares) (a b : Int) (n n' : Nat) (r r' : Ride) : Bool :=
  if b < 0 then true else if a < 0 ∨ b < a then false else if f.discount = 0 ∨ n' = 0 ∨ a + f.discount ≤ b then true else decide (0 < n) && decide (r'.arrive ≤ r.arrive)
theorem st_3 (fp : Nat) (prev : V) (r : Ride) (n : Int) (S : Nat → Int) : (stRow fp prev r n S)[2 + 1]? = some (.int .i64 r.arrive) := rfl
theorem st_3' (fp : Nat) (prev : V) (r : Ride) (n : Int) (S : Nat → Int) : (stRow fp prev r n S)[3]? = some (.int .i64 r.arrive) := rfl

theorem closedBetter_ok {f : Fares} (hok : f.Ok) {M : Mem} {id jd fp gp : Nat} {p p' : V} {r r' : Ride} {n n' : Nat} {S S' : Nat → Int} (hM : M[id]? = some (.box (stRow fp p r n S))) (hN : M[jd]? = some (.box (stRow gp p' r' n' S')))
    (hF : M[fp]? = some (.box (fcell f))) (hU : Own M) (hn : n < 9) (hn' : n' < 9) (hb : S n ≤ 9000000) :
    ACalls PR i_farestate_closedBetter [.ptr id 0, .ptr jd 0] M (fun v M' => v = .bool (closedB f (S n) (S' n') n n' r r') ∧ M' = M) := by
  have hU' : memUnder M.length M = true := hU
  obtain ⟨d1, d2⟩ := hok.discount
  refine acalls_pop fn_farestate_closedBetter_ok (by simp [fn_farestate_closedBetter]) ?_
  simp -implicitDefEqProofs (disch := omega) only [go_sem, Nat.reduceAdd, Nat.reduceMul, Nat.reduceSub, Nat.reduceBEq, Nat.reduceLeDiff, Nat.reduceLT, fn_farestate_closedBetter, e30_1, w30_1, e30_3, w30_3, e30_5, w30_5, c30_6, e30_8, w30_8, c30_9, e30_11, w30_11, c30_12, e30_14, w30_14, e30_16, w30_16, e30_18, w30_18, c30_19, e30_21, w30_21, c30_22, c30_23, c30_24, c30_25, nilCheck_ptr, hM, hN, hF, st_0, st_6, st_sum]
  refine ifD (fun h1 => ?_) (fun h1 => ?_)
  · simp -implicitDefEqProofs (disch := omega) only [go_sem, Nat.reduceAdd, Nat.reduceMul, Nat.reduceSub, Nat.reduceBEq, Nat.reduceLeDiff, Nat.reduceLT, fn_farestate_closedBetter, e30_1, w30_1, e30_3, w30_3, e30_5, w30_5, c30_6, e30_8, w30_8, c30_9, e30_11, w30_11, c30_12, e30_14, w30_14, e30_16, w30_16, e30_18, w30_18, c30_19, e30_21, w30_21, c30_22, c30_23, c30_24, c30_25, closedB, take_len, hU']
    rw [if_pos h1]
  simp -implicitDefEqProofs (disch := omega) only [go_sem, Nat.reduceAdd, Nat.reduceMul, Nat.reduceSub, Nat.reduceBEq, Nat.reduceLeDiff, Nat.reduceLT, fn_farestate_closedBetter, e30_1, w30_1, e30_3, w30_3, e30_5, w30_5, c30_6, e30_8, w30_8, c30_9, e30_11, w30_11, c30_12, e30_14, w30_14, e30_16, w30_16, e30_18, w30_18, c30_19, e30_21, w30_21, c30_22, c30_23, c30_24, c30_25]
  refine ifD (fun h2 => ?_) (fun h2 => ?_)
  · simp -implicitDefEqProofs (disch := omega) only [go_sem, Nat.reduceAdd, Nat.reduceMul, Nat.reduceSub, Nat.reduceBEq, Nat.reduceLeDiff, Nat.reduceLT, fn_farestate_closedBetter, e30_1, w30_1, e30_3, w30_3, e30_5, w30_5, c30_6, e30_8, w30_8, c30_9, e30_11, w30_11, c30_12, e30_14, w30_14, e30_16, w30_16, e30_18, w30_18, c30_19, e30_21, w30_21, c30_22, c30_23, c30_24, c30_25, closedB, take_len, hU']
    rw [if_neg h1, if_pos (.inl h2)]
  simp -implicitDefEqProofs (disch := omega) only [go_sem, Nat.reduceAdd, Nat.reduceMul, Nat.reduceSub, Nat.reduceBEq, Nat.reduceLeDiff, Nat.reduceLT, fn_farestate_closedBetter, e30_1, w30_1, e30_3, w30_3, e30_5, w30_5, c30_6, e30_8, w30_8, c30_9, e30_11, w30_11, c30_12, e30_14, w30_14, e30_16, w30_16, e30_18, w30_18, c30_19, e30_21, w30_21, c30_22, c30_23, c30_24, c30_25]
  refine ifD (fun h3 => ?_) (fun h3 => ?_)
  · simp -implicitDefEqProofs (disch := omega) only [go_sem, Nat.reduceAdd, Nat.reduceMul, Nat.reduceSub, Nat.reduceBEq, Nat.reduceLeDiff, Nat.reduceLT, fn_farestate_closedBetter, e30_1, w30_1, e30_3, w30_3, e30_5, w30_5, c30_6, e30_8, w30_8, c30_9, e30_11, w30_11, c30_12, e30_14, w30_14, e30_16, w30_16, e30_18, w30_18, c30_19, e30_21, w30_21, c30_22, c30_23, c30_24, c30_25, closedB, take_len, hU']
    rw [if_neg h1, if_pos (.inr h3)]
  simp -implicitDefEqProofs (disch := omega) only [go_sem, Nat.reduceAdd, Nat.reduceMul, Nat.reduceSub, Nat.reduceBEq, Nat.reduceLeDiff, Nat.reduceLT, fn_farestate_closedBetter, e30_1, w30_1, e30_3, w30_3, e30_5, w30_5, c30_6, e30_8, w30_8, c30_9, e30_11, w30_11, c30_12, e30_14, w30_14, e30_16, w30_16, e30_18, w30_18, c30_19, e30_21, w30_21, c30_22, c30_23, c30_24, c30_25, nilCheck_ptr, hM, hN, hF, st_0, st_6, fcell]
  refine ifD (fun h4 => ?_) (fun h4 => ?_)
  · simp -implicitDefEqProofs (disch := omega) only [go_sem, Nat.reduceAdd, Nat.reduceMul, Nat.reduceSub, Nat.reduceBEq, Nat.reduceLeDiff, Nat.reduceLT, fn_farestate_closedBetter, e30_1, w30_1, e30_3, w30_3, e30_5, w30_5, c30_6, e30_8, w30_8, c30_9, e30_11, w30_11, c30_12, e30_14, w30_14, e30_16, w30_16, e30_18, w30_18, c30_19, e30_21, w30_21, c30_22, c30_23, c30_24, c30_25, closedB, take_len, hU']
    rw [if_neg h1, if_neg (by omega), if_pos (.inl h4)]
  simp -implicitDefEqProofs (disch := omega) only [go_sem, Nat.reduceAdd, Nat.reduceMul, Nat.reduceSub, Nat.reduceBEq, Nat.reduceLeDiff, Nat.reduceLT, fn_farestate_closedBetter, e30_1, w30_1, e30_3, w30_3, e30_5, w30_5, c30_6, e30_8, w30_8, c30_9, e30_11, w30_11, c30_12, e30_14, w30_14, e30_16, w30_16, e30_18, w30_18, c30_19, e30_21, w30_21, c30_22, c30_23, c30_24, c30_25, nilCheck_ptr, hM, hN, hF, st_0, st_6, fcell]
  refine ifD (fun h5 => ?_) (fun h5 => ?_)
  · simp -implicitDefEqProofs (disch := omega) only [go_sem, Nat.reduceAdd, Nat.reduceMul, Nat.reduceSub, Nat.reduceBEq, Nat.reduceLeDiff, Nat.reduceLT, fn_farestate_closedBetter, e30_1, w30_1, e30_3, w30_3, e30_5, w30_5, c30_6, e30_8, w30_8, c30_9, e30_11, w30_11, c30_12, e30_14, w30_14, e30_16, w30_16, e30_18, w30_18, c30_19, e30_21, w30_21, c30_22, c30_23, c30_24, c30_25, closedB, take_len, hU']
    rw [if_neg h1, if_neg (by omega), if_pos (.inr (.inl (by omega)))]
  simp -implicitDefEqProofs (disch := omega) only [go_sem, Nat.reduceAdd, Nat.reduceMul, Nat.reduceSub, Nat.reduceBEq, Nat.reduceLeDiff, Nat.reduceLT, fn_farestate_closedBetter, e30_1, w30_1, e30_3, w30_3, e30_5, w30_5, c30_6, e30_8, w30_8, c30_9, e30_11, w30_11, c30_12, e30_14, w30_14, e30_16, w30_16, e30_18, w30_18, c30_19, e30_21, w30_21, c30_22, c30_23, c30_24, c30_25, nilCheck_ptr, hM, hN, hF, st_0, st_6, fcell]
  refine ifD (fun h6 => ?_) (fun h6 => ?_)
  · simp -implicitDefEqProofs (disch := omega) only [go_sem, Nat.reduceAdd, Nat.reduceMul, Nat.reduceSub, Nat.reduceBEq, Nat.reduceLeDiff, Nat.reduceLT, fn_farestate_closedBetter, e30_1, w30_1, e30_3, w30_3, e30_5, w30_5, c30_6, e30_8, w30_8, c30_9, e30_11, w30_11, c30_12, e30_14, w30_14, e30_16, w30_16, e30_18, w30_18, c30_19, e30_21, w30_21, c30_22, c30_23, c30_24, c30_25, closedB, take_len, hU']
    rw [if_neg h1, if_neg (by omega), if_pos (.inr (.inr h6))]
  simp -implicitDefEqProofs (disch := omega) only [go_sem, Nat.reduceAdd, Nat.reduceMul, Nat.reduceSub, Nat.reduceBEq, Nat.reduceLeDiff, Nat.reduceLT, fn_farestate_closedBetter, e30_1, w30_1, e30_3, w30_3, e30_5, w30_5, c30_6, e30_8, w30_8, c30_9, e30_11, w30_11, c30_12, e30_14, w30_14, e30_16, w30_16, e30_18, w30_18, c30_19, e30_21, w30_21, c30_22, c30_23, c30_24, c30_25, nilCheck_ptr, hM, hN, hF, st_0, st_6, st_3, st_3', fcell]
  refine ifD (fun h7 => ?_) (fun h7 => ?_)
  · simp -implicitDefEqProofs (disch := omega) only [go_sem, Nat.reduceAdd, Nat.reduceMul, Nat.reduceSub, Nat.reduceBEq, Nat.reduceLeDiff, Nat.reduceLT, fn_farestate_closedBetter, e30_1, w30_1, e30_3, w30_3, e30_5, w30_5, c30_6, e30_8, w30_8, c30_9, e30_11, w30_11, c30_12, e30_14, w30_14, e30_16, w30_16, e30_18, w30_18, c30_19, e30_21, w30_21, c30_22, c30_23, c30_24, c30_25, nilCheck_ptr, hM, hN, hF, st_0, st_6, st_3, st_3', closedB, take_len, hU']
    rw [if_neg h1, if_neg (by omega), if_neg (by omega), decide_eq_true (show 0 < n by omega), Bool.true_and]
  · simp -implicitDefEqProofs (disch := omega) only [go_sem, Nat.reduceAdd, Nat.reduceMul, Nat.reduceSub, Nat.reduceBEq, Nat.reduceLeDiff, Nat.reduceLT, fn_farestate_closedBetter, e30_1, w30_1, e30_3, w30_3, e30_5, w30_5, c30_6, e30_8, w30_8, c30_9, e30_11, w30_11, c30_12, e30_14, w30_14, e30_16, w30_16, e30_18, w30_18, c30_19, e30_21, w30_21, c30_22, c30_23, c30_24, c30_25, nilCheck_ptr, hM, hN, hF, st_0, st_6, st_3, st_3', closedB, take_len, hU']
    rw [if_neg h1, if_neg (by omega), if_neg (by omega), decide_eq_false (show ¬ 0 < n by omega), Bool.false_and]

end Go.Vm.C

