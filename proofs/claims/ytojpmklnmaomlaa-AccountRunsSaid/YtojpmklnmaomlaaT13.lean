/- Both accounts do the same. -/
import Derived.Test.YtojpmklnmaomlaaT12

namespace Go.Vm.C
open Go.Vm
set_option maxHeartbeats 1000000
set_option maxRecDepth 10000
set_option linter.unusedSimpArgs false
set_option linter.unusedVariables false

/-! ### The reference's account: new ones, refunds -/
def zeroRA : List V := [.slice [] .nil, .int .i64 0, .int .i64 0, .int .i64 0, .slice [] .nil, .slice [] .nil]
theorem ref_New_ok (f : Fares) (hf : f.wf) : PCalls PR i_transitref37_New [.agg f.row] (fun v => v = if (checkRes f).2 = 0 then .tuple [.agg (RA.row ⟨f, [], [], .nil, .nil⟩), .int .i64 0] else .tuple [.agg zeroRA, .int .i64 20]) := by
  have hc := transitref21_Check_ok f hf
  simp only [Fares.row, pairV] at hc
  generalize checkRes f = E at *
  refine acalls_pop fn_transitref37_New_ok (by simp [fn_transitref37_New]) ?_
  simp -implicitDefEqProofs (disch := omega) only [go_sem, Nat.reduceAdd, Nat.reduceMul, Nat.reduceSub, Nat.reduceBEq, Nat.reduceLeDiff, Nat.reduceLT, fn_transitref37_New, e14_1, w14_1, e14_3, w14_3, e14_5, w14_5, c14_6, e14_8, w14_8, c14_9, e14_11, w14_11, c14_12, c14_13, c14_14, Fares.row]
  first | refine callD (hc) ?_ | refine callQD (hc) ?_
  simp -implicitDefEqProofs (disch := omega) only [go_sem, Nat.reduceAdd, Nat.reduceMul, Nat.reduceSub, Nat.reduceBEq, Nat.reduceLeDiff, Nat.reduceLT, fn_transitref37_New, e14_1, w14_1, e14_3, w14_3, e14_5, w14_5, c14_6, e14_8, w14_8, c14_9, e14_11, w14_11, c14_12, c14_13, c14_14]
  refine ifD (fun h => ?_) (fun h => ?_)
  · rw [if_pos h]
    simp -implicitDefEqProofs (disch := omega) only [go_sem, Nat.reduceAdd, Nat.reduceMul, Nat.reduceSub, Nat.reduceBEq, Nat.reduceLeDiff, Nat.reduceLT, fn_transitref37_New, e14_1, w14_1, e14_3, w14_3, e14_5, w14_5, c14_6, e14_8, w14_8, c14_9, e14_11, w14_11, c14_12, c14_13, c14_14, RA.row, List.map_nil]
  · rw [if_neg h]
    simp -implicitDefEqProofs (disch := omega) only [go_sem, Nat.reduceAdd, Nat.reduceMul, Nat.reduceSub, Nat.reduceBEq, Nat.reduceLeDiff, Nat.reduceLT, fn_transitref37_New, e14_1, w14_1, e14_3, w14_3, e14_5, w14_5, c14_6, e14_8, w14_8, c14_9, e14_11, w14_11, c14_12, c14_13, c14_14, zeroRA]
theorem set_row (l : List Int) (i : Nat) (x : Int) : (l.map dRow).set i [.int .i64 x] = (l.set i x).map dRow := by rw [List.map_set]; rfl
/-- A refund: the account then, and the error. -/
def refundR (a : RA) (d n : Int) : RA × Int :=
  if hitI a.days d = false then (a, 7) else if n < 1 ∨ (a.spent[findI a.days d]?).getD 0 < n then (a, 2) else (⟨a.fares, a.days, a.spent.set (findI a.days d) ((a.spent[findI a.days d]?).getD 0 - n), a.c1, .unk⟩, 0)
theorem ref_Refund_ok (a : RA) (d n : Int) (hl : a.days.length ≤ 1000) (hs : a.spent.length = a.days.length) (hb : ∀ x ∈ a.spent, 0 ≤ x ∧ x ≤ 1000000000) : PCalls PR i_transitref37_Refund [.agg a.row, .int .i64 d, .int .i64 n] (fun v => v = .tuple [.agg (refundR a d n).1.row, .int .i64 (refundR a d n).2]) := by
  have hf := ref_find_ok a d hl
  simp only [RA.row] at hf
  refine acalls_pop fn_transitref37_Refund_ok (by simp [fn_transitref37_Refund]) ?_
  simp -implicitDefEqProofs (disch := omega) only [go_sem, Nat.reduceAdd, Nat.reduceMul, Nat.reduceSub, Nat.reduceBEq, Nat.reduceLeDiff, Nat.reduceLT, fn_transitref37_Refund, e15_1, w15_1, e15_3, w15_3, e15_5, w15_5, c15_6, e15_8, w15_8, e15_10, w15_10, c15_11, e15_13, w15_13, e15_15, w15_15, e15_17, w15_17, e15_19, w15_19, c15_20, c15_21, c15_22, c15_23, c15_24, c15_25, c15_26, RA.row]
  first | refine callD (hf) ?_ | refine callQD (hf) ?_
  cases hh : hitI a.days d
  · have e : refundR a d n = (a, 7) := by rw [refundR, if_pos hh]
    rw [e]
    simp -implicitDefEqProofs (disch := omega) only [go_sem, Nat.reduceAdd, Nat.reduceMul, Nat.reduceSub, Nat.reduceBEq, Nat.reduceLeDiff, Nat.reduceLT, fn_transitref37_Refund, e15_1, w15_1, e15_3, w15_3, e15_5, w15_5, c15_6, e15_8, w15_8, e15_10, w15_10, c15_11, e15_13, w15_13, e15_15, w15_15, e15_17, w15_17, e15_19, w15_19, c15_20, c15_21, c15_22, c15_23, c15_24, c15_25, c15_26, RA.row]
  have hlt := hitI_lt hh
  obtain ⟨x, hx⟩ : ∃ x, a.spent[findI a.days d]? = some x := ⟨a.spent[findI a.days d]'(by omega), by simp⟩
  have gx := drow_at hx
  obtain ⟨b1, b2⟩ := hb x (List.mem_of_getElem? hx)
  have hr : refundR a d n = if n < 1 ∨ x < n then (a, 2) else (⟨a.fares, a.days, a.spent.set (findI a.days d) (x - n), a.c1, .unk⟩, 0) := by
    rw [refundR, if_neg (by simp [hh]), hx]; rfl
  have hle := findI_le d a.days
  generalize hI : findI a.days d = i at *
  simp -implicitDefEqProofs (disch := omega) only [go_sem, Nat.reduceAdd, Nat.reduceMul, Nat.reduceSub, Nat.reduceBEq, Nat.reduceLeDiff, Nat.reduceLT, fn_transitref37_Refund, e15_1, w15_1, e15_3, w15_3, e15_5, w15_5, c15_6, e15_8, w15_8, e15_10, w15_10, c15_11, e15_13, w15_13, e15_15, w15_15, e15_17, w15_17, e15_19, w15_19, c15_20, c15_21, c15_22, c15_23, c15_24, c15_25, c15_26, RA.row]
  refine ifD (fun h1 => ?_) (fun h1 => ?_)
  · have e : refundR a d n = (a, 2) := by rw [hr, if_pos (.inl h1)]
    rw [e]
    simp -implicitDefEqProofs (disch := omega) only [go_sem, Nat.reduceAdd, Nat.reduceMul, Nat.reduceSub, Nat.reduceBEq, Nat.reduceLeDiff, Nat.reduceLT, fn_transitref37_Refund, e15_1, w15_1, e15_3, w15_3, e15_5, w15_5, c15_6, e15_8, w15_8, e15_10, w15_10, c15_11, e15_13, w15_13, e15_15, w15_15, e15_17, w15_17, e15_19, w15_19, c15_20, c15_21, c15_22, c15_23, c15_24, c15_25, c15_26, RA.row]
  simp -implicitDefEqProofs (disch := omega) only [go_sem, Nat.reduceAdd, Nat.reduceMul, Nat.reduceSub, Nat.reduceBEq, Nat.reduceLeDiff, Nat.reduceLT, fn_transitref37_Refund, e15_1, w15_1, e15_3, w15_3, e15_5, w15_5, c15_6, e15_8, w15_8, e15_10, w15_10, c15_11, e15_13, w15_13, e15_15, w15_15, e15_17, w15_17, e15_19, w15_19, c15_20, c15_21, c15_22, c15_23, c15_24, c15_25, c15_26, RA.row, List.length_map, gx]
  refine ifD (fun h2 => ?_) (fun h2 => ?_)
  · have e : refundR a d n = (a, 2) := by rw [hr, if_pos (.inr h2)]
    rw [e]
    simp -implicitDefEqProofs (disch := omega) only [go_sem, Nat.reduceAdd, Nat.reduceMul, Nat.reduceSub, Nat.reduceBEq, Nat.reduceLeDiff, Nat.reduceLT, fn_transitref37_Refund, e15_1, w15_1, e15_3, w15_3, e15_5, w15_5, c15_6, e15_8, w15_8, e15_10, w15_10, c15_11, e15_13, w15_13, e15_15, w15_15, e15_17, w15_17, e15_19, w15_19, c15_20, c15_21, c15_22, c15_23, c15_24, c15_25, c15_26, RA.row]
  rw [if_neg (by omega)] at hr
  rw [hr]
  have hap := fun M => app_fresh a.spent a.c2 M (by omega) (by omega)
  have hset := set_row a.spent i (x - n)
  have hil : decide (i < a.spent.length) = true := decide_eq_true (List.getElem?_eq_some_iff.1 hx).1
  have e3 : List.take a.spent.length ((a.spent.set i (x - n)).map dRow) = (a.spent.set i (x - n)).map dRow := List.take_of_length_le (by simp)
  simp -implicitDefEqProofs (disch := omega) only [go_sem, Nat.reduceAdd, Nat.reduceMul, Nat.reduceSub, Nat.reduceBEq, Nat.reduceLeDiff, Nat.reduceLT, fn_transitref37_Refund, e15_1, w15_1, e15_3, w15_3, e15_5, w15_5, c15_6, e15_8, w15_8, e15_10, w15_10, c15_11, e15_13, w15_13, e15_15, w15_15, e15_17, w15_17, e15_19, w15_19, c15_20, c15_21, c15_22, c15_23, c15_24, c15_25, c15_26, RA.row, List.length_map, hap, hil, gx, hset, List.length_set, e3]

/-! ### The reference's charge -/
def amtR (a : RA) (d : Int) (l : List Ride) : Int := if a.fares.limit > 0 then min (fareRes a.fares l).1 (a.fares.limit - onR a d) else (fareRes a.fares l).1
def openR (a : RA) (d : Int) : RA := if hitI a.days d then a else ⟨a.fares, putL a.days (findI a.days d) d, putL a.spent (findI a.days d) 0, .unk, .unk⟩
def chargeR (a : RA) (d : Int) (l : List Ride) : RA × Int × Int :=
  if validB d = false then (a, 0, 11) else if (fareRes a.fares l).2.2 ≠ 0 then (a, 0, (fareRes a.fares l).2.2)
  else (⟨a.fares, (openR a d).days, (openR a d).spent.set (findI a.days d) (((openR a d).spent[findI a.days d]?).getD 0 + amtR a d l), (openR a d).c1, .unk⟩, amtR a d l, 0)
theorem putL_at {l : List Int} {k : Nat} (n : Int) (h : k ≤ l.length) : (putL l k n)[k]? = some n := by
  have h1 : (l.take k).length = k := by rw [List.length_take]; omega
  rw [putL, List.append_assoc, List.getElem?_append_right (by omega), h1, Nat.sub_self]; rfl
theorem ref_Charge_ok (a : RA) (d : Int) (l : List Ride) (c : Cap) (hf : a.fares.wf) (hc : (checkRes a.fares).2 = 0) (hr : ∀ r ∈ l, r.wf) (hl : a.days.length ≤ 900) (hs : a.spent.length = a.days.length) (hb : ∀ x ∈ a.spent, 0 ≤ x ∧ x ≤ 1000000000) (ho : 0 ≤ onR a d ∧ onR a d ≤ 1000000000) :
    PCalls PR i_transitref37_Charge [.agg a.row, .int .i64 d, .slice (l.map Ride.row) c] (fun v => v = .tuple [.agg (chargeR a d l).1.row, .int .i64 (chargeR a d l).2.1, .int .i64 (chargeR a d l).2.2]) := by
  have hfind := ref_find_ok a d (by omega)
  have hon := ref_On_ok a d (by omega) hs
  have hpr := transitref35_Price_ok a.fares l c hf hr
  have hrange := ref_range (l := l) hc
  obtain ⟨lm1, lm2⟩ := (checkRes_ok hc).limit
  have hle := findI_le d a.days
  have hp1 := ref_put_ok a.days a.c1 (findI a.days d) d (by omega) hle
  have hp2 := ref_put_ok a.spent a.c2 (findI a.days d) 0 (by omega) (by omega)
  simp only [RA.row] at hfind hon
  simp only [Fares.row] at hpr
  refine acalls_pop fn_transitref37_Charge_ok (by simp [fn_transitref37_Charge]) ?_
  simp -implicitDefEqProofs (disch := omega) only [go_sem, Nat.reduceAdd, Nat.reduceMul, Nat.reduceSub, Nat.reduceBEq, Nat.reduceLeDiff, Nat.reduceLT, fn_transitref37_Charge, e16_1, w16_1, e16_3, w16_3, c16_4, e16_6, w16_6, e16_8, w16_8, e16_10, w16_10, c16_11, e16_13, w16_13, e16_15, w16_15, e16_17, w16_17, e16_19, w16_19, e16_21, w16_21, e16_23, w16_23, e16_25, w16_25, e16_27, w16_27, e16_29, w16_29, c16_30, c16_31, c16_32, c16_33, c16_34, c16_35, c16_36, c16_37, c16_38, c16_39, RA.row]
  refine ifD (fun k1 => ?_) (fun k1 => ?_)
  · have e : chargeR a d l = (a, 0, 11) := by rw [chargeR, if_pos (show validB d = false from decide_eq_false (by omega))]
    rw [e]
    simp -implicitDefEqProofs (disch := omega) only [go_sem, Nat.reduceAdd, Nat.reduceMul, Nat.reduceSub, Nat.reduceBEq, Nat.reduceLeDiff, Nat.reduceLT, fn_transitref37_Charge, e16_1, w16_1, e16_3, w16_3, c16_4, e16_6, w16_6, e16_8, w16_8, e16_10, w16_10, c16_11, e16_13, w16_13, e16_15, w16_15, e16_17, w16_17, e16_19, w16_19, e16_21, w16_21, e16_23, w16_23, e16_25, w16_25, e16_27, w16_27, e16_29, w16_29, c16_30, c16_31, c16_32, c16_33, c16_34, c16_35, c16_36, c16_37, c16_38, c16_39, RA.row]
  simp -implicitDefEqProofs (disch := omega) only [go_sem, Nat.reduceAdd, Nat.reduceMul, Nat.reduceSub, Nat.reduceBEq, Nat.reduceLeDiff, Nat.reduceLT, fn_transitref37_Charge, e16_1, w16_1, e16_3, w16_3, c16_4, e16_6, w16_6, e16_8, w16_8, e16_10, w16_10, c16_11, e16_13, w16_13, e16_15, w16_15, e16_17, w16_17, e16_19, w16_19, e16_21, w16_21, e16_23, w16_23, e16_25, w16_25, e16_27, w16_27, e16_29, w16_29, c16_30, c16_31, c16_32, c16_33, c16_34, c16_35, c16_36, c16_37, c16_38, c16_39, RA.row]
  refine ifD (fun k2 => ?_) (fun k2 => ?_)
  · have e : chargeR a d l = (a, 0, 11) := by rw [chargeR, if_pos (show validB d = false from decide_eq_false (by omega))]
    rw [e]
    simp -implicitDefEqProofs (disch := omega) only [go_sem, Nat.reduceAdd, Nat.reduceMul, Nat.reduceSub, Nat.reduceBEq, Nat.reduceLeDiff, Nat.reduceLT, fn_transitref37_Charge, e16_1, w16_1, e16_3, w16_3, c16_4, e16_6, w16_6, e16_8, w16_8, e16_10, w16_10, c16_11, e16_13, w16_13, e16_15, w16_15, e16_17, w16_17, e16_19, w16_19, e16_21, w16_21, e16_23, w16_23, e16_25, w16_25, e16_27, w16_27, e16_29, w16_29, c16_30, c16_31, c16_32, c16_33, c16_34, c16_35, c16_36, c16_37, c16_38, c16_39, RA.row]
  have hv : ¬ validB d = false := by simp [validB]; omega
  simp -implicitDefEqProofs (disch := omega) only [go_sem, Nat.reduceAdd, Nat.reduceMul, Nat.reduceSub, Nat.reduceBEq, Nat.reduceLeDiff, Nat.reduceLT, fn_transitref37_Charge, e16_1, w16_1, e16_3, w16_3, c16_4, e16_6, w16_6, e16_8, w16_8, e16_10, w16_10, c16_11, e16_13, w16_13, e16_15, w16_15, e16_17, w16_17, e16_19, w16_19, e16_21, w16_21, e16_23, w16_23, e16_25, w16_25, e16_27, w16_27, e16_29, w16_29, c16_30, c16_31, c16_32, c16_33, c16_34, c16_35, c16_36, c16_37, c16_38, c16_39, RA.row]
  refine callP hpr ?_
  rintro v ⟨dd, rfl⟩
  simp -implicitDefEqProofs (disch := omega) only [go_sem, Nat.reduceAdd, Nat.reduceMul, Nat.reduceSub, Nat.reduceBEq, Nat.reduceLeDiff, Nat.reduceLT, fn_transitref37_Charge, e16_1, w16_1, e16_3, w16_3, c16_4, e16_6, w16_6, e16_8, w16_8, e16_10, w16_10, c16_11, e16_13, w16_13, e16_15, w16_15, e16_17, w16_17, e16_19, w16_19, e16_21, w16_21, e16_23, w16_23, e16_25, w16_25, e16_27, w16_27, e16_29, w16_29, c16_30, c16_31, c16_32, c16_33, c16_34, c16_35, c16_36, c16_37, c16_38, c16_39, fareV]
  refine ifD (fun k3 => ?_) (fun k3 => ?_)
  rotate_left
  · have e : chargeR a d l = (a, 0, (fareRes a.fares l).2.2) := by rw [chargeR, if_neg hv, if_pos k3]
    rw [e]
    simp -implicitDefEqProofs (disch := omega) only [go_sem, Nat.reduceAdd, Nat.reduceMul, Nat.reduceSub, Nat.reduceBEq, Nat.reduceLeDiff, Nat.reduceLT, fn_transitref37_Charge, e16_1, w16_1, e16_3, w16_3, c16_4, e16_6, w16_6, e16_8, w16_8, e16_10, w16_10, c16_11, e16_13, w16_13, e16_15, w16_15, e16_17, w16_17, e16_19, w16_19, e16_21, w16_21, e16_23, w16_23, e16_25, w16_25, e16_27, w16_27, e16_29, w16_29, c16_30, c16_31, c16_32, c16_33, c16_34, c16_35, c16_36, c16_37, c16_38, c16_39, RA.row]
  have e : chargeR a d l = (⟨a.fares, (openR a d).days, (openR a d).spent.set (findI a.days d) (((openR a d).spent[findI a.days d]?).getD 0 + amtR a d l), (openR a d).c1, .unk⟩, amtR a d l, 0) := by rw [chargeR, if_neg hv, if_neg (by simp [k3])]
  simp -implicitDefEqProofs (disch := omega) only [go_sem, Nat.reduceAdd, Nat.reduceMul, Nat.reduceSub, Nat.reduceBEq, Nat.reduceLeDiff, Nat.reduceLT, fn_transitref37_Charge, e16_1, w16_1, e16_3, w16_3, c16_4, e16_6, w16_6, e16_8, w16_8, e16_10, w16_10, c16_11, e16_13, w16_13, e16_15, w16_15, e16_17, w16_17, e16_19, w16_19, e16_21, w16_21, e16_23, w16_23, e16_25, w16_25, e16_27, w16_27, e16_29, w16_29, c16_30, c16_31, c16_32, c16_33, c16_34, c16_35, c16_36, c16_37, c16_38, c16_39, RA.row]
  refine ifD (fun k4 => ?_) (fun k4 => ?_)
  · have ea : amtR a d l = min (fareRes a.fares l).1 (a.fares.limit - onR a d) := by rw [amtR, if_pos k4]
    simp -implicitDefEqProofs (disch := omega) only [go_sem, Nat.reduceAdd, Nat.reduceMul, Nat.reduceSub, Nat.reduceBEq, Nat.reduceLeDiff, Nat.reduceLT, fn_transitref37_Charge, e16_1, w16_1, e16_3, w16_3, c16_4, e16_6, w16_6, e16_8, w16_8, e16_10, w16_10, c16_11, e16_13, w16_13, e16_15, w16_15, e16_17, w16_17, e16_19, w16_19, e16_21, w16_21, e16_23, w16_23, e16_25, w16_25, e16_27, w16_27, e16_29, w16_29, c16_30, c16_31, c16_32, c16_33, c16_34, c16_35, c16_36, c16_37, c16_38, c16_39, RA.row]
    first | refine callD (hon) ?_ | refine callQD (hon) ?_
    simp -implicitDefEqProofs (disch := omega) only [go_sem, Nat.reduceAdd, Nat.reduceMul, Nat.reduceSub, Nat.reduceBEq, Nat.reduceLeDiff, Nat.reduceLT, fn_transitref37_Charge, e16_1, w16_1, e16_3, w16_3, c16_4, e16_6, w16_6, e16_8, w16_8, e16_10, w16_10, c16_11, e16_13, w16_13, e16_15, w16_15, e16_17, w16_17, e16_19, w16_19, e16_21, w16_21, e16_23, w16_23, e16_25, w16_25, e16_27, w16_27, e16_29, w16_29, c16_30, c16_31, c16_32, c16_33, c16_34, c16_35, c16_36, c16_37, c16_38, c16_39, RA.row]
    have hmb : -1000000000 ≤ min (fareRes a.fares l).1 (a.fares.limit - onR a d) ∧ min (fareRes a.fares l).1 (a.fares.limit - onR a d) ≤ 1000000000 := by omega
    obtain ⟨m1, m2⟩ := hmb
    first | refine callD (hfind) ?_ | refine callQD (hfind) ?_
    cases hh : hitI a.days d
    · have hop : openR a d = ⟨a.fares, putL a.days (findI a.days d) d, putL a.spent (findI a.days d) 0, .unk, .unk⟩ := by rw [openR, hh]; rfl
      have hx := putL_at (l := a.spent) (k := findI a.days d) 0 (by omega)
      have hpl := putL_len a.spent (findI a.days d) 0 (by omega)
      have gx := drow_at hx
      have hfin : chargeR a d l = (⟨a.fares, putL a.days (findI a.days d) d, (putL a.spent (findI a.days d) 0).set (findI a.days d) (0 + (min (fareRes a.fares l).1 (a.fares.limit - onR a d))), .unk, .unk⟩, (min (fareRes a.fares l).1 (a.fares.limit - onR a d)), 0) := by rw [e, ea, hop]; simp only [hx, Option.getD_some]
      rw [hfin]
      have hil : decide (findI a.days d < (putL a.spent (findI a.days d) 0).length) = true := decide_eq_true (by omega)
      have hap := fun M => app_fresh (putL a.spent (findI a.days d) 0) .unk M (by omega) (by omega)
      have hset := set_row (putL a.spent (findI a.days d) 0) (findI a.days d) (0 + (min (fareRes a.fares l).1 (a.fares.limit - onR a d)))
      have e3 : List.take (putL a.spent (findI a.days d) 0).length (((putL a.spent (findI a.days d) 0).set (findI a.days d) (0 + (min (fareRes a.fares l).1 (a.fares.limit - onR a d)))).map dRow) = ((putL a.spent (findI a.days d) 0).set (findI a.days d) (0 + (min (fareRes a.fares l).1 (a.fares.limit - onR a d)))).map dRow := List.take_of_length_le (by simp)
      generalize findI a.days d = i at *
      generalize putL a.spent i 0 = P at *
      generalize putL a.days i d = D at *
      generalize hm : (min (fareRes a.fares l).1 (a.fares.limit - onR a d)) = m at *
      simp -implicitDefEqProofs (disch := omega) only [go_sem, Nat.reduceAdd, Nat.reduceMul, Nat.reduceSub, Nat.reduceBEq, Nat.reduceLeDiff, Nat.reduceLT, fn_transitref37_Charge, e16_1, w16_1, e16_3, w16_3, c16_4, e16_6, w16_6, e16_8, w16_8, e16_10, w16_10, c16_11, e16_13, w16_13, e16_15, w16_15, e16_17, w16_17, e16_19, w16_19, e16_21, w16_21, e16_23, w16_23, e16_25, w16_25, e16_27, w16_27, e16_29, w16_29, c16_30, c16_31, c16_32, c16_33, c16_34, c16_35, c16_36, c16_37, c16_38, c16_39, RA.row]
      first | refine callD (hp1) ?_ | refine callQD (hp1) ?_
      simp -implicitDefEqProofs (disch := omega) only [go_sem, Nat.reduceAdd, Nat.reduceMul, Nat.reduceSub, Nat.reduceBEq, Nat.reduceLeDiff, Nat.reduceLT, fn_transitref37_Charge, e16_1, w16_1, e16_3, w16_3, c16_4, e16_6, w16_6, e16_8, w16_8, e16_10, w16_10, c16_11, e16_13, w16_13, e16_15, w16_15, e16_17, w16_17, e16_19, w16_19, e16_21, w16_21, e16_23, w16_23, e16_25, w16_25, e16_27, w16_27, e16_29, w16_29, c16_30, c16_31, c16_32, c16_33, c16_34, c16_35, c16_36, c16_37, c16_38, c16_39, RA.row]
      first | refine callD (hp2) ?_ | refine callQD (hp2) ?_
      simp -implicitDefEqProofs (disch := omega) only [go_sem, Nat.reduceAdd, Nat.reduceMul, Nat.reduceSub, Nat.reduceBEq, Nat.reduceLeDiff, Nat.reduceLT, fn_transitref37_Charge, e16_1, w16_1, e16_3, w16_3, c16_4, e16_6, w16_6, e16_8, w16_8, e16_10, w16_10, c16_11, e16_13, w16_13, e16_15, w16_15, e16_17, w16_17, e16_19, w16_19, e16_21, w16_21, e16_23, w16_23, e16_25, w16_25, e16_27, w16_27, e16_29, w16_29, c16_30, c16_31, c16_32, c16_33, c16_34, c16_35, c16_36, c16_37, c16_38, c16_39, RA.row, List.length_map, hap, hil, gx, hset, List.length_set, e3]
    · have hop : openR a d = a := by rw [openR, hh]; rfl
      have hlt := hitI_lt hh
      obtain ⟨x, hx⟩ : ∃ x, a.spent[findI a.days d]? = some x := ⟨a.spent[findI a.days d]'(by omega), by simp⟩
      have gx := drow_at hx
      obtain ⟨b1, b2⟩ := hb x (List.mem_of_getElem? hx)
      have hfin : chargeR a d l = (⟨a.fares, a.days, a.spent.set (findI a.days d) (x + (min (fareRes a.fares l).1 (a.fares.limit - onR a d))), a.c1, .unk⟩, (min (fareRes a.fares l).1 (a.fares.limit - onR a d)), 0) := by rw [e, ea, hop]; simp only [hx, Option.getD_some]
      rw [hfin]
      have hil : decide (findI a.days d < a.spent.length) = true := decide_eq_true (by omega)
      have hap := fun M => app_fresh a.spent a.c2 M (by omega) (by omega)
      have hset := set_row a.spent (findI a.days d) (x + (min (fareRes a.fares l).1 (a.fares.limit - onR a d)))
      have e3 : List.take a.spent.length ((a.spent.set (findI a.days d) (x + (min (fareRes a.fares l).1 (a.fares.limit - onR a d)))).map dRow) = (a.spent.set (findI a.days d) (x + (min (fareRes a.fares l).1 (a.fares.limit - onR a d)))).map dRow := List.take_of_length_le (by simp)
      generalize findI a.days d = i at *
      generalize hm : (min (fareRes a.fares l).1 (a.fares.limit - onR a d)) = m at *
      simp -implicitDefEqProofs (disch := omega) only [go_sem, Nat.reduceAdd, Nat.reduceMul, Nat.reduceSub, Nat.reduceBEq, Nat.reduceLeDiff, Nat.reduceLT, fn_transitref37_Charge, e16_1, w16_1, e16_3, w16_3, c16_4, e16_6, w16_6, e16_8, w16_8, e16_10, w16_10, c16_11, e16_13, w16_13, e16_15, w16_15, e16_17, w16_17, e16_19, w16_19, e16_21, w16_21, e16_23, w16_23, e16_25, w16_25, e16_27, w16_27, e16_29, w16_29, c16_30, c16_31, c16_32, c16_33, c16_34, c16_35, c16_36, c16_37, c16_38, c16_39, RA.row, List.length_map, hap, hil, gx, hset, List.length_set, e3]
  · have ea : amtR a d l = (fareRes a.fares l).1 := by rw [amtR, if_neg (by omega)]
    simp -implicitDefEqProofs (disch := omega) only [go_sem, Nat.reduceAdd, Nat.reduceMul, Nat.reduceSub, Nat.reduceBEq, Nat.reduceLeDiff, Nat.reduceLT, fn_transitref37_Charge, e16_1, w16_1, e16_3, w16_3, c16_4, e16_6, w16_6, e16_8, w16_8, e16_10, w16_10, c16_11, e16_13, w16_13, e16_15, w16_15, e16_17, w16_17, e16_19, w16_19, e16_21, w16_21, e16_23, w16_23, e16_25, w16_25, e16_27, w16_27, e16_29, w16_29, c16_30, c16_31, c16_32, c16_33, c16_34, c16_35, c16_36, c16_37, c16_38, c16_39, RA.row]
    obtain ⟨m1, m2⟩ := hrange
    first | refine callD (hfind) ?_ | refine callQD (hfind) ?_
    cases hh : hitI a.days d
    · have hop : openR a d = ⟨a.fares, putL a.days (findI a.days d) d, putL a.spent (findI a.days d) 0, .unk, .unk⟩ := by rw [openR, hh]; rfl
      have hx := putL_at (l := a.spent) (k := findI a.days d) 0 (by omega)
      have hpl := putL_len a.spent (findI a.days d) 0 (by omega)
      have gx := drow_at hx
      have hfin : chargeR a d l = (⟨a.fares, putL a.days (findI a.days d) d, (putL a.spent (findI a.days d) 0).set (findI a.days d) (0 + (fareRes a.fares l).1), .unk, .unk⟩, (fareRes a.fares l).1, 0) := by rw [e, ea, hop]; simp only [hx, Option.getD_some]
      rw [hfin]
      have hil : decide (findI a.days d < (putL a.spent (findI a.days d) 0).length) = true := decide_eq_true (by omega)
      have hap := fun M => app_fresh (putL a.spent (findI a.days d) 0) .unk M (by omega) (by omega)
      have hset := set_row (putL a.spent (findI a.days d) 0) (findI a.days d) (0 + (fareRes a.fares l).1)
      have e3 : List.take (putL a.spent (findI a.days d) 0).length (((putL a.spent (findI a.days d) 0).set (findI a.days d) (0 + (fareRes a.fares l).1)).map dRow) = ((putL a.spent (findI a.days d) 0).set (findI a.days d) (0 + (fareRes a.fares l).1)).map dRow := List.take_of_length_le (by simp)
      generalize findI a.days d = i at *
      generalize putL a.spent i 0 = P at *
      generalize putL a.days i d = D at *
      generalize hm : (fareRes a.fares l).1 = m at *
      simp -implicitDefEqProofs (disch := omega) only [go_sem, Nat.reduceAdd, Nat.reduceMul, Nat.reduceSub, Nat.reduceBEq, Nat.reduceLeDiff, Nat.reduceLT, fn_transitref37_Charge, e16_1, w16_1, e16_3, w16_3, c16_4, e16_6, w16_6, e16_8, w16_8, e16_10, w16_10, c16_11, e16_13, w16_13, e16_15, w16_15, e16_17, w16_17, e16_19, w16_19, e16_21, w16_21, e16_23, w16_23, e16_25, w16_25, e16_27, w16_27, e16_29, w16_29, c16_30, c16_31, c16_32, c16_33, c16_34, c16_35, c16_36, c16_37, c16_38, c16_39, RA.row]
      first | refine callD (hp1) ?_ | refine callQD (hp1) ?_
      simp -implicitDefEqProofs (disch := omega) only [go_sem, Nat.reduceAdd, Nat.reduceMul, Nat.reduceSub, Nat.reduceBEq, Nat.reduceLeDiff, Nat.reduceLT, fn_transitref37_Charge, e16_1, w16_1, e16_3, w16_3, c16_4, e16_6, w16_6, e16_8, w16_8, e16_10, w16_10, c16_11, e16_13, w16_13, e16_15, w16_15, e16_17, w16_17, e16_19, w16_19, e16_21, w16_21, e16_23, w16_23, e16_25, w16_25, e16_27, w16_27, e16_29, w16_29, c16_30, c16_31, c16_32, c16_33, c16_34, c16_35, c16_36, c16_37, c16_38, c16_39, RA.row]
      first | refine callD (hp2) ?_ | refine callQD (hp2) ?_
      simp -implicitDefEqProofs (disch := omega) only [go_sem, Nat.reduceAdd, Nat.reduceMul, Nat.reduceSub, Nat.reduceBEq, Nat.reduceLeDiff, Nat.reduceLT, fn_transitref37_Charge, e16_1, w16_1, e16_3, w16_3, c16_4, e16_6, w16_6, e16_8, w16_8, e16_10, w16_10, c16_11, e16_13, w16_13, e16_15, w16_15, e16_17, w16_17, e16_19, w16_19, e16_21, w16_21, e16_23, w16_23, e16_25, w16_25, e16_27, w16_27, e16_29, w16_29, c16_30, c16_31, c16_32, c16_33, c16_34, c16_35, c16_36, c16_37, c16_38, c16_39, RA.row, List.length_map, hap, hil, gx, hset, List.length_set, e3]
    · have hop : openR a d = a := by rw [openR, hh]; rfl
      have hlt := hitI_lt hh
      obtain ⟨x, hx⟩ : ∃ x, a.spent[findI a.days d]? = some x := ⟨a.spent[findI a.days d]'(by omega), by simp⟩
      have gx := drow_at hx
      obtain ⟨b1, b2⟩ := hb x (List.mem_of_getElem? hx)
      have hfin : chargeR a d l = (⟨a.fares, a.days, a.spent.set (findI a.days d) (x + (fareRes a.fares l).1), a.c1, .unk⟩, (fareRes a.fares l).1, 0) := by rw [e, ea, hop]; simp only [hx, Option.getD_some]
      rw [hfin]
      have hil : decide (findI a.days d < a.spent.length) = true := decide_eq_true (by omega)
      have hap := fun M => app_fresh a.spent a.c2 M (by omega) (by omega)
      have hset := set_row a.spent (findI a.days d) (x + (fareRes a.fares l).1)
      have e3 : List.take a.spent.length ((a.spent.set (findI a.days d) (x + (fareRes a.fares l).1)).map dRow) = (a.spent.set (findI a.days d) (x + (fareRes a.fares l).1)).map dRow := List.take_of_length_le (by simp)
      generalize findI a.days d = i at *
      generalize hm : (fareRes a.fares l).1 = m at *
      simp -implicitDefEqProofs (disch := omega) only [go_sem, Nat.reduceAdd, Nat.reduceMul, Nat.reduceSub, Nat.reduceBEq, Nat.reduceLeDiff, Nat.reduceLT, fn_transitref37_Charge, e16_1, w16_1, e16_3, w16_3, c16_4, e16_6, w16_6, e16_8, w16_8, e16_10, w16_10, c16_11, e16_13, w16_13, e16_15, w16_15, e16_17, w16_17, e16_19, w16_19, e16_21, w16_21, e16_23, w16_23, e16_25, w16_25, e16_27, w16_27, e16_29, w16_29, c16_30, c16_31, c16_32, c16_33, c16_34, c16_35, c16_36, c16_37, c16_38, c16_39, RA.row, List.length_map, hap, hil, gx, hset, List.length_set, e3]

/-! ### The reference's account beside the map -/
theorem findI_lt {d : Int} : ∀ {l : List Int} {j : Nat} {x : Int}, j < findI l d → l[j]? = some x → x < d
  | [], j, x, h, _ => by simp [findI] at h
  | y :: l, j, x, h, hx => by
    rw [findI] at h
    split at h
    · omega
    · cases j with
      | zero => simp at hx; omega
      | succ j => exact findI_lt (l := l) (j := j) (by omega) (by simpa using hx)
theorem findI_ge {d : Int} : ∀ {l : List Int} {j : Nat} {x : Int}, l.Pairwise (· ≤ ·) → findI l d ≤ j → l[j]? = some x → d ≤ x
  | [], j, x, _, _, hx => by simp at hx
  | y :: l, j, x, hs, h, hx => by
    rw [List.pairwise_cons] at hs
    rw [findI] at h
    split at h
    · rename_i hy
      cases j with
      | zero => simp at hx; omega
      | succ j =>
        have := hs.1 x (List.mem_of_getElem? (by simpa using hx))
        omega
    · cases j with
      | zero => omega
      | succ j => exact findI_ge (l := l) (j := j) hs.2 (by omega) (by simpa using hx)
theorem sorted_le : ∀ {l : List Int} {i j : Nat} {x y : Int}, l.Pairwise (· ≤ ·) → i ≤ j → l[i]? = some x → l[j]? = some y → x ≤ y
  | [], i, j, x, y, _, _, h, _ => by simp at h
  | z :: l, i, j, x, y, hs, hij, hx, hy => by
    rw [List.pairwise_cons] at hs
    cases i with
    | zero =>
      simp at hx
      cases j with
      | zero => simp at hy; omega
      | succ j =>
        have := hs.1 y (List.mem_of_getElem? (by simpa using hy))
        omega
    | succ i =>
      cases j with
      | zero => omega
      | succ j => exact sorted_le (l := l) (i := i) (j := j) hs.2 (by omega) (by simpa using hx) (by simpa using hy)
theorem hitI_iff {l : List Int} {d : Int} (hs : l.Pairwise (· ≤ ·)) : hitI l d = true ↔ d ∈ l := by
  constructor
  · intro h
    exact List.mem_of_getElem? (of_decide_eq_true h)
  · intro h
    obtain ⟨j, hj⟩ := List.getElem?_of_mem h
    have h1 : findI l d ≤ j := by
      rcases Nat.lt_or_ge j (findI l d) with h2 | h2
      · have := findI_lt h2 hj; omega
      · exact h2
    have hjl := (List.getElem?_eq_some_iff.1 hj).1
    obtain ⟨x, hx⟩ : ∃ x, l[findI l d]? = some x := ⟨l[findI l d]'(by omega), by simp⟩
    have h3 := findI_ge hs (Nat.le_refl _) hx
    have h4 := sorted_le hs h1 hx hj
    have : x = d := by omega
    subst this
    exact decide_eq_true hx
theorem sortD_srt (L : List (Int × Int)) : (sortD L).Pairwise (· ≤ ·) := by
  have := List.pairwise_mergeSort (le := fun (x y : Int) => decide (x ≤ y)) (fun a b c h1 h2 => by simp at *; omega) (fun a b => by simp; omega) (L.map (·.1))
  exact this.imp fun h => of_decide_eq_true h
theorem sortD_perm (L : List (Int × Int)) : (sortD L).Perm (L.map (·.1)) := List.mergeSort_perm _ _
theorem sortD_eq {L : List (Int × Int)} {l : List Int} (hp : l.Perm (L.map (·.1))) (hs : l.Pairwise (· ≤ ·)) : sortD L = l :=
  List.Perm.eq_of_pairwise (le := fun x y => x ≤ y) (fun x y _ _ h1 h2 => by omega) (sortD_srt L) hs ((sortD_perm L).trans hp.symm)
theorem keys_set (d n : Int) : ∀ L : List (Int × Int), (setL L d n).map (·.1) = if d ∈ L.map (·.1) then L.map (·.1) else L.map (·.1) ++ [d]
  | [] => by simp [setL]
  | (k, v) :: L => by
    rw [setL]
    by_cases h : d = k
    · subst h; simp
    · rw [if_neg h, List.map_cons, keys_set d n L]
      by_cases h2 : d ∈ L.map (·.1)
      · rw [if_pos h2, if_pos (by simp only [List.map_cons, List.mem_cons]; exact Or.inr h2)]; rfl
      · rw [if_neg h2, if_neg (by simp only [List.map_cons, List.mem_cons]; rintro (h3 | h3); exact h h3; exact h2 h3)]; rfl
theorem getL_mem (d : Int) : ∀ L : List (Int × Int), (getL L d).isSome = true ↔ d ∈ L.map (·.1)
  | [] => by simp [getL]
  | (k, v) :: L => by
    rw [getL]
    by_cases h : d = k
    · subst h; simp
    · rw [if_neg h, getL_mem d L]; simp [h]
theorem perm_sum {a b : List Int} (h : a.Perm b) : a.sum = b.sum := by
  induction h with
  | nil => rfl
  | cons x _ ih => simp [ih]
  | swap x y l => simp; omega
  | trans _ _ h1 h2 => exact h1.trans h2
theorem sumL_spent : ∀ L : List (Int × Int), (L.map (·.1)).Nodup → sumL L = ((L.map (·.1)).map (spentOn L)).sum
  | [], _ => rfl
  | (k, v) :: L, h => by
    rw [List.map_cons, List.nodup_cons] at h
    have ih := sumL_spent L h.2
    have h1 : spentOn ((k, v) :: L) k = v := by simp [spentOn, getL]
    have h2 : (L.map (·.1)).map (spentOn ((k, v) :: L)) = (L.map (·.1)).map (spentOn L) := List.map_congr_left fun e he => by
      have hne : e ≠ k := fun q => h.1 (by rw [← q]; exact he)
      simp [spentOn, getL, hne]
    rw [List.map_cons, List.map_cons, List.sum_cons, h1, h2, ← ih]
    simp [sumL]
structure RI (L : List (Int × Int)) (a : RA) : Prop where
  days : a.days = sortD L
  spent : a.spent = a.days.map (spentOn L)
  nodup : (L.map (·.1)).Nodup
theorem RI.len {L : List (Int × Int)} {a : RA} (h : RI L a) : a.spent.length = a.days.length := by rw [h.spent, List.length_map]
theorem RI.srt {L : List (Int × Int)} {a : RA} (h : RI L a) : a.days.Pairwise (· ≤ ·) := by rw [h.days]; exact sortD_srt L
theorem RI.hit {L : List (Int × Int)} {a : RA} (h : RI L a) (d : Int) : hitI a.days d = true ↔ d ∈ L.map (·.1) := by
  rw [hitI_iff h.srt, h.days]
  exact (sortD_perm L).mem_iff
theorem RI.at {L : List (Int × Int)} {a : RA} (h : RI L a) {d : Int} (hd : hitI a.days d = true) : a.spent[findI a.days d]? = some (spentOn L d) := by
  rw [h.spent, List.getElem?_map, of_decide_eq_true hd]; rfl
theorem RI.on {L : List (Int × Int)} {a : RA} (h : RI L a) (d : Int) : onR a d = spentOn L d := by
  rw [onR]
  cases hd : hitI a.days d with
  | true => rw [if_pos rfl, h.at hd]; rfl
  | false =>
    rw [if_neg (by simp)]
    have h1 : ¬ d ∈ L.map (·.1) := fun q => by rw [(h.hit d).2 q] at hd; cases hd
    rw [← getL_mem] at h1
    cases hg : getL L d with
    | none => simp [spentOn, hg]
    | some v => rw [hg] at h1; simp at h1
theorem RI.sum {L : List (Int × Int)} {a : RA} (h : RI L a) : a.spent.sum = sumL L := by
  rw [sumL_spent L h.nodup, h.spent, h.days]
  exact perm_sum ((sortD_perm L).map _)
/-- What is spent on a charged day changes. -/
theorem RI.upd {L : List (Int × Int)} {a : RA} (h : RI L a) {d : Int} (hd : hitI a.days d = true) (n : Int) (c1 c2 : Cap) : RI (setL L d n) ⟨a.fares, a.days, a.spent.set (findI a.days d) n, c1, c2⟩ := by
  have hm := (h.hit d).1 hd
  have hk : (setL L d n).map (·.1) = L.map (·.1) := by rw [keys_set, if_pos hm]
  have hday : sortD (setL L d n) = sortD L := by rw [sortD, hk]; rfl
  have hnd : a.days.Nodup := by rw [h.days]; exact (sortD_perm L).nodup_iff.2 h.nodup
  refine ⟨by rw [hday]; exact h.days, ?_, by rw [hk]; exact h.nodup⟩
  refine List.ext_getElem? fun j => ?_
  have hi : findI a.days d < a.days.length := hitI_lt hd
  simp only
  rw [List.getElem?_set, List.getElem?_map]
  by_cases hj : findI a.days d = j
  · subst hj
    rw [if_pos rfl, if_pos (by rw [h.len]; exact hi), of_decide_eq_true hd, Option.map_some, spentOn_set, if_pos rfl]
  · rw [if_neg hj, h.spent, List.getElem?_map]
    cases hx : a.days[j]? with
    | none => rfl
    | some x =>
      have hne : x ≠ d := fun q => by
        subst q
        have := (List.getElem?_inj hi hnd).1 ((of_decide_eq_true hd : a.days[findI a.days x]? = some x).trans hx.symm)
        exact hj this
      rw [Option.map_some, Option.map_some, spentOn_set, if_neg hne]
/-- A new day. -/
theorem RI.new {L : List (Int × Int)} {a : RA} (h : RI L a) {d : Int} (hd : hitI a.days d = false) (n : Int) (c1 c2 : Cap) : RI (setL L d n) ⟨a.fares, putL a.days (findI a.days d) d, (putL a.spent (findI a.days d) 0).set (findI a.days d) n, c1, c2⟩ := by
  have hm : ¬ d ∈ L.map (·.1) := fun q => by rw [(h.hit d).2 q] at hd; cases hd
  have hk : (setL L d n).map (·.1) = L.map (·.1) ++ [d] := by rw [keys_set, if_neg hm]
  have hle := findI_le d a.days
  have hperm : (putL a.days (findI a.days d) d).Perm ((setL L d n).map (·.1)) := by
    rw [hk, putL]
    have p1 : (a.days.take (findI a.days d) ++ [d] ++ a.days.drop (findI a.days d)).Perm (d :: (a.days.take (findI a.days d) ++ a.days.drop (findI a.days d))) := by
      rw [List.append_assoc]; exact List.perm_middle
    rw [List.take_append_drop] at p1
    refine p1.trans ?_
    have p2 : a.days.Perm (L.map (·.1)) := by rw [h.days]; exact sortD_perm L
    exact (p2.cons d).trans (List.perm_append_singleton d _).symm
  have hsrt : (putL a.days (findI a.days d) d).Pairwise (· ≤ ·) := by
    rw [putL, List.append_assoc, List.pairwise_append]
    refine ⟨h.srt.sublist (List.take_sublist _ _), ?_, ?_⟩
    · rw [List.singleton_append, List.pairwise_cons]
      refine ⟨fun y hy => ?_, h.srt.sublist (List.drop_sublist _ _)⟩
      obtain ⟨j, hj⟩ := List.getElem?_of_mem hy
      rw [List.getElem?_drop] at hj
      exact findI_ge h.srt (by omega) hj
    · intro x hx y hy
      obtain ⟨i, hi⟩ := List.getElem?_of_mem hx
      rw [List.getElem?_take] at hi
      split at hi
      · rename_i hlt
        have hxd := findI_lt hlt hi
        rcases List.mem_append.1 hy with hy | hy
        · simp at hy; omega
        · obtain ⟨j, hj⟩ := List.getElem?_of_mem hy
          rw [List.getElem?_drop] at hj
          have := findI_ge h.srt (by omega : findI a.days d ≤ findI a.days d + j) hj
          omega
      · cases hi
  refine ⟨(sortD_eq hperm hsrt).symm, ?_, by rw [hk, List.nodup_append]; exact ⟨h.nodup, by simp, by rintro x hx y hy rfl; simp at hy; subst hy; exact hm hx⟩⟩
  have hl1 : (a.days.take (findI a.days d)).length = findI a.days d := by rw [List.length_take]; omega
  have hl2 : (a.spent.take (findI a.days d)).length = findI a.days d := by rw [List.length_take, h.len]; omega
  have hset : (putL a.spent (findI a.days d) 0).set (findI a.days d) n = a.spent.take (findI a.days d) ++ [n] ++ a.spent.drop (findI a.days d) := by
    rw [putL, List.append_assoc, List.set_append, if_neg (by omega), hl2, Nat.sub_self, List.append_assoc]; rfl
  have hcong : ∀ l : List Int, (∀ x ∈ l, x ∈ a.days) → l.map (spentOn (setL L d n)) = l.map (spentOn L) := fun l hl => List.map_congr_left fun x hx => by
    have hxd : x ≠ d := fun q => by
      subst q
      have := (hitI_iff h.srt).2 (hl x hx)
      rw [hd] at this
      cases this
    rw [spentOn_set, if_neg hxd]
  simp only
  rw [hset, putL, List.map_append, List.map_append, List.map_singleton, spentOn_set, if_pos rfl, hcong _ (fun x hx => List.mem_of_mem_take hx), hcong _ (fun x hx => List.mem_of_mem_drop hx), h.spent, List.map_take, List.map_drop]

/-! ### Both accounts do the same -/
theorem link_refund {L : List (Int × Int)} {a : RA} (h : RI L a) (d n : Int) : (refundR a d n).2 = (refundRes L d n).1 ∧ RI (refundRes L d n).2 (refundR a d n).1 ∧ (refundR a d n).1.fares = a.fares := by
  rw [refundR, refundRes]
  cases hd : hitI a.days d with
  | false =>
    have h1 : ¬ d ∈ L.map (·.1) := fun q => by rw [(h.hit d).2 q] at hd; cases hd
    rw [← getL_mem] at h1
    cases hg : getL L d with
    | none => exact ⟨rfl, h, rfl⟩
    | some v => rw [hg] at h1; simp at h1
  | true =>
    have h1 := (getL_mem d L).2 ((h.hit d).1 hd)
    cases hg : getL L d with
    | none => rw [hg] at h1; simp at h1
    | some v =>
      have hs : spentOn L d = v := by simp [spentOn, hg]
      rw [if_neg (by simp), h.at hd, hs, Option.getD_some]
      simp only
      by_cases hb : n < 1 ∨ v < n
      · rw [if_pos hb, if_pos hb]; exact ⟨rfl, h, rfl⟩
      · rw [if_neg hb, if_neg hb]
        exact ⟨rfl, h.upd hd (v - n) _ _, rfl⟩
theorem link_charge {L : List (Int × Int)} {a : RA} (h : RI L a) (hl : 0 ≤ a.fares.limit) (d : Int) (l : List Ride) :
    (chargeR a d l).2.1 = (chargeRes a.fares L d l).1 ∧ (chargeR a d l).2.2 = (chargeRes a.fares L d l).2.1 ∧ RI (chargeRes a.fares L d l).2.2 (chargeR a d l).1 ∧ (chargeR a d l).1.fares = a.fares := by
  rw [chargeR, chargeRes]
  by_cases hv : validB d = false
  · rw [if_pos hv, if_pos hv]; exact ⟨rfl, rfl, h, rfl⟩
  rw [if_neg hv, if_neg hv]
  by_cases hp : (fareRes a.fares l).2.2 ≠ 0
  · rw [if_pos hp, if_pos hp]; exact ⟨rfl, rfl, h, rfl⟩
  rw [if_neg hp, if_neg hp]
  have hamt : amtR a d l = chargeAmt a.fares L d l := by
    rw [amtR, chargeAmt, h.on]
    by_cases h0 : a.fares.limit = 0
    · rw [if_neg (by omega), if_neg (by simpa using h0)]
    · rw [if_pos (by omega), if_pos h0]
  rw [hamt]
  generalize chargeAmt a.fares L d l = m
  refine ⟨rfl, rfl, ?_, rfl⟩
  simp only
  cases hd : hitI a.days d with
  | true =>
    have ho : openR a d = a := by rw [openR, if_pos hd]
    rw [ho, h.at hd, Option.getD_some]
    exact h.upd hd _ _ _
  | false =>
    have ho : openR a d = ⟨a.fares, putL a.days (findI a.days d) d, putL a.spent (findI a.days d) 0, .unk, .unk⟩ := by rw [openR, if_neg (by simp [hd])]
    have hle := findI_le d a.days
    have h0 : spentOn L d = 0 := by
      rw [← h.on, onR, if_neg (by simp [hd])]
    rw [ho]
    simp only
    rw [putL_at 0 (by rw [h.len]; exact hle), Option.getD_some, h0]
    exact h.new hd _ _ _
theorem RI.start (f : Fares) : RI [] ⟨f, [], [], .nil, .nil⟩ := ⟨by simp [sortD], rfl, List.nodup_nil⟩
theorem RI.left {L : List (Int × Int)} {a : RA} (h : RI L a) (d : Int) : leftR a d = leftRes a.fares L d := by
  rw [leftR, leftRes, h.on]
/-- There are no more charged days than operations. -/
theorem setL_len (d n : Int) : ∀ L : List (Int × Int), (setL L d n).length ≤ L.length + 1
  | [] => by simp [setL]
  | (k, v) :: L => by
    have := setL_len d n L
    rw [setL]
    split
    · simp
    · simp; omega
theorem doRes_len (f : Fares) (L : List (Int × Int)) (o : Oper) : (doRes f L o).2.2.length ≤ L.length + 1 := by
  have hr : ∀ n, (refundRes L o.day n).2.length ≤ L.length + 1 := fun n => by
    rw [refundRes]
    cases getL L o.day with
    | none => simp
    | some s =>
      simp only
      split
      · simp
      · exact setL_len _ _ _
  have hc : (chargeRes f L o.day o.rides).2.2.length ≤ L.length + 1 := by
    rw [chargeRes]
    split
    · simp
    · split
      · simp
      · exact setL_len _ _ _
  rw [doRes]
  split
  · exact hr _
  · exact hc

end Go.Vm.C

