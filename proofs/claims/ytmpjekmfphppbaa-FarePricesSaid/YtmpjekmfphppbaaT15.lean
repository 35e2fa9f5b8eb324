/- The reference's price, and the statement FarePrices. -/
import Derived.Test.YtmpjekmfphppbaaT14

namespace Go.Vm.C
open Go.Vm
set_option maxHeartbeats 1000000
set_option maxRecDepth 10000
set_option linter.unusedSimpArgs false
set_option linter.unusedVariables false

theorem cand_cons {f : Fares} {l : List Ride} {i k p : Nat} {q : Product} {R : Nat → Option (List Ticket)} {d : List Ticket} (hq : f.products[p]? = some q) (hc : covers q (part l i k) = true) (hR : R (k + 1) = some d) : cand f l i k p R = some (⟨p, i, k, ticket f q l i⟩ :: d) := by
  simp only [cand, hq, hc, hR, if_true]; rfl
theorem cand_not {f : Fares} {l : List Ride} {i k p : Nat} {q : Product} {R : Nat → Option (List Ticket)} (hq : f.products[p]? = some q) (hc : covers q (part l i k) = false) : cand f l i k p R = none := by
  simp only [cand, hq, hc]; rfl
theorem rest_app (o : List Ticket) : ∃ c, restCell (some o) = .slice (o.map Ticket.row) c := by
  cases o with
  | nil => exact ⟨.nil, rfl⟩
  | cons t d => exact ⟨.unk, rfl⟩

theorem dec_lt {a b : Nat} (h : a < b) : decide (a < b) = true := decide_eq_true h
theorem rest_slice (o : Option (List Ticket)) : ∃ (d : List Ticket) (c : Cap), restCell o = .slice (d.map Ticket.row) c := by
  cases o with
  | none => exact ⟨[], .nil, rfl⟩
  | some d => cases d with
    | nil => exact ⟨[], .nil, rfl⟩
    | cons t d => exact ⟨t :: d, .unk, rfl⟩
theorem makeSlice_nat (zero : List V) (sz bytes n : Nat) (M : Mem) (hn : n ≤ 8) (hb : bytes ≤ 24) : makeSliceV zero sz bytes (.int .i64 ((n : Int) + 1)) (.int .i64 ((n : Int) + 1)) M = some (.mslice M.length 0 0 (n + 1), M ++ [.arr sz (List.replicate (n + 1) zero) 0 0]) := by
  have h1 : ((n : Int) + 1) * (bytes : Int) ≤ 9 * 24 := Int.mul_le_mul (by omega) (by omega) (by omega) (by omega)
  have a1 : decide (0 ≤ (n : Int) + 1) = true := decide_eq_true (by omega)
  have a2 : decide ((n : Int) + 1 ≤ (n : Int) + 1) = true := decide_eq_true (by omega)
  have a3 : decide (((n : Int) + 1) * (bytes : Int) ≤ 2 ^ 48) = true := decide_eq_true (by omega)
  have a4 : decide ((n : Int) + 1 < 2 ^ 62) = true := decide_eq_true (by omega)
  have a5 : ((n : Int) + 1).toNat = n + 1 := by omega
  simp only [makeSliceV, a1, a2, a3, a4, a5, Bool.and_self, cond_true]

theorem transitref35_Best_ok (f : Fares) (l : List Ride) (c : Cap) (hf : f.wf) (hok : f.Ok) (hl : ∀ r ∈ l, r.wf) (hlen : l.length ≤ 8) :
    PCalls PR i_transitref35_Best [.agg f.row, .slice (l.map Ride.row) c] (fun v => v = .tuple [restCell (best f l 0), .bool (rOk (best f l 0))]) := by
  have hm : maxLen = 9223372036854775807 := by rfl
  have hpl := hok.len
  have hz : ((l.length : Int) + 1).toNat = l.length + 1 := by omega
  refine acalls_pop fn_transitref35_Best_ok (by simp [fn_transitref35_Best]) ?_
  have hp0 := pp_set l.length l.length (fun _ => none) (some [])
  simp only [rOk, Option.isSome] at hp0
  simp -implicitDefEqProofs (disch := omega) only [go_sem, Nat.reduceAdd, Nat.reduceMul, Nat.reduceSub, Nat.reduceBEq, Nat.reduceLeDiff, Nat.reduceLT, fn_transitref35_Best, e23_1, w23_1, e23_3, w23_3, e23_5, w23_5, e23_7, w23_7, e23_9, w23_9, e23_11, w23_11, e23_13, w23_13, e23_15, w23_15, e23_17, w23_17, e23_19, w23_19, e23_21, w23_21, e23_23, w23_23, e23_25, w23_25, e23_27, w23_27, e23_29, w23_29, c23_30, c23_31, c23_32, c23_33, e23_35, w23_35, c23_36, c23_37, c23_38, c23_39, c23_40, c23_41, e23_43, w23_43, c23_44, c23_45, c23_46, c23_47, c23_48, c23_49, e23_51, w23_51, c23_52, c23_53, c23_54, c23_55, c23_56, e23_58, w23_58, c23_59, c23_60, c23_61, c23_62, c23_63, c23_64, Fares.row, makeSlice_nat, rr_zero, pp_zero, rr_len, pp_len, pp_get, dec_lt, hp0]
  refine wpC_for l.length (fun j vs M => vs = [.slice (l.map Ride.row) c, .ptr 0 0, .mslice 1 0 0 (l.length + 1), .mslice 2 0 0 (l.length + 1), .int .i64 ((l.length : Int) - 1 - j)] ∧
      M = [.box f.row, .arr 1 (restRows l.length (tabs f l j)) 0 0, .arr 1 (paidRows l.length (tabs f l j)) 0 0]) ⟨by simp [vals, sget], by simp [Fares.row, tabs]⟩ ?_ ?_
  rotate_left
  · rintro vs M ⟨rfl, rfl⟩
    have h1 : ((l.length : Int) - 1 - l.length) = -1 := by omega
    simp -implicitDefEqProofs (disch := omega) only [go_sem, Nat.reduceAdd, Nat.reduceMul, Nat.reduceSub, Nat.reduceBEq, Nat.reduceLeDiff, Nat.reduceLT, fn_transitref35_Best, e23_1, w23_1, e23_3, w23_3, e23_5, w23_5, e23_7, w23_7, e23_9, w23_9, e23_11, w23_11, e23_13, w23_13, e23_15, w23_15, e23_17, w23_17, e23_19, w23_19, e23_21, w23_21, e23_23, w23_23, e23_25, w23_25, e23_27, w23_27, e23_29, w23_29, c23_30, c23_31, c23_32, c23_33, e23_35, w23_35, c23_36, c23_37, c23_38, c23_39, c23_40, c23_41, e23_43, w23_43, c23_44, c23_45, c23_46, c23_47, c23_48, c23_49, e23_51, w23_51, c23_52, c23_53, c23_54, c23_55, c23_56, e23_58, w23_58, c23_59, c23_60, c23_61, c23_62, c23_63, c23_64, h1, Fares.row]
    refine ifD (fun h2 => ?_) (fun h2 => ?_)
    · omega
    obtain ⟨d, cd, hcd⟩ := rest_slice (tabs f l l.length 0)
    simp -implicitDefEqProofs (disch := omega) only [go_sem, Nat.reduceAdd, Nat.reduceMul, Nat.reduceSub, Nat.reduceBEq, Nat.reduceLeDiff, Nat.reduceLT, fn_transitref35_Best, e23_1, w23_1, e23_3, w23_3, e23_5, w23_5, e23_7, w23_7, e23_9, w23_9, e23_11, w23_11, e23_13, w23_13, e23_15, w23_15, e23_17, w23_17, e23_19, w23_19, e23_21, w23_21, e23_23, w23_23, e23_25, w23_25, e23_27, w23_27, e23_29, w23_29, c23_30, c23_31, c23_32, c23_33, e23_35, w23_35, c23_36, c23_37, c23_38, c23_39, c23_40, c23_41, e23_43, w23_43, c23_44, c23_45, c23_46, c23_47, c23_48, c23_49, e23_51, w23_51, c23_52, c23_53, c23_54, c23_55, c23_56, e23_58, w23_58, c23_59, c23_60, c23_61, c23_62, c23_63, c23_64, rr_len, pp_len, rr_get, pp_get, dec_lt, hcd, best]
  rintro j vs M hj hjd ⟨rfl, rfl⟩
  obtain ⟨i, hi⟩ : ∃ i : Nat, (l.length : Int) - 1 - j = i := ⟨l.length - 1 - j, by omega⟩
  simp -implicitDefEqProofs (disch := omega) only [go_sem, Nat.reduceAdd, Nat.reduceMul, Nat.reduceSub, Nat.reduceBEq, Nat.reduceLeDiff, Nat.reduceLT, fn_transitref35_Best, e23_1, w23_1, e23_3, w23_3, e23_5, w23_5, e23_7, w23_7, e23_9, w23_9, e23_11, w23_11, e23_13, w23_13, e23_15, w23_15, e23_17, w23_17, e23_19, w23_19, e23_21, w23_21, e23_23, w23_23, e23_25, w23_25, e23_27, w23_27, e23_29, w23_29, c23_30, c23_31, c23_32, c23_33, e23_35, w23_35, c23_36, c23_37, c23_38, c23_39, c23_40, c23_41, e23_43, w23_43, c23_44, c23_45, c23_46, c23_47, c23_48, c23_49, e23_51, w23_51, c23_52, c23_53, c23_54, c23_55, c23_56, e23_58, w23_58, c23_59, c23_60, c23_61, c23_62, c23_63, c23_64, hi, Fares.row]
  refine ifD (fun h1 => ?_) (fun h1 => ?_)
  rotate_left
  · omega
  simp -implicitDefEqProofs (disch := omega) only [go_sem, Nat.reduceAdd, Nat.reduceMul, Nat.reduceSub, Nat.reduceBEq, Nat.reduceLeDiff, Nat.reduceLT, fn_transitref35_Best, e23_1, w23_1, e23_3, w23_3, e23_5, w23_5, e23_7, w23_7, e23_9, w23_9, e23_11, w23_11, e23_13, w23_13, e23_15, w23_15, e23_17, w23_17, e23_19, w23_19, e23_21, w23_21, e23_23, w23_23, e23_25, w23_25, e23_27, w23_27, e23_29, w23_29, c23_30, c23_31, c23_32, c23_33, e23_35, w23_35, c23_36, c23_37, c23_38, c23_39, c23_40, c23_41, e23_43, w23_43, c23_44, c23_45, c23_46, c23_47, c23_48, c23_49, e23_51, w23_51, c23_52, c23_53, c23_54, c23_55, c23_56, e23_58, w23_58, c23_59, c23_60, c23_61, c23_62, c23_63, c23_64, Fares.row]
  refine wpC_for (j + 1) (fun m vs M => vs = [.slice (l.map Ride.row) c, .ptr 0 0, .mslice 1 0 0 (l.length + 1), .mslice 2 0 0 (l.length + 1), .int .i64 i, .int .i64 ((i + m : Nat) : Int)] ∧
      M = [.box f.row, .arr 1 (restRows l.length (upd (tabs f l j) i (accK f l i (tabs f l j) m))) 0 0, .arr 1 (paidRows l.length (upd (tabs f l j) i (accK f l i (tabs f l j) m))) 0 0]) ⟨by simp [vals, sget], ?_⟩ ?_ ?_
  · have e : tabs f l j i = none := tabs_low f l j i (by omega) (by omega)
    have e2 : upd (tabs f l j) i none = tabs f l j := by rw [← e, upd_self]
    simp [Fares.row, accK, e2]
  rotate_left
  · rintro vs M ⟨rfl, rfl⟩
    simp -implicitDefEqProofs (disch := omega) only [go_sem, Nat.reduceAdd, Nat.reduceMul, Nat.reduceSub, Nat.reduceBEq, Nat.reduceLeDiff, Nat.reduceLT, fn_transitref35_Best, e23_1, w23_1, e23_3, w23_3, e23_5, w23_5, e23_7, w23_7, e23_9, w23_9, e23_11, w23_11, e23_13, w23_13, e23_15, w23_15, e23_17, w23_17, e23_19, w23_19, e23_21, w23_21, e23_23, w23_23, e23_25, w23_25, e23_27, w23_27, e23_29, w23_29, c23_30, c23_31, c23_32, c23_33, e23_35, w23_35, c23_36, c23_37, c23_38, c23_39, c23_40, c23_41, e23_43, w23_43, c23_44, c23_45, c23_46, c23_47, c23_48, c23_49, e23_51, w23_51, c23_52, c23_53, c23_54, c23_55, c23_56, e23_58, w23_58, c23_59, c23_60, c23_61, c23_62, c23_63, c23_64, Fares.row]
    refine ifD (fun h2 => ?_) (fun h2 => ?_)
    · omega
    simp -implicitDefEqProofs (disch := omega) only [go_sem, Nat.reduceAdd, Nat.reduceMul, Nat.reduceSub, Nat.reduceBEq, Nat.reduceLeDiff, Nat.reduceLT, fn_transitref35_Best, e23_1, w23_1, e23_3, w23_3, e23_5, w23_5, e23_7, w23_7, e23_9, w23_9, e23_11, w23_11, e23_13, w23_13, e23_15, w23_15, e23_17, w23_17, e23_19, w23_19, e23_21, w23_21, e23_23, w23_23, e23_25, w23_25, e23_27, w23_27, e23_29, w23_29, c23_30, c23_31, c23_32, c23_33, e23_35, w23_35, c23_36, c23_37, c23_38, c23_39, c23_40, c23_41, e23_43, w23_43, c23_44, c23_45, c23_46, c23_47, c23_48, c23_49, e23_51, w23_51, c23_52, c23_53, c23_54, c23_55, c23_56, e23_58, w23_58, c23_59, c23_60, c23_61, c23_62, c23_63, c23_64, Fares.row]
    have e : l.length - (j + 1) = i := by omega
    refine next_stay hj ⟨?_, ?_⟩
    · have : (i : Int) - 1 = (l.length : Int) - 1 - ((j + 1 : Nat) : Int) := by omega
      simp [vals, sget, this]
    · simp [Fares.row, tabs, e]
  rintro m vs M hm1 hmd ⟨rfl, rfl⟩
  simp -implicitDefEqProofs (disch := omega) only [go_sem, Nat.reduceAdd, Nat.reduceMul, Nat.reduceSub, Nat.reduceBEq, Nat.reduceLeDiff, Nat.reduceLT, fn_transitref35_Best, e23_1, w23_1, e23_3, w23_3, e23_5, w23_5, e23_7, w23_7, e23_9, w23_9, e23_11, w23_11, e23_13, w23_13, e23_15, w23_15, e23_17, w23_17, e23_19, w23_19, e23_21, w23_21, e23_23, w23_23, e23_25, w23_25, e23_27, w23_27, e23_29, w23_29, c23_30, c23_31, c23_32, c23_33, e23_35, w23_35, c23_36, c23_37, c23_38, c23_39, c23_40, c23_41, e23_43, w23_43, c23_44, c23_45, c23_46, c23_47, c23_48, c23_49, e23_51, w23_51, c23_52, c23_53, c23_54, c23_55, c23_56, e23_58, w23_58, c23_59, c23_60, c23_61, c23_62, c23_63, c23_64, Fares.row]
  refine ifD (fun h2 => ?_) (fun h2 => ?_)
  rotate_left
  · omega
  simp -implicitDefEqProofs (disch := omega) only [go_sem, Nat.reduceAdd, Nat.reduceMul, Nat.reduceSub, Nat.reduceBEq, Nat.reduceLeDiff, Nat.reduceLT, fn_transitref35_Best, e23_1, w23_1, e23_3, w23_3, e23_5, w23_5, e23_7, w23_7, e23_9, w23_9, e23_11, w23_11, e23_13, w23_13, e23_15, w23_15, e23_17, w23_17, e23_19, w23_19, e23_21, w23_21, e23_23, w23_23, e23_25, w23_25, e23_27, w23_27, e23_29, w23_29, c23_30, c23_31, c23_32, c23_33, e23_35, w23_35, c23_36, c23_37, c23_38, c23_39, c23_40, c23_41, e23_43, w23_43, c23_44, c23_45, c23_46, c23_47, c23_48, c23_49, e23_51, w23_51, c23_52, c23_53, c23_54, c23_55, c23_56, e23_58, w23_58, c23_59, c23_60, c23_61, c23_62, c23_63, c23_64, Fares.row]
  have hne : i + m + 1 ≠ i := by omega
  refine wpC_for f.products.length (fun p vs M => vs = [.slice (l.map Ride.row) c, .ptr 0 0, .mslice 1 0 0 (l.length + 1), .mslice 2 0 0 (l.length + 1), .int .i64 i, .int .i64 ((i + m : Nat) : Int), .int .i64 p] ∧
      M = [.box f.row, .arr 1 (restRows l.length (upd (tabs f l j) i (accP f l i (i + m) (tabs f l j) (accK f l i (tabs f l j) m) p))) 0 0, .arr 1 (paidRows l.length (upd (tabs f l j) i (accP f l i (i + m) (tabs f l j) (accK f l i (tabs f l j) m) p))) 0 0]) ⟨by simp [vals, sget], by simp [Fares.row, accP]⟩ ?_ ?_
  rotate_left
  · rintro vs M ⟨rfl, rfl⟩
    simp -implicitDefEqProofs (disch := omega) only [go_sem, Nat.reduceAdd, Nat.reduceMul, Nat.reduceSub, Nat.reduceBEq, Nat.reduceLeDiff, Nat.reduceLT, fn_transitref35_Best, e23_1, w23_1, e23_3, w23_3, e23_5, w23_5, e23_7, w23_7, e23_9, w23_9, e23_11, w23_11, e23_13, w23_13, e23_15, w23_15, e23_17, w23_17, e23_19, w23_19, e23_21, w23_21, e23_23, w23_23, e23_25, w23_25, e23_27, w23_27, e23_29, w23_29, c23_30, c23_31, c23_32, c23_33, e23_35, w23_35, c23_36, c23_37, c23_38, c23_39, c23_40, c23_41, e23_43, w23_43, c23_44, c23_45, c23_46, c23_47, c23_48, c23_49, e23_51, w23_51, c23_52, c23_53, c23_54, c23_55, c23_56, e23_58, w23_58, c23_59, c23_60, c23_61, c23_62, c23_63, c23_64, dec_irrefl, Fares.row]
    refine next_stay hm1 ⟨?_, ?_⟩
    · have : ((i + m : Nat) : Int) + 1 = ((i + (m + 1) : Nat) : Int) := by omega
      simp only [vals, sget, this]; rfl
    · simp only [Fares.row, accK]
  rintro p vs M hp hpd ⟨rfl, rfl⟩
  obtain ⟨q, hq⟩ : ∃ q, f.products[p]? = some q := ⟨f.products[p], by simp⟩
  have hqm := List.mem_of_getElem? hq
  simp -implicitDefEqProofs (disch := omega) only [go_sem, Nat.reduceAdd, Nat.reduceMul, Nat.reduceSub, Nat.reduceBEq, Nat.reduceLeDiff, Nat.reduceLT, fn_transitref35_Best, e23_1, w23_1, e23_3, w23_3, e23_5, w23_5, e23_7, w23_7, e23_9, w23_9, e23_11, w23_11, e23_13, w23_13, e23_15, w23_15, e23_17, w23_17, e23_19, w23_19, e23_21, w23_21, e23_23, w23_23, e23_25, w23_25, e23_27, w23_27, e23_29, w23_29, c23_30, c23_31, c23_32, c23_33, e23_35, w23_35, c23_36, c23_37, c23_38, c23_39, c23_40, c23_41, e23_43, w23_43, c23_44, c23_45, c23_46, c23_47, c23_48, c23_49, e23_51, w23_51, c23_52, c23_53, c23_54, c23_55, c23_56, e23_58, w23_58, c23_59, c23_60, c23_61, c23_62, c23_63, c23_64, hpd, pp_len, pp_get, dec_lt, upd_ne _ _ hne, Fares.row]
  refine ifB (fun h3 => ?_) (fun h3 => ?_)
  rotate_left
  · have e : tabs f l j (i + m + 1) = none := by simpa [rOk] using h3
    simp -implicitDefEqProofs (disch := omega) only [go_sem, Nat.reduceAdd, Nat.reduceMul, Nat.reduceSub, Nat.reduceBEq, Nat.reduceLeDiff, Nat.reduceLT, fn_transitref35_Best, e23_1, w23_1, e23_3, w23_3, e23_5, w23_5, e23_7, w23_7, e23_9, w23_9, e23_11, w23_11, e23_13, w23_13, e23_15, w23_15, e23_17, w23_17, e23_19, w23_19, e23_21, w23_21, e23_23, w23_23, e23_25, w23_25, e23_27, w23_27, e23_29, w23_29, c23_30, c23_31, c23_32, c23_33, e23_35, w23_35, c23_36, c23_37, c23_38, c23_39, c23_40, c23_41, e23_43, w23_43, c23_44, c23_45, c23_46, c23_47, c23_48, c23_49, e23_51, w23_51, c23_52, c23_53, c23_54, c23_55, c23_56, e23_58, w23_58, c23_59, c23_60, c23_61, c23_62, c23_63, c23_64, Fares.row, accP_none e]
    refine next_stay hm1 ⟨?_, ?_⟩
    · have : ((i + m : Nat) : Int) + 1 = ((i + (m + 1) : Nat) : Int) := by omega
      simp only [vals, sget, this]; rfl
    · simp only [Fares.row, accK, accP_none e]
  obtain ⟨d, hd⟩ : ∃ d, tabs f l j (i + m + 1) = some d := Option.isSome_iff_exists.1 h3
  obtain ⟨cd, hcd⟩ := rest_app d
  simp -implicitDefEqProofs (disch := omega) only [go_sem, Nat.reduceAdd, Nat.reduceMul, Nat.reduceSub, Nat.reduceBEq, Nat.reduceLeDiff, Nat.reduceLT, fn_transitref35_Best, e23_1, w23_1, e23_3, w23_3, e23_5, w23_5, e23_7, w23_7, e23_9, w23_9, e23_11, w23_11, e23_13, w23_13, e23_15, w23_15, e23_17, w23_17, e23_19, w23_19, e23_21, w23_21, e23_23, w23_23, e23_25, w23_25, e23_27, w23_27, e23_29, w23_29, c23_30, c23_31, c23_32, c23_33, e23_35, w23_35, c23_36, c23_37, c23_38, c23_39, c23_40, c23_41, e23_43, w23_43, c23_44, c23_45, c23_46, c23_47, c23_48, c23_49, e23_51, w23_51, c23_52, c23_53, c23_54, c23_55, c23_56, e23_58, w23_58, c23_59, c23_60, c23_61, c23_62, c23_63, c23_64, Fares.row, hq, Product.row]
  first | refine callD (transitref35_Covers_ok q l c i (i + m) (hf.1 q hqm) (hok.prods q hqm).2.2.2.1.1 hl (by omega) (by omega) (by omega)) ?_ | refine callQD (transitref35_Covers_ok q l c i (i + m) (hf.1 q hqm) (hok.prods q hqm).2.2.2.1.1 hl (by omega) (by omega) (by omega)) ?_
  simp -implicitDefEqProofs (disch := omega) only [go_sem, Nat.reduceAdd, Nat.reduceMul, Nat.reduceSub, Nat.reduceBEq, Nat.reduceLeDiff, Nat.reduceLT, fn_transitref35_Best, e23_1, w23_1, e23_3, w23_3, e23_5, w23_5, e23_7, w23_7, e23_9, w23_9, e23_11, w23_11, e23_13, w23_13, e23_15, w23_15, e23_17, w23_17, e23_19, w23_19, e23_21, w23_21, e23_23, w23_23, e23_25, w23_25, e23_27, w23_27, e23_29, w23_29, c23_30, c23_31, c23_32, c23_33, e23_35, w23_35, c23_36, c23_37, c23_38, c23_39, c23_40, c23_41, e23_43, w23_43, c23_44, c23_45, c23_46, c23_47, c23_48, c23_49, e23_51, w23_51, c23_52, c23_53, c23_54, c23_55, c23_56, e23_58, w23_58, c23_59, c23_60, c23_61, c23_62, c23_63, c23_64, Fares.row]
  refine ifB (fun h4 => ?_) (fun h4 => ?_)
  rotate_left
  · simp -implicitDefEqProofs (disch := omega) only [go_sem, Nat.reduceAdd, Nat.reduceMul, Nat.reduceSub, Nat.reduceBEq, Nat.reduceLeDiff, Nat.reduceLT, fn_transitref35_Best, e23_1, w23_1, e23_3, w23_3, e23_5, w23_5, e23_7, w23_7, e23_9, w23_9, e23_11, w23_11, e23_13, w23_13, e23_15, w23_15, e23_17, w23_17, e23_19, w23_19, e23_21, w23_21, e23_23, w23_23, e23_25, w23_25, e23_27, w23_27, e23_29, w23_29, c23_30, c23_31, c23_32, c23_33, e23_35, w23_35, c23_36, c23_37, c23_38, c23_39, c23_40, c23_41, e23_43, w23_43, c23_44, c23_45, c23_46, c23_47, c23_48, c23_49, e23_51, w23_51, c23_52, c23_53, c23_54, c23_55, c23_56, e23_58, w23_58, c23_59, c23_60, c23_61, c23_62, c23_63, c23_64, Fares.row]
    refine next_stay hp ⟨?_, ?_⟩
    · simp only [vals, sget]; rfl
    · simp only [Fares.row, accP, cand_not hq h4, stepP_none]
  have hc := cand_cons (R := tabs f l j) hq h4 hd
  simp -implicitDefEqProofs (disch := omega) only [go_sem, Nat.reduceAdd, Nat.reduceMul, Nat.reduceSub, Nat.reduceBEq, Nat.reduceLeDiff, Nat.reduceLT, fn_transitref35_Best, e23_1, w23_1, e23_3, w23_3, e23_5, w23_5, e23_7, w23_7, e23_9, w23_9, e23_11, w23_11, e23_13, w23_13, e23_15, w23_15, e23_17, w23_17, e23_19, w23_19, e23_21, w23_21, e23_23, w23_23, e23_25, w23_25, e23_27, w23_27, e23_29, w23_29, c23_30, c23_31, c23_32, c23_33, e23_35, w23_35, c23_36, c23_37, c23_38, c23_39, c23_40, c23_41, e23_43, w23_43, c23_44, c23_45, c23_46, c23_47, c23_48, c23_49, e23_51, w23_51, c23_52, c23_53, c23_54, c23_55, c23_56, e23_58, w23_58, c23_59, c23_60, c23_61, c23_62, c23_63, c23_64, Fares.row, hq, Product.row]
  first | refine callD (transitref35_Ticket_ok f q l c i hf hok (hok.prods q hqm).1 hl (by omega) (by omega)) ?_ | refine callQD (transitref35_Ticket_ok f q l c i hf hok (hok.prods q hqm).1 hl (by omega) (by omega)) ?_
  have hmild := tabs_mild hok hlen (by omega) (by omega) hd
  obtain ⟨hm2, hm3, hm4⟩ := hmild
  simp -implicitDefEqProofs (disch := omega) only [go_sem, Nat.reduceAdd, Nat.reduceMul, Nat.reduceSub, Nat.reduceBEq, Nat.reduceLeDiff, Nat.reduceLT, fn_transitref35_Best, e23_1, w23_1, e23_3, w23_3, e23_5, w23_5, e23_7, w23_7, e23_9, w23_9, e23_11, w23_11, e23_13, w23_13, e23_15, w23_15, e23_17, w23_17, e23_19, w23_19, e23_21, w23_21, e23_23, w23_23, e23_25, w23_25, e23_27, w23_27, e23_29, w23_29, c23_30, c23_31, c23_32, c23_33, e23_35, w23_35, c23_36, c23_37, c23_38, c23_39, c23_40, c23_41, e23_43, w23_43, c23_44, c23_45, c23_46, c23_47, c23_48, c23_49, e23_51, w23_51, c23_52, c23_53, c23_54, c23_55, c23_56, e23_58, w23_58, c23_59, c23_60, c23_61, c23_62, c23_63, c23_64, Fares.row, rr_len, rr_get, dec_lt, upd_ne _ _ hne, hd, hcd, headLen_map (f := Ticket.row) (n := 4) (fun r => rfl) d, Bool.or_true]
  have hnone : rOk (accP f l i (i + m) (tabs f l j) (accK f l i (tabs f l j) m) p) = true ∨ accP f l i (i + m) (tabs f l j) (accK f l i (tabs f l j) m) p = none := by
    cases accP f l i (i + m) (tabs f l j) (accK f l i (tabs f l j) m) p with
    | none => exact .inr rfl
    | some x => exact .inl rfl
  generalize hacc : accP f l i (i + m) (tabs f l j) (accK f l i (tabs f l j) m) p = A at *
  have hset := rr_set l.length i (upd (tabs f l j) i A) (some (⟨p, i, (i + m : Nat), ticket f q l i⟩ :: d))
  have hset2 := pp_set l.length i (upd (tabs f l j) i A) (some (⟨p, i, (i + m : Nat), ticket f q l i⟩ :: d))
  simp only [restCell, rOk, Option.isSome, List.map_cons, Ticket.row] at hset hset2
  simp -implicitDefEqProofs (disch := omega) only [go_sem, Nat.reduceAdd, Nat.reduceMul, Nat.reduceSub, Nat.reduceBEq, Nat.reduceLeDiff, Nat.reduceLT, fn_transitref35_Best, e23_1, w23_1, e23_3, w23_3, e23_5, w23_5, e23_7, w23_7, e23_9, w23_9, e23_11, w23_11, e23_13, w23_13, e23_15, w23_15, e23_17, w23_17, e23_19, w23_19, e23_21, w23_21, e23_23, w23_23, e23_25, w23_25, e23_27, w23_27, e23_29, w23_29, c23_30, c23_31, c23_32, c23_33, e23_35, w23_35, c23_36, c23_37, c23_38, c23_39, c23_40, c23_41, e23_43, w23_43, c23_44, c23_45, c23_46, c23_47, c23_48, c23_49, e23_51, w23_51, c23_52, c23_53, c23_54, c23_55, c23_56, e23_58, w23_58, c23_59, c23_60, c23_61, c23_62, c23_63, c23_64, Fares.row, pp_len, pp_get, dec_lt, upd_same]
  have hdiv : ∀ k e, k + 1 ≤ l.length → tabs f l j (k + 1) = some e → Div f l (k + 1) e := fun k e hk he => tabs_div f l j (k + 1) e (by omega) hk he
  have hD := cand_div hc (show i ≤ i + m by omega) (by omega) (fun e he => hdiv (i + m) e (by omega) he)
  have hcong : cand f l i (i + m) p (upd (tabs f l j) i A) = cand f l i (i + m) p (tabs f l j) := cand_congr f l i (i + m) p (upd_ne _ _ hne)
  have hfin : ∀ o, stepP A (cand f l i (i + m) p (tabs f l j)) = o → upd (upd (tabs f l j) i A) i o = upd (tabs f l j) i (accP f l i (i + m) (tabs f l j) (accK f l i (tabs f l j) m) (p + 1)) := by
    intro o ho
    rw [upd_upd, accP, hacc, ho]
  refine ifB (fun h5 => ?_) (fun h5 => ?_)
  rotate_left
  · have hA : A = none := by rcases hnone with h | h <;> simp_all
    have hst : stepP A (cand f l i (i + m) p (tabs f l j)) = some (⟨p, i, (i + m : Nat), ticket f q l i⟩ :: d) := by rw [hc, hA]; rfl
    simp -implicitDefEqProofs (disch := omega) only [go_sem, Nat.reduceAdd, Nat.reduceMul, Nat.reduceSub, Nat.reduceBEq, Nat.reduceLeDiff, Nat.reduceLT, fn_transitref35_Best, e23_1, w23_1, e23_3, w23_3, e23_5, w23_5, e23_7, w23_7, e23_9, w23_9, e23_11, w23_11, e23_13, w23_13, e23_15, w23_15, e23_17, w23_17, e23_19, w23_19, e23_21, w23_21, e23_23, w23_23, e23_25, w23_25, e23_27, w23_27, e23_29, w23_29, c23_30, c23_31, c23_32, c23_33, e23_35, w23_35, c23_36, c23_37, c23_38, c23_39, c23_40, c23_41, e23_43, w23_43, c23_44, c23_45, c23_46, c23_47, c23_48, c23_49, e23_51, w23_51, c23_52, c23_53, c23_54, c23_55, c23_56, e23_58, w23_58, c23_59, c23_60, c23_61, c23_62, c23_63, c23_64, Fares.row, rr_len, pp_len, rr_get, pp_get, dec_lt, hset, hset2]
    refine next_stay hp ⟨?_, ?_⟩
    · simp only [vals, sget]; rfl
    · rw [hfin _ hst]
  obtain ⟨B, hB⟩ : ∃ B, A = some B := Option.isSome_iff_exists.1 h5
  subst hB
  obtain ⟨s, b, rfl, e1, e2⟩ := acc_head hacc
  have hDB : Div f l i (s :: b) := accP_div (show i ≤ i + m by omega) (by omega) (fun e he => hdiv (i + m) e (by omega) he) (fun e he => accK_div (fun k e hk hk' he => hdiv k e (by omega) he) m e (by omega) he) p _ hacc
  have m1 := div_mild hok _ _ hD
  have m2 := div_mild hok _ _ hDB
  simp -implicitDefEqProofs (disch := omega) only [go_sem, Nat.reduceAdd, Nat.reduceMul, Nat.reduceSub, Nat.reduceBEq, Nat.reduceLeDiff, Nat.reduceLT, fn_transitref35_Best, e23_1, w23_1, e23_3, w23_3, e23_5, w23_5, e23_7, w23_7, e23_9, w23_9, e23_11, w23_11, e23_13, w23_13, e23_15, w23_15, e23_17, w23_17, e23_19, w23_19, e23_21, w23_21, e23_23, w23_23, e23_25, w23_25, e23_27, w23_27, e23_29, w23_29, c23_30, c23_31, c23_32, c23_33, e23_35, w23_35, c23_36, c23_37, c23_38, c23_39, c23_40, c23_41, e23_43, w23_43, c23_44, c23_45, c23_46, c23_47, c23_48, c23_49, e23_51, w23_51, c23_52, c23_53, c23_54, c23_55, c23_56, e23_58, w23_58, c23_59, c23_60, c23_61, c23_62, c23_63, c23_64, Fares.row, rr_len, rr_get, dec_lt, upd_same, restCell]
  first | refine callD (transitref35_better_ok ⟨p, i, (i + m : Nat), ticket f q l i⟩ s d b .unk .unk (div_small hok _ _ hD) (div_small hok _ _ hDB) (by omega) (by omega) e1 e2) ?_ | refine callQD (transitref35_better_ok ⟨p, i, (i + m : Nat), ticket f q l i⟩ s d b .unk .unk (div_small hok _ _ hD) (div_small hok _ _ hDB) (by omega) (by omega) e1 e2) ?_
  simp -implicitDefEqProofs (disch := omega) only [go_sem, Nat.reduceAdd, Nat.reduceMul, Nat.reduceSub, Nat.reduceBEq, Nat.reduceLeDiff, Nat.reduceLT, fn_transitref35_Best, e23_1, w23_1, e23_3, w23_3, e23_5, w23_5, e23_7, w23_7, e23_9, w23_9, e23_11, w23_11, e23_13, w23_13, e23_15, w23_15, e23_17, w23_17, e23_19, w23_19, e23_21, w23_21, e23_23, w23_23, e23_25, w23_25, e23_27, w23_27, e23_29, w23_29, c23_30, c23_31, c23_32, c23_33, e23_35, w23_35, c23_36, c23_37, c23_38, c23_39, c23_40, c23_41, e23_43, w23_43, c23_44, c23_45, c23_46, c23_47, c23_48, c23_49, e23_51, w23_51, c23_52, c23_53, c23_54, c23_55, c23_56, e23_58, w23_58, c23_59, c23_60, c23_61, c23_62, c23_63, c23_64, Fares.row]
  refine ifB (fun h6 => ?_) (fun h6 => ?_)
  · have hst : stepP (some (s :: b)) (cand f l i (i + m) p (tabs f l j)) = some (⟨p, i, (i + m : Nat), ticket f q l i⟩ :: d) := by
      rw [hc]; exact if_pos h6
    simp -implicitDefEqProofs (disch := omega) only [go_sem, Nat.reduceAdd, Nat.reduceMul, Nat.reduceSub, Nat.reduceBEq, Nat.reduceLeDiff, Nat.reduceLT, fn_transitref35_Best, e23_1, w23_1, e23_3, w23_3, e23_5, w23_5, e23_7, w23_7, e23_9, w23_9, e23_11, w23_11, e23_13, w23_13, e23_15, w23_15, e23_17, w23_17, e23_19, w23_19, e23_21, w23_21, e23_23, w23_23, e23_25, w23_25, e23_27, w23_27, e23_29, w23_29, c23_30, c23_31, c23_32, c23_33, e23_35, w23_35, c23_36, c23_37, c23_38, c23_39, c23_40, c23_41, e23_43, w23_43, c23_44, c23_45, c23_46, c23_47, c23_48, c23_49, e23_51, w23_51, c23_52, c23_53, c23_54, c23_55, c23_56, e23_58, w23_58, c23_59, c23_60, c23_61, c23_62, c23_63, c23_64, Fares.row, rr_len, pp_len, rr_get, pp_get, dec_lt, hset, hset2]
    refine next_stay hp ⟨?_, ?_⟩
    · simp only [vals, sget]; rfl
    · rw [hfin _ hst]
  · have hst : stepP (some (s :: b)) (cand f l i (i + m) p (tabs f l j)) = some (s :: b) := by
      rw [hc]; exact if_neg (fun x => absurd (h6.symm.trans x) Bool.false_ne_true)
    have h7 := hfin _ hst
    rw [upd_upd] at h7
    simp -implicitDefEqProofs (disch := omega) only [go_sem, Nat.reduceAdd, Nat.reduceMul, Nat.reduceSub, Nat.reduceBEq, Nat.reduceLeDiff, Nat.reduceLT, fn_transitref35_Best, e23_1, w23_1, e23_3, w23_3, e23_5, w23_5, e23_7, w23_7, e23_9, w23_9, e23_11, w23_11, e23_13, w23_13, e23_15, w23_15, e23_17, w23_17, e23_19, w23_19, e23_21, w23_21, e23_23, w23_23, e23_25, w23_25, e23_27, w23_27, e23_29, w23_29, c23_30, c23_31, c23_32, c23_33, e23_35, w23_35, c23_36, c23_37, c23_38, c23_39, c23_40, c23_41, e23_43, w23_43, c23_44, c23_45, c23_46, c23_47, c23_48, c23_49, e23_51, w23_51, c23_52, c23_53, c23_54, c23_55, c23_56, e23_58, w23_58, c23_59, c23_60, c23_61, c23_62, c23_63, c23_64, Fares.row]
    refine next_stay hp ⟨?_, ?_⟩
    · simp only [vals, sget]; rfl
    · rw [h7]

theorem transitref35_Price_ok (f : Fares) (l : List Ride) (c : Cap) (hf : f.wf) (hl : ∀ r ∈ l, r.wf) :
    PCalls PR i_transitref35_Price [.agg f.row, .slice (l.map Ride.row) c] (fun v => ∃ d, v = fareV (fareRes f l) d) := by
  refine acalls_pop fn_transitref35_Price_ok (by simp [fn_transitref35_Price]) ?_
  simp -implicitDefEqProofs (disch := omega) only [go_sem, Nat.reduceAdd, Nat.reduceMul, Nat.reduceSub, Nat.reduceBEq, Nat.reduceLeDiff, Nat.reduceLT, fn_transitref35_Price, e13_1, w13_1, e13_3, w13_3, c13_4, e13_6, w13_6, e13_8, w13_8, c13_9, e13_11, w13_11, e13_13, w13_13, e13_15, w13_15, c13_16, e13_18, w13_18, e13_20, w13_20, c13_21, c13_22, c13_23, c13_24, c13_25, c13_26, Fares.row]
  first | refine callD (transitref35_Valid_ok f hf) ?_ | refine callQD (transitref35_Valid_ok f hf) ?_
  simp -implicitDefEqProofs (disch := omega) only [go_sem, Nat.reduceAdd, Nat.reduceMul, Nat.reduceSub, Nat.reduceBEq, Nat.reduceLeDiff, Nat.reduceLT, fn_transitref35_Price, e13_1, w13_1, e13_3, w13_3, c13_4, e13_6, w13_6, e13_8, w13_8, c13_9, e13_11, w13_11, e13_13, w13_13, e13_15, w13_15, c13_16, e13_18, w13_18, e13_20, w13_20, c13_21, c13_22, c13_23, c13_24, c13_25, c13_26, faresOk]
  refine ifD (fun h1 => ?_) (fun h1 => ?_)
  rotate_left
  · have e : fareRes f l = (0, [], 20) := by
      have : validRes f l.length = 20 := by rw [validRes, if_pos h1]
      rw [fareRes, if_pos (by simp [this]), this]
    simp -implicitDefEqProofs (disch := omega) only [go_sem, Nat.reduceAdd, Nat.reduceMul, Nat.reduceSub, Nat.reduceBEq, Nat.reduceLeDiff, Nat.reduceLT, fn_transitref35_Price, e13_1, w13_1, e13_3, w13_3, c13_4, e13_6, w13_6, e13_8, w13_8, c13_9, e13_11, w13_11, e13_13, w13_13, e13_15, w13_15, c13_16, e13_18, w13_18, e13_20, w13_20, c13_21, c13_22, c13_23, c13_24, c13_25, c13_26, e, fareV, Fares.row]
    exact ⟨.nil, rfl⟩
  simp -implicitDefEqProofs (disch := omega) only [go_sem, Nat.reduceAdd, Nat.reduceMul, Nat.reduceSub, Nat.reduceBEq, Nat.reduceLeDiff, Nat.reduceLT, fn_transitref35_Price, e13_1, w13_1, e13_3, w13_3, c13_4, e13_6, w13_6, e13_8, w13_8, c13_9, e13_11, w13_11, e13_13, w13_13, e13_15, w13_15, c13_16, e13_18, w13_18, e13_20, w13_20, c13_21, c13_22, c13_23, c13_24, c13_25, c13_26]
  refine ifD (fun h2 => ?_) (fun h2 => ?_)
  · have e : fareRes f l = (0, [], 33) := by
      have : validRes f l.length = 33 := by rw [validRes, if_neg (by simp [h1]), if_pos (by omega)]
      rw [fareRes, if_pos (by simp [this]), this]
    simp -implicitDefEqProofs (disch := omega) only [go_sem, Nat.reduceAdd, Nat.reduceMul, Nat.reduceSub, Nat.reduceBEq, Nat.reduceLeDiff, Nat.reduceLT, fn_transitref35_Price, e13_1, w13_1, e13_3, w13_3, c13_4, e13_6, w13_6, e13_8, w13_8, c13_9, e13_11, w13_11, e13_13, w13_13, e13_15, w13_15, c13_16, e13_18, w13_18, e13_20, w13_20, c13_21, c13_22, c13_23, c13_24, c13_25, c13_26, e, fareV, Fares.row]
    exact ⟨.nil, rfl⟩
  have hok := checkRes_ok h1
  have hv : validRes f l.length = 0 := validRes_zero.2 ⟨h1, by omega⟩
  obtain ⟨o, co, hco⟩ := rest_slice (best f l 0)
  simp -implicitDefEqProofs (disch := omega) only [go_sem, Nat.reduceAdd, Nat.reduceMul, Nat.reduceSub, Nat.reduceBEq, Nat.reduceLeDiff, Nat.reduceLT, fn_transitref35_Price, e13_1, w13_1, e13_3, w13_3, c13_4, e13_6, w13_6, e13_8, w13_8, c13_9, e13_11, w13_11, e13_13, w13_13, e13_15, w13_15, c13_16, e13_18, w13_18, e13_20, w13_20, c13_21, c13_22, c13_23, c13_24, c13_25, c13_26, Fares.row]
  first | refine callD (transitref35_Best_ok f l c hf hok hl (by omega)) ?_ | refine callQD (transitref35_Best_ok f l c hf hok hl (by omega)) ?_
  simp -implicitDefEqProofs (disch := omega) only [go_sem, Nat.reduceAdd, Nat.reduceMul, Nat.reduceSub, Nat.reduceBEq, Nat.reduceLeDiff, Nat.reduceLT, fn_transitref35_Price, e13_1, w13_1, e13_3, w13_3, c13_4, e13_6, w13_6, e13_8, w13_8, c13_9, e13_11, w13_11, e13_13, w13_13, e13_15, w13_15, c13_16, e13_18, w13_18, e13_20, w13_20, c13_21, c13_22, c13_23, c13_24, c13_25, c13_26, hco, Fares.row]
  refine ifB (fun h3 => ?_) (fun h3 => ?_)
  rotate_left
  · have e : fareRes f l = (0, [], 34) := by
      rw [fareRes_valid hv]
      cases hb : best f l 0 with
      | none => rfl
      | some d => simp [rOk, hb] at h3
    simp -implicitDefEqProofs (disch := omega) only [go_sem, Nat.reduceAdd, Nat.reduceMul, Nat.reduceSub, Nat.reduceBEq, Nat.reduceLeDiff, Nat.reduceLT, fn_transitref35_Price, e13_1, w13_1, e13_3, w13_3, c13_4, e13_6, w13_6, e13_8, w13_8, c13_9, e13_11, w13_11, e13_13, w13_13, e13_15, w13_15, c13_16, e13_18, w13_18, e13_20, w13_20, c13_21, c13_22, c13_23, c13_24, c13_25, c13_26, e, fareV, Fares.row]
    exact ⟨.nil, rfl⟩
  obtain ⟨d, hd⟩ : ∃ d, best f l 0 = some d := Option.isSome_iff_exists.1 h3
  have e : fareRes f l = (capped f (total d), d, 0) := by rw [fareRes_valid hv, hd]
  obtain ⟨cd, hcd⟩ := rest_app d
  have hD := best_div (by omega) hd
  have m1 := div_mild hok _ _ hD
  rw [hd, hcd] at hco
  rw [← hco]
  simp -implicitDefEqProofs (disch := omega) only [go_sem, Nat.reduceAdd, Nat.reduceMul, Nat.reduceSub, Nat.reduceBEq, Nat.reduceLeDiff, Nat.reduceLT, fn_transitref35_Price, e13_1, w13_1, e13_3, w13_3, c13_4, e13_6, w13_6, e13_8, w13_8, c13_9, e13_11, w13_11, e13_13, w13_13, e13_15, w13_15, c13_16, e13_18, w13_18, e13_20, w13_20, c13_21, c13_22, c13_23, c13_24, c13_25, c13_26, Fares.row]
  first | refine callD (transitref35_Sum_ok d cd (div_small hok _ _ hD) (by omega)) ?_ | refine callQD (transitref35_Sum_ok d cd (div_small hok _ _ hD) (by omega)) ?_
  first | refine callD (transitref35_Capped_ok f _ hok.limit.1) ?_ | refine callQD (transitref35_Capped_ok f _ hok.limit.1) ?_
  simp -implicitDefEqProofs (disch := omega) only [go_sem, Nat.reduceAdd, Nat.reduceMul, Nat.reduceSub, Nat.reduceBEq, Nat.reduceLeDiff, Nat.reduceLT, fn_transitref35_Price, e13_1, w13_1, e13_3, w13_3, c13_4, e13_6, w13_6, e13_8, w13_8, c13_9, e13_11, w13_11, e13_13, w13_13, e13_15, w13_15, c13_16, e13_18, w13_18, e13_20, w13_20, c13_21, c13_22, c13_23, c13_24, c13_25, c13_26, e, fareV, Fares.row]
  exact ⟨cd, rfl⟩

theorem transitref35_Same_ok (a : List Ticket) (c d : Cap) (h : a.length ≤ 1000) : PCalls PR i_transitref35_Same [.slice (a.map Ticket.row) c, .slice (a.map Ticket.row) d] (fun v => v = .bool true) := by
  refine acalls_pop fn_transitref35_Same_ok (by simp [fn_transitref35_Same]) ?_
  simp -implicitDefEqProofs (disch := omega) only [go_sem, Nat.reduceAdd, Nat.reduceMul, Nat.reduceSub, Nat.reduceBEq, Nat.reduceLeDiff, Nat.reduceLT, fn_transitref35_Same, e14_1, w14_1, e14_3, w14_3, c14_4, e14_6, w14_6, e14_8, w14_8, e14_10, w14_10, e14_12, w14_12, c14_13, e14_15, w14_15, c14_16, e14_18, w14_18, c14_19, c14_20, c14_21, c14_22, c14_23, e14_25, w14_25, c14_26, c14_27, c14_28, c14_29]
  refine wpC_forL a (fun i vs M => vs = [.slice (a.map Ticket.row) c, .slice (a.map Ticket.row) d, .int .i64 i] ∧ M = []) ⟨rfl, rfl⟩ ?_ ?_
  · rintro i t vs M ht hi hd ⟨rfl, rfl⟩
    simp -implicitDefEqProofs (disch := omega) only [go_sem, Nat.reduceAdd, Nat.reduceMul, Nat.reduceSub, Nat.reduceBEq, Nat.reduceLeDiff, Nat.reduceLT, fn_transitref35_Same, e14_1, w14_1, e14_3, w14_3, c14_4, e14_6, w14_6, e14_8, w14_8, e14_10, w14_10, e14_12, w14_12, c14_13, e14_15, w14_15, c14_16, e14_18, w14_18, c14_19, c14_20, c14_21, c14_22, c14_23, e14_25, w14_25, c14_26, c14_27, c14_28, c14_29, hd, ht, Ticket.row]
    exact next_stay hi ⟨rfl, rfl⟩
  · rintro vs M ⟨rfl, rfl⟩
    simp -implicitDefEqProofs (disch := omega) only [go_sem, Nat.reduceAdd, Nat.reduceMul, Nat.reduceSub, Nat.reduceBEq, Nat.reduceLeDiff, Nat.reduceLT, fn_transitref35_Same, e14_1, w14_1, e14_3, w14_3, c14_4, e14_6, w14_6, e14_8, w14_8, e14_10, w14_10, e14_12, w14_12, c14_13, e14_15, w14_15, c14_16, e14_18, w14_18, c14_19, c14_20, c14_21, c14_22, c14_23, e14_25, w14_25, c14_26, c14_27, c14_28, c14_29, dec_irrefl]

theorem fareRes_len (f : Fares) (l : List Ride) : (fareRes f l).2.1.length ≤ 1000 := by
  by_cases h : validRes f l.length = 0
  · obtain ⟨hc, hlen⟩ := validRes_zero.1 h
    rw [fareRes_valid h]
    cases hb : best f l 0 with
    | none => simp
    | some d =>
      have := div_mild (checkRes_ok hc) _ _ (best_div (by omega) hb)
      simp only
      omega
  · rw [fareRes, if_pos h]; simp

theorem FarePrices_law (f : Fares) (l : List Ride) (c : Cap) (hf : f.wf) (hl : ∀ r ∈ l, r.wf) :
    PCalls PR i_transitlaw35_FarePrices [.agg f.row, .slice (l.map Ride.row) c] (fun v => v = .bool true) := by
  refine acalls_pop fn_transitlaw35_FarePrices_ok (by simp [fn_transitlaw35_FarePrices]) ?_
  simp -implicitDefEqProofs (disch := omega) only [go_sem, Nat.reduceAdd, Nat.reduceMul, Nat.reduceSub, Nat.reduceBEq, Nat.reduceLeDiff, Nat.reduceLT, fn_transitlaw35_FarePrices, e3_1, w3_1, e3_3, w3_3, c3_4, e3_6, w3_6, e3_8, w3_8, e3_10, w3_10, e3_12, w3_12, c3_13, c3_14, c3_15, c3_16, c3_17, Fares.row]
  first | refine callD (small_ok f l c hf) ?_ | refine callQD (small_ok f l c hf) ?_
  simp -implicitDefEqProofs (disch := omega) only [go_sem, Nat.reduceAdd, Nat.reduceMul, Nat.reduceSub, Nat.reduceBEq, Nat.reduceLeDiff, Nat.reduceLT, fn_transitlaw35_FarePrices, e3_1, w3_1, e3_3, w3_3, c3_4, e3_6, w3_6, e3_8, w3_8, e3_10, w3_10, e3_12, w3_12, c3_13, c3_14, c3_15, c3_16, c3_17]
  refine ifB (fun h1 => ?_) (fun h1 => ?_)
  rotate_left
  · simp -implicitDefEqProofs (disch := omega) only [go_sem, Nat.reduceAdd, Nat.reduceMul, Nat.reduceSub, Nat.reduceBEq, Nat.reduceLeDiff, Nat.reduceLT, fn_transitlaw35_FarePrices, e3_1, w3_1, e3_3, w3_3, c3_4, e3_6, w3_6, e3_8, w3_8, e3_10, w3_10, e3_12, w3_12, c3_13, c3_14, c3_15, c3_16, c3_17]
    first | refine callD (example35_ok) ?_ | refine callQD (example35_ok) ?_
    simp -implicitDefEqProofs (disch := omega) only [go_sem, Nat.reduceAdd, Nat.reduceMul, Nat.reduceSub, Nat.reduceBEq, Nat.reduceLeDiff, Nat.reduceLT, fn_transitlaw35_FarePrices, e3_1, w3_1, e3_3, w3_3, c3_4, e3_6, w3_6, e3_8, w3_8, e3_10, w3_10, e3_12, w3_12, c3_13, c3_14, c3_15, c3_16, c3_17]
  simp -implicitDefEqProofs (disch := omega) only [go_sem, Nat.reduceAdd, Nat.reduceMul, Nat.reduceSub, Nat.reduceBEq, Nat.reduceLeDiff, Nat.reduceLT, fn_transitlaw35_FarePrices, e3_1, w3_1, e3_3, w3_3, c3_4, e3_6, w3_6, e3_8, w3_8, e3_10, w3_10, e3_12, w3_12, c3_13, c3_14, c3_15, c3_16, c3_17, Fares.row]
  refine callP (fare_Price_ok f l c hf hl) ?_
  rintro v ⟨e, rfl⟩
  simp -implicitDefEqProofs (disch := omega) only [go_sem, Nat.reduceAdd, Nat.reduceMul, Nat.reduceSub, Nat.reduceBEq, Nat.reduceLeDiff, Nat.reduceLT, fn_transitlaw35_FarePrices, e3_1, w3_1, e3_3, w3_3, c3_4, e3_6, w3_6, e3_8, w3_8, e3_10, w3_10, e3_12, w3_12, c3_13, c3_14, c3_15, c3_16, c3_17, fareV, Fares.row]
  refine callP (transitref35_Price_ok f l c hf hl) ?_
  rintro v ⟨e', rfl⟩
  simp -implicitDefEqProofs (disch := omega) only [go_sem, Nat.reduceAdd, Nat.reduceMul, Nat.reduceSub, Nat.reduceBEq, Nat.reduceLeDiff, Nat.reduceLT, fn_transitlaw35_FarePrices, e3_1, w3_1, e3_3, w3_3, c3_4, e3_6, w3_6, e3_8, w3_8, e3_10, w3_10, e3_12, w3_12, c3_13, c3_14, c3_15, c3_16, c3_17, fareV, Fares.row]
  first | refine callD (transitref35_Same_ok (fareRes f l).2.1 e e' (fareRes_len f l)) ?_ | refine callQD (transitref35_Same_ok (fareRes f l).2.1 e e' (fareRes_len f l)) ?_
  simp -implicitDefEqProofs (disch := omega) only [go_sem, Nat.reduceAdd, Nat.reduceMul, Nat.reduceSub, Nat.reduceBEq, Nat.reduceLeDiff, Nat.reduceLT, fn_transitlaw35_FarePrices, e3_1, w3_1, e3_3, w3_3, c3_4, e3_6, w3_6, e3_8, w3_8, e3_10, w3_10, e3_12, w3_12, c3_13, c3_14, c3_15, c3_16, c3_17]
  first | refine callD (example35_ok) ?_ | refine callQD (example35_ok) ?_
  simp -implicitDefEqProofs (disch := omega) only [go_sem, Nat.reduceAdd, Nat.reduceMul, Nat.reduceSub, Nat.reduceBEq, Nat.reduceLeDiff, Nat.reduceLT, fn_transitlaw35_FarePrices, e3_1, w3_1, e3_3, w3_3, c3_4, e3_6, w3_6, e3_8, w3_8, e3_10, w3_10, e3_12, w3_12, c3_13, c3_14, c3_15, c3_16, c3_17]

end Go.Vm.C

