/- Price, and the statement FareMinimal. -/
import Derived.Test.YtmpjekmfphppbaaT9

namespace Go.Vm.C
open Go.Vm
set_option maxHeartbeats 1000000
set_option maxRecDepth 10000
set_option linter.unusedSimpArgs false
set_option linter.unusedVariables false

/-! ### Price -/
theorem div_end {f : Fares} {l : List Ride} {i : Nat} (h : Div f l i []) : i = l.length := h

def fareV (r : Int × List Ticket × Int) (c : Cap) : V := .tuple [.int .i64 r.1, .slice (r.2.1.map Ticket.row) c, .int .i64 r.2.2]

theorem fare_Price_ok (f : Fares) (l : List Ride) (c : Cap) (hf : f.wf) (hl : ∀ r ∈ l, r.wf) :
    PCalls PR i_fare_Price [.agg f.row, .slice (l.map Ride.row) c] (fun v => ∃ d, v = fareV (fareRes f l) d) := by
  have hm : maxLen = 9223372036854775807 := by rfl
  refine acalls_pop fn_fare_Price_ok (by simp [fn_fare_Price]) ?_
  simp -implicitDefEqProofs (disch := omega) only [go_sem, Nat.reduceAdd, Nat.reduceMul, Nat.reduceSub, Nat.reduceBEq, Nat.reduceLeDiff, Nat.reduceLT, fn_fare_Price, e12_1, w12_1, e12_3, w12_3, e12_5, w12_5, c12_6, e12_8, w12_8, c12_9, e12_11, w12_11, e12_13, w12_13, c12_14, e12_16, w12_16, e12_18, w12_18, e12_20, w12_20, e12_22, w12_22, e12_24, w12_24, c12_25, e12_27, w12_27, c12_28, c12_29, c12_30, c12_31, c12_32, e12_34, w12_34, c12_35, c12_36, c12_37, c12_38, c12_39, c12_40, c12_41, Fares.row]
  first | refine callD (fare_valid_ok f l c hf) ?_ | refine callQD (fare_valid_ok f l c hf) ?_
  simp -implicitDefEqProofs (disch := omega) only [go_sem, Nat.reduceAdd, Nat.reduceMul, Nat.reduceSub, Nat.reduceBEq, Nat.reduceLeDiff, Nat.reduceLT, fn_fare_Price, e12_1, w12_1, e12_3, w12_3, e12_5, w12_5, c12_6, e12_8, w12_8, c12_9, e12_11, w12_11, e12_13, w12_13, c12_14, e12_16, w12_16, e12_18, w12_18, e12_20, w12_20, e12_22, w12_22, e12_24, w12_24, c12_25, e12_27, w12_27, c12_28, c12_29, c12_30, c12_31, c12_32, e12_34, w12_34, c12_35, c12_36, c12_37, c12_38, c12_39, c12_40, c12_41]
  refine ifD (fun h1 => ?_) (fun h1 => ?_)
  rotate_left
  · have e : fareRes f l = (0, [], validRes f l.length) := by rw [fareRes, if_pos h1]
    simp -implicitDefEqProofs (disch := omega) only [go_sem, Nat.reduceAdd, Nat.reduceMul, Nat.reduceSub, Nat.reduceBEq, Nat.reduceLeDiff, Nat.reduceLT, fn_fare_Price, e12_1, w12_1, e12_3, w12_3, e12_5, w12_5, c12_6, e12_8, w12_8, c12_9, e12_11, w12_11, e12_13, w12_13, c12_14, e12_16, w12_16, e12_18, w12_18, e12_20, w12_20, e12_22, w12_22, e12_24, w12_24, c12_25, e12_27, w12_27, c12_28, c12_29, c12_30, c12_31, c12_32, e12_34, w12_34, c12_35, c12_36, c12_37, c12_38, c12_39, c12_40, c12_41, e, fareV, Fares.row]
    exact ⟨.nil, rfl⟩
  obtain ⟨hc, hlen⟩ := validRes_zero.1 h1
  have hok := checkRes_ok hc
  simp -implicitDefEqProofs (disch := omega) only [go_sem, Nat.reduceAdd, Nat.reduceMul, Nat.reduceSub, Nat.reduceBEq, Nat.reduceLeDiff, Nat.reduceLT, fn_fare_Price, e12_1, w12_1, e12_3, w12_3, e12_5, w12_5, c12_6, e12_8, w12_8, c12_9, e12_11, w12_11, e12_13, w12_13, c12_14, e12_16, w12_16, e12_18, w12_18, e12_20, w12_20, e12_22, w12_22, e12_24, w12_24, c12_25, e12_27, w12_27, c12_28, c12_29, c12_30, c12_31, c12_32, e12_34, w12_34, c12_35, c12_36, c12_37, c12_38, c12_39, c12_40, c12_41, Fares.row]
  first | refine callD (fare_divide_ok f l c hf hok hl hlen) ?_ | refine callQD (fare_divide_ok f l c hf hok hl hlen) ?_
  simp -implicitDefEqProofs (disch := omega) only [go_sem, Nat.reduceAdd, Nat.reduceMul, Nat.reduceSub, Nat.reduceBEq, Nat.reduceLeDiff, Nat.reduceLT, fn_fare_Price, e12_1, w12_1, e12_3, w12_3, e12_5, w12_5, c12_6, e12_8, w12_8, c12_9, e12_11, w12_11, e12_13, w12_13, c12_14, e12_16, w12_16, e12_18, w12_18, e12_20, w12_20, e12_22, w12_22, e12_24, w12_24, c12_25, e12_27, w12_27, c12_28, c12_29, c12_30, c12_31, c12_32, e12_34, w12_34, c12_35, c12_36, c12_37, c12_38, c12_39, c12_40, c12_41, Fares.row, flat_zero, flat_len, flat_cell, flat_set, flat_00]
  refine ifB (fun h2 => ?_) (fun h2 => ?_)
  rotate_left
  · have e : fareRes f l = (0, [], 34) := by
      rw [fareRes_valid h1]
      cases hb : best f l 0 with
      | none => rfl
      | some d => simp [rOk, hb] at h2
    simp -implicitDefEqProofs (disch := omega) only [go_sem, Nat.reduceAdd, Nat.reduceMul, Nat.reduceSub, Nat.reduceBEq, Nat.reduceLeDiff, Nat.reduceLT, fn_fare_Price, e12_1, w12_1, e12_3, w12_3, e12_5, w12_5, c12_6, e12_8, w12_8, c12_9, e12_11, w12_11, e12_13, w12_13, c12_14, e12_16, w12_16, e12_18, w12_18, e12_20, w12_20, e12_22, w12_22, e12_24, w12_24, c12_25, e12_27, w12_27, c12_28, c12_29, c12_30, c12_31, c12_32, e12_34, w12_34, c12_35, c12_36, c12_37, c12_38, c12_39, c12_40, c12_41, e, fareV, Fares.row, flat_under]
    exact ⟨.nil, rfl⟩
  obtain ⟨d, hd⟩ : ∃ d, best f l 0 = some d := Option.isSome_iff_exists.1 h2
  have e : fareRes f l = (capped f (total d), d, 0) := by rw [fareRes_valid h1, hd]
  have hmild := div_mild hok d 0 (best_div (by omega) hd)
  simp -implicitDefEqProofs (disch := omega) only [go_sem, Nat.reduceAdd, Nat.reduceMul, Nat.reduceSub, Nat.reduceBEq, Nat.reduceLeDiff, Nat.reduceLT, fn_fare_Price, e12_1, w12_1, e12_3, w12_3, e12_5, w12_5, c12_6, e12_8, w12_8, c12_9, e12_11, w12_11, e12_13, w12_13, c12_14, e12_16, w12_16, e12_18, w12_18, e12_20, w12_20, e12_22, w12_22, e12_24, w12_24, c12_25, e12_27, w12_27, c12_28, c12_29, c12_30, c12_31, c12_32, e12_34, w12_34, c12_35, c12_36, c12_37, c12_38, c12_39, c12_40, c12_41, Fares.row]
  refine wpC_forL d (fun j vs M => ∃ (i ver : Nat), best f l i = some (d.drop j) ∧ i ≤ l.length ∧ vs = [.slice (l.map Ride.row) c, .ptr 0 0, .ptr 1 0, .mslice 2 ver 0 j, .int .i64 i] ∧
      M = [.box f.row, .box (flatT (best f l)), .arr 4 ((d.take j).map Ticket.row) ver 0]) ⟨0, 0, by simpa using hd, by omega, rfl, by simp [Fares.row]⟩ ?_ ?_
  rotate_left
  · rintro vs M ⟨i, ver, hb, hi, rfl, rfl⟩
    rw [List.drop_length] at hb
    have hi' : i = l.length := div_end (best_div hi hb)
    subst hi'
    simp -implicitDefEqProofs (disch := omega) only [go_sem, Nat.reduceAdd, Nat.reduceMul, Nat.reduceSub, Nat.reduceBEq, Nat.reduceLeDiff, Nat.reduceLT, fn_fare_Price, e12_1, w12_1, e12_3, w12_3, e12_5, w12_5, c12_6, e12_8, w12_8, c12_9, e12_11, w12_11, e12_13, w12_13, c12_14, e12_16, w12_16, e12_18, w12_18, e12_20, w12_20, e12_22, w12_22, e12_24, w12_24, c12_25, e12_27, w12_27, c12_28, c12_29, c12_30, c12_31, c12_32, e12_34, w12_34, c12_35, c12_36, c12_37, c12_38, c12_39, c12_40, c12_41, dec_irrefl, Fares.row, flat_01, flat_len]
    first | refine callD (fare_capped_ok f _) ?_ | refine callQD (fare_capped_ok f _) ?_
    simp -implicitDefEqProofs (disch := omega) only [go_sem, Nat.reduceAdd, Nat.reduceMul, Nat.reduceSub, Nat.reduceBEq, Nat.reduceLeDiff, Nat.reduceLT, fn_fare_Price, e12_1, w12_1, e12_3, w12_3, e12_5, w12_5, c12_6, e12_8, w12_8, c12_9, e12_11, w12_11, e12_13, w12_13, c12_14, e12_16, w12_16, e12_18, w12_18, e12_20, w12_20, e12_22, w12_22, e12_24, w12_24, c12_25, e12_27, w12_27, c12_28, c12_29, c12_30, c12_31, c12_32, e12_34, w12_34, c12_35, c12_36, c12_37, c12_38, c12_39, c12_40, c12_41, Fares.row, flat_under, List.take_length, hd]
    rw [e]
    exact ⟨.unk, rfl⟩
  rintro j t vs M ht hj hjd ⟨i, ver, hb, hi, rfl, rfl⟩
  rw [drop_cons ht] at hb
  obtain ⟨_, _, _, _, _, _, hin, _⟩ := div_cons (best_div hi hb)
  have hil : i < l.length := by omega
  obtain ⟨t', d', k, he, hf1, hf2, hk1, hk2, hk3⟩ := best_chain hil hb
  obtain ⟨rfl, rfl⟩ := List.cons.inj he
  have hT : rTick (best f l i) = t := by rw [hb]; rfl
  simp -implicitDefEqProofs (disch := omega) only [go_sem, Nat.reduceAdd, Nat.reduceMul, Nat.reduceSub, Nat.reduceBEq, Nat.reduceLeDiff, Nat.reduceLT, fn_fare_Price, e12_1, w12_1, e12_3, w12_3, e12_5, w12_5, c12_6, e12_8, w12_8, c12_9, e12_11, w12_11, e12_13, w12_13, c12_14, e12_16, w12_16, e12_18, w12_18, e12_20, w12_20, e12_22, w12_22, e12_24, w12_24, c12_25, e12_27, w12_27, c12_28, c12_29, c12_30, c12_31, c12_32, e12_34, w12_34, c12_35, c12_36, c12_37, c12_38, c12_39, c12_40, c12_41, Fares.row]
  refine ifD (fun h3 => ?_) (fun h3 => ?_)
  rotate_left
  · omega
  have hlj : (d.take j).length = j := by simp; omega
  simp -implicitDefEqProofs (disch := omega) only [go_sem, Nat.reduceAdd, Nat.reduceMul, Nat.reduceSub, Nat.reduceBEq, Nat.reduceLeDiff, Nat.reduceLT, fn_fare_Price, e12_1, w12_1, e12_3, w12_3, e12_5, w12_5, c12_6, e12_8, w12_8, c12_9, e12_11, w12_11, e12_13, w12_13, c12_14, e12_16, w12_16, e12_18, w12_18, e12_20, w12_20, e12_22, w12_22, e12_24, w12_24, c12_25, e12_27, w12_27, c12_28, c12_29, c12_30, c12_31, c12_32, e12_34, w12_34, c12_35, c12_36, c12_37, c12_38, c12_39, c12_40, c12_41, Fares.row, flat_take4, flat_5, flat_len, hT, hf2, Ticket.row, hlj]
  refine next_stay hj ⟨k + 1, ver + 1, hk3, by omega, ?_, ?_⟩
  · simp only [vals, sget]; rfl
  · rw [List.take_add_one, ht, List.map_append]
    simp only [Fares.row, Option.toList_some, List.map_cons, List.map_nil, Ticket.row, hf2]

theorem ver_ok {f : Fares} {l : List Ride} {ts : List Ticket} (h : (verRes f l ts).2 = 0) : validRes f l.length = 0 ∧ Div f l 0 ts ∧ (verRes f l ts).1 = capped f (total ts) := by
  unfold verRes at h ⊢
  split at h
  · rename_i h1; exact absurd h h1
  · rename_i h1
    simp only [ne_eq, Decidable.not_not] at h1
    have := verGo_div (f := f) (l := l) ts 0 0 (verGo f l ts 0 0).1 (Prod.ext rfl h)
    rw [if_neg (by simp [h1])]
    exact ⟨h1, this.1, by rw [this.2, Int.zero_add]⟩

theorem ver_best {f : Fares} {l : List Ride} {d : List Ticket} (h : validRes f l.length = 0) (hd : best f l 0 = some d) : verRes f l d = (capped f (total d), 0) := by
  have := div_verGo d 0 0 (best_div (by omega) hd)
  rw [verRes, if_neg (by simp [h])]
  rw [Int.zero_add] at this
  exact this

theorem div_small {f : Fares} {l : List Ride} (hok : f.Ok) : ∀ (d : List Ticket) (i : Nat), Div f l i d → Small d
  | [], _, _ => fun t ht => by simp at ht
  | t :: d, i, h => by
    obtain ⟨p, k, q, rfl, a, b, c, e, h'⟩ := div_cons h
    intro t' ht'
    rcases List.mem_cons.1 ht' with h1 | h1
    · subst h1
      exact ticket_range (hok.prods q (List.mem_of_getElem? a)).1 hok.discount.1
    · exact div_small hok d _ h' t' h1

theorem all_of_small {d : List Ticket} (h : Small d) : d.all (fun t => within t.price 0 1000000) = true :=
  List.all_eq_true.2 fun t ht => within_iff.2 (h t ht)

theorem tot_best {f : Fares} {l : List Ride} {d : List Ticket} (h : validRes f l.length = 0) (hd : best f l 0 = some d) : totalRes f d = (capped f (total d), true) := by
  obtain ⟨hc, hlen⟩ := validRes_zero.1 h
  have hok := checkRes_ok hc
  have hD := best_div (by omega) hd
  have := div_mild hok d 0 hD
  exact totalRes_yes hc (by omega) (all_of_small (div_small hok d 0 hD))

theorem FareMinimal_law (f : Fares) (l : List Ride) (c : Cap) (ts : List Ticket) (d : Cap) (hf : f.wf) (hl : ∀ r ∈ l, r.wf) :
    PCalls PR i_transitlaw35_FareMinimal [.agg f.row, .slice (l.map Ride.row) c, .slice (ts.map Ticket.row) d] (fun v => v = .bool true) := by
  refine acalls_pop fn_transitlaw35_FareMinimal_ok (by simp [fn_transitlaw35_FareMinimal]) ?_
  simp -implicitDefEqProofs (disch := omega) only [go_sem, Nat.reduceAdd, Nat.reduceMul, Nat.reduceSub, Nat.reduceBEq, Nat.reduceLeDiff, Nat.reduceLT, fn_transitlaw35_FareMinimal, e9_1, w9_1, e9_3, w9_3, c9_4, e9_6, w9_6, e9_8, w9_8, e9_10, w9_10, e9_12, w9_12, c9_13, e9_15, w9_15, e9_17, w9_17, e9_19, w9_19, e9_21, w9_21, c9_22, c9_23, c9_24, c9_25, c9_26, c9_27, c9_28, c9_29, Fares.row]
  first | refine callD (small_ok f l c hf) ?_ | refine callQD (small_ok f l c hf) ?_
  simp -implicitDefEqProofs (disch := omega) only [go_sem, Nat.reduceAdd, Nat.reduceMul, Nat.reduceSub, Nat.reduceBEq, Nat.reduceLeDiff, Nat.reduceLT, fn_transitlaw35_FareMinimal, e9_1, w9_1, e9_3, w9_3, c9_4, e9_6, w9_6, e9_8, w9_8, e9_10, w9_10, e9_12, w9_12, c9_13, e9_15, w9_15, e9_17, w9_17, e9_19, w9_19, e9_21, w9_21, c9_22, c9_23, c9_24, c9_25, c9_26, c9_27, c9_28, c9_29]
  refine ifB (fun h1 => ?_) (fun h1 => ?_)
  rotate_left
  · simp -implicitDefEqProofs (disch := omega) only [go_sem, Nat.reduceAdd, Nat.reduceMul, Nat.reduceSub, Nat.reduceBEq, Nat.reduceLeDiff, Nat.reduceLT, fn_transitlaw35_FareMinimal, e9_1, w9_1, e9_3, w9_3, c9_4, e9_6, w9_6, e9_8, w9_8, e9_10, w9_10, e9_12, w9_12, c9_13, e9_15, w9_15, e9_17, w9_17, e9_19, w9_19, e9_21, w9_21, c9_22, c9_23, c9_24, c9_25, c9_26, c9_27, c9_28, c9_29]
    first | refine callD (example35_ok) ?_ | refine callQD (example35_ok) ?_
    simp -implicitDefEqProofs (disch := omega) only [go_sem, Nat.reduceAdd, Nat.reduceMul, Nat.reduceSub, Nat.reduceBEq, Nat.reduceLeDiff, Nat.reduceLT, fn_transitlaw35_FareMinimal, e9_1, w9_1, e9_3, w9_3, c9_4, e9_6, w9_6, e9_8, w9_8, e9_10, w9_10, e9_12, w9_12, c9_13, e9_15, w9_15, e9_17, w9_17, e9_19, w9_19, e9_21, w9_21, c9_22, c9_23, c9_24, c9_25, c9_26, c9_27, c9_28, c9_29]
  simp -implicitDefEqProofs (disch := omega) only [go_sem, Nat.reduceAdd, Nat.reduceMul, Nat.reduceSub, Nat.reduceBEq, Nat.reduceLeDiff, Nat.reduceLT, fn_transitlaw35_FareMinimal, e9_1, w9_1, e9_3, w9_3, c9_4, e9_6, w9_6, e9_8, w9_8, e9_10, w9_10, e9_12, w9_12, c9_13, e9_15, w9_15, e9_17, w9_17, e9_19, w9_19, e9_21, w9_21, c9_22, c9_23, c9_24, c9_25, c9_26, c9_27, c9_28, c9_29]
  refine ifD (fun h2 => ?_) (fun h2 => ?_)
  · simp -implicitDefEqProofs (disch := omega) only [go_sem, Nat.reduceAdd, Nat.reduceMul, Nat.reduceSub, Nat.reduceBEq, Nat.reduceLeDiff, Nat.reduceLT, fn_transitlaw35_FareMinimal, e9_1, w9_1, e9_3, w9_3, c9_4, e9_6, w9_6, e9_8, w9_8, e9_10, w9_10, e9_12, w9_12, c9_13, e9_15, w9_15, e9_17, w9_17, e9_19, w9_19, e9_21, w9_21, c9_22, c9_23, c9_24, c9_25, c9_26, c9_27, c9_28, c9_29]
    first | refine callD (example35_ok) ?_ | refine callQD (example35_ok) ?_
    simp -implicitDefEqProofs (disch := omega) only [go_sem, Nat.reduceAdd, Nat.reduceMul, Nat.reduceSub, Nat.reduceBEq, Nat.reduceLeDiff, Nat.reduceLT, fn_transitlaw35_FareMinimal, e9_1, w9_1, e9_3, w9_3, c9_4, e9_6, w9_6, e9_8, w9_8, e9_10, w9_10, e9_12, w9_12, c9_13, e9_15, w9_15, e9_17, w9_17, e9_19, w9_19, e9_21, w9_21, c9_22, c9_23, c9_24, c9_25, c9_26, c9_27, c9_28, c9_29]
  simp -implicitDefEqProofs (disch := omega) only [go_sem, Nat.reduceAdd, Nat.reduceMul, Nat.reduceSub, Nat.reduceBEq, Nat.reduceLeDiff, Nat.reduceLT, fn_transitlaw35_FareMinimal, e9_1, w9_1, e9_3, w9_3, c9_4, e9_6, w9_6, e9_8, w9_8, e9_10, w9_10, e9_12, w9_12, c9_13, e9_15, w9_15, e9_17, w9_17, e9_19, w9_19, e9_21, w9_21, c9_22, c9_23, c9_24, c9_25, c9_26, c9_27, c9_28, c9_29, Fares.row]
  refine callP (fare_Price_ok f l c hf hl) ?_
  rintro v ⟨e, rfl⟩
  simp -implicitDefEqProofs (disch := omega) only [go_sem, Nat.reduceAdd, Nat.reduceMul, Nat.reduceSub, Nat.reduceBEq, Nat.reduceLeDiff, Nat.reduceLT, fn_transitlaw35_FareMinimal, e9_1, w9_1, e9_3, w9_3, c9_4, e9_6, w9_6, e9_8, w9_8, e9_10, w9_10, e9_12, w9_12, c9_13, e9_15, w9_15, e9_17, w9_17, e9_19, w9_19, e9_21, w9_21, c9_22, c9_23, c9_24, c9_25, c9_26, c9_27, c9_28, c9_29, fareV, Fares.row]
  first | refine callD (fare_Verify_ok f l c ts d hf hl) ?_ | refine callQD (fare_Verify_ok f l c ts d hf hl) ?_
  simp -implicitDefEqProofs (disch := omega) only [go_sem, Nat.reduceAdd, Nat.reduceMul, Nat.reduceSub, Nat.reduceBEq, Nat.reduceLeDiff, Nat.reduceLT, fn_transitlaw35_FareMinimal, e9_1, w9_1, e9_3, w9_3, c9_4, e9_6, w9_6, e9_8, w9_8, e9_10, w9_10, e9_12, w9_12, c9_13, e9_15, w9_15, e9_17, w9_17, e9_19, w9_19, e9_21, w9_21, c9_22, c9_23, c9_24, c9_25, c9_26, c9_27, c9_28, c9_29, pairV, Fares.row]
  refine ifD (fun h3 => ?_) (fun h3 => ?_)
  · obtain ⟨hv, u, hu, hr⟩ := fareRes_ok h3
    simp -implicitDefEqProofs (disch := omega) only [go_sem, Nat.reduceAdd, Nat.reduceMul, Nat.reduceSub, Nat.reduceBEq, Nat.reduceLeDiff, Nat.reduceLT, fn_transitlaw35_FareMinimal, e9_1, w9_1, e9_3, w9_3, c9_4, e9_6, w9_6, e9_8, w9_8, e9_10, w9_10, e9_12, w9_12, c9_13, e9_15, w9_15, e9_17, w9_17, e9_19, w9_19, e9_21, w9_21, c9_22, c9_23, c9_24, c9_25, c9_26, c9_27, c9_28, c9_29, hr, Fares.row]
    first | refine callD (fare_Verify_ok f l c u e hf hl) ?_ | refine callQD (fare_Verify_ok f l c u e hf hl) ?_
    simp -implicitDefEqProofs (disch := omega) only [go_sem, Nat.reduceAdd, Nat.reduceMul, Nat.reduceSub, Nat.reduceBEq, Nat.reduceLeDiff, Nat.reduceLT, fn_transitlaw35_FareMinimal, e9_1, w9_1, e9_3, w9_3, c9_4, e9_6, w9_6, e9_8, w9_8, e9_10, w9_10, e9_12, w9_12, c9_13, e9_15, w9_15, e9_17, w9_17, e9_19, w9_19, e9_21, w9_21, c9_22, c9_23, c9_24, c9_25, c9_26, c9_27, c9_28, c9_29, ver_best hv hu, pairV, Fares.row]
    first | refine callD (fare_Total_ok f u e hf) ?_ | refine callQD (fare_Total_ok f u e hf) ?_
    simp -implicitDefEqProofs (disch := omega) only [go_sem, Nat.reduceAdd, Nat.reduceMul, Nat.reduceSub, Nat.reduceBEq, Nat.reduceLeDiff, Nat.reduceLT, fn_transitlaw35_FareMinimal, e9_1, w9_1, e9_3, w9_3, c9_4, e9_6, w9_6, e9_8, w9_8, e9_10, w9_10, e9_12, w9_12, c9_13, e9_15, w9_15, e9_17, w9_17, e9_19, w9_19, e9_21, w9_21, c9_22, c9_23, c9_24, c9_25, c9_26, c9_27, c9_28, c9_29, tot_best hv hu, prV, Fares.row]
    refine ifD (fun h4 => ?_) (fun h4 => ?_)
    · obtain ⟨_, hD, hm⟩ := ver_ok h4
      obtain ⟨d', e1, e2⟩ := best_min ts 0 hD
      rw [hu] at e1
      simp only [Option.some.injEq] at e1
      subst e1
      have hle : capped f (total u) ≤ (verRes f l ts).1 := by rw [hm]; exact capped_mono e2
      simp -implicitDefEqProofs (disch := omega) only [go_sem, Nat.reduceAdd, Nat.reduceMul, Nat.reduceSub, Nat.reduceBEq, Nat.reduceLeDiff, Nat.reduceLT, fn_transitlaw35_FareMinimal, e9_1, w9_1, e9_3, w9_3, c9_4, e9_6, w9_6, e9_8, w9_8, e9_10, w9_10, e9_12, w9_12, c9_13, e9_15, w9_15, e9_17, w9_17, e9_19, w9_19, e9_21, w9_21, c9_22, c9_23, c9_24, c9_25, c9_26, c9_27, c9_28, c9_29]
      refine ifD (fun h5 => ?_) (fun h5 => ?_)
      · first | refine callD (example35_ok) ?_ | refine callQD (example35_ok) ?_
        simp -implicitDefEqProofs (disch := omega) only [go_sem, Nat.reduceAdd, Nat.reduceMul, Nat.reduceSub, Nat.reduceBEq, Nat.reduceLeDiff, Nat.reduceLT, fn_transitlaw35_FareMinimal, e9_1, w9_1, e9_3, w9_3, c9_4, e9_6, w9_6, e9_8, w9_8, e9_10, w9_10, e9_12, w9_12, c9_13, e9_15, w9_15, e9_17, w9_17, e9_19, w9_19, e9_21, w9_21, c9_22, c9_23, c9_24, c9_25, c9_26, c9_27, c9_28, c9_29]
      · omega
    · first | refine callD (example35_ok) ?_ | refine callQD (example35_ok) ?_
      simp -implicitDefEqProofs (disch := omega) only [go_sem, Nat.reduceAdd, Nat.reduceMul, Nat.reduceSub, Nat.reduceBEq, Nat.reduceLeDiff, Nat.reduceLT, fn_transitlaw35_FareMinimal, e9_1, w9_1, e9_3, w9_3, c9_4, e9_6, w9_6, e9_8, w9_8, e9_10, w9_10, e9_12, w9_12, c9_13, e9_15, w9_15, e9_17, w9_17, e9_19, w9_19, e9_21, w9_21, c9_22, c9_23, c9_24, c9_25, c9_26, c9_27, c9_28, c9_29]
  · simp -implicitDefEqProofs (disch := omega) only [go_sem, Nat.reduceAdd, Nat.reduceMul, Nat.reduceSub, Nat.reduceBEq, Nat.reduceLeDiff, Nat.reduceLT, fn_transitlaw35_FareMinimal, e9_1, w9_1, e9_3, w9_3, c9_4, e9_6, w9_6, e9_8, w9_8, e9_10, w9_10, e9_12, w9_12, c9_13, e9_15, w9_15, e9_17, w9_17, e9_19, w9_19, e9_21, w9_21, c9_22, c9_23, c9_24, c9_25, c9_26, c9_27, c9_28, c9_29]
    refine ifD (fun h4 => ?_) (fun h4 => ?_)
    · obtain ⟨hv, hD, hm⟩ := ver_ok h4
      obtain ⟨d', e1, e2⟩ := best_min ts 0 hD
      exfalso
      apply h3
      rw [fareRes_valid hv, e1]
    · first | refine callD (example35_ok) ?_ | refine callQD (example35_ok) ?_
      simp -implicitDefEqProofs (disch := omega) only [go_sem, Nat.reduceAdd, Nat.reduceMul, Nat.reduceSub, Nat.reduceBEq, Nat.reduceLeDiff, Nat.reduceLT, fn_transitlaw35_FareMinimal, e9_1, w9_1, e9_3, w9_3, c9_4, e9_6, w9_6, e9_8, w9_8, e9_10, w9_10, e9_12, w9_12, c9_13, e9_15, w9_15, e9_17, w9_17, e9_19, w9_19, e9_21, w9_21, c9_22, c9_23, c9_24, c9_25, c9_26, c9_27, c9_28, c9_29]

end Go.Vm.C

