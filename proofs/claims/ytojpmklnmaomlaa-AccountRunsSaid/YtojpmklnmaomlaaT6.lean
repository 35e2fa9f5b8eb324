/- The price, and parts of divisions. -/
import Derived.Test.YtojpmklnmaomlaaT5

namespace Go.Vm.C
open Go.Vm
set_option maxHeartbeats 1000000
set_option maxRecDepth 10000
set_option linter.unusedSimpArgs false
set_option linter.unusedVariables false

/-! ### Price -/
theorem div_end {f : Fares} {l : List Ride} {i : Nat} (h : Div f l i []) : i = l.length := h

def fareV (r : Int × List Ticket × Int) (c : Cap) : V := .tuple [.int .i64 r.1, .slice (r.2.1.map Ticket.row) c, .int .i64 r.2.2]

theorem fare_Price_ok (f : Fares) (l : List Ride) (c : Cap) (hf : f.wf) (hl : ∀ r ∈ l, r.wf) :
    PCalls PR i_fare_Price [.agg f.row, .slice (l.map Ride.row) c] (fun v => ∃ d, v = fareV (fareRes f l) d) := by
  have hm : maxLen = 9223372036854775807 := by rfl
  refine acalls_pop fn_fare_Price_ok (by simp [fn_fare_Price]) ?_
  simp -implicitDefEqProofs (disch := omega) only [go_sem, Nat.reduceAdd, Nat.reduceMul, Nat.reduceSub, Nat.reduceBEq, Nat.reduceLeDiff, Nat.reduceLT, fn_fare_Price, e26_1, w26_1, e26_3, w26_3, e26_5, w26_5, c26_6, e26_8, w26_8, c26_9, e26_11, w26_11, e26_13, w26_13, c26_14, e26_16, w26_16, e26_18, w26_18, e26_20, w26_20, e26_22, w26_22, e26_24, w26_24, c26_25, e26_27, w26_27, c26_28, c26_29, c26_30, c26_31, c26_32, e26_34, w26_34, c26_35, c26_36, c26_37, c26_38, c26_39, c26_40, c26_41, Fares.row]
  first | refine callD (fare_valid_ok f l c hf) ?_ | refine callQD (fare_valid_ok f l c hf) ?_
  simp -implicitDefEqProofs (disch := omega) only [go_sem, Nat.reduceAdd, Nat.reduceMul, Nat.reduceSub, Nat.reduceBEq, Nat.reduceLeDiff, Nat.reduceLT, fn_fare_Price, e26_1, w26_1, e26_3, w26_3, e26_5, w26_5, c26_6, e26_8, w26_8, c26_9, e26_11, w26_11, e26_13, w26_13, c26_14, e26_16, w26_16, e26_18, w26_18, e26_20, w26_20, e26_22, w26_22, e26_24, w26_24, c26_25, e26_27, w26_27, c26_28, c26_29, c26_30, c26_31, c26_32, e26_34, w26_34, c26_35, c26_36, c26_37, c26_38, c26_39, c26_40, c26_41]
  refine ifD (fun h1 => ?_) (fun h1 => ?_)
  rotate_left
  · have e : fareRes f l = (0, [], validRes f l.length) := by rw [fareRes, if_pos h1]
    simp -implicitDefEqProofs (disch := omega) only [go_sem, Nat.reduceAdd, Nat.reduceMul, Nat.reduceSub, Nat.reduceBEq, Nat.reduceLeDiff, Nat.reduceLT, fn_fare_Price, e26_1, w26_1, e26_3, w26_3, e26_5, w26_5, c26_6, e26_8, w26_8, c26_9, e26_11, w26_11, e26_13, w26_13, c26_14, e26_16, w26_16, e26_18, w26_18, e26_20, w26_20, e26_22, w26_22, e26_24, w26_24, c26_25, e26_27, w26_27, c26_28, c26_29, c26_30, c26_31, c26_32, e26_34, w26_34, c26_35, c26_36, c26_37, c26_38, c26_39, c26_40, c26_41, e, fareV, Fares.row]
    exact ⟨.nil, rfl⟩
  obtain ⟨hc, hlen⟩ := validRes_zero.1 h1
  have hok := checkRes_ok hc
  simp -implicitDefEqProofs (disch := omega) only [go_sem, Nat.reduceAdd, Nat.reduceMul, Nat.reduceSub, Nat.reduceBEq, Nat.reduceLeDiff, Nat.reduceLT, fn_fare_Price, e26_1, w26_1, e26_3, w26_3, e26_5, w26_5, c26_6, e26_8, w26_8, c26_9, e26_11, w26_11, e26_13, w26_13, c26_14, e26_16, w26_16, e26_18, w26_18, e26_20, w26_20, e26_22, w26_22, e26_24, w26_24, c26_25, e26_27, w26_27, c26_28, c26_29, c26_30, c26_31, c26_32, e26_34, w26_34, c26_35, c26_36, c26_37, c26_38, c26_39, c26_40, c26_41, Fares.row]
  first | refine callD (fare_divide_ok f l c hf hok hl hlen) ?_ | refine callQD (fare_divide_ok f l c hf hok hl hlen) ?_
  simp -implicitDefEqProofs (disch := omega) only [go_sem, Nat.reduceAdd, Nat.reduceMul, Nat.reduceSub, Nat.reduceBEq, Nat.reduceLeDiff, Nat.reduceLT, fn_fare_Price, e26_1, w26_1, e26_3, w26_3, e26_5, w26_5, c26_6, e26_8, w26_8, c26_9, e26_11, w26_11, e26_13, w26_13, c26_14, e26_16, w26_16, e26_18, w26_18, e26_20, w26_20, e26_22, w26_22, e26_24, w26_24, c26_25, e26_27, w26_27, c26_28, c26_29, c26_30, c26_31, c26_32, e26_34, w26_34, c26_35, c26_36, c26_37, c26_38, c26_39, c26_40, c26_41, Fares.row, flat_zero, flat_len, flat_cell, flat_set, flat_00]
  refine ifB (fun h2 => ?_) (fun h2 => ?_)
  rotate_left
  · have e : fareRes f l = (0, [], 34) := by
      rw [fareRes_valid h1]
      cases hb : best f l 0 with
      | none => rfl
      | some d => simp [rOk, hb] at h2
    simp -implicitDefEqProofs (disch := omega) only [go_sem, Nat.reduceAdd, Nat.reduceMul, Nat.reduceSub, Nat.reduceBEq, Nat.reduceLeDiff, Nat.reduceLT, fn_fare_Price, e26_1, w26_1, e26_3, w26_3, e26_5, w26_5, c26_6, e26_8, w26_8, c26_9, e26_11, w26_11, e26_13, w26_13, c26_14, e26_16, w26_16, e26_18, w26_18, e26_20, w26_20, e26_22, w26_22, e26_24, w26_24, c26_25, e26_27, w26_27, c26_28, c26_29, c26_30, c26_31, c26_32, e26_34, w26_34, c26_35, c26_36, c26_37, c26_38, c26_39, c26_40, c26_41, e, fareV, Fares.row, flat_under]
    exact ⟨.nil, rfl⟩
  obtain ⟨d, hd⟩ : ∃ d, best f l 0 = some d := Option.isSome_iff_exists.1 h2
  have e : fareRes f l = (capped f (total d), d, 0) := by rw [fareRes_valid h1, hd]
  have hmild := div_mild hok d 0 (best_div (by omega) hd)
  simp -implicitDefEqProofs (disch := omega) only [go_sem, Nat.reduceAdd, Nat.reduceMul, Nat.reduceSub, Nat.reduceBEq, Nat.reduceLeDiff, Nat.reduceLT, fn_fare_Price, e26_1, w26_1, e26_3, w26_3, e26_5, w26_5, c26_6, e26_8, w26_8, c26_9, e26_11, w26_11, e26_13, w26_13, c26_14, e26_16, w26_16, e26_18, w26_18, e26_20, w26_20, e26_22, w26_22, e26_24, w26_24, c26_25, e26_27, w26_27, c26_28, c26_29, c26_30, c26_31, c26_32, e26_34, w26_34, c26_35, c26_36, c26_37, c26_38, c26_39, c26_40, c26_41, Fares.row]
  refine wpC_forL d (fun j vs M => ∃ (i ver : Nat), best f l i = some (d.drop j) ∧ i ≤ l.length ∧ vs = [.slice (l.map Ride.row) c, .ptr 0 0, .ptr 1 0, .mslice 2 ver 0 j, .int .i64 i] ∧
      M = [.box f.row, .box (flatT (best f l)), .arr 4 ((d.take j).map Ticket.row) ver 0]) ⟨0, 0, by simpa using hd, by omega, rfl, by simp [Fares.row]⟩ ?_ ?_
  rotate_left
  · rintro vs M ⟨i, ver, hb, hi, rfl, rfl⟩
    rw [List.drop_length] at hb
    have hi' : i = l.length := div_end (best_div hi hb)
    subst hi'
    simp -implicitDefEqProofs (disch := omega) only [go_sem, Nat.reduceAdd, Nat.reduceMul, Nat.reduceSub, Nat.reduceBEq, Nat.reduceLeDiff, Nat.reduceLT, fn_fare_Price, e26_1, w26_1, e26_3, w26_3, e26_5, w26_5, c26_6, e26_8, w26_8, c26_9, e26_11, w26_11, e26_13, w26_13, c26_14, e26_16, w26_16, e26_18, w26_18, e26_20, w26_20, e26_22, w26_22, e26_24, w26_24, c26_25, e26_27, w26_27, c26_28, c26_29, c26_30, c26_31, c26_32, e26_34, w26_34, c26_35, c26_36, c26_37, c26_38, c26_39, c26_40, c26_41, dec_irrefl, Fares.row, flat_01, flat_len]
    first | refine callD (fare_capped_ok f _) ?_ | refine callQD (fare_capped_ok f _) ?_
    simp -implicitDefEqProofs (disch := omega) only [go_sem, Nat.reduceAdd, Nat.reduceMul, Nat.reduceSub, Nat.reduceBEq, Nat.reduceLeDiff, Nat.reduceLT, fn_fare_Price, e26_1, w26_1, e26_3, w26_3, e26_5, w26_5, c26_6, e26_8, w26_8, c26_9, e26_11, w26_11, e26_13, w26_13, c26_14, e26_16, w26_16, e26_18, w26_18, e26_20, w26_20, e26_22, w26_22, e26_24, w26_24, c26_25, e26_27, w26_27, c26_28, c26_29, c26_30, c26_31, c26_32, e26_34, w26_34, c26_35, c26_36, c26_37, c26_38, c26_39, c26_40, c26_41, Fares.row, flat_under, List.take_length, hd]
    rw [e]
    exact ⟨.unk, rfl⟩
  rintro j t vs M ht hj hjd ⟨i, ver, hb, hi, rfl, rfl⟩
  rw [drop_cons ht] at hb
  obtain ⟨_, _, _, _, _, _, hin, _⟩ := div_cons (best_div hi hb)
  have hil : i < l.length := by omega
  obtain ⟨t', d', k, he, hf1, hf2, hk1, hk2, hk3⟩ := best_chain hil hb
  obtain ⟨rfl, rfl⟩ := List.cons.inj he
  have hT : rTick (best f l i) = t := by rw [hb]; rfl
  simp -implicitDefEqProofs (disch := omega) only [go_sem, Nat.reduceAdd, Nat.reduceMul, Nat.reduceSub, Nat.reduceBEq, Nat.reduceLeDiff, Nat.reduceLT, fn_fare_Price, e26_1, w26_1, e26_3, w26_3, e26_5, w26_5, c26_6, e26_8, w26_8, c26_9, e26_11, w26_11, e26_13, w26_13, c26_14, e26_16, w26_16, e26_18, w26_18, e26_20, w26_20, e26_22, w26_22, e26_24, w26_24, c26_25, e26_27, w26_27, c26_28, c26_29, c26_30, c26_31, c26_32, e26_34, w26_34, c26_35, c26_36, c26_37, c26_38, c26_39, c26_40, c26_41, Fares.row]
  refine ifD (fun h3 => ?_) (fun h3 => ?_)
  rotate_left
  · omega
  have hlj : (d.take j).length = j := by simp; omega
  simp -implicitDefEqProofs (disch := omega) only [go_sem, Nat.reduceAdd, Nat.reduceMul, Nat.reduceSub, Nat.reduceBEq, Nat.reduceLeDiff, Nat.reduceLT, fn_fare_Price, e26_1, w26_1, e26_3, w26_3, e26_5, w26_5, c26_6, e26_8, w26_8, c26_9, e26_11, w26_11, e26_13, w26_13, c26_14, e26_16, w26_16, e26_18, w26_18, e26_20, w26_20, e26_22, w26_22, e26_24, w26_24, c26_25, e26_27, w26_27, c26_28, c26_29, c26_30, c26_31, c26_32, e26_34, w26_34, c26_35, c26_36, c26_37, c26_38, c26_39, c26_40, c26_41, Fares.row, flat_take4, flat_5, flat_len, hT, hf2, Ticket.row, hlj]
  refine next_stay hj ⟨k + 1, ver + 1, hk3, by omega, ?_, ?_⟩
  · simp only [vals, sget]; rfl
  · rw [List.take_add_one, ht, List.map_append]
    simp only [Fares.row, Option.toList_some, List.map_cons, List.map_nil, Ticket.row, hf2]

theorem div_small {f : Fares} {l : List Ride} (hok : f.Ok) : ∀ (d : List Ticket) (i : Nat), Div f l i d → Small d
  | [], _, _ => fun t ht => by simp at ht
  | t :: d, i, h => by
    obtain ⟨p, k, q, rfl, a, b, c, e, h'⟩ := div_cons h
    intro t' ht'
    rcases List.mem_cons.1 ht' with h1 | h1
    · subst h1
      exact ticket_range (hok.prods q (List.mem_of_getElem? a)).1 hok.discount.1
    · exact div_small hok d _ h' t' h1

/-! ### Parts of the rides -/
/-- The rides depart in the order of time. -/
def Sorted (l : List Ride) : Prop := ∀ i a b, l[i]? = some a → l[i + 1]? = some b → a.depart ≤ b.depart
theorem Sorted.le {l : List Ride} (h : Sorted l) : ∀ (m i : Nat) (a b : Ride), l[i]? = some a → l[i + m]? = some b → a.depart ≤ b.depart
  | 0, i, a, b, ha, hb => by rw [Nat.add_zero, ha] at hb; simp at hb; subst hb; exact Int.le_refl _
  | m + 1, i, a, b, ha, hb => by
    have hlt : i + m + 1 < l.length := (List.getElem?_eq_some_iff.1 hb).1
    have hx : l[i + m]? = some l[i + m] := by simp
    have h1 := h.le m i a _ ha hx
    have h2 := h (i + m) _ b hx hb
    omega

theorem capped_range {f : Fares} {a : Int} (h0 : 0 ≤ f.limit) (ha : 0 ≤ a) : 0 ≤ capped f a ∧ capped f a ≤ a := by
  unfold capped
  split <;> omega

end Go.Vm.C

