/- The price, and parts of divisions. -/
import Derived.Test.YtojpmklnmaomlaaT5

namespace Go.Vm.C
open Go.Vm
set_option maxHeartbeats 1000000
set_option maxRecDepth 10000
set_option linter.unusedSimpArgs false
set_option linter.unusedVariables false

/-! ### Price -/
theorem div_end {f : Fares} {l : List Ride} {i : Nat} (h : Div f l i []) : i = l.length := h

def fareV (r : Int × List Ticket × Int) (c : Cap) : V := .tuple [.int .i64 r.1, .slice (r.2.1.map Ticket.row) c, .int .i64 r.2.2]

theorem fare_Price_ok (f : Fares) (l : List Ride) (c : Cap) (hf : f.wf) (hl : ∀ r ∈ l, r.wf) :
    PCalls PR i_fare_Price [.agg f.row, .slice (l.map Ride.row) c] (fun v => ∃ d, v = fareV (fareRes f l) d) := by
  have hm : maxLen = 9223372036854775807 := by rfl
  refine acalls_pop fn_fare_Price_ok (by simp [fn_fare_Price]) ?_
  simp -implicitDefEqProofs (disch := omega) only [go_sem, Nat.reduceAdd, Nat.reduceMul, Nat.reduceSub, Nat.reduceBEq, Nat.reduceLeDiff, Nat.reduceLT, fn_fare_Price, e26_1, w26_1, e26_3, w26_3, e26_5, w26_5, c26_6, e26_8, w26_8, c26_9, e26_11, w26_11, e26_13, w26_13, c26_14, e26_16, w26_16, e26_18, w26_18, e26_20, w26_20, e26_22, w26_22, e26_24, w26_24, c26_25, e26_27, w26_27, c26_28, c26_29, c26_30, c26_31, c26_32, e26_34, w26_34, c26_35, c26_36, c26_37, c26_38, c26_39, c26_40, c26_41, Fares.row]
  first | refine callD (fare_valid_ok f l c hf) ?_ | refine callQD (fare_valid_ok f l c hf) ?_
  simp -implicitDefEqProofs (disch := omega) only [go_sem, Nat.reduceAdd, Nat.reduceMul, Nat.reduceSub, Nat.reduceBEq, Nat.reduceLeDiff, Nat.reduceLT, fn_fare_Price, e26_1, w26_1, e26_3, w26_3, e26_5, w26_5, c26_6, e26_8, w26_8, c26_9, e26_11, w26_11, e26_13, w26_13, c26_14, e26_16, w26_16, e26_18, w26_18, e26_20, w26_20, e26_22, w26_22, e26_24, w26_24, c26_25, e26_27, w26_27, c26_28, c26_29, c26_30, c26_31, c26_32, e26_34, w26_34, c26_35, c26_36, c26_37, c26_38, c26_39, c26_40, c26_41]
  refine ifD (fun h1 => ?_) (fun h1 => ?_)
  rotate_left
  · have e : fareRes f l = (0, [], validRes f l.length) := by rw [fareRes, if_pos h1]
    simp -implicitDefEqProofs (disch := omega) only [go_sem, Nat.reduceAdd, Nat.reduceMul, Nat.reduceSub, Nat.reduceBEq, Nat.reduceLeDiff, Nat.reduceLT, fn_fare_Price, e26_1, w26_1, e26_3, w26_3, e26_5, w26_5, c26_6, e26_8, w26_8, c26_9, e26_11, w26_11, e26_13, w26_13, c26_14, e26_16, w26_16, e26_18, w26_18, e26_20, w26_20, e26_22, w26_22, e26_24, w26_24, c26_25, e26_27, w26_27, c26_28, c26_29, c26_30, c26_31, c26_32, e26_34, w26_34, c26_35, c26_36, c26_37, c26_38, c26_39, c26_40, c26_41, e, fareV, Fares.row]
    exact ⟨.nil, rfl⟩
  obtain ⟨hc, hlen⟩ := validRes_zero.1 h1
  have hok := checkRes_ok hc
  simp -implicitDefEqProofs (disch := omega) only [go_sem, Nat.reduceAdd, Nat.reduceMul, Nat.reduceSub, Nat.reduceBEq, Nat.reduceLeDiff, Nat.reduceLT, fn_fare_Price, e26_1, w26_1, e26_3, w26_3, e26_5, w26_5, c26_6, e26_8, w26_8, c26_9, e26_11, w26_11, e26_13, w26_13, c26_14, e26_16, w26_16, e26_18, w26_18, e26_20, w26_20, e26_22, w26_22, e26_24, w26_24, c26_25, e26_27, w26_27, c26_28, c26_29, c26_30, c26_31, c26_32, e26_34, w26_34, c26_35, c26_36, c26_37, c26_38, c26_39, c26_40, c26_41, Fares.row]
  first | refine callD (fare_divide_ok f l c hf hok hl hlen) ?_ | refine callQD (fare_divide_ok f l c hf hok hl hlen) ?_
  simp -implicitDefEqProofs (disch := omega) only [go_sem, Nat.reduceAdd, Nat.reduceMul, Nat.reduceSub, Nat.reduceBEq, Nat.reduceLeDiff, Nat.reduceLT, fn_fare_Price, e26_1, w26_1, e26_3, w26_3, e26_5, w26_5, c26_6, e26_8, w26_8, c26_9, e26_11, w26_11, e26_13, w26_13, c26_14, e26_16, w26_16, e26_18, w26_18, e26_20, w26_20, e26_22, w26_22, e26_24, w26_24, c26_25, e26_27, w26_27, c26_28, c26_29, c26_30, c26_31, c26_32, e26_34, w26_34, c26_35, c26_36, c26_37, c26_38, c26_39, c26_40, c26_41, Fares.row, flat_zero, flat_len, flat_cell, flat_set, flat_00]
  refine ifB (fun h2 => ?_) (fun h2 => ?_)
  rotate_left
  · have e : fareRes f l = (0, [], 34) := by
      rw [fareRes_valid h1]
      cases hb : best f l 0 with
      | none => rfl
      | some d => simp [rOk, hb] at h2
    simp -implicitDefEqProofs (disch := omega) only [go_sem, Nat.reduceAdd, Nat.reduceMul, Nat.reduceSub, Nat.reduceBEq, Nat.reduceLeDiff, Nat.reduceLT, fn_fare_Price, e26_1, w26_1, e26_3, w26_3, e26_5, w26_5, c26_6, e26_8, w26_8, c26_9, e26_11, w26_11, e26_13, w26_13, c26_14, e26_16, w26_16, e26_18, w26_18, e26_20, w26_20, e26_22, w26_22, e26_24, w26_24, c26_25, e26_27, w26_27, c26_28, c26_29, c26_30, c26_31, c26_32, e26_34, w26_34, c26_35, c26_36, c26_37, c26_38, c26_39, c26_40, c26_41, e, fareV, Fares.row, flat_under]
    exact ⟨.nil, rfl⟩
  obtain ⟨d, hd⟩ : ∃ d, best f l 0 = some d := Option.isSome_iff_exists.1 h2
  have e : fareRes f l = (capped f (total d), d, 0) := by rw [fareRes_valid h1, hd]
  have hmild := div_mild hok d 0 (best_div (by omega) hd)
  simp -implicitDefEqProofs (disch := omega) only [go_sem, Nat.reduceAdd, Nat.reduceMul, Nat.reduceSub, Nat.reduceBEq, Nat.reduceLeDiff, Nat.reduceLT, fn_fare_Price, e26_1, w26_1, e26_3, w26_3, e26_5, w26_5, c26_6, e26_8, w26_8, c26_9, e26_11, w26_11, e26_13, w26_13, c26_14, e26_16, w26_16, e26_18, w26_18, e26_20, w26_20, e26_22, w26_22, e26_24, w26_24, c26_25, e26_27, w26_27, c26_28, c26_29, c26_30, c26_31, c26_32, e26_34, w26_34, c26_35, c26_36, c26_37, c26_38, c26_39, c26_40, c26_41, Fares.row]
  refine wpC_forL d (fun j vs M => ∃ (i ver : Nat), best f l i = some (d.drop j) ∧ i ≤ l.length ∧ vs = [.slice (l.map Ride.row) c, .ptr 0 0, .ptr 1 0, .mslice 2 ver 0 j, .int .i64 i] ∧
      M = [.box f.row, .box (flatT (best f l)), .arr 4 ((d.take j).map Ticket.row) ver 0]) ⟨0, 0, by simpa using hd, by omega, rfl, by simp [Fares.row]⟩ ?_ ?_
  rotate_left
  · rintro vs M ⟨i, ver, hb, hi, rfl, rfl⟩
    rw [List.drop_length] at hb
    have hi' : i = l.length := div_end (best_div hi hb)
    subst hi'
    simp -implicitDefEqProofs (disch := omega) only [go_sem, Nat.reduceAdd, Nat.reduceMul, Nat.reduceSub, Nat.reduceBEq, Nat.reduceLeDiff, Nat.reduceLT, fn_fare_Price, e26_1, w26_1, e26_3, w26_3, e26_5, w26_5, c26_6, e26_8, w26_8, c26_9, e26_11, w26_11, e26_13, w26_13, c26_14, e26_16, w26_16, e26_18, w26_18, e26_20, w26_20, e26_22, w26_22, e26_24, w26_24, c26_25, e26_27, w26_27, c26_28, c26_29, c26_30, c26_31, c26_32, e26_34, w26_34, c26_35, c26_36, c26_37, c26_38, c26_39, c26_40, c26_41, dec_irrefl, Fares.row, flat_01, flat_len]
    first | refine callD (fare_capped_ok f _) ?_ | refine callQD (fare_capped_ok f _) ?_
    simp -implicitDefEqProofs (disch := omega) only [go_sem, Nat.reduceAdd, Nat.reduceMul, Nat.reduceSub, Nat.reduceBEq, Nat.reduceLeDiff, Nat.reduceLT, fn_fare_Price, e26_1, w26_1, e26_3, w26_3, e26_5, w26_5, c26_6, e26_8, w26_8, c26_9, e26_11, w26_11, e26_13, w26_13, c26_14, e26_16, w26_16, e26_18, w26_18, e26_20, w26_20, e26_22, w26_22, e26_24, w26_24, c26_25, e26_27, w26_27, c26_28, c26_29, c26_30, c26_31, c26_32, e26_34, w26_34, c26_35, c26_36, c26_37, c26_38, c26_39, c26_40, c26_41, Fares.row, flat_under, List.take_length, hd]
    rw [e]
    exact ⟨.unk, rfl⟩
  rintro j t vs M ht hj hjd ⟨i, ver, hb, hi, rfl, rfl⟩
  rw [drop_cons ht] at hb
  obtain ⟨_, _, _, _, _, _, hin, _⟩ := div_cons (best_div hi hb)
  have hil : i < l.length := by omega
  obtain ⟨t', d', k, he, hf1, hf2, hk1, hk2, hk3⟩ := best_chain hil hb
  obtain ⟨rfl, rfl⟩ := List.cons.inj he
  have hT : rTick (best f l i) = t := by rw [hb]; rfl
  simp -implicitDefEqProofs (disch := omega) only [go_sem, Nat.reduceAdd, Nat.reduceMul, Nat.reduceSub, Nat.reduceBEq, Nat.reduceLeDiff, Nat.reduceLT, fn_fare_Price, e26_1, w26_1, e26_3, w26_3, e26_5, w26_5, c26_6, e26_8, w26_8, c26_9, e26_11, w26_11, e26_13, w26_13, c26_14, e26_16, w26_16, e26_18, w26_18, e26_20, w26_20, e26_22, w26_22, e26_24, w26_24, c26_25, e26_27, w26_27, c26_28, c26_29, c26_30, c26_31, c26_32, e26_34, w26_34, c26_35, c26_36, c26_37, c26_38, c26_39, c26_40, c26_41, Fares.row]
  refine ifD (fun h3 => ?_) (fun h3 => ?_)
  rotate_left
  · omega
  have hlj : (d.take j).length = j := by simp; omega
  simp -implicitDefEqProofs (disch := omega) only [go_sem, Nat.reduceAdd, Nat.reduceMul, Nat.reduceSub, Nat.reduceBEq, Nat.reduceLeDiff, Nat.reduceLT, fn_fare_Price, e26_1, w26_1, e26_3, w26_3, e26_5, w26_5, c26_6, e26_8, w26_8, c26_9, e26_11, w26_11, e26_13, w26_13, c26_14, e26_16, w26_16, e26_18, w26_18, e26_20, w26_20, e26_22, w26_22, e26_24, w26_24, c26_25, e26_27, w26_27, c26_28, c26_29, c26_30, c26_31, c26_32, e26_34, w26_34, c26_35, c26_36, c26_37, c26_38, c26_39, c26_40, c26_41, Fares.row, flat_take4, flat_5, flat_len, hT, hf2, Ticket.row, hlj]
  refine next_stay hj ⟨k + 1, ver + 1, hk3, by omega, ?_, ?_⟩
  · simp only [vals, sget]; rfl
  · rw [List.take_add_one, ht, List.map_append]
    simp only [Fares.row, Option.toList_some, List.map_cons, List.map_nil, Ticket.row, hf2]

theorem ver_ok {f : Fares} {l : List Ride} {ts : List Ticket} (h : (verRes f l ts).2 = 0) : validRes f l.length = 0 ∧ Div f l 0 ts ∧ (verRes f l ts).1 = capped f (total ts) := by
  unfold verRes at h ⊢
  split at h
  · rename_i h1; exact absurd h h1
  · rename_i h1
    simp only [ne_eq, Decidable.not_not] at h1
    have := verGo_div (f := f) (l := l) ts 0 0 (verGo f l ts 0 0).1 (Prod.ext rfl h)
    rw [if_neg (by simp [h1])]
    exact ⟨h1, this.1, by rw [this.2, Int.zero_add]⟩

theorem ver_best {f : Fares} {l : List Ride} {d : List Ticket} (h : validRes f l.length = 0) (hd : best f l 0 = some d) : verRes f l d = (capped f (total d), 0) := by
  have := div_verGo d 0 0 (best_div (by omega) hd)
  rw [verRes, if_neg (by simp [h])]
  rw [Int.zero_add] at this
  exact this

theorem div_small {f : Fares} {l : List Ride} (hok : f.Ok) : ∀ (d : List Ticket) (i : Nat), Div f l i d → Small d
  | [], _, _ => fun t ht => by simp at ht
  | t :: d, i, h => by
    obtain ⟨p, k, q, rfl, a, b, c, e, h'⟩ := div_cons h
    intro t' ht'
    rcases List.mem_cons.1 ht' with h1 | h1
    · subst h1
      exact ticket_range (hok.prods q (List.mem_of_getElem? a)).1 hok.discount.1
    · exact div_small hok d _ h' t' h1

theorem all_of_small {d : List Ticket} (h : Small d) : d.all (fun t => within t.price 0 1000000) = true :=
  List.all_eq_true.2 fun t ht => within_iff.2 (h t ht)

theorem tot_best {f : Fares} {l : List Ride} {d : List Ticket} (h : validRes f l.length = 0) (hd : best f l 0 = some d) : totalRes f d = (capped f (total d), true) := by
  obtain ⟨hc, hlen⟩ := validRes_zero.1 h
  have hok := checkRes_ok hc
  have hD := best_div (by omega) hd
  have := div_mild hok d 0 hD
  exact totalRes_yes hc (by omega) (all_of_small (div_small hok d 0 hD))

/-! ### Parts of the rides -/
theorem foldBit (g : Ride → Int) (n : Nat) : ∀ (l : List Ride) (a : Nat), (l.foldl (fun a r => a ||| bset (g r)) a).testBit n = (a.testBit n || l.any (fun r => (bset (g r)).testBit n))
  | [], a => by simp
  | r :: l, a => by rw [List.foldl_cons, foldBit g n l, Nat.testBit_or, List.any_cons, Bool.or_assoc]
theorem zones_bit (l : List Ride) (n : Nat) : (zonesOf l).testBit n = l.any (fun r => (bset r.zones).testBit n) := by rw [zonesOf, foldBit (·.zones)]; simp
theorem modes_bit (l : List Ride) (n : Nat) : (modesOf l).testBit n = l.any (fun r => (bset r.modes).testBit n) := by rw [modesOf, foldBit (·.modes)]; simp
theorem any_sub {A B : List Ride} (h : ∀ r ∈ B, r ∈ A) {p : Ride → Bool} (hb : B.any p = true) : A.any p = true := by
  obtain ⟨r, h1, h2⟩ := List.any_eq_true.1 hb
  exact List.any_eq_true.2 ⟨r, h r h1, h2⟩
theorem pop_mono {a b : Nat} (h : ∀ n, a.testBit n = true → b.testBit n = true) : pop 64 a ≤ pop 64 b := by
  rw [pop_eq, pop_eq]
  exact List.countP_mono_left fun n _ => h n
theorem minus_none {a b m : Nat} (h : ∀ n, a.testBit n = true → b.testBit n = true) (hb : minus b m = 0) : minus a m = 0 := by
  apply Nat.eq_of_testBit_eq
  intro n
  have := congrArg (fun x => x.testBit n) hb
  simp only [minus_bit, Nat.zero_testBit] at this ⊢
  cases ha : a.testBit n with
  | false => rfl
  | true => rw [h n ha] at this; exact this

theorem covers_iff {p : Product} {l : List Ride} : covers p l = true ↔ 0 < l.length ∧ (l.length : Int) ≤ p.rides ∧ spanOf l ≤ p.seconds ∧ (pop 64 (zonesOf l) : Int) ≤ p.zones ∧ minus (modesOf l) (bset p.modes) = 0 := by
  simp only [covers, Bool.and_eq_true, decide_eq_true_eq]

/-- Fewer rides are covered too. -/
theorem covers_sub {p : Product} {A B : List Ride} (h : covers p A = true) (h0 : 0 < B.length) (hl : B.length ≤ A.length) (hm : ∀ r ∈ B, r ∈ A) (hs : spanOf B ≤ p.seconds) : covers p B = true := by
  obtain ⟨_, h2, _, h4, h5⟩ := covers_iff.1 h
  have hz : pop 64 (zonesOf B) ≤ pop 64 (zonesOf A) := pop_mono fun n hn => by rw [zones_bit] at hn ⊢; exact any_sub hm hn
  refine covers_iff.2 ⟨h0, by omega, hs, by omega, minus_none (fun n hn => ?_) h5⟩
  rw [modes_bit] at hn ⊢; exact any_sub hm hn

theorem span_part {l : List Ride} {i k : Nat} {a b : Ride} (hik : i ≤ k) (hk : k < l.length) (ha : l[i]? = some a) (hb : l[k]? = some b) : spanOf (part l i k) = b.depart - a.depart := by
  have h1 : (part l i k)[0]? = some a := by rw [part_get (by omega), Nat.add_zero, ha]
  have h2 : (part l i k)[(part l i k).length - 1]? = some b := by
    rw [part_len hk, part_get (by omega), show i + (k + 1 - i - 1) = k from by omega, hb]
  simp only [spanOf, h1, h2]

theorem part_sub {l : List Ride} {i k i' k' : Nat} (h1 : i ≤ i') (h2 : k' ≤ k) (hk : k < l.length) : ∀ r ∈ part l i' k', r ∈ part l i k := by
  intro r hr
  obtain ⟨j, hj⟩ := List.getElem?_of_mem hr
  have hlt : j < (part l i' k').length := (List.getElem?_eq_some_iff.1 hj).1
  rw [part_len (by omega)] at hlt
  rw [part_get hlt] at hj
  refine List.mem_of_getElem? (i := i' + j - i) ?_
  rw [part_get (by omega), show i + (i' + j - i) = i' + j from by omega, hj]

/-- The rides depart in the order of time. -/
def Sorted (l : List Ride) : Prop := ∀ i a b, l[i]? = some a → l[i + 1]? = some b → a.depart ≤ b.depart
theorem Sorted.le {l : List Ride} (h : Sorted l) : ∀ (m i : Nat) (a b : Ride), l[i]? = some a → l[i + m]? = some b → a.depart ≤ b.depart
  | 0, i, a, b, ha, hb => by rw [Nat.add_zero, ha] at hb; simp at hb; subst hb; exact Int.le_refl _
  | m + 1, i, a, b, ha, hb => by
    have hlt : i + m + 1 < l.length := (List.getElem?_eq_some_iff.1 hb).1
    have hx : l[i + m]? = some l[i + m] := by simp
    have h1 := h.le m i a _ ha hx
    have h2 := h (i + m) _ b hx hb
    omega

theorem covers_cut {p : Product} {l : List Ride} {i k k' : Nat} (hs : Sorted l) (h : covers p (part l i k) = true) (h1 : i ≤ k') (h2 : k' ≤ k) (hk : k < l.length) : covers p (part l i k') = true := by
  obtain ⟨a, ha⟩ : ∃ a, l[i]? = some a := ⟨l[i], by simp⟩
  obtain ⟨b, hb⟩ : ∃ b, l[k]? = some b := ⟨l[k], by simp⟩
  obtain ⟨b', hb'⟩ : ∃ b, l[k']? = some b := ⟨l[k'], by simp⟩
  have e1 := span_part (by omega) hk ha hb
  have e2 := span_part h1 (by omega) ha hb'
  have e3 := hs.le (k - k') k' b' b hb' (by rw [show k' + (k - k') = k from by omega, hb])
  have e4 := (covers_iff.1 h).2.2.1
  refine covers_sub h (by rw [part_len (by omega)]; omega) (by rw [part_len (by omega), part_len hk]; omega) (part_sub (by omega) h2 hk) (by omega)

theorem covers_one {p : Product} {l : List Ride} {i k j : Nat} (hp : 0 ≤ p.seconds) (h : covers p (part l i k) = true) (h1 : i ≤ j) (h2 : j ≤ k) (hk : k < l.length) : covers p (part l j j) = true := by
  obtain ⟨a, ha⟩ : ∃ a, l[j]? = some a := ⟨l[j], by simp⟩
  have e1 := span_part (Nat.le_refl j) (by omega) ha ha
  refine covers_sub h (by rw [part_len (by omega)]; omega) (by rw [part_len (by omega), part_len hk]; omega) (part_sub h1 h2 hk) (by omega)

theorem part_take {l : List Ride} {i k m : Nat} (h : k < m) : part (l.take m) i k = part l i k := by
  unfold part
  rw [List.drop_take, List.take_take, Nat.min_eq_left (by omega)]
theorem ticket_take {f : Fares} {q : Product} {l : List Ride} {i m : Nat} (h : i < m) : ticket f q (l.take m) i = ticket f q l i := by
  unfold ticket
  rw [List.getElem?_take_of_lt h, List.getElem?_take_of_lt (by omega)]

/-- A division of a beginning, not dearer than a division of all. -/
theorem div_cut {f : Fares} {l : List Ride} (hok : f.Ok) (hs : Sorted l) {m : Nat} (hm : m ≤ l.length) : ∀ (d : List Ticket) (i : Nat), Div f l i d → i ≤ m → ∃ d', Div f (l.take m) i d' ∧ total d' ≤ total d
  | [], i, h, hi => by
    simp only [Div] at h
    exact ⟨[], by simp only [Div, List.length_take]; omega, Int.le_refl _⟩
  | t :: d, i, h, hi => by
    have hpos := (div_mild hok _ _ h).1
    obtain ⟨p, k, q, rfl, hq, h1, h2, h3, h4⟩ := div_cons h
    have htl : (l.take m).length = m := by simp; omega
    rcases Nat.lt_or_ge i m with hlt | hge
    · rcases Nat.lt_or_ge k m with h5 | h5
      · obtain ⟨d', e1, e2⟩ := div_cut hok hs hm d (k + 1) h4 (by omega)
        refine ⟨_, div_mk hq h1 (by omega) (by rw [part_take h5]; exact h3) e1, ?_⟩
        rw [total_cons, total_cons, ticket_take hlt]
        simp only
        omega
      · have hc : covers q (part (l.take m) i (m - 1)) = true := by
          rw [part_take (by omega)]
          exact covers_cut hs h3 (by omega) (by omega) h2
        have hpos' := (div_mild hok _ _ h4).1
        refine ⟨_, div_mk (d := []) hq (by omega) (by omega) hc (by simp only [Div]; omega), ?_⟩
        rw [total_cons, total_cons, ticket_take hlt]
        simp only [total, List.map_nil, List.sum_nil] at hpos' ⊢
        omega
    · exact ⟨[], by simp only [Div]; omega, hpos⟩

theorem ticket_zero {f : Fares} {q : Product} {l : List Ride} : ticket f q l 0 = q.price := by
  unfold ticket
  split
  · rw [if_neg (by omega)]
  · rfl

/-- The division of a beginning and one of the rest make a division of all. -/
theorem ticket_drop {f : Fares} {q : Product} {l : List Ride} {i m : Nat} (hd : 0 ≤ f.discount) (hq : 0 ≤ q.price) : ticket f q l (m + i) ≤ ticket f q (l.drop m) i := by
  have hle : ticket f q l (m + i) ≤ q.price := by
    unfold ticket
    split
    · split <;> omega
    · omega
  rcases Nat.eq_zero_or_pos i with h0 | h0
  · subst h0
    rw [ticket_zero]
    exact hle
  · unfold ticket
    rw [List.getElem?_drop, List.getElem?_drop]
    have e : m + (i - 1) = m + i - 1 := by omega
    rw [e]
    split
    · split
      · rename_i a b _ _ h
        rw [if_pos ⟨h0, h.2⟩]; exact Int.le_refl _
      · rename_i a b _ _ h
        rw [if_neg (fun x => h ⟨by omega, x.2⟩)]; exact Int.le_refl _
    · exact Int.le_refl _
theorem part_drop {l : List Ride} {m i k : Nat} : part (l.drop m) i k = part l (m + i) (m + k) := by
  unfold part
  rw [List.drop_drop, show m + k + 1 - (m + i) = k + 1 - i from by omega]

theorem div_rest {f : Fares} {l : List Ride} (hok : f.Ok) {m : Nat} : ∀ (d : List Ticket) (i : Nat), Div f (l.drop m) i d → m + i ≤ l.length → ∃ d', Div f l (m + i) d' ∧ total d' ≤ total d
  | [], i, h, hi => by
    simp only [Div, List.length_drop] at h
    exact ⟨[], by simp only [Div]; omega, Int.le_refl _⟩
  | t :: d, i, h, hi => by
    obtain ⟨p, k, q, rfl, hq, h1, h2, h3, h4⟩ := div_cons h
    have hdl : (l.drop m).length = l.length - m := by simp
    obtain ⟨d', e1, e2⟩ := div_rest hok d (k + 1) h4 (by omega)
    refine ⟨_, div_mk hq (show m + i ≤ m + k by omega) (by omega) (by rw [← part_drop]; exact h3) e1, ?_⟩
    have := ticket_drop (f := f) (q := q) (l := l) (i := i) (m := m) hok.discount.1 (hok.prods q (List.mem_of_getElem? hq)).1.1
    rw [total_cons, total_cons]
    simp only
    omega
theorem div_join {f : Fares} {l : List Ride} {m : Nat} {e : List Ticket} (he : Div f l m e) (hm : m ≤ l.length) : ∀ (d : List Ticket) (i : Nat), Div f (l.take m) i d → ∃ d', Div f l i d' ∧ total d' = total d + total e
  | [], i, h => by
    simp only [Div, List.length_take] at h
    have : i = m := by omega
    subst this
    exact ⟨e, he, by simp [total]⟩
  | t :: d, i, h => by
    obtain ⟨p, k, q, rfl, hq, h1, h2, h3, h4⟩ := div_cons h
    rw [List.length_take] at h2
    obtain ⟨d', e1, e2⟩ := div_join he hm d (k + 1) h4
    rw [part_take (by omega)] at h3
    refine ⟨_, div_mk hq h1 (by omega) h3 e1, ?_⟩
    rw [total_cons, total_cons, e2, ticket_take (by omega)]
    simp only
    omega

theorem div_all {f : Fares} {l : List Ride} (hok : f.Ok) : ∀ (d : List Ticket) (i : Nat), Div f l i d → ∀ j, i ≤ j → j < l.length → ∃ (p : Nat) (q : Product), f.products[p]? = some q ∧ covers q (part l j j) = true
  | [], i, h, j, h1, h2 => by simp only [Div] at h; omega
  | t :: d, i, h, j, h1, h2 => by
    obtain ⟨p, k, q, rfl, hq, h3, h4, h5, h6⟩ := div_cons h
    rcases Nat.lt_or_ge k j with h7 | h7
    · exact div_all hok d (k + 1) h6 j (by omega) h2
    · exact ⟨p, q, hq, covers_one (hok.prods q (List.mem_of_getElem? hq)).2.2.2.1.1 h5 h1 h7 h4⟩
theorem div_singles {f : Fares} {l : List Ride} (h : ∀ j, j < l.length → ∃ (p : Nat) (q : Product), f.products[p]? = some q ∧ covers q (part l j j) = true) : ∀ m i, i + m = l.length → ∃ d, Div f l i d
  | 0, i, hi => ⟨[], by simp only [Div]; omega⟩
  | m + 1, i, hi => by
    obtain ⟨d, hd⟩ := div_singles h m (i + 1) (by omega)
    obtain ⟨p, q, hq, hc⟩ := h i (by omega)
    exact ⟨_, div_mk hq (Nat.le_refl i) (by omega) hc hd⟩
theorem part_single {l : List Ride} {j : Nat} (h : j < l.length) : part ((l.drop j).take 1) 0 0 = part l j j := by
  have : j + 1 - j = 1 := by omega
  unfold part
  rw [this, List.drop_zero, List.take_take]
  rfl
/-- One ride alone can be paid where a product covers it. -/
theorem single_iff {f : Fares} {l : List Ride} {j : Nat} (h : j < l.length) : (∃ d, best f ((l.drop j).take 1) 0 = some d) ↔ ∃ (p : Nat) (q : Product), f.products[p]? = some q ∧ covers q (part l j j) = true := by
  have hl1 : ((l.drop j).take 1).length = 1 := by simp; omega
  constructor
  · rintro ⟨d, hd⟩
    have := best_div (by omega) hd
    cases d with
    | nil => simp only [Div] at this; omega
    | cons t d =>
      obtain ⟨p, k, q, rfl, hq, h3, h4, h5, h6⟩ := div_cons this
      have : k = 0 := by omega
      subst this
      rw [part_single h] at h5
      exact ⟨p, q, hq, h5⟩
  · rintro ⟨p, q, hq, hc⟩
    rw [← part_single h] at hc
    obtain ⟨d, h1, _⟩ := best_min _ 0 (div_mk (d := []) hq (Nat.le_refl 0) (by omega) hc (by simp only [Div]; omega))
    exact ⟨d, h1⟩

theorem slice_pre (l : List Ride) (k : Nat) (c : Cap) (M : Mem) (hk : k ≤ l.length) :
    sliceV 4 (.slice (l.map Ride.row) c) none (some (.int .i64 k)) none M = some (.slice ((l.take k).map Ride.row) (capS c k l.length l.length false)) := by
  rw [slice_h 4 _ c _ _ M (by omega) (by simp; omega) (headLen_map (f := Ride.row) (fun r => rfl) l), List.length_map, List.map_take]
  rfl
theorem slice_post (l : List Ride) (k : Nat) (c : Cap) (M : Mem) (hk : k ≤ l.length) :
    ∃ c', sliceV 4 (.slice (l.map Ride.row) c) (some (.int .i64 k)) none none M = some (.slice ((l.drop k).map Ride.row) c') := by
  rw [slice_l 4 _ c _ _ M (by omega) (by simp; omega) (headLen_map (f := Ride.row) (fun r => rfl) l), List.map_drop]
  exact ⟨_, rfl⟩

theorem fareRes_best {f : Fares} {l : List Ride} {d : List Ticket} (h : validRes f l.length = 0) (hd : best f l 0 = some d) : fareRes f l = (capped f (total d), d, 0) := by rw [fareRes_valid h, hd]

theorem grows {f : Fares} {l : List Ride} {k : Nat} (hk : k ≤ l.length) (hs : Sorted l) (h : (fareRes f l).2.2 = 0) : (fareRes f (l.take k)).2.2 = 0 ∧ (fareRes f (l.take k)).1 ≤ (fareRes f l).1 := by
  obtain ⟨hv, d, hd, hr⟩ := fareRes_ok h
  obtain ⟨hc, hlen⟩ := validRes_zero.1 hv
  have hok := checkRes_ok hc
  obtain ⟨d', h1, h2⟩ := div_cut hok hs hk d 0 (best_div (by omega) hd) (by omega)
  obtain ⟨d'', h3, h4⟩ := best_min d' 0 h1
  have hv' : validRes f (l.take k).length = 0 := validRes_zero.2 ⟨hc, by rw [List.length_take]; omega⟩
  rw [hr, fareRes_best hv' h3]
  exact ⟨rfl, capped_mono (by omega)⟩

theorem take_wf {l : List Ride} {k : Nat} (hl : ∀ r ∈ l, r.wf) : ∀ r ∈ l.take k, r.wf := fun r hr => hl r (List.mem_of_mem_take hr)
theorem drop_wf {l : List Ride} {k : Nat} (hl : ∀ r ∈ l, r.wf) : ∀ r ∈ l.drop k, r.wf := fun r hr => hl r (List.mem_of_mem_drop hr)

theorem capped_add {f : Fares} {n a b : Int} (h0 : 0 ≤ f.limit) (ha : 0 ≤ a) (hb : 0 ≤ b) (h : n ≤ a + b) : capped f n ≤ capped f a + capped f b := by
  unfold capped
  split <;> split <;> split <;> omega
theorem capped_range {f : Fares} {a : Int} (h0 : 0 ≤ f.limit) (ha : 0 ≤ a) : 0 ≤ capped f a ∧ capped f a ≤ a := by
  unfold capped
  split <;> omega

theorem joins {f : Fares} {l : List Ride} {k : Nat} (hk : k ≤ l.length) (hlen : l.length ≤ 8) (h1 : (fareRes f (l.take k)).2.2 = 0) (h2 : (fareRes f (l.drop k)).2.2 = 0) :
    (fareRes f l).2.2 = 0 ∧ 0 ≤ (fareRes f (l.take k)).1 ∧ (fareRes f (l.take k)).1 ≤ 1073741824 ∧ 0 ≤ (fareRes f (l.drop k)).1 ∧ (fareRes f (l.drop k)).1 ≤ 1073741824 ∧ (fareRes f l).1 ≤ (fareRes f (l.take k)).1 + (fareRes f (l.drop k)).1 := by
  obtain ⟨hv1, d1, hd1, hr1⟩ := fareRes_ok h1
  obtain ⟨hv2, d2, hd2, hr2⟩ := fareRes_ok h2
  obtain ⟨hc, _⟩ := validRes_zero.1 hv1
  have hok := checkRes_ok hc
  have hD1 := best_div (by omega) hd1
  have hD2 := best_div (by omega) hd2
  have m1 := div_mild hok _ _ hD1
  have m2 := div_mild hok _ _ hD2
  rw [List.length_take] at m1
  rw [List.length_drop] at m2
  obtain ⟨e, e1, e2⟩ := div_rest hok d2 0 hD2 (by omega)
  obtain ⟨d', e3, e4⟩ := div_join e1 (by omega) d1 0 hD1
  obtain ⟨d'', e5, e6⟩ := best_min d' 0 e3
  have hv : validRes f l.length = 0 := validRes_zero.2 ⟨hc, hlen⟩
  rw [hr1, hr2, fareRes_best hv e5]
  have c1 := capped_range (f := f) hok.limit.1 m1.1
  have c2 := capped_range (f := f) hok.limit.1 m2.1
  refine ⟨rfl, c1.1, ?_, c2.1, ?_, capped_add hok.limit.1 m1.1 m2.1 (by omega)⟩
  · simp only; omega
  · simp only; omega

theorem fareRes_bad {f : Fares} {l : List Ride} (h : (checkRes f).2 ≠ 0) : fareRes f l = (0, [], 20) := by
  have : validRes f l.length = 20 := by rw [validRes, if_pos h]
  rw [fareRes, if_pos (by simp [this]), this]
theorem fareRes_cases {f : Fares} {l : List Ride} (h : (checkRes f).2 = 0) (hlen : l.length ≤ 8) : ((fareRes f l).2.2 = 0 ∧ ∃ d, best f l 0 = some d) ∨ ((fareRes f l).2.2 = 34 ∧ ¬ ∃ d, best f l 0 = some d) := by
  rw [fareRes_valid (validRes_zero.2 ⟨h, hlen⟩)]
  cases hb : best f l 0 with
  | none => exact .inr ⟨rfl, by rintro ⟨d, h⟩; simp at h⟩
  | some d => exact .inl ⟨rfl, d, rfl⟩
theorem part_one {l : List Ride} {j : Nat} : part l j j = (l.drop j).take 1 := by
  have : j + 1 - j = 1 := by omega
  unfold part
  rw [this]

theorem exists_iff {f : Fares} {l : List Ride} (hc : (checkRes f).2 = 0) (hlen : l.length ≤ 8) : (fareRes f l).2.2 = 0 ↔ ∀ j, j < l.length → (fareRes f (part l j j)).2.2 = 0 := by
  have hok := checkRes_ok hc
  have key : ∀ j, j < l.length → ((fareRes f (part l j j)).2.2 = 0 ↔ ∃ (p : Nat) (q : Product), f.products[p]? = some q ∧ covers q (part l j j) = true) := by
    intro j hj
    rw [part_one, ← part_one, ← single_iff hj, ← part_one]
    rcases fareRes_cases (l := part l j j) hc (by rw [part_len (by omega)]; omega) with ⟨h1, h2⟩ | ⟨h1, h2⟩
    · exact ⟨fun _ => h2, fun _ => h1⟩
    · exact ⟨fun h => absurd h (by rw [h1]; omega), fun h => absurd h h2⟩
  constructor
  · intro h j hj
    obtain ⟨hv, d, hd, _⟩ := fareRes_ok h
    exact (key j hj).2 (div_all hok d 0 (best_div (by omega) hd) j (by omega) hj)
  · intro h
    obtain ⟨d, hd⟩ := div_singles (f := f) (l := l) (fun j hj => (key j hj).1 (h j hj)) l.length 0 (by omega)
    obtain ⟨d', h1, _⟩ := best_min d 0 hd
    rw [fareRes_best (validRes_zero.2 ⟨hc, hlen⟩) h1]

end Go.Vm.C

