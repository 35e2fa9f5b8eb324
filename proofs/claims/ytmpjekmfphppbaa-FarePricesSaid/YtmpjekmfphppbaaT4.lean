/- Contracts: covering, the price of a ticket. -/
import Derived.Test.YtmpjekmfphppbaaT3

namespace Go.Vm.C
open Go.Vm
set_option maxHeartbeats 1000000
set_option maxRecDepth 10000
set_option linter.unusedSimpArgs false
set_option linter.unusedVariables false

/-! ### Sets of ints -/
theorem bset_bv (a : Int) : bset a = (BitVec.ofInt 64 a).toNat := by rw [bset, BitVec.toNat_ofInt]; rfl
theorem bset_wrap (n : Int) : bset (IntKind.i64.wrap n) = bset n := by rw [i64_wrap, bset, bset]; split <;> omega
theorem bset_nat (n : Nat) (h : n < 18446744073709551616) : bset (n : Int) = n := by rw [bset]; omega
theorem wrap_I64 (n : Int) : I64 (IntKind.i64.wrap n) := by rw [i64_wrap, I64]; split <;> omega
theorem bset_or (a b : Int) : bset (orK .i64 a b) = bset a ||| bset b := by
  show bset (IntKind.i64.wrap ((BitVec.ofInt 64 a ||| BitVec.ofInt 64 b).toNat : Int)) = _
  rw [bset_wrap, bset_nat _ (BitVec.isLt _), BitVec.toNat_or, ← bset_bv, ← bset_bv]
theorem bset_andNot (a b : Int) : bset (andNotK .i64 a b) = minus (bset a) (bset b) := by
  show bset (IntKind.i64.wrap ((BitVec.ofInt 64 a &&& ~~~ BitVec.ofInt 64 b).toNat : Int)) = _
  rw [bset_wrap, bset_nat _ (BitVec.isLt _), bset_bv, bset_bv]
  apply Nat.eq_of_testBit_eq
  intro j
  rw [minus_bit, BitVec.testBit_toNat, BitVec.testBit_toNat, BitVec.testBit_toNat, BitVec.getLsbD_and, BitVec.getLsbD_not]
  by_cases hj : j < 64
  · simp [hj]
  · rw [BitVec.getLsbD_of_ge _ _ (by omega)]; simp
theorem bset_zero {a : Int} (h : I64 a) : bset a = 0 ↔ a = 0 := by obtain ⟨h1, h2⟩ := h; rw [bset]; omega
theorem andNot_I64 (a b : Int) : I64 (andNotK .i64 a b) := wrap_I64 _

theorem shr_u64 (a i : Nat) (h : i < 64) : binV .shr .none (.int .u64 a) (.int .i64 i) = some (.int .u64 (a / 2 ^ i : Nat)) := by
  have h1 : decide ((i : Int) < 0) = false := decide_eq_false (by omega)
  have h2 : min i IntKind.u64.bits = i := Nat.min_eq_left (Nat.le_of_lt h)
  simp only [binV, shiftV, h1, cond_false, Int.toNat_natCast, h2]
  rw [show ((2 : Int) ^ i) = ((2 ^ i : Nat) : Int) by simp, Int.ofNat_fdiv]

theorem transitref35_bits_ok (z : Int) : PCalls PR i_transitref35_bits [.int .i64 z] (fun v => v = .int .i64 (pop 64 (bset z) : Nat)) := by
  refine acalls_pop fn_transitref35_bits_ok (by simp [fn_transitref35_bits]) ?_
  simp -implicitDefEqProofs (disch := omega) only [go_sem, Nat.reduceAdd, Nat.reduceMul, Nat.reduceSub, Nat.reduceBEq, Nat.reduceLeDiff, Nat.reduceLT, fn_transitref35_bits, e48_1, w48_1, e48_3, w48_3, e48_5, w48_5, e48_7, w48_7, e48_9, w48_9, e48_11, w48_11, c48_12, e48_14, w48_14, c48_15, c48_16, c48_17, c48_18, c48_19, e48_21, w48_21, c48_22, c48_23, c48_24, c48_25]
  refine wpC_for 64 (fun i vs M => vs = [.int .i64 z, .int .i64 ((elems (bset z) i).length : Nat), .int .i64 i] ∧ M = []) ⟨rfl, rfl⟩ ?_ ?_
  · rintro i vs M hi hd ⟨rfl, rfl⟩
    have hd : decide ((i : Int) < 64) = true := hd
    have hb := bset_lt z
    have hle := elems_le (bset z) i
    have hand : andK .u64 ((bset z / 2 ^ i : Nat) : Int) 1 = ((bset z / 2 ^ i % 2 : Nat) : Int) := by
      have : bset z / 2 ^ i ≤ bset z := Nat.div_le_self ..
      have := andK_nat (bset z / 2 ^ i) 1 (by omega) (by omega)
      rw [Nat.and_one_is_mod] at this
      exact this
    simp -implicitDefEqProofs (disch := omega) only [go_sem, Nat.reduceAdd, Nat.reduceMul, Nat.reduceSub, Nat.reduceBEq, Nat.reduceLeDiff, Nat.reduceLT, fn_transitref35_bits, e48_1, w48_1, e48_3, w48_3, e48_5, w48_5, e48_7, w48_7, e48_9, w48_9, e48_11, w48_11, c48_12, e48_14, w48_14, c48_15, c48_16, c48_17, c48_18, c48_19, e48_21, w48_21, c48_22, c48_23, c48_24, c48_25, hd, conv_bset, shr_u64 _ i hi, hand]
    have ht := Nat.testBit_eq_decide_div_mod_eq (x := bset z) (i := i)
    refine ifD (fun h => ?_) (fun h => ?_)
    · have h' : (bset z).testBit i = true := by rw [ht]; exact decide_eq_true (by omega)
      simp -implicitDefEqProofs (disch := omega) only [go_sem, Nat.reduceAdd, Nat.reduceMul, Nat.reduceSub, Nat.reduceBEq, Nat.reduceLeDiff, Nat.reduceLT, fn_transitref35_bits, e48_1, w48_1, e48_3, w48_3, e48_5, w48_5, e48_7, w48_7, e48_9, w48_9, e48_11, w48_11, c48_12, e48_14, w48_14, c48_15, c48_16, c48_17, c48_18, c48_19, e48_21, w48_21, c48_22, c48_23, c48_24, c48_25]
      refine next_stay hi ⟨?_, rfl⟩
      simp only [elems_succ, h', if_true, List.length_append] <;> rfl
    · have h' : (bset z).testBit i = false := by rw [ht]; exact decide_eq_false (by omega)
      simp -implicitDefEqProofs (disch := omega) only [go_sem, Nat.reduceAdd, Nat.reduceMul, Nat.reduceSub, Nat.reduceBEq, Nat.reduceLeDiff, Nat.reduceLT, fn_transitref35_bits, e48_1, w48_1, e48_3, w48_3, e48_5, w48_5, e48_7, w48_7, e48_9, w48_9, e48_11, w48_11, c48_12, e48_14, w48_14, c48_15, c48_16, c48_17, c48_18, c48_19, e48_21, w48_21, c48_22, c48_23, c48_24, c48_25]
      refine next_stay hi ⟨?_, rfl⟩
      simp only [elems_succ, h', Bool.false_eq_true, if_false, List.append_nil] <;> rfl
  · rintro vs M ⟨rfl, rfl⟩
    simp -implicitDefEqProofs (disch := omega) only [go_sem, Nat.reduceAdd, Nat.reduceMul, Nat.reduceSub, Nat.reduceBEq, Nat.reduceLeDiff, Nat.reduceLT, fn_transitref35_bits, e48_1, w48_1, e48_3, w48_3, e48_5, w48_5, e48_7, w48_7, e48_9, w48_9, e48_11, w48_11, c48_12, e48_14, w48_14, c48_15, c48_16, c48_17, c48_18, c48_19, e48_21, w48_21, c48_22, c48_23, c48_24, c48_25, d64, elems_len]

/-- The rides from i to k. -/
def part (l : List Ride) (i k : Nat) : List Ride := (l.drop i).take (k + 1 - i)
theorem part_len {l : List Ride} {i k : Nat} (h : k < l.length) : (part l i k).length = k + 1 - i := by simp [part]; omega
theorem part_get {l : List Ride} {i k j : Nat} (h : j < k + 1 - i) : (part l i k)[j]? = l[i + j]? := by rw [part, List.getElem?_take_of_lt h, List.getElem?_drop]
theorem part_mem {l : List Ride} {i k : Nat} {r : Ride} (h : r ∈ part l i k) : r ∈ l := List.mem_of_mem_drop (List.mem_of_mem_take h)
theorem part_map (l : List Ride) (i k : Nat) : ((l.map Ride.row).drop i).take (k + 1 - i) = (part l i k).map Ride.row := by rw [part, List.map_take, List.map_drop]

theorem transitref35_Covers_ok (p : Product) (l : List Ride) (c : Cap) (i k : Nat) (hp : p.wf) (h0 : 0 ≤ p.seconds) (hl : ∀ r ∈ l, r.wf) (hlen : l.length ≤ maxLen) (hik : i ≤ k) (hk : k < l.length) :
    PCalls PR i_transitref35_Covers [.agg p.row, .slice (l.map Ride.row) c, .int .i64 i, .int .i64 k] (fun v => v = .bool (covers p (part l i k))) := by
  have hm : maxLen = 9223372036854775807 := by rfl
  obtain ⟨_, _, hpr, hpz, hps, hpm⟩ := hp
  refine acalls_pop fn_transitref35_Covers_ok (by simp [fn_transitref35_Covers]) ?_
  have hpl := part_len (l := l) (i := i) hk
  obtain ⟨a, b, ha, hb⟩ := first_last (l := part l i k) (by omega)
  have ha' : l[i]? = some a := by rw [part_get (by omega)] at ha; exact ha
  have hb' : l[k]? = some b := by rw [part_get (by omega), hpl, show i + (k + 1 - i - 1) = k by omega] at hb; exact hb
  have hspan : spanOf (part l i k) = b.depart - a.depart := by simp only [spanOf, ha, hb]
  simp -implicitDefEqProofs (disch := omega) only [go_sem, Nat.reduceAdd, Nat.reduceMul, Nat.reduceSub, Nat.reduceBEq, Nat.reduceLeDiff, Nat.reduceLT, fn_transitref35_Covers, e35_1, w35_1, e35_3, w35_3, e35_5, w35_5, e35_7, w35_7, e35_9, w35_9, e35_11, w35_11, c35_12, c35_13, e35_15, w35_15, c35_16, c35_17, c35_18, c35_19, c35_20, e35_22, w35_22, c35_23, c35_24, c35_25, c35_26, Product.row]
  refine wpC_for (k + 1 - i) (fun j vs M => ∃ z m, bset z = zonesOf ((part l i k).take j) ∧ bset m = modesOf ((part l i k).take j) ∧ I64 m ∧ vs = [.slice (l.map Ride.row) c, .int .i64 i, .int .i64 k, .ptr 0 0, .int .i64 z, .int .i64 m, .int .i64 (i + j : Nat)] ∧ M = [.box p.row])
    ⟨0, 0, rfl, rfl, by constructor <;> omega, rfl, rfl⟩ ?_ ?_
  · rintro j vs M hj hd ⟨z, m, hz, hm2, hm3, rfl, rfl⟩
    obtain ⟨r, hr⟩ : ∃ r, l[i + j]? = some r := ⟨l[i + j]'(by omega), by simp⟩
    have hr' : (part l i k)[j]? = some r := by rw [part_get hj]; exact hr
    have hx : decide (((i + j : Nat) : Int) ≤ (k : Int)) = true := decide_eq_true (by omega)
    simp -implicitDefEqProofs (disch := omega) only [go_sem, Nat.reduceAdd, Nat.reduceMul, Nat.reduceSub, Nat.reduceBEq, Nat.reduceLeDiff, Nat.reduceLT, fn_transitref35_Covers, e35_1, w35_1, e35_3, w35_3, e35_5, w35_5, e35_7, w35_7, e35_9, w35_9, e35_11, w35_11, c35_12, c35_13, e35_15, w35_15, c35_16, c35_17, c35_18, c35_19, c35_20, e35_22, w35_22, c35_23, c35_24, c35_25, c35_26, hx, hr, Ride.row]
    refine next_stay hj ⟨_, _, ?_, ?_, ?_, rfl, rfl⟩
    · rw [bset_or, hz, zonesOf_snoc _ _ _ hr']
    · rw [bset_or, hm2, modesOf_snoc _ _ _ hr']
    · exact wrap_I64 _
  · rintro vs M ⟨z, m, hz, hm2, hm3, rfl, rfl⟩
    rw [List.take_of_length_le (by omega)] at hz hm2
    have hx : decide (((i + (k + 1 - i) : Nat) : Int) ≤ (k : Int)) = false := decide_eq_false (by omega)
    simp -implicitDefEqProofs (disch := omega) only [go_sem, Nat.reduceAdd, Nat.reduceMul, Nat.reduceSub, Nat.reduceBEq, Nat.reduceLeDiff, Nat.reduceLT, fn_transitref35_Covers, e35_1, w35_1, e35_3, w35_3, e35_5, w35_5, e35_7, w35_7, e35_9, w35_9, e35_11, w35_11, c35_12, c35_13, e35_15, w35_15, c35_16, c35_17, c35_18, c35_19, c35_20, e35_22, w35_22, c35_23, c35_24, c35_25, c35_26, hx, Product.row]
    have hlen' : ((part l i k).length : Int) = (k : Int) - i + 1 := by omega
    refine ifD (fun g1 => ?_) (fun g1 => ?_)
    rotate_left
    · simp -implicitDefEqProofs (disch := omega) only [go_sem, Nat.reduceAdd, Nat.reduceMul, Nat.reduceSub, Nat.reduceBEq, Nat.reduceLeDiff, Nat.reduceLT, fn_transitref35_Covers, e35_1, w35_1, e35_3, w35_3, e35_5, w35_5, e35_7, w35_7, e35_9, w35_9, e35_11, w35_11, c35_12, c35_13, e35_15, w35_15, c35_16, c35_17, c35_18, c35_19, c35_20, e35_22, w35_22, c35_23, c35_24, c35_25, c35_26, Product.row]
      have : ¬ ((part l i k).length : Int) ≤ p.rides := by omega
      simp [covers, this]
    simp -implicitDefEqProofs (disch := omega) only [go_sem, Nat.reduceAdd, Nat.reduceMul, Nat.reduceSub, Nat.reduceBEq, Nat.reduceLeDiff, Nat.reduceLT, fn_transitref35_Covers, e35_1, w35_1, e35_3, w35_3, e35_5, w35_5, e35_7, w35_7, e35_9, w35_9, e35_11, w35_11, c35_12, c35_13, e35_15, w35_15, c35_16, c35_17, c35_18, c35_19, c35_20, e35_22, w35_22, c35_23, c35_24, c35_25, c35_26, Product.row]
    first | refine callD (transitref35_bits_ok z) ?_ | refine callQD (transitref35_bits_ok z) ?_
    simp -implicitDefEqProofs (disch := omega) only [go_sem, Nat.reduceAdd, Nat.reduceMul, Nat.reduceSub, Nat.reduceBEq, Nat.reduceLeDiff, Nat.reduceLT, fn_transitref35_Covers, e35_1, w35_1, e35_3, w35_3, e35_5, w35_5, e35_7, w35_7, e35_9, w35_9, e35_11, w35_11, c35_12, c35_13, e35_15, w35_15, c35_16, c35_17, c35_18, c35_19, c35_20, e35_22, w35_22, c35_23, c35_24, c35_25, c35_26, Product.row]
    refine ifD (fun g2 => ?_) (fun g2 => ?_)
    rotate_left
    · simp -implicitDefEqProofs (disch := omega) only [go_sem, Nat.reduceAdd, Nat.reduceMul, Nat.reduceSub, Nat.reduceBEq, Nat.reduceLeDiff, Nat.reduceLT, fn_transitref35_Covers, e35_1, w35_1, e35_3, w35_3, e35_5, w35_5, e35_7, w35_7, e35_9, w35_9, e35_11, w35_11, c35_12, c35_13, e35_15, w35_15, c35_16, c35_17, c35_18, c35_19, c35_20, e35_22, w35_22, c35_23, c35_24, c35_25, c35_26, Product.row]
      rw [hz] at g2
      simp [covers, g2]
    simp -implicitDefEqProofs (disch := omega) only [go_sem, Nat.reduceAdd, Nat.reduceMul, Nat.reduceSub, Nat.reduceBEq, Nat.reduceLeDiff, Nat.reduceLT, fn_transitref35_Covers, e35_1, w35_1, e35_3, w35_3, e35_5, w35_5, e35_7, w35_7, e35_9, w35_9, e35_11, w35_11, c35_12, c35_13, e35_15, w35_15, c35_16, c35_17, c35_18, c35_19, c35_20, e35_22, w35_22, c35_23, c35_24, c35_25, c35_26, Product.row, ha', hb', Ride.row]
    first | refine callD (transitref35_within_ok _ _ _ (hl a (List.mem_of_getElem? ha')).1 (hl b (List.mem_of_getElem? hb')).1 hps h0) ?_ | refine callQD (transitref35_within_ok _ _ _ (hl a (List.mem_of_getElem? ha')).1 (hl b (List.mem_of_getElem? hb')).1 hps h0) ?_
    simp -implicitDefEqProofs (disch := omega) only [go_sem, Nat.reduceAdd, Nat.reduceMul, Nat.reduceSub, Nat.reduceBEq, Nat.reduceLeDiff, Nat.reduceLT, fn_transitref35_Covers, e35_1, w35_1, e35_3, w35_3, e35_5, w35_5, e35_7, w35_7, e35_9, w35_9, e35_11, w35_11, c35_12, c35_13, e35_15, w35_15, c35_16, c35_17, c35_18, c35_19, c35_20, e35_22, w35_22, c35_23, c35_24, c35_25, c35_26, Product.row]
    refine ifD (fun g3 => ?_) (fun g3 => ?_)
    rotate_left
    · simp -implicitDefEqProofs (disch := omega) only [go_sem, Nat.reduceAdd, Nat.reduceMul, Nat.reduceSub, Nat.reduceBEq, Nat.reduceLeDiff, Nat.reduceLT, fn_transitref35_Covers, e35_1, w35_1, e35_3, w35_3, e35_5, w35_5, e35_7, w35_7, e35_9, w35_9, e35_11, w35_11, c35_12, c35_13, e35_15, w35_15, c35_16, c35_17, c35_18, c35_19, c35_20, e35_22, w35_22, c35_23, c35_24, c35_25, c35_26, Product.row]
      rw [← hspan] at g3
      simp [covers, g3]
    simp -implicitDefEqProofs (disch := omega) only [go_sem, Nat.reduceAdd, Nat.reduceMul, Nat.reduceSub, Nat.reduceBEq, Nat.reduceLeDiff, Nat.reduceLT, fn_transitref35_Covers, e35_1, w35_1, e35_3, w35_3, e35_5, w35_5, e35_7, w35_7, e35_9, w35_9, e35_11, w35_11, c35_12, c35_13, e35_15, w35_15, c35_16, c35_17, c35_18, c35_19, c35_20, e35_22, w35_22, c35_23, c35_24, c35_25, c35_26, Product.row]
    rw [hz] at g2
    rw [← hspan] at g3
    have e1 : 0 < (part l i k).length := by omega
    have e2 : ((part l i k).length : Int) ≤ p.rides := by omega
    simp only [covers, e1, e2, g2, g3, decide_true, Bool.true_and]
    exact decide_eq_decide.2 (by rw [← hm2, ← bset_andNot, bset_zero (andNot_I64 _ _)])

/-! ### Tickets -/
/-- The price of a ticket whose first ride is i. -/
def ticket (f : Fares) (p : Product) (l : List Ride) (i : Nat) : Int :=
  match l[i - 1]?, l[i]? with
  | some a, some b => if 0 < i ∧ b.depart - a.arrive ≤ f.within then max 0 (p.price - f.discount) else p.price
  | _, _ => p.price

theorem ticket_range {f : Fares} {p : Product} {l : List Ride} {i : Nat} (h : 0 ≤ p.price ∧ p.price ≤ 1000000) (hd : 0 ≤ f.discount) : 0 ≤ ticket f p l i ∧ ticket f p l i ≤ 1000000 := by
  unfold ticket
  split
  · split <;> omega
  · omega

theorem fare_ticketPrice_ok (f : Fares) (p : Product) (l : List Ride) (c : Cap) (i : Nat) (hf : f.wf) (hok : f.Ok) (hp : 0 ≤ p.price ∧ p.price ≤ 1000000) (hl : ∀ r ∈ l, r.wf) (hi : i < l.length) (hlen : l.length ≤ maxLen) :
    PCalls PR i_fare_ticketPrice [.agg f.row, .agg p.row, .slice (l.map Ride.row) c, .int .i64 i] (fun v => v = .int .i64 (ticket f p l i)) := by
  have hm : maxLen = 9223372036854775807 := by rfl
  obtain ⟨d1, d2⟩ := hok.discount
  refine acalls_pop fn_fare_ticketPrice_ok (by simp [fn_fare_ticketPrice]) ?_
  obtain ⟨b, hb⟩ : ∃ b, l[i]? = some b := ⟨l[i], by simp⟩
  obtain ⟨a, ha⟩ : ∃ a, l[i - 1]? = some a := ⟨l[i - 1], by simp⟩
  have ht : ticket f p l i = if 0 < i ∧ b.depart - a.arrive ≤ f.within then max 0 (p.price - f.discount) else p.price := by simp only [ticket, ha, hb]
  simp -implicitDefEqProofs (disch := omega) only [go_sem, Nat.reduceAdd, Nat.reduceMul, Nat.reduceSub, Nat.reduceBEq, Nat.reduceLeDiff, Nat.reduceLT, fn_fare_ticketPrice, e32_1, w32_1, e32_3, w32_3, c32_4, e32_6, w32_6, e32_8, w32_8, c32_9, c32_10, c32_11, Fares.row, Product.row]
  refine ifD (fun h1 => ?_) (fun h1 => ?_)
  rotate_left
  · simp -implicitDefEqProofs (disch := omega) only [go_sem, Nat.reduceAdd, Nat.reduceMul, Nat.reduceSub, Nat.reduceBEq, Nat.reduceLeDiff, Nat.reduceLT, fn_fare_ticketPrice, e32_1, w32_1, e32_3, w32_3, c32_4, e32_6, w32_6, e32_8, w32_8, c32_9, c32_10, c32_11, Fares.row, Product.row, ht]
    rw [if_neg (fun e => by omega)]
  simp -implicitDefEqProofs (disch := omega) only [go_sem, Nat.reduceAdd, Nat.reduceMul, Nat.reduceSub, Nat.reduceBEq, Nat.reduceLeDiff, Nat.reduceLT, fn_fare_ticketPrice, e32_1, w32_1, e32_3, w32_3, c32_4, e32_6, w32_6, e32_8, w32_8, c32_9, c32_10, c32_11, Fares.row, Product.row, ha, hb, Ride.row]
  first | refine callD (fare_within_ok _ _ _ (hl a (List.mem_of_getElem? ha)).2.1 (hl b (List.mem_of_getElem? hb)).1 hf.2.2.2.1 hok.within.1) ?_ | refine callQD (fare_within_ok _ _ _ (hl a (List.mem_of_getElem? ha)).2.1 (hl b (List.mem_of_getElem? hb)).1 hf.2.2.2.1 hok.within.1) ?_
  simp -implicitDefEqProofs (disch := omega) only [go_sem, Nat.reduceAdd, Nat.reduceMul, Nat.reduceSub, Nat.reduceBEq, Nat.reduceLeDiff, Nat.reduceLT, fn_fare_ticketPrice, e32_1, w32_1, e32_3, w32_3, c32_4, e32_6, w32_6, e32_8, w32_8, c32_9, c32_10, c32_11]
  refine ifD (fun h2 => ?_) (fun h2 => ?_)
  · simp -implicitDefEqProofs (disch := omega) only [go_sem, Nat.reduceAdd, Nat.reduceMul, Nat.reduceSub, Nat.reduceBEq, Nat.reduceLeDiff, Nat.reduceLT, fn_fare_ticketPrice, e32_1, w32_1, e32_3, w32_3, c32_4, e32_6, w32_6, e32_8, w32_8, c32_9, c32_10, c32_11, Fares.row, Product.row, ht]
    rw [if_pos ⟨by omega, h2⟩]
  · simp -implicitDefEqProofs (disch := omega) only [go_sem, Nat.reduceAdd, Nat.reduceMul, Nat.reduceSub, Nat.reduceBEq, Nat.reduceLeDiff, Nat.reduceLT, fn_fare_ticketPrice, e32_1, w32_1, e32_3, w32_3, c32_4, e32_6, w32_6, e32_8, w32_8, c32_9, c32_10, c32_11, Fares.row, Product.row, ht]
    rw [if_neg (fun e => h2 e.2)]

theorem transitref35_Ticket_ok (f : Fares) (p : Product) (l : List Ride) (c : Cap) (i : Nat) (hf : f.wf) (hok : f.Ok) (hp : 0 ≤ p.price ∧ p.price ≤ 1000000) (hl : ∀ r ∈ l, r.wf) (hi : i < l.length) (hlen : l.length ≤ maxLen) :
    PCalls PR i_transitref35_Ticket [.agg f.row, .agg p.row, .slice (l.map Ride.row) c, .int .i64 i] (fun v => v = .int .i64 (ticket f p l i)) := by
  have hm : maxLen = 9223372036854775807 := by rfl
  obtain ⟨d1, d2⟩ := hok.discount
  refine acalls_pop fn_transitref35_Ticket_ok (by simp [fn_transitref35_Ticket]) ?_
  obtain ⟨b, hb⟩ : ∃ b, l[i]? = some b := ⟨l[i], by simp⟩
  obtain ⟨a, ha⟩ : ∃ a, l[i - 1]? = some a := ⟨l[i - 1], by simp⟩
  have ht : ticket f p l i = if 0 < i ∧ b.depart - a.arrive ≤ f.within then max 0 (p.price - f.discount) else p.price := by simp only [ticket, ha, hb]
  simp -implicitDefEqProofs (disch := omega) only [go_sem, Nat.reduceAdd, Nat.reduceMul, Nat.reduceSub, Nat.reduceBEq, Nat.reduceLeDiff, Nat.reduceLT, fn_transitref35_Ticket, e36_1, w36_1, e36_3, w36_3, c36_4, e36_6, w36_6, e36_8, w36_8, c36_9, c36_10, c36_11, Fares.row, Product.row]
  refine ifD (fun h1 => ?_) (fun h1 => ?_)
  rotate_left
  · simp -implicitDefEqProofs (disch := omega) only [go_sem, Nat.reduceAdd, Nat.reduceMul, Nat.reduceSub, Nat.reduceBEq, Nat.reduceLeDiff, Nat.reduceLT, fn_transitref35_Ticket, e36_1, w36_1, e36_3, w36_3, c36_4, e36_6, w36_6, e36_8, w36_8, c36_9, c36_10, c36_11, Fares.row, Product.row, ht]
    rw [if_neg (fun e => by omega)]
  simp -implicitDefEqProofs (disch := omega) only [go_sem, Nat.reduceAdd, Nat.reduceMul, Nat.reduceSub, Nat.reduceBEq, Nat.reduceLeDiff, Nat.reduceLT, fn_transitref35_Ticket, e36_1, w36_1, e36_3, w36_3, c36_4, e36_6, w36_6, e36_8, w36_8, c36_9, c36_10, c36_11, Fares.row, Product.row, ha, hb, Ride.row]
  first | refine callD (transitref35_within_ok _ _ _ (hl a (List.mem_of_getElem? ha)).2.1 (hl b (List.mem_of_getElem? hb)).1 hf.2.2.2.1 hok.within.1) ?_ | refine callQD (transitref35_within_ok _ _ _ (hl a (List.mem_of_getElem? ha)).2.1 (hl b (List.mem_of_getElem? hb)).1 hf.2.2.2.1 hok.within.1) ?_
  simp -implicitDefEqProofs (disch := omega) only [go_sem, Nat.reduceAdd, Nat.reduceMul, Nat.reduceSub, Nat.reduceBEq, Nat.reduceLeDiff, Nat.reduceLT, fn_transitref35_Ticket, e36_1, w36_1, e36_3, w36_3, c36_4, e36_6, w36_6, e36_8, w36_8, c36_9, c36_10, c36_11]
  refine ifD (fun h2 => ?_) (fun h2 => ?_)
  · simp -implicitDefEqProofs (disch := omega) only [go_sem, Nat.reduceAdd, Nat.reduceMul, Nat.reduceSub, Nat.reduceBEq, Nat.reduceLeDiff, Nat.reduceLT, fn_transitref35_Ticket, e36_1, w36_1, e36_3, w36_3, c36_4, e36_6, w36_6, e36_8, w36_8, c36_9, c36_10, c36_11, Fares.row, Product.row, ht]
    rw [if_pos ⟨by omega, h2⟩]
  · simp -implicitDefEqProofs (disch := omega) only [go_sem, Nat.reduceAdd, Nat.reduceMul, Nat.reduceSub, Nat.reduceBEq, Nat.reduceLeDiff, Nat.reduceLT, fn_transitref35_Ticket, e36_1, w36_1, e36_3, w36_3, c36_4, e36_6, w36_6, e36_8, w36_8, c36_9, c36_10, c36_11, Fares.row, Product.row, ht]
    rw [if_neg (fun e => h2 e.2)]

structure Ticket where
  product : Int
  first : Int
  last : Int
  price : Int
  deriving DecidableEq
def Ticket.row (t : Ticket) : List V := [.int .i64 t.product, .int .i64 t.first, .int .i64 t.last, .int .i64 t.price]
def Ticket.wf (t : Ticket) : Prop := I64 t.product ∧ I64 t.first ∧ I64 t.last ∧ I64 t.price

/-- The sum of the prices. -/
def total (l : List Ticket) : Int := (l.map Ticket.price).sum

/-! ### Whether fares are valid -/
def faresOk (f : Fares) : Bool := decide ((checkRes f).2 = 0)

theorem transitref35_Valid_ok (f : Fares) (hf : f.wf) : PCalls PR i_transitref35_Valid [.agg f.row] (fun v => v = .bool (faresOk f)) := by
  refine acalls_pop fn_transitref35_Valid_ok (by simp [fn_transitref35_Valid]) ?_
  simp -implicitDefEqProofs (disch := omega) only [go_sem, Nat.reduceAdd, Nat.reduceMul, Nat.reduceSub, Nat.reduceBEq, Nat.reduceLeDiff, Nat.reduceLT, fn_transitref35_Valid, e22_1, w22_1, e22_3, w22_3, e22_5, w22_5, c22_6, c22_7, c22_8, Fares.row]
  first | refine callD (transitref26_Fares_ok f hf) ?_ | refine callQD (transitref26_Fares_ok f hf) ?_
  simp -implicitDefEqProofs (disch := omega) only [go_sem, Nat.reduceAdd, Nat.reduceMul, Nat.reduceSub, Nat.reduceBEq, Nat.reduceLeDiff, Nat.reduceLT, fn_transitref35_Valid, e22_1, w22_1, e22_3, w22_3, e22_5, w22_5, c22_6, c22_7, c22_8, pairV, faresOk]

/-- The error of fares and of a number of rides. -/
def validRes (f : Fares) (n : Nat) : Int := if (checkRes f).2 ≠ 0 then 20 else if 8 < n then 33 else 0

theorem fare_valid_ok (f : Fares) (l : List Ride) (c : Cap) (hf : f.wf) : PCalls PR i_fare_valid [.agg f.row, .slice (l.map Ride.row) c] (fun v => v = .int .i64 (validRes f l.length)) := by
  refine acalls_pop fn_fare_valid_ok (by simp [fn_fare_valid]) ?_
  simp -implicitDefEqProofs (disch := omega) only [go_sem, Nat.reduceAdd, Nat.reduceMul, Nat.reduceSub, Nat.reduceBEq, Nat.reduceLeDiff, Nat.reduceLT, fn_fare_valid, e19_1, w19_1, e19_3, w19_3, e19_5, w19_5, c19_6, e19_8, w19_8, c19_9, e19_11, w19_11, c19_12, e19_14, w19_14, e19_16, w19_16, c19_17, c19_18, c19_19, c19_20, Fares.row]
  first | refine callD (product_Check_ok f hf) ?_ | refine callQD (product_Check_ok f hf) ?_
  simp -implicitDefEqProofs (disch := omega) only [go_sem, Nat.reduceAdd, Nat.reduceMul, Nat.reduceSub, Nat.reduceBEq, Nat.reduceLeDiff, Nat.reduceLT, fn_fare_valid, e19_1, w19_1, e19_3, w19_3, e19_5, w19_5, c19_6, e19_8, w19_8, c19_9, e19_11, w19_11, c19_12, e19_14, w19_14, e19_16, w19_16, c19_17, c19_18, c19_19, c19_20, pairV]
  refine ifD (fun h1 => ?_) (fun h1 => ?_)
  rotate_left
  · simp -implicitDefEqProofs (disch := omega) only [go_sem, Nat.reduceAdd, Nat.reduceMul, Nat.reduceSub, Nat.reduceBEq, Nat.reduceLeDiff, Nat.reduceLT, fn_fare_valid, e19_1, w19_1, e19_3, w19_3, e19_5, w19_5, c19_6, e19_8, w19_8, c19_9, e19_11, w19_11, c19_12, e19_14, w19_14, e19_16, w19_16, c19_17, c19_18, c19_19, c19_20, validRes]
    rw [if_pos h1]
  simp -implicitDefEqProofs (disch := omega) only [go_sem, Nat.reduceAdd, Nat.reduceMul, Nat.reduceSub, Nat.reduceBEq, Nat.reduceLeDiff, Nat.reduceLT, fn_fare_valid, e19_1, w19_1, e19_3, w19_3, e19_5, w19_5, c19_6, e19_8, w19_8, c19_9, e19_11, w19_11, c19_12, e19_14, w19_14, e19_16, w19_16, c19_17, c19_18, c19_19, c19_20]
  refine ifD (fun h2 => ?_) (fun h2 => ?_)
  · simp -implicitDefEqProofs (disch := omega) only [go_sem, Nat.reduceAdd, Nat.reduceMul, Nat.reduceSub, Nat.reduceBEq, Nat.reduceLeDiff, Nat.reduceLT, fn_fare_valid, e19_1, w19_1, e19_3, w19_3, e19_5, w19_5, c19_6, e19_8, w19_8, c19_9, e19_11, w19_11, c19_12, e19_14, w19_14, e19_16, w19_16, c19_17, c19_18, c19_19, c19_20, validRes]
    rw [if_neg (by simp [h1]), if_pos (by omega)]
  · simp -implicitDefEqProofs (disch := omega) only [go_sem, Nat.reduceAdd, Nat.reduceMul, Nat.reduceSub, Nat.reduceBEq, Nat.reduceLeDiff, Nat.reduceLT, fn_fare_valid, e19_1, w19_1, e19_3, w19_3, e19_5, w19_5, c19_6, e19_8, w19_8, c19_9, e19_11, w19_11, c19_12, e19_14, w19_14, e19_16, w19_16, c19_17, c19_18, c19_19, c19_20, validRes]
    rw [if_neg (by simp [h1]), if_neg (by omega)]

theorem fare_valid_nil (f : Fares) (hf : f.wf) : PCalls PR i_fare_valid [.agg f.row, .slice [] .nil] (fun v => v = .int .i64 (validRes f 0)) := fare_valid_ok f [] .nil hf

end Go.Vm.C

