/- Contracts: covering, the price of a ticket, whether fares are valid. -/
import Derived.Test.YtmpjekmfphppbaaDoorT3

namespace Go.Vm.C
open Go.Vm
set_option maxHeartbeats 1000000
set_option maxRecDepth 10000
set_option linter.unusedSimpArgs false
set_option linter.unusedVariables false

/-! ### Sets of ints -/
theorem bset_bv (a : Int) : bset a = (BitVec.ofInt 64 a).toNat := by rw [bset, BitVec.toNat_ofInt]; rfl
theorem bset_wrap (n : Int) : bset (IntKind.i64.wrap n) = bset n := by rw [i64_wrap, bset, bset]; split <;> omega
theorem bset_nat (n : Nat) (h : n < 18446744073709551616) : bset (n : Int) = n := by rw [bset]; omega
theorem wrap_I64 (n : Int) : I64 (IntKind.i64.wrap n) := by rw [i64_wrap, I64]; split <;> omega
theorem bset_or (a b : Int) : bset (orK .i64 a b) = bset a ||| bset b := by
  show bset (IntKind.i64.wrap ((BitVec.ofInt 64 a ||| BitVec.ofInt 64 b).toNat : Int)) = _
  rw [bset_wrap, bset_nat _ (BitVec.isLt _), BitVec.toNat_or, ← bset_bv, ← bset_bv]
theorem bset_andNot (a b : Int) : bset (andNotK .i64 a b) = minus (bset a) (bset b) := by
  show bset (IntKind.i64.wrap ((BitVec.ofInt 64 a &&& ~~~ BitVec.ofInt 64 b).toNat : Int)) = _
  rw [bset_wrap, bset_nat _ (BitVec.isLt _), bset_bv, bset_bv]
  apply Nat.eq_of_testBit_eq
  intro j
  rw [minus_bit, BitVec.testBit_toNat, BitVec.testBit_toNat, BitVec.testBit_toNat, BitVec.getLsbD_and, BitVec.getLsbD_not]
  by_cases hj : j < 64
  · simp [hj]
  · rw [BitVec.getLsbD_of_ge _ _ (by omega)]; simp
theorem bset_zero {a : Int} (h : I64 a) : bset a = 0 ↔ a = 0 := by obtain ⟨h1, h2⟩ := h; rw [bset]; omega
theorem andNot_I64 (a b : Int) : I64 (andNotK .i64 a b) := wrap_I64 _

theorem shr_u64 (a i : Nat) (h : i < 64) : binV .shr .none (.int .u64 a) (.int .i64 i) = some (.int .u64 (a / 2 ^ i : Nat)) := by
  have h1 : decide ((i : Int) < 0) = false := decide_eq_false (by omega)
  have h2 : min i IntKind.u64.bits = i := Nat.min_eq_left (Nat.le_of_lt h)
  simp only [binV, shiftV, h1, cond_false, Int.toNat_natCast, h2]
  rw [show ((2 : Int) ^ i) = ((2 ^ i : Nat) : Int) by simp, Int.ofNat_fdiv]

/-- The rides from i to k. -/
def part (l : List Ride) (i k : Nat) : List Ride := (l.drop i).take (k + 1 - i)
theorem part_len {l : List Ride} {i k : Nat} (h : k < l.length) : (part l i k).length = k + 1 - i := by simp [part]; omega
theorem part_get {l : List Ride} {i k j : Nat} (h : j < k + 1 - i) : (part l i k)[j]? = l[i + j]? := by rw [part, List.getElem?_take_of_lt h, List.getElem?_drop]
theorem part_mem {l : List Ride} {i k : Nat} {r : Ride} (h : r ∈ part l i k) : r ∈ l := List.mem_of_mem_drop (List.mem_of_mem_take h)
theorem part_map (l : List Ride) (i k : Nat) : ((l.map Ride.row).drop i).take (k + 1 - i) = (part l i k).map Ride.row := by rw [part, List.map_take, List.map_drop]

/-! ### Tickets -/
/-- The price of a ticket whose first ride is i. -/
def ticket (f : Fares) (p : Product) (l : List Ride) (i : Nat) : Int :=
  match l[i - 1]?, l[i]? with
  | some a, some b => if 0 < i ∧ b.depart - a.arrive ≤ f.within then max 0 (p.price - f.discount) else p.price
  | _, _ => p.price

theorem ticket_range {f : Fares} {p : Product} {l : List Ride} {i : Nat} (h : 0 ≤ p.price ∧ p.price ≤ 1000000) (hd : 0 ≤ f.discount) : 0 ≤ ticket f p l i ∧ ticket f p l i ≤ 1000000 := by
  unfold ticket
  split
  · split <;> omega
  · omega

theorem fare_ticketPrice_ok (f : Fares) (p : Product) (l : List Ride) (c : Cap) (i : Nat) (hf : f.wf) (hok : f.Ok) (hp : 0 ≤ p.price ∧ p.price ≤ 1000000) (hl : ∀ r ∈ l, r.wf) (hi : i < l.length) (hlen : l.length ≤ maxLen) :
    PCalls PR i_fare_ticketPrice [.agg f.row, .agg p.row, .slice (l.map Ride.row) c, .int .i64 i] (fun v => v = .int .i64 (ticket f p l i)) := by
  have hm : maxLen = 9223372036854775807 := by rfl
  obtain ⟨d1, d2⟩ := hok.discount
  refine acalls_pop fn_fare_ticketPrice_ok (by simp [fn_fare_ticketPrice]) ?_
  obtain ⟨b, hb⟩ : ∃ b, l[i]? = some b := ⟨l[i], by simp⟩
  obtain ⟨a, ha⟩ : ∃ a, l[i - 1]? = some a := ⟨l[i - 1], by simp⟩
  have ht : ticket f p l i = if 0 < i ∧ b.depart - a.arrive ≤ f.within then max 0 (p.price - f.discount) else p.price := by simp only [ticket, ha, hb]
  simp -implicitDefEqProofs (disch := omega) only [go_sem, Nat.reduceAdd, Nat.reduceMul, Nat.reduceSub, Nat.reduceBEq, Nat.reduceLeDiff, Nat.reduceLT, fn_fare_ticketPrice, e25_1, w25_1, e25_3, w25_3, c25_4, e25_6, w25_6, e25_8, w25_8, c25_9, c25_10, c25_11, Fares.row, Product.row]
  refine ifD (fun h1 => ?_) (fun h1 => ?_)
  rotate_left
  · simp -implicitDefEqProofs (disch := omega) only [go_sem, Nat.reduceAdd, Nat.reduceMul, Nat.reduceSub, Nat.reduceBEq, Nat.reduceLeDiff, Nat.reduceLT, fn_fare_ticketPrice, e25_1, w25_1, e25_3, w25_3, c25_4, e25_6, w25_6, e25_8, w25_8, c25_9, c25_10, c25_11, Fares.row, Product.row, ht]
    rw [if_neg (fun e => by omega)]
  simp -implicitDefEqProofs (disch := omega) only [go_sem, Nat.reduceAdd, Nat.reduceMul, Nat.reduceSub, Nat.reduceBEq, Nat.reduceLeDiff, Nat.reduceLT, fn_fare_ticketPrice, e25_1, w25_1, e25_3, w25_3, c25_4, e25_6, w25_6, e25_8, w25_8, c25_9, c25_10, c25_11, Fares.row, Product.row, ha, hb, Ride.row]
  first | refine callD (fare_within_ok _ _ _ (hl a (List.mem_of_getElem? ha)).2.1 (hl b (List.mem_of_getElem? hb)).1 hf.2.2.2.1 hok.within.1) ?_ | refine callQD (fare_within_ok _ _ _ (hl a (List.mem_of_getElem? ha)).2.1 (hl b (List.mem_of_getElem? hb)).1 hf.2.2.2.1 hok.within.1) ?_
  simp -implicitDefEqProofs (disch := omega) only [go_sem, Nat.reduceAdd, Nat.reduceMul, Nat.reduceSub, Nat.reduceBEq, Nat.reduceLeDiff, Nat.reduceLT, fn_fare_ticketPrice, e25_1, w25_1, e25_3, w25_3, c25_4, e25_6, w25_6, e25_8, w25_8, c25_9, c25_10, c25_11]
  refine ifD (fun h2 => ?_) (fun h2 => ?_)
  · simp -implicitDefEqProofs (disch := omega) only [go_sem, Nat.reduceAdd, Nat.reduceMul, Nat.reduceSub, Nat.reduceBEq, Nat.reduceLeDiff, Nat.reduceLT, fn_fare_ticketPrice, e25_1, w25_1, e25_3, w25_3, c25_4, e25_6, w25_6, e25_8, w25_8, c25_9, c25_10, c25_11, Fares.row, Product.row, ht]
    rw [if_pos ⟨by omega, h2⟩]
  · simp -implicitDefEqProofs (disch := omega) only [go_sem, Nat.reduceAdd, Nat.reduceMul, Nat.reduceSub, Nat.reduceBEq, Nat.reduceLeDiff, Nat.reduceLT, fn_fare_ticketPrice, e25_1, w25_1, e25_3, w25_3, c25_4, e25_6, w25_6, e25_8, w25_8, c25_9, c25_10, c25_11, Fares.row, Product.row, ht]
    rw [if_neg (fun e => h2 e.2)]

structure Ticket where
  product : Int
  first : Int
  last : Int
  price : Int
  deriving DecidableEq
def Ticket.row (t : Ticket) : List V := [.int .i64 t.product, .int .i64 t.first, .int .i64 t.last, .int .i64 t.price]
def Ticket.wf (t : Ticket) : Prop := I64 t.product ∧ I64 t.first ∧ I64 t.last ∧ I64 t.price

/-- The sum of the prices. -/
def total (l : List Ticket) : Int := (l.map Ticket.price).sum

/-! ### Whether fares are valid -/
def faresOk (f : Fares) : Bool := decide ((checkRes f).2 = 0)

theorem transitref35_Valid_ok (f : Fares) (hf : f.wf) : PCalls PR i_transitref35_Valid [.agg f.row] (fun v => v = .bool (faresOk f)) := by
  refine acalls_pop fn_transitref35_Valid_ok (by simp [fn_transitref35_Valid]) ?_
  simp -implicitDefEqProofs (disch := omega) only [go_sem, Nat.reduceAdd, Nat.reduceMul, Nat.reduceSub, Nat.reduceBEq, Nat.reduceLeDiff, Nat.reduceLT, fn_transitref35_Valid, e15_1, w15_1, e15_3, w15_3, e15_5, w15_5, c15_6, c15_7, c15_8, Fares.row]
  first | refine callD (transitref26_Fares_ok f hf) ?_ | refine callQD (transitref26_Fares_ok f hf) ?_
  simp -implicitDefEqProofs (disch := omega) only [go_sem, Nat.reduceAdd, Nat.reduceMul, Nat.reduceSub, Nat.reduceBEq, Nat.reduceLeDiff, Nat.reduceLT, fn_transitref35_Valid, e15_1, w15_1, e15_3, w15_3, e15_5, w15_5, c15_6, c15_7, c15_8, pairV, faresOk]

/-- The error of fares and of a number of rides. -/
def validRes (f : Fares) (n : Nat) : Int := if (checkRes f).2 ≠ 0 then 20 else if 8 < n then 33 else 0

theorem fare_valid_ok (f : Fares) (l : List Ride) (c : Cap) (hf : f.wf) : PCalls PR i_fare_valid [.agg f.row, .slice (l.map Ride.row) c] (fun v => v = .int .i64 (validRes f l.length)) := by
  refine acalls_pop fn_fare_valid_ok (by simp [fn_fare_valid]) ?_
  simp -implicitDefEqProofs (disch := omega) only [go_sem, Nat.reduceAdd, Nat.reduceMul, Nat.reduceSub, Nat.reduceBEq, Nat.reduceLeDiff, Nat.reduceLT, fn_fare_valid, e10_1, w10_1, e10_3, w10_3, e10_5, w10_5, c10_6, e10_8, w10_8, c10_9, e10_11, w10_11, c10_12, e10_14, w10_14, e10_16, w10_16, c10_17, c10_18, c10_19, c10_20, Fares.row]
  first | refine callD (product_Check_ok f hf) ?_ | refine callQD (product_Check_ok f hf) ?_
  simp -implicitDefEqProofs (disch := omega) only [go_sem, Nat.reduceAdd, Nat.reduceMul, Nat.reduceSub, Nat.reduceBEq, Nat.reduceLeDiff, Nat.reduceLT, fn_fare_valid, e10_1, w10_1, e10_3, w10_3, e10_5, w10_5, c10_6, e10_8, w10_8, c10_9, e10_11, w10_11, c10_12, e10_14, w10_14, e10_16, w10_16, c10_17, c10_18, c10_19, c10_20, pairV]
  refine ifD (fun h1 => ?_) (fun h1 => ?_)
  rotate_left
  · simp -implicitDefEqProofs (disch := omega) only [go_sem, Nat.reduceAdd, Nat.reduceMul, Nat.reduceSub, Nat.reduceBEq, Nat.reduceLeDiff, Nat.reduceLT, fn_fare_valid, e10_1, w10_1, e10_3, w10_3, e10_5, w10_5, c10_6, e10_8, w10_8, c10_9, e10_11, w10_11, c10_12, e10_14, w10_14, e10_16, w10_16, c10_17, c10_18, c10_19, c10_20, validRes]
    rw [if_pos h1]
  simp -implicitDefEqProofs (disch := omega) only [go_sem, Nat.reduceAdd, Nat.reduceMul, Nat.reduceSub, Nat.reduceBEq, Nat.reduceLeDiff, Nat.reduceLT, fn_fare_valid, e10_1, w10_1, e10_3, w10_3, e10_5, w10_5, c10_6, e10_8, w10_8, c10_9, e10_11, w10_11, c10_12, e10_14, w10_14, e10_16, w10_16, c10_17, c10_18, c10_19, c10_20]
  refine ifD (fun h2 => ?_) (fun h2 => ?_)
  · simp -implicitDefEqProofs (disch := omega) only [go_sem, Nat.reduceAdd, Nat.reduceMul, Nat.reduceSub, Nat.reduceBEq, Nat.reduceLeDiff, Nat.reduceLT, fn_fare_valid, e10_1, w10_1, e10_3, w10_3, e10_5, w10_5, c10_6, e10_8, w10_8, c10_9, e10_11, w10_11, c10_12, e10_14, w10_14, e10_16, w10_16, c10_17, c10_18, c10_19, c10_20, validRes]
    rw [if_neg (by simp [h1]), if_pos (by omega)]
  · simp -implicitDefEqProofs (disch := omega) only [go_sem, Nat.reduceAdd, Nat.reduceMul, Nat.reduceSub, Nat.reduceBEq, Nat.reduceLeDiff, Nat.reduceLT, fn_fare_valid, e10_1, w10_1, e10_3, w10_3, e10_5, w10_5, c10_6, e10_8, w10_8, c10_9, e10_11, w10_11, c10_12, e10_14, w10_14, e10_16, w10_16, c10_17, c10_18, c10_19, c10_20, validRes]
    rw [if_neg (by simp [h1]), if_neg (by omega)]

theorem fare_valid_nil (f : Fares) (hf : f.wf) : PCalls PR i_fare_valid [.agg f.row, .slice [] .nil] (fun v => v = .int .i64 (validRes f 0)) := fare_valid_ok f [] .nil hf

end Go.Vm.C

