/- Contracts: equal messages, lists compared. -/
import Derived.Test.YtmbeokppfdalfaaT9

namespace Go.Vm.C
open Go.Vm
set_option maxHeartbeats 1000000
set_option maxRecDepth 10000
set_option linter.unusedSimpArgs false
set_option linter.unusedVariables false

/-! ### Rides, stops, times -/
theorem boards_at {l : List Stay} {i : Nat} {s : Stay} (h : l[i]? = some s) : boards l i = s.board := by simp [boards, h]
theorem alights_at {l : List Stay} {i : Nat} {s : Stay} (h : l[i]? = some s) : alights l i = s.alight := by simp [alights, h]
/-- Whether two indices are a ride. -/
def ridB (l : List Stay) (b a : Int) : Bool := decide (0 ≤ b ∧ b < a ∧ a < l.length) && (boards l b.toNat && alights l a.toNat)
theorem ridB_no {l : List Stay} {b a : Int} (h : ¬ (0 ≤ b ∧ b < a ∧ a < l.length)) : ridB l b a = false := by rw [ridB, decide_eq_false h, Bool.false_and]
theorem ridB_yes {l : List Stay} {i k : Nat} (h : i < k) (hk : k < l.length) : ridB l i k = (boards l i && alights l k) := by
  rw [ridB, decide_eq_true (by omega), Bool.true_and]; rfl

def intRow (n : Nat) : List V := [.int .i64 n]
def stops? (l : List Stay) (stop : Int) (i : Nat) : Bool := ((l[i]?).map fun c => decide (c.stop = stop)).getD false
/-- The indices of the calls at a stop, below n. -/
def atTo (l : List Stay) (stop : Int) (n : Nat) : List Nat := (List.range n).filter (stops? l stop)
theorem atTo_succ {l : List Stay} {stop : Int} {n : Nat} {s : Stay} (h : l[n]? = some s) : atTo l stop (n + 1) = atTo l stop n ++ if s.stop = stop then [n] else [] := by
  simp only [atTo, List.range_succ, List.filter_append]
  by_cases e : s.stop = stop <;> simp [stops?, h, e]
theorem atTo_le (l : List Stay) (stop : Int) (n : Nat) : (atTo l stop n).length ≤ n := by
  have := List.length_filter_le (stops? l stop) (List.range n)
  simpa [atTo] using this

def durOf (l : List Stay) : Int :=
  if l.length < 2 then 0 else match l[l.length - 1]?, l[0]? with
  | some b, some a => IntKind.i64.wrap (b.arrive - a.depart)
  | _, _ => 0

theorem stay_ext {a b : Stay} (h1 : a.stop = b.stop) (h2 : a.arrive = b.arrive) (h3 : a.depart = b.depart) (h4 : a.board = b.board) (h5 : a.alight = b.alight) : a = b := by
  cases a; cases b; simp_all
theorem list_ext {l m : List Stay} (hlen : l.length = m.length) (h : ∀ j, j < l.length → l[j]? = m[j]?) : l = m := by
  apply List.ext_getElem?
  intro j
  rcases Nat.lt_or_ge j l.length with h6 | h6
  · exact h j h6
  · rw [List.getElem?_eq_none h6, List.getElem?_eq_none (by omega)]

theorem ref16_Equal_ok (l m : List Stay) (c d : Cap) (hlen : l.length ≤ 1000) : PCalls PR i_transitref16_Equal [.slice (l.map Stay.row) c, .slice (m.map Stay.row) d] (fun v => ∃ b : Bool, v = .bool b ∧ (b = true ↔ l = m)) := by
  refine acalls_pop fn_transitref16_Equal_ok (by simp [fn_transitref16_Equal]) ?_
  simp -implicitDefEqProofs (disch := omega) only [go_sem, Nat.reduceAdd, Nat.reduceMul, Nat.reduceSub, Nat.reduceBEq, Nat.reduceLeDiff, Nat.reduceLT, fn_transitref16_Equal, e55_1, w55_1, e55_3, w55_3, c55_4, e55_6, w55_6, e55_8, w55_8, e55_10, w55_10, e55_12, w55_12, c55_13, e55_15, w55_15, c55_16, e55_18, w55_18, c55_19, c55_20, c55_21, c55_22, c55_23, e55_25, w55_25, c55_26, c55_27, c55_28, c55_29]
  refine ifD (fun h1 => ?_) (fun h1 => ?_)
  rotate_left
  · simp -implicitDefEqProofs (disch := omega) only [go_sem, Nat.reduceAdd, Nat.reduceMul, Nat.reduceSub, Nat.reduceBEq, Nat.reduceLeDiff, Nat.reduceLT, fn_transitref16_Equal, e55_1, w55_1, e55_3, w55_3, c55_4, e55_6, w55_6, e55_8, w55_8, e55_10, w55_10, e55_12, w55_12, c55_13, e55_15, w55_15, c55_16, e55_18, w55_18, c55_19, c55_20, c55_21, c55_22, c55_23, e55_25, w55_25, c55_26, c55_27, c55_28, c55_29]
    exact ⟨false, rfl, by simp, fun e => by subst e; exact absurd rfl h1⟩
  simp -implicitDefEqProofs (disch := omega) only [go_sem, Nat.reduceAdd, Nat.reduceMul, Nat.reduceSub, Nat.reduceBEq, Nat.reduceLeDiff, Nat.reduceLT, fn_transitref16_Equal, e55_1, w55_1, e55_3, w55_3, c55_4, e55_6, w55_6, e55_8, w55_8, e55_10, w55_10, e55_12, w55_12, c55_13, e55_15, w55_15, c55_16, e55_18, w55_18, c55_19, c55_20, c55_21, c55_22, c55_23, e55_25, w55_25, c55_26, c55_27, c55_28, c55_29]
  refine wpC_forL l (fun i vs M => (∀ j, j < i → l[j]? = m[j]?) ∧ vs = [.slice (l.map Stay.row) c, .slice (m.map Stay.row) d, .int .i64 i] ∧ M = []) ⟨fun j hj => absurd hj (Nat.not_lt_zero j), rfl, rfl⟩ ?_ ?_
  rotate_left
  · rintro vs M ⟨hall, rfl, rfl⟩
    simp -implicitDefEqProofs (disch := omega) only [go_sem, Nat.reduceAdd, Nat.reduceMul, Nat.reduceSub, Nat.reduceBEq, Nat.reduceLeDiff, Nat.reduceLT, fn_transitref16_Equal, e55_1, w55_1, e55_3, w55_3, c55_4, e55_6, w55_6, e55_8, w55_8, e55_10, w55_10, e55_12, w55_12, c55_13, e55_15, w55_15, c55_16, e55_18, w55_18, c55_19, c55_20, c55_21, c55_22, c55_23, e55_25, w55_25, c55_26, c55_27, c55_28, c55_29, dec_irrefl]
    exact ⟨true, rfl, fun _ => list_ext (by omega) hall, fun _ => rfl⟩
  rintro i a vs M ha hi hid ⟨hall, rfl, rfl⟩
  obtain ⟨b, hb⟩ : ∃ b, m[i]? = some b := ⟨m[i], by simp⟩
  simp -implicitDefEqProofs (disch := omega) only [go_sem, Nat.reduceAdd, Nat.reduceMul, Nat.reduceSub, Nat.reduceBEq, Nat.reduceLeDiff, Nat.reduceLT, fn_transitref16_Equal, e55_1, w55_1, e55_3, w55_3, c55_4, e55_6, w55_6, e55_8, w55_8, e55_10, w55_10, e55_12, w55_12, c55_13, e55_15, w55_15, c55_16, e55_18, w55_18, c55_19, c55_20, c55_21, c55_22, c55_23, e55_25, w55_25, c55_26, c55_27, c55_28, c55_29, hid, ha, hb, Stay.row]
  refine ifB (fun h6 => ?_) (fun h6 => ?_)
  · simp only [Bool.and_eq_true, decide_eq_true_eq, beq_iff_eq] at h6
    obtain ⟨e1, e2, e3, e4, e5⟩ := h6
    simp -implicitDefEqProofs (disch := omega) only [go_sem, Nat.reduceAdd, Nat.reduceMul, Nat.reduceSub, Nat.reduceBEq, Nat.reduceLeDiff, Nat.reduceLT, fn_transitref16_Equal, e55_1, w55_1, e55_3, w55_3, c55_4, e55_6, w55_6, e55_8, w55_8, e55_10, w55_10, e55_12, w55_12, c55_13, e55_15, w55_15, c55_16, e55_18, w55_18, c55_19, c55_20, c55_21, c55_22, c55_23, e55_25, w55_25, c55_26, c55_27, c55_28, c55_29]
    refine next_stay hi ⟨?_, ?_, rfl⟩
    · intro j hj
      rcases Nat.lt_or_ge j i with h7 | h7
      · exact hall j h7
      · have : j = i := by omega
        subst this
        rw [ha, hb, stay_ext e1 e2 e3 e4 e5]
    · simp only [vals, sget]; rfl
  · simp -implicitDefEqProofs (disch := omega) only [go_sem, Nat.reduceAdd, Nat.reduceMul, Nat.reduceSub, Nat.reduceBEq, Nat.reduceLeDiff, Nat.reduceLT, fn_transitref16_Equal, e55_1, w55_1, e55_3, w55_3, c55_4, e55_6, w55_6, e55_8, w55_8, e55_10, w55_10, e55_12, w55_12, c55_13, e55_15, w55_15, c55_16, e55_18, w55_18, c55_19, c55_20, c55_21, c55_22, c55_23, e55_25, w55_25, c55_26, c55_27, c55_28, c55_29]
    refine ⟨false, rfl, by simp, fun e => ?_⟩
    subst e
    rw [ha] at hb
    simp only [Option.some.injEq] at hb
    subst hb
    simp at h6

def moved (s : Int) (c : Stay) : Stay := ⟨c.stop, IntKind.i64.wrap (c.arrive + s), IntKind.i64.wrap (c.depart + s), c.board, c.alight⟩

/-! ### Equal messages -/
theorem own_eq {a b : Msg} : a.own = b.own ↔ a.src = b.src ∧ a.seq = b.seq ∧ a.iss = b.iss ∧ a.exp = b.exp ∧ a.kind = b.kind ∧ a.trip = b.trip ∧ a.day = b.day ∧ a.inst = b.inst ∧ a.callNo = b.callNo ∧ a.secs = b.secs ∧ a.route = b.route ∧ a.free = b.free ∧ a.calls = b.calls := by
  obtain ⟨a1, a2, a3, a4, a5, a6, a7, a8, a9, a10, a11, a12, a13, a14⟩ := a
  obtain ⟨b1, b2, b3, b4, b5, b6, b7, b8, b9, b10, b11, b12, b13, b14⟩ := b
  simp [Msg.own]
theorem transitref31_Equal_ok (a b : Msg) (hc : a.calls.length ≤ 1000) : PCalls PR i_transitref31_Equal [.agg a.row, .agg b.row] (fun v => ∃ r : Bool, v = .bool r ∧ (r = true ↔ a.own = b.own)) := by
  have ht := transitref31_SameTarget_ok a b
  simp only [Msg.row] at ht
  have he := ref16_Equal_ok a.calls b.calls a.tag b.tag hc
  have no : ∀ {p : Prop}, (a.own = b.own → p) → ¬ p → ∃ r : Bool, false = r ∧ (r = true ↔ a.own = b.own) := fun h1 h2 => ⟨false, rfl, by simp; exact fun e => h2 (h1 e)⟩
  refine acalls_pop fn_transitref31_Equal_ok (by simp [fn_transitref31_Equal]) ?_
  simp -implicitDefEqProofs (disch := omega) only [go_sem, Nat.reduceAdd, Nat.reduceMul, Nat.reduceSub, Nat.reduceBEq, Nat.reduceLeDiff, Nat.reduceLT, fn_transitref31_Equal, e38_1, w38_1, e38_3, w38_3, c38_4, c38_5, Msg.row]
  refine ifD (fun h1 => ?_) (fun h1 => ?_)
  rotate_left
  · simp -implicitDefEqProofs (disch := omega) only [go_sem, Nat.reduceAdd, Nat.reduceMul, Nat.reduceSub, Nat.reduceBEq, Nat.reduceLeDiff, Nat.reduceLT, fn_transitref31_Equal, e38_1, w38_1, e38_3, w38_3, c38_4, c38_5]
    exact no (fun e => (own_eq.1 e).1) h1
  simp -implicitDefEqProofs (disch := omega) only [go_sem, Nat.reduceAdd, Nat.reduceMul, Nat.reduceSub, Nat.reduceBEq, Nat.reduceLeDiff, Nat.reduceLT, fn_transitref31_Equal, e38_1, w38_1, e38_3, w38_3, c38_4, c38_5]
  refine ifD (fun h2 => ?_) (fun h2 => ?_)
  rotate_left
  · simp -implicitDefEqProofs (disch := omega) only [go_sem, Nat.reduceAdd, Nat.reduceMul, Nat.reduceSub, Nat.reduceBEq, Nat.reduceLeDiff, Nat.reduceLT, fn_transitref31_Equal, e38_1, w38_1, e38_3, w38_3, c38_4, c38_5]
    exact no (fun e => (own_eq.1 e).2.1) h2
  simp -implicitDefEqProofs (disch := omega) only [go_sem, Nat.reduceAdd, Nat.reduceMul, Nat.reduceSub, Nat.reduceBEq, Nat.reduceLeDiff, Nat.reduceLT, fn_transitref31_Equal, e38_1, w38_1, e38_3, w38_3, c38_4, c38_5]
  refine ifD (fun h3 => ?_) (fun h3 => ?_)
  rotate_left
  · simp -implicitDefEqProofs (disch := omega) only [go_sem, Nat.reduceAdd, Nat.reduceMul, Nat.reduceSub, Nat.reduceBEq, Nat.reduceLeDiff, Nat.reduceLT, fn_transitref31_Equal, e38_1, w38_1, e38_3, w38_3, c38_4, c38_5]
    exact no (fun e => (own_eq.1 e).2.2.1) h3
  simp -implicitDefEqProofs (disch := omega) only [go_sem, Nat.reduceAdd, Nat.reduceMul, Nat.reduceSub, Nat.reduceBEq, Nat.reduceLeDiff, Nat.reduceLT, fn_transitref31_Equal, e38_1, w38_1, e38_3, w38_3, c38_4, c38_5]
  refine ifD (fun h4 => ?_) (fun h4 => ?_)
  rotate_left
  · simp -implicitDefEqProofs (disch := omega) only [go_sem, Nat.reduceAdd, Nat.reduceMul, Nat.reduceSub, Nat.reduceBEq, Nat.reduceLeDiff, Nat.reduceLT, fn_transitref31_Equal, e38_1, w38_1, e38_3, w38_3, c38_4, c38_5]
    exact no (fun e => (own_eq.1 e).2.2.2.1) h4
  simp -implicitDefEqProofs (disch := omega) only [go_sem, Nat.reduceAdd, Nat.reduceMul, Nat.reduceSub, Nat.reduceBEq, Nat.reduceLeDiff, Nat.reduceLT, fn_transitref31_Equal, e38_1, w38_1, e38_3, w38_3, c38_4, c38_5]
  refine ifD (fun h5 => ?_) (fun h5 => ?_)
  rotate_left
  · simp -implicitDefEqProofs (disch := omega) only [go_sem, Nat.reduceAdd, Nat.reduceMul, Nat.reduceSub, Nat.reduceBEq, Nat.reduceLeDiff, Nat.reduceLT, fn_transitref31_Equal, e38_1, w38_1, e38_3, w38_3, c38_4, c38_5]
    exact no (fun e => (own_eq.1 e).2.2.2.2.1) h5
  simp -implicitDefEqProofs (disch := omega) only [go_sem, Nat.reduceAdd, Nat.reduceMul, Nat.reduceSub, Nat.reduceBEq, Nat.reduceLeDiff, Nat.reduceLT, fn_transitref31_Equal, e38_1, w38_1, e38_3, w38_3, c38_4, c38_5]
  first | refine callD (ht) ?_ | refine callQD (ht) ?_
  simp -implicitDefEqProofs (disch := omega) only [go_sem, Nat.reduceAdd, Nat.reduceMul, Nat.reduceSub, Nat.reduceBEq, Nat.reduceLeDiff, Nat.reduceLT, fn_transitref31_Equal, e38_1, w38_1, e38_3, w38_3, c38_4, c38_5]
  refine ifB (fun h6 => ?_) (fun h6 => ?_)
  rotate_left
  · simp -implicitDefEqProofs (disch := omega) only [go_sem, Nat.reduceAdd, Nat.reduceMul, Nat.reduceSub, Nat.reduceBEq, Nat.reduceLeDiff, Nat.reduceLT, fn_transitref31_Equal, e38_1, w38_1, e38_3, w38_3, c38_4, c38_5]
    refine no (p := sameT a b = true) (fun e => ?_) (by simp [h6])
    obtain ⟨_, _, _, _, _, g1, g2, g3, _⟩ := own_eq.1 e
    simp [sameT, g1, g2, g3]
  simp only [sameT, Bool.and_eq_true, decide_eq_true_eq] at h6
  simp -implicitDefEqProofs (disch := omega) only [go_sem, Nat.reduceAdd, Nat.reduceMul, Nat.reduceSub, Nat.reduceBEq, Nat.reduceLeDiff, Nat.reduceLT, fn_transitref31_Equal, e38_1, w38_1, e38_3, w38_3, c38_4, c38_5]
  refine ifD (fun h7 => ?_) (fun h7 => ?_)
  rotate_left
  · simp -implicitDefEqProofs (disch := omega) only [go_sem, Nat.reduceAdd, Nat.reduceMul, Nat.reduceSub, Nat.reduceBEq, Nat.reduceLeDiff, Nat.reduceLT, fn_transitref31_Equal, e38_1, w38_1, e38_3, w38_3, c38_4, c38_5]
    exact no (fun e => (own_eq.1 e).2.2.2.2.2.2.2.2.1) h7
  simp -implicitDefEqProofs (disch := omega) only [go_sem, Nat.reduceAdd, Nat.reduceMul, Nat.reduceSub, Nat.reduceBEq, Nat.reduceLeDiff, Nat.reduceLT, fn_transitref31_Equal, e38_1, w38_1, e38_3, w38_3, c38_4, c38_5]
  refine ifD (fun h8 => ?_) (fun h8 => ?_)
  rotate_left
  · simp -implicitDefEqProofs (disch := omega) only [go_sem, Nat.reduceAdd, Nat.reduceMul, Nat.reduceSub, Nat.reduceBEq, Nat.reduceLeDiff, Nat.reduceLT, fn_transitref31_Equal, e38_1, w38_1, e38_3, w38_3, c38_4, c38_5]
    exact no (fun e => (own_eq.1 e).2.2.2.2.2.2.2.2.2.1) h8
  simp -implicitDefEqProofs (disch := omega) only [go_sem, Nat.reduceAdd, Nat.reduceMul, Nat.reduceSub, Nat.reduceBEq, Nat.reduceLeDiff, Nat.reduceLT, fn_transitref31_Equal, e38_1, w38_1, e38_3, w38_3, c38_4, c38_5]
  refine ifD (fun h9 => ?_) (fun h9 => ?_)
  rotate_left
  · simp -implicitDefEqProofs (disch := omega) only [go_sem, Nat.reduceAdd, Nat.reduceMul, Nat.reduceSub, Nat.reduceBEq, Nat.reduceLeDiff, Nat.reduceLT, fn_transitref31_Equal, e38_1, w38_1, e38_3, w38_3, c38_4, c38_5]
    exact no (fun e => (own_eq.1 e).2.2.2.2.2.2.2.2.2.2.1) h9
  simp -implicitDefEqProofs (disch := omega) only [go_sem, Nat.reduceAdd, Nat.reduceMul, Nat.reduceSub, Nat.reduceBEq, Nat.reduceLeDiff, Nat.reduceLT, fn_transitref31_Equal, e38_1, w38_1, e38_3, w38_3, c38_4, c38_5]
  refine ifD (fun h10 => ?_) (fun h10 => ?_)
  rotate_left
  · simp -implicitDefEqProofs (disch := omega) only [go_sem, Nat.reduceAdd, Nat.reduceMul, Nat.reduceSub, Nat.reduceBEq, Nat.reduceLeDiff, Nat.reduceLT, fn_transitref31_Equal, e38_1, w38_1, e38_3, w38_3, c38_4, c38_5]
    exact no (fun e => (own_eq.1 e).2.2.2.2.2.2.2.2.2.2.2.1) h10
  simp -implicitDefEqProofs (disch := omega) only [go_sem, Nat.reduceAdd, Nat.reduceMul, Nat.reduceSub, Nat.reduceBEq, Nat.reduceLeDiff, Nat.reduceLT, fn_transitref31_Equal, e38_1, w38_1, e38_3, w38_3, c38_4, c38_5]
  refine callP he ?_
  rintro v ⟨r, rfl, hr⟩
  simp -implicitDefEqProofs (disch := omega) only [go_sem, Nat.reduceAdd, Nat.reduceMul, Nat.reduceSub, Nat.reduceBEq, Nat.reduceLeDiff, Nat.reduceLT, fn_transitref31_Equal, e38_1, w38_1, e38_3, w38_3, c38_4, c38_5]
  refine ⟨r, rfl, hr.trans ⟨fun h => own_eq.2 ⟨h1, h2, h3, h4, h5, h6.1, h6.2.1, h6.2.2, h7, h8, h9, h10, h⟩, fun e => (own_eq.1 e).2.2.2.2.2.2.2.2.2.2.2.2⟩⟩
theorem msg_at {l : List Msg} {i : Nat} {x : Msg} (h : l[i]? = some x) : (l.map Msg.row)[i]? = some [.int .i64 x.src, .int .i64 x.seq, .int .i64 x.iss, .int .i64 x.exp, .int .i64 x.kind, .str x.trip, .int .i64 x.day, .int .i64 x.inst, .int .i64 x.callNo, .int .i64 x.secs, .int .i64 x.route, .bool x.free, .slice (x.calls.map Stay.row) x.tag] := by rw [List.getElem?_map, h]; rfl

def lowB (l : List Msg) (m : Msg) : Bool := l.any fun x => sameT x m && decide (x.src < m.src)
theorem Same_ok (a b : List Msg) (c d : Cap) (ha : a.length ≤ 1000) (hc : ∀ x ∈ a, x.calls.length ≤ 1000) : PCalls PR i_transitref32_Same [.slice (a.map Msg.row) c, .slice (b.map Msg.row) d] (fun v => ∃ r : Bool, v = .bool r ∧ (r = true ↔ a.map Msg.own = b.map Msg.own)) := by
  refine acalls_pop fn_transitref32_Same_ok (by simp [fn_transitref32_Same]) ?_
  simp -implicitDefEqProofs (disch := omega) only [go_sem, Nat.reduceAdd, Nat.reduceMul, Nat.reduceSub, Nat.reduceBEq, Nat.reduceLeDiff, Nat.reduceLT, fn_transitref32_Same, e17_1, w17_1, e17_3, w17_3, c17_4, e17_6, w17_6, e17_8, w17_8, e17_10, w17_10, e17_12, w17_12, c17_13, e17_15, w17_15, c17_16, e17_18, w17_18, c17_19, c17_20, c17_21, c17_22, c17_23, e17_25, w17_25, c17_26, c17_27, c17_28, c17_29]
  refine ifD (fun h => ?_) (fun h => ?_)
  rotate_left
  · simp -implicitDefEqProofs (disch := omega) only [go_sem, Nat.reduceAdd, Nat.reduceMul, Nat.reduceSub, Nat.reduceBEq, Nat.reduceLeDiff, Nat.reduceLT, fn_transitref32_Same, e17_1, w17_1, e17_3, w17_3, c17_4, e17_6, w17_6, e17_8, w17_8, e17_10, w17_10, e17_12, w17_12, c17_13, e17_15, w17_15, c17_16, e17_18, w17_18, c17_19, c17_20, c17_21, c17_22, c17_23, e17_25, w17_25, c17_26, c17_27, c17_28, c17_29]
    refine ⟨false, rfl, ?_⟩
    simp
    intro e
    have := congrArg List.length e
    simp at this
    omega
  have hlen : a.length = b.length := by omega
  simp -implicitDefEqProofs (disch := omega) only [go_sem, Nat.reduceAdd, Nat.reduceMul, Nat.reduceSub, Nat.reduceBEq, Nat.reduceLeDiff, Nat.reduceLT, fn_transitref32_Same, e17_1, w17_1, e17_3, w17_3, c17_4, e17_6, w17_6, e17_8, w17_8, e17_10, w17_10, e17_12, w17_12, c17_13, e17_15, w17_15, c17_16, e17_18, w17_18, c17_19, c17_20, c17_21, c17_22, c17_23, e17_25, w17_25, c17_26, c17_27, c17_28, c17_29]
  refine wpC_forL a (fun i vs M => (a.take i).map Msg.own = (b.take i).map Msg.own ∧ vs = [.slice (a.map Msg.row) c, .slice (b.map Msg.row) d, .int .i64 i] ∧ M = []) ⟨rfl, rfl, rfl⟩ ?_ ?_
  · rintro i x vs M hx hi hd ⟨hall, rfl, rfl⟩
    obtain ⟨y, hy⟩ : ∃ y, b[i]? = some y := ⟨b[i]'(by omega), by simp⟩
    have he := transitref31_Equal_ok x y (hc x (List.mem_of_getElem? hx))
    simp only [Msg.row] at he
    simp -implicitDefEqProofs (disch := omega) only [go_sem, Nat.reduceAdd, Nat.reduceMul, Nat.reduceSub, Nat.reduceBEq, Nat.reduceLeDiff, Nat.reduceLT, fn_transitref32_Same, e17_1, w17_1, e17_3, w17_3, c17_4, e17_6, w17_6, e17_8, w17_8, e17_10, w17_10, e17_12, w17_12, c17_13, e17_15, w17_15, c17_16, e17_18, w17_18, c17_19, c17_20, c17_21, c17_22, c17_23, e17_25, w17_25, c17_26, c17_27, c17_28, c17_29, hd, msg_at hx, msg_at hy]
    refine callP he ?_
    rintro v ⟨r, rfl, hr⟩
    simp -implicitDefEqProofs (disch := omega) only [go_sem, Nat.reduceAdd, Nat.reduceMul, Nat.reduceSub, Nat.reduceBEq, Nat.reduceLeDiff, Nat.reduceLT, fn_transitref32_Same, e17_1, w17_1, e17_3, w17_3, c17_4, e17_6, w17_6, e17_8, w17_8, e17_10, w17_10, e17_12, w17_12, c17_13, e17_15, w17_15, c17_16, e17_18, w17_18, c17_19, c17_20, c17_21, c17_22, c17_23, e17_25, w17_25, c17_26, c17_27, c17_28, c17_29]
    refine ifB (fun h2 => ?_) (fun h2 => ?_)
    · simp -implicitDefEqProofs (disch := omega) only [go_sem, Nat.reduceAdd, Nat.reduceMul, Nat.reduceSub, Nat.reduceBEq, Nat.reduceLeDiff, Nat.reduceLT, fn_transitref32_Same, e17_1, w17_1, e17_3, w17_3, c17_4, e17_6, w17_6, e17_8, w17_8, e17_10, w17_10, e17_12, w17_12, c17_13, e17_15, w17_15, c17_16, e17_18, w17_18, c17_19, c17_20, c17_21, c17_22, c17_23, e17_25, w17_25, c17_26, c17_27, c17_28, c17_29]
      refine next_stay hi ⟨?_, rfl, rfl⟩
      rw [List.take_add_one, List.take_add_one, hx, hy, List.map_append, List.map_append, hall]
      simp [hr.1 h2]
    · simp -implicitDefEqProofs (disch := omega) only [go_sem, Nat.reduceAdd, Nat.reduceMul, Nat.reduceSub, Nat.reduceBEq, Nat.reduceLeDiff, Nat.reduceLT, fn_transitref32_Same, e17_1, w17_1, e17_3, w17_3, c17_4, e17_6, w17_6, e17_8, w17_8, e17_10, w17_10, e17_12, w17_12, c17_13, e17_15, w17_15, c17_16, e17_18, w17_18, c17_19, c17_20, c17_21, c17_22, c17_23, e17_25, w17_25, c17_26, c17_27, c17_28, c17_29]
      refine ⟨false, rfl, ?_⟩
      simp
      intro e
      have t := congrArg (fun l => l[i]?) e
      simp only [List.getElem?_map, hx, hy, Option.map_some, Option.some.injEq] at t
      rw [hr.2 t] at h2
      cases h2
  · rintro vs M ⟨hall, rfl, rfl⟩
    rw [List.take_length, hlen, List.take_length] at hall
    simp -implicitDefEqProofs (disch := omega) only [go_sem, Nat.reduceAdd, Nat.reduceMul, Nat.reduceSub, Nat.reduceBEq, Nat.reduceLeDiff, Nat.reduceLT, fn_transitref32_Same, e17_1, w17_1, e17_3, w17_3, c17_4, e17_6, w17_6, e17_8, w17_8, e17_10, w17_10, e17_12, w17_12, c17_13, e17_15, w17_15, c17_16, e17_18, w17_18, c17_19, c17_20, c17_21, c17_22, c17_23, e17_25, w17_25, c17_26, c17_27, c17_28, c17_29, dec_irrefl]
    exact ⟨true, rfl, by simp [hall]⟩

end Go.Vm.C

