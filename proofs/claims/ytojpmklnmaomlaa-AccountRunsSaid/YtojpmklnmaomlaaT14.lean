/- What the arguments read as; what is spent stays small. -/
import Derived.Test.YtojpmklnmaomlaaT13

namespace Go.Vm.C
open Go.Vm
set_option maxHeartbeats 1000000
set_option maxRecDepth 10000
set_option linter.unusedSimpArgs false
set_option linter.unusedVariables false

/-! ### What the arguments read as -/
def ctProduct : List CT := [.str, .int .i64, .int .i64, .int .i64, .int .i64, .int .i64]
def ctRide : List CT := [.int .i64, .int .i64, .int .i64, .int .i64]
def ctFares : List CT := [.slice ctProduct, .int .i64, .int .i64, .int .i64]

theorem read_product {vs : List V} (h : HasR ctProduct vs) : ∃ p : Product, vs = p.row ∧ p.wf := by
  obtain ⟨_, _, rfl, h1, h⟩ := hasR_cons h
  obtain ⟨_, _, rfl, h2, h⟩ := hasR_cons h
  obtain ⟨_, _, rfl, h3, h⟩ := hasR_cons h
  obtain ⟨_, _, rfl, h4, h⟩ := hasR_cons h
  obtain ⟨_, _, rfl, h5, h⟩ := hasR_cons h
  obtain ⟨_, _, rfl, h6, h⟩ := hasR_cons h
  cases hasR_nil h
  obtain ⟨s, rfl, hs⟩ := hasC_str h1
  obtain ⟨a, rfl, ha⟩ := hasC_i64 h2
  obtain ⟨b, rfl, hb⟩ := hasC_i64 h3
  obtain ⟨c, rfl, hc⟩ := hasC_i64 h4
  obtain ⟨d, rfl, hd⟩ := hasC_i64 h5
  obtain ⟨e, rfl, he⟩ := hasC_i64 h6
  exact ⟨⟨s, a, b, c, d, e⟩, rfl, hs, ha, hb, hc, hd, he⟩

theorem read_ride {vs : List V} (h : HasR ctRide vs) : ∃ r : Ride, vs = r.row ∧ r.wf := by
  obtain ⟨_, _, rfl, h1, h⟩ := hasR_cons h
  obtain ⟨_, _, rfl, h2, h⟩ := hasR_cons h
  obtain ⟨_, _, rfl, h3, h⟩ := hasR_cons h
  obtain ⟨_, _, rfl, h4, h⟩ := hasR_cons h
  cases hasR_nil h
  obtain ⟨a, rfl, ha⟩ := hasC_i64 h1
  obtain ⟨b, rfl, hb⟩ := hasC_i64 h2
  obtain ⟨c, rfl, hc⟩ := hasC_i64 h3
  obtain ⟨d, rfl, hd⟩ := hasC_i64 h4
  exact ⟨⟨a, b, c, d⟩, rfl, ha, hb, hc, hd⟩

theorem read_rides {v : V} (h : HasC (.slice ctRide) v) : ∃ (l : List Ride) (c : Cap), v = .slice (l.map Ride.row) c ∧ (∀ r ∈ l, r.wf) ∧ l.length ≤ maxLen := by
  obtain ⟨l, c, rfl, hl, hlen, _⟩ := hasC_slice (fun vs h => read_ride h) h
  exact ⟨l, c, rfl, hl, hlen⟩

/-! ### The statements' functions -/
/-! ### The cap -/
def Within (L : List (Int × Int)) (B : Int) : Prop := ∀ d, 0 ≤ spentOn L d ∧ spentOn L d ≤ B
theorem within_nil {B : Int} (h : 0 ≤ B) : Within [] B := fun d => ⟨Int.le_refl 0, h⟩
theorem within_set {L : List (Int × Int)} {B d n : Int} (h : Within L B) (h0 : 0 ≤ n) (h1 : n ≤ B) : Within (setL L d n) B := by
  intro e
  rw [spentOn_set]
  split
  · exact ⟨h0, h1⟩
  · exact h e
theorem refund_within {L : List (Int × Int)} {B : Int} (h : Within L B) (d n : Int) : Within (refundRes L d n).2 B := by
  unfold refundRes
  cases hg : getL L d with
  | none => exact h
  | some s =>
    have hs := h d
    simp only [spentOn, hg, Option.getD_some] at hs
    simp only
    split
    · exact h
    · exact within_set h (by omega) (by omega)
theorem charge_cap {f : Fares} (hc : (checkRes f).2 = 0) (h0 : f.limit ≠ 0) {L : List (Int × Int)} (h : Within L f.limit) (d : Int) (l : List Ride) : Within (chargeRes f L d l).2.2 f.limit := by
  unfold chargeRes
  split
  · exact h
  · split
    · exact h
    · have hs := h d
      have hr := ref_range (l := l) hc
      have e : chargeAmt f L d l = min (fareRes f l).1 (f.limit - spentOn L d) := by rw [chargeAmt, if_pos h0]
      exact within_set h (by rw [e]; omega) (by rw [e]; omega)
theorem do_cap {f : Fares} (hc : (checkRes f).2 = 0) (h0 : f.limit ≠ 0) {L : List (Int × Int)} (h : Within L f.limit) (o : Oper) : Within (doRes f L o).2.2 f.limit := by
  unfold doRes
  split
  · exact refund_within h _ _
  · exact charge_cap hc h0 h _ _
theorem From.first {b : Blk} {N : Mem} (h : From [b] N) : N[0]? = some b := by
  have h1 := h.take
  cases N with
  | nil => simp at h1
  | cons c N => simp at h1; simp [h1]
/-! ### What the arguments read as -/
def ctOper : List CT := [.int .i64, .slice ctRide, .bool, .int .i64]
theorem read_oper {vs : List V} (h : HasR ctOper vs) : ∃ o : Oper, vs = o.row ∧ o.wf := by
  obtain ⟨_, _, rfl, h1, h⟩ := hasR_cons h
  obtain ⟨_, _, rfl, h2, h⟩ := hasR_cons h
  obtain ⟨_, _, rfl, h3, h⟩ := hasR_cons h
  obtain ⟨_, _, rfl, h4, h⟩ := hasR_cons h
  cases hasR_nil h
  obtain ⟨a, rfl, ha⟩ := hasC_i64 h1
  obtain ⟨l, c, rfl, hl, hlen⟩ := read_rides h2
  obtain ⟨b, rfl⟩ := hasC_bool h3
  obtain ⟨d, rfl, hd⟩ := hasC_i64 h4
  exact ⟨⟨a, l, c, b, d⟩, rfl, ha, hl, hlen, hd⟩
theorem read_opers {v : V} (h : HasC (.slice ctOper) v) : ∃ (l : List Oper) (c : Cap), v = .slice (l.map Oper.row) c ∧ (∀ r ∈ l, r.wf) ∧ l.length ≤ maxLen := by
  obtain ⟨l, c, rfl, hl, hlen, _⟩ := hasC_slice (fun vs h => read_oper h) h
  exact ⟨l, c, rfl, hl, hlen⟩
theorem read_fares2 {vs : List V} (h : HasR ctFares vs) : ∃ f : Fares, vs = f.row ∧ f.wf ∧ (f.tag = .nil ∧ f.products = [] ∨ f.tag = .any ∨ f.tag = .full) := by
  obtain ⟨_, _, rfl, h1, h⟩ := hasR_cons h
  obtain ⟨_, _, rfl, h2, h⟩ := hasR_cons h
  obtain ⟨_, _, rfl, h3, h⟩ := hasR_cons h
  obtain ⟨_, _, rfl, h4, h⟩ := hasR_cons h
  cases hasR_nil h
  obtain ⟨l, c, rfl, hl, hlen, htag⟩ := hasC_slice (fun vs h => read_product h) h1
  obtain ⟨a, rfl, ha⟩ := hasC_i64 h2
  obtain ⟨b, rfl, hb⟩ := hasC_i64 h3
  obtain ⟨d, rfl, hd⟩ := hasC_i64 h4
  refine ⟨⟨l, c, a, b, d⟩, rfl, ⟨hl, hlen, ha, hb, hd⟩, ?_⟩
  rcases htag with h | h
  · exact .inl h
  · exact .inr (.inl h)

/-! ### What was spent is the sum of the charges less the refunds -/
def delta (f : Fares) (L : List (Int × Int)) (o : Oper) : Int :=
  if o.refund = true then (if (refundRes L o.day o.amount).1 = 0 then -o.amount else 0) else (if (chargeRes f L o.day o.rides).2.1 = 0 then (chargeRes f L o.day o.rides).1 else 0)
theorem charge_err {f : Fares} {L : List (Int × Int)} {d : Int} {l : List Ride} (h : (chargeRes f L d l).2.1 = 0) : (fareRes f l).2.2 = 0 ∧ (chargeRes f L d l).1 = chargeAmt f L d l ∧ (chargeRes f L d l).2.2 = setL L d (spentOn L d + chargeAmt f L d l) := by
  unfold chargeRes at h ⊢
  split at h
  · simp at h
  · rename_i h1
    split at h
    · rename_i h2; exact absurd h h2
    · rename_i h2
      rw [if_neg h1, if_neg h2]
      exact ⟨by simpa using h2, rfl, rfl⟩
theorem charge_bad {f : Fares} {L : List (Int × Int)} {d : Int} {l : List Ride} (h : (chargeRes f L d l).2.1 ≠ 0) : (chargeRes f L d l).2.2 = L := by
  unfold chargeRes at h ⊢
  split
  · rfl
  · rename_i h1
    split
    · rfl
    · rename_i h2
      rw [if_neg h1, if_neg h2] at h
      exact absurd rfl h
theorem do_spent (f : Fares) (L : List (Int × Int)) (o : Oper) (d : Int) : spentOn (doRes f L o).2.2 d = spentOn L d + if o.day = d then delta f L o else 0 := by
  unfold doRes delta
  by_cases hr : o.refund = true
  · rw [if_pos hr, if_pos hr]
    simp only
    unfold refundRes
    cases hg : getL L o.day with
    | none => simp
    | some s =>
      simp only
      split
      · simp
      · simp only [spentOn_set]
        by_cases hd : o.day = d
        · subst hd
          simp [spentOn, hg]
          omega
        · rw [if_neg (fun e => hd e.symm), if_neg hd]; omega
  · rw [if_neg hr, if_neg hr]
    by_cases he : (chargeRes f L o.day o.rides).2.1 = 0
    · obtain ⟨_, e1, e2⟩ := charge_err he
      rw [if_pos he, e1, e2, spentOn_set]
      by_cases hd : o.day = d
      · subst hd; simp
      · rw [if_neg (fun e => hd e.symm), if_neg hd]; omega
    · rw [if_neg he, charge_bad he]
      simp
theorem charge_amt {f : Fares} (hc : (checkRes f).2 = 0) {L : List (Int × Int)} (h2 : f.limit ≠ 0 → Within L f.limit) (d : Int) (l : List Ride) : 0 ≤ chargeAmt f L d l ∧ chargeAmt f L d l ≤ (fareRes f l).1 ∧ (chargeAmt f L d l < (fareRes f l).1 → f.limit ≠ 0 ∧ spentOn L d + chargeAmt f L d l = f.limit) := by
  have hr := ref_range (l := l) hc
  unfold chargeAmt
  split
  · rename_i h0
    have := h2 h0 d
    refine ⟨by omega, by omega, fun h => ⟨h0, by omega⟩⟩
  · exact ⟨hr.1, Int.le_refl _, fun h => by omega⟩
theorem do_within {f : Fares} (hc : (checkRes f).2 = 0) {L : List (Int × Int)} {B : Int} (h : Within L B) (h2 : f.limit ≠ 0 → Within L f.limit) (o : Oper) : Within (doRes f L o).2.2 (B + 9000000) ∧ (f.limit ≠ 0 → Within (doRes f L o).2.2 f.limit) := by
  refine ⟨fun d => ?_, fun h0 => do_cap hc h0 (h2 h0) o⟩
  have up : Within L (B + 9000000) := fun d => by have := h d; omega
  unfold doRes
  split
  · exact refund_within up _ _ d
  · by_cases he : (chargeRes f L o.day o.rides).2.1 = 0
    · obtain ⟨_, e1, e2⟩ := charge_err he
      have ha := charge_amt hc h2 o.day o.rides
      have hr := ref_range (l := o.rides) hc
      have hb := h o.day
      rw [e2]
      exact within_set up (by omega) (by omega) d
    · rw [charge_bad he]
      exact up d
/-- The sum of the first n of s at a day. -/
def dsum (l : List Oper) (s : List Int) (d : Int) : Nat → Int
  | 0 => 0
  | n + 1 => dsum l s d n + match l[n]?, s[n]? with
    | some o, some x => if o.day = d then x else 0
    | _, _ => 0
theorem dsum_set (l : List Oper) (s : List Int) (d : Int) (i : Nat) (x : Int) : ∀ n, n ≤ i → dsum l (s.set i x) d n = dsum l s d n
  | 0, _ => rfl
  | n + 1, h => by
    rw [dsum, dsum, dsum_set l s d i x n (by omega), List.getElem?_set_ne (by omega)]
theorem dsum_step {l : List Oper} {s : List Int} {i : Nat} {o : Oper} (d : Int) (x : Int) (ho : l[i]? = some o) (hs : i < s.length) : dsum l (s.set i x) d (i + 1) = dsum l s d i + if o.day = d then x else 0 := by
  rw [dsum, dsum_set l s d i x i (Nat.le_refl _), ho, List.getElem?_set_self hs]
def iRow (n : Int) : List V := [.int .i64 n]
theorem memUnder_setA (n : Nat) : ∀ (M : Mem) (i : Nat) (sz : Nat) (rows : List (List V)) (ver fz : Nat), memUnder n M = true → memUnder n (M.set i (.arr sz rows ver fz)) = true
  | [], i, sz, rows, ver, fz, h => by simpa using h
  | B :: M, 0, sz, rows, ver, fz, h => by
    simp only [memUnder, Bool.and_eq_true, List.set_cons_zero] at h ⊢
    exact ⟨rfl, h.2⟩
  | B :: M, i + 1, sz, rows, ver, fz, h => by
    simp only [memUnder, Bool.and_eq_true, List.set_cons_succ] at h ⊢
    exact ⟨h.1, memUnder_setA n M i sz rows ver fz h.2⟩
theorem Acc.arr {M : Mem} {f : Fares} {id mid sid : Nat} {L : List (Int × Int)} (h : Acc M f id mid L) (h1 : sid ≠ id) (h2 : sid ≠ mid) (sz : Nat) (rows : List (List V)) (ver fz : Nat) : Acc (M.set sid (.arr sz rows ver fz)) f id mid L :=
  ⟨by rw [List.length_set]; exact memUnder_setA _ _ _ _ _ _ _ h.own, by rw [List.getElem?_set_ne h1]; exact h.box, by rw [List.getElem?_set_ne h2]; exact h.ents, h.ne⟩
/-- Where the walk stands before the operation i. -/
structure Sit (f : Fares) (t : Cap) (b : Blk) (l : List Oper) (id mid sid i : Nat) (L : List (Int × Int)) (s : List Int) (M : Mem) : Prop where
  acc : Acc M ⟨f.products, t, f.discount, f.within, f.limit⟩ id mid L
  from' : From [b] M
  arr : M[sid]? = some (.arr 1 (s.map iRow) 0 0)
  len : s.length = l.length
  rest : ∀ k, i ≤ k → k < s.length → s[k]? = some 0
  sums : ∀ d, spentOn L d = dsum l s d i
  bound : Within L (9000000 * i)
  cap : f.limit ≠ 0 → Within L f.limit
  small : ∀ x ∈ s, -1000000000 ≤ x ∧ x ≤ 1000000000
theorem delta_small {f : Fares} (hc : (checkRes f).2 = 0) {L : List (Int × Int)} {B : Int} (h : Within L B) (hB : B ≤ 1000000000) (h2 : f.limit ≠ 0 → Within L f.limit) (o : Oper) : -1000000000 ≤ delta f L o ∧ delta f L o ≤ 1000000000 := by
  unfold delta
  split
  · split
    · rename_i h3
      have hb := h o.day
      unfold refundRes at h3
      cases hg : getL L o.day with
      | none => rw [hg] at h3; simp at h3
      | some s =>
        rw [hg] at h3
        simp only at h3
        simp only [spentOn, hg, Option.getD_some] at hb
        split at h3
        · simp at h3
        · omega
    · omega
  · split
    · rename_i h3
      have ha := charge_amt hc h2 o.day o.rides
      have hr := ref_range (l := o.rides) hc
      rw [(charge_err h3).2.1]
      omega
    · omega
theorem Sit.next {f : Fares} (hc : (checkRes f).2 = 0) {t : Cap} {b : Blk} {l : List Oper} {id mid sid i : Nat} {L : List (Int × Int)} {s : List Int} {M K : Mem} {o : Oper} (h : Sit f t b l id mid sid i L s M) (ho : l[i]? = some o) (hi : i < 40)
    (ha : Acc K ⟨f.products, t, f.discount, f.within, f.limit⟩ id mid (doRes f L o).2.2) (hf : From [b] K) (hr : K[sid]? = some (.arr 1 ((s.set i (delta f L o)).map iRow) 0 0)) : Sit f t b l id mid sid (i + 1) (doRes f L o).2.2 (s.set i (delta f L o)) K := by
  have hlt := (List.getElem?_eq_some_iff.1 ho).1
  have hw := do_within hc h.bound h.cap o
  have hsl := h.len
  refine ⟨ha, hf, hr, by rw [List.length_set]; exact h.len, ?_, ?_, ?_, hw.2, ?_⟩
  · intro k h1 h2
    rw [List.length_set] at h2
    rw [List.getElem?_set_ne (by omega)]
    exact h.rest k (by omega) h2
  · intro d
    rw [do_spent, dsum_step d _ ho (by omega), h.sums d]
  · have := hw.1
    rwa [show (9000000 : Int) * (i : Int) + 9000000 = 9000000 * ((i + 1 : Nat) : Int) by omega] at this
  · intro x hx
    rcases List.mem_or_eq_of_mem_set hx with h3 | h3
    · exact h.small x h3
    · subst h3
      exact delta_small hc h.bound (by omega) h.cap o

end Go.Vm.C

