/- The statement FarestateDominates: a state that dominates another one is never dearer. -/
import Derived.Test.YtfjihilnldjbeaaD13

namespace Go.Vm.C
open Go.Vm
set_option maxHeartbeats 1000000
set_option maxRecDepth 10000
set_option linter.unusedSimpArgs false
set_option linter.unusedVariables false

/-! ### A state that dominates another one is never dearer -/
theorem minus_zero {a b : Nat} : minus a b = 0 ↔ ∀ n, a.testBit n = true → b.testBit n = true := by
  constructor
  · intro h n hn
    have := minus_bit a b n
    rw [h, Nat.zero_testBit, hn] at this
    simpa using this.symm
  · intro h
    apply Nat.eq_of_testBit_eq
    intro n
    rw [minus_bit, Nat.zero_testBit]
    cases ha : a.testBit n with
    | false => rfl
    | true => rw [h n ha]; rfl
theorem part_cross {A M : List Ride} {j v : Nat} (hj : j ≤ A.length) : part (A ++ M) j (A.length + v) = A.drop j ++ M.take (v + 1) := by
  unfold part
  rw [List.drop_append_of_le_length hj, show A.length + v + 1 - j = (A.drop j).length + (v + 1) by rw [List.length_drop]; omega, List.take_length_add_append]
theorem part_app {A M : List Ride} {u v : Nat} : part (A ++ M) (A.length + u) (A.length + v) = part M u v := by
  unfold part
  rw [List.drop_length_add_append, show A.length + v + 1 - (A.length + u) = v + 1 - u by omega]
theorem app_right (A M : List Ride) (u : Nat) : (A ++ M)[A.length + u]? = M[u]? := by
  rw [List.getElem?_append_right (by omega), Nat.add_sub_cancel_left]
theorem app_left {A M : List Ride} {u : Nat} (h : u < A.length) : (A ++ M)[u]? = A[u]? := List.getElem?_append_left h
theorem ticket_app {f : Fares} {q : Product} {A M : List Ride} {u : Nat} (hu : 0 < u) : ticket f q (A ++ M) (A.length + u) = ticket f q M u := by
  unfold ticket
  rw [app_right, show A.length + u - 1 = A.length + (u - 1) by omega, app_right]
  split
  · simp only [show (0 < A.length + u) = True by simp; omega, show (0 < u) = True by simp; omega]
  · rfl
theorem ticket_left {f : Fares} {q : Product} {A M : List Ride} {j : Nat} (h : j < A.length) : ticket f q (A ++ M) j = ticket f q A j := by
  unfold ticket
  rw [app_left h, app_left (show j - 1 < A.length by omega)]
theorem div_off {f : Fares} {B M : List Ride} : ∀ (d : List Ticket) (u : Nat), 0 < u → Div f (B ++ M) (B.length + u) d → ∃ d', Div f M u d' ∧ total d' = total d
  | [], u, _, h => by
    simp only [Div, List.length_append] at h
    exact ⟨[], by simp only [Div]; omega, rfl⟩
  | t :: d, u, hu, h => by
    obtain ⟨p, k, q, rfl, h1, h2, h3, h4, h5⟩ := div_cons h
    obtain ⟨v, rfl⟩ : ∃ v, k = B.length + v := ⟨k - B.length, by omega⟩
    rw [part_app] at h4
    rw [List.length_append] at h3
    obtain ⟨d', g1, g2⟩ := div_off d (v + 1) (by omega) (by rw [← Nat.add_assoc]; exact h5)
    refine ⟨_, div_mk h1 (by omega) (by omega) h4 g1, ?_⟩
    rw [total_cons, total_cons, g2, ticket_app hu]
theorem div_on {f : Fares} {A M : List Ride} : ∀ (d : List Ticket) (u : Nat), 0 < u → Div f M u d → ∃ d', Div f (A ++ M) (A.length + u) d' ∧ total d' = total d
  | [], u, _, h => by
    simp only [Div] at h
    exact ⟨[], by simp only [Div, List.length_append]; omega, rfl⟩
  | t :: d, u, hu, h => by
    obtain ⟨p, v, q, rfl, h1, h2, h3, h4, h5⟩ := div_cons h
    obtain ⟨d', g1, g2⟩ := div_on (A := A) d (v + 1) (by omega) h5
    refine ⟨_, div_mk (l := A ++ M) (i := A.length + u) (k := A.length + v) h1 (by omega) (by rw [List.length_append]; omega) (by rw [part_app]; exact h4) (by rw [Nat.add_assoc]; exact g1), ?_⟩
    rw [total_cons, total_cons, g2, ticket_app hu]
/-- The same rides after other ones. -/
theorem div_shift {f : Fares} {A B M : List Ride} {d : List Ticket} {u : Nat} (hu : 0 < u) (h : Div f (B ++ M) (B.length + u) d) : ∃ d', Div f (A ++ M) (A.length + u) d' ∧ total d' = total d := by
  obtain ⟨d1, h1, h2⟩ := div_off d u hu h
  obtain ⟨d2, h3, h4⟩ := div_on (A := A) d1 u hu h1
  exact ⟨d2, h3, by omega⟩

/-- A division has a cut at n, or a ticket across it. -/
theorem div_split {f : Fares} {L : List Ride} {n : Nat} (hn : n ≤ L.length) : ∀ (d : List Ticket) (i : Nat), Div f L i d → i ≤ n →
    (∃ d0 d1, Div f (L.take n) i d0 ∧ Div f L n d1 ∧ total d = total d0 + total d1) ∨
    (∃ (d0 : List Ticket) (p : Nat) (q : Product) (j k : Nat) (d1 : List Ticket), i ≤ j ∧ j < n ∧ n ≤ k ∧ k < L.length ∧ f.products[p]? = some q ∧ Div f (L.take j) i d0 ∧ covers q (part L j k) = true ∧ Div f L (k + 1) d1 ∧ total d = total d0 + (ticket f q L j + total d1))
  | [], i, h, hi => by
    simp only [Div] at h
    refine .inl ⟨[], [], ?_, ?_, rfl⟩ <;> simp only [Div, List.length_take] <;> omega
  | t :: d, i, h, hi => by
    have h0 := h
    obtain ⟨p, k, q, rfl, h1, h2, h3, h4, h5⟩ := div_cons h
    by_cases hin : i = n
    · refine .inl ⟨[], _, by simp only [Div, List.length_take]; omega, by rw [← hin]; exact h0, ?_⟩
      simp [total]
    by_cases hkn : n ≤ k
    · refine .inr ⟨[], p, q, i, k, d, Nat.le_refl _, by omega, hkn, h3, h1, by simp only [Div, List.length_take]; omega, h4, h5, ?_⟩
      rw [total_cons]
      simp [total]
    rcases div_split hn d (k + 1) h5 (by omega) with ⟨d0, d1, g1, g2, g3⟩ | ⟨d0, p', q', j, k', d1, g1, g2, g3, g4, g5, g6, g7, g8, g9⟩
    · refine .inl ⟨_, d1, div_mk h1 h2 (by rw [List.length_take]; omega) (by rw [part_take (by omega)]; exact h4) g1, g2, ?_⟩
      rw [total_cons, total_cons, ticket_take (by omega), g3]; omega
    · refine .inr ⟨_, p', q', j, k', d1, by omega, g2, g3, g4, g5, div_mk h1 h2 (by rw [List.length_take]; omega) (by rw [part_take (by omega)]; exact h4) g6, g7, g8, ?_⟩
      rw [total_cons, total_cons, ticket_take (by omega), g9]; omega

theorem last_of {A : List Ride} (h : 0 < A.length) : A[A.length - 1]? = some (lastR A.reverse) := by
  cases hA : A.reverse with
  | nil => simp at hA; subst hA; simp at h
  | cons r rl =>
    have : A = (r :: rl).reverse := by rw [← hA, List.reverse_reverse]
    subst this
    simp [lastR]
theorem closed_true {f : Fares} {a b : Int} {n n' : Nat} {r r' : Ride} (h : closedB f a b n n' r r' = true) (hb : 0 ≤ b) : 0 ≤ a ∧ a ≤ b ∧ (f.discount = 0 ∨ n' = 0 ∨ a + f.discount ≤ b ∨ (0 < n ∧ r'.arrive ≤ r.arrive)) := by
  unfold closedB at h
  rw [if_neg (by omega)] at h
  split at h
  · simp at h
  · split at h
    · omega
    · simp only [Bool.and_eq_true, decide_eq_true_eq] at h
      omega
theorem part_self (l : List Ride) : part l 0 (l.length - 1) = l := by
  unfold part
  rw [List.drop_zero, List.take_of_length_le (by omega)]
/-- The price of the first ticket after other rides. -/
theorem ticket_at {f : Fares} {q : Product} {A M : List Ride} {m : Ride} (hm : M[0]? = some m) : ticket f q (A ++ M) A.length = if 0 < A.length ∧ m.depart - (lastR A.reverse).arrive ≤ f.within then max 0 (q.price - f.discount) else q.price := by
  rcases Nat.eq_zero_or_pos A.length with h | h
  · rw [h, ticket_zero, if_neg (by omega)]
  · unfold ticket
    have e := app_right A M 0
    rw [Nat.add_zero] at e
    rw [e, hm, app_left (by omega), last_of h]
theorem ticket_dom {f : Fares} (hok : f.Ok) {q : Product} {A B M : List Ride} (hq : 0 ≤ q.price) (hM : 0 < M.length) {a b : Int} (hab : a ≤ b) (h : f.discount = 0 ∨ B.length = 0 ∨ a + f.discount ≤ b ∨ (0 < A.length ∧ (lastR B.reverse).arrive ≤ (lastR A.reverse).arrive)) :
    a + ticket f q (A ++ M) A.length ≤ b + ticket f q (B ++ M) B.length := by
  obtain ⟨m, hm⟩ : ∃ m, M[0]? = some m := ⟨M[0], by simp [hM]⟩
  obtain ⟨d1, d2⟩ := hok.discount
  rw [ticket_at hm, ticket_at hm]
  split <;> split <;> omega

theorem dom_less {f : Fares} (hok : f.Ok) {A B M : List Ride} (hd : domL f f A.reverse B.reverse = true) (hB : 0 ≤ minSum f (B ++ M)) : 0 ≤ minSum f (A ++ M) ∧ minSum f (A ++ M) ≤ minSum f (B ++ M) := by
  rw [domL, Bool.and_eq_true] at hd
  obtain ⟨hcl, hop⟩ := hd
  rw [List.reverse_reverse, List.reverse_reverse] at hop
  simp only [closedL, List.reverse_reverse, List.length_reverse] at hcl
  obtain ⟨d, hdiv, htot⟩ := minSum_get hB
  have hAl : (A ++ M).take A.length = A := by simp
  have hBl : (B ++ M).take B.length = B := by simp
  rcases div_split (n := B.length) (by simp) d 0 hdiv (by omega) with ⟨d0, d1, g1, g2, g3⟩ | ⟨d0, p, q, i, k, d1, g1, g2, g3, g4, g5, g6, g7, g8, g9⟩
  · rw [hBl] at g1
    have hb := minSum_le hok g1
    obtain ⟨ha, hab, hdis⟩ := closed_true hcl hb.1
    obtain ⟨e, he, hte⟩ := minSum_get ha
    rw [← hAl] at he
    cases d1 with
    | nil =>
      simp only [Div, List.length_append] at g2
      have hM : M = [] := List.length_eq_zero_iff.1 (by omega)
      subst hM
      simp only [List.append_nil] at *
      have : total ([] : List Ticket) = 0 := rfl
      omega
    | cons t d1 =>
      obtain ⟨p, k, q, rfl, h1, h2, h3, h4, h5⟩ := div_cons g2
      obtain ⟨v, rfl⟩ : ∃ v, k = B.length + v := ⟨k - B.length, by omega⟩
      rw [List.length_append] at h3
      obtain ⟨d2, k1, k2⟩ := div_shift (A := A) (M := M) (by omega) (show Div f (B ++ M) (B.length + (v + 1)) d1 by rw [← Nat.add_assoc]; exact h5)
      have hq := (hok.prods q (List.mem_of_getElem? h1)).1
      have hcov : covers q (part (A ++ M) A.length (A.length + v)) = true := by
        have e1 := part_app (A := A) (M := M) (u := 0) (v := v)
        have e2 := part_app (A := B) (M := M) (u := 0) (v := v)
        rw [Nat.add_zero] at e1 e2
        rw [e1, ← e2]
        exact h4
      have k3 := div_mk (f := f) (l := A ++ M) (i := A.length) (k := A.length + v) h1 (by omega) (by rw [List.length_append]; omega) hcov (by rw [Nat.add_assoc]; exact k1)
      obtain ⟨d3, k4, k5⟩ := div_join k3 (by simp) e 0 he
      have k6 := minSum_le hok k4
      have k7 := ticket_dom hok hq.1 (show 0 < M.length by omega) (Int.le_trans hab hb.2) (q := q) (A := A) (B := B) (by rcases hdis with h | h | h | h <;> omega)
      rw [total_cons] at g3
      rw [total_cons] at k5
      simp only at g3 k5
      omega
  · have hTB : (B ++ M).take i = B.take i := by rw [List.take_append_of_le_length (by omega)]
    rw [hTB] at g6
    have hb := minSum_le hok g6
    obtain ⟨v, rfl⟩ : ∃ v, k = B.length + v := ⟨k - B.length, by omega⟩
    rw [List.length_append] at g4
    obtain ⟨rb, hrb⟩ : ∃ r, B[i]? = some r := ⟨B[i], by simp⟩
    obtain ⟨rm, hrm⟩ : ∃ r, M[v]? = some r := ⟨M[v], by simp⟩
    have hspB := span_part (l := B ++ M) (i := i) (k := B.length + v) (by omega) (by rw [List.length_append]; omega) (by rw [app_left g2]; exact hrb) (by rw [app_right]; exact hrm)
    have hplB := part_len (l := B ++ M) (i := i) (k := B.length + v) (by rw [List.length_append]; omega)
    obtain ⟨c1, c2, c3, c4, c5⟩ := covers_iff.1 g7
    rw [hplB] at c2
    rw [hspB] at c3
    rw [part_cross (by omega)] at c4 c5
    have hmB := minus_zero.1 c5
    have hx : openOf f B i p = some ⟨p, rb.depart, (B.length : Int) - i, minSum f (B.take i) + ticket f q B i, zonesOf (B.drop i)⟩ := by
      simp only [openOf, g5, hrb]
      rw [if_pos]
      refine ⟨by omega, ?_, ?_⟩
      · have : pop 64 (zonesOf (B.drop i)) ≤ pop 64 (zonesOf (B.drop i ++ M.take (v + 1))) := pop_mono fun n hn => by
          rw [zones_bit] at hn ⊢
          rw [List.any_append, hn]; rfl
        omega
      · refine minus_zero.2 fun n hn => hmB n ?_
        rw [modes_bit] at hn ⊢
        rw [List.any_append, hn]; rfl
    have hxm := opens_mem.2 ⟨i, p, g2, hb.1, hx⟩
    rw [openL, List.all_eq_true] at hop
    have := hop _ hxm
    rw [List.any_eq_true] at this
    obtain ⟨o, hom, hor⟩ := this
    obtain ⟨j, p', hj, hj0, ho⟩ := opens_mem.1 hom
    obtain ⟨ra, hra⟩ : ∃ r, A[j]? = some r := ⟨A[j], by simp⟩
    unfold openOf at ho
    rw [hra] at ho
    split at ho
    rotate_left
    · simp at ho
    rename_i q' r' hq' hr'
    simp only [Option.some.injEq] at hr'
    subst hr'
    split at ho
    rotate_left
    · simp at ho
    rename_i hcond
    simp only [Option.some.injEq] at ho
    subst ho
    simp only [replB, Bool.and_eq_true, decide_eq_true_eq] at hor
    obtain ⟨o1, o2, o3, o4, o5⟩ := hor
    have hpp : p' = p := by omega
    subst hpp
    rw [g5] at hq'
    simp only [Option.some.injEq] at hq'
    subst hq'
    have hz := minus_zero.1 o5
    have hmA := minus_zero.1 hcond.2.2
    have hcov : covers q (part (A ++ M) j (A.length + v)) = true := by
      have hspA := span_part (l := A ++ M) (i := j) (k := A.length + v) (by omega) (by rw [List.length_append]; omega) (by rw [app_left hj]; exact hra) (by rw [app_right]; exact hrm)
      have hplA := part_len (l := A ++ M) (i := j) (k := A.length + v) (by rw [List.length_append]; omega)
      refine covers_iff.2 ⟨by rw [hplA]; omega, by rw [hplA]; omega, by rw [hspA]; omega, ?_, ?_⟩
      · rw [part_cross (by omega)]
        have : pop 64 (zonesOf (A.drop j ++ M.take (v + 1))) ≤ pop 64 (zonesOf (B.drop i ++ M.take (v + 1))) := pop_mono fun n hn => by
          rw [zones_bit, List.any_append, Bool.or_eq_true] at hn ⊢
          rcases hn with hn | hn
          · left
            rw [← zones_bit] at hn ⊢
            exact hz n hn
          · exact .inr hn
        omega
      · rw [part_cross (by omega)]
        refine minus_zero.2 fun n hn => ?_
        rw [modes_bit, List.any_append, Bool.or_eq_true] at hn
        rcases hn with hn | hn
        · exact hmA n (by rw [modes_bit]; exact hn)
        · exact hmB n (by rw [modes_bit, List.any_append, hn, Bool.or_true])
    obtain ⟨d2, k1, k2⟩ := div_shift (A := A) (M := M) (by omega) (show Div f (B ++ M) (B.length + (v + 1)) d1 by rw [← Nat.add_assoc]; exact g8)
    have k3 := div_mk (f := f) (l := A ++ M) (i := j) (k := A.length + v) g5 (by omega) (by rw [List.length_append]; omega) hcov (by rw [Nat.add_assoc]; exact k1)
    obtain ⟨e, he, hte⟩ := minSum_get hj0
    have hTA : (A ++ M).take j = A.take j := by rw [List.take_append_of_le_length (by omega)]
    rw [← hTA] at he
    obtain ⟨d3, k4, k5⟩ := div_join k3 (by rw [List.length_append]; omega) e 0 he
    have k6 := minSum_le hok k4
    rw [total_cons, ticket_left hj] at k5
    rw [ticket_left g2] at g9
    simp only at o4 k5
    omega

def ctRides : List CT := [.slice ctRide, .slice ctRide, .slice ctRide]
theorem joined_ok (a b : List Ride) (c d : Cap) (h : a.length + b.length ≤ 8) : PCalls PR i_transitref36_joined [.slice (a.map Ride.row) c, .slice (b.map Ride.row) d] (fun v => v = .slice ((a ++ b).map Ride.row) .unk) := by
  have h1 := headLen_map (f := Ride.row) (n := 4) (fun r => rfl) a
  have h2 := headLen_map (f := Ride.row) (n := 4) (fun r => rfl) b
  refine acalls_pop fn_transitref36_joined_ok (by simp [fn_transitref36_joined]) ?_
  simp -implicitDefEqProofs (disch := omega) only [go_sem, Nat.reduceAdd, Nat.reduceMul, Nat.reduceSub, Nat.reduceBEq, Nat.reduceLeDiff, Nat.reduceLT, fn_transitref36_joined, e33_1, w33_1, e33_3, w33_3, e33_5, w33_5, e33_7, w33_7, c33_8, c33_9, c33_10, c33_11, h1, h2]
  rw [List.map_append, List.take_of_length_le (by simp)]
theorem Holds_ok (f : Fares) (a b m : List Ride) (c1 c2 c3 : Cap) (hf : f.wf) (ha : ∀ x ∈ a, x.wf) (hb : ∀ x ∈ b, x.wf) (hm : ∀ x ∈ m, x.wf) (la : a.length ≤ 8) (lb : b.length ≤ 8) (lm : m.length ≤ 8)
    (hle : ∀ (_ : a.length + m.length ≤ 8) (_ : b.length + m.length ≤ 8), (refPrice f (b ++ m)).2 = true → (refPrice f (a ++ m)).2 = true ∧ (refPrice f (a ++ m)).1 ≤ (refPrice f (b ++ m)).1) :
    PCalls PR i_transitref36_Holds [.agg f.row, .slice (a.map Ride.row) c1, .slice (b.map Ride.row) c2, .slice (m.map Ride.row) c3] (fun v => v = .bool true) := by
  have hmx : maxLen = 9223372036854775807 := by rfl
  refine acalls_pop fn_transitref36_Holds_ok (by simp [fn_transitref36_Holds]) ?_
  simp -implicitDefEqProofs (disch := omega) only [go_sem, Nat.reduceAdd, Nat.reduceMul, Nat.reduceSub, Nat.reduceBEq, Nat.reduceLeDiff, Nat.reduceLT, fn_transitref36_Holds, e20_1, w20_1, e20_3, w20_3, c20_4, e20_6, w20_6, e20_8, w20_8, e20_10, w20_10, e20_12, w20_12, c20_13, c20_14, c20_15, c20_16, c20_17, Fares.row]
  refine ifD (fun h1 => ?_) (fun h1 => ?_)
  · simp -implicitDefEqProofs (disch := omega) only [go_sem, Nat.reduceAdd, Nat.reduceMul, Nat.reduceSub, Nat.reduceBEq, Nat.reduceLeDiff, Nat.reduceLT, fn_transitref36_Holds, e20_1, w20_1, e20_3, w20_3, c20_4, e20_6, w20_6, e20_8, w20_8, e20_10, w20_10, e20_12, w20_12, c20_13, c20_14, c20_15, c20_16, c20_17]
  simp -implicitDefEqProofs (disch := omega) only [go_sem, Nat.reduceAdd, Nat.reduceMul, Nat.reduceSub, Nat.reduceBEq, Nat.reduceLeDiff, Nat.reduceLT, fn_transitref36_Holds, e20_1, w20_1, e20_3, w20_3, c20_4, e20_6, w20_6, e20_8, w20_8, e20_10, w20_10, e20_12, w20_12, c20_13, c20_14, c20_15, c20_16, c20_17]
  refine ifD (fun h2 => ?_) (fun h2 => ?_)
  · simp -implicitDefEqProofs (disch := omega) only [go_sem, Nat.reduceAdd, Nat.reduceMul, Nat.reduceSub, Nat.reduceBEq, Nat.reduceLeDiff, Nat.reduceLT, fn_transitref36_Holds, e20_1, w20_1, e20_3, w20_3, c20_4, e20_6, w20_6, e20_8, w20_8, e20_10, w20_10, e20_12, w20_12, c20_13, c20_14, c20_15, c20_16, c20_17]
  have hle := hle (by omega) (by omega)
  have hwa : ∀ x ∈ a ++ m, x.wf := fun x hx => (List.mem_append.1 hx).elim (ha x) (hm x)
  have hwb : ∀ x ∈ b ++ m, x.wf := fun x hx => (List.mem_append.1 hx).elim (hb x) (hm x)
  simp -implicitDefEqProofs (disch := omega) only [go_sem, Nat.reduceAdd, Nat.reduceMul, Nat.reduceSub, Nat.reduceBEq, Nat.reduceLeDiff, Nat.reduceLT, fn_transitref36_Holds, e20_1, w20_1, e20_3, w20_3, c20_4, e20_6, w20_6, e20_8, w20_8, e20_10, w20_10, e20_12, w20_12, c20_13, c20_14, c20_15, c20_16, c20_17, Fares.row]
  first | refine callD (joined_ok a m _ _ (by omega)) ?_ | refine callQD (joined_ok a m _ _ (by omega)) ?_
  first | refine callD (ref36_Price_ok f (a ++ m) _ hf hwa) ?_ | refine callQD (ref36_Price_ok f (a ++ m) _ hf hwa) ?_
  simp -implicitDefEqProofs (disch := omega) only [go_sem, Nat.reduceAdd, Nat.reduceMul, Nat.reduceSub, Nat.reduceBEq, Nat.reduceLeDiff, Nat.reduceLT, fn_transitref36_Holds, e20_1, w20_1, e20_3, w20_3, c20_4, e20_6, w20_6, e20_8, w20_8, e20_10, w20_10, e20_12, w20_12, c20_13, c20_14, c20_15, c20_16, c20_17, Fares.row, prV]
  first | refine callD (joined_ok b m _ _ (by omega)) ?_ | refine callQD (joined_ok b m _ _ (by omega)) ?_
  first | refine callD (ref36_Price_ok f (b ++ m) _ hf hwb) ?_ | refine callQD (ref36_Price_ok f (b ++ m) _ hf hwb) ?_
  simp -implicitDefEqProofs (disch := omega) only [go_sem, Nat.reduceAdd, Nat.reduceMul, Nat.reduceSub, Nat.reduceBEq, Nat.reduceLeDiff, Nat.reduceLT, fn_transitref36_Holds, e20_1, w20_1, e20_3, w20_3, c20_4, e20_6, w20_6, e20_8, w20_8, e20_10, w20_10, e20_12, w20_12, c20_13, c20_14, c20_15, c20_16, c20_17, Fares.row, prV]
  refine ifB (fun h3 => ?_) (fun h3 => ?_)
  rotate_left
  · simp -implicitDefEqProofs (disch := omega) only [go_sem, Nat.reduceAdd, Nat.reduceMul, Nat.reduceSub, Nat.reduceBEq, Nat.reduceLeDiff, Nat.reduceLT, fn_transitref36_Holds, e20_1, w20_1, e20_3, w20_3, c20_4, e20_6, w20_6, e20_8, w20_8, e20_10, w20_10, e20_12, w20_12, c20_13, c20_14, c20_15, c20_16, c20_17, Fares.row]
  obtain ⟨g1, g2⟩ := hle h3
  simp -implicitDefEqProofs (disch := omega) only [go_sem, Nat.reduceAdd, Nat.reduceMul, Nat.reduceSub, Nat.reduceBEq, Nat.reduceLeDiff, Nat.reduceLT, fn_transitref36_Holds, e20_1, w20_1, e20_3, w20_3, c20_4, e20_6, w20_6, e20_8, w20_8, e20_10, w20_10, e20_12, w20_12, c20_13, c20_14, c20_15, c20_16, c20_17, Fares.row, g1]
  exact decide_eq_true g2
theorem price_dom {f : Fares} (hc : (checkRes f).2 = 0) {A B M : List Ride} (hA : A.length + M.length ≤ 8) (hB : B.length + M.length ≤ 8) (hd : domL f f A.reverse B.reverse = true) (h : (refPrice f (B ++ M)).2 = true) :
    (refPrice f (A ++ M)).2 = true ∧ (refPrice f (A ++ M)).1 ≤ (refPrice f (B ++ M)).1 := by
  have hok := checkRes_ok hc
  obtain ⟨l1, l2⟩ := hok.limit
  have eB := price_eq (l := B ++ M) hc (by rw [List.length_append]; exact hB)
  have eA := price_eq (l := A ++ M) hc (by rw [List.length_append]; exact hA)
  rw [← eB] at h ⊢
  rw [← eA]
  have hs : 0 ≤ minSum f (B ++ M) := by
    rcases Int.lt_or_le (minSum f (B ++ M)) 0 with h0 | h0
    · rw [statePrice, if_pos h0] at h; simp at h
    · exact h0
  obtain ⟨h1, h2⟩ := dom_less hok hd hs
  simp only [statePrice, if_neg (show ¬ minSum f (B ++ M) < 0 by omega), if_neg (show ¬ minSum f (A ++ M) < 0 by omega)]
  split <;> split <;> simp <;> omega
theorem FarestateDominates_law (f : Fares) (a b m : List Ride) (c1 c2 c3 : Cap) (hf : f.wf) (ha : ∀ x ∈ a, x.wf) (hb : ∀ x ∈ b, x.wf) (hm : ∀ x ∈ m, x.wf) (la : a.length ≤ maxLen) (lb : b.length ≤ maxLen) (lm : m.length ≤ maxLen) :
    PCalls PR i_transitlaw36_FarestateDominates [.agg f.row, .agg [.slice (a.map Ride.row) c1, .slice (b.map Ride.row) c2, .slice (m.map Ride.row) c3]] (fun v => v = .bool true) := by
  have hown : Own [.box f.row, .box [.slice (a.map Ride.row) c1, .slice (b.map Ride.row) c2, .slice (m.map Ride.row) c3]] := by simp [Own, memUnder, Blk.under, underL, V.under, Fares.row]
  have hex : ∀ {N : Mem}, Own N → ACalls PR i_transitlaw36_exampleHolds [] N (fun v M' => v = .bool true ∧ M' = N) := fun h => exampleHolds_ok h
  have hgx : ([.box f.row, .box [.slice (a.map Ride.row) c1, .slice (b.map Ride.row) c2, .slice (m.map Ride.row) c3]] : Mem)[1]? = some (.box [.slice (a.map Ride.row) c1, .slice (b.map Ride.row) c2, .slice (m.map Ride.row) c3]) := rfl
  have hfx : ([.box f.row, .box [.slice (a.map Ride.row) c1, .slice (b.map Ride.row) c2, .slice (m.map Ride.row) c3]] : Mem)[0]? = some (.box f.row) := rfl
  simp only [Fares.row] at hown hgx hfx
  refine acalls_pop fn_transitlaw36_FarestateDominates_ok (by simp [fn_transitlaw36_FarestateDominates]) ?_
  simp -implicitDefEqProofs (disch := omega) only [go_sem, Nat.reduceAdd, Nat.reduceMul, Nat.reduceSub, Nat.reduceBEq, Nat.reduceLeDiff, Nat.reduceLT, fn_transitlaw36_FarestateDominates, e7_1, w7_1, e7_3, w7_3, c7_4, e7_6, w7_6, e7_8, w7_8, e7_10, w7_10, e7_12, w7_12, c7_13, e7_15, w7_15, e7_17, w7_17, c7_18, e7_20, w7_20, e7_22, w7_22, c7_23, c7_24, c7_25, c7_26, c7_27, c7_28, c7_29, Fares.row]
  first | refine callD (small36_ok f hf) ?_ | refine callQD (small36_ok f hf) ?_
  simp -implicitDefEqProofs (disch := omega) only [go_sem, Nat.reduceAdd, Nat.reduceMul, Nat.reduceSub, Nat.reduceBEq, Nat.reduceLeDiff, Nat.reduceLT, fn_transitlaw36_FarestateDominates, e7_1, w7_1, e7_3, w7_3, c7_4, e7_6, w7_6, e7_8, w7_8, e7_10, w7_10, e7_12, w7_12, c7_13, e7_15, w7_15, e7_17, w7_17, c7_18, e7_20, w7_20, e7_22, w7_22, c7_23, c7_24, c7_25, c7_26, c7_27, c7_28, c7_29, Fares.row]
  refine ifB (fun h1 => ?_) (fun h1 => ?_)
  rotate_left
  · simp -implicitDefEqProofs (disch := omega) only [go_sem, Nat.reduceAdd, Nat.reduceMul, Nat.reduceSub, Nat.reduceBEq, Nat.reduceLeDiff, Nat.reduceLT, fn_transitlaw36_FarestateDominates, e7_1, w7_1, e7_3, w7_3, c7_4, e7_6, w7_6, e7_8, w7_8, e7_10, w7_10, e7_12, w7_12, c7_13, e7_15, w7_15, e7_17, w7_17, c7_18, e7_20, w7_20, e7_22, w7_22, c7_23, c7_24, c7_25, c7_26, c7_27, c7_28, c7_29]
    refine callA (hex hown) ?_
    rintro v N ⟨rfl, rfl⟩
    simp -implicitDefEqProofs (disch := omega) only [go_sem, Nat.reduceAdd, Nat.reduceMul, Nat.reduceSub, Nat.reduceBEq, Nat.reduceLeDiff, Nat.reduceLT, fn_transitlaw36_FarestateDominates, e7_1, w7_1, e7_3, w7_3, c7_4, e7_6, w7_6, e7_8, w7_8, e7_10, w7_10, e7_12, w7_12, c7_13, e7_15, w7_15, e7_17, w7_17, c7_18, e7_20, w7_20, e7_22, w7_22, c7_23, c7_24, c7_25, c7_26, c7_27, c7_28, c7_29]
  simp -implicitDefEqProofs (disch := omega) only [go_sem, Nat.reduceAdd, Nat.reduceMul, Nat.reduceSub, Nat.reduceBEq, Nat.reduceLeDiff, Nat.reduceLT, fn_transitlaw36_FarestateDominates, e7_1, w7_1, e7_3, w7_3, c7_4, e7_6, w7_6, e7_8, w7_8, e7_10, w7_10, e7_12, w7_12, c7_13, e7_15, w7_15, e7_17, w7_17, c7_18, e7_20, w7_20, e7_22, w7_22, c7_23, c7_24, c7_25, c7_26, c7_27, c7_28, c7_29, Fares.row]
  refine ifD (fun h2 => ?_) (fun h2 => ?_)
  · simp -implicitDefEqProofs (disch := omega) only [go_sem, Nat.reduceAdd, Nat.reduceMul, Nat.reduceSub, Nat.reduceBEq, Nat.reduceLeDiff, Nat.reduceLT, fn_transitlaw36_FarestateDominates, e7_1, w7_1, e7_3, w7_3, c7_4, e7_6, w7_6, e7_8, w7_8, e7_10, w7_10, e7_12, w7_12, c7_13, e7_15, w7_15, e7_17, w7_17, c7_18, e7_20, w7_20, e7_22, w7_22, c7_23, c7_24, c7_25, c7_26, c7_27, c7_28, c7_29]
    refine callA (hex hown) ?_
    rintro v N ⟨rfl, rfl⟩
    simp -implicitDefEqProofs (disch := omega) only [go_sem, Nat.reduceAdd, Nat.reduceMul, Nat.reduceSub, Nat.reduceBEq, Nat.reduceLeDiff, Nat.reduceLT, fn_transitlaw36_FarestateDominates, e7_1, w7_1, e7_3, w7_3, c7_4, e7_6, w7_6, e7_8, w7_8, e7_10, w7_10, e7_12, w7_12, c7_13, e7_15, w7_15, e7_17, w7_17, c7_18, e7_20, w7_20, e7_22, w7_22, c7_23, c7_24, c7_25, c7_26, c7_27, c7_28, c7_29]
  simp -implicitDefEqProofs (disch := omega) only [go_sem, Nat.reduceAdd, Nat.reduceMul, Nat.reduceSub, Nat.reduceBEq, Nat.reduceLeDiff, Nat.reduceLT, fn_transitlaw36_FarestateDominates, e7_1, w7_1, e7_3, w7_3, c7_4, e7_6, w7_6, e7_8, w7_8, e7_10, w7_10, e7_12, w7_12, c7_13, e7_15, w7_15, e7_17, w7_17, c7_18, e7_20, w7_20, e7_22, w7_22, c7_23, c7_24, c7_25, c7_26, c7_27, c7_28, c7_29, Fares.row]
  refine ifD (fun h4 => ?_) (fun h4 => ?_)
  · simp -implicitDefEqProofs (disch := omega) only [go_sem, Nat.reduceAdd, Nat.reduceMul, Nat.reduceSub, Nat.reduceBEq, Nat.reduceLeDiff, Nat.reduceLT, fn_transitlaw36_FarestateDominates, e7_1, w7_1, e7_3, w7_3, c7_4, e7_6, w7_6, e7_8, w7_8, e7_10, w7_10, e7_12, w7_12, c7_13, e7_15, w7_15, e7_17, w7_17, c7_18, e7_20, w7_20, e7_22, w7_22, c7_23, c7_24, c7_25, c7_26, c7_27, c7_28, c7_29]
    refine callA (hex hown) ?_
    rintro v N ⟨rfl, rfl⟩
    simp -implicitDefEqProofs (disch := omega) only [go_sem, Nat.reduceAdd, Nat.reduceMul, Nat.reduceSub, Nat.reduceBEq, Nat.reduceLeDiff, Nat.reduceLT, fn_transitlaw36_FarestateDominates, e7_1, w7_1, e7_3, w7_3, c7_4, e7_6, w7_6, e7_8, w7_8, e7_10, w7_10, e7_12, w7_12, c7_13, e7_15, w7_15, e7_17, w7_17, c7_18, e7_20, w7_20, e7_22, w7_22, c7_23, c7_24, c7_25, c7_26, c7_27, c7_28, c7_29]
  simp -implicitDefEqProofs (disch := omega) only [go_sem, Nat.reduceAdd, Nat.reduceMul, Nat.reduceSub, Nat.reduceBEq, Nat.reduceLeDiff, Nat.reduceLT, fn_transitlaw36_FarestateDominates, e7_1, w7_1, e7_3, w7_3, c7_4, e7_6, w7_6, e7_8, w7_8, e7_10, w7_10, e7_12, w7_12, c7_13, e7_15, w7_15, e7_17, w7_17, c7_18, e7_20, w7_20, e7_22, w7_22, c7_23, c7_24, c7_25, c7_26, c7_27, c7_28, c7_29, Fares.row]
  refine ifD (fun h5 => ?_) (fun h5 => ?_)
  · simp -implicitDefEqProofs (disch := omega) only [go_sem, Nat.reduceAdd, Nat.reduceMul, Nat.reduceSub, Nat.reduceBEq, Nat.reduceLeDiff, Nat.reduceLT, fn_transitlaw36_FarestateDominates, e7_1, w7_1, e7_3, w7_3, c7_4, e7_6, w7_6, e7_8, w7_8, e7_10, w7_10, e7_12, w7_12, c7_13, e7_15, w7_15, e7_17, w7_17, c7_18, e7_20, w7_20, e7_22, w7_22, c7_23, c7_24, c7_25, c7_26, c7_27, c7_28, c7_29]
    refine callA (hex hown) ?_
    rintro v N ⟨rfl, rfl⟩
    simp -implicitDefEqProofs (disch := omega) only [go_sem, Nat.reduceAdd, Nat.reduceMul, Nat.reduceSub, Nat.reduceBEq, Nat.reduceLeDiff, Nat.reduceLT, fn_transitlaw36_FarestateDominates, e7_1, w7_1, e7_3, w7_3, c7_4, e7_6, w7_6, e7_8, w7_8, e7_10, w7_10, e7_12, w7_12, c7_13, e7_15, w7_15, e7_17, w7_17, c7_18, e7_20, w7_20, e7_22, w7_22, c7_23, c7_24, c7_25, c7_26, c7_27, c7_28, c7_29]
  simp -implicitDefEqProofs (disch := omega) only [go_sem, Nat.reduceAdd, Nat.reduceMul, Nat.reduceSub, Nat.reduceBEq, Nat.reduceLeDiff, Nat.reduceLT, fn_transitlaw36_FarestateDominates, e7_1, w7_1, e7_3, w7_3, c7_4, e7_6, w7_6, e7_8, w7_8, e7_10, w7_10, e7_12, w7_12, c7_13, e7_15, w7_15, e7_17, w7_17, c7_18, e7_20, w7_20, e7_22, w7_22, c7_23, c7_24, c7_25, c7_26, c7_27, c7_28, c7_29, Fares.row]
  first | refine callD (transitref35_Valid_ok f hf) ?_ | refine callQD (transitref35_Valid_ok f hf) ?_
  simp -implicitDefEqProofs (disch := omega) only [go_sem, Nat.reduceAdd, Nat.reduceMul, Nat.reduceSub, Nat.reduceBEq, Nat.reduceLeDiff, Nat.reduceLT, fn_transitlaw36_FarestateDominates, e7_1, w7_1, e7_3, w7_3, c7_4, e7_6, w7_6, e7_8, w7_8, e7_10, w7_10, e7_12, w7_12, c7_13, e7_15, w7_15, e7_17, w7_17, c7_18, e7_20, w7_20, e7_22, w7_22, c7_23, c7_24, c7_25, c7_26, c7_27, c7_28, c7_29, Fares.row]
  refine ifB (fun h3 => ?_) (fun h3 => ?_)
  rotate_left
  · simp -implicitDefEqProofs (disch := omega) only [go_sem, Nat.reduceAdd, Nat.reduceMul, Nat.reduceSub, Nat.reduceBEq, Nat.reduceLeDiff, Nat.reduceLT, fn_transitlaw36_FarestateDominates, e7_1, w7_1, e7_3, w7_3, c7_4, e7_6, w7_6, e7_8, w7_8, e7_10, w7_10, e7_12, w7_12, c7_13, e7_15, w7_15, e7_17, w7_17, c7_18, e7_20, w7_20, e7_22, w7_22, c7_23, c7_24, c7_25, c7_26, c7_27, c7_28, c7_29]
    refine callA (hex hown) ?_
    rintro v N ⟨rfl, rfl⟩
    simp -implicitDefEqProofs (disch := omega) only [go_sem, Nat.reduceAdd, Nat.reduceMul, Nat.reduceSub, Nat.reduceBEq, Nat.reduceLeDiff, Nat.reduceLT, fn_transitlaw36_FarestateDominates, e7_1, w7_1, e7_3, w7_3, c7_4, e7_6, w7_6, e7_8, w7_8, e7_10, w7_10, e7_12, w7_12, c7_13, e7_15, w7_15, e7_17, w7_17, c7_18, e7_20, w7_20, e7_22, w7_22, c7_23, c7_24, c7_25, c7_26, c7_27, c7_28, c7_29]
  have hc : (checkRes f).2 = 0 := by simpa [faresOk] using h3
  have hok := checkRes_ok hc
  have haw : ∀ x ∈ a.reverse, x.wf := fun x hx => ha x (List.mem_reverse.1 hx)
  have hbw : ∀ x ∈ b.reverse, x.wf := fun x hx => hb x (List.mem_reverse.1 hx)
  have har : a.reverse.length ≤ 8 := by simp; omega
  have hbr : b.reverse.length ≤ 8 := by simp; omega
  simp -implicitDefEqProofs (disch := omega) only [go_sem, Nat.reduceAdd, Nat.reduceMul, Nat.reduceSub, Nat.reduceBEq, Nat.reduceLeDiff, Nat.reduceLT, fn_transitlaw36_FarestateDominates, e7_1, w7_1, e7_3, w7_3, c7_4, e7_6, w7_6, e7_8, w7_8, e7_10, w7_10, e7_12, w7_12, c7_13, e7_15, w7_15, e7_17, w7_17, c7_18, e7_20, w7_20, e7_22, w7_22, c7_23, c7_24, c7_25, c7_26, c7_27, c7_28, c7_29, Fares.row]
  refine callA (made_ok f a _ hf hc ha (by omega) hown) ?_
  rintro v N ⟨L, ia, fa, rfl, rfl, HA⟩
  have hgx := app_get hgx L
  have hfx := app_get hfx L
  generalize [Blk.box _, Blk.box _] ++ L = N at *
  simp -implicitDefEqProofs (disch := omega) only [go_sem, Nat.reduceAdd, Nat.reduceMul, Nat.reduceSub, Nat.reduceBEq, Nat.reduceLeDiff, Nat.reduceLT, fn_transitlaw36_FarestateDominates, e7_1, w7_1, e7_3, w7_3, c7_4, e7_6, w7_6, e7_8, w7_8, e7_10, w7_10, e7_12, w7_12, c7_13, e7_15, w7_15, e7_17, w7_17, c7_18, e7_20, w7_20, e7_22, w7_22, c7_23, c7_24, c7_25, c7_26, c7_27, c7_28, c7_29, hfx, hgx]
  refine callA (made_ok f b _ hf hc hb (by omega) HA.own) ?_
  rintro v N' ⟨L, ib, fb, rfl, rfl, HB⟩
  have hgx := app_get hgx L
  have hfx := app_get hfx L
  have HA := HA.app HB.own
  generalize N ++ L = N at *
  simp -implicitDefEqProofs (disch := omega) only [go_sem, Nat.reduceAdd, Nat.reduceMul, Nat.reduceSub, Nat.reduceBEq, Nat.reduceLeDiff, Nat.reduceLT, fn_transitlaw36_FarestateDominates, e7_1, w7_1, e7_3, w7_3, c7_4, e7_6, w7_6, e7_8, w7_8, e7_10, w7_10, e7_12, w7_12, c7_13, e7_15, w7_15, e7_17, w7_17, c7_18, e7_20, w7_20, e7_22, w7_22, c7_23, c7_24, c7_25, c7_26, c7_27, c7_28, c7_29, hfx, hgx]
  refine callA (State_Dominates_ok hf hok hf hok HA HB haw har hbw hbr) ?_
  rintro v N ⟨⟨t, rfl, ht⟩, rfl⟩
  simp -implicitDefEqProofs (disch := omega) only [go_sem, Nat.reduceAdd, Nat.reduceMul, Nat.reduceSub, Nat.reduceBEq, Nat.reduceLeDiff, Nat.reduceLT, fn_transitlaw36_FarestateDominates, e7_1, w7_1, e7_3, w7_3, c7_4, e7_6, w7_6, e7_8, w7_8, e7_10, w7_10, e7_12, w7_12, c7_13, e7_15, w7_15, e7_17, w7_17, c7_18, e7_20, w7_20, e7_22, w7_22, c7_23, c7_24, c7_25, c7_26, c7_27, c7_28, c7_29]
  refine ifB (fun h6 => ?_) (fun h6 => ?_)
  rotate_left
  · simp -implicitDefEqProofs (disch := omega) only [go_sem, Nat.reduceAdd, Nat.reduceMul, Nat.reduceSub, Nat.reduceBEq, Nat.reduceLeDiff, Nat.reduceLT, fn_transitlaw36_FarestateDominates, e7_1, w7_1, e7_3, w7_3, c7_4, e7_6, w7_6, e7_8, w7_8, e7_10, w7_10, e7_12, w7_12, c7_13, e7_15, w7_15, e7_17, w7_17, c7_18, e7_20, w7_20, e7_22, w7_22, c7_23, c7_24, c7_25, c7_26, c7_27, c7_28, c7_29]
    refine callA (hex HA.own) ?_
    rintro v N ⟨rfl, rfl⟩
    simp -implicitDefEqProofs (disch := omega) only [go_sem, Nat.reduceAdd, Nat.reduceMul, Nat.reduceSub, Nat.reduceBEq, Nat.reduceLeDiff, Nat.reduceLT, fn_transitlaw36_FarestateDominates, e7_1, w7_1, e7_3, w7_3, c7_4, e7_6, w7_6, e7_8, w7_8, e7_10, w7_10, e7_12, w7_12, c7_13, e7_15, w7_15, e7_17, w7_17, c7_18, e7_20, w7_20, e7_22, w7_22, c7_23, c7_24, c7_25, c7_26, c7_27, c7_28, c7_29]
  have hd := (ht.1 h6).2
  have hnil : ∀ x ∈ ([] : List Ride), x.wf := fun x hx => absurd hx (List.not_mem_nil)
  simp -implicitDefEqProofs (disch := omega) only [go_sem, Nat.reduceAdd, Nat.reduceMul, Nat.reduceSub, Nat.reduceBEq, Nat.reduceLeDiff, Nat.reduceLT, fn_transitlaw36_FarestateDominates, e7_1, w7_1, e7_3, w7_3, c7_4, e7_6, w7_6, e7_8, w7_8, e7_10, w7_10, e7_12, w7_12, c7_13, e7_15, w7_15, e7_17, w7_17, c7_18, e7_20, w7_20, e7_22, w7_22, c7_23, c7_24, c7_25, c7_26, c7_27, c7_28, c7_29, hfx, hgx]
  first | refine callD (Holds_ok f a b m c1 c2 c3 hf ha hb hm (by omega) (by omega) (by omega) (fun q1 q2 q3 => price_dom hc q1 q2 hd q3)) ?_ | refine callQD (Holds_ok f a b m c1 c2 c3 hf ha hb hm (by omega) (by omega) (by omega) (fun q1 q2 q3 => price_dom hc q1 q2 hd q3)) ?_
  simp -implicitDefEqProofs (disch := omega) only [go_sem, Nat.reduceAdd, Nat.reduceMul, Nat.reduceSub, Nat.reduceBEq, Nat.reduceLeDiff, Nat.reduceLT, fn_transitlaw36_FarestateDominates, e7_1, w7_1, e7_3, w7_3, c7_4, e7_6, w7_6, e7_8, w7_8, e7_10, w7_10, e7_12, w7_12, c7_13, e7_15, w7_15, e7_17, w7_17, c7_18, e7_20, w7_20, e7_22, w7_22, c7_23, c7_24, c7_25, c7_26, c7_27, c7_28, c7_29, hfx, hgx]
  first | refine callD (Holds_ok f a b [] c1 c2 .nil hf ha hb hnil (by omega) (by omega) (by simp) (fun q1 q2 q3 => price_dom hc q1 q2 hd q3)) ?_ | refine callQD (Holds_ok f a b [] c1 c2 .nil hf ha hb hnil (by omega) (by omega) (by simp) (fun q1 q2 q3 => price_dom hc q1 q2 hd q3)) ?_
  simp -implicitDefEqProofs (disch := omega) only [go_sem, Nat.reduceAdd, Nat.reduceMul, Nat.reduceSub, Nat.reduceBEq, Nat.reduceLeDiff, Nat.reduceLT, fn_transitlaw36_FarestateDominates, e7_1, w7_1, e7_3, w7_3, c7_4, e7_6, w7_6, e7_8, w7_8, e7_10, w7_10, e7_12, w7_12, c7_13, e7_15, w7_15, e7_17, w7_17, c7_18, e7_20, w7_20, e7_22, w7_22, c7_23, c7_24, c7_25, c7_26, c7_27, c7_28, c7_29]
  refine callA (hex HA.own) ?_
  rintro v N ⟨rfl, rfl⟩
  simp -implicitDefEqProofs (disch := omega) only [go_sem, Nat.reduceAdd, Nat.reduceMul, Nat.reduceSub, Nat.reduceBEq, Nat.reduceLeDiff, Nat.reduceLT, fn_transitlaw36_FarestateDominates, e7_1, w7_1, e7_3, w7_3, c7_4, e7_6, w7_6, e7_8, w7_8, e7_10, w7_10, e7_12, w7_12, c7_13, e7_15, w7_15, e7_17, w7_17, c7_18, e7_20, w7_20, e7_22, w7_22, c7_23, c7_24, c7_25, c7_26, c7_27, c7_28, c7_29]

end Go.Vm.C

