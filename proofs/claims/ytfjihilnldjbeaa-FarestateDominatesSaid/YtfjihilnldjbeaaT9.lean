/- Contract: the state with one more ride. -/
import Derived.Test.YtfjihilnldjbeaaT8

namespace Go.Vm.C
open Go.Vm
set_option maxHeartbeats 1000000
set_option maxRecDepth 10000
set_option linter.unusedSimpArgs false
set_option linter.unusedVariables false

/-! ### The smallest sum, by the last ticket -/
theorem minSum_le {f : Fares} {l : List Ride} (hok : f.Ok) {d : List Ticket} (h : Div f l 0 d) : 0 ≤ minSum f l ∧ minSum f l ≤ total d := by
  obtain ⟨d', h1, h2⟩ := best_min d 0 h
  have := div_mild hok _ _ (best_div (by omega) h1)
  simp only [minSum, h1]
  exact ⟨this.1, h2⟩
theorem minSum_get {f : Fares} {l : List Ride} (h : 0 ≤ minSum f l) : ∃ d, Div f l 0 d ∧ total d = minSum f l := by
  unfold minSum at h ⊢
  cases hb : best f l 0 with
  | none => rw [hb] at h; simp at h
  | some d => exact ⟨d, best_div (by omega) hb, rfl⟩
theorem minSum_neg {f : Fares} {l : List Ride} (hok : f.Ok) (h : minSum f l < 0) : minSum f l = -1 := by
  unfold minSum at h ⊢
  cases hb : best f l 0 with
  | none => rfl
  | some d =>
    rw [hb] at h
    have := div_mild hok _ _ (best_div (by omega) hb)
    simp only at h
    omega

/-- A division has a last ticket. -/
theorem div_snoc {f : Fares} {l : List Ride} : ∀ (d : List Ticket) (i : Nat), Div f l i d → i < l.length →
    ∃ (d0 : List Ticket) (p j : Nat) (q : Product), d = d0 ++ [⟨p, j, (l.length - 1 : Nat), ticket f q l j⟩] ∧ f.products[p]? = some q ∧ i ≤ j ∧ j < l.length ∧ covers q (part l j (l.length - 1)) = true ∧ Div f (l.take j) i d0
  | [], i, h, hi => by simp only [Div] at h; omega
  | t :: d, i, h, hi => by
    obtain ⟨p, k, q, rfl, hq, h1, h2, h3, h4⟩ := div_cons h
    rcases Nat.lt_or_ge (k + 1) l.length with h5 | h5
    · obtain ⟨d0, p', j, q', rfl, e1, e2, e3, e4, e5⟩ := div_snoc d (k + 1) h4 h5
      refine ⟨⟨p, i, k, ticket f q l i⟩ :: d0, p', j, q', rfl, e1, by omega, e3, e4, ?_⟩
      have htl : (l.take j).length = j := by simp; omega
      have := div_mk (f := f) (l := l.take j) (i := i) (k := k) (p := p) (q := q) (d := d0) hq h1 (by omega) (by rw [part_take (by omega)]; exact h3) e5
      rw [ticket_take (by omega)] at this
      exact this
    · have hk : k = l.length - 1 := by omega
      subst hk
      have hd : d = [] := by
        cases d with
        | nil => rfl
        | cons t d =>
          obtain ⟨_, _, _, _, _, _, h6, _⟩ := div_cons h4
          omega
      subst hd
      exact ⟨[], p, i, q, rfl, hq, Nat.le_refl _, hi, h3, by simp only [Div, List.length_take]; omega⟩

theorem total_app (a b : List Ticket) : total (a ++ b) = total a + total b := by simp [total, List.sum_append]
theorem total_one (t : Ticket) : total [t] = t.price := by simp [total]

/-- A way to pay: the rides before i, and one ticket for the rest. -/
theorem way_le {f : Fares} {l : List Ride} (hok : f.Ok) {i p : Nat} {q : Product} (hi : i < l.length) (hq : f.products[p]? = some q) (h0 : 0 ≤ minSum f (l.take i)) (hc : covers q (part l i (l.length - 1)) = true) :
    0 ≤ minSum f l ∧ minSum f l ≤ minSum f (l.take i) + ticket f q l i := by
  obtain ⟨d, hd, ht⟩ := minSum_get h0
  have he : Div f l i [⟨p, i, (l.length - 1 : Nat), ticket f q l i⟩] := div_mk hq (by omega) (by omega) hc (by simp only [Div]; omega)
  obtain ⟨d', h1, h2⟩ := div_join he (by omega) d 0 hd
  have := minSum_le hok h1
  rw [h2, ht, total_one] at this
  exact this
theorem way_get {f : Fares} {l : List Ride} (hok : f.Ok) (hl : 0 < l.length) (h : 0 ≤ minSum f l) :
    ∃ (i p : Nat) (q : Product), i < l.length ∧ f.products[p]? = some q ∧ 0 ≤ minSum f (l.take i) ∧ covers q (part l i (l.length - 1)) = true ∧ minSum f (l.take i) + ticket f q l i ≤ minSum f l := by
  obtain ⟨d, hd, ht⟩ := minSum_get h
  obtain ⟨d0, p, j, q, rfl, h1, h2, h3, h4, h5⟩ := div_snoc d 0 hd hl
  have := minSum_le hok h5
  rw [total_app, total_one] at ht
  simp only at ht
  exact ⟨j, p, q, h3, h1, this.1, h4, by omega⟩

/-- One way to pay, with its sum. -/
def Way (f : Fares) (l : List Ride) (i p : Nat) (s : Int) : Prop := ∃ q, i < l.length ∧ f.products[p]? = some q ∧ 0 ≤ minSum f (l.take i) ∧ covers q (part l i (l.length - 1)) = true ∧ s = minSum f (l.take i) + ticket f q l i
/-- What is known of the best sum so far. -/
structure Seen (f : Fares) (l : List Ride) (V : Nat → Nat → Prop) (b : Int) : Prop where
  made : b = -1 ∨ 0 ≤ b ∧ ∃ i p, Way f l i p b
  least : ∀ i p s, V i p → Way f l i p s → 0 ≤ b ∧ b ≤ s
theorem Seen.done {f : Fares} {l : List Ride} {V : Nat → Nat → Prop} {b : Int} (hok : f.Ok) (hl : 0 < l.length) (h : Seen f l V b) (hV : ∀ i p, i < l.length → p < f.products.length → V i p) : b = minSum f l := by
  rcases Int.lt_or_le (minSum f l) 0 with h0 | h0
  · rcases h.made with h1 | ⟨h1, i, p, q, h2, h3, h4, h5, _⟩
    · rw [h1, minSum_neg hok h0]
    · have := way_le hok h2 h3 h4 h5; omega
  · obtain ⟨i, p, q, h1, h2, h3, h4, h5⟩ := way_get hok hl h0
    obtain ⟨h6, h7⟩ := h.least i p _ (hV i p h1 (List.getElem?_eq_some_iff.1 h2).1) ⟨q, h1, h2, h3, h4, rfl⟩
    rcases h.made with h8 | ⟨_, i', p', q', g1, g2, g3, g4, g5⟩
    · omega
    · have := way_le hok g1 g2 g3 g4; omega
theorem Seen.skip {f : Fares} {l : List Ride} {V V' : Nat → Nat → Prop} {b : Int} {i p : Nat} (h : Seen f l V b) (hn : ∀ s, ¬ Way f l i p s) (hV : ∀ i' p', V' i' p' → V i' p' ∨ (i' = i ∧ p' = p)) : Seen f l V' b :=
  ⟨h.made, fun i' p' s hv hw => by
    rcases hV i' p' hv with h1 | ⟨rfl, rfl⟩
    · exact h.least i' p' s h1 hw
    · exact absurd hw (hn s)⟩
theorem Way.same {f : Fares} {l : List Ride} {i p : Nat} {s t : Int} (h : Way f l i p s) (k : Way f l i p t) : s = t := by
  obtain ⟨q, _, h2, _, _, h5⟩ := h
  obtain ⟨q', _, k2, _, _, k5⟩ := k
  rw [h2] at k2
  simp only [Option.some.injEq] at k2
  subst k2
  rw [h5, k5]
theorem Seen.take {f : Fares} {l : List Ride} {V V' : Nat → Nat → Prop} {b s : Int} {i p : Nat} (h : Seen f l V b) (hw : Way f l i p s) (h0 : 0 ≤ s) (hb : b < 0 ∨ s < b) (hV : ∀ i' p', V' i' p' → V i' p' ∨ (i' = i ∧ p' = p)) : Seen f l V' s :=
  ⟨.inr ⟨h0, i, p, hw⟩, fun i' p' s' hv hw' => by
    rcases hV i' p' hv with h1 | ⟨rfl, rfl⟩
    · have := h.least i' p' s' h1 hw'; omega
    · have := hw.same hw'; omega⟩
theorem Seen.keep {f : Fares} {l : List Ride} {V V' : Nat → Nat → Prop} {b s : Int} {i p : Nat} (h : Seen f l V b) (hw : Way f l i p s) (hb : ¬ b < 0) (hs : ¬ s < b) (hV : ∀ i' p', V' i' p' → V i' p' ∨ (i' = i ∧ p' = p)) : Seen f l V' b :=
  ⟨h.made, fun i' p' s' hv hw' => by
    rcases hV i' p' hv with h1 | ⟨rfl, rfl⟩
    · exact h.least i' p' s' h1 hw'
    · have := hw.same hw'; omega⟩
theorem Seen.start {f : Fares} {l : List Ride} : Seen f l (fun _ _ => False) (-1) := ⟨.inl rfl, fun _ _ _ h => h.elim⟩

theorem st_set (fp : Nat) (prev : V) (r : Ride) (n : Int) (S : Nat → Int) (x : Int) {i : Nat} (h : i < 9) : (stRow fp prev r n S).set (7 + i * 1) (.int .i64 x) = stRow fp prev r n (fun j => if j = i then x else S j) := by
  refine nine (p := fun i => (stRow fp prev r n S).set (7 + i * 1) (.int .i64 x) = stRow fp prev r n (fun j => if j = i then x else S j)) ?_ ?_ ?_ ?_ ?_ ?_ ?_ ?_ ?_ h <;> simp [stRow]

theorem st_sums (fp : Nat) (prev : V) (r : Ride) (n : Int) (S : Nat → Int) : ((stRow fp prev r n S).drop 7).take 9 = [.int .i64 (S 0), .int .i64 (S 1), .int .i64 (S 2), .int .i64 (S 3), .int .i64 (S 4), .int .i64 (S 5), .int .i64 (S 6), .int .i64 (S 7), .int .i64 (S 8)] := rfl
theorem st_lit (fp : Nat) (prev : V) (r : Ride) (n : Int) (S : Nat → Int) : [.ptr fp 0, prev, .int .i64 r.depart, .int .i64 r.arrive, .int .i64 r.zones, .int .i64 r.modes, .int .i64 n, .int .i64 (S 0), .int .i64 (S 1), .int .i64 (S 2), .int .i64 (S 3), .int .i64 (S 4), .int .i64 (S 5), .int .i64 (S 6), .int .i64 (S 7), .int .i64 (S 8)] = stRow fp prev r n S := rfl

theorem farestate_Ride_ok (f : Fares) (r : Ride) (hf : f.wf) (hok : f.Ok) (hr : r.wf) {M : Mem} {fp id : Nat} {rl : List Ride} (h : Held M f fp rl id) (hl : ∀ x ∈ rl, x.wf) (hlen : rl.length < 8) :
    ACalls PR i_farestate_State_Ride [.ptr id 0, .agg r.row] M (fun v M' => ∃ L id', M' = M ++ L ∧ v = .tuple [.ptr id' 0, .int .i64 0] ∧ Held M' f fp (r :: rl) id') := by
  obtain ⟨p, x, hM⟩ := h.st.shows
  have hM' := fun L => app_get hM L
  have hF' := fun L => app_get h.fares L
  refine acalls_keep fn_farestate_State_Ride_ok (by simp [fn_farestate_State_Ride]) ?_
  simp only [wpKeep]
  simp -implicitDefEqProofs (disch := omega) only [go_sem, Nat.reduceAdd, Nat.reduceMul, Nat.reduceSub, Nat.reduceBEq, Nat.reduceLeDiff, Nat.reduceLT, fn_farestate_State_Ride, e16_1, w16_1, e16_3, w16_3, c16_4, e16_6, w16_6, e16_8, w16_8, c16_9, e16_11, w16_11, e16_13, w16_13, e16_15, w16_15, e16_17, w16_17, e16_19, w16_19, e16_21, w16_21, c16_22, e16_24, w16_24, e16_26, w16_26, e16_28, w16_28, c16_29, e16_31, w16_31, e16_33, w16_33, e16_35, w16_35, e16_37, w16_37, e16_39, w16_39, c16_40, c16_41, c16_42, c16_43, e16_45, w16_45, c16_46, c16_47, c16_48, c16_49, c16_50, c16_51, c16_52, c16_53, e16_55, w16_55, c16_56, c16_57, c16_58, c16_59, c16_60, c16_61, e16_63, w16_63, e16_65, w16_65, c16_66, c16_67, c16_68, c16_69, c16_70, c16_71, c16_72, c16_73, c16_74, eq_ptr_nil, nilCheck_ptr, hM', st_0, st_6, Ride.row]
  refine ifD (fun h1 => ?_) (fun h1 => ?_)
  · omega
  have hch : ChAt (M ++ [.box r.row, .box (stRow fp (.ptr id 0) r ((rl.length : Int) + 1) (sums f rl.reverse))]) fp (r :: rl) (M.length + 1) :=
    ⟨id, sums f rl.reverse, by rw [get_at]; rfl, (h.st.chain).app _⟩
  have hown : Own (M ++ [.box r.row, .box (stRow fp (.ptr id 0) r ((rl.length : Int) + 1) (sums f rl.reverse))]) := by
    have h1 : id < M.length := (List.getElem?_eq_some_iff.1 hM).1
    have h2 : fp < M.length := (List.getElem?_eq_some_iff.1 h.fares).1
    exact h.own.app (by simp [memUnder, Blk.under, underL, V.under, Ride.row, stRow]; omega)
  simp -implicitDefEqProofs (disch := omega) only [go_sem, Nat.reduceAdd, Nat.reduceMul, Nat.reduceSub, Nat.reduceBEq, Nat.reduceLeDiff, Nat.reduceLT, fn_farestate_State_Ride, e16_1, w16_1, e16_3, w16_3, c16_4, e16_6, w16_6, e16_8, w16_8, c16_9, e16_11, w16_11, e16_13, w16_13, e16_15, w16_15, e16_17, w16_17, e16_19, w16_19, e16_21, w16_21, c16_22, e16_24, w16_24, e16_26, w16_26, e16_28, w16_28, c16_29, e16_31, w16_31, e16_33, w16_33, e16_35, w16_35, e16_37, w16_37, e16_39, w16_39, c16_40, c16_41, c16_42, c16_43, e16_45, w16_45, c16_46, c16_47, c16_48, c16_49, c16_50, c16_51, c16_52, c16_53, e16_55, w16_55, c16_56, c16_57, c16_58, c16_59, c16_60, c16_61, e16_63, w16_63, e16_65, w16_65, c16_66, c16_67, c16_68, c16_69, c16_70, c16_71, c16_72, c16_73, c16_74, nilCheck_ptr, hM', st_0, st_6, st_len, st_sums, get_at0, get_at, List.append_assoc, Ride.row, st_lit]
  refine callA (State_list_ok hch hown (by simp; omega)) ?_
  rintro v N ⟨rfl, rfl⟩
  simp -implicitDefEqProofs (disch := omega) only [go_sem, Nat.reduceAdd, Nat.reduceMul, Nat.reduceSub, Nat.reduceBEq, Nat.reduceLeDiff, Nat.reduceLT, fn_farestate_State_Ride, e16_1, w16_1, e16_3, w16_3, c16_4, e16_6, w16_6, e16_8, w16_8, c16_9, e16_11, w16_11, e16_13, w16_13, e16_15, w16_15, e16_17, w16_17, e16_19, w16_19, e16_21, w16_21, c16_22, e16_24, w16_24, e16_26, w16_26, e16_28, w16_28, c16_29, e16_31, w16_31, e16_33, w16_33, e16_35, w16_35, e16_37, w16_37, e16_39, w16_39, c16_40, c16_41, c16_42, c16_43, e16_45, w16_45, c16_46, c16_47, c16_48, c16_49, c16_50, c16_51, c16_52, c16_53, e16_55, w16_55, c16_56, c16_57, c16_58, c16_59, c16_60, c16_61, e16_63, w16_63, e16_65, w16_65, c16_66, c16_67, c16_68, c16_69, c16_70, c16_71, c16_72, c16_73, c16_74, nilCheck_ptr]
  have hl' : ∀ x ∈ (r :: rl).reverse, x.wf := by
    intro x hx
    rw [List.mem_reverse, List.mem_cons] at hx
    rcases hx with rfl | hx
    · exact hr
    · exact hl x hx
  have hll : (r :: rl).reverse.length = rl.length + 1 := by simp
  have hsum : ∀ i, i < rl.length + 1 → sums f rl.reverse i = minSum f ((r :: rl).reverse.take i) := by
    intro i hi
    rw [sums, if_pos (by simp; omega), List.reverse_cons, List.take_append_of_le_length (by simp; omega)]
  have hrow : [V.int .i64 r.depart, .int .i64 r.arrive, .int .i64 r.zones, .int .i64 r.modes] = r.row := rfl
  rw [hrow]
  generalize hN : M ++ [.box r.row, .box (stRow fp (.ptr id 0) r ((rl.length : Int) + 1) (sums f rl.reverse))] = N at *
  generalize hlg : (r :: rl).reverse = l at *
  refine wpC_for l.length (fun i vs N' => ∃ b, Seen f l (fun i' _ => i' < i) b ∧ b ≤ 9000000 ∧ vs = [.ptr id 0, .ptr (M.length + 1) 0, .slice (l.map Ride.row) .unk, .int .i64 b, .int .i64 l.length, .int .i64 i] ∧ N' = N) ⟨-1, ⟨.inl rfl, fun _ _ _ h => absurd h (Nat.not_lt_zero _)⟩, by omega, by simp [vals, sget], rfl⟩ ?_ ?_
  rotate_left
  · rintro vs N' ⟨b, hb, hb2, rfl, rfl⟩
    have hbm := hb.done hok (by omega) (fun i p hi _ => hi)
    subst hN
    simp -implicitDefEqProofs (disch := omega) only [go_sem, Nat.reduceAdd, Nat.reduceMul, Nat.reduceSub, Nat.reduceBEq, Nat.reduceLeDiff, Nat.reduceLT, fn_farestate_State_Ride, e16_1, w16_1, e16_3, w16_3, c16_4, e16_6, w16_6, e16_8, w16_8, c16_9, e16_11, w16_11, e16_13, w16_13, e16_15, w16_15, e16_17, w16_17, e16_19, w16_19, e16_21, w16_21, c16_22, e16_24, w16_24, e16_26, w16_26, e16_28, w16_28, c16_29, e16_31, w16_31, e16_33, w16_33, e16_35, w16_35, e16_37, w16_37, e16_39, w16_39, c16_40, c16_41, c16_42, c16_43, e16_45, w16_45, c16_46, c16_47, c16_48, c16_49, c16_50, c16_51, c16_52, c16_53, e16_55, w16_55, c16_56, c16_57, c16_58, c16_59, c16_60, c16_61, e16_63, w16_63, e16_65, w16_65, c16_66, c16_67, c16_68, c16_69, c16_70, c16_71, c16_72, c16_73, c16_74, dec_irrefl, nilCheck_ptr, get_at, set_at, st_len, st_6]
    have hS : (fun j => if j = rl.length + 1 then b else sums f rl.reverse j) = sums f l := by
      funext j
      rcases Nat.lt_trichotomy j (rl.length + 1) with h3 | h3 | h3
      · rw [if_neg (by omega), hsum j h3, sums, if_pos (by omega)]
      · subst h3
        rw [if_pos rfl, hbm, sums, if_pos (by omega), ← hll, List.take_length]
      · rw [if_neg (by omega), sums, sums, if_neg (by simp; omega), if_neg (by omega)]
    have hs := st_set fp (.ptr id 0) r ((rl.length : Int) + 1) (sums f rl.reverse) b (i := rl.length + 1) (by omega)
    rw [hS] at hs
    rw [hs]
    have h1 : id < M.length := (List.getElem?_eq_some_iff.1 hM).1
    have h2 : fp < M.length := (List.getElem?_eq_some_iff.1 h.fares).1
    refine ⟨_, M.length + 1, rfl, rfl, h.own.app (by simp [memUnder, Blk.under, underL, V.under, Ride.row, stRow]; omega), hF' _, id, ?_, h.st.app _⟩
    rw [get_at, hlg]
    rfl
  rintro i vs N' hi hid ⟨b, hb, hb2, rfl, rfl⟩
  have hNid : N'[id]? = some (.box (stRow fp p x (rl.length : Nat) (sums f rl.reverse))) := by rw [← hN]; exact hM' _
  have hNf : N'[fp]? = some (.box (fcell f)) := by rw [← hN]; exact hF' _
  have hNt : N'[M.length + 1]? = some (.box (stRow fp (.ptr id 0) r ((rl.length : Int) + 1) (sums f rl.reverse))) := by rw [← hN, get_at]; rfl
  simp -implicitDefEqProofs (disch := omega) only [go_sem, Nat.reduceAdd, Nat.reduceMul, Nat.reduceSub, Nat.reduceBEq, Nat.reduceLeDiff, Nat.reduceLT, fn_farestate_State_Ride, e16_1, w16_1, e16_3, w16_3, c16_4, e16_6, w16_6, e16_8, w16_8, c16_9, e16_11, w16_11, e16_13, w16_13, e16_15, w16_15, e16_17, w16_17, e16_19, w16_19, e16_21, w16_21, c16_22, e16_24, w16_24, e16_26, w16_26, e16_28, w16_28, c16_29, e16_31, w16_31, e16_33, w16_33, e16_35, w16_35, e16_37, w16_37, e16_39, w16_39, c16_40, c16_41, c16_42, c16_43, e16_45, w16_45, c16_46, c16_47, c16_48, c16_49, c16_50, c16_51, c16_52, c16_53, e16_55, w16_55, c16_56, c16_57, c16_58, c16_59, c16_60, c16_61, e16_63, w16_63, e16_65, w16_65, c16_66, c16_67, c16_68, c16_69, c16_70, c16_71, c16_72, c16_73, c16_74, hid, nilCheck_ptr, hNid, hNf, hNt, st_0, fcell]
  refine wpC_for f.products.length (fun q vs N2 => ∃ b, Seen f l (fun i' p' => i' < i ∨ i' = i ∧ p' < q) b ∧ b ≤ 9000000 ∧ vs = [.ptr id 0, .ptr (M.length + 1) 0, .slice (l.map Ride.row) .unk, .int .i64 b, .int .i64 i, .int .i64 l.length, .int .i64 i, .slice (f.products.map Product.row) .unk, .int .i64 f.products.length, .int .i64 q] ∧ N2 = N') ⟨b, ⟨hb.made, fun i' p' s hv hw => hb.least i' p' s (by omega) hw⟩, hb2, by simp [vals, sget], rfl⟩ ?_ ?_
  rotate_left
  · rintro vs N2 ⟨b, hb, hb2, rfl, rfl⟩
    simp -implicitDefEqProofs (disch := omega) only [go_sem, Nat.reduceAdd, Nat.reduceMul, Nat.reduceSub, Nat.reduceBEq, Nat.reduceLeDiff, Nat.reduceLT, fn_farestate_State_Ride, e16_1, w16_1, e16_3, w16_3, c16_4, e16_6, w16_6, e16_8, w16_8, c16_9, e16_11, w16_11, e16_13, w16_13, e16_15, w16_15, e16_17, w16_17, e16_19, w16_19, e16_21, w16_21, c16_22, e16_24, w16_24, e16_26, w16_26, e16_28, w16_28, c16_29, e16_31, w16_31, e16_33, w16_33, e16_35, w16_35, e16_37, w16_37, e16_39, w16_39, c16_40, c16_41, c16_42, c16_43, e16_45, w16_45, c16_46, c16_47, c16_48, c16_49, c16_50, c16_51, c16_52, c16_53, e16_55, w16_55, c16_56, c16_57, c16_58, c16_59, c16_60, c16_61, e16_63, w16_63, e16_65, w16_65, c16_66, c16_67, c16_68, c16_69, c16_70, c16_71, c16_72, c16_73, c16_74, dec_irrefl]
    refine next_stay hi ⟨b, ⟨hb.made, fun i' p' s hv hw => hb.least i' p' s ?_ hw⟩, hb2, ?_, rfl⟩
    · obtain ⟨q, _, h2, _⟩ := hw
      have := (List.getElem?_eq_some_iff.1 h2).1
      omega
    · simp only [vals, sget]; rfl
  rintro q vs N2 hq hqd ⟨b, hb, hb2, rfl, rfl⟩
  obtain ⟨pr, hpr⟩ : ∃ pr, f.products[q]? = some pr := ⟨f.products[q], by simp⟩
  have hprm := List.mem_of_getElem? hpr
  have hNt2 := fun L => app_get hNt L
  have hNid2 := fun L => app_get hNid L
  have hplen := hok.len
  have hcl : (part l i (l.length - 1)).length ≤ maxLen := by
    have hm : maxLen = 9223372036854775807 := by rfl
    rw [part_len (by omega)]; omega
  have hT := hsum i (by omega)
  have hpop : ∀ b : Int, popOK N2.length [.ptr id 0, .ptr (M.length + 1) 0, .slice (l.map Ride.row) .unk, .int .i64 b, .int .i64 i, .int .i64 l.length, .int .i64 i, .slice (f.products.map Product.row) .unk, .int .i64 f.products.length, .int .i64 ((q : Int) + 1)] (N2 ++ [.box pr.row]) = true := by
    intro b
    have h1 : id < N2.length := (List.getElem?_eq_some_iff.1 hNid).1
    have h2 : M.length + 1 < N2.length := (List.getElem?_eq_some_iff.1 hNt).1
    have h3 : memUnder N2.length N2 = true := hown
    simp [popOK, underL, V.under, h1, h2, h3]
  have hV : ∀ i' p', (i' < i ∨ i' = i ∧ p' < q + 1) → (i' < i ∨ i' = i ∧ p' < q) ∨ (i' = i ∧ p' = q) := by intro i' p' h; omega
  obtain ⟨c', hpost⟩ := slice_post l i .unk (N2 ++ [.box pr.row]) (by omega)
  have hpart : l.drop i = part l i (l.length - 1) := by unfold part; rw [List.take_of_length_le (by simp; omega)]
  rw [hpart] at hpost
  simp -implicitDefEqProofs (disch := omega) only [go_sem, Nat.reduceAdd, Nat.reduceMul, Nat.reduceSub, Nat.reduceBEq, Nat.reduceLeDiff, Nat.reduceLT, fn_farestate_State_Ride, e16_1, w16_1, e16_3, w16_3, c16_4, e16_6, w16_6, e16_8, w16_8, c16_9, e16_11, w16_11, e16_13, w16_13, e16_15, w16_15, e16_17, w16_17, e16_19, w16_19, e16_21, w16_21, c16_22, e16_24, w16_24, e16_26, w16_26, e16_28, w16_28, c16_29, e16_31, w16_31, e16_33, w16_33, e16_35, w16_35, e16_37, w16_37, e16_39, w16_39, c16_40, c16_41, c16_42, c16_43, e16_45, w16_45, c16_46, c16_47, c16_48, c16_49, c16_50, c16_51, c16_52, c16_53, e16_55, w16_55, c16_56, c16_57, c16_58, c16_59, c16_60, c16_61, e16_63, w16_63, e16_65, w16_65, c16_66, c16_67, c16_68, c16_69, c16_70, c16_71, c16_72, c16_73, c16_74, hqd, hpr, Product.row, nilCheck_ptr, hNt2, st_sum, get_at0, set_at0]
  refine ifD (fun h3 => ?_) (fun h3 => ?_)
  · simp -implicitDefEqProofs (disch := omega) only [go_sem, Nat.reduceAdd, Nat.reduceMul, Nat.reduceSub, Nat.reduceBEq, Nat.reduceLeDiff, Nat.reduceLT, fn_farestate_State_Ride, e16_1, w16_1, e16_3, w16_3, c16_4, e16_6, w16_6, e16_8, w16_8, c16_9, e16_11, w16_11, e16_13, w16_13, e16_15, w16_15, e16_17, w16_17, e16_19, w16_19, e16_21, w16_21, c16_22, e16_24, w16_24, e16_26, w16_26, e16_28, w16_28, c16_29, e16_31, w16_31, e16_33, w16_33, e16_35, w16_35, e16_37, w16_37, e16_39, w16_39, c16_40, c16_41, c16_42, c16_43, e16_45, w16_45, c16_46, c16_47, c16_48, c16_49, c16_50, c16_51, c16_52, c16_53, e16_55, w16_55, c16_56, c16_57, c16_58, c16_59, c16_60, c16_61, e16_63, w16_63, e16_65, w16_65, c16_66, c16_67, c16_68, c16_69, c16_70, c16_71, c16_72, c16_73, c16_74]
    refine next_pop hq (hpop b) ⟨b, hb.skip (i := i) (p := q) ?_ hV, hb2, ?_, ?_⟩
    · rintro s ⟨_, _, _, h4, _⟩
      rw [← hT] at h4; omega
    · simp only [vals, sget]; rfl
    · rw [app_take]
  simp only [Product.row] at hpost
  simp -implicitDefEqProofs (disch := omega) only [go_sem, Nat.reduceAdd, Nat.reduceMul, Nat.reduceSub, Nat.reduceBEq, Nat.reduceLeDiff, Nat.reduceLT, fn_farestate_State_Ride, e16_1, w16_1, e16_3, w16_3, c16_4, e16_6, w16_6, e16_8, w16_8, c16_9, e16_11, w16_11, e16_13, w16_13, e16_15, w16_15, e16_17, w16_17, e16_19, w16_19, e16_21, w16_21, c16_22, e16_24, w16_24, e16_26, w16_26, e16_28, w16_28, c16_29, e16_31, w16_31, e16_33, w16_33, e16_35, w16_35, e16_37, w16_37, e16_39, w16_39, c16_40, c16_41, c16_42, c16_43, e16_45, w16_45, c16_46, c16_47, c16_48, c16_49, c16_50, c16_51, c16_52, c16_53, e16_55, w16_55, c16_56, c16_57, c16_58, c16_59, c16_60, c16_61, e16_63, w16_63, e16_65, w16_65, c16_66, c16_67, c16_68, c16_69, c16_70, c16_71, c16_72, c16_73, c16_74, hNt2, get_at0, Product.row, hpost]
  first | refine callD (product_Covers_ok pr (part l i (l.length - 1)) c' (hf.1 pr hprm) (fun x hx => hl' x (part_mem hx)) hcl) ?_ | refine callQD (product_Covers_ok pr (part l i (l.length - 1)) c' (hf.1 pr hprm) (fun x hx => hl' x (part_mem hx)) hcl) ?_
  simp -implicitDefEqProofs (disch := omega) only [go_sem, Nat.reduceAdd, Nat.reduceMul, Nat.reduceSub, Nat.reduceBEq, Nat.reduceLeDiff, Nat.reduceLT, fn_farestate_State_Ride, e16_1, w16_1, e16_3, w16_3, c16_4, e16_6, w16_6, e16_8, w16_8, c16_9, e16_11, w16_11, e16_13, w16_13, e16_15, w16_15, e16_17, w16_17, e16_19, w16_19, e16_21, w16_21, c16_22, e16_24, w16_24, e16_26, w16_26, e16_28, w16_28, c16_29, e16_31, w16_31, e16_33, w16_33, e16_35, w16_35, e16_37, w16_37, e16_39, w16_39, c16_40, c16_41, c16_42, c16_43, e16_45, w16_45, c16_46, c16_47, c16_48, c16_49, c16_50, c16_51, c16_52, c16_53, e16_55, w16_55, c16_56, c16_57, c16_58, c16_59, c16_60, c16_61, e16_63, w16_63, e16_65, w16_65, c16_66, c16_67, c16_68, c16_69, c16_70, c16_71, c16_72, c16_73, c16_74]
  refine ifB (fun h4 => ?_) (fun h4 => ?_)
  rotate_left
  · simp -implicitDefEqProofs (disch := omega) only [go_sem, Nat.reduceAdd, Nat.reduceMul, Nat.reduceSub, Nat.reduceBEq, Nat.reduceLeDiff, Nat.reduceLT, fn_farestate_State_Ride, e16_1, w16_1, e16_3, w16_3, c16_4, e16_6, w16_6, e16_8, w16_8, c16_9, e16_11, w16_11, e16_13, w16_13, e16_15, w16_15, e16_17, w16_17, e16_19, w16_19, e16_21, w16_21, c16_22, e16_24, w16_24, e16_26, w16_26, e16_28, w16_28, c16_29, e16_31, w16_31, e16_33, w16_33, e16_35, w16_35, e16_37, w16_37, e16_39, w16_39, c16_40, c16_41, c16_42, c16_43, e16_45, w16_45, c16_46, c16_47, c16_48, c16_49, c16_50, c16_51, c16_52, c16_53, e16_55, w16_55, c16_56, c16_57, c16_58, c16_59, c16_60, c16_61, e16_63, w16_63, e16_65, w16_65, c16_66, c16_67, c16_68, c16_69, c16_70, c16_71, c16_72, c16_73, c16_74]
    refine next_pop hq (hpop b) ⟨b, hb.skip (i := i) (p := q) ?_ hV, hb2, ?_, ?_⟩
    · rintro s ⟨q', _, h5, _, h6, _⟩
      rw [hpr] at h5
      simp only [Option.some.injEq] at h5
      subst h5
      rw [h4] at h6; simp at h6
    · simp only [vals, sget]; rfl
    · rw [app_take]
  simp -implicitDefEqProofs (disch := omega) only [go_sem, Nat.reduceAdd, Nat.reduceMul, Nat.reduceSub, Nat.reduceBEq, Nat.reduceLeDiff, Nat.reduceLT, fn_farestate_State_Ride, e16_1, w16_1, e16_3, w16_3, c16_4, e16_6, w16_6, e16_8, w16_8, c16_9, e16_11, w16_11, e16_13, w16_13, e16_15, w16_15, e16_17, w16_17, e16_19, w16_19, e16_21, w16_21, c16_22, e16_24, w16_24, e16_26, w16_26, e16_28, w16_28, c16_29, e16_31, w16_31, e16_33, w16_33, e16_35, w16_35, e16_37, w16_37, e16_39, w16_39, c16_40, c16_41, c16_42, c16_43, e16_45, w16_45, c16_46, c16_47, c16_48, c16_49, c16_50, c16_51, c16_52, c16_53, e16_55, w16_55, c16_56, c16_57, c16_58, c16_59, c16_60, c16_61, e16_63, w16_63, e16_65, w16_65, c16_66, c16_67, c16_68, c16_69, c16_70, c16_71, c16_72, c16_73, c16_74, nilCheck_ptr, hNt2, st_sum, get_at0, Product.row]
  have hNt3 := hNt2 [.box pr.row]
  have hNf3 := app_get hNf [.box pr.row]
  have hown3 : Own (N2 ++ [.box pr.row]) := hown.app (by simp [memUnder, Blk.under, underL, V.under, Product.row])
  have hpi := (hok.prods pr hprm).1
  have htk := ticket_range (f := f) (l := l) (i := i) hpi hok.discount.1
  have hT0 : 0 ≤ minSum f (l.take i) := by rw [← hT]; omega
  have hTb : minSum f (l.take i) ≤ 8000000 := by
    obtain ⟨d, e1, e2⟩ := minSum_get hT0
    have := div_mild hok _ _ e1
    rw [List.length_take] at this
    omega
  have hway : Way f l i q (minSum f (l.take i) + ticket f pr l i) := ⟨pr, hi, hpr, hT0, h4, rfl⟩
  refine ⟨.int .i64 (ticket f pr l i), State_price_ok f pr l .unk i hf hok hpi hl' hi (by have hm : maxLen = 9223372036854775807 := rfl; omega) hNt3 hNf3 hown3, ?_⟩
  simp -implicitDefEqProofs (disch := omega) only [go_sem, Nat.reduceAdd, Nat.reduceMul, Nat.reduceSub, Nat.reduceBEq, Nat.reduceLeDiff, Nat.reduceLT, fn_farestate_State_Ride, e16_1, w16_1, e16_3, w16_3, c16_4, e16_6, w16_6, e16_8, w16_8, c16_9, e16_11, w16_11, e16_13, w16_13, e16_15, w16_15, e16_17, w16_17, e16_19, w16_19, e16_21, w16_21, c16_22, e16_24, w16_24, e16_26, w16_26, e16_28, w16_28, c16_29, e16_31, w16_31, e16_33, w16_33, e16_35, w16_35, e16_37, w16_37, e16_39, w16_39, c16_40, c16_41, c16_42, c16_43, e16_45, w16_45, c16_46, c16_47, c16_48, c16_49, c16_50, c16_51, c16_52, c16_53, e16_55, w16_55, c16_56, c16_57, c16_58, c16_59, c16_60, c16_61, e16_63, w16_63, e16_65, w16_65, c16_66, c16_67, c16_68, c16_69, c16_70, c16_71, c16_72, c16_73, c16_74, hT]
  refine ifD (fun h5 => ?_) (fun h5 => ?_)
  · simp -implicitDefEqProofs (disch := omega) only [go_sem, Nat.reduceAdd, Nat.reduceMul, Nat.reduceSub, Nat.reduceBEq, Nat.reduceLeDiff, Nat.reduceLT, fn_farestate_State_Ride, e16_1, w16_1, e16_3, w16_3, c16_4, e16_6, w16_6, e16_8, w16_8, c16_9, e16_11, w16_11, e16_13, w16_13, e16_15, w16_15, e16_17, w16_17, e16_19, w16_19, e16_21, w16_21, c16_22, e16_24, w16_24, e16_26, w16_26, e16_28, w16_28, c16_29, e16_31, w16_31, e16_33, w16_33, e16_35, w16_35, e16_37, w16_37, e16_39, w16_39, c16_40, c16_41, c16_42, c16_43, e16_45, w16_45, c16_46, c16_47, c16_48, c16_49, c16_50, c16_51, c16_52, c16_53, e16_55, w16_55, c16_56, c16_57, c16_58, c16_59, c16_60, c16_61, e16_63, w16_63, e16_65, w16_65, c16_66, c16_67, c16_68, c16_69, c16_70, c16_71, c16_72, c16_73, c16_74]
    refine next_pop hq (hpop _) ⟨_, hb.take hway (by omega) (.inl h5) hV, by omega, ?_, ?_⟩
    · simp only [vals, sget]; rfl
    · exact app_take _ _
  simp -implicitDefEqProofs (disch := omega) only [go_sem, Nat.reduceAdd, Nat.reduceMul, Nat.reduceSub, Nat.reduceBEq, Nat.reduceLeDiff, Nat.reduceLT, fn_farestate_State_Ride, e16_1, w16_1, e16_3, w16_3, c16_4, e16_6, w16_6, e16_8, w16_8, c16_9, e16_11, w16_11, e16_13, w16_13, e16_15, w16_15, e16_17, w16_17, e16_19, w16_19, e16_21, w16_21, c16_22, e16_24, w16_24, e16_26, w16_26, e16_28, w16_28, c16_29, e16_31, w16_31, e16_33, w16_33, e16_35, w16_35, e16_37, w16_37, e16_39, w16_39, c16_40, c16_41, c16_42, c16_43, e16_45, w16_45, c16_46, c16_47, c16_48, c16_49, c16_50, c16_51, c16_52, c16_53, e16_55, w16_55, c16_56, c16_57, c16_58, c16_59, c16_60, c16_61, e16_63, w16_63, e16_65, w16_65, c16_66, c16_67, c16_68, c16_69, c16_70, c16_71, c16_72, c16_73, c16_74]
  refine ifD (fun h6 => ?_) (fun h6 => ?_)
  · simp -implicitDefEqProofs (disch := omega) only [go_sem, Nat.reduceAdd, Nat.reduceMul, Nat.reduceSub, Nat.reduceBEq, Nat.reduceLeDiff, Nat.reduceLT, fn_farestate_State_Ride, e16_1, w16_1, e16_3, w16_3, c16_4, e16_6, w16_6, e16_8, w16_8, c16_9, e16_11, w16_11, e16_13, w16_13, e16_15, w16_15, e16_17, w16_17, e16_19, w16_19, e16_21, w16_21, c16_22, e16_24, w16_24, e16_26, w16_26, e16_28, w16_28, c16_29, e16_31, w16_31, e16_33, w16_33, e16_35, w16_35, e16_37, w16_37, e16_39, w16_39, c16_40, c16_41, c16_42, c16_43, e16_45, w16_45, c16_46, c16_47, c16_48, c16_49, c16_50, c16_51, c16_52, c16_53, e16_55, w16_55, c16_56, c16_57, c16_58, c16_59, c16_60, c16_61, e16_63, w16_63, e16_65, w16_65, c16_66, c16_67, c16_68, c16_69, c16_70, c16_71, c16_72, c16_73, c16_74]
    refine next_pop hq (hpop _) ⟨_, hb.take hway (by omega) (.inr h6) hV, by omega, ?_, ?_⟩
    · simp only [vals, sget]; rfl
    · exact app_take _ _
  · simp -implicitDefEqProofs (disch := omega) only [go_sem, Nat.reduceAdd, Nat.reduceMul, Nat.reduceSub, Nat.reduceBEq, Nat.reduceLeDiff, Nat.reduceLT, fn_farestate_State_Ride, e16_1, w16_1, e16_3, w16_3, c16_4, e16_6, w16_6, e16_8, w16_8, c16_9, e16_11, w16_11, e16_13, w16_13, e16_15, w16_15, e16_17, w16_17, e16_19, w16_19, e16_21, w16_21, c16_22, e16_24, w16_24, e16_26, w16_26, e16_28, w16_28, c16_29, e16_31, w16_31, e16_33, w16_33, e16_35, w16_35, e16_37, w16_37, e16_39, w16_39, c16_40, c16_41, c16_42, c16_43, e16_45, w16_45, c16_46, c16_47, c16_48, c16_49, c16_50, c16_51, c16_52, c16_53, e16_55, w16_55, c16_56, c16_57, c16_58, c16_59, c16_60, c16_61, e16_63, w16_63, e16_65, w16_65, c16_66, c16_67, c16_68, c16_69, c16_70, c16_71, c16_72, c16_73, c16_74]
    refine next_pop hq (hpop _) ⟨b, hb.keep hway h5 h6 hV, hb2, ?_, ?_⟩
    · simp only [vals, sget]; rfl
    · exact app_take _ _

end Go.Vm.C

