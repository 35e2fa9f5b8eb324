/- Sets of integers as lists of spans; contracts: membership, the reference's ends. -/
import Derived.Test.YtoikggblbknapaaC0
import Derived.Test.YtoikggblbknapaaR1

namespace Go.Vm.C
open Go.Vm
set_option maxHeartbeats 1000000
set_option maxRecDepth 10000
set_option linter.unusedSimpArgs false
set_option linter.unusedVariables false

/-! ### Sets of integers as lists of spans -/
def nRow (n : Int) : List V := [.int .i64 n]
def spRow (s : Int × Int) : List V := [.int .i64 s.1, .int .i64 s.2]
def inS (l : List (Int × Int)) (x : Int) : Bool := l.any fun s => decide (s.1 ≤ x) && decide (x < s.2)
theorem inS_iff {l : List (Int × Int)} {x : Int} : inS l x = true ↔ ∃ s ∈ l, s.1 ≤ x ∧ x < s.2 := by
  simp [inS, List.any_eq_true]
def insO : List Int → Int → List Int
  | [], x => [x]
  | a :: r, x => if a < x then a :: insO r x else if a = x then a :: r else x :: a :: r
theorem mem_insO {y x : Int} : ∀ {l : List Int}, y ∈ insO l x ↔ y = x ∨ y ∈ l
  | [] => by simp [insO]
  | a :: r => by
    rw [insO]
    split
    · rw [List.mem_cons, mem_insO (l := r), List.mem_cons]
      constructor
      · rintro (h | h | h) <;> simp [h]
      · rintro (h | h | h) <;> simp [h]
    · split
      · rename_i h; subst h; simp
      · simp
theorem sorted_insO {x : Int} : ∀ {l : List Int}, l.Pairwise (· < ·) → (insO l x).Pairwise (· < ·)
  | [], _ => by simp [insO]
  | a :: r, h => by
    obtain ⟨h1, h2⟩ := List.pairwise_cons.1 h
    rw [insO]
    split
    · rename_i h3
      refine List.pairwise_cons.2 ⟨fun y hy => ?_, sorted_insO h2⟩
      rcases mem_insO.1 hy with h4 | h4
      · omega
      · exact h1 y h4
    · split
      · exact h
      · refine List.pairwise_cons.2 ⟨fun y hy => ?_, h⟩
        rcases List.mem_cons.1 hy with h4 | h4
        · omega
        · have := h1 y h4; omega
theorem insO_at : ∀ (l : List Int) (x : Int) (k : Nat), k ≤ l.length → (∀ j (h : j < l.length), j < k → l[j] < x) → (∀ h : k < l.length, ¬ l[k] < x) →
    insO l x = if l[k]? = some x then l else l.take k ++ x :: l.drop k
  | [], x, k, hk, _, _ => by
    have : k = 0 := by simpa using hk
    subst this
    simp [insO]
  | a :: r, x, 0, _, _, h2 => by
    have := h2 (by simp)
    simp only [List.getElem_cons_zero] at this
    rw [insO, if_neg this]
    simp
  | a :: r, x, k + 1, hk, h1, h2 => by
    have h3 := h1 0 (by simp) (by omega)
    simp only [List.getElem_cons_zero] at h3
    rw [insO, if_pos h3, insO_at r x k (by simpa using hk) (fun j hj hjk => by have := h1 (j + 1) (by simpa using hj) (by omega); simpa using this) (fun h => by have := h2 (by simpa using h); simpa using this)]
    simp only [List.getElem?_cons_succ, List.take_succ_cons, List.drop_succ_cons, List.cons_append]
    split <;> rfl
theorem sorted_ext : ∀ {l l' : List Int}, l.Pairwise (· < ·) → l'.Pairwise (· < ·) → (∀ x, x ∈ l ↔ x ∈ l') → l = l'
  | [], [], _, _, _ => rfl
  | [], a :: r, _, _, h => by have := (h a).2 (by simp); simp at this
  | a :: r, [], _, _, h => by have := (h a).1 (by simp); simp at this
  | a :: r, a' :: r', h1, h2, h => by
    obtain ⟨h3, h4⟩ := List.pairwise_cons.1 h1
    obtain ⟨h5, h6⟩ := List.pairwise_cons.1 h2
    have e : a = a' := by
      rcases List.mem_cons.1 ((h a).1 (by simp)) with h7 | h7
      · exact h7
      · rcases List.mem_cons.1 ((h a').2 (by simp)) with h8 | h8
        · exact h8.symm
        · have := h5 _ h7; have := h3 _ h8; omega
    subst e
    rw [sorted_ext h4 h6 fun x => ?_]
    constructor
    · intro hx
      rcases List.mem_cons.1 ((h x).1 (List.mem_cons_of_mem _ hx)) with h7 | h7
      · have := h3 x hx; omega
      · exact h7
    · intro hx
      rcases List.mem_cons.1 ((h x).2 (List.mem_cons_of_mem _ hx)) with h7 | h7
      · have := h5 x hx; omega
      · exact h7
def sortU (l : List Int) : List Int := l.foldl insO []
theorem sortU_aux : ∀ (l o : List Int), o.Pairwise (· < ·) → (l.foldl insO o).Pairwise (· < ·) ∧ ∀ x, x ∈ l.foldl insO o ↔ x ∈ o ∨ x ∈ l
  | [], o, h => ⟨h, by simp⟩
  | a :: l, o, h => by
    obtain ⟨h1, h2⟩ := sortU_aux l (insO o a) (sorted_insO h)
    refine ⟨h1, fun x => ?_⟩
    rw [List.foldl_cons, h2, mem_insO, List.mem_cons]
    constructor
    · rintro ((h | h) | h) <;> simp [h]
    · rintro (h | h | h) <;> simp [h]
theorem sortU_sorted (l : List Int) : (sortU l).Pairwise (· < ·) := (sortU_aux l [] List.Pairwise.nil).1
theorem mem_sortU {l : List Int} {x : Int} : x ∈ sortU l ↔ x ∈ l := by
  have := (sortU_aux l [] List.Pairwise.nil).2 x
  simpa [sortU] using this
theorem length_insO (l : List Int) (x : Int) : (insO l x).length ≤ l.length + 1 := by
  induction l with
  | nil => simp [insO]
  | cons a r ih =>
    rw [insO]
    split
    · simp; exact ih
    · split <;> simp
theorem length_foldl_insO : ∀ (l o : List Int), (l.foldl insO o).length ≤ o.length + l.length
  | [], o => by simp
  | a :: l, o => by
    have h1 := length_foldl_insO l (insO o a)
    have h2 := length_insO o a
    rw [List.foldl_cons, List.length_cons]
    omega
theorem length_sortU (l : List Int) : (sortU l).length ≤ l.length := by
  have := length_foldl_insO l []
  simpa [sortU] using this
theorem compact_upto {zs : List Int} (h : zs.Pairwise (· ≤ ·)) : ∀ m, m ≤ zs.length → (Go.Lib.compactUpTo zs.toArray m).Pairwise (· < ·) ∧ (∀ x, x ∈ Go.Lib.compactUpTo zs.toArray m ↔ x ∈ zs.take m) ∧ (∀ x ∈ Go.Lib.compactUpTo zs.toArray m, ∀ y, zs[m - 1]? = some y → x ≤ y)
  | 0, _ => by simp [Go.Lib.compactUpTo]
  | m + 1, hm => by
    obtain ⟨h1, h2, h3⟩ := compact_upto h m (by omega)
    have hm' : m < zs.length := by omega
    have hget : zs.toArray[m]! = zs[m] := by rw [getElem!_pos _ m (by simpa using hm')]; simp
    have htake : zs.take (m + 1) = zs.take m ++ [zs[m]] := by rw [List.take_succ_eq_append_getElem hm']
    rw [Go.Lib.compactUpTo_succ, htake, hget]
    have hsort := List.pairwise_iff_getElem.1 h
    by_cases hk : Go.Lib.keeps zs.toArray m = true
    · rw [if_pos hk]
      have hlt : ∀ x ∈ Go.Lib.compactUpTo zs.toArray m, x < zs[m] := by
        intro x hx
        have hm0 : 0 < m := by
          rcases Nat.eq_zero_or_pos m with h0 | h0
          · subst h0; simp [Go.Lib.compactUpTo] at hx
          · exact h0
        have hp : m - 1 < zs.length := by omega
        have h4 := h3 x hx _ (List.getElem?_eq_getElem hp)
        have h5 := hsort (m - 1) m hp hm' (by omega)
        have hne : zs[m] ≠ zs[m - 1] := by
          simp only [Go.Lib.keeps, decide_eq_true_eq] at hk
          rcases hk with hk | hk
          · omega
          · rw [hget, getElem!_pos _ (m - 1) (by simpa using hp)] at hk
            simpa using hk
        omega
      refine ⟨List.pairwise_append.2 ⟨h1, by simp, fun a ha b hb => by simp at hb; subst hb; exact hlt a ha⟩, fun x => by rw [List.mem_append, List.mem_append, h2], fun x hx y hy => ?_⟩
      rw [Nat.add_sub_cancel, List.getElem?_eq_getElem hm'] at hy
      cases hy
      rcases List.mem_append.1 hx with hx | hx
      · exact Int.le_of_lt (hlt x hx)
      · simp at hx; omega
    · rw [if_neg hk, List.append_nil]
      simp only [Go.Lib.keeps, decide_eq_true_eq, not_or, Decidable.not_not] at hk
      obtain ⟨hm0, he⟩ := hk
      have hp : m - 1 < zs.length := by omega
      rw [hget, getElem!_pos _ (m - 1) (by simpa using hp)] at he
      have he' : zs[m] = zs[m - 1] := by simpa using he
      refine ⟨h1, fun x => ?_, fun x hx y hy => ?_⟩
      · rw [h2, List.mem_append]
        constructor
        · exact Or.inl
        · rintro (h | h)
          · exact h
          · simp at h
            subst h
            rw [he']
            refine List.mem_take_iff_getElem.2 ⟨m - 1, by omega, rfl⟩
      · rw [Nat.add_sub_cancel, List.getElem?_eq_getElem hm'] at hy
        cases hy
        have := h3 x hx _ (List.getElem?_eq_getElem hp)
        omega
theorem compact_sort (l : List Int) : Go.Lib.compact (l.mergeSort fun x y => decide (x ≤ y)) = sortU l := by
  have hs : (l.mergeSort fun x y => decide (x ≤ y)).Pairwise (· ≤ ·) := by
    have := List.pairwise_mergeSort (le := fun (x y : Int) => decide (x ≤ y)) (fun a b c h1 h2 => by simp at *; omega) (fun a b => by simp; omega) l
    exact this.imp fun h => by simpa using h
  obtain ⟨h1, h2, _⟩ := compact_upto hs _ (Nat.le_refl _)
  refine sorted_ext h1 (sortU_sorted l) fun x => ?_
  rw [mem_sortU]
  have := h2 x
  rw [List.take_length, List.mem_mergeSort] at this
  exact this
/-! ### Lists in normal form, reversed -/
def NR (r : List (Int × Int)) : Prop := r.Pairwise (fun s t => t.2 < s.1) ∧ ∀ s ∈ r, s.1 < s.2
theorem inS_cons (s : Int × Int) (l : List (Int × Int)) (x : Int) : inS (s :: l) x = ((decide (s.1 ≤ x) && decide (x < s.2)) || inS l x) := rfl
theorem NR.cons {s : Int × Int} {r : List (Int × Int)} (h : NR (s :: r)) : NR r ∧ s.1 < s.2 ∧ ∀ t ∈ r, t.2 < s.1 := by
  obtain ⟨h1, h2⟩ := h
  obtain ⟨h3, h4⟩ := List.pairwise_cons.1 h1
  exact ⟨⟨h4, fun t ht => h2 t (by simp [ht])⟩, h2 s (by simp), h3⟩
theorem NR.ext : ∀ {r r' : List (Int × Int)}, NR r → NR r' → (∀ x, inS r x = true ↔ inS r' x = true) → r = r'
  | [], [], _, _, _ => rfl
  | [], s :: r, _, h, hx => by
    obtain ⟨_, h2, _⟩ := h.cons
    have := (hx s.1).2 (inS_iff.2 ⟨s, by simp, by omega, h2⟩)
    simp [inS] at this
  | s :: r, [], h, _, hx => by
    obtain ⟨_, h2, _⟩ := h.cons
    have := (hx s.1).1 (inS_iff.2 ⟨s, by simp, by omega, h2⟩)
    simp [inS] at this
  | s :: r, s' :: r', h, h', hx => by
    obtain ⟨h1, h2, h3⟩ := h.cons
    obtain ⟨h4, h5, h6⟩ := h'.cons
    have e2 : s.2 = s'.2 := by
      have k1 := (hx (s'.2 - 1)).2 (inS_iff.2 ⟨s', by simp, by omega, by omega⟩)
      have k2 := (hx (s.2 - 1)).1 (inS_iff.2 ⟨s, by simp, by omega, by omega⟩)
      obtain ⟨t, ht, t1, t2⟩ := inS_iff.1 k1
      obtain ⟨u, hu, u1, u2⟩ := inS_iff.1 k2
      have p1 : s'.2 ≤ s.2 := by
        rcases List.mem_cons.1 ht with rfl | ht
        · omega
        · have := h3 t ht; omega
      have p2 : s.2 ≤ s'.2 := by
        rcases List.mem_cons.1 hu with rfl | hu
        · omega
        · have := h6 u hu; omega
      omega
    have e1 : s.1 = s'.1 := by
      by_cases p : s.1 < s'.1
      · obtain ⟨t, ht, t1, t2⟩ := inS_iff.1 ((hx (s'.1 - 1)).1 (inS_iff.2 ⟨s, by simp, by omega, by omega⟩))
        rcases List.mem_cons.1 ht with rfl | ht
        · omega
        · have := h6 t ht; omega
      · by_cases q : s'.1 < s.1
        · obtain ⟨t, ht, t1, t2⟩ := inS_iff.1 ((hx (s.1 - 1)).2 (inS_iff.2 ⟨s', by simp, by omega, by omega⟩))
          rcases List.mem_cons.1 ht with rfl | ht
          · omega
          · have := h3 t ht; omega
        · omega
    have e : s = s' := Prod.ext e1 e2
    subst e
    rw [NR.ext h1 h4 fun x => ?_]
    constructor
    · intro k
      obtain ⟨t, ht, t1, t2⟩ := inS_iff.1 k
      obtain ⟨u, hu, u1, u2⟩ := inS_iff.1 ((hx x).1 (inS_iff.2 ⟨t, by simp [ht], t1, t2⟩))
      rcases List.mem_cons.1 hu with rfl | hu
      · have := h3 t ht; omega
      · exact inS_iff.2 ⟨u, hu, u1, u2⟩
    · intro k
      obtain ⟨t, ht, t1, t2⟩ := inS_iff.1 k
      obtain ⟨u, hu, u1, u2⟩ := inS_iff.1 ((hx x).2 (inS_iff.2 ⟨t, by simp [ht], t1, t2⟩))
      rcases List.mem_cons.1 hu with rfl | hu
      · have := h6 t ht; omega
      · exact inS_iff.2 ⟨u, hu, u1, u2⟩
/-! ### How a list is built from ends and a condition -/
def bstep (p : Int → Bool) (r : List (Int × Int)) (x y : Int) : List (Int × Int) :=
  if p x = true then
    match r with
    | s :: r' => if s.2 = x then (s.1, y) :: r' else (x, y) :: s :: r'
    | [] => [(x, y)]
  else r
def bldR (e : List Int) (p : Int → Bool) : Nat → List (Int × Int)
  | 0 => []
  | n + 1 => bstep p (bldR e p n) (e.getD n 0) (e.getD (n + 1) 0)
def bld (e : List Int) (p : Int → Bool) : List (Int × Int) := (bldR e p (e.length - 1)).reverse
theorem inS_reverse (l : List (Int × Int)) (x : Int) : inS l.reverse x = inS l x := by
  rw [Bool.eq_iff_iff, inS_iff, inS_iff]; simp
structure Stable (e : List Int) (p : Int → Bool) : Prop where
  step : ∀ x y, x ≤ y → (∀ z ∈ e, ¬ (x < z ∧ z ≤ y)) → p x = p y
  low : ∀ x, (∀ z ∈ e, x < z) → p x = false
  high : ∀ x, (∀ z ∈ e, z ≤ x) → p x = false
theorem bldR_ok {e : List Int} {p : Int → Bool} (he : e.Pairwise (· < ·)) (hp : Stable e p) : ∀ n, n < e.length → NR (bldR e p n) ∧ (∀ s ∈ bldR e p n, s.2 ≤ e.getD n 0) ∧ ∀ x, inS (bldR e p n) x = true ↔ p x = true ∧ e.getD 0 0 ≤ x ∧ x < e.getD n 0
  | 0, h => ⟨⟨List.Pairwise.nil, by simp [bldR]⟩, by simp [bldR], fun x => by simp [bldR, inS]⟩
  | n + 1, h => by
    obtain ⟨h1, h2, h3⟩ := bldR_ok he hp n (by omega)
    have hs := List.pairwise_iff_getElem.1 he
    have g0 : e.getD n 0 = e[n] := by simp [List.getD, show n < e.length by omega]
    have g1 : e.getD (n + 1) 0 = e[n + 1] := by simp [List.getD, h]
    have g2 : e.getD 0 0 = e[0] := by simp [List.getD, show 0 < e.length by omega]
    have hlt : e[n] < e[n + 1] := hs n (n + 1) (by omega) h (by omega)
    have h0n : e[0] ≤ e[n] := by
      rcases Nat.eq_zero_or_pos n with h0 | h0
      · subst h0; omega
      · have := hs 0 n (by omega) (by omega) h0; omega
    have hconst : ∀ x, e[n] ≤ x → x < e[n + 1] → p x = p e[n] := by
      intro x h4 h5
      refine (hp.step e[n] x h4 fun z hz ⟨z1, z2⟩ => ?_).symm
      obtain ⟨k, hk, rfl⟩ := List.getElem_of_mem hz
      by_cases hkn : k ≤ n
      · rcases Nat.lt_or_eq_of_le hkn with hkn | hkn
        · have := hs k n hk (by omega) hkn; omega
        · subst hkn; omega
      · rcases Nat.lt_or_eq_of_le (show n + 1 ≤ k by omega) with hkn | hkn
        · have := hs (n + 1) k h hk hkn; omega
        · subst hkn; omega
    rw [g0] at h2
    rw [g0, g2] at h3
    rw [bldR, g0, g1, g2]
    unfold bstep
    by_cases hpn : p e[n] = true
    · rw [if_pos hpn]
      have key : ∀ x, (p x = true ∧ e[0] ≤ x ∧ x < e[n + 1]) ↔ ((p x = true ∧ e[0] ≤ x ∧ x < e[n]) ∨ (e[n] ≤ x ∧ x < e[n + 1])) := by
        intro x
        constructor
        · rintro ⟨k1, k2, k3⟩
          by_cases k4 : x < e[n]
          · exact .inl ⟨k1, k2, k4⟩
          · exact .inr ⟨by omega, k3⟩
        · rintro (⟨k1, k2, k3⟩ | ⟨k1, k2⟩)
          · exact ⟨k1, k2, by omega⟩
          · exact ⟨(hconst x k1 k2).trans hpn, by omega, k2⟩
      cases hr : bldR e p n with
      | nil =>
        rw [hr] at h3
        refine ⟨⟨by simp, fun s hs' => ?_⟩, fun s hs' => ?_, fun x => ?_⟩
        · simp at hs'; subst hs'; exact hlt
        · simp at hs'; subst hs'; exact Int.le_refl _
        · rw [key, ← h3]; simp [inS]
      | cons s r =>
        rw [hr] at h1 h2 h3
        obtain ⟨k1, k2, k3⟩ := h1.cons
        have k4 := h2 s (by simp)
        simp only
        by_cases hse : s.2 = e[n]
        · rw [if_pos hse]
          refine ⟨⟨List.pairwise_cons.2 ⟨fun t ht => k3 t ht, k1.1⟩, fun t ht => ?_⟩, fun t ht => ?_, fun x => ?_⟩
          · rcases List.mem_cons.1 ht with rfl | ht
            · show s.1 < e[n + 1]; omega
            · exact k1.2 t ht
          · rcases List.mem_cons.1 ht with rfl | ht
            · exact Int.le_refl _
            · have := h2 t (by simp [ht]); omega
          · rw [key, ← h3]
            simp only [inS_cons, Bool.or_eq_true, Bool.and_eq_true, decide_eq_true_eq]
            constructor
            · rintro (⟨a, b⟩ | a)
              · by_cases c : x < e[n]
                · exact .inl (.inl ⟨a, by omega⟩)
                · exact .inr ⟨by omega, b⟩
              · exact .inl (.inr a)
            · rintro ((⟨a, b⟩ | a) | ⟨a, b⟩)
              · exact .inl ⟨a, by omega⟩
              · exact .inr a
              · exact .inl ⟨by omega, b⟩
        · rw [if_neg hse]
          refine ⟨⟨List.pairwise_cons.2 ⟨fun t ht => ?_, h1.1⟩, fun t ht => ?_⟩, fun t ht => ?_, fun x => ?_⟩
          · show t.2 < e[n]
            rcases List.mem_cons.1 ht with rfl | ht
            · omega
            · have := k3 t ht; omega
          · rcases List.mem_cons.1 ht with rfl | ht
            · exact hlt
            · exact h1.2 t ht
          · rcases List.mem_cons.1 ht with rfl | ht
            · exact Int.le_refl _
            · have := h2 t ht; omega
          · rw [key, ← h3, inS_cons]
            simp only [Bool.or_eq_true, Bool.and_eq_true, decide_eq_true_eq]
            constructor
            · rintro (a | a)
              · exact .inr a
              · exact .inl a
            · rintro (a | a)
              · exact .inr a
              · exact .inl a
    · rw [if_neg hpn]
      refine ⟨h1, fun s hs' => by have := h2 s hs'; omega, fun x => ?_⟩
      rw [h3]
      constructor
      · rintro ⟨k1, k2, k3⟩; exact ⟨k1, k2, by omega⟩
      · rintro ⟨k1, k2, k3⟩
        refine ⟨k1, k2, ?_⟩
        by_cases k4 : x < e[n]
        · exact k4
        · rw [hconst x (by omega) k3] at k1; exact absurd k1 hpn
theorem bld_ok {e : List Int} {p : Int → Bool} (he : e.Pairwise (· < ·)) (hp : Stable e p) : NR (bldR e p (e.length - 1)) ∧ ∀ x, inS (bldR e p (e.length - 1)) x = p x := by
  cases hl : e with
  | nil =>
    subst hl
    refine ⟨⟨by simp [bldR], by simp [bldR]⟩, fun x => ?_⟩
    rw [hp.low x (by simp)]; rfl
  | cons a r =>
    rw [← hl]
    have hpos : 0 < e.length := by rw [hl]; simp
    obtain ⟨h1, _, h3⟩ := bldR_ok he hp (e.length - 1) (by omega)
    refine ⟨h1, fun x => ?_⟩
    have hs := List.pairwise_iff_getElem.1 he
    rw [Bool.eq_iff_iff, h3]
    have g0 : e.getD 0 0 = e[0] := by simp [List.getD, hpos]
    have g1 : e.getD (e.length - 1) 0 = e[e.length - 1] := by rw [List.getD, List.getElem?_eq_getElem (by omega)]; rfl
    rw [g0, g1]
    constructor
    · exact fun h => h.1
    · intro h
      refine ⟨h, ?_, ?_⟩
      · refine Decidable.byContradiction fun k => ?_
        rw [hp.low x fun z hz => ?_] at h
        · cases h
        · obtain ⟨j, hj, rfl⟩ := List.getElem_of_mem hz
          rcases Nat.eq_zero_or_pos j with h0 | h0
          · subst h0; omega
          · have := hs 0 j hpos hj h0; omega
      · refine Decidable.byContradiction fun k => ?_
        rw [hp.high x fun z hz => ?_] at h
        · cases h
        · obtain ⟨j, hj, rfl⟩ := List.getElem_of_mem hz
          rcases Nat.lt_or_eq_of_le (show j ≤ e.length - 1 by omega) with h0 | h0
          · have := hs j (e.length - 1) hj (by omega) h0; omega
          · subst h0; omega
theorem bld_same {e e' : List Int} {p p' : Int → Bool} (he : e.Pairwise (· < ·)) (hp : Stable e p) (he' : e'.Pairwise (· < ·)) (hp' : Stable e' p') (h : ∀ x, p x = p' x) : bld e p = bld e' p' := by
  obtain ⟨h1, h2⟩ := bld_ok he hp
  obtain ⟨h3, h4⟩ := bld_ok he' hp'
  rw [bld, bld, NR.ext h1 h3 fun x => by rw [h2, h4, h]]
theorem inS_bld {e : List Int} {p : Int → Bool} (he : e.Pairwise (· < ·)) (hp : Stable e p) (x : Int) : inS (bld e p) x = p x := by
  rw [bld, inS_reverse]; exact (bld_ok he hp).2 x
/-! ### The conditions -/
def rawE (l : List (Int × Int)) : List Int := l.flatMap fun s => if s.1 < s.2 then [s.1, s.2] else []
theorem stable_in {e : List Int} {l : List (Int × Int)} (h : ∀ z ∈ rawE l, z ∈ e) : Stable e (inS l) := by
  have hends : ∀ s ∈ l, s.1 < s.2 → s.1 ∈ e ∧ s.2 ∈ e := by
    intro s hs hlt
    have : ∀ z ∈ [s.1, s.2], z ∈ e := fun z hz => h z (List.mem_flatMap.2 ⟨s, hs, by rw [if_pos hlt]; exact hz⟩)
    exact ⟨this _ (by simp), this _ (by simp)⟩
  refine ⟨fun x y hxy hz => ?_, fun x hx => ?_, fun x hx => ?_⟩
  · rw [Bool.eq_iff_iff, inS_iff, inS_iff]
    constructor
    · rintro ⟨s, hs, a, b⟩
      have k := hends s hs (by omega)
      have := hz s.2 k.2
      exact ⟨s, hs, by omega, by omega⟩
    · rintro ⟨s, hs, a, b⟩
      have k := hends s hs (by omega)
      have := hz s.1 k.1
      exact ⟨s, hs, by omega, by omega⟩
  · refine Bool.eq_false_iff.2 fun k => ?_
    obtain ⟨s, hs, a, b⟩ := inS_iff.1 k
    have := hx s.1 (hends s hs (by omega)).1
    omega
  · refine Bool.eq_false_iff.2 fun k => ?_
    obtain ⟨s, hs, a, b⟩ := inS_iff.1 k
    have := hx s.2 (hends s hs (by omega)).2
    omega
theorem Stable.op {e : List Int} {p q : Int → Bool} (hp : Stable e p) (hq : Stable e q) (f : Bool → Bool → Bool) (hf : f false false = false) : Stable e (fun x => f (p x) (q x)) :=
  ⟨fun x y h1 h2 => by rw [hp.step x y h1 h2, hq.step x y h1 h2], fun x h => by rw [hp.low x h, hq.low x h, hf], fun x h => by rw [hp.high x h, hq.high x h, hf]⟩
/-- The three operations, and all ends of both lists. -/
def kop (kind : Int) (p q : Bool) : Bool := if kind = 0 then p || q else if kind = 1 then p && q else p && !q
theorem kop_ff (kind : Int) : kop kind false false = false := by
  unfold kop
  split
  · rfl
  · split <;> rfl
def refEnds (l : List (Int × Int)) (o : List Int) : List Int := l.foldl (fun o s => insO (insO o s.1) s.2) o
theorem refEnds_ok : ∀ (l : List (Int × Int)) (o : List Int), o.Pairwise (· < ·) → (refEnds l o).Pairwise (· < ·) ∧ (∀ x ∈ o, x ∈ refEnds l o) ∧ (∀ x ∈ rawE l, x ∈ refEnds l o) ∧ (refEnds l o).length ≤ o.length + 2 * l.length
  | [], o, h => ⟨h, fun x hx => hx, fun x hx => by simp [rawE] at hx, by simp [refEnds]⟩
  | s :: l, o, h => by
    obtain ⟨h1, h2, h3, h4⟩ := refEnds_ok l (insO (insO o s.1) s.2) (sorted_insO (sorted_insO h))
    have e : refEnds (s :: l) o = refEnds l (insO (insO o s.1) s.2) := rfl
    rw [e]
    refine ⟨h1, fun x hx => h2 x (mem_insO.2 (.inr (mem_insO.2 (.inr hx)))), fun x hx => ?_, ?_⟩
    · rw [rawE, List.flatMap_cons, List.mem_append] at hx
      rcases hx with hx | hx
      · split at hx
        · simp at hx
          rcases hx with rfl | rfl
          · exact h2 _ (mem_insO.2 (.inr (mem_insO.2 (.inl rfl))))
          · exact h2 _ (mem_insO.2 (.inl rfl))
        · simp at hx
      · exact h3 x hx
    · have := length_insO (insO o s.1) s.2
      have := length_insO o s.1
      simp only [List.length_cons]
      omega
def cmb (kind : Int) (a b : List (Int × Int)) : List (Int × Int) := bld (sortU (rawE a ++ rawE b)) (fun x => kop kind (inS a x) (inS b x))
def refCmb (kind : Int) (a b : List (Int × Int)) : List (Int × Int) := bld (refEnds b (refEnds a [])) (fun x => kop kind (inS a x) (inS b x))
def nrm (l : List (Int × Int)) : List (Int × Int) := bld (sortU (rawE l)) (inS l)
theorem stable_cmb (kind : Int) (a b : List (Int × Int)) : Stable (sortU (rawE a ++ rawE b)) (fun x => kop kind (inS a x) (inS b x)) :=
  (stable_in fun z hz => mem_sortU.2 (by simp [hz])).op (stable_in fun z hz => mem_sortU.2 (by simp [hz])) (kop kind) (kop_ff kind)
theorem stable_ref (kind : Int) (a b : List (Int × Int)) : (refEnds b (refEnds a [])).Pairwise (· < ·) ∧ Stable (refEnds b (refEnds a [])) (fun x => kop kind (inS a x) (inS b x)) := by
  obtain ⟨h1, h2, h3, _⟩ := refEnds_ok a [] List.Pairwise.nil
  obtain ⟨h4, h5, h6, _⟩ := refEnds_ok b _ h1
  exact ⟨h4, (stable_in fun z hz => h5 z (h3 z hz)).op (stable_in fun z hz => h6 z hz) (kop kind) (kop_ff kind)⟩
theorem stable_nrm (l : List (Int × Int)) : Stable (sortU (rawE l)) (inS l) := stable_in fun z hz => mem_sortU.2 hz
theorem cmb_ref (kind : Int) (a b : List (Int × Int)) : cmb kind a b = refCmb kind a b :=
  bld_same (sortU_sorted _) (stable_cmb kind a b) (stable_ref kind a b).1 (stable_ref kind a b).2 fun _ => rfl
theorem nrm_ref (l : List (Int × Int)) : nrm l = refCmb 0 l [] :=
  bld_same (sortU_sorted _) (stable_nrm l) (stable_ref 0 l []).1 (stable_ref 0 l []).2 fun x => by simp [kop, inS]
theorem inS_cmb (kind : Int) (a b : List (Int × Int)) (x : Int) : inS (cmb kind a b) x = kop kind (inS a x) (inS b x) := inS_bld (sortU_sorted _) (stable_cmb kind a b) x
theorem inS_nrm (l : List (Int × Int)) (x : Int) : inS (nrm l) x = inS l x := inS_bld (sortU_sorted _) (stable_nrm l) x
theorem bldR_length (e : List Int) (p : Int → Bool) : ∀ n, (bldR e p n).length ≤ n
  | 0 => by simp [bldR]
  | n + 1 => by
    have ih := bldR_length e p n
    rw [bldR]
    unfold bstep
    split
    · split
      · rename_i s r hr
        rw [hr] at ih
        split <;> simp at ih ⊢ <;> omega
      · simp
    · omega
theorem bld_length (e : List Int) (p : Int → Bool) : (bld e p).length ≤ e.length := by
  rw [bld, List.length_reverse]
  have := bldR_length e p (e.length - 1)
  omega
theorem rawE_length : ∀ l : List (Int × Int), (rawE l).length ≤ 2 * l.length
  | [] => by simp [rawE]
  | s :: l => by
    have ih := rawE_length l
    have e : rawE (s :: l) = (if s.1 < s.2 then [s.1, s.2] else []) ++ rawE l := rfl
    rw [e, List.length_append, List.length_cons]
    split <;> simp <;> omega
theorem nrm_length (l : List (Int × Int)) : (nrm l).length ≤ 2 * l.length :=
  Nat.le_trans (bld_length _ _) (Nat.le_trans (length_sortU _) (rawE_length l))
theorem cmb_length (kind : Int) (a b : List (Int × Int)) : (cmb kind a b).length ≤ 2 * a.length + 2 * b.length := by
  refine Nat.le_trans (bld_length _ _) (Nat.le_trans (length_sortU _) ?_)
  rw [List.length_append]
  have := rawE_length a
  have := rawE_length b
  omega

/-! ### Contracts: membership, lists of spans, equality -/
theorem dropc {α : Type} {l : List α} {i : Nat} {t : α} (h : l[i]? = some t) : l.drop i = t :: l.drop (i + 1) := by
  obtain ⟨hi, rfl⟩ := List.getElem?_eq_some_iff.1 h
  exact List.drop_eq_getElem_cons hi
theorem inS_take_succ {l : List (Int × Int)} {i : Nat} {s : Int × Int} (h : l[i]? = some s) (x : Int) : inS (l.take (i + 1)) x = (inS (l.take i) x || (decide (s.1 ≤ x) && decide (x < s.2))) := by
  rw [List.take_add_one, h]
  simp [inS, List.any_append]
theorem inS_true {l : List (Int × Int)} {i : Nat} {s : Int × Int} (h : l[i]? = some s) {x : Int} (h1 : s.1 ≤ x) (h2 : x < s.2) : inS l x = true := inS_iff.2 ⟨s, List.mem_of_getElem? h, h1, h2⟩

theorem interval_Contains_ok (l : List (Int × Int)) (c : Cap) (x : Int) (hl : l.length ≤ maxLen) : PCalls PR i_interval_Contains [.slice (l.map spRow) c, .int .i64 x] (fun v => v = .bool (inS l x)) := by
  have hm : maxLen = 9223372036854775807 := by rfl
  refine acalls_pop fn_interval_Contains_ok (by simp [fn_interval_Contains]) ?_
  simp -implicitDefEqProofs (disch := omega) only [go_sem, Nat.reduceAdd, Nat.reduceMul, Nat.reduceSub, Nat.reduceBEq, Nat.reduceLeDiff, Nat.reduceLT, fn_interval_Contains, e13_1, w13_1, e13_3, w13_3, e13_5, w13_5, c13_6, e13_8, w13_8, e13_10, w13_10, c13_11, e13_13, w13_13, c13_14, c13_15, e13_17, w13_17, c13_18, c13_19, c13_20, c13_21, c13_22, c13_23, e13_25, w13_25, c13_26, c13_27, c13_28]
  refine wpC_forL l (fun i vs M => inS (l.take i) x = false ∧ vs = [.int .i64 x, .slice (l.map spRow) c, .int .i64 l.length, .int .i64 i] ∧ M = []) ⟨by simp [inS], rfl, rfl⟩ ?_ ?_
  · rintro i s vs M hs hi hd ⟨hno, rfl, rfl⟩
    simp -implicitDefEqProofs (disch := omega) only [go_sem, Nat.reduceAdd, Nat.reduceMul, Nat.reduceSub, Nat.reduceBEq, Nat.reduceLeDiff, Nat.reduceLT, fn_interval_Contains, e13_1, w13_1, e13_3, w13_3, e13_5, w13_5, c13_6, e13_8, w13_8, e13_10, w13_10, c13_11, e13_13, w13_13, c13_14, c13_15, e13_17, w13_17, c13_18, c13_19, c13_20, c13_21, c13_22, c13_23, e13_25, w13_25, c13_26, c13_27, c13_28, hd, hs, spRow]
    refine ifD (fun h1 => ?_) (fun h1 => ?_)
    · simp -implicitDefEqProofs (disch := omega) only [go_sem, Nat.reduceAdd, Nat.reduceMul, Nat.reduceSub, Nat.reduceBEq, Nat.reduceLeDiff, Nat.reduceLT, fn_interval_Contains, e13_1, w13_1, e13_3, w13_3, e13_5, w13_5, c13_6, e13_8, w13_8, e13_10, w13_10, c13_11, e13_13, w13_13, c13_14, c13_15, e13_17, w13_17, c13_18, c13_19, c13_20, c13_21, c13_22, c13_23, e13_25, w13_25, c13_26, c13_27, c13_28]
      refine ifD (fun h2 => ?_) (fun h2 => ?_)
      · simp -implicitDefEqProofs (disch := omega) only [go_sem, Nat.reduceAdd, Nat.reduceMul, Nat.reduceSub, Nat.reduceBEq, Nat.reduceLeDiff, Nat.reduceLT, fn_interval_Contains, e13_1, w13_1, e13_3, w13_3, e13_5, w13_5, c13_6, e13_8, w13_8, e13_10, w13_10, c13_11, e13_13, w13_13, c13_14, c13_15, e13_17, w13_17, c13_18, c13_19, c13_20, c13_21, c13_22, c13_23, e13_25, w13_25, c13_26, c13_27, c13_28]
        rw [inS_true hs h1 h2]
      · simp -implicitDefEqProofs (disch := omega) only [go_sem, Nat.reduceAdd, Nat.reduceMul, Nat.reduceSub, Nat.reduceBEq, Nat.reduceLeDiff, Nat.reduceLT, fn_interval_Contains, e13_1, w13_1, e13_3, w13_3, e13_5, w13_5, c13_6, e13_8, w13_8, e13_10, w13_10, c13_11, e13_13, w13_13, c13_14, c13_15, e13_17, w13_17, c13_18, c13_19, c13_20, c13_21, c13_22, c13_23, e13_25, w13_25, c13_26, c13_27, c13_28]
        refine next_pop hi rfl ⟨?_, rfl, rfl⟩
        rw [inS_take_succ hs, hno]
        simp [h2]
    · simp -implicitDefEqProofs (disch := omega) only [go_sem, Nat.reduceAdd, Nat.reduceMul, Nat.reduceSub, Nat.reduceBEq, Nat.reduceLeDiff, Nat.reduceLT, fn_interval_Contains, e13_1, w13_1, e13_3, w13_3, e13_5, w13_5, c13_6, e13_8, w13_8, e13_10, w13_10, c13_11, e13_13, w13_13, c13_14, c13_15, e13_17, w13_17, c13_18, c13_19, c13_20, c13_21, c13_22, c13_23, e13_25, w13_25, c13_26, c13_27, c13_28]
      refine next_pop hi rfl ⟨?_, rfl, rfl⟩
      rw [inS_take_succ hs, hno]
      simp [h1]
  · rintro vs M ⟨hno, rfl, rfl⟩
    rw [List.take_length] at hno
    simp -implicitDefEqProofs (disch := omega) only [go_sem, Nat.reduceAdd, Nat.reduceMul, Nat.reduceSub, Nat.reduceBEq, Nat.reduceLeDiff, Nat.reduceLT, fn_interval_Contains, e13_1, w13_1, e13_3, w13_3, e13_5, w13_5, c13_6, e13_8, w13_8, e13_10, w13_10, c13_11, e13_13, w13_13, c13_14, c13_15, e13_17, w13_17, c13_18, c13_19, c13_20, c13_21, c13_22, c13_23, e13_25, w13_25, c13_26, c13_27, c13_28, dec_irrefl]
    rw [hno]

theorem transitref08_Contains_ok (l : List (Int × Int)) (c : Cap) (x : Int) (hl : l.length ≤ maxLen) : PCalls PR i_transitref08_Contains [.slice (l.map spRow) c, .int .i64 x] (fun v => v = .bool (inS l x)) := by
  have hm : maxLen = 9223372036854775807 := by rfl
  refine acalls_pop fn_transitref08_Contains_ok (by simp [fn_transitref08_Contains]) ?_
  simp -implicitDefEqProofs (disch := omega) only [go_sem, Nat.reduceAdd, Nat.reduceMul, Nat.reduceSub, Nat.reduceBEq, Nat.reduceLeDiff, Nat.reduceLT, fn_transitref08_Contains, e15_1, w15_1, e15_3, w15_3, e15_5, w15_5, e15_7, w15_7, c15_8, e15_10, w15_10, c15_11, e15_13, w15_13, c15_14, c15_15, c15_16, c15_17, c15_18, e15_20, w15_20, c15_21, c15_22, c15_23]
  refine wpC_forL l (fun i vs M => inS (l.take i) x = false ∧ vs = [.slice (l.map spRow) c, .int .i64 x, .int .i64 i] ∧ M = []) ⟨by simp [inS], rfl, rfl⟩ ?_ ?_
  · rintro i s vs M hs hi hd ⟨hno, rfl, rfl⟩
    simp -implicitDefEqProofs (disch := omega) only [go_sem, Nat.reduceAdd, Nat.reduceMul, Nat.reduceSub, Nat.reduceBEq, Nat.reduceLeDiff, Nat.reduceLT, fn_transitref08_Contains, e15_1, w15_1, e15_3, w15_3, e15_5, w15_5, e15_7, w15_7, c15_8, e15_10, w15_10, c15_11, e15_13, w15_13, c15_14, c15_15, c15_16, c15_17, c15_18, e15_20, w15_20, c15_21, c15_22, c15_23, hd, hs, spRow]
    refine ifD (fun h1 => ?_) (fun h1 => ?_)
    · simp -implicitDefEqProofs (disch := omega) only [go_sem, Nat.reduceAdd, Nat.reduceMul, Nat.reduceSub, Nat.reduceBEq, Nat.reduceLeDiff, Nat.reduceLT, fn_transitref08_Contains, e15_1, w15_1, e15_3, w15_3, e15_5, w15_5, e15_7, w15_7, c15_8, e15_10, w15_10, c15_11, e15_13, w15_13, c15_14, c15_15, c15_16, c15_17, c15_18, e15_20, w15_20, c15_21, c15_22, c15_23, hs, spRow]
      refine ifD (fun h2 => ?_) (fun h2 => ?_)
      · simp -implicitDefEqProofs (disch := omega) only [go_sem, Nat.reduceAdd, Nat.reduceMul, Nat.reduceSub, Nat.reduceBEq, Nat.reduceLeDiff, Nat.reduceLT, fn_transitref08_Contains, e15_1, w15_1, e15_3, w15_3, e15_5, w15_5, e15_7, w15_7, c15_8, e15_10, w15_10, c15_11, e15_13, w15_13, c15_14, c15_15, c15_16, c15_17, c15_18, e15_20, w15_20, c15_21, c15_22, c15_23]
        rw [inS_true hs h1 h2]
      · simp -implicitDefEqProofs (disch := omega) only [go_sem, Nat.reduceAdd, Nat.reduceMul, Nat.reduceSub, Nat.reduceBEq, Nat.reduceLeDiff, Nat.reduceLT, fn_transitref08_Contains, e15_1, w15_1, e15_3, w15_3, e15_5, w15_5, e15_7, w15_7, c15_8, e15_10, w15_10, c15_11, e15_13, w15_13, c15_14, c15_15, c15_16, c15_17, c15_18, e15_20, w15_20, c15_21, c15_22, c15_23]
        refine next_stay hi ⟨?_, rfl, rfl⟩
        rw [inS_take_succ hs, hno]
        simp [h2]
    · simp -implicitDefEqProofs (disch := omega) only [go_sem, Nat.reduceAdd, Nat.reduceMul, Nat.reduceSub, Nat.reduceBEq, Nat.reduceLeDiff, Nat.reduceLT, fn_transitref08_Contains, e15_1, w15_1, e15_3, w15_3, e15_5, w15_5, e15_7, w15_7, c15_8, e15_10, w15_10, c15_11, e15_13, w15_13, c15_14, c15_15, c15_16, c15_17, c15_18, e15_20, w15_20, c15_21, c15_22, c15_23]
      refine next_stay hi ⟨?_, rfl, rfl⟩
      rw [inS_take_succ hs, hno]
      simp [h1]
  · rintro vs M ⟨hno, rfl, rfl⟩
    rw [List.take_length] at hno
    simp -implicitDefEqProofs (disch := omega) only [go_sem, Nat.reduceAdd, Nat.reduceMul, Nat.reduceSub, Nat.reduceBEq, Nat.reduceLeDiff, Nat.reduceLT, fn_transitref08_Contains, e15_1, w15_1, e15_3, w15_3, e15_5, w15_5, e15_7, w15_7, c15_8, e15_10, w15_10, c15_11, e15_13, w15_13, c15_14, c15_15, c15_16, c15_17, c15_18, e15_20, w15_20, c15_21, c15_22, c15_23, dec_irrefl]
    rw [hno]

theorem interval_Valid_ok (s : Int × Int) : PCalls PR i_interval_Valid [.agg (spRow s)] (fun v => v = .bool (decide (s.1 < s.2))) := by
  refine acalls_pop fn_interval_Valid_ok (by simp [fn_interval_Valid]) ?_
  simp -implicitDefEqProofs (disch := omega) only [go_sem, Nat.reduceAdd, Nat.reduceMul, Nat.reduceSub, Nat.reduceBEq, Nat.reduceLeDiff, Nat.reduceLT, fn_interval_Valid, e12_1, w12_1, e12_3, w12_3, c12_4, c12_5, spRow]

theorem kept_ok (a b : List (Int × Int)) (c d : Cap) (kind x : Int) (ha : a.length ≤ maxLen) (hb : b.length ≤ maxLen) : PCalls PR i_transitref08_kept [.slice (a.map spRow) c, .slice (b.map spRow) d, .int .i64 kind, .int .i64 x] (fun v => v = .bool (kop kind (inS a x) (inS b x))) := by
  refine acalls_pop fn_transitref08_kept_ok (by simp [fn_transitref08_kept]) ?_
  simp -implicitDefEqProofs (disch := omega) only [go_sem, Nat.reduceAdd, Nat.reduceMul, Nat.reduceSub, Nat.reduceBEq, Nat.reduceLeDiff, Nat.reduceLT, fn_transitref08_kept, e32_1, w32_1, e32_3, w32_3, c32_4, e32_6, w32_6, e32_8, w32_8, c32_9, e32_11, w32_11, e32_13, w32_13, c32_14, c32_15, c32_16, c32_17]
  refine ifD (fun h1 => ?_) (fun h1 => ?_)
  · simp -implicitDefEqProofs (disch := omega) only [go_sem, Nat.reduceAdd, Nat.reduceMul, Nat.reduceSub, Nat.reduceBEq, Nat.reduceLeDiff, Nat.reduceLT, fn_transitref08_kept, e32_1, w32_1, e32_3, w32_3, c32_4, e32_6, w32_6, e32_8, w32_8, c32_9, e32_11, w32_11, e32_13, w32_13, c32_14, c32_15, c32_16, c32_17]
    first | refine callD (transitref08_Contains_ok a c x ha) ?_ | refine callQD (transitref08_Contains_ok a c x ha) ?_
    simp -implicitDefEqProofs (disch := omega) only [go_sem, Nat.reduceAdd, Nat.reduceMul, Nat.reduceSub, Nat.reduceBEq, Nat.reduceLeDiff, Nat.reduceLT, fn_transitref08_kept, e32_1, w32_1, e32_3, w32_3, c32_4, e32_6, w32_6, e32_8, w32_8, c32_9, e32_11, w32_11, e32_13, w32_13, c32_14, c32_15, c32_16, c32_17]
    refine ifB (fun h2 => ?_) (fun h2 => ?_)
    · simp -implicitDefEqProofs (disch := omega) only [go_sem, Nat.reduceAdd, Nat.reduceMul, Nat.reduceSub, Nat.reduceBEq, Nat.reduceLeDiff, Nat.reduceLT, fn_transitref08_kept, e32_1, w32_1, e32_3, w32_3, c32_4, e32_6, w32_6, e32_8, w32_8, c32_9, e32_11, w32_11, e32_13, w32_13, c32_14, c32_15, c32_16, c32_17]
      simp [kop, h1, h2]
    simp -implicitDefEqProofs (disch := omega) only [go_sem, Nat.reduceAdd, Nat.reduceMul, Nat.reduceSub, Nat.reduceBEq, Nat.reduceLeDiff, Nat.reduceLT, fn_transitref08_kept, e32_1, w32_1, e32_3, w32_3, c32_4, e32_6, w32_6, e32_8, w32_8, c32_9, e32_11, w32_11, e32_13, w32_13, c32_14, c32_15, c32_16, c32_17]
    first | refine callD (transitref08_Contains_ok b d x hb) ?_ | refine callQD (transitref08_Contains_ok b d x hb) ?_
    simp -implicitDefEqProofs (disch := omega) only [go_sem, Nat.reduceAdd, Nat.reduceMul, Nat.reduceSub, Nat.reduceBEq, Nat.reduceLeDiff, Nat.reduceLT, fn_transitref08_kept, e32_1, w32_1, e32_3, w32_3, c32_4, e32_6, w32_6, e32_8, w32_8, c32_9, e32_11, w32_11, e32_13, w32_13, c32_14, c32_15, c32_16, c32_17]
    simp [kop, h1, h2]
  simp -implicitDefEqProofs (disch := omega) only [go_sem, Nat.reduceAdd, Nat.reduceMul, Nat.reduceSub, Nat.reduceBEq, Nat.reduceLeDiff, Nat.reduceLT, fn_transitref08_kept, e32_1, w32_1, e32_3, w32_3, c32_4, e32_6, w32_6, e32_8, w32_8, c32_9, e32_11, w32_11, e32_13, w32_13, c32_14, c32_15, c32_16, c32_17]
  refine ifD (fun h2 => ?_) (fun h2 => ?_)
  · simp -implicitDefEqProofs (disch := omega) only [go_sem, Nat.reduceAdd, Nat.reduceMul, Nat.reduceSub, Nat.reduceBEq, Nat.reduceLeDiff, Nat.reduceLT, fn_transitref08_kept, e32_1, w32_1, e32_3, w32_3, c32_4, e32_6, w32_6, e32_8, w32_8, c32_9, e32_11, w32_11, e32_13, w32_13, c32_14, c32_15, c32_16, c32_17]
    first | refine callD (transitref08_Contains_ok a c x ha) ?_ | refine callQD (transitref08_Contains_ok a c x ha) ?_
    simp -implicitDefEqProofs (disch := omega) only [go_sem, Nat.reduceAdd, Nat.reduceMul, Nat.reduceSub, Nat.reduceBEq, Nat.reduceLeDiff, Nat.reduceLT, fn_transitref08_kept, e32_1, w32_1, e32_3, w32_3, c32_4, e32_6, w32_6, e32_8, w32_8, c32_9, e32_11, w32_11, e32_13, w32_13, c32_14, c32_15, c32_16, c32_17]
    refine ifB (fun h3 => ?_) (fun h3 => ?_)
    · simp -implicitDefEqProofs (disch := omega) only [go_sem, Nat.reduceAdd, Nat.reduceMul, Nat.reduceSub, Nat.reduceBEq, Nat.reduceLeDiff, Nat.reduceLT, fn_transitref08_kept, e32_1, w32_1, e32_3, w32_3, c32_4, e32_6, w32_6, e32_8, w32_8, c32_9, e32_11, w32_11, e32_13, w32_13, c32_14, c32_15, c32_16, c32_17]
      first | refine callD (transitref08_Contains_ok b d x hb) ?_ | refine callQD (transitref08_Contains_ok b d x hb) ?_
      simp -implicitDefEqProofs (disch := omega) only [go_sem, Nat.reduceAdd, Nat.reduceMul, Nat.reduceSub, Nat.reduceBEq, Nat.reduceLeDiff, Nat.reduceLT, fn_transitref08_kept, e32_1, w32_1, e32_3, w32_3, c32_4, e32_6, w32_6, e32_8, w32_8, c32_9, e32_11, w32_11, e32_13, w32_13, c32_14, c32_15, c32_16, c32_17]
      simp [kop, h2, h3]
    simp -implicitDefEqProofs (disch := omega) only [go_sem, Nat.reduceAdd, Nat.reduceMul, Nat.reduceSub, Nat.reduceBEq, Nat.reduceLeDiff, Nat.reduceLT, fn_transitref08_kept, e32_1, w32_1, e32_3, w32_3, c32_4, e32_6, w32_6, e32_8, w32_8, c32_9, e32_11, w32_11, e32_13, w32_13, c32_14, c32_15, c32_16, c32_17]
    simp [kop, h2, h3]
  simp -implicitDefEqProofs (disch := omega) only [go_sem, Nat.reduceAdd, Nat.reduceMul, Nat.reduceSub, Nat.reduceBEq, Nat.reduceLeDiff, Nat.reduceLT, fn_transitref08_kept, e32_1, w32_1, e32_3, w32_3, c32_4, e32_6, w32_6, e32_8, w32_8, c32_9, e32_11, w32_11, e32_13, w32_13, c32_14, c32_15, c32_16, c32_17]
  first | refine callD (transitref08_Contains_ok a c x ha) ?_ | refine callQD (transitref08_Contains_ok a c x ha) ?_
  simp -implicitDefEqProofs (disch := omega) only [go_sem, Nat.reduceAdd, Nat.reduceMul, Nat.reduceSub, Nat.reduceBEq, Nat.reduceLeDiff, Nat.reduceLT, fn_transitref08_kept, e32_1, w32_1, e32_3, w32_3, c32_4, e32_6, w32_6, e32_8, w32_8, c32_9, e32_11, w32_11, e32_13, w32_13, c32_14, c32_15, c32_16, c32_17]
  refine ifB (fun h3 => ?_) (fun h3 => ?_)
  · simp -implicitDefEqProofs (disch := omega) only [go_sem, Nat.reduceAdd, Nat.reduceMul, Nat.reduceSub, Nat.reduceBEq, Nat.reduceLeDiff, Nat.reduceLT, fn_transitref08_kept, e32_1, w32_1, e32_3, w32_3, c32_4, e32_6, w32_6, e32_8, w32_8, c32_9, e32_11, w32_11, e32_13, w32_13, c32_14, c32_15, c32_16, c32_17]
    first | refine callD (transitref08_Contains_ok b d x hb) ?_ | refine callQD (transitref08_Contains_ok b d x hb) ?_
    simp -implicitDefEqProofs (disch := omega) only [go_sem, Nat.reduceAdd, Nat.reduceMul, Nat.reduceSub, Nat.reduceBEq, Nat.reduceLeDiff, Nat.reduceLT, fn_transitref08_kept, e32_1, w32_1, e32_3, w32_3, c32_4, e32_6, w32_6, e32_8, w32_8, c32_9, e32_11, w32_11, e32_13, w32_13, c32_14, c32_15, c32_16, c32_17]
    simp [kop, h1, h2, h3]
  simp -implicitDefEqProofs (disch := omega) only [go_sem, Nat.reduceAdd, Nat.reduceMul, Nat.reduceSub, Nat.reduceBEq, Nat.reduceLeDiff, Nat.reduceLT, fn_transitref08_kept, e32_1, w32_1, e32_3, w32_3, c32_4, e32_6, w32_6, e32_8, w32_8, c32_9, e32_11, w32_11, e32_13, w32_13, c32_14, c32_15, c32_16, c32_17]
  simp [kop, h1, h2, h3]

theorem spRow_len (s : Int × Int) : (spRow s).length = 2 := rfl
theorem spans_ok (l : List (Int × Int)) (c : Cap) (hl : l.length ≤ 1000) : PCalls PR i_transitlaw08_spans [.slice (l.map spRow) c] (fun v => v = .slice (l.map spRow) .unk) := by
  refine acalls_pop fn_transitlaw08_spans_ok (by simp [fn_transitlaw08_spans]) ?_
  simp -implicitDefEqProofs (disch := omega) only [go_sem, Nat.reduceAdd, Nat.reduceMul, Nat.reduceSub, Nat.reduceBEq, Nat.reduceLeDiff, Nat.reduceLT, fn_transitlaw08_spans, e14_1, w14_1, e14_3, w14_3, e14_5, w14_5, e14_7, w14_7, e14_9, w14_9, c14_10, e14_12, w14_12, c14_13, c14_14, c14_15, c14_16, c14_17, e14_19, w14_19, c14_20, c14_21, c14_22, c14_23]
  refine wpC_forL l (fun i vs M => ∃ ver, vs = [.slice (l.map spRow) c, .mslice 0 ver 0 i, .int .i64 i] ∧ M = [.arr 2 ((l.take i).map spRow) ver 0]) ⟨0, rfl, rfl⟩ ?_ ?_
  · rintro i s vs M hs hi hd ⟨ver, rfl, rfl⟩
    have hlen : (l.take i).length = i := by simp; omega
    have e : (l.take i).map spRow ++ [[.int .i64 s.1, .int .i64 s.2]] = (l.take (i + 1)).map spRow := by
      rw [List.take_add_one, hs]; simp [spRow]
    simp -implicitDefEqProofs (disch := omega) only [go_sem, Nat.reduceAdd, Nat.reduceMul, Nat.reduceSub, Nat.reduceBEq, Nat.reduceLeDiff, Nat.reduceLT, fn_transitlaw08_spans, e14_1, w14_1, e14_3, w14_3, e14_5, w14_5, e14_7, w14_7, e14_9, w14_9, c14_10, e14_12, w14_12, c14_13, c14_14, c14_15, c14_16, c14_17, e14_19, w14_19, c14_20, c14_21, c14_22, c14_23, hd, hs, spRow, hlen]
    rw [e]
    exact next_stay hi ⟨ver + 1, rfl, rfl⟩
  · rintro vs M ⟨ver, rfl, rfl⟩
    simp -implicitDefEqProofs (disch := omega) only [go_sem, Nat.reduceAdd, Nat.reduceMul, Nat.reduceSub, Nat.reduceBEq, Nat.reduceLeDiff, Nat.reduceLT, fn_transitlaw08_spans, e14_1, w14_1, e14_3, w14_3, e14_5, w14_5, e14_7, w14_7, e14_9, w14_9, c14_10, e14_12, w14_12, c14_13, c14_14, c14_15, c14_16, c14_17, e14_19, w14_19, c14_20, c14_21, c14_22, c14_23, dec_irrefl, List.take_length]

/-- Two lists of spans compared. -/
theorem equal_ok (a b : List (Int × Int)) (c d : Cap) (ha : a.length ≤ maxLen) (h : a = b) : PCalls PR i_transitlaw08_equal [.slice (a.map spRow) c, .slice (b.map spRow) d] (fun v => v = .bool true) := by
  subst h
  have hm : maxLen = 9223372036854775807 := by rfl
  refine acalls_pop fn_transitlaw08_equal_ok (by simp [fn_transitlaw08_equal]) ?_
  simp -implicitDefEqProofs (disch := omega) only [go_sem, Nat.reduceAdd, Nat.reduceMul, Nat.reduceSub, Nat.reduceBEq, Nat.reduceLeDiff, Nat.reduceLT, fn_transitlaw08_equal, e16_1, w16_1, e16_3, w16_3, c16_4, e16_6, w16_6, e16_8, w16_8, e16_10, w16_10, e16_12, w16_12, c16_13, e16_15, w16_15, c16_16, e16_18, w16_18, c16_19, c16_20, c16_21, c16_22, c16_23, e16_25, w16_25, c16_26, c16_27, c16_28, c16_29]
  refine wpC_forL a (fun i vs M => vs = [.slice (a.map spRow) c, .slice (a.map spRow) d, .int .i64 i] ∧ M = []) ⟨rfl, rfl⟩ ?_ ?_
  · rintro i s vs M hs hi hd ⟨rfl, rfl⟩
    simp -implicitDefEqProofs (disch := omega) only [go_sem, Nat.reduceAdd, Nat.reduceMul, Nat.reduceSub, Nat.reduceBEq, Nat.reduceLeDiff, Nat.reduceLT, fn_transitlaw08_equal, e16_1, w16_1, e16_3, w16_3, c16_4, e16_6, w16_6, e16_8, w16_8, e16_10, w16_10, e16_12, w16_12, c16_13, e16_15, w16_15, c16_16, e16_18, w16_18, c16_19, c16_20, c16_21, c16_22, c16_23, e16_25, w16_25, c16_26, c16_27, c16_28, c16_29, hd, hs, spRow]
    exact next_stay hi ⟨rfl, rfl⟩
  · rintro vs M ⟨rfl, rfl⟩
    simp -implicitDefEqProofs (disch := omega) only [go_sem, Nat.reduceAdd, Nat.reduceMul, Nat.reduceSub, Nat.reduceBEq, Nat.reduceLeDiff, Nat.reduceLT, fn_transitlaw08_equal, e16_1, w16_1, e16_3, w16_3, c16_4, e16_6, w16_6, e16_8, w16_8, e16_10, w16_10, e16_12, w16_12, c16_13, e16_15, w16_15, c16_16, e16_18, w16_18, c16_19, c16_20, c16_21, c16_22, c16_23, e16_25, w16_25, c16_26, c16_27, c16_28, c16_29, dec_irrefl]

theorem same08_ok (a b : List (Int × Int)) (c d : Cap) (ha : a.length ≤ maxLen) (h : a = b) : PCalls PR i_transitlaw08_same [.slice (a.map spRow) c, .slice (b.map spRow) d] (fun v => v = .bool true) := by
  subst h
  have hm : maxLen = 9223372036854775807 := by rfl
  refine acalls_pop fn_transitlaw08_same_ok (by simp [fn_transitlaw08_same]) ?_
  simp -implicitDefEqProofs (disch := omega) only [go_sem, Nat.reduceAdd, Nat.reduceMul, Nat.reduceSub, Nat.reduceBEq, Nat.reduceLeDiff, Nat.reduceLT, fn_transitlaw08_same, e26_1, w26_1, e26_3, w26_3, c26_4, e26_6, w26_6, e26_8, w26_8, e26_10, w26_10, e26_12, w26_12, c26_13, e26_15, w26_15, c26_16, e26_18, w26_18, c26_19, c26_20, c26_21, c26_22, c26_23, e26_25, w26_25, c26_26, c26_27, c26_28, c26_29]
  refine wpC_forL a (fun i vs M => vs = [.slice (a.map spRow) c, .slice (a.map spRow) d, .int .i64 i] ∧ M = []) ⟨rfl, rfl⟩ ?_ ?_
  · rintro i s vs M hs hi hd ⟨rfl, rfl⟩
    simp -implicitDefEqProofs (disch := omega) only [go_sem, Nat.reduceAdd, Nat.reduceMul, Nat.reduceSub, Nat.reduceBEq, Nat.reduceLeDiff, Nat.reduceLT, fn_transitlaw08_same, e26_1, w26_1, e26_3, w26_3, c26_4, e26_6, w26_6, e26_8, w26_8, e26_10, w26_10, e26_12, w26_12, c26_13, e26_15, w26_15, c26_16, e26_18, w26_18, c26_19, c26_20, c26_21, c26_22, c26_23, e26_25, w26_25, c26_26, c26_27, c26_28, c26_29, hd, hs, spRow]
    exact next_stay hi ⟨rfl, rfl⟩
  · rintro vs M ⟨rfl, rfl⟩
    simp -implicitDefEqProofs (disch := omega) only [go_sem, Nat.reduceAdd, Nat.reduceMul, Nat.reduceSub, Nat.reduceBEq, Nat.reduceLeDiff, Nat.reduceLT, fn_transitlaw08_same, e26_1, w26_1, e26_3, w26_3, c26_4, e26_6, w26_6, e26_8, w26_8, e26_10, w26_10, e26_12, w26_12, c26_13, e26_15, w26_15, c26_16, e26_18, w26_18, c26_19, c26_20, c26_21, c26_22, c26_23, e26_25, w26_25, c26_26, c26_27, c26_28, c26_29, dec_irrefl]

/-- A list in normal form. -/
def NF (l : List (Int × Int)) : Prop := (∀ (i : Nat) (s : Int × Int), l[i]? = some s → s.1 < s.2) ∧ ∀ (i : Nat) (s t : Int × Int), l[i]? = some s → l[i + 1]? = some t → s.2 < t.1
theorem NR.nf {r : List (Int × Int)} (h : NR r) : NF r.reverse := by
  refine ⟨fun i s hs => h.2 s (by simpa using List.mem_of_getElem? hs), fun i s t hs ht => ?_⟩
  have hp : r.reverse.Pairwise (fun s t => s.2 < t.1) := by rw [List.pairwise_reverse]; exact h.1
  have h2 := List.pairwise_iff_getElem.1 hp
  obtain ⟨h3, rfl⟩ := List.getElem?_eq_some_iff.1 hs
  obtain ⟨h4, rfl⟩ := List.getElem?_eq_some_iff.1 ht
  exact h2 i (i + 1) h3 h4 (by omega)

theorem normal_ok (a : List (Int × Int)) (c : Cap) (ha : a.length ≤ maxLen) (h : NF a) : PCalls PR i_transitlaw08_normal [.slice (a.map spRow) c] (fun v => v = .bool true) := by
  have hm : maxLen = 9223372036854775807 := by rfl
  refine acalls_pop fn_transitlaw08_normal_ok (by simp [fn_transitlaw08_normal]) ?_
  simp -implicitDefEqProofs (disch := omega) only [go_sem, Nat.reduceAdd, Nat.reduceMul, Nat.reduceSub, Nat.reduceBEq, Nat.reduceLeDiff, Nat.reduceLT, fn_transitlaw08_normal, e25_1, w25_1, e25_3, w25_3, e25_5, w25_5, e25_7, w25_7, c25_8, e25_10, w25_10, c25_11, e25_13, w25_13, c25_14, c25_15, c25_16, c25_17, c25_18, e25_20, w25_20, c25_21, c25_22, c25_23]
  refine wpC_forL a (fun i vs M => vs = [.slice (a.map spRow) c, .int .i64 i] ∧ M = []) ⟨rfl, rfl⟩ ?_ ?_
  · rintro i s vs M hs hi hd ⟨rfl, rfl⟩
    have h1 := h.1 i s hs
    simp -implicitDefEqProofs (disch := omega) only [go_sem, Nat.reduceAdd, Nat.reduceMul, Nat.reduceSub, Nat.reduceBEq, Nat.reduceLeDiff, Nat.reduceLT, fn_transitlaw08_normal, e25_1, w25_1, e25_3, w25_3, e25_5, w25_5, e25_7, w25_7, c25_8, e25_10, w25_10, c25_11, e25_13, w25_13, c25_14, c25_15, c25_16, c25_17, c25_18, e25_20, w25_20, c25_21, c25_22, c25_23, hd, hs, spRow]
    refine ifD (fun h2 => ?_) (fun h2 => ?_)
    · omega
    simp -implicitDefEqProofs (disch := omega) only [go_sem, Nat.reduceAdd, Nat.reduceMul, Nat.reduceSub, Nat.reduceBEq, Nat.reduceLeDiff, Nat.reduceLT, fn_transitlaw08_normal, e25_1, w25_1, e25_3, w25_3, e25_5, w25_5, e25_7, w25_7, c25_8, e25_10, w25_10, c25_11, e25_13, w25_13, c25_14, c25_15, c25_16, c25_17, c25_18, e25_20, w25_20, c25_21, c25_22, c25_23, hd, hs, spRow]
    refine ifD (fun h3 => ?_) (fun h3 => ?_)
    · obtain ⟨k, rfl⟩ : ∃ k, i = k + 1 := ⟨i - 1, by omega⟩
      obtain ⟨t, ht⟩ : ∃ t, a[k]? = some t := ⟨a[k], by simp⟩
      have h4 := h.2 k t s ht hs
      have e : ((k + 1 : Nat) : Int) - 1 = (k : Int) := by omega
      simp -implicitDefEqProofs (disch := omega) only [go_sem, Nat.reduceAdd, Nat.reduceMul, Nat.reduceSub, Nat.reduceBEq, Nat.reduceLeDiff, Nat.reduceLT, fn_transitlaw08_normal, e25_1, w25_1, e25_3, w25_3, e25_5, w25_5, e25_7, w25_7, c25_8, e25_10, w25_10, c25_11, e25_13, w25_13, c25_14, c25_15, c25_16, c25_17, c25_18, e25_20, w25_20, c25_21, c25_22, c25_23, hd, hs, ht, spRow, e, Nat.add_sub_cancel]
      refine ifD (fun h5 => ?_) (fun h5 => ?_)
      · omega
      simp -implicitDefEqProofs (disch := omega) only [go_sem, Nat.reduceAdd, Nat.reduceMul, Nat.reduceSub, Nat.reduceBEq, Nat.reduceLeDiff, Nat.reduceLT, fn_transitlaw08_normal, e25_1, w25_1, e25_3, w25_3, e25_5, w25_5, e25_7, w25_7, c25_8, e25_10, w25_10, c25_11, e25_13, w25_13, c25_14, c25_15, c25_16, c25_17, c25_18, e25_20, w25_20, c25_21, c25_22, c25_23]
      exact next_stay hi ⟨rfl, rfl⟩
    · simp -implicitDefEqProofs (disch := omega) only [go_sem, Nat.reduceAdd, Nat.reduceMul, Nat.reduceSub, Nat.reduceBEq, Nat.reduceLeDiff, Nat.reduceLT, fn_transitlaw08_normal, e25_1, w25_1, e25_3, w25_3, e25_5, w25_5, e25_7, w25_7, c25_8, e25_10, w25_10, c25_11, e25_13, w25_13, c25_14, c25_15, c25_16, c25_17, c25_18, e25_20, w25_20, c25_21, c25_22, c25_23]
      exact next_stay hi ⟨rfl, rfl⟩
  · rintro vs M ⟨rfl, rfl⟩
    simp -implicitDefEqProofs (disch := omega) only [go_sem, Nat.reduceAdd, Nat.reduceMul, Nat.reduceSub, Nat.reduceBEq, Nat.reduceLeDiff, Nat.reduceLT, fn_transitlaw08_normal, e25_1, w25_1, e25_3, w25_3, e25_5, w25_5, e25_7, w25_7, c25_8, e25_10, w25_10, c25_11, e25_13, w25_13, c25_14, c25_15, c25_16, c25_17, c25_18, e25_20, w25_20, c25_21, c25_22, c25_23, dec_irrefl]

/-- All ends are between -2^40 and 2^40. -/
def bnd (l : List (Int × Int)) : Bool := l.all fun s => decide (-1099511627776 ≤ s.1) && decide (s.1 ≤ 1099511627776) && decide (-1099511627776 ≤ s.2) && decide (s.2 ≤ 1099511627776)
theorem bounded_ok (a : List (Int × Int)) (c : Cap) (ha : a.length ≤ maxLen) : PCalls PR i_transitlaw08_bounded [.slice (a.map spRow) c] (fun v => v = .bool (bnd a)) := by
  have hm : maxLen = 9223372036854775807 := by rfl
  refine acalls_pop fn_transitlaw08_bounded_ok (by simp [fn_transitlaw08_bounded]) ?_
  simp -implicitDefEqProofs (disch := omega) only [go_sem, Nat.reduceAdd, Nat.reduceMul, Nat.reduceSub, Nat.reduceBEq, Nat.reduceLeDiff, Nat.reduceLT, fn_transitlaw08_bounded, e27_1, w27_1, e27_3, w27_3, e27_5, w27_5, e27_7, w27_7, c27_8, e27_10, w27_10, c27_11, e27_13, w27_13, c27_14, c27_15, c27_16, c27_17, c27_18, e27_20, w27_20, c27_21, c27_22, c27_23]
  refine wpC_forL a (fun i vs M => bnd (a.take i) = true ∧ vs = [.slice (a.map spRow) c, .int .i64 i] ∧ M = []) ⟨by simp [bnd], rfl, rfl⟩ ?_ ?_
  · rintro i s vs M hs hi hd ⟨hb, rfl, rfl⟩
    have bad : (decide (-1099511627776 ≤ s.1) && decide (s.1 ≤ 1099511627776) && decide (-1099511627776 ≤ s.2) && decide (s.2 ≤ 1099511627776)) = false → bnd a = false := fun h => by
      rw [bnd, List.all_eq_false]
      exact ⟨s, List.mem_of_getElem? hs, by rw [h]; simp⟩
    simp -implicitDefEqProofs (disch := omega) only [go_sem, Nat.reduceAdd, Nat.reduceMul, Nat.reduceSub, Nat.reduceBEq, Nat.reduceLeDiff, Nat.reduceLT, fn_transitlaw08_bounded, e27_1, w27_1, e27_3, w27_3, e27_5, w27_5, e27_7, w27_7, c27_8, e27_10, w27_10, c27_11, e27_13, w27_13, c27_14, c27_15, c27_16, c27_17, c27_18, e27_20, w27_20, c27_21, c27_22, c27_23, hd, hs, spRow]
    refine ifD (fun h1 => ?_) (fun h1 => ?_)
    · simp -implicitDefEqProofs (disch := omega) only [go_sem, Nat.reduceAdd, Nat.reduceMul, Nat.reduceSub, Nat.reduceBEq, Nat.reduceLeDiff, Nat.reduceLT, fn_transitlaw08_bounded, e27_1, w27_1, e27_3, w27_3, e27_5, w27_5, e27_7, w27_7, c27_8, e27_10, w27_10, c27_11, e27_13, w27_13, c27_14, c27_15, c27_16, c27_17, c27_18, e27_20, w27_20, c27_21, c27_22, c27_23]
      rw [bad (by rw [Bool.eq_false_iff]; simp; omega)]
    simp -implicitDefEqProofs (disch := omega) only [go_sem, Nat.reduceAdd, Nat.reduceMul, Nat.reduceSub, Nat.reduceBEq, Nat.reduceLeDiff, Nat.reduceLT, fn_transitlaw08_bounded, e27_1, w27_1, e27_3, w27_3, e27_5, w27_5, e27_7, w27_7, c27_8, e27_10, w27_10, c27_11, e27_13, w27_13, c27_14, c27_15, c27_16, c27_17, c27_18, e27_20, w27_20, c27_21, c27_22, c27_23, hs, spRow]
    refine ifD (fun h2 => ?_) (fun h2 => ?_)
    · simp -implicitDefEqProofs (disch := omega) only [go_sem, Nat.reduceAdd, Nat.reduceMul, Nat.reduceSub, Nat.reduceBEq, Nat.reduceLeDiff, Nat.reduceLT, fn_transitlaw08_bounded, e27_1, w27_1, e27_3, w27_3, e27_5, w27_5, e27_7, w27_7, c27_8, e27_10, w27_10, c27_11, e27_13, w27_13, c27_14, c27_15, c27_16, c27_17, c27_18, e27_20, w27_20, c27_21, c27_22, c27_23]
      rw [bad (by rw [Bool.eq_false_iff]; simp; omega)]
    simp -implicitDefEqProofs (disch := omega) only [go_sem, Nat.reduceAdd, Nat.reduceMul, Nat.reduceSub, Nat.reduceBEq, Nat.reduceLeDiff, Nat.reduceLT, fn_transitlaw08_bounded, e27_1, w27_1, e27_3, w27_3, e27_5, w27_5, e27_7, w27_7, c27_8, e27_10, w27_10, c27_11, e27_13, w27_13, c27_14, c27_15, c27_16, c27_17, c27_18, e27_20, w27_20, c27_21, c27_22, c27_23, hs, spRow]
    refine ifD (fun h3 => ?_) (fun h3 => ?_)
    · simp -implicitDefEqProofs (disch := omega) only [go_sem, Nat.reduceAdd, Nat.reduceMul, Nat.reduceSub, Nat.reduceBEq, Nat.reduceLeDiff, Nat.reduceLT, fn_transitlaw08_bounded, e27_1, w27_1, e27_3, w27_3, e27_5, w27_5, e27_7, w27_7, c27_8, e27_10, w27_10, c27_11, e27_13, w27_13, c27_14, c27_15, c27_16, c27_17, c27_18, e27_20, w27_20, c27_21, c27_22, c27_23]
      rw [bad (by rw [Bool.eq_false_iff]; simp; omega)]
    simp -implicitDefEqProofs (disch := omega) only [go_sem, Nat.reduceAdd, Nat.reduceMul, Nat.reduceSub, Nat.reduceBEq, Nat.reduceLeDiff, Nat.reduceLT, fn_transitlaw08_bounded, e27_1, w27_1, e27_3, w27_3, e27_5, w27_5, e27_7, w27_7, c27_8, e27_10, w27_10, c27_11, e27_13, w27_13, c27_14, c27_15, c27_16, c27_17, c27_18, e27_20, w27_20, c27_21, c27_22, c27_23, hs, spRow]
    refine ifD (fun h4 => ?_) (fun h4 => ?_)
    · simp -implicitDefEqProofs (disch := omega) only [go_sem, Nat.reduceAdd, Nat.reduceMul, Nat.reduceSub, Nat.reduceBEq, Nat.reduceLeDiff, Nat.reduceLT, fn_transitlaw08_bounded, e27_1, w27_1, e27_3, w27_3, e27_5, w27_5, e27_7, w27_7, c27_8, e27_10, w27_10, c27_11, e27_13, w27_13, c27_14, c27_15, c27_16, c27_17, c27_18, e27_20, w27_20, c27_21, c27_22, c27_23]
      rw [bad (by rw [Bool.eq_false_iff]; simp; omega)]
    simp -implicitDefEqProofs (disch := omega) only [go_sem, Nat.reduceAdd, Nat.reduceMul, Nat.reduceSub, Nat.reduceBEq, Nat.reduceLeDiff, Nat.reduceLT, fn_transitlaw08_bounded, e27_1, w27_1, e27_3, w27_3, e27_5, w27_5, e27_7, w27_7, c27_8, e27_10, w27_10, c27_11, e27_13, w27_13, c27_14, c27_15, c27_16, c27_17, c27_18, e27_20, w27_20, c27_21, c27_22, c27_23]
    refine next_stay hi ⟨?_, rfl, rfl⟩
    rw [List.take_add_one, hs, bnd, List.all_append]
    rw [bnd] at hb
    rw [hb]
    simp
    omega
  · rintro vs M ⟨hb, rfl, rfl⟩
    rw [List.take_length] at hb
    simp -implicitDefEqProofs (disch := omega) only [go_sem, Nat.reduceAdd, Nat.reduceMul, Nat.reduceSub, Nat.reduceBEq, Nat.reduceLeDiff, Nat.reduceLT, fn_transitlaw08_bounded, e27_1, w27_1, e27_3, w27_3, e27_5, w27_5, e27_7, w27_7, c27_8, e27_10, w27_10, c27_11, e27_13, w27_13, c27_14, c27_15, c27_16, c27_17, c27_18, e27_20, w27_20, c27_21, c27_22, c27_23, dec_irrefl]
    rw [hb]

/-! ### The reference's list of ends -/
theorem headLen_int (l : List Int) : headLen 1 (l.map nRow) = true := headLen_map (f := nRow) (n := 1) (fun _ => rfl) l
theorem slice_hn (l : List Int) (c : Cap) (k : Nat) (M : Mem) (h : k ≤ l.length) : sliceV 1 (.slice (l.map nRow) c) none (some (.int .i64 (k : Int))) none M = some (.slice ((l.take k).map nRow) (capS c k l.length l.length false)) := by
  rw [slice_h 1 _ c .i64 k M (by omega) (by simpa using h) (headLen_int l), List.map_take]
  simp
theorem slice_ln (l : List Int) (c : Cap) (k : Nat) (M : Mem) (h : k ≤ l.length) : sliceV 1 (.slice (l.map nRow) c) (some (.int .i64 (k : Int))) none none M = some (.slice ((l.drop k).map nRow) (capS c l.length l.length l.length false)) := by
  rw [slice_l 1 _ c .i64 k M (by omega) (by simpa using h) (headLen_int l), List.map_drop]
  simp
theorem sortedAt {l : List Int} (hs : l.Pairwise (· < ·)) {k : Nat} {x : Int} (h1 : ∀ j (h : j < l.length), j < k → l[j] < x) (h2 : ∀ h : k < l.length, ¬ l[k] < x) : (x ∈ l ↔ l[k]? = some x) := by
  have hp := List.pairwise_iff_getElem.1 hs
  constructor
  · intro hx
    obtain ⟨j, hj, rfl⟩ := List.getElem_of_mem hx
    rcases Nat.lt_trichotomy j k with h | h | h
    · have := h1 j hj h; omega
    · subst h; simp
    · have hk : k < l.length := by omega
      have := hp k j hk hj h
      have := h2 hk
      omega
  · intro h
    exact List.mem_of_getElem? h

theorem insert_tail (l : List Int) (c : Cap) (x : Int) (hs : l.Pairwise (· < ·)) (hl : l.length ≤ 10000) (k : Nat) (hk : k ≤ l.length) (h1 : ∀ j (h : j < l.length), j < k → l[j] < x) (h2 : ∀ h : k < l.length, ¬ l[k] < x)
    (Q : Exit → Slots → Mem → Prop) (q1 : x ∈ l → Q .ret [(4, .slice ((insO l x).map nRow) c)] []) (q2 : x ∉ l → Q .ret [(4, .mslice 0 3 0 (insO l x).length)] [.arr 1 ((insO l x).map nRow) 3 0]) :
    ∀ s, sget s 0 = V.slice (l.map nRow) c → sget s 1 = .int .i64 x → sget s 5 = .int .i64 k → wpC PR c38_29 Q s [] := by
  intro s g0 g1 g5
  have hm := sortedAt hs h1 h2
  have hins := insO_at l x k hk h1 h2
  have fin : ¬ x ∈ l → ∀ s, sget s 0 = V.slice (l.map nRow) c → sget s 1 = .int .i64 x → sget s 5 = .int .i64 k → wpC PR c38_28 Q s [] := by
    intro hx s g0 g1 g5
    have e1 : ¬ l[k]? = some x := fun h => hx (hm.2 h)
    rw [if_neg e1] at hins
    have e2 : (l.take k).map nRow ++ [V.int .i64 x] :: (l.drop k).map nRow = (insO l x).map nRow := by
      rw [hins]; simp [nRow]
    have e3 : (insO l x).length = l.length + 1 := by rw [hins]; simp; omega
    have e4 : k + 1 + (l.length - k) = (insO l x).length := by omega
    have s1 := fun M => slice_hn l c k M hk
    have s2 := fun M => slice_ln l c k M hk
    simp -implicitDefEqProofs (disch := omega) only [go_sem, Nat.reduceAdd, Nat.reduceMul, Nat.reduceSub, Nat.reduceBEq, Nat.reduceLeDiff, Nat.reduceLT, fn_transitref08_insert, e38_1, w38_1, e38_3, w38_3, e38_5, w38_5, e38_7, w38_7, c38_8, c38_9, c38_10, c38_11, e38_13, w38_13, c38_14, e38_16, w38_16, e38_18, w38_18, e38_20, w38_20, e38_22, w38_22, e38_24, w38_24, c38_25, c38_26, c38_27, c38_28, c38_29, c38_30, c38_31, c38_32, g0, g1, g5, s1, s2, headLen_int, List.length_take, List.length_drop, Nat.min_eq_left hk, List.append_assoc, e2, e4]
    exact q2 hx
  simp -implicitDefEqProofs (disch := omega) only [go_sem, Nat.reduceAdd, Nat.reduceMul, Nat.reduceSub, Nat.reduceBEq, Nat.reduceLeDiff, Nat.reduceLT, fn_transitref08_insert, e38_1, w38_1, e38_3, w38_3, e38_5, w38_5, e38_7, w38_7, c38_8, c38_9, c38_10, c38_11, e38_13, w38_13, c38_14, e38_16, w38_16, e38_18, w38_18, e38_20, w38_20, e38_22, w38_22, e38_24, w38_24, c38_25, c38_26, c38_27, c38_29, c38_30, c38_31, c38_32, g0, g1, g5]
  refine ifD (fun h => ?_) (fun h => ?_)
  · have hkl : k < l.length := by omega
    have hk2 : l[k]? = some l[k] := List.getElem?_eq_getElem hkl
    simp -implicitDefEqProofs (disch := omega) only [go_sem, Nat.reduceAdd, Nat.reduceMul, Nat.reduceSub, Nat.reduceBEq, Nat.reduceLeDiff, Nat.reduceLT, fn_transitref08_insert, e38_1, w38_1, e38_3, w38_3, e38_5, w38_5, e38_7, w38_7, c38_8, c38_9, c38_10, c38_11, e38_13, w38_13, c38_14, e38_16, w38_16, e38_18, w38_18, e38_20, w38_20, e38_22, w38_22, e38_24, w38_24, c38_25, c38_26, c38_27, c38_29, c38_30, c38_31, c38_32, g0, g1, g5, hk2, nRow]
    refine ifD (fun h3 => ?_) (fun h3 => ?_)
    · have e1 : l[k]? = some x := by rw [hk2, h3]
      rw [if_pos e1] at hins
      simp -implicitDefEqProofs (disch := omega) only [go_sem, Nat.reduceAdd, Nat.reduceMul, Nat.reduceSub, Nat.reduceBEq, Nat.reduceLeDiff, Nat.reduceLT, fn_transitref08_insert, e38_1, w38_1, e38_3, w38_3, e38_5, w38_5, e38_7, w38_7, c38_8, c38_9, c38_10, c38_11, e38_13, w38_13, c38_14, e38_16, w38_16, e38_18, w38_18, e38_20, w38_20, e38_22, w38_22, e38_24, w38_24, c38_25, c38_26, c38_27, c38_29, c38_30, c38_31, c38_32, g0, g1, g5]
      have := q1 (hm.2 e1)
      rw [hins] at this
      exact this
    · rw [seqK_normal]
      exact fin (fun e => by have := hm.1 e; rw [hk2] at this; exact h3 (by simpa using this)) _ (by exact g0) (by exact g1) (by exact g5)
  · rw [seqK_normal]
    exact fin (fun e => by
      have := hm.1 e
      have := (List.getElem?_eq_some_iff.1 this).1
      omega) _ (by exact g0) (by exact g1) (by exact g5)

theorem insert_ok (l : List Int) (c : Cap) (x : Int) (hs : l.Pairwise (· < ·)) (hl : l.length ≤ 10000) :
    PCalls PR i_transitref08_insert [.slice (l.map nRow) c, .int .i64 x] (fun v => v = .slice ((insO l x).map nRow) (if x ∈ l then c else .unk)) := by
  refine acalls_pop fn_transitref08_insert_ok (by simp [fn_transitref08_insert]) ?_
  simp -implicitDefEqProofs (disch := omega) only [go_sem, Nat.reduceAdd, Nat.reduceMul, Nat.reduceSub, Nat.reduceBEq, Nat.reduceLeDiff, Nat.reduceLT, fn_transitref08_insert, e38_1, w38_1, e38_3, w38_3, e38_5, w38_5, e38_7, w38_7, c38_8, c38_9, c38_10, c38_11, e38_13, w38_13, c38_14, e38_16, w38_16, e38_18, w38_18, e38_20, w38_20, e38_22, w38_22, e38_24, w38_24, c38_25, c38_26, c38_27, c38_28, c38_30, c38_31, c38_32]
  refine wpC_for l.length (fun i vs M => (∀ j (h : j < l.length), j < i → l[j] < x) ∧ vs = [.slice (l.map nRow) c, .int .i64 x, .int .i64 i] ∧ M = []) ⟨fun j _ h => absurd h (Nat.not_lt_zero _), rfl, rfl⟩ ?_ ?_
  · rintro i vs M hi hd ⟨hno, rfl, rfl⟩
    have hi2 : l[i]? = some l[i] := List.getElem?_eq_getElem hi
    simp -implicitDefEqProofs (disch := omega) only [go_sem, Nat.reduceAdd, Nat.reduceMul, Nat.reduceSub, Nat.reduceBEq, Nat.reduceLeDiff, Nat.reduceLT, fn_transitref08_insert, e38_1, w38_1, e38_3, w38_3, e38_5, w38_5, e38_7, w38_7, c38_8, c38_9, c38_10, c38_11, e38_13, w38_13, c38_14, e38_16, w38_16, e38_18, w38_18, e38_20, w38_20, e38_22, w38_22, e38_24, w38_24, c38_25, c38_26, c38_27, c38_28, c38_30, c38_31, c38_32, hd, hi2, nRow]
    refine ifD (fun h => ?_) (fun h => ?_)
    · simp -implicitDefEqProofs (disch := omega) only [go_sem, Nat.reduceAdd, Nat.reduceMul, Nat.reduceSub, Nat.reduceBEq, Nat.reduceLeDiff, Nat.reduceLT, fn_transitref08_insert, e38_1, w38_1, e38_3, w38_3, e38_5, w38_5, e38_7, w38_7, c38_8, c38_9, c38_10, c38_11, e38_13, w38_13, c38_14, e38_16, w38_16, e38_18, w38_18, e38_20, w38_20, e38_22, w38_22, e38_24, w38_24, c38_25, c38_26, c38_27, c38_28, c38_30, c38_31, c38_32]
      refine next_stay hi ⟨fun j hj hji => ?_, rfl, rfl⟩
      by_cases e : j = i
      · subst e; exact h
      · exact hno j hj (by omega)
    · simp -implicitDefEqProofs (disch := omega) only [go_sem, Nat.reduceAdd, Nat.reduceMul, Nat.reduceSub, Nat.reduceBEq, Nat.reduceLeDiff, Nat.reduceLT, fn_transitref08_insert, e38_1, w38_1, e38_3, w38_3, e38_5, w38_5, e38_7, w38_7, c38_8, c38_9, c38_10, c38_11, e38_13, w38_13, c38_14, e38_16, w38_16, e38_18, w38_18, e38_20, w38_20, e38_22, w38_22, e38_24, w38_24, c38_25, c38_26, c38_27, c38_28, c38_30, c38_31, c38_32]
      refine insert_tail l c x hs hl i (by omega) hno (fun _ => h) _ (fun hx => ?_) (fun hx => ?_) _ rfl rfl rfl
      · simp -implicitDefEqProofs (disch := omega) only [go_sem, Nat.reduceAdd, Nat.reduceMul, Nat.reduceSub, Nat.reduceBEq, Nat.reduceLeDiff, Nat.reduceLT, fn_transitref08_insert, e38_1, w38_1, e38_3, w38_3, e38_5, w38_5, e38_7, w38_7, c38_8, c38_9, c38_10, c38_11, e38_13, w38_13, c38_14, e38_16, w38_16, e38_18, w38_18, e38_20, w38_20, e38_22, w38_22, e38_24, w38_24, c38_25, c38_26, c38_27, c38_28, c38_30, c38_31, c38_32]
        rw [if_pos hx]
      · simp -implicitDefEqProofs (disch := omega) only [go_sem, Nat.reduceAdd, Nat.reduceMul, Nat.reduceSub, Nat.reduceBEq, Nat.reduceLeDiff, Nat.reduceLT, fn_transitref08_insert, e38_1, w38_1, e38_3, w38_3, e38_5, w38_5, e38_7, w38_7, c38_8, c38_9, c38_10, c38_11, e38_13, w38_13, c38_14, e38_16, w38_16, e38_18, w38_18, e38_20, w38_20, e38_22, w38_22, e38_24, w38_24, c38_25, c38_26, c38_27, c38_28, c38_30, c38_31, c38_32]
        rw [if_neg hx]
  · rintro vs M ⟨hno, rfl, rfl⟩
    simp -implicitDefEqProofs (disch := omega) only [go_sem, Nat.reduceAdd, Nat.reduceMul, Nat.reduceSub, Nat.reduceBEq, Nat.reduceLeDiff, Nat.reduceLT, fn_transitref08_insert, e38_1, w38_1, e38_3, w38_3, e38_5, w38_5, e38_7, w38_7, c38_8, c38_9, c38_10, c38_11, e38_13, w38_13, c38_14, e38_16, w38_16, e38_18, w38_18, e38_20, w38_20, e38_22, w38_22, e38_24, w38_24, c38_25, c38_26, c38_27, c38_28, c38_30, c38_31, c38_32, dec_irrefl]
    refine insert_tail l c x hs hl l.length (Nat.le_refl _) hno (fun h => by omega) _ (fun hx => ?_) (fun hx => ?_) _ rfl rfl rfl
    · simp -implicitDefEqProofs (disch := omega) only [go_sem, Nat.reduceAdd, Nat.reduceMul, Nat.reduceSub, Nat.reduceBEq, Nat.reduceLeDiff, Nat.reduceLT, fn_transitref08_insert, e38_1, w38_1, e38_3, w38_3, e38_5, w38_5, e38_7, w38_7, c38_8, c38_9, c38_10, c38_11, e38_13, w38_13, c38_14, e38_16, w38_16, e38_18, w38_18, e38_20, w38_20, e38_22, w38_22, e38_24, w38_24, c38_25, c38_26, c38_27, c38_28, c38_30, c38_31, c38_32]
      rw [if_pos hx]
    · simp -implicitDefEqProofs (disch := omega) only [go_sem, Nat.reduceAdd, Nat.reduceMul, Nat.reduceSub, Nat.reduceBEq, Nat.reduceLeDiff, Nat.reduceLT, fn_transitref08_insert, e38_1, w38_1, e38_3, w38_3, e38_5, w38_5, e38_7, w38_7, c38_8, c38_9, c38_10, c38_11, e38_13, w38_13, c38_14, e38_16, w38_16, e38_18, w38_18, e38_20, w38_20, e38_22, w38_22, e38_24, w38_24, c38_25, c38_26, c38_27, c38_28, c38_30, c38_31, c38_32]
      rw [if_neg hx]

theorem ends_ok (a b : List (Int × Int)) (c d : Cap) (ha : a.length ≤ 1000) (hb : b.length ≤ 1000) :
    PCalls PR i_transitref08_ends [.slice (a.map spRow) c, .slice (b.map spRow) d] (fun v => ∃ t, v = .slice ((refEnds b (refEnds a [])).map nRow) t) := by
  have step : ∀ (l : List (Int × Int)) (o : List Int) (i : Nat) (s : Int × Int), l[i]? = some s → refEnds (l.take (i + 1)) o = insO (insO (refEnds (l.take i) o) s.1) s.2 := by
    intro l o i s h
    rw [List.take_add_one, h]
    simp [refEnds, List.foldl_append]
  refine acalls_pop fn_transitref08_ends_ok (by simp [fn_transitref08_ends]) ?_
  simp -implicitDefEqProofs (disch := omega) only [go_sem, Nat.reduceAdd, Nat.reduceMul, Nat.reduceSub, Nat.reduceBEq, Nat.reduceLeDiff, Nat.reduceLT, fn_transitref08_ends, e31_1, w31_1, e31_3, w31_3, e31_5, w31_5, e31_7, w31_7, e31_9, w31_9, c31_10, e31_12, w31_12, c31_13, c31_14, c31_15, c31_16, c31_17, e31_19, w31_19, e31_21, w31_21, e31_23, w31_23, c31_24, e31_26, w31_26, c31_27, c31_28, c31_29, c31_30, c31_31, e31_33, w31_33, c31_34, c31_35, c31_36, c31_37, c31_38]
  refine wpC_forL a (fun i vs M => ∃ t, vs = [.slice (a.map spRow) c, .slice (b.map spRow) d, .slice ((refEnds (a.take i) []).map nRow) t, .int .i64 i] ∧ M = []) ⟨.nil, rfl, rfl⟩ ?_ ?_
  · rintro i s vs M hs hi hd ⟨t, rfl, rfl⟩
    obtain ⟨h1, _, _, h4⟩ := refEnds_ok (a.take i) [] List.Pairwise.nil
    have h5 : (refEnds (a.take i) []).length ≤ 2000 := by simp at h4; omega
    simp -implicitDefEqProofs (disch := omega) only [go_sem, Nat.reduceAdd, Nat.reduceMul, Nat.reduceSub, Nat.reduceBEq, Nat.reduceLeDiff, Nat.reduceLT, fn_transitref08_ends, e31_1, w31_1, e31_3, w31_3, e31_5, w31_5, e31_7, w31_7, e31_9, w31_9, c31_10, e31_12, w31_12, c31_13, c31_14, c31_15, c31_16, c31_17, e31_19, w31_19, e31_21, w31_21, e31_23, w31_23, c31_24, e31_26, w31_26, c31_27, c31_28, c31_29, c31_30, c31_31, e31_33, w31_33, c31_34, c31_35, c31_36, c31_37, c31_38, hd, hs, spRow]
    first | refine callD (insert_ok _ t s.1 h1 (by omega)) ?_ | refine callQD (insert_ok _ t s.1 h1 (by omega)) ?_
    simp -implicitDefEqProofs (disch := omega) only [go_sem, Nat.reduceAdd, Nat.reduceMul, Nat.reduceSub, Nat.reduceBEq, Nat.reduceLeDiff, Nat.reduceLT, fn_transitref08_ends, e31_1, w31_1, e31_3, w31_3, e31_5, w31_5, e31_7, w31_7, e31_9, w31_9, c31_10, e31_12, w31_12, c31_13, c31_14, c31_15, c31_16, c31_17, e31_19, w31_19, e31_21, w31_21, e31_23, w31_23, c31_24, e31_26, w31_26, c31_27, c31_28, c31_29, c31_30, c31_31, e31_33, w31_33, c31_34, c31_35, c31_36, c31_37, c31_38, hs, spRow]
    first | refine callD (insert_ok _ _ s.2 (sorted_insO h1) (by have := length_insO (refEnds (a.take i) []) s.1; omega)) ?_ | refine callQD (insert_ok _ _ s.2 (sorted_insO h1) (by have := length_insO (refEnds (a.take i) []) s.1; omega)) ?_
    simp -implicitDefEqProofs (disch := omega) only [go_sem, Nat.reduceAdd, Nat.reduceMul, Nat.reduceSub, Nat.reduceBEq, Nat.reduceLeDiff, Nat.reduceLT, fn_transitref08_ends, e31_1, w31_1, e31_3, w31_3, e31_5, w31_5, e31_7, w31_7, e31_9, w31_9, c31_10, e31_12, w31_12, c31_13, c31_14, c31_15, c31_16, c31_17, e31_19, w31_19, e31_21, w31_21, e31_23, w31_23, c31_24, e31_26, w31_26, c31_27, c31_28, c31_29, c31_30, c31_31, e31_33, w31_33, c31_34, c31_35, c31_36, c31_37, c31_38]
    exact next_stay hi ⟨_, by rw [step _ _ _ _ hs]; rfl, rfl⟩
  · rintro vs M ⟨t, rfl, rfl⟩
    rw [List.take_length]
    obtain ⟨h1, _, _, h4⟩ := refEnds_ok a [] List.Pairwise.nil
    have h5 : (refEnds a []).length ≤ 2000 := by simp at h4; omega
    simp -implicitDefEqProofs (disch := omega) only [go_sem, Nat.reduceAdd, Nat.reduceMul, Nat.reduceSub, Nat.reduceBEq, Nat.reduceLeDiff, Nat.reduceLT, fn_transitref08_ends, e31_1, w31_1, e31_3, w31_3, e31_5, w31_5, e31_7, w31_7, e31_9, w31_9, c31_10, e31_12, w31_12, c31_13, c31_14, c31_15, c31_16, c31_17, e31_19, w31_19, e31_21, w31_21, e31_23, w31_23, c31_24, e31_26, w31_26, c31_27, c31_28, c31_29, c31_30, c31_31, e31_33, w31_33, c31_34, c31_35, c31_36, c31_37, c31_38, dec_irrefl]
    refine wpC_forL b (fun i vs M => ∃ t, vs = [.slice (b.map spRow) d, .slice ((refEnds (b.take i) (refEnds a [])).map nRow) t, .int .i64 i] ∧ M = []) ⟨t, rfl, rfl⟩ ?_ ?_
    · rintro i s vs M hs hi hd ⟨t, rfl, rfl⟩
      obtain ⟨g1, _, _, g4⟩ := refEnds_ok (b.take i) _ h1
      have g5 : (refEnds (b.take i) (refEnds a [])).length ≤ 4000 := by simp at g4; omega
      simp -implicitDefEqProofs (disch := omega) only [go_sem, Nat.reduceAdd, Nat.reduceMul, Nat.reduceSub, Nat.reduceBEq, Nat.reduceLeDiff, Nat.reduceLT, fn_transitref08_ends, e31_1, w31_1, e31_3, w31_3, e31_5, w31_5, e31_7, w31_7, e31_9, w31_9, c31_10, e31_12, w31_12, c31_13, c31_14, c31_15, c31_16, c31_17, e31_19, w31_19, e31_21, w31_21, e31_23, w31_23, c31_24, e31_26, w31_26, c31_27, c31_28, c31_29, c31_30, c31_31, e31_33, w31_33, c31_34, c31_35, c31_36, c31_37, c31_38, hd, hs, spRow]
      first | refine callD (insert_ok _ t s.1 g1 (by omega)) ?_ | refine callQD (insert_ok _ t s.1 g1 (by omega)) ?_
      simp -implicitDefEqProofs (disch := omega) only [go_sem, Nat.reduceAdd, Nat.reduceMul, Nat.reduceSub, Nat.reduceBEq, Nat.reduceLeDiff, Nat.reduceLT, fn_transitref08_ends, e31_1, w31_1, e31_3, w31_3, e31_5, w31_5, e31_7, w31_7, e31_9, w31_9, c31_10, e31_12, w31_12, c31_13, c31_14, c31_15, c31_16, c31_17, e31_19, w31_19, e31_21, w31_21, e31_23, w31_23, c31_24, e31_26, w31_26, c31_27, c31_28, c31_29, c31_30, c31_31, e31_33, w31_33, c31_34, c31_35, c31_36, c31_37, c31_38, hs, spRow]
      first | refine callD (insert_ok _ _ s.2 (sorted_insO g1) (by have := length_insO (refEnds (b.take i) (refEnds a [])) s.1; omega)) ?_ | refine callQD (insert_ok _ _ s.2 (sorted_insO g1) (by have := length_insO (refEnds (b.take i) (refEnds a [])) s.1; omega)) ?_
      simp -implicitDefEqProofs (disch := omega) only [go_sem, Nat.reduceAdd, Nat.reduceMul, Nat.reduceSub, Nat.reduceBEq, Nat.reduceLeDiff, Nat.reduceLT, fn_transitref08_ends, e31_1, w31_1, e31_3, w31_3, e31_5, w31_5, e31_7, w31_7, e31_9, w31_9, c31_10, e31_12, w31_12, c31_13, c31_14, c31_15, c31_16, c31_17, e31_19, w31_19, e31_21, w31_21, e31_23, w31_23, c31_24, e31_26, w31_26, c31_27, c31_28, c31_29, c31_30, c31_31, e31_33, w31_33, c31_34, c31_35, c31_36, c31_37, c31_38]
      exact next_stay hi ⟨_, by rw [step _ _ _ _ hs]; rfl, rfl⟩
    · rintro vs M ⟨t, rfl, rfl⟩
      rw [List.take_length]
      simp -implicitDefEqProofs (disch := omega) only [go_sem, Nat.reduceAdd, Nat.reduceMul, Nat.reduceSub, Nat.reduceBEq, Nat.reduceLeDiff, Nat.reduceLT, fn_transitref08_ends, e31_1, w31_1, e31_3, w31_3, e31_5, w31_5, e31_7, w31_7, e31_9, w31_9, c31_10, e31_12, w31_12, c31_13, c31_14, c31_15, c31_16, c31_17, e31_19, w31_19, e31_21, w31_21, e31_23, w31_23, c31_24, e31_26, w31_26, c31_27, c31_28, c31_29, c31_30, c31_31, e31_33, w31_33, c31_34, c31_35, c31_36, c31_37, c31_38, dec_irrefl]
      exact ⟨_, rfl⟩

end Go.Vm.C

