/- Contract: the rides that an iterator gives, as many as are taken. -/
import Derived.Test.YtnfedenkigckjaaC0
import Derived.Test.YtnfedenkigckjaaR1

namespace Go.Vm.C
open Go.Vm
set_option maxHeartbeats 1000000
set_option maxRecDepth 10000
set_option linter.unusedSimpArgs false
set_option linter.unusedVariables false

/-! ### Calls of trips -/
structure Stay where
  stop : Int
  arrive : Int
  depart : Int
  board : Bool
  alight : Bool
def Stay.row (c : Stay) : List V := [.int .i64 c.stop, .int .i64 c.arrive, .int .i64 c.depart, .bool c.board, .bool c.alight]
def Stay.wf (c : Stay) : Prop := I64 c.stop ∧ I64 c.arrive ∧ I64 c.depart
def boards (l : List Stay) (j : Nat) : Bool := ((l[j]?).map Stay.board).getD false
def alights (l : List Stay) (j : Nat) : Bool := ((l[j]?).map Stay.alight).getD false
/-- All rides of the calls. -/
def ridesOf (l : List Stay) : List (Nat × Nat) := Go.Proofs.pairsOf (boards l) (alights l) l.length
def pairRow (x : Nat × Nat) : List V := [.int .i64 x.1, .int .i64 x.2]
theorem rep_bool {w : World} {Γ : Env} {b : Bool} {v : Value} (h : Rep w Γ (.bool b) v) : v = .bool b := by cases h; rfl
theorem rep_int {w : World} {Γ : Env} {k : IntKind} {n : Int} {v : Value} (h : Rep w Γ (.int k n) v) : v = .int k n := by cases h; rfl
theorem calls_rep {w : World} {Γ : Env} {l : List Stay} {c : Cap} {v : Value} (h : Rep w Γ (.slice (l.map Stay.row) c) v) : ∃ a cap, v = .slice a l.length cap ∧ Go.Proofs.Try.Calls w.heap.size w v l.length (boards l) (alights l) := by
  generalize hr : l.map Stay.row = rows at h
  cases h with
  | sliceNil =>
    have : l = [] := List.map_eq_nil_iff.1 hr
    subst this
    exact ⟨none, 0, rfl, none, 0, rfl, .inl rfl⟩
  | sliceE _ _ p =>
    have : l = [] := List.map_eq_nil_iff.1 hr
    subst this
    exact ⟨some p, 0, rfl, some p, 0, rfl, .inl rfl⟩
  | slice _ _ b o sz cap cv hc hf hcap hsz hs hcell hp hrep =>
    subst hr
    rw [List.length_map] at *
    refine ⟨_, cap, rfl, _, cap, rfl, ?_⟩
    rcases Nat.eq_zero_or_pos l.length with h0 | h0
    · exact .inl h0
    have hget : ∀ i, i < l.length → ∃ s, l[i]? = some s ∧ (l.map Stay.row)[i]? = some s.row := fun i hi => ⟨l[i], by simp [hi], by simp [hi]⟩
    have h5 : sz = 5 := by
      obtain ⟨s, _, h2⟩ := hget 0 h0
      exact (hsz 0 s.row h2).symm
    subst h5
    refine .inr ⟨b, o, rfl, cell_lt (hcell 0 0 h0 (by omega)), ?_, ?_⟩
    · intro i hi
      obtain ⟨s, h1, h2⟩ := hget i hi
      have e := rep_bool (hrep i s.row 3 (.bool s.board) h2 rfl)
      have := hcell i 3 hi (by omega)
      rw [e] at this
      simpa [boards, h1, Nat.add_assoc] using this
    · intro i hi
      obtain ⟨s, h1, h2⟩ := hget i hi
      have e := rep_bool (hrep i s.row 4 (.bool s.alight) h2 rfl)
      have := hcell i 4 hi (by omega)
      rw [e] at this
      simpa [alights, h1, Nat.add_assoc] using this
theorem flatP_get : ∀ (L : List (Nat × Nat)) (i : Nat) (x : Nat × Nat), L[i]? = some x → (Go.Proofs.flatP L)[i * 2]? = some (Value.int .i64 (x.1 : Int)) ∧ (Go.Proofs.flatP L)[i * 2 + 1]? = some (Value.int .i64 (x.2 : Int))
  | [], i, x, h => by simp at h
  | a :: L, 0, x, h => by simp at h; subst h; exact ⟨rfl, rfl⟩
  | a :: L, i + 1, x, h => by
    obtain ⟨h1, h2⟩ := flatP_get L i x (by simpa using h)
    have e1 : (i + 1) * 2 = i * 2 + 2 := by omega
    rw [e1]
    exact ⟨h1, h2⟩
/-- A slice of pairs of the call's own, read as data. -/
theorem pairs_rep {w' : World} {Γ : Env} {g cap : Nat} {cur : Array Value} {L : List (Nat × Nat)} (hh : w'.heap[g]? = some (.cells cur 37 (0, 0))) (hcap : L.length ≤ cap) (htk : cur.toList.take (L.length * 2) = Go.Proofs.flatP L)
    (hS : ∀ j, j < L.length * 2 → Γ.S g j) : Rep w' Γ (.slice (L.map pairRow) .unk) (.slice (some ⟨g, 0, none⟩) L.length cap) := by
  have hcell : ∀ j v, (Go.Proofs.flatP L)[j]? = some v → w'.cell? ⟨g, j, none⟩ = some v := by
    intro j v hv
    rw [← htk] at hv
    have hj : j < L.length * 2 := by
      have := (List.getElem?_eq_some_iff.1 hv).1
      rw [List.length_take] at this
      omega
    rw [List.getElem?_take_of_lt hj] at hv
    unfold World.cell?
    rw [hh]
    simpa using hv
  have := Rep.slice (w := w') (Γ := Γ) (L.map pairRow) .unk g 0 2 cap (fun i j => match L[i]? with | some x => if j = 0 then Value.int .i64 (x.1 : Int) else Value.int .i64 (x.2 : Int) | none => Go.undef)
    (by simp) (by simp) (by simpa using hcap) ?_ ?_ ?_ ?_ ?_
  · simpa using this
  · intro i r hr
    rw [List.getElem?_map] at hr
    cases hx : L[i]? with
    | none => simp [hx] at hr
    | some x => simp [hx] at hr; subst hr; rfl
  · intro i j hi hj
    rw [List.length_map] at hi
    exact hS _ (by omega)
  · intro i j hi hj
    rw [List.length_map] at hi
    obtain ⟨x, hx⟩ : ∃ x, L[i]? = some x := ⟨L[i], by simp [hi]⟩
    obtain ⟨h1, h2⟩ := flatP_get L i x hx
    simp only [hx, Nat.zero_add]
    rcases (by omega : j = 0 ∨ j = 1) with rfl | rfl
    · exact hcell _ _ h1
    · exact hcell _ _ h2
  · intro i r j x hr hx
    rw [List.getElem?_map] at hr
    cases hp : L[i]? with
    | none => simp [hp] at hr
    | some p =>
      simp [hp] at hr
      subst hr
      match j, hx with
      | 0, hx => simp [pairRow] at hx; subst hx; rfl
      | 1, hx => simp [pairRow] at hx; subst hx; rfl
      | j + 2, hx => simp [pairRow] at hx
  · intro i r j x hr hx
    rw [List.getElem?_map] at hr
    cases hp : L[i]? with
    | none => simp [hp] at hr
    | some p =>
      simp [hp] at hr
      subst hr
      match j, hx with
      | 0, hx => simp [pairRow] at hx; subst hx; exact .int _ _
      | 1, hx => simp [pairRow] at hx; subst hx; exact .int _ _
      | j + 2, hx => simp [pairRow] at hx

theorem rides_ok (l : List Stay) (c : Cap) (m : Int) (hl : l.length ≤ 1000) : PCalls PR C.i_transitlaw16_rides [.slice (l.map Stay.row) c, .int .i64 m] (fun v => v = .tuple [.slice (((ridesOf l).take m.toNat).map pairRow) .unk, .bool true]) := by
  refine ⟨by kernel_rfl, ?_⟩
  intro w Γ cargs hg ⟨hsz, ha⟩
  have ra := ha 0 _ rfl
  have rb := ha 1 _ rfl
  obtain ⟨a, cap, hv, hC⟩ := calls_rep ra
  have hb := rep_int rb
  have hargs : cargs = #[.slice a l.length cap, .int .i64 m] := by
    apply Array.ext
    · simpa using hsz
    · intro j h1 h2
      have h3 : cargs[j] = cargs.getD j Go.undef := by simp [Array.getD, h1]
      rw [h3]
      simp at h2
      rcases (by omega : j = 0 ∨ j = 1) with rfl | rfl
      · rw [hv]; rfl
      · rw [hb]; rfl
  rw [hv] at hC
  rw [hargs]
  have key := Go.callsIn_wide.1 (Go.Proofs.Try.rides_in 3 (Nat.le_refl _) a l.length cap m (boards l) (alights l) hl w hC)
  refine key.mono ?_
  rintro e w' ⟨v, rfl, hown, hbl⟩
  have hlen0 : Γ.locs.length = 0 := by simpa using hg.len
  have hno : ∀ (i : Nat) (x : Loc), Γ.locs[i]? = some x → False := fun i x h => by
    have := (List.getElem?_eq_some_iff.1 h).1; omega
  have hold : ∀ b o, Γ.S b o → w'.cell? ⟨b, o, none⟩ = w.cell? ⟨b, o, none⟩ := fun b o h => by
    obtain ⟨x, hx⟩ := hg.scell b o h
    exact hbl.cell (p := ⟨b, o, none⟩) (cell_lt hx)
  rcases hown.2 with ⟨rfl, h0⟩ | ⟨g, cap', cur, rfl, hgb, hh, hcap, _, hcur, htk⟩
  · have hnil : (ridesOf l).take m.toNat = [] := List.length_eq_zero_iff.1 h0
    refine ⟨_, _, Γ, [], rfl, ⟨rfl, rfl, rfl⟩, ?_, ?_, ?_⟩
    · rw [hnil]
      refine Rep.tuple _ _ rfl ?_
      intro j x hx
      match j, hx with
      | 0, hx => simp at hx; subst hx; exact .sliceNil _ (.inr rfl)
      | 1, hx => simp at hx; subst hx; exact .bool _
      | j + 2, hx => simp at hx
    · exact ⟨by simpa using hg.len, fun i x B h => (hno i x h).elim, fun i x h => (hno i x h).elim, fun i j x y h => (hno i x h).elim, fun b o h => by obtain ⟨x, hx⟩ := hg.scell b o h; exact ⟨x, (hold b o h).trans hx⟩, Nat.le_trans hg.base hbl.size⟩
    · exact ⟨fun b o h => ⟨h, hold b o h⟩, fun i x h => (hno i x h).elim, rfl, hbl.mono hg.base, fun b o _ h => h⟩
  · have hcell : ∀ j, j < ((ridesOf l).take m.toNat).length * 2 → ∃ x, w'.cell? ⟨g, j, none⟩ = some x := by
      intro j hj
      have hlt : j < cur.size := by
        rw [hcur]
        exact Nat.lt_of_lt_of_le hj (Nat.mul_le_mul_right _ hcap)
      refine ⟨cur[j], ?_⟩
      unfold World.cell?
      rw [hh]
      simp [hlt]
    refine ⟨_, _, { Γ with S := fun b o => Γ.S b o ∨ (b = g ∧ o < ((ridesOf l).take m.toNat).length * 2) }, [], rfl, ⟨rfl, rfl, rfl⟩, ?_, ?_, ?_⟩
    · refine Rep.tuple _ _ rfl ?_
      intro j x hx
      match j, hx with
      | 0, hx =>
        simp only [List.getElem?_cons_zero, Option.some.injEq] at hx; subst hx
        refine pairs_rep hh hcap htk ?_
        intro j hj
        exact Or.inr ⟨rfl, hj⟩
      | 1, hx => simp at hx; subst hx; exact .bool _
      | j + 2, hx => simp at hx
    · refine ⟨by simpa using hg.len, fun i x B h => (hno i x h).elim, fun i x h => (hno i x h).elim, fun i j x y h => (hno i x h).elim, ?_, Nat.le_trans hg.base hbl.size⟩
      rintro b o (h | ⟨rfl, h⟩)
      · obtain ⟨x, hx⟩ := hg.scell b o h
        exact ⟨x, (hold b o h).trans hx⟩
      · exact hcell o h
    · refine ⟨fun b o h => ⟨.inl h, hold b o h⟩, fun i x h => (hno i x h).elim, rfl, hbl.mono hg.base, ?_⟩
      rintro b o hb' (h | ⟨rfl, _⟩)
      · exact h
      · have := hg.base; omega

end Go.Vm.C

