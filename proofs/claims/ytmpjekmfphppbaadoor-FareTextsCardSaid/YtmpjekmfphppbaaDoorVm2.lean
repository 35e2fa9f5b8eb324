/- The abstract machine Vm, part 2: abstract values, code, and the weakest precondition that is proved sound. -/
import Derived.Test.YtmpjekmfphppbaaDoorVm1
import Derived.ChangeShapes
import Derived.ChangeSame
import Derived.ChangeArms
import Derived.ChangeOld
import Derived.Carry
import Derived.RowKit
import Derived.Handed
import Derived.Stop.Joined
import Derived.LaidLaws
import Derived.Test.YtmpjekmfphppbaaDoorVm0
import Derived.Attr
set_option linter.unusedSimpArgs false
set_option linter.unusedVariables false

/- Regions whose order of evaluation is open, where operations that leave memory alone may come before or after ones that do not. -/
namespace Go.Vm
open Go.RowKit (Below)

section
variable {P : Program} {w0 w : World} {Γ0 Γ : Env} {M : Mem} {s s2 : Slots} {a : Act} {n : Nat}

theorem mstep_looks {o : AOp} {M : Mem} (h : ∀ t ∈ o.looks, sget s t = sget s2 t) : mstep o s M = mstep o s2 M := by
  cases o <;> simp only [mstep] <;> simp only [AOp.looks, List.mem_append] at h
  case box n x => rw [ev_looks h]
  case store n a x => rw [ev_looks (x := a) fun t ht => h t (.inl ht), ev_looks (x := x) fun t ht => h t (.inr ht)]
  case makeSlice z a b l c => rw [ev_looks (x := l) fun t ht => h t (.inl ht), ev_looks (x := c) fun t ht => h t (.inr ht)]
  case append i a b x y => rw [ev_looks (x := x) fun t ht => h t (.inl ht), ev_looks (x := y) fun t ht => h t (.inr ht)]
  case makeMap r => rw [evO_looks h]
  case mapUpdate c m k x => rw [ev_looks (x := m) fun t ht => h t (.inl ht), ev_looks (x := k) fun t ht => h t (.inr (.inl ht)), ev_looks (x := x) fun t ht => h t (.inr (.inr ht))]
  case peq n x y => rw [ev_looks (x := x) fun t ht => h t (.inl ht), ev_looks (x := y) fun t ht => h t (.inr ht)]

/-- Any operation, seen at slots that agree on what it looks at. -/
theorem wpOp_move {op : AOp} {dst : Option Nat} {isB : Bool} {K : Slots → Mem → Prop} (hl : ∀ t ∈ op.looks, sget s t = sget s2 t) (h : wpOp P false op dst isB s M K) :
    wpOp P false op dst isB s2 M (fun s' M' => ∃ v, s' = sputO s2 dst v ∧ K (sputO s dst v) M') := by
  cases hc : op.isCall with
  | true =>
    have key : ∀ (f : Nat) (args : List V), wpCall P false f args M (fun v' M' => putV s dst isB v' (fun s' => K s' M')) →
        wpCall P false f args M (fun v' M' => putV s2 dst isB v' (fun s' => ∃ v, s' = sputO s2 dst v ∧ K (sputO s dst v) M')) := fun f args h =>
      ACalls.mono h fun v' M' hp => by
        rw [putV_iff] at hp ⊢
        exact ⟨hp.1, v', rfl, hp.2⟩
    cases op <;> simp only [AOp.isCall, Bool.false_eq_true] at hc
    case call f args =>
      simp only [AOp.looks] at hl
      have h : wpCall P false f (evL s args) M _ := h
      rw [evL_looks hl] at h
      exact key _ _ h
    case callv fx args =>
      simp only [AOp.looks, List.mem_append] at hl
      have h : wpCallV P false (ev s fx) (evL s args) M _ := h
      rw [evL_looks (xs := args) fun t ht => hl t (.inr ht), ev_looks (x := fx) fun t ht => hl t (.inl ht)] at h
      show wpCallV P false (ev s2 fx) (evL s2 args) M _
      unfold wpCallV at h ⊢
      split at h
      · exact key _ _ h
      · exact key _ _ h
      · exact h.elim
  | false =>
    cases hm : op.isMem with
    | false =>
      rw [wpOp_pure hm hc] at *
      obtain ⟨v, h1, h2, h3⟩ := h
      exact ⟨v, by rw [← pstep_looks hl]; exact h1, h2, v, rfl, h3⟩
    | true =>
      have e : ∀ (s : Slots) (K : Slots → Mem → Prop), wpOp P false op dst isB s M K = OptVM (mstep op s M) (fun v M' => K (sputO s dst v) M') := by
        intro s K
        cases op <;> first | rfl | (simp [AOp.isCall] at hc; done) | (simp [AOp.isMem] at hm; done)
      rw [e] at h ⊢
      rw [← mstep_looks hl]
      unfold OptVM at h ⊢
      split at h
      · exact ⟨_, rfl, h⟩
      · exact h.elim

/-! ### The slots when some operations have run -/
def dstAt (as : List AOper) (i : Nat) : Option Nat :=
  match as[i]? with
  | some o => o.dst
  | none => none
def aslots (as : List AOper) (val : Nat → V) (L : Nat → Bool) (s0 : Slots) : Nat → Slots
  | 0 => s0
  | i + 1 => bif L i then sputO (aslots as val L s0 i) (dstAt as i) (val i) else aslots as val L s0 i

theorem aslots_congr {as : List AOper} {val val' : Nat → V} {L L' : Nat → Bool} {s0 s0' : Slots} {t : Nat} : ∀ m, sget s0 t = sget s0' t → (∀ i, i < m → dstAt as i = some t → L i = L' i ∧ (L i = true → val i = val' i)) →
    sget (aslots as val L s0 m) t = sget (aslots as val' L' s0' m) t
  | 0, h, _ => h
  | m + 1, h, hL => by
    have ih := aslots_congr (val := val) (val' := val') (L := L) (L' := L') m h fun i hi hd => hL i (by omega) hd
    simp only [aslots]
    by_cases hd : dstAt as m = some t
    · obtain ⟨h1, h2⟩ := hL m (by omega) hd
      rw [← h1]
      cases hl : L m with
      | false => exact ih
      | true => simp only [cond_true, sget_sputO, hd, if_true]; exact h2 hl
    · cases L m <;> cases L' m <;> simp only [cond_true, cond_false, sget_sputO, if_neg hd] <;> exact ih

theorem aslots_stop {as : List AOper} {val : Nat → V} {L : Nat → Bool} {s0 : Slots} {i : Nat} : ∀ m, i ≤ m → (∀ j, i ≤ j → j < m → L j = false) → aslots as val L s0 m = aslots as val L s0 i
  | 0, h, _ => by have : i = 0 := by omega
                  rw [this]
  | m + 1, h, hL => by
    by_cases hi : i = m + 1
    · rw [hi]
    · simp only [aslots, hL m (by omega) (by omega), cond_false]
      exact aslots_stop m (by omega) fun j h1 h2 => hL j h1 (by omega)

theorem aslots_set {as : List AOper} {val : Nat → V} {L L' : Nat → Bool} {s0 : Slots} {i t : Nat} (hi : L i = false) (hi' : L' i = true) (hs : ∀ j, j ≠ i → L' j = L j) : ∀ m, i < m →
    (∀ j, i < j → j < m → dstAt as j = some t → dstAt as i = some t → L j = false) →
    sget (aslots as val L' s0 m) t = if dstAt as i = some t then val i else sget (aslots as val L s0 m) t
  | 0, h, _ => absurd h (Nat.not_lt_zero i)
  | m + 1, h, hn => by
    by_cases him : i = m
    · subst him
      simp only [aslots, hi, hi', cond_true, cond_false, sget_sputO]
      split
      · rfl
      · exact aslots_congr _ rfl fun j hj _ => ⟨hs j (by omega), fun _ => rfl⟩
    · have ih := aslots_set (as := as) (val := val) (s0 := s0) hi hi' hs m (by omega) fun j h1 h2 => hn j h1 (by omega)
      simp only [aslots, hs m (Ne.symm him)]
      cases hl : L m with
      | false => exact ih
      | true =>
        simp only [cond_true, sget_sputO]
        by_cases hd : dstAt as m = some t
        · simp only [if_pos hd]
          split
          · rename_i hd2
            rw [hn m (by omega) (by omega) hd hd2] at hl; cases hl
          · rfl
        · simp only [if_neg hd]; exact ih

theorem det_pure {o : AOper} {v : V} (hm : o.op.isMem = false) (hc : o.op.isCall = false) (hg : o.guard = none) {M' : Mem} (h : Det P o s M v) (hd : o.dst ≠ none) (hp : pstep o.op s M' = some v) : Det P o s M' v := by
  obtain ⟨dst, op, isB, g⟩ := o
  simp only at hg hm hc hp hd
  subst hg
  unfold Det wpOne at h ⊢
  simp only at h ⊢
  rw [wpOp_pure hm hc] at h ⊢
  obtain ⟨v', h1, h2, h3, _⟩ := h
  refine ⟨v, hp, fun hb => ?_, fun _ => rfl, rfl⟩
  obtain ⟨b, rfl⟩ := h2 hb
  cases dst with
  | none => exact absurd rfl hd
  | some d =>
    have := h3 d
    simp only [sget_sputO, if_true] at this
    exact ⟨b, this.symm⟩

theorem det_step {o : AOper} {v : V} (hm : o.op.isMem = false) (hc : o.op.isCall = false) (hg : o.guard = none) (hd : o.dst ≠ none) (h : Det P o s M v) : pstep o.op s M = some v := by
  obtain ⟨dst, op, isB, g⟩ := o
  simp only at hg hm hc hd
  subst hg
  unfold Det wpOne at h
  simp only at h
  rw [wpOp_pure hm hc] at h
  obtain ⟨v', h1, h2, h3, _⟩ := h
  cases dst with
  | none => exact absurd rfl hd
  | some d =>
    have := h3 d
    simp only [sget_sputO, if_true] at this
    rw [← this]; exact h1

/-- What is known of the operations before position q: those that leave memory alone can be asked again. -/
def HOK (P : Program) (as : List AOper) (fl : List (Option (List Nat))) (val : Nat → V) (s0 : Slots) (H : List (Nat × (Mem → Prop))) (q : Nat) : Prop :=
  ∀ i o, i < q → as[i]? = some o → fl[i]? = some none → o.guard = none → o.dst ≠ none → ∀ M', lookP H i M' → Det P o (aslots as val (fun _ => true) s0 i) M' (val i)

theorem float_split {as : List AOper} {fl : List (Option (List Nat))} {K : Slots → Mem → Prop} {s0 : Slots} (hlen : as.length = fl.length) (hst : ∀ (i : Nat) (o : AOper), as[i]? = some o → fl[i]? = some none → o.op.isMem = false ∧ o.op.isCall = false) :
    ∀ (m q : Nat) (val : Nat → V) (H : List (Nat × (Mem → Prop))) (s : Slots), as.length - q = m → q ≤ as.length → HOK P as fl val s0 H q → (∀ t, sget s t = sget (aslots as val (fun _ => true) s0 q) t) → wpFloat P (as.drop q) (fl.drop q) q H s M K →
    ∃ (p : Nat) (val' : Nat → V) (H' : List (Nat × (Mem → Prop))) (sf : Slots), q ≤ p ∧ p ≤ as.length ∧ (∀ i, i < q → val' i = val i) ∧ HOK P as fl val' s0 H' p ∧ (∀ t, sget sf t = sget (aslots as val' (fun _ => true) s0 p) t) ∧
      (∀ i, q ≤ i → i < p → ∃ o, as[i]? = some o ∧ fl[i]? = some none ∧ Det P o (aslots as val' (fun _ => true) s0 i) M (val' i)) ∧
      ((p = as.length ∧ K sf M) ∨ ∃ o l, as[p]? = some o ∧ fl[p]? = some (some l) ∧ wpOne P false o sf M (fun s' M' => recheck H' l M' ∧ wpFloat P (as.drop (p + 1)) (fl.drop (p + 1)) (p + 1) H' s' M' K))
  | 0, q, val, H, s, hm, hq, hH, hs, h => by
    have e : q = as.length := by omega
    subst e
    rw [List.drop_length, List.drop_eq_nil_of_le (by omega)] at h
    exact ⟨as.length, val, H, s, Nat.le_refl _, Nat.le_refl _, fun _ _ => rfl, hH, hs, fun i h1 h2 => by omega, .inl ⟨rfl, h⟩⟩
  | m + 1, q, val, H, s, hm, hq, hH, hs, h => by
    have hqa : q < as.length := by omega
    have ea : as.drop q = as[q] :: as.drop (q + 1) := List.drop_eq_getElem_cons hqa
    have ef : fl.drop q = fl[q]'(by omega) :: fl.drop (q + 1) := List.drop_eq_getElem_cons (by omega)
    have ga : as[q]? = some as[q] := by simp
    have gf : fl[q]? = some (fl[q]'(by omega)) := by simp
    rw [ea, ef] at h
    generalize as[q] = o at *
    generalize fl[q]'(by omega) = f at *
    cases f with
    | some l => exact ⟨q, val, H, s, Nat.le_refl _, hq, fun _ _ => rfl, hH, hs, fun i h1 h2 => by omega, .inr ⟨o, l, ga, gf, h⟩⟩
    | none =>
      obtain ⟨hm1, hc1⟩ := hst q o ga gf
      simp only [wpFloat] at h
      obtain ⟨v, s', h1, h2, h3⟩ := wpOne_det hm1 h
      have cut : ∀ i, i ≤ q → ∀ t, sget (aslots as (fun i => if i = q then v else val i) (fun _ => true) s0 i) t = sget (aslots as val (fun _ => true) s0 i) t := fun i hi t =>
        aslots_congr i rfl fun j hj _ => ⟨rfl, fun _ => if_neg (by omega)⟩
      have hdq : dstAt as q = o.dst := by simp only [dstAt, ga]
      obtain ⟨p, val', H', sf, k1, k2, k3, k4, k5, k6, k7⟩ := float_split hlen hst m (q + 1) (fun i => if i = q then v else val i) ((q, fun M1 => pstep o.op s M1 = some (dstV s' o.dst)) :: H) s' (by omega) (by omega) (by
          intro i x hi hx hf hg hd M' hl
          by_cases hiq : i = q
          · subst hiq
            rw [ga] at hx
            simp only [Option.some.injEq] at hx
            subst hx
            have e : Nat.beq i i = true := by simp
            simp only [lookP, e] at hl
            obtain ⟨d, hdd⟩ : ∃ d, o.dst = some d := Option.ne_none_iff_exists'.1 hd
            have hv : dstV s' o.dst = v := by rw [hdd, dstV, h2 d, sget_sputO, if_pos hdd]
            rw [hv] at hl
            have := det_pure hm1 hc1 hg h1 hd hl
            simp only [if_true]
            exact this.move hm1 fun t _ => (hs t).trans (cut i (Nat.le_refl _) t).symm
          · have e : Nat.beq q i = false := by
              cases hb : Nat.beq q i with
              | false => rfl
              | true => exact absurd (Nat.eq_of_beq_eq_true hb).symm hiq
            simp only [lookP, e] at hl
            have := hH i x (by omega) hx hf hg hd M' hl
            show Det P x _ M' (if i = q then v else val i)
            rw [if_neg hiq]
            exact this.move (hst i x hx hf).1 fun t _ => (cut i (by omega) t).symm) (fun t => by
          rw [h2 t]
          simp only [aslots, cond_true, hdq, if_true]
          rw [sget_sputO, sget_sputO, hs t, cut q (Nat.le_refl _) t]) h3
      refine ⟨p, val', H', sf, by omega, k2, fun i hi => (k3 i (by omega)).trans (if_neg (by omega)), k4, k5, fun i hi1 hi2 => ?_, k7⟩
      by_cases hiq : i = q
      · subst hiq
        refine ⟨o, ga, gf, ?_⟩
        have hv : val' i = v := (k3 i (by omega)).trans (if_pos rfl)
        rw [hv]
        refine h1.move hm1 fun t _ => ?_
        rw [hs t]
        exact aslots_congr i rfl fun j hj _ => ⟨rfl, fun _ => ((k3 j (by omega)).trans (if_neg (by omega))).symm⟩
      · exact k6 i (by omega) hi2

theorem recheck_mem {H : List (Nat × (Mem → Prop))} {M' : Mem} : ∀ {l : List Nat}, recheck H l M' → ∀ i ∈ l, lookP H i M'
  | [], _, i, hi => by simp at hi
  | j :: l, h, i, hi => by
    rcases List.mem_cons.1 hi with rfl | hi
    · exact h.1
    · exact recheck_mem h.2 i hi

/-- Two new variables whose order is open. -/
def PairAt (ops : Array Oper) (as' : List AOper) (fl : List (Option (List Nat))) (ix : Nat → Nat) (p : Nat) : Prop :=
  p + 1 < ops.size ∧ ∃ d1 z1 d2 z2 l2, as'[p]? = some ⟨some d1, .alloc z1, false, none⟩ ∧ as'[p + 1]? = some ⟨some d2, .alloc z2, false, none⟩ ∧ fl[p + 1]? = some (some l2) ∧
    ∀ i, p + 1 < i → i < ops.size → Bef ops (ix p) (ix i) ∧ Bef ops (ix (p + 1)) (ix i)

theorem plainAlloc_some {o : AOper} (h : plainAlloc o = true) : ∃ d z, o = ⟨some d, .alloc z, false, none⟩ := by
  unfold plainAlloc at h
  split at h
  · exact ⟨_, _, rfl⟩
  · cases h

/-- What the order of the operations must satisfy. -/
structure FOK (ops : Array Oper) (as as' : List AOper) (fl : List (Option (List Nat))) (ix : Nat → Nat) : Prop where
  len : as'.length = ops.size
  flen : fl.length = ops.size
  back : edgesBack 0 ops.toList = true
  lt : ∀ i, i < ops.size → ix i < ops.size
  inj : ∀ i j, i < ops.size → j < ops.size → ix i = ix j → i = j
  sur : ∀ k, k < ops.size → ∃ i, i < ops.size ∧ ix i = k
  get : ∀ i, i < ops.size → as'[i]? = as[ix i]?
  apart : ∀ (i k : Nat) (x y : AOper), i < k → k < ops.size → as'[i]? = some x → as'[k]? = some y → Bef ops (ix i) (ix k) ∨ x.apartA y = true
  still : ∀ (i : Nat) (o : AOper), as'[i]? = some o → fl[i]? = some none → o.op.isMem = false ∧ o.op.isCall = false
  ev : ∀ (p : Nat) (o : AOper) (l : List Nat), as'[p]? = some o → fl[p]? = some (some l) → o.guard = none ∧ ((∀ i, p < i → i < ops.size → Bef ops (ix p) (ix i)) ∨ PairAt ops as' fl ix p) ∧
    ∀ (j : Nat) (x : AOper), j < p → as'[j]? = some x → Bef ops (ix j) (ix p) ∨ (j + 1 = p ∧ PairAt ops as' fl ix j) ∨ (j ∈ l ∧ x.guard = none ∧ x.dst ≠ none ∧ fl[j]? = some none)

theorem mixF_ok {ops : Array Oper} {as as' : List AOper} {fl : List (Option (List Nat))} (h : mixF ops as = some (as', fl)) : ∃ ix, FOK ops as as' fl ix := by
  unfold mixF at h
  simp only at h
  split at h
  · cases h
  · rename_i ix hix
    obtain ⟨hc, he⟩ := cond_some h
    simp only [Prod.mk.injEq] at he
    obtain ⟨rfl, rfl⟩ := he
    simp only [Bool.and_eq_true, List.all_eq_true, List.mem_range] at hc
    obtain ⟨⟨⟨⟨⟨⟨h1, h2⟩, h3⟩, h4⟩, h5⟩, h6⟩, h7⟩ := hc
    have e1 : ix.length = as.length := Nat.eq_of_beq_eq_true h1
    have e2 : as.length = ops.size := Nat.eq_of_beq_eq_true h2
    have hlt : ∀ k, k < ops.size → ix.getD k 0 < ops.size := fun k hk => by
      have := (h5 k (by omega)).1
      rw [Nat.blt_eq] at this
      omega
    have hinj : ∀ i k, i < k → k < ops.size → ix.getD i 0 ≠ ix.getD k 0 := fun i k hik hk e => by
      have := (h5 k (by omega)).2 i hik
      rw [e] at this
      simp at this
    have hg : ∀ i, i < ops.size → (ix.map fun i => as.getD i default)[i]? = as[ix.getD i 0]? := fun i hi => by
      have hi' : i < ix.length := by omega
      have hl := hlt i hi
      rw [List.getElem?_map, List.getElem?_eq_getElem hi', Option.map_some]
      have e : ix.getD i 0 = ix[i] := by simp [List.getD, hi']
      rw [e] at hl ⊢
      rw [List.getElem?_eq_getElem (by omega)]
      simp [List.getD, show ix[i] < as.length by omega]
    have hD : ∀ i x, (ix.map fun i => as.getD i default)[i]? = some x → (ix.map fun i => as.getD i default).getD i default = x := fun i x hx => by
      rw [List.getD, hx]; rfl
    have hF : ∀ p, p < ops.size → ∀ d, (flF (befores ops.toList []) ix (as.map fun o : AOper => o.op.isMem || o.op.isCall) as.length).getD p d = ((flF (befores ops.toList []) ix (as.map fun o : AOper => o.op.isMem || o.op.isCall) as.length)[p]?).getD d := fun p _ d => by rw [List.getD]
    have hB : ∀ i k, bfF (befores ops.toList []) ix i k = true → Bef ops (ix.getD i 0) (ix.getD k 0) := fun i k hb => hb
    refine ⟨fun i => ix.getD i 0, ⟨by simp; omega, by simp [flF]; omega, h3, hlt, ?_, ?_, hg, ?_, ?_, ?_⟩⟩
    · intro i j hi hj e
      rcases Nat.lt_trichotomy i j with h | h | h
      · exact absurd e (hinj i j h hj)
      · exact h
      · exact absurd e.symm (hinj j i h hi)
    · intro k hk
      have := inL_iff.1 (h4 k (by omega))
      obtain ⟨i, hi, rfl⟩ := List.getElem_of_mem this
      exact ⟨i, by omega, by simp [List.getD, hi]⟩
    · intro i k x y hik hk hx hy
      have := h6 k (by omega) i hik
      rw [hD i x hx, hD k y hy, Bool.or_eq_true] at this
      rcases this with h | h
      · exact .inl (hB _ _ h)
      · exact .inr h
    · intro i o ho hf
      have hi : i < ops.size := by
        have := (List.getElem?_eq_some_iff.1 ho).1
        simp at this; omega
      have := h7 i (by omega)
      unfold okF at this
      rw [hF i hi, hf] at this
      simp only [Option.getD_some] at this
      rw [hD i o ho] at this
      simpa using this
    · intro p o l ho hf
      have hp : p < ops.size := by
        have := (List.getElem?_eq_some_iff.1 ho).1
        simp at this; omega
      have := h7 p (by omega)
      unfold okF at this
      rw [hF p hp, hf] at this
      simp only [Option.getD_some] at this
      rw [hD p o ho] at this
      simp only [Bool.and_eq_true, List.all_eq_true, List.mem_range] at this
      obtain ⟨⟨g1, g2⟩, g3⟩ := this
      have hng : ∀ x : AOper, noGuard x = true → x.guard = none := fun x hx => by
        unfold noGuard at hx
        split at hx
        · assumption
        · cases hx
      have hpair : ∀ q, pairB (befores ops.toList []) ix (flF (befores ops.toList []) ix (as.map fun o : AOper => o.op.isMem || o.op.isCall) as.length) (ix.map fun i => as.getD i default) as.length q = true →
          PairAt ops (ix.map fun i => as.getD i default) (flF (befores ops.toList []) ix (as.map fun o : AOper => o.op.isMem || o.op.isCall) as.length) (fun i => ix.getD i 0) q := fun q hq => by
        unfold pairB at hq
        simp only [Bool.and_eq_true, List.all_eq_true, List.mem_range] at hq
        obtain ⟨⟨⟨⟨q1, q2⟩, q3⟩, q4⟩, q5⟩ := hq
        have q1 := blt_iff.1 q1
        have gA : ∀ k, k < ops.size → ∃ x, (ix.map fun i => as.getD i default)[k]? = some x := fun k hk => by
          exact ⟨_, List.getElem?_eq_getElem (by simp; omega)⟩
        obtain ⟨x1, hx1⟩ := gA q (by omega)
        obtain ⟨x2, hx2⟩ := gA (q + 1) (by omega)
        rw [hD q x1 hx1] at q2
        rw [hD (q + 1) x2 hx2] at q3
        obtain ⟨d1, z1, rfl⟩ := plainAlloc_some q2
        obtain ⟨d2, z2, rfl⟩ := plainAlloc_some q3
        rw [hF (q + 1) (by omega)] at q4
        refine ⟨by omega, d1, z1, d2, z2, ?_⟩
        cases hfl : (flF (befores ops.toList []) ix (as.map fun o : AOper => o.op.isMem || o.op.isCall) as.length)[q + 1]? with
        | none => rw [hfl] at q4; simp at q4
        | some f =>
          rw [hfl] at q4
          cases f with
          | none => simp at q4
          | some l2 =>
            refine ⟨l2, hx1, hx2, rfl, fun i hi1 hi2 => ?_⟩
            have := q5 i (by omega)
            rw [show Nat.blt (q + 1) i = true from blt_iff.2 hi1] at this
            simp only [Bool.not_true, Bool.false_or, Bool.and_eq_true] at this
            exact ⟨hB _ _ this.1, hB _ _ this.2⟩
      refine ⟨hng o g1, ?_, fun j x hj hx => ?_⟩
      · rcases Bool.or_eq_true _ _ |>.mp g2 with g2 | g2
        · refine .inl fun i hpi hi => ?_
          have := List.all_eq_true.1 g2 i (List.mem_range.2 (by omega))
          rw [show Nat.blt p i = true from blt_iff.2 hpi] at this
          exact hB _ _ (by simpa using this)
        · exact .inr (hpair p g2)
      · have := g3 j hj
        rw [hD j x hx, Bool.or_eq_true, Bool.or_eq_true] at this
        rcases this with (h | h) | h
        · exact .inl (hB _ _ h)
        · simp only [Bool.and_eq_true] at h
          exact .inr (.inl ⟨Nat.eq_of_beq_eq_true h.1, hpair j h.2⟩)
        · simp only [Bool.and_eq_true] at h
          obtain ⟨⟨⟨k1, k2⟩, k3⟩, k4⟩ := h
          refine .inr (.inr ⟨inL_iff.1 k1, hng x k2, (fun e => by rw [e] at k3; cases k3), ?_⟩)
          rw [hF j (by omega)] at k4
          cases hfj : (flF (befores ops.toList []) ix (as.map fun o : AOper => o.op.isMem || o.op.isCall) as.length)[j]? with
          | none => rw [hfj] at k4; simp at k4
          | some f =>
            rw [hfj] at k4
            cases f with
            | none => rfl
            | some l => simp at k4

/-- The walk over a region whose order is open: the positions before p are operations that leave memory alone, or have run. -/
abbrev FMain (P : Program) (w0 : World) (Γ0 : Env) (n : Nat) (ops : Array Oper) (as' : List AOper) (fl : List (Option (List Nat))) (ix : Nat → Nat) (s : Slots) (K : Slots → Mem → Prop) (Q : Exit → Act → World → Prop) (fuel : Nat) : Prop :=
  ∀ (listed : Array Bool) (a : Act) (w : World) (Γ : Env) (p : Nat) (val : Nat → V) (H : List (Nat × (Mem → Prop))) (sf : Slots) (M : Mem),
      (List.range ops.size).countP (fun i => !listed.getD i true) ≤ fuel → listed.size = ops.size →
      (∀ k o, ops[k]? = some o → listed.getD k true = true → ∀ e ∈ o.after, Region.binds .any e = true → listed.getD e.on true = true) →
      p ≤ ops.size → (∀ i, p ≤ i → i < ops.size → listed.getD (ix i) true = false) →
      (∀ i, i < p → listed.getD (ix i) true = false → ∃ o, as'[i]? = some o ∧ fl[i]? = some none ∧ Det P o (aslots as' val (fun _ => true) s i) M (val i)) →
      HOK P as' fl val s H p → (∀ t, sget sf t = sget (aslots as' val (fun _ => true) s p) t) →
      ((p = ops.size ∧ K sf M) ∨ ∃ o l, as'[p]? = some o ∧ fl[p]? = some (some l) ∧ wpOne P false o sf M (fun s' M' => recheck H l M' ∧ wpFloat P (as'.drop (p + 1)) (fl.drop (p + 1)) (p + 1) H s' M' K)) →
      St w0 Γ0 n w Γ (aslots as' val (fun i => listed.getD (ix i) true) s p) M a →
      wpAny P .any ops Q fuel listed a w
/-- The same, where of two new variables the second one is there already. -/
abbrev FEarly (P : Program) (w0 : World) (Γ0 : Env) (n : Nat) (ops : Array Oper) (as' : List AOper) (fl : List (Option (List Nat))) (ix : Nat → Nat) (s : Slots) (K : Slots → Mem → Prop) (Q : Exit → Act → World → Prop) (fuel : Nat) : Prop :=
  ∀ (listed : Array Bool) (a : Act) (w : World) (Γ : Env) (p : Nat) (val : Nat → V) (H : List (Nat × (Mem → Prop))) (sf : Slots) (M : Mem) (d1 : Nat) (z1 : List V) (d2 : Nat) (z2 : List V) (l1 l2 : List Nat),
      (List.range ops.size).countP (fun i => !listed.getD i true) ≤ fuel → listed.size = ops.size →
      (∀ k o, ops[k]? = some o → listed.getD k true = true → ∀ e ∈ o.after, Region.binds .any e = true → listed.getD e.on true = true) →
      p + 1 < ops.size → as'[p]? = some ⟨some d1, .alloc z1, false, none⟩ → as'[p + 1]? = some ⟨some d2, .alloc z2, false, none⟩ → fl[p]? = some (some l1) → fl[p + 1]? = some (some l2) →
      (∀ i, p + 1 < i → i < ops.size → Bef ops (ix p) (ix i)) →
      listed.getD (ix (p + 1)) true = true → (∀ i, p ≤ i → i < ops.size → i ≠ p + 1 → listed.getD (ix i) true = false) →
      (∀ i, i < p → listed.getD (ix i) true = false → ∃ o, as'[i]? = some o ∧ fl[i]? = some none ∧ Det P o (aslots as' val (fun _ => true) s i) M (val i)) →
      HOK P as' fl val s H p → (∀ t, sget sf t = sget (aslots as' val (fun _ => true) s p) t) →
      wpOne P false ⟨some d1, .alloc z1, false, none⟩ sf M (fun s' M' => recheck H l1 M' ∧ wpFloat P (as'.drop (p + 1)) (fl.drop (p + 1)) (p + 1) H s' M' K) →
      St w0 Γ0 n w Γ (sput (aslots as' val (fun i => listed.getD (ix i) true) s p) d2 (.ptr (M.length + 1) 0)) (M ++ [.dead, .box z2]) a →
      wpAny P .any ops Q fuel listed a w

theorem get_app {M : Mem} {i : Nat} {B : Blk} (h : M[i]? = some B) (L : Mem) : (M ++ L)[i]? = some B := by
  rw [List.getElem?_append_left (List.getElem?_eq_some_iff.1 h).1, h]
theorem loadV_app {k : Nat} {ag : Bool} {x v : V} {M : Mem} (L : Mem) (h : loadV k ag x M = some v) : loadV k ag x (M ++ L) = some v := by
  cases x <;> simp only [loadV] at h ⊢ <;> first | exact h | skip
  case ptr id off =>
    cases hM : M[id]? with
    | none => rw [hM] at h; cases h
    | some B => rw [hM] at h; rw [get_app hM]; exact h
  case eptr id ver row off =>
    cases hM : M[id]? with
    | none => rw [hM] at h; cases h
    | some B => rw [hM] at h; rw [get_app hM]; exact h
theorem rowsV_app {k : Nat} {x : V} {r : List (List V)} {M : Mem} (L : Mem) (h : rowsV k M x = some r) : rowsV k (M ++ L) x = some r := by
  cases x <;> simp only [rowsV] at h ⊢ <;> first | exact h | skip
  case mslice id _ _ _ =>
    cases hM : M[id]? with
    | none => rw [hM] at h; cases h
    | some B => rw [hM] at h; rw [get_app hM]; exact h
theorem lenV_app {x v : V} {M : Mem} (L : Mem) (h : lenV x M = some v) : lenV x (M ++ L) = some v := by
  cases x <;> simp only [lenV] at h ⊢ <;> first | exact h | skip
  case mslice id _ _ _ =>
    cases hM : M[id]? with
    | none => rw [hM] at h; cases h
    | some B => rw [hM] at h; rw [get_app hM]; exact h
theorem indexSlV_app {k : Nat} {x i v : V} {M : Mem} (L : Mem) (h : indexSlV k x i M = some v) : indexSlV k x i (M ++ L) = some v := by
  cases i <;> simp only [indexSlV] at h ⊢ <;> first | exact h | skip
  case int kk q =>
    cases hd : decide (0 ≤ q) with
    | false => rw [hd] at h; cases h
    | true =>
      rw [hd] at h
      simp only [cond_true] at h ⊢
      cases x <;> simp only at h ⊢ <;> first | exact h | skip
      case mslice id _ _ _ =>
        cases hM : M[id]? with
        | none => rw [hM] at h; cases h
        | some B => rw [hM] at h; rw [get_app hM]; exact h
theorem sliceV_app {k : Nat} {x v : V} {lo hi mx : Option V} {M : Mem} (L : Mem) (h : sliceV k x lo hi mx M = some v) : sliceV k x lo hi mx (M ++ L) = some v := by
  cases x <;> simp only [sliceV] at h ⊢ <;> first | exact h | skip
  case mslice id _ _ _ =>
    cases hM : M[id]? with
    | none => rw [hM] at h; cases mx <;> cases h
    | some B => rw [hM] at h; rw [get_app hM]; exact h
theorem mapFind_app {c : CK} {m key : V} {r : Option V} {M : Mem} (L : Mem) (h : mapFind c M m key = some r) : mapFind c (M ++ L) m key = some r := by
  unfold mapFind at h ⊢
  cases hk : isKey c key with
  | false => rw [hk] at h; cases h
  | true =>
    rw [hk] at h
    simp only [cond_true] at h ⊢
    cases m <;> simp only at h ⊢ <;> first | exact h | skip
    case map id =>
      cases hM : M[id]? with
      | none => rw [hM] at h; cases h
      | some B => rw [hM] at h; rw [get_app hM]; exact h
/-- What leaves memory alone gives the same where memory has grown. -/
theorem pstep_app {o : AOp} {v : V} {M : Mem} (L : Mem) (h : pstep o s M = some v) : pstep o s (M ++ L) = some v := by
  cases o <;> simp only [pstep] at h ⊢ <;> first | exact h | exact loadV_app L h | exact lenV_app L h | exact indexSlV_app L h | exact sliceV_app L h | skip
  case bytesStr x =>
    unfold bytesStrV at h ⊢
    cases hr : rowsV 1 M (ev s x) with
    | none => rw [hr] at h; cases h
    | some r => rw [hr] at h; rw [rowsV_app L hr]; exact h
  case lookup c z ag ok m k =>
    unfold lookupV at h ⊢
    cases hr : mapFind c M (ev s m) (ev s k) with
    | none => rw [hr] at h; cases h
    | some r => rw [hr] at h; rw [mapFind_app L hr]; exact h

theorem Det.app {o : AOper} {v : V} (hm : o.op.isMem = false) (hc : o.op.isCall = false) (h : Det P o s M v) (L : Mem) : Det P o s (M ++ L) v := by
  obtain ⟨dst, op, isB, g⟩ := o
  have key : ∀ (s1 r : Slots), wpOp P false op dst isB s1 M (Same r M) → wpOp P false op dst isB s1 (M ++ L) (Same r (M ++ L)) := fun s1 r h => by
    rw [wpOp_pure hm hc] at h ⊢
    obtain ⟨v', h1, h2, h3, _⟩ := h
    exact ⟨v', pstep_app L h1, h2, h3, rfl⟩
  have key2 : ∀ (s1 r : Slots), Same r M s1 M → Same r (M ++ L) s1 (M ++ L) := fun s1 r h => ⟨h.1, rfl⟩
  unfold Det wpOne at h ⊢
  cases g with
  | none => exact key _ _ h
  | some gw =>
    obtain ⟨g, want⟩ := gw
    simp only at h ⊢
    cases hg : sget s g <;> rw [hg] at h <;> (try simp only at h) <;> (try simp only) <;> first | exact h.elim | skip
    case bool b =>
      cases want <;> cases b <;> first | exact key _ _ h | exact key2 _ _ h
    case tuple vs =>
      cases vs with
      | nil => exact key2 _ _ h
      | cons _ _ => exact h.elim

theorem alloc_wake (hg : Good w Γ M) {o : Oper} {id : Nat} (hM : M[id]? = some .dead) {e : TypeId} {z : List V} (ho : o.op = .alloc e) (hz : zeroT P e = some z) : MOK P w Γ a o (.ptr id 0) (M.set id (.box z)) := by
  obtain ⟨zv, h1, h2⟩ := zero_indep hz
  obtain ⟨l, hl⟩ := hg.loc_of hM
  obtain ⟨hb, hlv⟩ := hg.blk id l _ hl hM
  have hlt : id < Γ.locs.length := (List.getElem?_eq_some_iff.1 hl).1
  let l' : Loc := ⟨w.heap.size, true, true, 0, 0, l.ver + 1⟩
  have he : Ext w Γ (w.alloc (.cells zv.cells e)) (Γ.reloc id l' Γ.S) := Ext.reloc hl hb (by show l.ver < l.ver + 1; omega) (fun b q hs => ⟨hs, cell?_congr (heap_alloc_lt w _ (hg.s_lt hs))⟩) ((Below.refl _ _).alloc hg.base _) (fun _ _ _ h => h)
  refine ⟨_, w.alloc (.cells zv.cells e), Γ.reloc id l' Γ.S, ?_, .inl ⟨.pointer (some ⟨w.heap.size, 0, none⟩), rfl, .ptr id 0 l' (by simp only [Env.reloc]; rw [List.getElem?_set_self hlt]) rfl rfl⟩, ?_, he⟩
  · simp [execOp, ho, Instr.alloc, h1, newVar, newRow]
  · refine hg.reloc hl he (fun k _ hk => heap_alloc_lt w _ hk) (fun i m hi hm hv => ⟨fun e => ?_, fun _ h => h⟩) hg.base (fun b q hs => ?_) ⟨rfl, rfl, fun q hs => hg.no_s_new q hs, zv.cells, e, heap_alloc_new w _, ((h2 w Γ).1).ext he⟩
    · have := hg.loc_lt hm hv
      rw [show m.b = w.heap.size from e] at this
      omega
    · obtain ⟨u, hu⟩ := hg.scell b q hs
      exact ⟨u, (cell?_congr (heap_alloc_lt w _ (hg.s_lt hs))).trans hu⟩

theorem resOp_alloc {mu mv : Bool} {ty : TypeId} {op : Op} {z : List V} (h : resOp P mu mv ty op = some (.alloc z)) : ∃ e, op = .alloc e ∧ zeroT P e = some z := by
  cases op
  case alloc e =>
    simp only [resOp, Option.map_eq_some_iff] at h
    obtain ⟨z', hz, he⟩ := h
    cases he
    exact ⟨e, rfl, hz⟩
  case call c =>
    exfalso
    obtain ⟨callee, args, tys⟩ := c
    cases callee with
    | builtin b =>
      simp only [resOp] at h
      unfold resBuiltin at h
      repeat' (split at h)
      all_goals first
        | contradiction
        | (cases h; done)
        | (simp only [Option.map_eq_some_iff] at h; obtain ⟨_, _, h⟩ := h; cases h; done)
        | (simp only [Option.some.injEq] at h; cases h; done)
        | (obtain ⟨_, _, _, _, h⟩ := bind2_some h; cases h; done)
    | value f =>
      cases f with
      | func f =>
        simp only [resOp, Option.map_eq_some_iff] at h
        obtain ⟨_, _, h⟩ := h; cases h
      | tmp t => simp only [resOp] at h; obtain ⟨_, _, _, _, h⟩ := bind2_some h; cases h
      | const c => simp only [resOp] at h; obtain ⟨_, _, _, _, h⟩ := bind2_some h; cases h
      | global g => simp only [resOp] at h; obtain ⟨_, _, _, _, h⟩ := bind2_some h; cases h
    | invoke r m => simp [resOp] at h
  all_goals
    exfalso
    simp only [resOp, reduceCtorEq] at h <;> (repeat' (split at h)) <;> first
      | contradiction
      | (cases h; done)
      | (simp only [Option.map_eq_some_iff] at h; obtain ⟨_, _, h⟩ := h; cases h; done)
      | (simp only [Option.some.injEq] at h; cases h; done)
      | (obtain ⟨_, h⟩ := cond_some h; cases h; done)
      | (obtain ⟨_, _, _, _, h⟩ := bind2_some h; cases h; done)

theorem wake_sound {ops : Array Oper} {i : Nat} {o : Oper} {d : Nat} {z : List V} {mu : List Nat} (ho : ops[i]? = some o) (hres : resOper P n mu ops i o = some ⟨some d, .alloc z, false, none⟩) (hst : St w0 Γ0 n w Γ s M a) {id : Nat} (hM : M[id]? = some .dead)
    {next : Act → World → Prop} {Q : Exit → Act → World → Prop} (hk : ∀ a' w' Γ', St w0 Γ0 n w' Γ' (sput s d (.ptr id 0)) (M.set id (.box z)) a' → next a' w') : Go.wpOp P ops Q i next a w := by
  obtain ⟨op, g, hop, hg, heq, hd⟩ := resOper_some hres
  simp only [AOper.mk.injEq] at heq
  obtain ⟨hdst, rfl, _, rfl⟩ := heq
  obtain ⟨e, hoe, hz⟩ := resOp_alloc hop
  have hgd : o.guard = none := by
    cases hgo : o.guard with
    | none => rfl
    | some gw =>
      obtain ⟨j, want⟩ := gw
      rw [hgo] at hg
      simp only [resGuard, Option.map_eq_some_iff] at hg
      obtain ⟨_, _, h⟩ := hg
      cases h
  have hwant : Region.wanted o (yielded ops a.tmps) = true := by simp [Region.wanted, hgd]
  unfold Go.wpOp
  simp only [ho, hwant, if_true]
  refine .inl ?_
  obtain ⟨r, w', Γ', hrun, hres, hg', he⟩ := alloc_wake (P := P) (a := a) hst.good hM hoe hz
  unfold Oper.wp
  rw [hrun]
  rcases hres with ⟨cv, rfl, hv⟩ | ⟨_, hv⟩
  · rw [Oper.upon_value]
    have := (hst.later hg' he).put (dst := o.dst) hv hd
    rw [← hdst] at this
    rw [← hdst]
    exact hk _ _ _ this
  · cases hv

/-- **A region whose order is open, and in which memory changes.** -/
theorem float_region {id : Nat} {ops : Array Oper} {as : List AOper} {x : List AOper × List (Option (List Nat))} {mu : List Nat} {Q : Exit → Act → World → Prop} {K : Slots → Mem → Prop} (hmo : P.follows .mixedOrders = true) (hres : resOpers P n mu ops 0 ops.toList = some as) (hmix : mixF ops as = some x)
    (hst0 : St w0 Γ0 n w Γ s M a) (hwp0 : wpFloat P x.1 x.2 0 [] s M K) (hQ : ∀ s' M' a' w' Γ', St w0 Γ0 n w' Γ' s' M' a' → K s' M' → Q .normal a' w') : (Code.region id ops true).wp P Q a w := by
  obtain ⟨as', fl⟩ := x
  obtain ⟨ix, hF⟩ := mixF_ok hmix
  simp only at hwp0
  obtain ⟨hlen, hget⟩ := resOpers_get _ _ _ hres
  simp only [Nat.zero_add] at hget
  have hback := hF.back
  have hopA : ∀ i, i < ops.size → ∃ o ao, ops[ix i]? = some o ∧ as'[i]? = some ao ∧ resOper P n mu ops (ix i) o = some ao := fun i hi => by
    have hl := hF.lt i hi
    obtain ⟨ao, h1, h2⟩ := hget (ix i) (ops[ix i]) (by simp [hl])
    exact ⟨_, ao, by simp [hl], by rw [hF.get i hi]; exact h1, h2⟩
  have hlf : as'.length = fl.length := by rw [hF.len, hF.flen]
  have main : ∀ fuel : Nat, FMain P w0 Γ0 n ops as' fl ix s K Q fuel ∧ FEarly P w0 Γ0 n ops as' fl ix s K Q fuel := by
    intro fuel
    -- when all has come up
    have fin : ∀ (listed : Array Bool) (a : Act) (w : World) (Γ : Env) (p : Nat) (val : Nat → V) (H : List (Nat × (Mem → Prop))) (sf : Slots) (M : Mem), (∀ i, i < ops.size → listed.getD i true = true) →
        p ≤ ops.size → (∀ i, p ≤ i → i < ops.size → listed.getD (ix i) true = false) → (∀ t, sget sf t = sget (aslots as' val (fun _ => true) s p) t) →
        ((p = ops.size ∧ K sf M) ∨ ∃ o l, as'[p]? = some o ∧ fl[p]? = some (some l) ∧ wpOne P false o sf M (fun s' M' => recheck H l M' ∧ wpFloat P (as'.drop (p + 1)) (fl.drop (p + 1)) (p + 1) H s' M' K)) →
        St w0 Γ0 n w Γ (aslots as' val (fun i => listed.getD (ix i) true) s p) M a → Q .normal a w := by
      intro listed a w Γ p val H sf M hall hp hhi hsf hend hst
      have hpe : p = ops.size := by
        rcases Nat.lt_or_ge p ops.size with hlt | hge
        · have := hhi p (Nat.le_refl _) hlt
          rw [hall _ (hF.lt p hlt)] at this; cases this
        · omega
      rcases hend with ⟨_, hK⟩ | ⟨o, l, ho, _⟩
      · refine hQ sf M a w Γ ⟨hst.good, fun t => ?_, hst.size, hst.defers, hst.ext⟩ hK
        rw [hsf t, aslots_congr (val' := val) (L' := fun i => listed.getD (ix i) true) (s0' := s) p rfl fun i hi _ => ⟨(hall _ (hF.lt i (by omega))).symm, fun _ => rfl⟩]
        exact hst.slots t
      · have := (List.getElem?_eq_some_iff.1 ho).1
        have := hF.len
        omega
    induction fuel with
    | zero =>
      refine ⟨?_, ?_⟩
      · intro listed a w Γ p val H sf M hcnt hls hcl hp hhi hun hH hsf hend hst
        have hall : ∀ i, i < ops.size → listed.getD i true = true := fun i hi => by
          have h0 : (List.range ops.size).countP (fun i => !listed.getD i true) = 0 := by omega
          rw [List.countP_eq_zero] at h0
          have := h0 i (List.mem_range.2 hi)
          simpa using this
        have hre : Region.ready .any ops listed = [] := by
          rw [List.eq_nil_iff_forall_not_mem]
          intro j hj
          obtain ⟨h1, o, h2, _⟩ := mem_ready.1 hj
          rw [hall j (Array.getElem?_eq_some_iff.1 h2).1] at h1
          cases h1
        exact ⟨hre, fin listed a w Γ p val H sf M hall hp hhi hsf hend hst⟩
      · intro listed a w Γ p val H sf M d1 z1 d2 z2 l1 l2 hcnt hls hcl hp1 ga1 ga2 gf1 gf2 haft hl1 hhi hun hH hsf hw hst
        have h0 : (List.range ops.size).countP (fun i => !listed.getD i true) = 0 := by omega
        rw [List.countP_eq_zero] at h0
        have h1 := h0 (ix p) (List.mem_range.2 (hF.lt p (by omega)))
        rw [hhi p (Nat.le_refl _) (by omega) (by omega)] at h1
        exact absurd rfl h1
    | succ fuel ih =>
      refine ⟨?_, ?_⟩
      · intro listed a w Γ p val H sf M hcnt hls hcl hp hhi hun hH hsf hend hst
        have hgd : ∀ i b b', i < ops.size → listed.getD i b = listed.getD i b' := fun i b b' hi => by simp [hls, hi]
        have hcount : ∀ i, i < ops.size → listed.getD i true = false → (List.range ops.size).countP (fun j => !(listed.setIfInBounds i true).getD j true) ≤ fuel := fun i hi hu => by
          have := countP_flip (p := fun j => !listed.getD j true) (p' := fun j => !(listed.setIfInBounds i true).getD j true) (i := i) (by simp only [hu]; rfl) (by simp [hls, hi]) (fun j hj => by simp only [getD_set_ne true (Ne.symm hj)]) ops.size
          rw [if_pos hi] at this
          omega
        have hclose : ∀ i o, ops[i]? = some o → (∀ e ∈ o.after, Region.binds .any e = true → listed.getD e.on false = true) →
            (∀ k o, ops[k]? = some o → (listed.setIfInBounds i true).getD k true = true → ∀ e ∈ o.after, Region.binds .any e = true → (listed.setIfInBounds i true).getD e.on true = true) := fun i o ho hr k o' ho' hk e he hb => by
          have hks : k < ops.size := (Array.getElem?_eq_some_iff.1 ho').1
          have hlt : e.on < ops.size := by have := edgesBack_spec ops.toList 0 hback k o' e (by simpa using ho') he hb; omega
          have key : listed.getD e.on true = true → (listed.setIfInBounds i true).getD e.on true = true := fun h => by
            by_cases hei : i = e.on
            · subst hei; simp [hls, hlt]
            · rw [getD_set_ne true hei]; exact h
          by_cases hki : k = i
          · subst hki
            rw [ho] at ho'
            simp only [Option.some.injEq] at ho'
            subst ho'
            exact key ((hgd _ _ _ hlt).trans (hr e he hb))
          · rw [getD_set_ne true (Ne.symm hki)] at hk
            exact key (hcl k o' ho' hk e he hb)
        refine ⟨fun hre => ?_, fun k0 hi => ?_⟩
        · have hall : ∀ m i, i < m → i < ops.size → listed.getD i true = true := by
            intro m
            induction m with
            | zero => intro i h; exact absurd h (Nat.not_lt_zero i)
            | succ m ihm =>
              intro i him hi
              cases hu : listed.getD i true with
              | true => rfl
              | false =>
                have hr : i ∈ Region.ready .any ops listed := mem_ready.2 ⟨hu, ops[i], by simp [hi], fun e he hb => by
                  have hlt : e.on < i := by have := edgesBack_spec ops.toList 0 hback i ops[i] e (by simp [hi]) he hb; omega
                  exact (hgd _ _ _ (by omega)).trans (ihm e.on (by omega) (by omega))⟩
                rw [hre] at hr; cases hr
          exact fin listed a w Γ p val H sf M (fun i hi => hall (i + 1) i (by omega) hi) hp hhi hsf hend hst
        · obtain ⟨hu, o, ho, hr⟩ := mem_ready.1 hi
          have hk0 : k0 < ops.size := (Array.getElem?_eq_some_iff.1 ho).1
          obtain ⟨i, his, rfl⟩ := hF.sur k0 hk0
          obtain ⟨o', ao, ho', hao, hrao⟩ := hopA i his
          rw [ho] at ho'
          simp only [Option.some.injEq] at ho'
          subst ho'
          have hbefore : ∀ j, Bef ops j (ix i) → listed.getD j true = true := fun j hj =>
            bef_listed hback (L := fun j => listed.getD j true) hcl (ix i + 1) (ix i) (by omega) o ho (fun e he hb => by
              have hlt : e.on < ix i := by have := edgesBack_spec ops.toList 0 hback (ix i) o e (by simpa using ho) he hb; omega
              exact (hgd _ _ _ (by omega)).trans (hr e he hb)) j hj
          have hbeforeL : ∀ k, k < ops.size → listed.getD k true = true → ∀ j, Bef ops j k → listed.getD j true = true := fun k hk hkl j hj => by
            obtain ⟨q, hq, rfl⟩ := hF.sur k hk
            obtain ⟨ok, _, hok, _⟩ := hopA q hq
            exact bef_listed hback (L := fun j => listed.getD j true) hcl (ix q + 1) (ix q) (by omega) ok hok (hcl (ix q) ok hok hkl) j hj
          have hset : ∀ j, j < ops.size → j ≠ i → (listed.setIfInBounds (ix i) true).getD (ix j) true = listed.getD (ix j) true := fun j hj hji =>
            getD_set_ne true fun e => hji (hF.inj j i hj his e.symm)
          have hself : (listed.setIfInBounds (ix i) true).getD (ix i) true = true := by simp [hls, hF.lt i his]
          have hdst : ∀ k y, as'[k]? = some y → dstAt as' k = y.dst := fun k y hy => by simp only [dstAt, hy]
          have hdget : ∀ k t, k < ops.size → dstAt as' k = some t → ∃ y, as'[k]? = some y ∧ y.dst = some t := fun k t hk hd => by
            obtain ⟨_, y, _, hy, _⟩ := hopA k hk
            exact ⟨y, hy, by rw [← hdst k y hy]; exact hd⟩
          by_cases hip : i < p
          · -- an operation of the prefix
            obtain ⟨ao', hao', hfi, hdet⟩ := hun i hip hu
            rw [hao] at hao'
            simp only [Option.some.injEq] at hao'
            subst hao'
            obtain ⟨hnm, hnc⟩ := hF.still i ao hao hfi
            have hlook : ∀ t ∈ ao.looks, sget (aslots as' val (fun _ => true) s i) t = sget (aslots as' val (fun i => listed.getD (ix i) true) s p) t := fun t ht => by
              have e1 : aslots as' val (fun k => decide (k < i)) s p = aslots as' val (fun k => decide (k < i)) s i := aslots_stop p (by omega) fun j h1 _ => by simp; omega
              have e2 : sget (aslots as' val (fun _ => true) s i) t = sget (aslots as' val (fun k => decide (k < i)) s i) t := aslots_congr i rfl fun j hj _ => ⟨by simp [hj], fun _ => rfl⟩
              rw [e2, ← e1]
              refine aslots_congr p rfl fun k hk hkd => ⟨?_, fun _ => rfl⟩
              obtain ⟨y, hy, hyd⟩ := hdget k t (by omega) hkd
              rcases Nat.lt_trichotomy k i with hlt | heq | hgt
              · rw [decide_eq_true hlt]
                rcases hF.apart k i y ao hlt his hy hao with hb | hap
                · exact (hbefore _ hb).symm
                · exact absurd ht ((apartA_spec hap).1 t hyd)
              · subst heq
                rw [hu]; simp
              · rw [decide_eq_false (by omega)]
                rcases hF.apart i k ao y hgt (by omega) hao hy with hb | hap
                · cases hl : listed.getD (ix k) true with
                  | false => rfl
                  | true => rw [hbeforeL _ (hF.lt k (by omega)) hl _ hb] at hu; cases hu
                · exact absurd ht ((apartA_spec hap).2.2 t hyd)
            have hdet' := hdet.move hnm hlook
            refine wpOne_sound ho hrao hst hdet' ?_
            rintro s' M' a' w' Γ' hst' ⟨hs', rfl⟩
            refine ih.1 (listed.setIfInBounds (ix i) true) a' w' Γ' p val H sf M' (hcount _ (hF.lt i his) hu) (by simp [hls]) (hclose _ o ho hr) hp (fun j hj hjs => ?_) (fun j hj hjl => ?_) hH hsf hend ?_
            · rw [hset j hjs (by omega)]; exact hhi j hj hjs
            · by_cases hji : j = i
              · subst hji; rw [hself] at hjl; cases hjl
              · rw [hset j (by omega) hji] at hjl
                exact hun j hj hjl
            · refine ⟨hst'.good, fun t => ?_, hst'.size, hst'.defers, hst'.ext⟩
              have := hst'.slots t
              rw [hs' t, sget_sputO] at this
              have e : sget (aslots as' val (fun j => (listed.setIfInBounds (ix i) true).getD (ix j) true) s p) t = if ao.dst = some t then val i else sget (aslots as' val (fun j => listed.getD (ix j) true) s p) t := by
                have hcut : ∀ (L : Nat → Bool), sget (aslots as' val L s p) t = sget (aslots as' val (fun j => if j < ops.size then L j else false) s p) t := fun L => aslots_congr p rfl fun j hj _ => ⟨by rw [if_pos (by omega)], fun _ => rfl⟩
                rw [hcut, hcut (fun j => listed.getD (ix j) true), ← hdst i ao hao]
                refine aslots_set (i := i) (by rw [if_pos his]; exact hu) (by rw [if_pos his]; exact hself) (fun j hji => ?_) p hip fun j h1 h2 h3 h4 => ?_
                · split
                  · rename_i hj; exact hset j hj hji
                  · rfl
                · rw [if_pos (by omega)]
                  obtain ⟨y, hy, hyd⟩ := hdget j t (by omega) h3
                  rw [hdst i ao hao] at h4
                  rcases hF.apart i j ao y h1 (by omega) hao hy with hb | hap
                  · cases hl : listed.getD (ix j) true with
                    | false => rfl
                    | true => rw [hbeforeL _ (hF.lt j (by omega)) hl _ hb] at hu; cases hu
                  · exact absurd hyd ((apartA_spec hap).2.1 t h4)
              rw [e]
              exact this
          · -- the operation behind the prefix
            rcases hend with ⟨hpe, _⟩ | ⟨o2, l, ho2, hf2, hw2⟩
            · omega
            · have hps : p < ops.size := by have := (List.getElem?_eq_some_iff.1 ho2).1; have := hF.len; omega
              obtain ⟨hng, haft, hbef⟩ := hF.ev p o2 l ho2 hf2
              by_cases hie : i = p
              rotate_left
              · -- the second of two new variables comes first
                have hlt : p < i := by omega
                rcases haft with haft | ⟨hp1, d1, z1, d2, z2, l2, ga1, ga2, gf2, haft⟩
                · have := hbefore _ (haft i hlt his)
                  rw [hhi p (Nat.le_refl _) hps] at this; cases this
                · have hi1 : i = p + 1 := by
                    rcases Nat.lt_or_ge (p + 1) i with h | h
                    · have := hbefore _ (haft i h his).1
                      rw [hhi p (Nat.le_refl _) hps] at this; cases this
                    · omega
                  subst hi1
                  rw [hao] at ga2
                  simp only [Option.some.injEq] at ga2
                  subst ga2
                  rw [ga1] at ho2
                  simp only [Option.some.injEq] at ho2
                  subst ho2
                  have hst2 : St w0 Γ0 n w _ (aslots as' val (fun i => listed.getD (ix i) true) s p) (M ++ [.dead]) a := hst.later (hst.good.ghostB 0 (B := .dead) ⟨rfl, rfl⟩) (Ext.ghost w Γ _)
                  have hw3 : wpOne P false ⟨some d2, .alloc z2, false, none⟩ (aslots as' val (fun i => listed.getD (ix i) true) s p) (M ++ [.dead]) (fun s' M' => s' = sput (aslots as' val (fun i => listed.getD (ix i) true) s p) d2 (.ptr (M.length + 1) 0) ∧ M' = M ++ [.dead, .box z2]) := by
                    show _ ∧ _
                    exact ⟨by simp [sputO], by simp⟩
                  refine wpOne_sound ho hrao hst2 hw3 ?_
                  rintro s' M' a' w' Γ' hst' ⟨rfl, rfl⟩
                  have hcong : ∀ t, sget (sput (aslots as' val (fun i => (listed.setIfInBounds (ix (p + 1)) true).getD (ix i) true) s p) d2 (.ptr (M.length + 1) 0)) t = sget (sput (aslots as' val (fun i => listed.getD (ix i) true) s p) d2 (.ptr (M.length + 1) 0)) t := fun t => by
                    rw [sget_sput, sget_sput]
                    split
                    · rfl
                    · exact aslots_congr p rfl fun j hj _ => ⟨hset j (by omega) (by omega), fun _ => rfl⟩
                  refine ih.2 (listed.setIfInBounds (ix (p + 1)) true) a' w' Γ' p val H sf M d1 z1 d2 z2 l l2 (hcount _ (hF.lt _ his) hu) (by simp [hls]) (hclose _ o ho hr) hp1 ga1 hao hf2 gf2 (fun q h1 h2 => (haft q h1 h2).1) hself (fun j hj hjs hne => ?_) (fun j hj hjl => ?_) hH hsf hw2 ⟨hst'.good, fun t => ?_, hst'.size, hst'.defers, hst'.ext⟩
                  · rw [hset j hjs hne]; exact hhi j hj hjs
                  · rw [hset j (by omega) (by omega)] at hjl
                    exact hun j hj hjl
                  · rw [hcong t]; exact hst'.slots t
              subst hie
              rw [hao] at ho2
              simp only [Option.some.injEq] at ho2
              subst ho2
              have hlook : ∀ t ∈ ao.looks, sget sf t = sget (aslots as' val (fun i => listed.getD (ix i) true) s i) t := fun t ht => by
                rw [hsf t]
                refine aslots_congr i rfl fun k hk hkd => ⟨?_, fun _ => rfl⟩
                obtain ⟨y, hy, hyd⟩ := hdget k t (by omega) hkd
                rcases hF.apart k i y ao hk his hy hao with hb | hap
                · exact (hbefore _ hb).symm
                · exact absurd ht ((apartA_spec hap).1 t hyd)
              have hw3 : wpOne P false ao (aslots as' val (fun i => listed.getD (ix i) true) s i) M (fun s' M' => ∃ v, s' = sputO (aslots as' val (fun i => listed.getD (ix i) true) s i) ao.dst v ∧ (recheck H l M' ∧ wpFloat P (as'.drop (i + 1)) (fl.drop (i + 1)) (i + 1) H (sputO sf ao.dst v) M' K)) := by
                obtain ⟨dst, op, isB, g⟩ := ao
                simp only at hng
                subst hng
                exact wpOp_move (s := sf) (fun t ht => hlook t (by simpa [AOper.looks] using ht)) hw2
              refine wpOne_sound ho hrao hst hw3 ?_
              rintro s' M' a' w' Γ' hst' ⟨v, rfl, hrec, hfl⟩
              have hcutv : ∀ m, m ≤ i → ∀ t (L : Nat → Bool), sget (aslots as' (fun j => if j = i then v else val j) L s m) t = sget (aslots as' val L s m) t := fun m hm t L =>
                aslots_congr m rfl fun j hj _ => ⟨rfl, fun _ => if_neg (by omega)⟩
              obtain ⟨p', val', H', sf', k1, k2, k3, k4, k5, k6, k7⟩ := float_split (P := P) (M := M') (K := K) (s0 := s) hlf hF.still (as'.length - (i + 1)) (i + 1) (fun j => if j = i then v else val j) H (sputO sf ao.dst v) rfl (by rw [hF.len]; omega) (by
                  intro j x hj hx hf hg hd M1 hl
                  by_cases hji : j = i
                  · subst hji
                    rw [hf2] at hf
                    simp at hf
                  · have := hH j x (by omega) hx hf hg hd M1 hl
                    show Det P x _ M1 (if j = i then v else val j)
                    rw [if_neg hji]
                    exact this.move (hF.still j x hx hf).1 fun t _ => (hcutv j (by omega) t _).symm) (fun t => by
                  simp only [aslots, cond_true, if_true, hdst i ao hao]
                  rw [sget_sputO, sget_sputO, hsf t, hcutv i (Nat.le_refl _) t]) hfl
              rw [hF.len] at k2
              have hv' : val' i = v := (k3 i (by omega)).trans (if_pos rfl)
              have hvl : ∀ m, m ≤ i → ∀ t (L : Nat → Bool), sget (aslots as' val' L s m) t = sget (aslots as' val L s m) t := fun m hm t L =>
                aslots_congr m rfl fun j hj _ => ⟨rfl, fun _ => (k3 j (by omega)).trans (if_neg (by omega))⟩
              refine ih.1 (listed.setIfInBounds (ix i) true) a' w' Γ' p' val' H' sf' M' (hcount _ (hF.lt i his) hu) (by simp [hls]) (hclose _ o ho hr) k2 (fun j hj hjs => ?_) (fun j hj hjl => ?_) k4 k5 ?_ ?_
              · rw [hset j hjs (by omega)]; exact hhi j (by omega) hjs
              · rcases Nat.lt_trichotomy j i with hlt | heq | hgt
                · rw [hset j (by omega) (by omega)] at hjl
                  obtain ⟨x, hx, hfx, _⟩ := hun j hlt hjl
                  rcases hbef j x hlt hx with hb | ⟨_, _, d1, z1, _, _, _, ga1, _⟩ | ⟨g1, g2, g3, g4⟩
                  · rw [hbefore _ hb] at hjl; cases hjl
                  · rw [hx] at ga1
                    simp only [Option.some.injEq] at ga1
                    have := (hF.still j x hx hfx).1
                    rw [ga1] at this
                    cases this
                  · refine ⟨x, hx, hfx, ?_⟩
                    have := hH j x hlt hx hfx g2 g3 M' (recheck_mem hrec j g1)
                    rw [(k3 j (by omega)).trans (if_neg (by omega))]
                    exact this.move (hF.still j x hx hfx).1 fun t _ => (hvl j (by omega) t _).symm
                · subst heq
                  rw [hself] at hjl; cases hjl
                · exact k6 j (by omega) hj
              · rcases k7 with ⟨h1, h2⟩ | h
                · exact .inl ⟨h1.trans hF.len, h2⟩
                · exact .inr h
              · refine ⟨hst'.good, fun t => ?_, hst'.size, hst'.defers, hst'.ext⟩
                have e1 : aslots as' val' (fun j => (listed.setIfInBounds (ix i) true).getD (ix j) true) s p' = aslots as' val' (fun j => (listed.setIfInBounds (ix i) true).getD (ix j) true) s (i + 1) :=
                  aslots_stop p' (by omega) fun j h1 h2 => by rw [hset j (by omega) (by omega)]; exact hhi j (by omega) (by omega)
                rw [e1]
                simp only [aslots, hself, cond_true, hdst i ao hao, hv']
                have e2 : sget (aslots as' val' (fun j => (listed.setIfInBounds (ix i) true).getD (ix j) true) s i) t = sget (aslots as' val (fun j => listed.getD (ix j) true) s i) t := by
                  rw [hvl i (Nat.le_refl _) t]
                  exact aslots_congr i rfl fun j hj _ => ⟨hset j (by omega) (by omega), fun _ => rfl⟩
                rw [sget_sputO, e2, ← sget_sputO]
                exact hst'.slots t
      · intro listed a w Γ p val H sf M d1 z1 d2 z2 l1 l2 hcnt hls hcl hp1 ga1 ga2 gf1 gf2 haft hl1 hhi hun hH hsf hw hst
        have hgd : ∀ i b b', i < ops.size → listed.getD i b = listed.getD i b' := fun i b b' hi => by simp [hls, hi]
        have hcount : ∀ i, i < ops.size → listed.getD i true = false → (List.range ops.size).countP (fun j => !(listed.setIfInBounds i true).getD j true) ≤ fuel := fun i hi hu => by
          have := countP_flip (p := fun j => !listed.getD j true) (p' := fun j => !(listed.setIfInBounds i true).getD j true) (i := i) (by simp only [hu]; rfl) (by simp [hls, hi]) (fun j hj => by simp only [getD_set_ne true (Ne.symm hj)]) ops.size
          rw [if_pos hi] at this
          omega
        have hclose : ∀ i o, ops[i]? = some o → (∀ e ∈ o.after, Region.binds .any e = true → listed.getD e.on false = true) →
            (∀ k o, ops[k]? = some o → (listed.setIfInBounds i true).getD k true = true → ∀ e ∈ o.after, Region.binds .any e = true → (listed.setIfInBounds i true).getD e.on true = true) := fun i o ho hr k o' ho' hk e he hb => by
          have hks : k < ops.size := (Array.getElem?_eq_some_iff.1 ho').1
          have hlt : e.on < ops.size := by have := edgesBack_spec ops.toList 0 hback k o' e (by simpa using ho') he hb; omega
          have key : listed.getD e.on true = true → (listed.setIfInBounds i true).getD e.on true = true := fun h => by
            by_cases hei : i = e.on
            · subst hei; simp [hls, hlt]
            · rw [getD_set_ne true hei]; exact h
          by_cases hki : k = i
          · subst hki
            rw [ho] at ho'
            simp only [Option.some.injEq] at ho'
            subst ho'
            exact key ((hgd _ _ _ hlt).trans (hr e he hb))
          · rw [getD_set_ne true (Ne.symm hki)] at hk
            exact key (hcl k o' ho' hk e he hb)
        have hpu : listed.getD (ix p) true = false := hhi p (Nat.le_refl _) (by omega) (by omega)
        refine ⟨fun hre => ?_, fun k0 hi => ?_⟩
        · have hall : ∀ m i, i < m → i < ops.size → listed.getD i true = true := by
            intro m
            induction m with
            | zero => intro i h; exact absurd h (Nat.not_lt_zero i)
            | succ m ihm =>
              intro i him hi
              cases hu : listed.getD i true with
              | true => rfl
              | false =>
                have hr : i ∈ Region.ready .any ops listed := mem_ready.2 ⟨hu, ops[i], by simp [hi], fun e he hb => by
                  have hlt : e.on < i := by have := edgesBack_spec ops.toList 0 hback i ops[i] e (by simp [hi]) he hb; omega
                  exact (hgd _ _ _ (by omega)).trans (ihm e.on (by omega) (by omega))⟩
                rw [hre] at hr; cases hr
          rw [hall (ix p + 1) (ix p) (by omega) (hF.lt p (by omega))] at hpu
          cases hpu
        · obtain ⟨hu, o, ho, hr⟩ := mem_ready.1 hi
          have hk0 : k0 < ops.size := (Array.getElem?_eq_some_iff.1 ho).1
          obtain ⟨i, his, rfl⟩ := hF.sur k0 hk0
          obtain ⟨o', ao, ho', hao, hrao⟩ := hopA i his
          rw [ho] at ho'
          simp only [Option.some.injEq] at ho'
          subst ho'
          have hbefore : ∀ j, Bef ops j (ix i) → listed.getD j true = true := fun j hj =>
            bef_listed hback (L := fun j => listed.getD j true) hcl (ix i + 1) (ix i) (by omega) o ho (fun e he hb => by
              have hlt : e.on < ix i := by have := edgesBack_spec ops.toList 0 hback (ix i) o e (by simpa using ho) he hb; omega
              exact (hgd _ _ _ (by omega)).trans (hr e he hb)) j hj
          have hbeforeL : ∀ k, k < ops.size → listed.getD k true = true → ∀ j, Bef ops j k → listed.getD j true = true := fun k hk hkl j hj => by
            obtain ⟨q, hq, rfl⟩ := hF.sur k hk
            obtain ⟨ok, _, hok, _⟩ := hopA q hq
            exact bef_listed hback (L := fun j => listed.getD j true) hcl (ix q + 1) (ix q) (by omega) ok hok (hcl (ix q) ok hok hkl) j hj
          have hset : ∀ j, j < ops.size → j ≠ i → (listed.setIfInBounds (ix i) true).getD (ix j) true = listed.getD (ix j) true := fun j hj hji =>
            getD_set_ne true fun e => hji (hF.inj j i hj his e.symm)
          have hself : (listed.setIfInBounds (ix i) true).getD (ix i) true = true := by simp [hls, hF.lt i his]
          have hdst : ∀ k y, as'[k]? = some y → dstAt as' k = y.dst := fun k y hy => by simp only [dstAt, hy]
          have hdget : ∀ k t, k < ops.size → dstAt as' k = some t → ∃ y, as'[k]? = some y ∧ y.dst = some t := fun k t hk hd => by
            obtain ⟨_, y, _, hy, _⟩ := hopA k hk
            exact ⟨y, hy, by rw [← hdst k y hy]; exact hd⟩
          have hd12 : d1 ≠ d2 := by
            rcases hF.apart p (p + 1) _ _ (by omega) hp1 ga1 ga2 with hb | hap
            · rw [hbeforeL _ (hF.lt _ hp1) hl1 _ hb] at hpu; cases hpu
            · intro e
              exact (apartA_spec hap).2.1 d1 rfl (by rw [e])
          have d2ne : ∀ i y, i < p → listed.getD (ix i) true = false → as'[i]? = some y → y.dst ≠ some d2 ∧ d2 ∉ y.looks := fun i y hip hil hy => by
            rcases hF.apart i (p + 1) y _ (by omega) hp1 hy ga2 with hb | hap
            · rw [hbeforeL _ (hF.lt _ hp1) hl1 _ hb] at hil; cases hil
            · exact ⟨fun e => (apartA_spec hap).2.1 d2 e rfl, (apartA_spec hap).2.2 d2 rfl⟩
          by_cases hip : i < p
          · -- an operation of the prefix
            obtain ⟨ao', hao', hfi, hdet⟩ := hun i hip hu
            rw [hao] at hao'
            simp only [Option.some.injEq] at hao'
            subst hao'
            obtain ⟨hnm, hnc⟩ := hF.still i ao hao hfi
            obtain ⟨hdd, hdl⟩ := d2ne i ao hip hu hao
            have hlook : ∀ t ∈ ao.looks, sget (aslots as' val (fun _ => true) s i) t = sget (sput (aslots as' val (fun i => listed.getD (ix i) true) s p) d2 (.ptr (M.length + 1) 0)) t := fun t ht => by
              rw [sget_sput, if_neg (fun e => hdl (by rw [← e]; exact ht))]
              have e1 : aslots as' val (fun k => decide (k < i)) s p = aslots as' val (fun k => decide (k < i)) s i := aslots_stop p (by omega) fun j h1 _ => by simp; omega
              have e2 : sget (aslots as' val (fun _ => true) s i) t = sget (aslots as' val (fun k => decide (k < i)) s i) t := aslots_congr i rfl fun j hj _ => ⟨by simp [hj], fun _ => rfl⟩
              rw [e2, ← e1]
              refine aslots_congr p rfl fun k hk hkd => ⟨?_, fun _ => rfl⟩
              obtain ⟨y, hy, hyd⟩ := hdget k t (by omega) hkd
              rcases Nat.lt_trichotomy k i with hlt | heq | hgt
              · rw [decide_eq_true hlt]
                rcases hF.apart k i y ao hlt his hy hao with hb | hap
                · exact (hbefore _ hb).symm
                · exact absurd ht ((apartA_spec hap).1 t hyd)
              · subst heq
                rw [hu]; simp
              · rw [decide_eq_false (by omega)]
                rcases hF.apart i k ao y hgt (by omega) hao hy with hb | hap
                · cases hl : listed.getD (ix k) true with
                  | false => rfl
                  | true => rw [hbeforeL _ (hF.lt k (by omega)) hl _ hb] at hu; cases hu
                · exact absurd ht ((apartA_spec hap).2.2 t hyd)
            have hdet' := (hdet.app hnm hnc [.dead, .box z2]).move hnm hlook
            refine wpOne_sound ho hrao hst hdet' ?_
            rintro s' M' a' w' Γ' hst' ⟨hs', rfl⟩
            refine ih.2 (listed.setIfInBounds (ix i) true) a' w' Γ' p val H sf M d1 z1 d2 z2 l1 l2 (hcount _ (hF.lt i his) hu) (by simp [hls]) (hclose _ o ho hr) hp1 ga1 ga2 gf1 gf2 haft (by rw [hset (p + 1) hp1 (by omega)]; exact hl1) (fun j hj hjs hne => ?_) (fun j hj hjl => ?_) hH hsf hw ⟨hst'.good, fun t => ?_, hst'.size, hst'.defers, hst'.ext⟩
            · rw [hset j hjs (by omega)]; exact hhi j hj hjs hne
            · by_cases hji : j = i
              · subst hji; rw [hself] at hjl; cases hjl
              · rw [hset j (by omega) hji] at hjl
                exact hun j hj hjl
            · have := hst'.slots t
              rw [hs' t, sget_sputO, sget_sput] at this
              rw [sget_sput]
              have e : sget (aslots as' val (fun j => (listed.setIfInBounds (ix i) true).getD (ix j) true) s p) t = if ao.dst = some t then val i else sget (aslots as' val (fun j => listed.getD (ix j) true) s p) t := by
                have hcut : ∀ (L : Nat → Bool), sget (aslots as' val L s p) t = sget (aslots as' val (fun j => if j < ops.size then L j else false) s p) t := fun L => aslots_congr p rfl fun j hj _ => ⟨by rw [if_pos (by omega)], fun _ => rfl⟩
                rw [hcut, hcut (fun j => listed.getD (ix j) true), ← hdst i ao hao]
                refine aslots_set (i := i) (by rw [if_pos his]; exact hu) (by rw [if_pos his]; exact hself) (fun j hji => ?_) p hip fun j h1 h2 h3 h4 => ?_
                · split
                  · rename_i hj; exact hset j hj hji
                  · rfl
                · rw [if_pos (by omega)]
                  obtain ⟨y, hy, hyd⟩ := hdget j t (by omega) h3
                  rw [hdst i ao hao] at h4
                  rcases hF.apart i j ao y h1 (by omega) hao hy with hb | hap
                  · cases hl : listed.getD (ix j) true with
                    | false => rfl
                    | true => rw [hbeforeL _ (hF.lt j (by omega)) hl _ hb] at hu; cases hu
                  · exact absurd hyd ((apartA_spec hap).2.1 t h4)
              rw [e]
              by_cases ht : t = d2
              · rw [if_pos ht]
                rw [if_neg (fun e => hdd (by rw [e, ht])), if_pos ht] at this
                exact this
              · rw [if_neg ht]
                rw [if_neg ht] at this
                exact this
          · -- the first of the two
            have hie : i = p := by
              rcases Nat.lt_or_ge p i with hlt | hge
              · by_cases hi1 : i = p + 1
                · subst hi1; rw [hl1] at hu; cases hu
                · have := hbefore _ (haft i (by omega) his)
                  rw [hpu] at this; cases this
              · omega
            subst hie
            rw [hao] at ga1
            simp only [Option.some.injEq] at ga1
            subst ga1
            refine wake_sound ho hrao hst (id := M.length) (by simp) ?_
            intro a' w' Γ' hst'
            have hMM : (M ++ [Blk.dead, .box z2]).set M.length (.box z1) = M ++ [.box z1] ++ [.box z2] := by simp
            rw [hMM] at hst'
            -- what is asked, behind both
            have hw1 : recheck H l1 (M ++ [.box z1]) ∧ wpFloat P (as'.drop (i + 1)) (fl.drop (i + 1)) (i + 1) H (sput sf d1 (.ptr M.length 0)) (M ++ [.box z1]) K := hw
            have ea : as'.drop (i + 1) = as'[i + 1]'(by rw [hF.len]; omega) :: as'.drop (i + 1 + 1) := List.drop_eq_getElem_cons (by rw [hF.len]; omega)
            have ef : fl.drop (i + 1) = fl[i + 1]'(by rw [hF.flen]; omega) :: fl.drop (i + 1 + 1) := List.drop_eq_getElem_cons (by rw [hF.flen]; omega)
            have ga2' := (List.getElem?_eq_some_iff.1 ga2).2
            have gf2' := (List.getElem?_eq_some_iff.1 gf2).2
            rw [ea, ef, ga2', gf2'] at hw1
            have hw2 : recheck H l2 (M ++ [.box z1] ++ [.box z2]) ∧ wpFloat P (as'.drop (i + 1 + 1)) (fl.drop (i + 1 + 1)) (i + 1 + 1) H (sput (sput sf d1 (.ptr M.length 0)) d2 (.ptr (M ++ [Blk.box z1]).length 0)) (M ++ [.box z1] ++ [.box z2]) K := hw1.2
            obtain ⟨hrec, hfl⟩ := hw2
            have hlenM : (M ++ [Blk.box z1]).length = M.length + 1 := by simp
            rw [hlenM] at hfl
            obtain ⟨_, _, hbef2⟩ := hF.ev (i + 1) _ l2 ga2 gf2
            have hcutv : ∀ m, m ≤ i → ∀ t (L : Nat → Bool), sget (aslots as' (fun j => if j = i then .ptr M.length 0 else if j = i + 1 then .ptr (M.length + 1) 0 else val j) L s m) t = sget (aslots as' val L s m) t := fun m hm t L =>
              aslots_congr m rfl fun j hj _ => ⟨rfl, fun _ => by rw [if_neg (by omega), if_neg (by omega)]⟩
            have hde : ∀ t (L : Nat → Bool), L i = true → L (i + 1) = true → sget (aslots as' (fun j => if j = i then .ptr M.length 0 else if j = i + 1 then .ptr (M.length + 1) 0 else val j) L s (i + 1 + 1)) t = if t = d2 then .ptr (M.length + 1) 0 else if t = d1 then .ptr M.length 0 else sget (aslots as' val L s i) t := fun t L hL1 hL2 => by
              simp only [aslots, hL1, hL2, cond_true, hdst i _ hao, hdst (i + 1) _ ga2, sget_sputO, Option.some.injEq, if_true, if_neg (show ¬ i + 1 = i by omega), eq_comm (a := d2), eq_comm (a := d1)]
              rw [hcutv i (Nat.le_refl _) t]
            obtain ⟨p', val', H', sf', k1, k2, k3, k4, k5, k6, k7⟩ := float_split (P := P) (M := M ++ [Blk.box z1] ++ [Blk.box z2]) (K := K) (s0 := s) hlf hF.still (as'.length - (i + 1 + 1)) (i + 1 + 1) (fun j => if j = i then .ptr M.length 0 else if j = i + 1 then .ptr (M.length + 1) 0 else val j) H (sput (sput sf d1 (.ptr M.length 0)) d2 (.ptr (M.length + 1) 0)) rfl (by rw [hF.len]; omega) (by
                intro j x hj hx hf hg hd M1 hl
                by_cases hji : j = i
                · subst hji
                  rw [gf1] at hf
                  simp at hf
                by_cases hji2 : j = i + 1
                · subst hji2
                  rw [gf2] at hf
                  simp at hf
                have := hH j x (by omega) hx hf hg hd M1 hl
                show Det P x _ M1 (if j = i then _ else if j = i + 1 then _ else val j)
                rw [if_neg hji, if_neg hji2]
                exact this.move (hF.still j x hx hf).1 fun t _ => (hcutv j (by omega) t _).symm) (fun t => by
                rw [hde t _ rfl rfl, sget_sput, sget_sput, hsf t]) hfl
            rw [hF.len] at k2
            have hvl : ∀ m, m ≤ i → ∀ t (L : Nat → Bool), sget (aslots as' val' L s m) t = sget (aslots as' val L s m) t := fun m hm t L =>
              aslots_congr m rfl fun j hj _ => ⟨rfl, fun _ => by rw [k3 j (by omega), if_neg (by omega), if_neg (by omega)]⟩
            have hset1 : (listed.setIfInBounds (ix i) true).getD (ix (i + 1)) true = true := by rw [hset (i + 1) hp1 (by omega)]; exact hl1
            refine ih.1 (listed.setIfInBounds (ix i) true) a' w' Γ' p' val' H' sf' (M ++ [Blk.box z1] ++ [Blk.box z2]) (hcount _ (hF.lt i his) hu) (by simp [hls]) (hclose _ o ho hr) k2 (fun j hj hjs => ?_) (fun j hj hjl => ?_) k4 k5 ?_ ?_
            · rw [hset j hjs (by omega)]; exact hhi j (by omega) hjs (by omega)
            · by_cases hj0 : j < i
              · rw [hset j (by omega) (by omega)] at hjl
                obtain ⟨x, hx, hfx, _⟩ := hun j hj0 hjl
                rcases hbef2 j x (by omega) hx with hb | ⟨h1, _⟩ | ⟨g1, g2, g3, g4⟩
                · rw [hbeforeL _ (hF.lt _ hp1) hl1 _ hb] at hjl; cases hjl
                · omega
                · refine ⟨x, hx, hfx, ?_⟩
                  have := hH j x hj0 hx hfx g2 g3 _ (recheck_mem hrec j g1)
                  rw [k3 j (by omega), if_neg (by omega), if_neg (by omega)]
                  exact this.move (hF.still j x hx hfx).1 fun t _ => (hvl j (by omega) t _).symm
              by_cases hj1 : j = i
              · subst hj1
                rw [hself] at hjl; cases hjl
              by_cases hj2 : j = i + 1
              · subst hj2
                rw [hset1] at hjl; cases hjl
              exact k6 j (by omega) hj
            · rcases k7 with ⟨h1, h2⟩ | h
              · exact .inl ⟨h1.trans hF.len, h2⟩
              · exact .inr h
            · refine ⟨hst'.good, fun t => ?_, hst'.size, hst'.defers, hst'.ext⟩
              have e1 : aslots as' val' (fun j => (listed.setIfInBounds (ix i) true).getD (ix j) true) s p' = aslots as' val' (fun j => (listed.setIfInBounds (ix i) true).getD (ix j) true) s (i + 1 + 1) :=
                aslots_stop p' (by omega) fun j h1 h2 => by rw [hset j (by omega) (by omega)]; exact hhi j (by omega) (by omega) (by omega)
              have e2 : sget (aslots as' val' (fun j => (listed.setIfInBounds (ix i) true).getD (ix j) true) s (i + 1 + 1)) t = sget (aslots as' (fun j => if j = i then .ptr M.length 0 else if j = i + 1 then .ptr (M.length + 1) 0 else val j) (fun j => (listed.setIfInBounds (ix i) true).getD (ix j) true) s (i + 1 + 1)) t :=
                aslots_congr _ rfl fun j hj _ => ⟨rfl, fun _ => k3 j hj⟩
              have e3 : sget (aslots as' val (fun j => (listed.setIfInBounds (ix i) true).getD (ix j) true) s i) t = sget (aslots as' val (fun j => listed.getD (ix j) true) s i) t :=
                aslots_congr i rfl fun j hj _ => ⟨hset j (by omega) (by omega), fun _ => rfl⟩
              rw [e1, e2, hde t _ hself hset1, e3]
              have := hst'.slots t
              rw [sget_sput, sget_sput] at this
              by_cases h1 : t = d2
              · have h2 : ¬ t = d1 := fun e => hd12 (by rw [← e, h1])
                rw [if_pos h1]
                rw [if_neg h2, if_pos h1] at this
                exact this
              · rw [if_neg h1]
                by_cases h2 : t = d1
                · rw [if_pos h2]
                  rw [if_pos h2] at this
                  exact this
                · rw [if_neg h2]
                  rw [if_neg h2, if_neg h1] at this
                  exact this
  refine wp_region_any hmo ?_
  have hst1 : St w0 Γ0 n w.drew Γ s M a := hst0.later hst0.good.drew (Ext.drew w Γ)
  obtain ⟨p', val', H', sf', _, k2, _, k4, k5, k6, k7⟩ := float_split (P := P) (M := M) (K := K) (s0 := s) hlf hF.still as'.length 0 (fun _ => .undef) [] s (by omega) (Nat.zero_le _) (fun i o hi => absurd hi (Nat.not_lt_zero i)) (fun t => rfl) (by simpa using hwp0)
  rw [hF.len] at k2
  have hz : ∀ i, i < ops.size → (Array.replicate ops.size false).getD i true = false := fun i hi => by simp [hi]
  refine (main ops.size).1 _ a w.drew Γ p' val' H' sf' M ?_ (by simp) ?_ k2 (fun i _ hi => hz _ (hF.lt i hi)) (fun i hi _ => k6 i (Nat.zero_le _) hi) k4 k5 ?_ ?_
  · have := List.countP_le_length (p := fun i => !(Array.replicate ops.size false).getD i true) (l := List.range ops.size)
    simpa using this
  · intro k o ho hk
    rw [hz k (Array.getElem?_eq_some_iff.1 ho).1] at hk; cases hk
  · rcases k7 with ⟨h1, h2⟩ | h
    · exact .inl ⟨h1.trans hF.len, h2⟩
    · exact .inr h
  · refine ⟨hst1.good, fun t => ?_, hst1.size, hst1.defers, hst1.ext⟩
    have e : aslots as' val' (fun i => (Array.replicate ops.size false).getD (ix i) true) s p' = aslots as' val' (fun i => (Array.replicate ops.size false).getD (ix i) true) s 0 :=
      aslots_stop p' (Nat.zero_le _) fun j _ hj => hz _ (hF.lt j (by omega))
    rw [e]
    exact hst1.slots t

end
end Go.Vm

/- Code and functions. -/
namespace Go.Vm
open Go.RowKit (Below)

section
variable {P : Program} {w0 w : World} {Γ0 Γ : Env} {M : Mem} {s : Slots} {a : Act} {n : Nat}

def Lift (w0 : World) (Γ0 : Env) (n : Nat) (Q : Exit → Slots → Mem → Prop) : Exit → Act → World → Prop := fun e a w => ∃ Γ s M, St w0 Γ0 n w Γ s M a ∧ Q e s M

theorem Ext.len {w' : World} {Γ' : Env} (h : Ext w Γ w' Γ') : Γ.locs.length ≤ Γ'.locs.length := by
  rcases Nat.lt_or_ge Γ'.locs.length Γ.locs.length with hlt | hge
  · obtain ⟨l', h1, _⟩ := h.locs Γ'.locs.length (Γ.locs[Γ'.locs.length]) (by simp [hlt])
    simp at h1
  · exact hge

theorem zip_vals (s : Slots) : ∀ live : List Nat, zipS live (vals s live) = snorm s live
  | [] => rfl
  | t :: ts => by simp [zipS, vals, snorm, zip_vals s ts]

theorem St.pop (h : St w0 Γ0 n w Γ s M a) {len : Nat} (h0 : Γ0.locs.length ≤ len) {live : List Nat} (hp : popOK len (vals s live) M = true) : St w0 Γ0 n w (Γ.froze w len) (zipS live (vals s live)) (M.take len) a := by
  simp only [popOK, Bool.and_eq_true, decide_eq_true_eq] at hp
  obtain ⟨⟨hl, hu⟩, hm⟩ := hp
  refine ⟨h.good.pop hl hm, fun t => ?_, h.size, h.defers, Ext.pop h.good h.ext h0⟩
  rw [zip_vals]
  have : ∀ l : List Nat, underL len (vals s l) = true → Rep w (Γ.froze w len) (sget (snorm s l) t) (a.tmps.getD t Go.undef) := by
    intro l
    induction l with
    | nil => intro _; exact .undef _
    | cons u l ih =>
      intro hu
      simp only [vals, underL, Bool.and_eq_true] at hu
      simp only [snorm, sget]
      by_cases hut : u = t
      · subst hut; simpa using froze_move (h.slots u) hu.1
      · have : (u == t) = false := by simpa using hut
        simpa [this] using ih hu.2
  exact this live hu

theorem wp_scope_ghost {Q : Exit → Act → World → Prop} {c rest : Code} (l : Nat) (J : Nat → Act → World → Prop) (hf : findLabel c l = some rest)
    (first : c.wp P (Exit.jump l (fun a w => ∃ n, J n a w) Q) a w)
    (pass : ∀ n a w, J n a w → rest.wp P (Exit.jump l (fun a' w' => ∃ m, m < n ∧ J m a' w') Q) a w) : (Code.scope c).wp P Q a w := by
  refine wp_scope_jumps l (fun a w => ∃ n, J n a w) (fun a w => leastOf (fun n => J n a w)) hf first ?_
  intro a w hJ
  refine wp_mono (pass _ a w (leastOf_spec hJ).1) ?_
  intro e a' w' hq
  cases e with
  | goto l' =>
    obtain ⟨rfl, m, hlt, hJ'⟩ := hq
    exact ⟨rfl, ⟨m, hJ'⟩, Nat.lt_of_le_of_lt ((leastOf_spec ⟨m, hJ'⟩).2 m hJ') hlt⟩
  | normal => exact hq
  | exit id => exact hq
  | ret => exact hq
  | panic ch => exact hq
  | outgrown => exact hq

theorem wpC_sound {h : Hints} : ∀ (k : Nat) (c : Code) (ac : ACode), resC P n h k c = some ac → ∀ (Q : Exit → Slots → Mem → Prop) (s : Slots) (M : Mem) (a : Act) (w : World) (Γ : Env), St w0 Γ0 n w Γ s M a → wpC P ac Q s M → c.wp P (Lift w0 Γ0 n Q) a w := by
  intro k
  induction k with
  | zero => intro c ac hr; simp [resC] at hr
  | succ k ih =>
    intro c ac hr Q s M a w Γ hst hwp
    have hlen0 : Γ0.locs.length ≤ M.length := by rw [← hst.good.len]; exact hst.ext.len
    cases c <;> simp only [resC, reduceCtorEq] at hr
    case skip =>
      simp only [Option.some.injEq] at hr
      subst hr
      exact wp_skip ⟨Γ, s, M, hst, hwp⟩
    case region id ops draw =>
      split at hr
      · rename_i os hos
        split at hr
        · rename_i hdraw
          split at hr
          · rename_i hm
            split at hr
            · rename_i qs hqs0
              have hqs : mixB ops os = some qs := by
                cases e : inL (look h.muts id) 9999 with
                | true => rw [e] at hqs0; cases hqs0
                | false => rw [e] at hqs0; exact hqs0
              simp only [Option.some.injEq] at hr
              subst hr
              rw [show draw = true from hdraw]
              exact mix_region (w0 := w0) (Γ0 := Γ0) (n := n) (K := fun s' M' => Q .normal (snorm s' (look h.live id)) M') hm hos hqs hst hwp (fun s' M' a' w' Γ' hst' hK => ⟨Γ', _, M', hst'.norm _, hK⟩)
            · simp only [Option.map_eq_some_iff] at hr
              obtain ⟨x, hx, rfl⟩ := hr
              rw [show draw = true from hdraw]
              exact float_region (w0 := w0) (Γ0 := Γ0) (n := n) (K := fun s' M' => Q .normal (snorm s' (look h.live id)) M') hm hos hx hst hwp (fun s' M' a' w' Γ' hst' hK => ⟨Γ', _, M', hst'.norm _, hK⟩)
          · cases hr
        · rename_i hdraw
          simp only [Option.some.injEq] at hr
          subst hr
          have hd : draw = false := by simpa using hdraw
          subst hd
          refine wp_region ?_
          have e : List.range ops.size = List.range' 0 ops.toList.length := by simp [List.range_eq_range']
          rw [e]
          exact wpOps_sound (w0 := w0) (Γ0 := Γ0) (n := n) (mu := look h.muts id) (K := fun s' M' => Q .normal (snorm s' (look h.live id)) M') (fun s' M' a' w' Γ' hst' hK => ⟨Γ', _, M', hst'.norm _, hK⟩) ops.toList 0 os s M a w Γ (by simp) hos hst hwp
      · cases hr
    case seq x y =>
      obtain ⟨ax, ay, hx, hy, rfl⟩ := bind2_some hr
      refine wp_seq (wp_mono (ih x ax hx (seqK (wpC P ay) Q) s M a w Γ hst hwp) ?_)
      rintro e a' w' ⟨Γ', s', M', hst', hq⟩
      cases e with
      | normal => exact ih y ay hy Q s' M' a' w' Γ' hst' hq
      | exit id => exact ⟨Γ', s', M', hst', hq⟩
      | goto l => exact ⟨Γ', s', M', hst', hq⟩
      | ret => exact ⟨Γ', s', M', hst', hq⟩
      | panic ch => exact ⟨Γ', s', M', hst', hq⟩
      | outgrown => exact ⟨Γ', s', M', hst', hq⟩
    case cond c x y =>
      split at hr
      · rename_i c' ax ay hc hx hy
        simp only [Option.some.injEq] at hr
        subst hr
        simp only [wpC] at hwp
        have hcv := opd_rep hst.slots hc
        split at hwp
        · rename_i t ht
          have := rep_bool hcv ht
          refine wp_cond this ?_
          cases t with
          | true => exact ih x ax hx Q s M a w Γ hst hwp
          | false => exact ih y ay hy Q s M a w Γ hst hwp
        · exact hwp.elim
      · cases hr
    case block id x =>
      simp only [Option.map_eq_some_iff] at hr
      obtain ⟨ax, hx, rfl⟩ := hr
      refine wp_block (wp_mono (ih x ax hx (blockK id Q) s M a w Γ hst hwp) ?_)
      rintro e a' w' ⟨Γ', s', M', hst', hq⟩
      cases e with
      | exit id' =>
        simp only [Exit.inBlock, blockK] at hq ⊢
        by_cases hid : id' = id
        · subst hid
          simp only [beq_self_eq_true, cond_true] at hq
          rw [if_pos rfl]
          exact ⟨Γ', s', M', hst', hq⟩
        · have : (id' == id) = false := by simpa using hid
          simp only [this, cond_false] at hq
          rw [if_neg hid]
          exact ⟨Γ', s', M', hst', hq⟩
      | normal => exact ⟨Γ', s', M', hst', hq⟩
      | goto l => exact ⟨Γ', s', M', hst', hq⟩
      | ret => exact ⟨Γ', s', M', hst', hq⟩
      | panic ch => exact ⟨Γ', s', M', hst', hq⟩
      | outgrown => exact ⟨Γ', s', M', hst', hq⟩
    case loop x =>
      simp only [Option.map_eq_some_iff] at hr
      obtain ⟨ax, hx, rfl⟩ := hr
      obtain ⟨I, n0, h0, hround⟩ := hwp
      refine wp_loop_ghost (fun m a w => ∃ Γ vs M1, I m vs M1 ∧ St w0 Γ0 n w Γ (zipS (look h.loops (firstR x)) vs) M1 a) n0 ⟨Γ, _, M, h0, by rw [zip_vals]; exact hst.norm _⟩ ?_
      rintro m a w ⟨Γ1, vs, M1, hI, hst1⟩
      refine wp_mono (ih x ax hx _ _ M1 a w Γ1 hst1 (hround m vs M1 hI)) ?_
      rintro e a' w' ⟨Γ', s', M', hst', hq⟩
      cases e with
      | normal =>
        rcases hq with ⟨m', hlt, hI'⟩ | ⟨hpop, m', hlt, hI'⟩
        · exact ⟨m', hlt, Γ', _, M', hI', by rw [zip_vals]; exact hst'.norm _⟩
        · exact ⟨m', hlt, _, _, _, hI', hst'.pop hlen0 hpop⟩
      | exit id => exact ⟨Γ', s', M', hst', hq⟩
      | goto l => exact ⟨Γ', s', M', hst', hq⟩
      | ret => exact ⟨Γ', s', M', hst', hq⟩
      | panic ch => exact ⟨Γ', s', M', hst', hq⟩
      | outgrown => exact ⟨Γ', s', M', hst', hq⟩
    case scope x =>
      split at hr
      · rename_i l hl
        split at hr
        · rename_i rest hrest
          obtain ⟨ax, ay, hx, hy, rfl⟩ := bind2_some hr
          obtain ⟨J, hfirst, hpass⟩ := hwp
          refine wp_scope_ghost l (fun m a w => ∃ Γ vs M1, J m vs M1 ∧ St w0 Γ0 n w Γ (zipS (look h.loops (firstR rest)) vs) M1 a) hrest (wp_mono (ih x ax hx _ s M a w Γ hst hfirst) ?_) ?_
          · rintro e a' w' ⟨Γ', s', M', hst', hq⟩
            cases e with
            | goto l' =>
              obtain ⟨rfl, m, hJ⟩ := hq
              exact ⟨rfl, m, Γ', _, M', hJ, by rw [zip_vals]; exact hst'.norm _⟩
            | normal => exact ⟨Γ', s', M', hst', hq⟩
            | exit id => exact ⟨Γ', s', M', hst', hq⟩
            | ret => exact ⟨Γ', s', M', hst', hq⟩
            | panic ch => exact ⟨Γ', s', M', hst', hq⟩
            | outgrown => exact ⟨Γ', s', M', hst', hq⟩
          · rintro m a w ⟨Γ1, vs, M1, hJ, hst1⟩
            refine wp_mono (ih rest ay hy _ _ M1 a w Γ1 hst1 (hpass m vs M1 hJ)) ?_
            rintro e a' w' ⟨Γ', s', M', hst', hq⟩
            cases e with
            | goto l' =>
              obtain ⟨rfl, m', hlt, hJ'⟩ := hq
              exact ⟨rfl, m', hlt, Γ', _, M', hJ', by rw [zip_vals]; exact hst'.norm _⟩
            | normal => exact ⟨Γ', s', M', hst', hq⟩
            | exit id => exact ⟨Γ', s', M', hst', hq⟩
            | ret => exact ⟨Γ', s', M', hst', hq⟩
            | panic ch => exact ⟨Γ', s', M', hst', hq⟩
            | outgrown => exact ⟨Γ', s', M', hst', hq⟩
        · cases hr
      · cases hr
    case exit id =>
      simp only [Option.some.injEq] at hr
      subst hr
      exact wp_exit ⟨Γ, s, M, hst, hwp⟩
    case label l =>
      simp only [Option.some.injEq] at hr
      subst hr
      exact wp_label ⟨Γ, s, M, hst, hwp⟩
    case goto l =>
      simp only [Option.some.injEq] at hr
      subst hr
      exact wp_goto ⟨Γ, s, M, hst, hwp⟩
    case ret =>
      simp only [Option.some.injEq] at hr
      subst hr
      exact wp_ret ⟨Γ, s, M, hst, hwp⟩

/-! ### Functions -/
/-- One result, read off a frame. -/
def resR (tmps : Array Value) (r : ResultVar) : Sem Value :=
  match r with
  | .tmp t => pure (tmps.getD t Go.undef)
  | .cell c t => asAddr (tmps.getD c Go.undef) >>= loadVar t

theorem resV_run {r : ResultVar} {ar : ARes} {rs : List ResultVar} {ars : List ARes} (h : resRes P n (r :: rs) = some (ar :: ars)) (hst : St w0 Γ0 n w Γ s M a) {v : V} (hv : resV s M ar = some v) :
    ∃ cv, Rep w Γ v cv ∧ (resR a.tmps r).run P w = .ok cv w := by
  cases r with
  | tmp t =>
    simp only [resRes, Option.map_eq_some_iff, List.cons.injEq] at h
    obtain ⟨_, _, rfl, rfl⟩ := h
    simp only [resV, Option.some.injEq] at hv
    subst hv
    exact ⟨_, hst.slots t, rfl⟩
  | cell c t =>
    simp only [resRes] at h
    split at h
    · rename_i m ag as hm ha has
      simp only [Option.some.injEq, List.cons.injEq] at h
      obtain ⟨rfl, rfl⟩ := h
      simp only [resV] at hv
      obtain ⟨b, off, o', cells, hc, hrow, hl⟩ := loadV_row hst.good (hst.slots c) hv
      have hlc := loadC_ok hrow hl
      cases ag with
      | true =>
        obtain ⟨xs, cv, rfl, hlen, hcell, hr⟩ := hlc
        refine ⟨.agg ((List.range m).map cv).toArray, .agg xs _ (by simp [hlen]) (fun j x hx => ?_), ?_⟩
        · have hj : j < m := by rw [← hlen]; exact (List.getElem?_eq_some_iff.1 hx).1
          have := hr j x hx
          simpa [Array.getD_eq_getD_getElem?, hj] using this
        · have hrun := run_loadCells (P := P) w ⟨b, off + o', none⟩ m cv (fun j hj => by rw [Addr.add_none]; exact hcell j hj)
          simp [resR, hc, asAddr, loadVar, isAgg_run ha, sizeOf_run hm, hrun]
      | false =>
        obtain ⟨cv, hcell, hr⟩ := hlc
        exact ⟨cv, hr, by simp [resR, hc, asAddr, loadVar, isAgg_run ha, hcell]⟩
    · cases h

theorem resVs_run (hst : St w0 Γ0 n w Γ s M a) : ∀ (rs : List ResultVar) (ars : List ARes) (vs : List V), resRes P n rs = some ars → resVs s M ars = some vs →
    ∃ cvs : List Value, RepL w Γ vs cvs.toArray ∧ (rs.mapM (resR a.tmps)).run P w = .ok cvs w
  | [], ars, vs, h, hv => by
    simp only [resRes, Option.some.injEq] at h
    subst h
    simp only [resVs, Option.some.injEq] at hv
    subst hv
    exact ⟨[], ⟨rfl, fun j x hx => by simp at hx⟩, by simp⟩
  | r :: rs, ars, vs, h, hv => by
    have hcons : ∃ ar ars', ars = ar :: ars' ∧ resRes P n rs = some ars' := by
      cases r with
      | tmp t =>
        simp only [resRes, Option.map_eq_some_iff] at h
        obtain ⟨as, h1, rfl⟩ := h
        exact ⟨_, _, rfl, h1⟩
      | cell c t =>
        simp only [resRes] at h
        split at h
        · rename_i h1 h2 h3
          simp only [Option.some.injEq] at h
          exact ⟨_, _, h.symm, h3⟩
        · cases h
    obtain ⟨ar, ars', rfl, hrs⟩ := hcons
    simp only [resVs] at hv
    split at hv
    · rename_i v vs' hv1 hv2
      simp only [Option.some.injEq] at hv
      subst hv
      obtain ⟨cv, h1, h2⟩ := resV_run h hst hv1
      obtain ⟨cvs, h3, h4⟩ := resVs_run hst rs ars' vs' hrs hv2
      refine ⟨cv :: cvs, ⟨by simp [h3.1.symm], fun j x hx => ?_⟩, ?_⟩
      · cases j with
        | zero => simp at hx; subst hx; simpa using h1
        | succ j =>
          have := h3.2 j x (by simpa using hx)
          simpa [Array.getD_eq_getD_getElem?] using this
      · rw [List.mapM_cons]
        simp only [Sem.run_bind, h2, Result.andThen_ok, h4, Sem.run_pure]
    · cases hv

theorem results_run (hst : St w0 Γ0 n w Γ s M a) {fn : Func} {ars : List ARes} (h : resRes P n fn.results.toList = some ars) {v : V} (hv : resAll s M ars = some v) : ∃ cv, Rep w Γ v cv ∧ (results fn a.tmps).run P w = .ok cv w := by
  have key : ∃ vs, resVs s M ars = some vs ∧ ((∃ x, vs = [x] ∧ v = x) ∨ ((∀ x, vs ≠ [x]) ∧ v = .tuple vs)) := by
    unfold resAll at hv
    split at hv
    · rename_i x hx
      simp only [Option.some.injEq] at hv
      exact ⟨_, hx, .inl ⟨x, rfl, hv.symm⟩⟩
    · rename_i vs hne hx
      simp only [Option.some.injEq] at hv
      exact ⟨vs, hx, .inr ⟨fun x e => hne x e, hv.symm⟩⟩
    · cases hv
  obtain ⟨vs, hvs, hcase⟩ := key
  obtain ⟨cvs, h1, h2⟩ := resVs_run hst _ _ _ h hvs
  have hm : (fn.results.mapM (resR a.tmps)).run P w = .ok cvs.toArray w := by
    rw [Array.mapM_eq_mapM_toList]
    simp [h2]
  have hl : cvs.length = vs.length := by simpa using h1.1
  have hres : results fn a.tmps = (do
      let vs ← fn.results.mapM (resR a.tmps)
      pure (if h : vs.size = 1 then vs[0] else .tuple vs)) := by
    unfold results
    congr 2
  rw [hres]
  rcases hcase with ⟨x, rfl, rfl⟩ | ⟨hne, rfl⟩
  · obtain ⟨c, rfl⟩ := List.length_eq_one_iff.1 (show cvs.length = 1 from hl)
    refine ⟨c, by simpa using h1.2 0 _ rfl, ?_⟩
    rw [Sem.run_bind, hm]
    simp
  · refine ⟨.tuple cvs.toArray, .tuple _ _ h1.1 h1.2, ?_⟩
    rw [Sem.run_bind, hm]
    have : ¬ (cvs.toArray.size = 1) := by
      intro hs
      simp only [List.size_toArray] at hs
      rw [hl] at hs
      obtain ⟨x, rfl⟩ := List.length_eq_one_iff.1 hs
      exact hne x rfl
    simp only [Result.andThen_ok, Sem.run_pure, this, dite_false]

theorem sinit_get : ∀ (args : List V) (i t : Nat), sget (sinit args i) t = if i ≤ t then (args[t - i]?).getD .undef else .undef
  | [], i, t => by simp [sinit, sget]
  | x :: xs, i, t => by
    simp only [sinit, sget]
    by_cases h : i = t
    · subst h; simp
    · have : (i == t) = false := by simpa using h
      rw [this, cond_false, sinit_get xs (i + 1) t]
      by_cases h2 : i ≤ t
      · rw [if_pos (by omega), if_pos h2, show t - i = (t - (i + 1)) + 1 by omega]
        simp
      · rw [if_neg (by omega), if_neg h2]

theorem goFn_of {f : Nat} {h : Hints} {fn : AFn} (hf : resFn P h f = some fn) : goFn P f = true ∧ ∃ F c, P.funcs[f]? = some F ∧ F.body = some c ∧ resC P F.ntmps h 200 c = some fn.body ∧ resRes P F.ntmps F.results.toList = some fn.results := by
  unfold resFn at hf
  split at hf
  · rename_i F hF
    split at hf
    · rename_i c hc
      cases hn : (F.name != "runtime.NumGoroutine") with
      | false => simp [hn] at hf
      | true =>
        simp only [hn, cond_true] at hf
        split at hf
        · rename_i b rs hb hrs
          simp only [Option.some.injEq] at hf
          subst hf
          exact ⟨by simp [goFn, hF, hc, hn], F, c, hF, hc, hb, hrs⟩
        · cases hf
    · cases hf
  · cases hf

theorem enter_st {F : Func} {args : List V} {cargs : Array Value} (hg : Good w Γ M) (ha : RepL w Γ args cargs) (hle : args.length ≤ F.ntmps) : St w Γ F.ntmps w Γ (sinit args 0) M { tmps := cargs ++ Array.replicate (F.ntmps - cargs.size) Go.undef, defers := [] } := by
  refine ⟨hg, fun t => ?_, by simp [ha.1]; omega, rfl, Ext.refl _ _⟩
  rw [sinit_get, if_pos (Nat.zero_le _), Nat.sub_zero]
  by_cases ht : t < args.length
  · rw [List.getElem?_eq_getElem ht]
    have := ha.2 t _ (List.getElem?_eq_getElem ht)
    have ht' : t < cargs.size := by rw [ha.1]; exact ht
    simpa [Array.getD_eq_getD_getElem?, Array.getElem?_append, ht'] using this
  · rw [List.getElem?_eq_none (by omega)]
    exact .undef _

theorem acalls_of {f : Nat} {h : Hints} {fn : AFn} (hf : resFn P h f = some fn) {args : List V} (hle : args.length ≤ fn.ntmps) {R : V → Mem → Prop} {R' : Option V → Mem → Prop} (hwp : wpC P fn.body (endK fn.results R') (sinit args 0) M)
    (hend : ∀ (F : Func) (w0 : World) (Γ0 : Env) (s : Slots) (M' : Mem) (a : Act) (w : World) (Γ : Env), Γ0.locs.length = M.length → resRes P F.ntmps F.results.toList = some fn.results → St w0 Γ0 F.ntmps w Γ s M' a → R' (resAll s M' fn.results) M' →
      ∃ v cv Γ' M'', (results F a.tmps).run P w = .ok cv w ∧ R v M'' ∧ Rep w Γ' v cv ∧ Good w Γ' M'' ∧ Ext w0 Γ0 w Γ') : ACalls P f args M R := by
  obtain ⟨hgo, F, c, hF, hc, hbody, hres⟩ := goFn_of hf
  have hnt : fn.ntmps = F.ntmps := by
    unfold resFn at hf
    simp only [hF, hc] at hf
    cases hn : (F.name != "runtime.NumGoroutine") with
    | true =>
      simp only [hn, cond_true] at hf
      split at hf
      · simp only [Option.some.injEq] at hf; rw [← hf]
      · cases hf
    | false => simp [hn] at hf
  refine ⟨hgo, fun w Γ cargs hg ha => calls_of_wp hF hc (wp_mono (wpC_sound 200 c fn.body hbody _ _ M _ w Γ (enter_st hg ha (by rw [← hnt]; exact hle)) hwp) ?_)⟩
  rintro e a' w' ⟨Γ', s', M', hst, hq⟩
  have fin : R' (resAll s' M' fn.results) M' → a'.defers = [] ∧ ∃ v, (results F a'.tmps).run P w' = .ok v w' ∧ ∃ v' cv Γ'' M'', Ending.returned v = .returned cv ∧ R v' M'' ∧ Rep w' Γ'' v' cv ∧ Good w' Γ'' M'' ∧ Ext w Γ w' Γ'' := fun hr => by
    obtain ⟨v, cv, Γ'', M'', h1, h2, h3, h4, h5⟩ := hend F w Γ s' M' a' w' Γ' hg.len hres hst hr
    exact ⟨hst.defers, cv, h1, v, cv, Γ'', M'', rfl, h2, h3, h4, h5⟩
  cases e with
  | normal => exact fin hq
  | ret => exact fin hq
  | exit id => exact hq.elim
  | goto l => exact hq.elim
  | panic ch => exact hq.elim
  | outgrown => exact hq.elim

/-- The rule of a function whose blocks stay. -/
theorem acalls_keep {f : Nat} {h : Hints} {fn : AFn} (hf : resFn P h f = some fn) {args : List V} (hle : args.length ≤ fn.ntmps) {R : V → Mem → Prop} (hwp : wpKeep P fn args M R) : ACalls P f args M R := by
  refine acalls_of hf hle hwp ?_
  intro F w0 Γ0 s M' a w Γ hl hres hst hr
  unfold keepPost at hr
  split at hr
  · rename_i v hv
    obtain ⟨cv, h1, h2⟩ := results_run hst hres hv
    exact ⟨v, cv, Γ, M', h2, hr, h1, hst.good, hst.ext⟩
  · exact hr.elim

/-- The rule of a function whose blocks are dropped at its end. -/
theorem acalls_pop {f : Nat} {h : Hints} {fn : AFn} (hf : resFn P h f = some fn) {args : List V} (hle : args.length ≤ fn.ntmps) {R : V → Mem → Prop} (hwp : wpPop P fn args M R) : ACalls P f args M R := by
  refine acalls_of hf hle hwp ?_
  intro F w0 Γ0 s M' a w Γ hl hres hst hr
  unfold popPost at hr
  split at hr
  · rename_i v hv
    unfold OptV at hr
    split at hr
    · rename_i v' hfz
      obtain ⟨hc, hR⟩ := hr
      simp only [Bool.and_eq_true, decide_eq_true_eq] at hc
      obtain ⟨cv, h1, h2⟩ := results_run hst hres hv
      exact ⟨v', cv, Γ.froze w M.length, _, h2, hR, freeze_rep hst.good 20 h1 hfz, hst.good.pop hc.1.2 hc.2, Ext.pop hst.good hst.ext (by omega)⟩
    · exact hr.elim
  · exact hr.elim

end
end Go.Vm

/- What a call's arguments read as, as abstract values; a law that returns true on all of them. -/
namespace Go.Vm
open Go.RowKit (Below)
open Go.ChangeShapes Go.WideShapes

/-- The types of cells. -/
inductive CT where
  | bool
  | int (k : IntKind)
  | str
  | slice (row : List CT)
  deriving Inhabited

/-- A cell of a type, as it can come in. -/
inductive HasC : CT → V → Prop
  | bool (b : Bool) : HasC .bool (.bool b)
  | int (k : IntKind) (n : Int) (h : (Lit.int k n).wf = true) : HasC (.int k) (.int k n)
  | str (s : List UInt8) (h : s.length ≤ maxLen) : HasC .str (.str s)
  | slice (row : List CT) (rows : List (List V)) (c : Cap) (hc : c = .nil ∧ rows = [] ∨ c = .any) (hl : rows.length ≤ maxLen)
      (hz : ∀ (i : Nat) (r : List V), rows[i]? = some r → r.length = row.length)
      (h : ∀ (i : Nat) (r : List V) (j : Nat) (x : V) (ct : CT), rows[i]? = some r → r[j]? = some x → row[j]? = some ct → HasC ct x) :
      HasC (.slice row) (.slice rows c)

theorem HasC.pure {ct : CT} {v : V} (h : HasC ct v) : v.isPure = true := by cases h <;> rfl

def HasR (row : List CT) (vs : List V) : Prop := vs.length = row.length ∧ ∀ (j : Nat) (x : V) (ct : CT), vs[j]? = some x → row[j]? = some ct → HasC ct x

def flatF (P : Program) (go : TypeId → Option (List CT)) : List Field → Nat → Option (List CT)
  | [], _ => some []
  | f :: fs, off =>
    match go f.type with
    | some r =>
      bif f.offset == off && r.length == P.cellsOf f.type then
        match flatF P go fs (off + r.length) with
        | some q => some (r ++ q)
        | none => none
      else none
    | none => none

/-- The cells of a type. -/
def flatT (P : Program) : Nat → TypeId → Option (List CT)
  | 0, _ => none
  | n + 1, t =>
    match P.underlying t with
    | some .bool => some [.bool]
    | some (.int k) => some [.int k]
    | some .string => some [.str]
    | some (.slice e) =>
      match flatT P n e with
      | some r => bif r.length == P.cellsOf e && !r.isEmpty then some [.slice r] else none
      | none => none
    | some (.struct fs) =>
      match flatF P (flatT P n) fs.toList 0 with
      | some r => bif r.length == P.cellsOf t then some r else none
      | none => none
    | _ => none

def CellIs (w : World) (Γ : Env) (ct : CT) (c : Value) : Prop := ∃ v, HasC ct v ∧ Rep w Γ v c

def RowIs (w : World) (Γ : Env) (cts : List CT) (cs : List Value) : Prop :=
  cs.length = cts.length ∧ ∀ (j : Nat) (ct : CT) (c : Value), cts[j]? = some ct → cs[j]? = some c → CellIs w Γ ct c

theorem RowIs.pick {w : World} {Γ : Env} {cts : List CT} {cs : List Value} (h : RowIs w Γ cts cs) : ∃ vs, HasR cts vs ∧ RepL w Γ vs cs.toArray := by
  obtain ⟨hl, h⟩ := h
  induction cts generalizing cs with
  | nil =>
    have : cs = [] := List.length_eq_zero_iff.1 hl
    subst this
    exact ⟨[], ⟨rfl, fun j x ct h => by simp at h⟩, rfl, fun j x h => by simp at h⟩
  | cons ct cts ih =>
    cases cs with
    | nil => simp at hl
    | cons c cs =>
      obtain ⟨vs, ⟨l1, h1⟩, l2, h2⟩ := ih (cs := cs) (by simpa using hl) (fun j ct c h3 h4 => h (j + 1) ct c (by simpa using h3) (by simpa using h4))
      obtain ⟨v, hv, hr⟩ := h 0 ct c rfl rfl
      refine ⟨v :: vs, ⟨by simp [l1], fun j x ct' hx hct => ?_⟩, by simpa using l2, fun j x hx => ?_⟩
      · cases j with
        | zero => simp at hx hct; subst hx; subst hct; exact hv
        | succ j => exact h1 j x ct' (by simpa using hx) (by simpa using hct)
      · cases j with
        | zero => simp at hx; subst hx; simpa [Array.getD_eq_getD_getElem?] using hr
        | succ j =>
          have := h2 j x (by simpa using hx)
          simpa [Array.getD_eq_getD_getElem?] using this

theorem RowIs.append {w : World} {Γ : Env} {c1 c2 : List CT} {s1 s2 : List Value} (h1 : RowIs w Γ c1 s1) (h2 : RowIs w Γ c2 s2) : RowIs w Γ (c1 ++ c2) (s1 ++ s2) := by
  refine ⟨by simp [h1.1, h2.1], fun j ct c a b => ?_⟩
  by_cases hj : j < c1.length
  · rw [List.getElem?_append_left hj] at a
    rw [List.getElem?_append_left (by rw [h1.1]; exact hj)] at b
    exact h1.2 j ct c a b
  · rw [List.getElem?_append_right (by omega)] at a
    rw [List.getElem?_append_right (by rw [h1.1]; omega), h1.1] at b
    exact h2.2 _ ct c a b

section
variable {H : Type} {enc : TypeId × Value → H} {P : Program} {w : World} {Γ : Env}

theorem flatF_row {go : TypeId → Option (List CT)} {cs : List Value}
    : ∀ (fs : List Field) (off : Nat) (cts : List CT), flatF P go fs off = some cts → off + cts.length ≤ cs.length →
      (∀ (i : Nat) (f : Field) (r : List CT), fs[i]? = some f → go f.type = some r → r.length = P.cellsOf f.type → (cs.drop f.offset).take (P.cellsOf f.type) = (cs.drop f.offset).take r.length → RowIs w Γ r ((cs.drop f.offset).take r.length)) →
      RowIs w Γ cts ((cs.drop off).take cts.length)
  | [], off, cts, h, _, _ => by
    simp only [flatF, Option.some.injEq] at h
    subst h
    exact ⟨by simp, fun j ct c h => by simp at h⟩
  | f :: fs, off, cts, h, hle, hf => by
    unfold flatF at h
    split at h
    · rename_i r hr
      cases hd : (f.offset == off && r.length == P.cellsOf f.type) with
      | false => simp [hd] at h
      | true =>
        simp only [hd, cond_true] at h
        simp only [Bool.and_eq_true, beq_iff_eq] at hd
        obtain ⟨rfl, hd⟩ := hd
        split at h
        · rename_i q hq
          simp only [Option.some.injEq] at h
          subst h
          have h1 := hf 0 f r rfl hr hd (by rw [hd])
          have h2 := flatF_row fs (f.offset + r.length) q hq (by simp at hle; omega) (fun i f' r' a b c d => hf (i + 1) f' r' (by simpa using a) b c d)
          have := h1.append h2
          have e : (cs.drop f.offset).take r.length ++ (cs.drop (f.offset + r.length)).take q.length = (cs.drop f.offset).take (r ++ q).length := by
            rw [List.length_append, List.take_add, List.drop_drop]
          rw [e] at this
          exact this
        · cases h
    · cases h

theorem trod_flat (hS : ∀ b o v, w.cell? ⟨b, o, none⟩ = some v → Γ.S b o) : ∀ (n : Nat) (t : TypeId) (cts : List CT) (fuel : Nat) (cs : List Value) (x : DataW H × List MemPlace),
    flatT P n t = some cts → DataW.trod enc P w 0 (fun _ => true) true fuel t cs = some x → RowIs w Γ cts cs
  | 0, t, cts, fuel, cs, x, h, _ => by simp [flatT] at h
  | n + 1, t, cts, fuel, cs, x, h, hx => by
    have one : ∀ {ct : CT} {c : Value}, CellIs w Γ ct c → RowIs w Γ [ct] [c] := fun hc => ⟨rfl, fun j ct' c' a b => by
      cases j with
      | zero => simp at a b; subst a; subst b; exact hc
      | succ j => simp at a⟩
    unfold flatT at h
    split at h
    · rename_i hu
      simp only [Option.some.injEq] at h; subst h
      obtain ⟨b, rfl, _⟩ := DataW.trod_bool hu hx
      exact one ⟨_, .bool b, .bool b⟩
    · rename_i k hu
      simp only [Option.some.injEq] at h; subst h
      obtain ⟨q, rfl, _, hw⟩ := DataW.trod_int hu hx
      exact one ⟨_, .int k q hw, .int k q⟩
    · rename_i hu
      simp only [Option.some.injEq] at h; subst h
      obtain ⟨s, rfl, _, hl⟩ := DataW.trod_string hu hx
      refine one ⟨.str s.data.toList, .str _ (by rw [Array.length_toList]; exact hl), ?_⟩
      have := Rep.str (w := w) (Γ := Γ) s.data.toList
      rw [Array.toArray_toList] at this
      exact this
    · rename_i e hu
      split at h
      · rename_i row hrow
        cases hd : (row.length == P.cellsOf e && !row.isEmpty) with
        | false => simp [hd] at h
        | true =>
          simp only [hd, cond_true, Option.some.injEq] at h
          subst h
          simp only [Bool.and_eq_true, beq_iff_eq, Bool.not_eq_true', List.isEmpty_eq_false_iff] at hd
          obtain ⟨hz, hne⟩ := hd
          have hpos : 0 < row.length := List.length_pos_iff.2 hne
          rcases DataW.trod_slice hu hx with ⟨rfl, _⟩ | ⟨a, len, cap, elems, rest, m, _, rfl, _, _, hle, hmax, hlen, hel, hsp, _⟩
          · exact one ⟨.slice [] .nil, .slice row [] .nil (.inl ⟨rfl, rfl⟩) (Nat.zero_le _) (fun i r h => by simp at h) (fun i r j x ct h => by simp at h), .sliceNil _ (.inl rfl)⟩
          · by_cases hc0 : cap = 0
            · subst hc0
              have hl0 : len = 0 := by omega
              subst hl0
              exact one ⟨.slice [] .any, .slice row [] .any (.inr rfl) (Nat.zero_le _) (fun i r h => by simp at h) (fun i r j x ct h => by simp at h), .sliceE _ (by simp) _⟩
            · have hel' : ∀ i, i < len → ∃ ds y, w.cells? 0 (a.add (i * P.cellsOf e)) (P.cellsOf e) = some ds ∧ DataW.trod enc P w 0 (fun _ => true) true m e ds = some y := fun i hi => by
                have := hel i hi
                rw [List.getElem?_eq_getElem (by omega)] at this
                obtain ⟨ds, h1, h2⟩ := Option.bind_eq_some_iff.1 this
                exact ⟨ds, _, h1, h2⟩
              have hspot : a.spot = none := by
                have : ∃ ds, w.cells? 0 a (P.cellsOf e) = some ds := by
                  have e0 : a.add (0 * P.cellsOf e) = a := by rw [Nat.zero_mul, Addr.add, if_pos rfl]
                  by_cases hl0 : 0 < len
                  · obtain ⟨ds, _, h1, _⟩ := hel' 0 hl0
                    exact ⟨ds, by rw [← h1, e0]⟩
                  · obtain ⟨h1, h2⟩ := hsp rfl
                    have := h2 0 (by omega)
                    rw [List.getElem?_eq_getElem (by omega)] at this
                    obtain ⟨ds, h3, _⟩ := Option.bind_eq_some_iff.1 this
                    have hl0 : len = 0 := by omega
                    subst hl0
                    exact ⟨ds, by rw [← h3, Nat.add_zero, e0]⟩
                obtain ⟨ds, h1⟩ := this
                obtain ⟨_, hl, hc⟩ := World.cells?_some h1
                have := hc 0 (by omega)
                rw [List.getElem?_eq_getElem (by omega), Addr.add, if_pos rfl] at this
                exact World.cell?_spot this
              obtain ⟨b, off, spot⟩ := a
              simp only at hspot
              subst hspot
              have hcell : ∀ i j, ∃ v, i < len → j < row.length → ∃ c, w.cell? ⟨b, off + (i * row.length + j), none⟩ = some c ∧ (∀ ct, row[j]? = some ct → HasC ct v) ∧ Rep w Γ v c := fun i j => by
                by_cases hi : i < len
                · by_cases hj : j < row.length
                  · obtain ⟨ds, y, h1, h2⟩ := hel' i hi
                    obtain ⟨_, hl, hc⟩ := World.cells?_some h1
                    have hr := trod_flat hS n e row m ds y hrow h2
                    have hj2 : j < ds.length := by rw [hr.1]; exact hj
                    obtain ⟨v, hv, hrep⟩ := hr.2 j row[j] ds[j] (List.getElem?_eq_getElem hj) (List.getElem?_eq_getElem hj2)
                    refine ⟨v, fun _ _ => ⟨ds[j], ?_, fun ct hct => ?_, hrep⟩⟩
                    · have := hc j (by omega)
                      rw [List.getElem?_eq_getElem hj2] at this
                      rw [← this, ← hz, Addr.add_none, Addr.add_none, Nat.add_assoc]
                    · rw [List.getElem?_eq_getElem hj] at hct
                      simp only [Option.some.injEq] at hct
                      rw [← hct]; exact hv
                  · exact ⟨.undef, fun _ h => absurd h hj⟩
                · exact ⟨.undef, fun h => absurd h hi⟩
              obtain ⟨f, hf⟩ := Classical.axiomOfChoice (fun (ij : Nat × Nat) => hcell ij.1 ij.2)
              let rows := (List.range len).map fun i => (List.range row.length).map fun j => f (i, j)
              have hrows : rows.length = len := by simp [rows]
              have hget : ∀ (i : Nat) (r : List V), rows[i]? = some r → i < len ∧ r = (List.range row.length).map fun j => f (i, j) := fun i r hr => by
                have hi : i < len := by rw [← hrows]; exact (List.getElem?_eq_some_iff.1 hr).1
                simp only [rows, List.getElem?_map, List.getElem?_range hi, Option.map_some, Option.some.injEq] at hr
                exact ⟨hi, hr.symm⟩
              have hget2 : ∀ (i : Nat) (r : List V) (j : Nat) (x : V), rows[i]? = some r → r[j]? = some x → i < len ∧ j < row.length ∧ x = f (i, j) := fun i r j x hr hx => by
                obtain ⟨hi, rfl⟩ := hget i r hr
                have hj : j < row.length := by simpa using (List.getElem?_eq_some_iff.1 hx).1
                simp only [List.getElem?_map, List.getElem?_range hj, Option.map_some, Option.some.injEq] at hx
                exact ⟨hi, hj, hx.symm⟩
              have hhas : ∀ (i : Nat) (r : List V) (j : Nat) (x : V) (ct : CT), rows[i]? = some r → r[j]? = some x → row[j]? = some ct → HasC ct x := fun i r j x ct hr hx hct => by
                obtain ⟨hi, hj, rfl⟩ := hget2 i r j x hr hx
                obtain ⟨c, h1, h2, h3⟩ := hf (i, j) hi hj
                exact h2 ct hct
              refine one ⟨.slice rows .any, .slice row rows .any (.inr rfl) (by omega) (fun i r hr => ?_) hhas, ?_⟩
              · obtain ⟨_, rfl⟩ := hget i r hr
                simp
              · have := Rep.slice (w := w) (Γ := Γ) rows .any b off row.length cap (fun i j => (w.cell? ⟨b, off + (i * row.length + j), none⟩).getD Go.undef) (by simp) (by simp) (by omega)
                  (fun i r hr => by obtain ⟨_, rfl⟩ := hget i r hr; simp)
                  (fun i j hi hj => by
                    obtain ⟨c, h1, _⟩ := hf (i, j) (by omega) hj
                    exact hS _ _ _ h1)
                  (fun i j hi hj => by
                    obtain ⟨c, h1, _⟩ := hf (i, j) (by omega) hj
                    simp only at h1
                    rw [h1]; rfl)
                  (fun i r j x hr hx => by
                    obtain ⟨hi, hj, rfl⟩ := hget2 i r j x hr hx
                    exact (hhas i r j _ row[j] hr hx (List.getElem?_eq_getElem hj)).pure)
                  (fun i r j x hr hx => by
                    obtain ⟨hi, hj, rfl⟩ := hget2 i r j x hr hx
                    obtain ⟨c, h1, _, h3⟩ := hf (i, j) hi hj
                    simp only at h1
                    rw [h1]; exact h3)
                rw [hrows] at this
                exact this
      · cases h
    · rename_i fs hu
      split at h
      · rename_i r hr
        obtain ⟨hd, rfl⟩ := cond_some h
        have hd : r.length = P.cellsOf t := by simpa using hd
        obtain ⟨xs, m, _, _, hl, hxs, hget⟩ := DataW.trod_struct hu hx
        have := flatF_row (w := w) (Γ := Γ) (cs := cs) fs.toList 0 r hr (by omega) (fun i f rr hf hg hlen _ => by
          have hf' : fs[i]? = some f := by simpa using hf
          have hi : i < fs.size := (Array.getElem?_eq_some_iff.1 hf').1
          have h1 := hget i f hf'
          rw [List.getElem?_eq_getElem (by omega)] at h1
          rw [← hlen] at h1
          exact trod_flat hS n f.type rr m _ _ hg h1)
        rw [List.drop_zero, List.take_of_length_le (by omega)] at this
        exact this
      · cases h
    · cases h

end
end Go.Vm

/- A law that returns true on all that its arguments can read as: its row's step. -/
namespace Go.Vm
open Go.RowKit (Below)
open Go.ChangeShapes Go.WideShapes

inductive PT where
  | cell (ct : CT)
  | agg (row : List CT)

def HasP : PT → V → Prop
  | .cell ct, v => HasC ct v
  | .agg row, v => ∃ vs, v = .agg vs ∧ HasR row vs

def HasAll : List PT → List V → Prop
  | [], xs => xs = []
  | p :: ps, xs => ∃ x ys, xs = x :: ys ∧ HasP p x ∧ HasAll ps ys

def paramT (P : Program) (t : TypeId) : Option PT :=
  match P.underlying t with
  | some (.struct _) => (flatT P 12 t).map .agg
  | _ =>
    match flatT P 12 t with
    | some [ct] => some (.cell ct)
    | _ => none

def paramsT (P : Program) : List TypeId → Option (List PT)
  | [] => some []
  | t :: ts =>
    match paramT P t, paramsT P ts with
    | some p, some ps => some (p :: ps)
    | _, _ => none

section
variable {H : Type} {enc : TypeId × Value → H} {P : Program} {w : World} {Γ : Env}

theorem flat_one {n : Nat} {t : TypeId} {ct : CT} (h : flatT P n t = some [ct]) (hns : ∀ fs, P.underlying t ≠ some (.struct fs)) {r : Reach} {b0 : Nat} {v : Value} (hv : Value.okWide P w r b0 t v) : v.cells = #[v] := by
  cases n with
  | zero => simp [flatT] at h
  | succ n =>
    unfold flatT at h
    split at h
    · rename_i hu
      obtain ⟨b, rfl⟩ := okWide_bool hu hv
      rfl
    · rename_i k hu
      obtain ⟨b, rfl⟩ := okWide_int hu hv
      rfl
    · rename_i hu
      obtain ⟨b, rfl⟩ := okWide_string hu hv
      rfl
    · rename_i e hu
      obtain ⟨a, b, c, rfl⟩ := okWide_slice hu hv
      rfl
    · rename_i fs hu
      exact absurd hu (hns fs)
    · cases h

theorem arg_read (hS : ∀ b o v, w.cell? ⟨b, o, none⟩ = some v → Γ.S b o) {r : Reach} {b0 : Nat} {t : TypeId} {v : Value} {d : DataW H} {p : List MemPlace} {pt : PT} (hpt : paramT P t = some pt)
    (hv : Value.okWide P w r b0 t v) (h : DataW.Trod enc P w 0 (fun _ => true) true t v d p) : ∃ x, HasP pt x ∧ Rep w Γ x v := by
  obtain ⟨fuel, hf⟩ := h
  unfold paramT at hpt
  split at hpt
  · rename_i fs hu
    obtain ⟨cs, rfl, hl⟩ := okWide_struct hu hv
    obtain ⟨row, hrow, rfl⟩ := Option.map_eq_some_iff.1 hpt
    have := trod_flat (Γ := Γ) hS _ _ _ _ _ _ hrow hf
    obtain ⟨vs, h1, h2, h3⟩ := this.pick
    refine ⟨.agg vs, ⟨vs, rfl, h1⟩, .agg vs cs ?_ ?_⟩
    · simpa [Value.cells] using h2
    · simpa [Value.cells] using h3
  · rename_i hns
    split at hpt
    · rename_i ct hct
      simp only [Option.some.injEq] at hpt
      subst hpt
      have hc := flat_one hct hns hv
      rw [hc] at hf
      have := trod_flat (Γ := Γ) hS _ _ _ _ _ _ hct hf
      obtain ⟨x, h1, h2⟩ := this.2 0 ct v rfl rfl
      exact ⟨x, h1, h2⟩
    · cases hpt

theorem args_read (hS : ∀ b o v, w.cell? ⟨b, o, none⟩ = some v → Γ.S b o) {r : Reach} {b0 : Nat} : ∀ (ts : List TypeId) (vs : List Value) (ds : List (DataW H)) (p : List MemPlace) (pts : List PT),
    DataW.TrodAll enc P w 0 (fun _ => true) true ts vs ds p → (∀ (j : Nat) t v, ts[j]? = some t → vs[j]? = some v → Value.okWide P w r b0 t v) → paramsT P ts = some pts →
    ∃ xs, HasAll pts xs ∧ xs.length = vs.length ∧ ds.length = pts.length ∧ ∀ (j : Nat) (x : V) (v : Value), xs[j]? = some x → vs[j]? = some v → Rep w Γ x v
  | [], vs, ds, p, pts, h, _, hp => by
    simp only [paramsT, Option.some.injEq] at hp
    subst hp
    obtain ⟨rfl, rfl, rfl⟩ := trodAll_nil h
    exact ⟨[], rfl, rfl, rfl, fun j x v h => by simp at h⟩
  | t :: ts, vs, ds, p, pts, h, hok, hp => by
    obtain ⟨v, vs1, d, ds1, a, b, rfl, rfl, rfl, h1, h2⟩ := trodAll_cons h
    simp only [paramsT] at hp
    split at hp
    · rename_i pt ps hpt hps
      simp only [Option.some.injEq] at hp
      subst hp
      obtain ⟨x, hx, hr⟩ := arg_read (Γ := Γ) hS hpt (hok 0 t v rfl rfl) h1
      obtain ⟨xs, hxs, hl, hdl, hrs⟩ := args_read hS ts vs1 ds1 b ps h2 (fun j t' v' ht hv => hok (j + 1) t' v' (by simpa using ht) (by simpa using hv)) hps
      refine ⟨x :: xs, ⟨x, xs, rfl, hx, hxs⟩, by simp [hl], by simp [hdl], fun j y v' hy hv => ?_⟩
      cases j with
      | zero => simp at hy hv; subst hy; subst hv; exact hr
      | succ j => exact hrs j y v' (by simpa using hy) (by simpa using hv)
    · cases hp

theorem trodAll_below {W W' : World} (hl : laidOutB P = true) (hb : Below W.heap.size W W') : ∀ (ts : List TypeId) (vs : List Value) (ds : List (DataW H)) (p : List MemPlace),
    (∀ t ∈ ts, P.readableRec t = true ∧ t < P.types.size) → DataW.TrodAll enc P W 0 (fun _ => true) true ts vs ds p → (∀ x ∈ p, x.block < W.heap.size) →
    DataW.TrodAll enc P W' 0 (fun b => decide (b < W.heap.size)) true ts vs ds p
  | [], vs, ds, p, _, h, _ => by
    obtain ⟨rfl, rfl, rfl⟩ := trodAll_nil h
    exact trodAll_mk0
  | t :: ts, vs, ds, p, hr, h, hp => by
    obtain ⟨v, vs1, d, ds1, a, b, rfl, rfl, rfl, h1, h2⟩ := trodAll_cons h
    have h3 := hr t (by simp)
    exact ⟨a, b, Below.trod hl h3.1 h3.2 h1 hb (fun x hx => hp x (by simp [hx])), trodAll_below hl hb ts vs1 ds1 b (fun t' ht => hr t' (by simp [ht])) h2 (fun x hx => hp x (by simp [hx])), rfl⟩

end

def readableAll (P : Program) (ts : List TypeId) : Bool := ts.all fun t => P.readableRec t && decide (t < P.types.size)

/-- The start: all cells that are there are settled, and no block is the call's own. -/
def Env.start (w : World) : Env := ⟨w.heap.size, [], fun b o => ∃ v, w.cell? ⟨b, o, none⟩ = some v⟩

theorem Good.start (w : World) (hG : ∀ w', Below w.heap.size w w' → GT w') : Good w (Env.start w) [] where
  len := rfl
  blk i l B h := by simp [Env.start] at h
  b0 i l h := by simp [Env.start] at h
  inj i j l l' h := by simp [Env.start] at h
  scell b o h := h
  base := Nat.le_refl _
  tab := hG

theorem law_contract {H : Type} {enc : TypeId × Value → H} {C : Checked} {f : FuncId} {fn : Func} {s : ChangeSpec} {fresh handsOn : Bool} {pts : List PT} {tb : TypeId}
    (laidOut : laidOutB C.prog = true) (hvars : s.vars = []) (hs : ∀ ds : List (DataW H), ds.length = pts.length → s.fn H ds = { results := [.lit (.bool true)], args := ds })
    (hpt : paramsT C.prog fn.params.toList = some pts) (hread : readableAll C.prog fn.params.toList = true) (hres : fn.resultTypes = #[tb]) (htb : C.prog.underlying tb = some .bool)
    (law : ∀ xs, HasAll pts xs → ACalls C.prog f xs [] (fun v _ => v = .bool true)) (W : World) (hG : ∀ w', Below W.heap.size W w' → GT w') (base : Nat) (args : Array Value) (ds gs : List (DataW H)) (before : List MemPlace)
    (hval : ∀ (j : Nat) t v, fn.params[j]? = some t → args[j]? = some v → Value.okWide C.prog W .any base t v) (hW : DataW.Whole enc C.prog fn.params.toList s.vars false W args.toList ds gs before) :
    Calls C.prog f args W fun e W' => ∃ v, e = .returned v ∧ s.post enc C.prog fn false fresh handsOn false W args v W' := by
  have hW' := hW
  have hlt := hW.lt
  obtain ⟨p, q, hA, hV, rfl, hfz, hnd⟩ := hW
  rw [hvars] at hV
  obtain ⟨rfl, rfl⟩ := trodVars_none hV
  obtain ⟨xs, hxs, hl, hdl, hrep⟩ := args_read (Γ := Env.start W) (fun b o v h => ⟨v, h⟩) fn.params.toList args.toList ds p pts hA (fun j t v ht hv => hval j t v (by simpa using ht) (by simpa using hv)) hpt
  have hrl : RepL W (Env.start W) xs args := ⟨by simpa using hl.symm, fun j x hx => by
    have hj : j < xs.length := (List.getElem?_eq_some_iff.1 hx).1
    have hj2 : j < args.size := by simpa [hl] using hj
    have := hrep j x args[j] hx (by simp [hj2])
    rw [Array.getD_eq_getD_getElem?, Array.getElem?_eq_getElem hj2]
    exact this⟩
  refine ((law xs hxs).2 W (Env.start W) args (Good.start W hG) hrl).mono fun e W' he => ?_
  obtain ⟨v, cv, Γ', M', rfl, rfl, hr, _, hext⟩ := he
  have hb : Below W.heap.size W W' := hext.below
  cases hr with
  | bool =>
    have hfnds := hs ds hdl
    refine ⟨_, rfl, ds, [], p ++ [], [], p, [], hW', ?_, ?_, ?_, hb.frame _, fun h => by cases h⟩
    · rw [List.append_nil, hfnds, hres]
      exact trodAll_mk1 (Go.RowKit.shut_bool htb _)
    · rw [List.append_nil, hfnds]
      exact trodAll_below laidOut hb _ _ _ _ (fun t ht => by
        have := List.all_eq_true.1 hread t ht
        simpa using this) hA (fun x hx => hlt x (by simp [hx]))
    · rw [List.append_nil, hfnds, hvars]
      rfl

/-- A law's step. -/
theorem lift_law {H : Type} {enc : TypeId × Value → H} {C : Checked} {os : Os} {f : FuncId} {fn : Func} {s : ChangeSpec} {conds : List PathCond} {fresh handsOn : Bool} {pts : List PT} {tb : TypeId} {a : Assume}
    (own : ownKnob C.prog.godebug = none) (laidOut : laidOutB C.prog = true) (started : os.Started) (noInit : C.prog.inits.idxOf? f = none) (hfn : C.prog.funcs[f]? = some fn)
    (hvars : s.vars = []) (hs : ∀ ds : List (DataW H), ds.length = pts.length → s.fn H ds = { results := [.lit (.bool true)], args := ds })
    (hpt : paramsT C.prog fn.params.toList = some pts) (hread : readableAll C.prog fn.params.toList = true) (hres : fn.resultTypes = #[tb]) (htb : C.prog.underlying tb = some .bool)
    (witness : ∃ (w : World) (tape : Tape) (i : Input), w.os = os ∧ (w.forCall tape i).Shaped C.prog ∧ i.vars = [] ∧ Input.okWide C.prog (w.forCall tape i) .any w.heap.size f i ∧
      s.pre6 enc C.prog fn conds false (w.forCall tape i).memory i.args ∧ a.holds C.prog (lone (Frame.enter C.prog f i.args .normal) [] (w.forCall tape i)))
    (law : ∀ xs, HasAll pts xs → ACalls C.prog f xs [] (fun v _ => v = .bool true)) (tabs : ∀ w : World, GT w := by exact fun _ => trivial) :
    ReturnsInHanded a C os f .any (s.pre6 enc C.prog fn conds false) (s.post enc C.prog fn false fresh handsOn false) :=
  returnsInHanded_of_change (C := C) own started noInit hfn witness fun W base args ds gs before hval hW _ _ =>
    law_contract laidOut hvars hs hpt hread hres htb law W (fun w' _ => tabs w') base args ds gs before hval hW

/-- A law's step, where package-level variables are laid. -/
theorem lift_laid {H : Type} {enc : TypeId × Value → H} {C : Checked} {os : Os} {f : FuncId} {fn : Func} {s : ChangeSpec} {conds : List PathCond} {fresh handsOn : Bool} {pts : List PT} {tb : TypeId} {a : Assume} {laid : List (String × DataW Unit)}
    (own : ownKnob C.prog.godebug = none) (laidOut : laidOutB C.prog = true) (started : os.Started) (noInit : C.prog.inits.idxOf? f = none) (hfn : C.prog.funcs[f]? = some fn)
    (hvars : s.vars = []) (hs : ∀ ds : List (DataW H), ds.length = pts.length → s.fn H ds = { results := [.lit (.bool true)], args := ds })
    (hpt : paramsT C.prog fn.params.toList = some pts) (hread : readableAll C.prog fn.params.toList = true) (hres : fn.resultTypes = #[tb]) (htb : C.prog.underlying tb = some .bool)
    (hG : ∀ W, laidMetH C.prog laid W → ∀ w', Below W.heap.size W w' → GT w')
    (witness : ∃ (w : World) (tape : Tape) (i : Input), w.os = os ∧ (w.forCall tape i).Shaped C.prog ∧ i.vars = [] ∧ Input.okWide C.prog (w.forCall tape i) .any w.heap.size f i ∧
      ((s.pre enc C.prog fn conds false (w.forCall tape i).memory i.args ∧ laidMetH C.prog laid (w.forCall tape i).memory) ∧ sizedMet enc C.prog fn (OpenSpec.ofChange s) false (w.forCall tape i).memory i.args) ∧ a.holds C.prog (lone (Frame.enter C.prog f i.args .normal) [] (w.forCall tape i)))
    (law : ∀ xs, HasAll pts xs → ACalls C.prog f xs [] (fun v _ => v = .bool true)) :
    ReturnsInHanded a C os f .any (fun w args => (s.pre enc C.prog fn conds false w args ∧ laidMetH C.prog laid w) ∧ sizedMet enc C.prog fn (OpenSpec.ofChange s) false w args) (s.post enc C.prog fn false fresh handsOn false) :=
  returnsInHanded_of_change_and (C := C) (X := fun w _ => laidMetH C.prog laid w) (fun _ _ _ hh h => h.of_heap hh) own started noInit hfn witness fun W base args ds gs before hval hW _ _ hL _ =>
    law_contract laidOut hvars hs hpt hread hres htb law W (hG W hL) base args ds gs before hval hW

end Go.Vm

/- Abstract code, run on given values: what it ends in is its contract. -/
namespace Go.Vm

abbrev CallFn := Nat → List V → Mem → Option (V × Mem)
abbrev Out := Exit × Slots × Mem

def evCall (cl : CallFn) (q : Bool) (f : Nat) (args : List V) (M : Mem) : Option (V × Mem) :=
  match q with
  | false => cl f args M
  | true =>
    bif underL 0 args then
      match cl f args [] with
      | some (v, []) => bif v.under 0 then some (v, M) else none
      | _ => none
    else none

def evCallV (cl : CallFn) (q : Bool) (f : V) (args : List V) (M : Mem) : Option (V × Mem) :=
  match f with
  | .pfn f caps => evCall cl q f (args ++ caps) M
  | .fn f caps => evCall cl q f (args ++ caps) M
  | _ => none

def evPut (s : Slots) (dst : Option Nat) (isB : Bool) (r : Option (V × Mem)) : Option (Slots × Mem) :=
  match r with
  | some (v, M) =>
    match isB with
    | true => match v with | .bool b => some (sputO s dst (.bool b), M) | _ => none
    | false => some (sputO s dst v, M)
  | none => none

def evOp (cl : CallFn) (q : Bool) (o : AOp) (dst : Option Nat) (isB : Bool) (s : Slots) (M : Mem) : Option (Slots × Mem) :=
  match o with
  | .call f args => evPut s dst isB (evCall cl q f (evL s args) M)
  | .callv fx args => evPut s dst isB (evCallV cl q (ev s fx) (evL s args) M)
  | op =>
    match op.isMem with
    | true => match mstep op s M with | some (v, M') => some (sputO s dst v, M') | none => none
    | false => evPut s dst isB (match pstep op s M with | some v => some (v, M) | none => none)

def evOps (cl : CallFn) (q : Bool) : List AOper → Slots → Mem → Option (Slots × Mem)
  | [], s, M => some (s, M)
  | ⟨dst, op, isB, none⟩ :: os, s, M =>
    match evOp cl q op dst isB s M with
    | some (s', M') => evOps cl q os s' M'
    | none => none
  | ⟨dst, op, isB, some (g, want)⟩ :: os, s, M =>
    match sget s g with
    | .bool b =>
      bif b == want then
        match evOp cl q op dst isB (sput s g (.bool b)) M with
        | some (s', M') => evOps cl q os s' M'
        | none => none
      else evOps cl q os (sputO (sput s g (.bool b)) dst (.tuple [])) M
    | .tuple [] => evOps cl q os (sputO s dst (.tuple [])) M
    | _ => none

def evOne (cl : CallFn) (q : Bool) (o : AOper) (s : Slots) (M : Mem) : Option (Slots × Mem) :=
  match o with
  | ⟨dst, op, isB, none⟩ => evOp cl q op dst isB s M
  | ⟨dst, op, isB, some (g, want)⟩ =>
    match sget s g with
    | .bool b =>
      bif b == want then evOp cl q op dst isB (sput s g (.bool b)) M
      else some (sputO (sput s g (.bool b)) dst (.tuple []), M)
    | .tuple [] => some (sputO s dst (.tuple []), M)
    | _ => none

def evMix (cl : CallFn) : List AOper → List Bool → Slots → Mem → Option (Slots × Mem)
  | o :: os, q :: qs, s, M =>
    match evOne cl q o s M with
    | some (s', M') => evMix cl os qs s' M'
    | none => none
  | _, _, s, M => some (s, M)

mutual
/-- Two values are the same. -/
def veq : V → V → Bool
  | .undef, .undef => true
  | .bool a, .bool b => a == b
  | .int k a, .int k' b => decide (k = k') && decide (a = b)
  | .str a, .str b => decide (a = b)
  | .nilp, .nilp => true
  | .nilf, .nilf => true
  | .nilm, .nilm => true
  | .slice a c, .slice b d => veqLL a b && decide (c = d)
  | .rref a, .rref b => veqL a b
  | .pfn f a, .pfn g b => Nat.beq f g && veqL a b
  | .ptr i o, .ptr j p => Nat.beq i j && Nat.beq o p
  | .eptr i v r o, .eptr i' v' r' o' => Nat.beq i i' && Nat.beq v v' && Nat.beq r r' && Nat.beq o o'
  | .mslice i v r o, .mslice i' v' r' o' => Nat.beq i i' && Nat.beq v v' && Nat.beq r r' && Nat.beq o o'
  | .map i, .map j => Nat.beq i j
  | .fn f a, .fn g b => Nat.beq f g && veqL a b
  | .agg a, .agg b => veqL a b
  | .tuple a, .tuple b => veqL a b
  | _, _ => false
def veqL : List V → List V → Bool
  | [], [] => true
  | x :: xs, y :: ys => veq x y && veqL xs ys
  | _, _ => false
def veqLL : List (List V) → List (List V) → Bool
  | [], [] => true
  | x :: xs, y :: ys => veqL x y && veqLL xs ys
  | _, _ => false
end

def evFind : List (Nat × AOp × Slots × V) → Nat → Option (AOp × Slots × V)
  | [], _ => none
  | (i, x) :: H, j => match Nat.beq i j with | true => some x | false => evFind H j

def evCheck (H : List (Nat × AOp × Slots × V)) : List Nat → Mem → Bool
  | [], _ => true
  | j :: js, M =>
    (match evFind H j with
     | some (op, s, v) => (match pstep op s M with | some x => veq x v | none => false)
     | none => false) && evCheck H js M

def evFloat (cl : CallFn) : List AOper → List (Option (List Nat)) → Nat → List (Nat × AOp × Slots × V) → Slots → Mem → Option (Slots × Mem)
  | o :: os, none :: fs, n, H, s, M =>
    match evOne cl true o s M with
    | some (s', M') => evFloat cl os fs (n + 1) ((n, o.op, s, dstV s' o.dst) :: H) s' M'
    | none => none
  | o :: os, some l :: fs, n, H, s, M =>
    match evOne cl false o s M with
    | some (s', M') => bif evCheck H l M' then evFloat cl os fs (n + 1) H s' M' else none
    | none => none
  | _, _, _, _, s, M => some (s, M)

def evLoop (body : Slots → Mem → Option Out) (live : List Nat) (len : Nat) : Nat → List V → Mem → Option Out
  | 0, _, _ => none
  | k + 1, vs, M =>
    match body (zipS live vs) M with
    | some (.normal, s, M') => bif popOK len (vals s live) M' then evLoop body live len k (vals s live) (M'.take len) else evLoop body live len k (vals s live) M'
    | r => r

def evJump (rest : Slots → Mem → Option Out) (l : Nat) (live : List Nat) : Nat → Option Out → Option Out
  | 0, _ => none
  | k + 1, some (.goto l', s, M) => bif l' == l then evJump rest l live k (rest (zipS live (vals s live)) M) else none
  | _ + 1, r => r

def evC (cl : CallFn) : Nat → ACode → Slots → Mem → Option Out
  | 0, _, _, _ => none
  | n + 1, c, s, M =>
    match c with
    | .skip => some (.normal, s, M)
    | .label => some (.normal, s, M)
    | .region ops live => match evOps cl false ops s M with | some (s', M') => some (.normal, snorm s' live, M') | none => none
    | .mixed ops qs live => match evMix cl ops qs s M with | some (s', M') => some (.normal, snorm s' live, M') | none => none
    | .float ops fl live => match evFloat cl ops fl 0 [] s M with | some (s', M') => some (.normal, snorm s' live, M') | none => none
    | .seq a b =>
      match evC cl n a s M with
      | some (.normal, s', M') => evC cl n b s' M'
      | r => r
    | .cond c a b =>
      match ev s c with
      | .bool true => evC cl n a s M
      | .bool false => evC cl n b s M
      | _ => none
    | .block id a =>
      match evC cl n a s M with
      | some (.exit id', s', M') => bif id' == id then some (.normal, s', M') else some (.exit id', s', M')
      | r => r
    | .loop live a => evLoop (evC cl n a) live M.length n (vals s live) M
    | .scope l live a rest => evJump (evC cl n rest) l live n (evC cl n a s M)
    | .exit id => some (.exit id, s, M)
    | .goto l => some (.goto l, s, M)
    | .ret => some (.ret, s, M)

abbrev FTab := Nat → Option (AFn × Bool)

def evEnd (fn : AFn) (keep : Bool) (base : Nat) (s : Slots) (M' : Mem) : Option (V × Mem) :=
  match resAll s M' fn.results with
  | some v =>
    match keep with
    | true => some (v, M')
    | false =>
      match freezeV M' base 20 v with
      | some v' => bif v'.under base && decide (base ≤ M'.length) && memUnder base (M'.take base) then some (v', M'.take base) else none
      | none => none
  | none => none

def evF (tab : FTab) : Nat → CallFn
  | 0, _, _, _ => none
  | n + 1, f, args, M =>
    match tab f with
    | some (fn, keep) =>
      bif decide (args.length ≤ fn.ntmps) then
        match evC (evF tab n) n fn.body (sinit args 0) M with
        | some (.normal, s, M') => evEnd fn keep M.length s M'
        | some (.ret, s, M') => evEnd fn keep M.length s M'
        | _ => none
      else none
    | none => none

section
variable {P : Program} {cl : CallFn}

def ClOK (P : Program) (cl : CallFn) : Prop := ∀ f args M v M', cl f args M = some (v, M') → ACalls P f args M (fun x N => x = v ∧ N = M')

theorem evCall_sound (hcl : ClOK P cl) {q : Bool} {f : Nat} {args : List V} {M : Mem} {v : V} {M' : Mem} (h : evCall cl q f args M = some (v, M')) {K : V → Mem → Prop} (hk : K v M') : wpCall P q f args M K := by
  cases q with
  | false => exact (hcl _ _ _ _ _ h).mono fun x N ⟨e1, e2⟩ => by rw [e1, e2]; exact hk
  | true =>
    simp only [evCall] at h
    cases hu : underL 0 args with
    | false => simp [hu] at h
    | true =>
      simp only [hu, cond_true] at h
      split at h
      · rename_i v0 hc
        obtain ⟨hf, e⟩ := cond_some h
        simp only [Prod.mk.injEq] at e
        obtain ⟨rfl, rfl⟩ := e
        have hp : PCalls P f args (fun x => x = v0) := (hcl _ _ _ _ _ hc).mono fun x N ⟨e1, e2⟩ => ⟨e1, e2, by rw [e1]; exact hf⟩
        exact ⟨v0, PCalls.call hp hu (fun x hx _ => ⟨hx, rfl⟩), hk⟩
      · cases h

theorem evCallV_sound (hcl : ClOK P cl) {q : Bool} {f : V} {args : List V} {M : Mem} {v : V} {M' : Mem} (h : evCallV cl q f args M = some (v, M')) {K : V → Mem → Prop} (hk : K v M') : wpCallV P q f args M K := by
  unfold evCallV at h
  split at h
  · exact evCall_sound hcl h hk
  · exact evCall_sound hcl h hk
  · cases h

theorem evPut_some {s : Slots} {dst : Option Nat} {isB : Bool} {r : Option (V × Mem)} {s' : Slots} {M' : Mem} (h : evPut s dst isB r = some (s', M')) :
    ∃ v, r = some (v, M') ∧ ∀ K : Slots → Prop, K s' → putV s dst isB v K := by
  unfold evPut at h
  split at h
  · rename_i v M1
    split at h
    · split at h
      · simp only [Option.some.injEq, Prod.mk.injEq] at h
        obtain ⟨rfl, rfl⟩ := h
        exact ⟨_, rfl, fun K hk => hk⟩
      · cases h
    · simp only [Option.some.injEq, Prod.mk.injEq] at h
      obtain ⟨rfl, rfl⟩ := h
      exact ⟨_, rfl, fun K hk => hk⟩
  · cases h

theorem evOp_sound (hcl : ClOK P cl) {q : Bool} {o : AOp} {dst : Option Nat} {isB : Bool} {s : Slots} {M : Mem} {s' : Slots} {M' : Mem} (h : evOp cl q o dst isB s M = some (s', M')) {K : Slots → Mem → Prop} (hk : K s' M') : wpOp P q o dst isB s M K := by
  unfold evOp at h
  unfold wpOp
  split at h
  · obtain ⟨v, hv, hp⟩ := evPut_some h
    exact evCall_sound hcl hv (hp _ hk)
  · obtain ⟨v, hv, hp⟩ := evPut_some h
    exact evCallV_sound hcl hv (hp _ hk)
  · rename_i op hn1 hn2
    split
    · exact absurd rfl (hn1 _ _)
    · exact absurd rfl (hn2 _ _)
    · split at h
      · rename_i hm
        rw [hm]
        split at h
        · rename_i v M1 hs
          simp only [Option.some.injEq, Prod.mk.injEq] at h
          obtain ⟨rfl, rfl⟩ := h
          rw [hs]
          exact hk
        · cases h
      · rename_i hm
        rw [hm]
        obtain ⟨v, hv, hp⟩ := evPut_some h
        split at hv
        · rename_i v1 hs
          simp only [Option.some.injEq, Prod.mk.injEq] at hv
          obtain ⟨rfl, rfl⟩ := hv
          have := hp (fun s' => K s' M) hk
          rw [hs]
          cases isB with
          | true => exact this
          | false => exact this
        · cases hv

theorem evOps_sound (hcl : ClOK P cl) {q : Bool} : ∀ (os : List AOper) (s : Slots) (M : Mem) (s' : Slots) (M' : Mem), evOps cl q os s M = some (s', M') → ∀ K : Slots → Mem → Prop, K s' M' → wpOps P q os s M K
  | [], s, M, s', M', h, K, hk => by
    simp only [evOps, Option.some.injEq, Prod.mk.injEq] at h
    obtain ⟨rfl, rfl⟩ := h
    exact hk
  | ⟨dst, op, isB, none⟩ :: os, s, M, s', M', h, K, hk => by
    unfold evOps at h
    split at h
    · rename_i s1 M1 h1
      exact evOp_sound hcl h1 (evOps_sound hcl os _ _ _ _ h K hk)
    · cases h
  | ⟨dst, op, isB, some (g, want)⟩ :: os, s, M, s', M', h, K, hk => by
    unfold evOps at h
    unfold wpOps
    split at h
    · rename_i b hb
      rw [hb]
      cases hbw : (b == want) with
      | true =>
        have : b = want := by simpa using hbw
        subst this
        simp only [hbw, cond_true] at h
        split at h
        · rename_i s1 M1 h1
          have h2 := evOp_sound (P := P) hcl h1 (K := fun s' M' => wpOps P q os s' M' K) (evOps_sound hcl os _ _ _ _ h K hk)
          cases b with
          | true => exact h2
          | false => exact h2
        · cases h
      | false =>
        simp only [hbw, cond_false] at h
        have h2 := evOps_sound hcl os _ _ _ _ h K hk
        cases b <;> cases want <;> simp at hbw
        · exact h2
        · exact h2
    · rename_i hb
      rw [hb]
      exact evOps_sound hcl os _ _ _ _ h K hk
    · cases h

theorem evOne_sound (hcl : ClOK P cl) {q : Bool} {o : AOper} {s : Slots} {M : Mem} {s' : Slots} {M' : Mem} (h : evOne cl q o s M = some (s', M')) {K : Slots → Mem → Prop} (hk : K s' M') : wpOne P q o s M K := by
  obtain ⟨dst, op, isB, g⟩ := o
  cases g with
  | none => exact evOp_sound hcl h hk
  | some gw =>
    obtain ⟨g, want⟩ := gw
    unfold evOne at h
    unfold wpOne
    simp only at h ⊢
    split at h
    · rename_i b hb
      rw [hb]
      simp only
      cases hbw : (b == want) with
      | true =>
        have : b = want := by simpa using hbw
        subst this
        simp only [hbw, cond_true] at h
        cases b <;> exact evOp_sound hcl h hk
      | false =>
        simp only [hbw, cond_false, Option.some.injEq, Prod.mk.injEq] at h
        obtain ⟨rfl, rfl⟩ := h
        cases b <;> cases want <;> simp at hbw <;> exact hk
    · rename_i hb
      rw [hb]
      simp only [Option.some.injEq, Prod.mk.injEq] at h
      obtain ⟨rfl, rfl⟩ := h
      exact hk
    · cases h

theorem evMix_sound (hcl : ClOK P cl) : ∀ (os : List AOper) (qs : List Bool) (s : Slots) (M : Mem) (s' : Slots) (M' : Mem), evMix cl os qs s M = some (s', M') → ∀ K : Slots → Mem → Prop, K s' M' → wpMix P os qs s M K
  | o :: os, q :: qs, s, M, s', M', h, K, hk => by
    unfold evMix at h
    split at h
    · rename_i s1 M1 h1
      exact evOne_sound hcl h1 (evMix_sound hcl os qs _ _ _ _ h K hk)
    · cases h
  | [], qs, s, M, s', M', h, K, hk => by
    simp only [evMix, Option.some.injEq, Prod.mk.injEq] at h
    obtain ⟨rfl, rfl⟩ := h
    exact hk
  | o :: os, [], s, M, s', M', h, K, hk => by
    simp only [evMix, Option.some.injEq, Prod.mk.injEq] at h
    obtain ⟨rfl, rfl⟩ := h
    exact hk

mutual
theorem veq_eq : ∀ {x y : V}, veq x y = true → x = y
  | .undef, y, h => by cases y <;> simp [veq] at h ⊢
  | .bool a, y, h => by cases y <;> simp [veq] at h ⊢; exact h
  | .int k a, y, h => by cases y <;> simp [veq] at h ⊢; exact h
  | .str a, y, h => by cases y <;> simp [veq] at h ⊢; exact h
  | .nilp, y, h => by cases y <;> simp [veq] at h ⊢
  | .nilf, y, h => by cases y <;> simp [veq] at h ⊢
  | .nilm, y, h => by cases y <;> simp [veq] at h ⊢
  | .slice a c, y, h => by
    cases y <;> simp only [veq, Bool.false_eq_true, Bool.and_eq_true, decide_eq_true_eq] at h
    rw [veqLL_eq h.1, h.2]
  | .rref a, y, h => by
    cases y <;> simp only [veq, Bool.false_eq_true] at h
    rw [veqL_eq h]
  | .pfn f a, y, h => by
    cases y <;> simp only [veq, Bool.false_eq_true, Bool.and_eq_true] at h
    rw [veqL_eq h.2, Nat.eq_of_beq_eq_true h.1]
  | .ptr i o, y, h => by cases y <;> simp [veq] at h ⊢; exact h
  | .eptr i v r o, y, h => by
    cases y <;> simp [veq] at h ⊢
    obtain ⟨⟨⟨h1, h2⟩, h3⟩, h4⟩ := h
    exact ⟨h1, h2, h3, h4⟩
  | .mslice i v r o, y, h => by
    cases y <;> simp [veq] at h ⊢
    obtain ⟨⟨⟨h1, h2⟩, h3⟩, h4⟩ := h
    exact ⟨h1, h2, h3, h4⟩
  | .map i, y, h => by cases y <;> simp [veq] at h ⊢; exact h
  | .fn f a, y, h => by
    cases y <;> simp only [veq, Bool.false_eq_true, Bool.and_eq_true] at h
    rw [veqL_eq h.2, Nat.eq_of_beq_eq_true h.1]
  | .agg a, y, h => by
    cases y <;> simp only [veq, Bool.false_eq_true] at h
    rw [veqL_eq h]
  | .tuple a, y, h => by
    cases y <;> simp only [veq, Bool.false_eq_true] at h
    rw [veqL_eq h]
theorem veqL_eq : ∀ {xs ys : List V}, veqL xs ys = true → xs = ys
  | [], [], _ => rfl
  | x :: xs, y :: ys, h => by
    simp only [veqL, Bool.and_eq_true] at h
    rw [veq_eq h.1, veqL_eq h.2]
  | [], y :: ys, h => by simp [veqL] at h
  | x :: xs, [], h => by simp [veqL] at h
theorem veqLL_eq : ∀ {xs ys : List (List V)}, veqLL xs ys = true → xs = ys
  | [], [], _ => rfl
  | x :: xs, y :: ys, h => by
    simp only [veqLL, Bool.and_eq_true] at h
    rw [veqL_eq h.1, veqLL_eq h.2]
  | [], y :: ys, h => by simp [veqLL] at h
  | x :: xs, [], h => by simp [veqLL] at h
end

def asProps (H : List (Nat × AOp × Slots × V)) : List (Nat × (Mem → Prop)) := H.map fun e => (e.1, fun M1 => pstep e.2.1 e.2.2.1 M1 = some e.2.2.2)
theorem evFind_look : ∀ {H : List (Nat × AOp × Slots × V)} {j : Nat} {x : AOp × Slots × V} {M : Mem}, evFind H j = some x → pstep x.1 x.2.1 M = some x.2.2 → lookP (asProps H) j M
  | [], j, x, M, h, _ => by simp [evFind] at h
  | (i, y) :: H, j, x, M, h, hp => by
    simp only [evFind] at h
    simp only [asProps, List.map_cons, lookP]
    split at h
    · rename_i hb
      simp only [Option.some.injEq] at h
      subst h
      rw [hb]
      exact hp
    · rename_i hb
      rw [hb]
      exact evFind_look (H := H) h hp
theorem evCheck_sound {H : List (Nat × AOp × Slots × V)} {M : Mem} : ∀ {l : List Nat}, evCheck H l M = true → recheck (asProps H) l M
  | [], _ => trivial
  | j :: l, h => by
    simp only [evCheck, Bool.and_eq_true] at h
    obtain ⟨h1, h2⟩ := h
    refine ⟨?_, evCheck_sound h2⟩
    split at h1
    · rename_i op s v hf
      split at h1
      · rename_i x hx
        rw [veq_eq h1] at hx
        exact evFind_look hf hx
      · cases h1
    · cases h1
theorem evFloat_sound (hcl : ClOK P cl) : ∀ (os : List AOper) (fs : List (Option (List Nat))) (n : Nat) (H : List (Nat × AOp × Slots × V)) (s : Slots) (M : Mem) (s' : Slots) (M' : Mem), evFloat cl os fs n H s M = some (s', M') → ∀ K : Slots → Mem → Prop, K s' M' → wpFloat P os fs n (asProps H) s M K
  | o :: os, none :: fs, n, H, s, M, s', M', h, K, hk => by
    unfold evFloat at h
    split at h
    · rename_i s1 M1 h1
      exact evOne_sound hcl h1 (evFloat_sound hcl os fs _ _ _ _ _ _ h K hk)
    · cases h
  | o :: os, some l :: fs, n, H, s, M, s', M', h, K, hk => by
    unfold evFloat at h
    split at h
    · rename_i s1 M1 h1
      cases hc : evCheck H l M1 with
      | true =>
        simp only [hc, cond_true] at h
        exact evOne_sound hcl h1 ⟨evCheck_sound hc, evFloat_sound hcl os fs _ _ _ _ _ _ h K hk⟩
      | false => simp only [hc, cond_false, reduceCtorEq] at h
    · cases h
  | [], fs, n, H, s, M, s', M', h, K, hk => by
    simp only [evFloat, Option.some.injEq, Prod.mk.injEq] at h
    obtain ⟨rfl, rfl⟩ := h
    cases fs <;> exact hk
  | o :: os, [], n, H, s, M, s', M', h, K, hk => by
    simp only [evFloat, Option.some.injEq, Prod.mk.injEq] at h
    obtain ⟨rfl, rfl⟩ := h
    exact hk

theorem evLoop_sound {body : Slots → Mem → Option Out} {a : ACode} {live : List Nat} {len : Nat} {Q : Exit → Slots → Mem → Prop} (hb : ∀ s M e s' M' (Q' : Exit → Slots → Mem → Prop), body s M = some (e, s', M') → Q' e s' M' → wpC P a Q' s M)
    : ∀ (k : Nat) (vs : List V) (M : Mem) (e : Exit) (s' : Slots) (M' : Mem), evLoop body live len k vs M = some (e, s', M') → Q e s' M' →
      ∀ (I : Nat → List V → Mem → Prop), (∀ k vs M, (∃ e s' M', evLoop body live len k vs M = some (e, s', M') ∧ Q e s' M') → I k vs M) → wpC P a (roundK I k len live Q) (zipS live vs) M
  | 0, vs, M, e, s', M', h, _, _, _ => by simp [evLoop] at h
  | k + 1, vs, M, e, s', M', h, hq, I, hI => by
    unfold evLoop at h
    split at h
    · rename_i s1 M1 h1
      refine hb _ _ _ _ _ _ h1 ?_
      simp only [roundK]
      cases hp : popOK len (vals s1 live) M1 with
      | true =>
        simp only [hp, cond_true] at h
        exact .inr ⟨rfl, k, Nat.lt_succ_self k, hI _ _ _ ⟨_, _, _, h, hq⟩⟩
      | false =>
        simp only [hp, cond_false] at h
        exact .inl ⟨k, Nat.lt_succ_self k, hI _ _ _ ⟨_, _, _, h, hq⟩⟩
    · rename_i hne
      refine hb _ _ _ _ _ _ h ?_
      cases e with
      | normal => exact absurd h (hne _ _)
      | _ => exact hq

theorem evJump_other {rest : Slots → Mem → Option Out} {l : Nat} {live : List Nat} {k : Nat} {e : Exit} {s : Slots} {M : Mem} (hne : ∀ l', e ≠ .goto l') {e' : Exit} {s' : Slots} {M' : Mem} (h : evJump rest l live k (some (e, s, M)) = some (e', s', M')) : e' = e ∧ s' = s ∧ M' = M := by
  cases k with
  | zero => simp [evJump] at h
  | succ k =>
    unfold evJump at h
    split at h
    · rename_i heq; simp at heq
    · rename_i heq
      simp only [Option.some.injEq, Prod.mk.injEq] at heq
      exact absurd heq.1 (hne _)
    · rename_i heq
      simp only [Option.some.injEq, Prod.mk.injEq] at h
      exact ⟨h.1.symm, h.2.1.symm, h.2.2.symm⟩

theorem evC_sound (hcl : ClOK P cl) : ∀ (n : Nat) (c : ACode) (s : Slots) (M : Mem) (e : Exit) (s' : Slots) (M' : Mem) (Q : Exit → Slots → Mem → Prop), evC cl n c s M = some (e, s', M') → Q e s' M' → wpC P c Q s M
  | 0, c, s, M, e, s', M', Q, h, _ => by simp [evC] at h
  | n + 1, c, s, M, e, s', M', Q, h, hq => by
    have ih := evC_sound hcl n
    cases c with
    | skip => simp only [evC, Option.some.injEq, Prod.mk.injEq] at h; obtain ⟨rfl, rfl, rfl⟩ := h; exact hq
    | label => simp only [evC, Option.some.injEq, Prod.mk.injEq] at h; obtain ⟨rfl, rfl, rfl⟩ := h; exact hq
    | exit id => simp only [evC, Option.some.injEq, Prod.mk.injEq] at h; obtain ⟨rfl, rfl, rfl⟩ := h; exact hq
    | goto l => simp only [evC, Option.some.injEq, Prod.mk.injEq] at h; obtain ⟨rfl, rfl, rfl⟩ := h; exact hq
    | ret => simp only [evC, Option.some.injEq, Prod.mk.injEq] at h; obtain ⟨rfl, rfl, rfl⟩ := h; exact hq
    | region ops live =>
      simp only [evC] at h
      split at h
      · rename_i s1 M1 h1
        simp only [Option.some.injEq, Prod.mk.injEq] at h
        obtain ⟨rfl, rfl, rfl⟩ := h
        exact evOps_sound hcl _ _ _ _ _ h1 _ hq
      · cases h
    | mixed ops qs live =>
      simp only [evC] at h
      split at h
      · rename_i s1 M1 h1
        simp only [Option.some.injEq, Prod.mk.injEq] at h
        obtain ⟨rfl, rfl, rfl⟩ := h
        exact evMix_sound hcl _ _ _ _ _ _ h1 _ hq
      · cases h
    | float ops fl live =>
      simp only [evC] at h
      split at h
      · rename_i s1 M1 h1
        simp only [Option.some.injEq, Prod.mk.injEq] at h
        obtain ⟨rfl, rfl, rfl⟩ := h
        exact evFloat_sound hcl _ _ _ _ _ _ _ _ h1 _ hq
      · cases h
    | seq a b =>
      simp only [evC] at h
      split at h
      · rename_i s1 M1 h1
        exact ih a _ _ _ _ _ _ h1 (ih b _ _ _ _ _ Q h hq)
      · rename_i hne
        refine ih a _ _ _ _ _ _ h ?_
        cases e with
        | normal => exact absurd h (hne _ _)
        | _ => exact hq
    | cond c a b =>
      simp only [evC] at h
      simp only [wpC]
      split at h
      · rename_i hc; rw [hc]; exact ih a _ _ _ _ _ Q h hq
      · rename_i hc; rw [hc]; exact ih b _ _ _ _ _ Q h hq
      · cases h
    | block id a =>
      simp only [evC] at h
      simp only [wpC]
      split at h
      · rename_i id' s1 M1 h1
        refine ih a _ _ _ _ _ _ h1 ?_
        simp only [blockK]
        cases hid : (id' == id) with
        | true =>
          simp only [hid, cond_true, Option.some.injEq, Prod.mk.injEq] at h ⊢
          obtain ⟨rfl, rfl, rfl⟩ := h
          exact hq
        | false =>
          simp only [hid, cond_false, Option.some.injEq, Prod.mk.injEq] at h ⊢
          obtain ⟨rfl, rfl, rfl⟩ := h
          exact hq
      · rename_i hne
        refine ih a _ _ _ _ _ _ h ?_
        cases e with
        | exit id' => exact absurd h (hne _ _ _)
        | _ => exact hq
    | loop live a =>
      simp only [evC] at h
      refine ⟨fun k vs M1 => ∃ e s' M', evLoop (evC cl n a) live M.length k vs M1 = some (e, s', M') ∧ Q e s' M', n, ⟨e, s', M', h, hq⟩, fun k vs M1 ⟨e1, s1, M2, h1, hq1⟩ => ?_⟩
      exact evLoop_sound (fun s M e s' M' Q' hh hqq => ih a s M e s' M' Q' hh hqq) k vs M1 e1 s1 M2 h1 hq1 _ (fun k vs M h => h)
    | scope l live a rest =>
      simp only [evC] at h
      have out : ∀ k (r : Out), (∃ e s' M', evJump (evC cl n rest) l live k (some r) = some (e, s', M') ∧ Q e s' M') →
          (∃ s1 M1, r = (.goto l, s1, M1) ∧ ∃ k', k = k' + 1 ∧ ∃ e s' M', evJump (evC cl n rest) l live k' (evC cl n rest (zipS live (vals s1 live)) M1) = some (e, s', M') ∧ Q e s' M') ∨ ((∀ l', r.1 ≠ .goto l') ∧ Q r.1 r.2.1 r.2.2) := by
        intro k r ⟨e, s', M', h, hq⟩
        obtain ⟨re, rs, rM⟩ := r
        by_cases hg : ∃ l', re = .goto l'
        · obtain ⟨l', rfl⟩ := hg
          cases k with
          | zero => simp [evJump] at h
          | succ k =>
            simp only [evJump] at h
            obtain ⟨hl, h⟩ := cond_some' h
            have hl : l' = l := by simpa using hl
            subst hl
            exact .inl ⟨rs, rM, rfl, k, rfl, e, s', M', h, hq⟩
        · have hne : ∀ l', re ≠ .goto l' := fun l' he => hg ⟨l', he⟩
          obtain ⟨rfl, rfl, rfl⟩ := evJump_other hne h
          exact .inr ⟨hne, hq⟩
      have part : ∀ (k : Nat) (c : ACode) (s : Slots) (M : Mem) (J : List V → Mem → Prop), (∃ e s' M', evJump (evC cl n rest) l live k (evC cl n c s M) = some (e, s', M') ∧ Q e s' M') →
          (∀ vs M1 k', k = k' + 1 → (∃ e s' M', evJump (evC cl n rest) l live k' (evC cl n rest (zipS live vs) M1) = some (e, s', M') ∧ Q e s' M') → J vs M1) → wpC P c (jumpK J l live Q) s M := by
        intro k c s M J ⟨e, s', M', h, hq⟩ hJ
        cases hr : evC cl n c s M with
        | none =>
          rw [hr] at h
          cases k <;> simp [evJump] at h
        | some r =>
          rw [hr] at h
          refine ih c s M r.1 r.2.1 r.2.2 _ hr ?_
          rcases out k r ⟨e, s', M', h, hq⟩ with ⟨s1, M1, rfl, k', hk', hh⟩ | ⟨hne, hq'⟩
          · exact ⟨rfl, hJ _ _ k' hk' hh⟩
          · obtain ⟨re, rs, rM⟩ := r
            cases re with
            | goto l' => exact absurd rfl (hne l')
            | _ => exact hq'
      refine ⟨fun k vs M1 => ∃ e s' M', evJump (evC cl n rest) l live k (evC cl n rest (zipS live vs) M1) = some (e, s', M') ∧ Q e s' M', ?_, fun k vs M1 hh => ?_⟩
      · exact part n a s M _ ⟨e, s', M', h, hq⟩ (fun vs M1 k' _ hh => ⟨k', hh⟩)
      · exact part k rest _ M1 _ hh (fun vs M2 k' hk' hh' => ⟨k', by omega, hh'⟩)

def TabOK (P : Program) (tab : FTab) : Prop := ∀ f fn k, tab f = some (fn, k) → ∃ h, resFn P h f = some fn

theorem evEnd_keep {fn : AFn} {base : Nat} {s : Slots} {M' : Mem} {v : V} {N : Mem} (h : evEnd fn true base s M' = some (v, N)) : resAll s M' fn.results = some v ∧ N = M' := by
  unfold evEnd at h
  split at h
  · rename_i v0 hv
    simp only [Option.some.injEq, Prod.mk.injEq] at h
    obtain ⟨rfl, rfl⟩ := h
    exact ⟨hv, rfl⟩
  · cases h

theorem evEnd_pop {fn : AFn} {base : Nat} {s : Slots} {M' : Mem} {v : V} {N : Mem} (h : evEnd fn false base s M' = some (v, N)) : popPost base (fun x K => x = v ∧ K = N) (resAll s M' fn.results) M' := by
  unfold evEnd at h
  split at h
  · rename_i v0 hv
    rw [hv]
    simp only at h
    split at h
    · rename_i v1 hf
      obtain ⟨hb, e⟩ := cond_some h
      simp only [Prod.mk.injEq] at e
      obtain ⟨rfl, rfl⟩ := e
      show OptV (freezeV M' base 20 v0) _
      rw [hf]
      exact ⟨hb, rfl, rfl⟩
    · cases h
  · cases h

theorem evF_sound {tab : FTab} (htab : TabOK P tab) : ∀ n, ClOK P (evF tab n)
  | 0, f, args, M, v, M', h => by simp [evF] at h
  | n + 1, f, args, M, v, M', h => by
    have ih := evF_sound htab n
    unfold evF at h
    split at h
    · rename_i fn keep ht
      obtain ⟨hl, h⟩ := cond_some' h
      have hl : args.length ≤ fn.ntmps := by simpa using hl
      obtain ⟨hh, hf⟩ := htab f fn keep ht
      have fin : ∀ (e : Exit) (s : Slots) (M1 : Mem), (e = .normal ∨ e = .ret) → evC (evF tab n) n fn.body (sinit args 0) M = some (e, s, M1) → evEnd fn keep M.length s M1 = some (v, M') → ACalls P f args M (fun x N => x = v ∧ N = M') := by
        intro e s M1 he hc hend
        cases keep with
        | true =>
          obtain ⟨h1, rfl⟩ := evEnd_keep hend
          refine acalls_keep hf hl ?_
          refine evC_sound ih n _ _ _ _ _ _ _ hc ?_
          have hkp : keepPost (fun x N => x = v ∧ N = M') (resAll s M' fn.results) M' := by rw [h1]; exact ⟨rfl, rfl⟩
          rcases he with rfl | rfl <;> exact hkp
        | false =>
          refine acalls_pop hf hl ?_
          refine evC_sound ih n _ _ _ _ _ _ _ hc ?_
          rcases he with rfl | rfl <;> exact evEnd_pop hend
      split at h
      · rename_i s M1 hc; exact fin _ _ _ (.inl rfl) hc h
      · rename_i s M1 hc; exact fin _ _ _ (.inr rfl) hc h
      · cases h
    · cases h

/-- The contract of a call on given values, by running the abstract code. -/
theorem acalls_eval {tab : FTab} (htab : TabOK P tab) (n : Nat) {f : Nat} {args : List V} {M : Mem} {v : V} {M' : Mem} (h : evF tab n f args M = some (v, M')) : ACalls P f args M (fun x N => x = v ∧ N = M') := evF_sound htab n _ _ _ _ _ h

def tabOf : List (Nat × AFn × Bool) → FTab
  | [], _ => none
  | (n, fn, k) :: r, f => bif n == f then some (fn, k) else tabOf r f

theorem tabOf_nil : TabOK P (tabOf []) := fun _ _ _ h => by simp [tabOf] at h

theorem tabOf_cons {n : Nat} {fn : AFn} {k : Bool} {r : List (Nat × AFn × Bool)} {h : Hints} (hf : resFn P h n = some fn) (hr : TabOK P (tabOf r)) : TabOK P (tabOf ((n, fn, k) :: r)) := fun f fn' k' e => by
  simp only [tabOf] at e
  cases hb : (n == f) with
  | true =>
    simp only [hb, cond_true, Option.some.injEq, Prod.mk.injEq] at e
    have : n = f := by simpa using hb
    subst this
    rw [← e.1]
    exact ⟨h, hf⟩
  | false =>
    simp only [hb, cond_false] at e
    exact hr f fn' k' e

/-- A call on given values that touches no memory: by running the abstract code. -/
theorem pcalls_eval {tab : FTab} (htab : TabOK P tab) (n : Nat) {f : Nat} {args : List V} {v : V} (h : evF tab n f args [] = some (v, [])) (hu : v.under 0 = true) : PCalls P f args (fun x => x = v) :=
  (acalls_eval htab n h).mono fun x N ⟨e1, e2⟩ => ⟨e1, e2, by rw [e1]; exact hu⟩

end
end Go.Vm

/- A weaker post-condition: what follows a piece of code may be spoken of by a name. -/
namespace Go.Vm

theorem OptV_mono {o : Option V} {K K' : V → Prop} (h : OptV o K) (hk : ∀ v, K v → K' v) : OptV o K' := by
  cases o with
  | none => exact h
  | some v => exact hk v h
theorem OptB_mono {o : Option V} {K K' : Bool → Prop} (h : OptB o K) (hk : ∀ v, K v → K' v) : OptB o K' := by
  unfold OptB at h ⊢
  split
  · exact hk _ h
  · rename_i hn
    split at h
    · exact absurd rfl (hn _)
    · exact h
theorem OptVM_mono {o : Option (V × Mem)} {K K' : V → Mem → Prop} (h : OptVM o K) (hk : ∀ v M, K v M → K' v M) : OptVM o K' := by
  cases o with
  | none => exact h
  | some v => exact hk _ _ h
theorem BIf_mono {b : Bool} {A B A' B' : Prop} (h : BIf b A B) (h1 : A → A') (h2 : B → B') : BIf b A' B' := by
  cases b
  · exact h2 h
  · exact h1 h
theorem wpCall_mono {P : Program} {q : Bool} {f : Nat} {args : List V} {M : Mem} {K K' : V → Mem → Prop} (h : wpCall P q f args M K) (hk : ∀ v M, K v M → K' v M) : wpCall P q f args M K' := by
  cases q with
  | false => exact ACalls.mono h hk
  | true =>
    obtain ⟨v, h1, h4⟩ := h
    exact ⟨v, h1, hk _ _ h4⟩
theorem wpCallV_mono {P : Program} {q : Bool} {f : V} {args : List V} {M : Mem} {K K' : V → Mem → Prop} (h : wpCallV P q f args M K) (hk : ∀ v M, K v M → K' v M) : wpCallV P q f args M K' := by
  unfold wpCallV at h ⊢
  split
  · exact wpCall_mono h hk
  · exact wpCall_mono h hk
  · rename_i h1 h2
    split at h
    · exact absurd rfl (h1 _ _)
    · exact absurd rfl (h2 _ _)
    · exact h
theorem putV_mono {s : Slots} {dst : Option Nat} {isB : Bool} {v : V} {K K' : Slots → Prop} (h : putV s dst isB v K) (hk : ∀ s, K s → K' s) : putV s dst isB v K' := by
  cases isB with
  | true => exact OptB_mono h fun b hb => hk _ hb
  | false => exact hk _ h
theorem wpOp_mono {P : Program} {q : Bool} {o : AOp} {dst : Option Nat} {isB : Bool} {s : Slots} {M : Mem} {K K' : Slots → Mem → Prop} (h : wpOp P q o dst isB s M K) (hk : ∀ s M, K s M → K' s M) : wpOp P q o dst isB s M K' := by
  unfold wpOp at h ⊢
  split
  · exact wpCall_mono h fun v M' hv => putV_mono hv fun s' hs => hk _ _ hs
  · exact wpCallV_mono h fun v M' hv => putV_mono hv fun s' hs => hk _ _ hs
  · rename_i h1 h2
    split at h
    · exact absurd rfl (h1 _ _)
    · exact absurd rfl (h2 _ _)
    · split
      · rename_i hm
        rw [hm] at h
        exact OptVM_mono h fun v M' hv => hk _ _ hv
      · rename_i hm
        rw [hm] at h
        cases isB with
        | true => exact OptB_mono h fun b hb => hk _ _ hb
        | false => exact OptV_mono h fun b hb => hk _ _ hb
theorem wpOps_mono {P : Program} {q : Bool} : ∀ (os : List AOper) (s : Slots) (M : Mem) (K K' : Slots → Mem → Prop), wpOps P q os s M K → (∀ s M, K s M → K' s M) → wpOps P q os s M K'
  | [], s, M, K, K', h, hk => hk _ _ h
  | ⟨dst, op, isB, none⟩ :: os, s, M, K, K', h, hk => wpOp_mono h fun s' M' hs => wpOps_mono os _ _ _ _ hs hk
  | ⟨dst, op, isB, some (g, want)⟩ :: os, s, M, K, K', h, hk => by
    have op' : ∀ s M, wpOp P q op dst isB s M (fun s' M' => wpOps P q os s' M' K) → wpOp P q op dst isB s M (fun s' M' => wpOps P q os s' M' K') := fun s M h => wpOp_mono h fun s' M' hs => wpOps_mono os _ _ _ _ hs hk
    unfold wpOps at h ⊢
    split
    · rename_i b hb
      rw [hb] at h
      cases want with
      | true => exact BIf_mono h (op' _ _) (fun h => wpOps_mono os _ _ _ _ h hk)
      | false => exact BIf_mono h (fun h => wpOps_mono os _ _ _ _ h hk) (op' _ _)
    · rename_i hb
      rw [hb] at h
      exact wpOps_mono os _ _ _ _ h hk
    · rename_i hn1 hn2
      split at h
      · rename_i hb; exact absurd hb (hn1 _)
      · rename_i hb; exact absurd hb hn2
      · exact h

theorem wpOne_mono {P : Program} {q : Bool} {o : AOper} {s : Slots} {M : Mem} {K K' : Slots → Mem → Prop} (h : wpOne P q o s M K) (hk : ∀ s M, K s M → K' s M) : wpOne P q o s M K' := by
  obtain ⟨dst, op, isB, g⟩ := o
  cases g with
  | none => exact wpOp_mono h hk
  | some gw =>
    obtain ⟨g, want⟩ := gw
    unfold wpOne at h ⊢
    simp only at h ⊢
    split <;> rename_i hb <;> simp only [hb] at h
    · cases want with
      | true => exact BIf_mono h (fun h => wpOp_mono h hk) (hk _ _)
      | false => exact BIf_mono h (hk _ _) (fun h => wpOp_mono h hk)
    · exact hk _ _ h
theorem wpMix_mono {P : Program} : ∀ (os : List AOper) (qs : List Bool) (s : Slots) (M : Mem) (K K' : Slots → Mem → Prop), wpMix P os qs s M K → (∀ s M, K s M → K' s M) → wpMix P os qs s M K'
  | o :: os, q :: qs, s, M, K, K', h, hk => wpOne_mono h fun s' M' hs => wpMix_mono os qs _ _ _ _ hs hk
  | [], qs, s, M, K, K', h, hk => hk _ _ h
  | o :: os, [], s, M, K, K', h, hk => hk _ _ h

theorem wpFloat_mono {P : Program} : ∀ (os : List AOper) (fs : List (Option (List Nat))) (n : Nat) (H : List (Nat × (Mem → Prop))) (s : Slots) (M : Mem) (K K' : Slots → Mem → Prop), wpFloat P os fs n H s M K → (∀ s M, K s M → K' s M) → wpFloat P os fs n H s M K'
  | o :: os, none :: fs, n, H, s, M, K, K', h, hk => wpOne_mono h fun s' M' hs => wpFloat_mono os fs _ _ _ _ _ _ hs hk
  | o :: os, some l :: fs, n, H, s, M, K, K', h, hk => wpOne_mono h fun s' M' hs => ⟨hs.1, wpFloat_mono os fs _ _ _ _ _ _ hs.2 hk⟩
  | [], fs, n, H, s, M, K, K', h, hk => hk _ _ h
  | o :: os, [], n, H, s, M, K, K', h, hk => hk _ _ h

theorem wpC_mono {P : Program} : ∀ (c : ACode) (Q Q' : Exit → Slots → Mem → Prop) (s : Slots) (M : Mem), wpC P c Q s M → (∀ e s M, Q e s M → Q' e s M) → wpC P c Q' s M
  | .skip, Q, Q', s, M, h, hq => hq _ _ _ h
  | .label, Q, Q', s, M, h, hq => hq _ _ _ h
  | .exit _, Q, Q', s, M, h, hq => hq _ _ _ h
  | .goto _, Q, Q', s, M, h, hq => hq _ _ _ h
  | .ret, Q, Q', s, M, h, hq => hq _ _ _ h
  | .region ops live, Q, Q', s, M, h, hq => wpOps_mono ops _ _ _ _ h fun s' M' hs => hq _ _ _ hs
  | .mixed ops qs live, Q, Q', s, M, h, hq => wpMix_mono ops qs _ _ _ _ h fun s' M' hs => hq _ _ _ hs
  | .float ops fl live, Q, Q', s, M, h, hq => wpFloat_mono ops fl _ _ _ _ _ _ h fun s' M' hs => hq _ _ _ hs
  | .seq a b, Q, Q', s, M, h, hq => by
    refine wpC_mono a _ _ s M h fun e s' M' he => ?_
    cases e with
    | normal => exact wpC_mono b _ _ s' M' he hq
    | _ => exact hq _ _ _ he
  | .cond c a b, Q, Q', s, M, h, hq => by
    simp only [wpC] at h ⊢
    split at h
    · exact BIf_mono h (fun h => wpC_mono a _ _ s M h hq) (fun h => wpC_mono b _ _ s M h hq)
    · exact h.elim
  | .block id a, Q, Q', s, M, h, hq => by
    refine wpC_mono a _ _ s M h fun e s' M' he => ?_
    cases e with
    | exit id' =>
      simp only [blockK] at he ⊢
      cases hid : (id' == id) with
      | true => simp only [hid, cond_true] at he ⊢; exact hq _ _ _ he
      | false => simp only [hid, cond_false] at he ⊢; exact hq _ _ _ he
    | _ => exact hq _ _ _ he
  | .loop live a, Q, Q', s, M, h, hq => by
    obtain ⟨I, n, h0, hI⟩ := h
    refine ⟨I, n, h0, fun n vs M1 h1 => wpC_mono a _ _ _ _ (hI n vs M1 h1) fun e s' M' he => ?_⟩
    cases e with
    | normal => exact he
    | _ => exact hq _ _ _ he
  | .scope l live a rest, Q, Q', s, M, h, hq => by
    obtain ⟨J, h1, h2⟩ := h
    refine ⟨J, wpC_mono a _ _ _ _ h1 fun e s' M' he => ?_, fun n vs M1 hj => wpC_mono rest _ _ _ _ (h2 n vs M1 hj) fun e s' M' he => ?_⟩
    · cases e with
      | goto l' => exact he
      | _ => exact hq _ _ _ he
    · cases e with
      | goto l' => exact he
      | _ => exact hq _ _ _ he

/-- A piece of code that ends normally, in slots and memory of which J is known; then what follows. -/
theorem wpC_join {P : Program} {c : ACode} {Q : Exit → Slots → Mem → Prop} {s : Slots} {M : Mem} (J : Slots → Mem → Prop) (h : wpC P c (fun e s' M' => e = .normal ∧ J s' M') s M) (hq : ∀ s' M', J s' M' → Q .normal s' M') : wpC P c Q s M :=
  wpC_mono c _ _ s M h fun e s' M' ⟨he, hj⟩ => by subst he; exact hq _ _ hj

/-- The same with the slots and the memory known. -/
theorem wpC_to {P : Program} {c : ACode} {Q : Exit → Slots → Mem → Prop} {s : Slots} {M : Mem} (s1 : Slots) (M1 : Mem) (h : wpC P c (fun e s' M' => e = .normal ∧ s' = s1 ∧ M' = M1) s M) (hq : Q .normal s1 M1) : wpC P c Q s M :=
  wpC_mono c _ _ s M h fun e s' M' ⟨he, hs, hM⟩ => by subst he hs hM; exact hq

theorem BIf_iff {b : Bool} {A B : Prop} : BIf b A B ↔ (b = true → A) ∧ (b = false → B) := by cases b <;> simp [BIf]

end Go.Vm

/- Loops that count up, calls of known result, and what a call's arguments read as: the rules by which contracts are proved. -/
namespace Go.Vm

/-- A round's invariant by the rounds that are still to come. -/
def upI (I : Nat → List V → Mem → Prop) (n : Nat) (m : Nat) (vs : List V) (M : Mem) : Prop := ∃ i, m = n - i ∧ i ≤ n ∧ I i vs M

theorem next_stay {I : Nat → List V → Mem → Prop} {n i len : Nat} {live : List Nat} {Q : Exit → Slots → Mem → Prop} {s : Slots} {M : Mem} (h : i < n) (hI : I (i + 1) (vals s live) M) :
    roundK (upI I n) (n - i) len live Q .normal s M := roundK_stay (n - (i + 1)) (by omega) ⟨i + 1, rfl, h, hI⟩

theorem next_pop {I : Nat → List V → Mem → Prop} {n i len : Nat} {live : List Nat} {Q : Exit → Slots → Mem → Prop} {s : Slots} {M : Mem} (h : i < n) (hp : popOK len (vals s live) M = true) (hI : I (i + 1) (vals s live) (M.take len)) :
    roundK (upI I n) (n - i) len live Q .normal s M := roundK_pop (n - (i + 1)) (by omega) hp ⟨i + 1, rfl, h, hI⟩

/-- A loop that counts from 0 up to n. -/
theorem wpC_for {P : Program} {live : List Nat} {a : ACode} {Q : Exit → Slots → Mem → Prop} {s : Slots} {M : Mem} (n : Nat) (I : Nat → List V → Mem → Prop) (h0 : I 0 (vals s live) M)
    (step : ∀ i vs M1, i < n → decide ((i : Int) < (n : Int)) = true → I i vs M1 → wpC P a (roundK (upI I n) (n - i) M.length live Q) (zipS live vs) M1)
    (last : ∀ vs M1, I n vs M1 → wpC P a (roundK (upI I n) 0 M.length live Q) (zipS live vs) M1) : wpC P (.loop live a) Q s M := by
  refine wpC_loop (upI I n) n ⟨0, rfl, Nat.zero_le _, h0⟩ ?_
  rintro m vs M1 ⟨i, rfl, hi, h⟩
  rcases Nat.lt_or_ge i n with hlt | hge
  · exact step i vs M1 hlt (decide_eq_true (by omega)) h
  · have e : i = n := by omega
    subst e
    have := last vs M1 h
    rwa [Nat.sub_self]

/-- A loop over a list. -/
theorem wpC_forL {α : Type} {P : Program} {live : List Nat} {a : ACode} {Q : Exit → Slots → Mem → Prop} {s : Slots} {M : Mem} (l : List α) (I : Nat → List V → Mem → Prop) (h0 : I 0 (vals s live) M)
    (step : ∀ i x vs M1, l[i]? = some x → i < l.length → decide ((i : Int) < (l.length : Int)) = true → I i vs M1 → wpC P a (roundK (upI I l.length) (l.length - i) M.length live Q) (zipS live vs) M1)
    (last : ∀ vs M1, I l.length vs M1 → wpC P a (roundK (upI I l.length) 0 M.length live Q) (zipS live vs) M1) : wpC P (.loop live a) Q s M :=
  wpC_for l.length I h0 (fun i vs M1 hi hd h => step i l[i] vs M1 (List.getElem?_eq_getElem hi) hi hd h) last

theorem dec_irrefl (a : Int) : decide (a < a) = false := by simp

/-- A call of known result. -/
theorem call_det {P : Program} {f : Nat} {args : List V} {v : V} {M : Mem} {K : V → Mem → Prop} (h : PCalls P f args (fun x => x = v)) (hu : underL 0 args = true) (hk : K v M) : ACalls P f args M K :=
  PCalls.call h hu (fun x hx _ => by rw [hx]; exact hk)

def I64 (n : Int) : Prop := -9223372036854775808 ≤ n ∧ n ≤ 9223372036854775807

theorem i64_of_wf {n : Int} (h : (Lit.int .i64 n).wf = true) : I64 n := by
  have e : IntKind.i64.min = -9223372036854775808 := by decide
  have e' : IntKind.i64.max = 9223372036854775807 := by decide
  simp only [Lit.wf, e, e', Bool.and_eq_true, decide_eq_true_eq] at h
  exact h

theorem hasR_nil {vs : List V} (h : HasR [] vs) : vs = [] := List.length_eq_zero_iff.1 h.1
theorem hasR_cons {ct : CT} {cts : List CT} {vs : List V} (h : HasR (ct :: cts) vs) : ∃ x ys, vs = x :: ys ∧ HasC ct x ∧ HasR cts ys := by
  obtain ⟨hl, h⟩ := h
  cases vs with
  | nil => simp at hl
  | cons x ys => exact ⟨x, ys, rfl, h 0 x ct rfl rfl, by simpa using hl, fun j y c a b => h (j + 1) y c (by simpa using a) (by simpa using b)⟩
theorem hasC_bool {v : V} (h : HasC .bool v) : ∃ b, v = .bool b := by cases h; exact ⟨_, rfl⟩
theorem hasC_i64 {v : V} (h : HasC (.int .i64) v) : ∃ n, v = .int .i64 n ∧ I64 n := by
  cases h with
  | int k n hw => exact ⟨n, rfl, i64_of_wf hw⟩
theorem hasC_str {v : V} (h : HasC .str v) : ∃ s, v = .str s ∧ s.length ≤ maxLen := by cases h; exact ⟨_, rfl, ‹_›⟩

/-- A slice whose rows are read as data. -/
theorem hasC_slice {α : Type} {row : α → List V} {wf : α → Prop} {cts : List CT} (hr : ∀ vs, HasR cts vs → ∃ t, vs = row t ∧ wf t) {v : V} (h : HasC (.slice cts) v) :
    ∃ (l : List α) (c : Cap), v = .slice (l.map row) c ∧ (∀ t ∈ l, wf t) ∧ l.length ≤ maxLen ∧ (c = .nil ∧ l = [] ∨ c = .any) := by
  cases h with
  | slice _ rows c hc hl hz h =>
    have key : ∀ rows : List (List V), (∀ r ∈ rows, HasR cts r) → ∃ l : List α, rows = l.map row ∧ ∀ t ∈ l, wf t := by
      intro rows
      induction rows with
      | nil => exact fun _ => ⟨[], rfl, by simp⟩
      | cons r rows ih =>
        intro hh
        obtain ⟨t, rfl, ht⟩ := hr r (hh r (by simp))
        obtain ⟨l, rfl, hl⟩ := ih fun r' h' => hh r' (by simp [h'])
        exact ⟨t :: l, rfl, by simpa using ⟨ht, hl⟩⟩
    obtain ⟨l, rfl, hwf⟩ := key rows fun r hr' => by
      obtain ⟨i, hi⟩ := List.getElem?_of_mem hr'
      exact ⟨hz i r hi, fun j x ct a b => h i r j x ct hi a b⟩
    refine ⟨l, c, rfl, hwf, by simpa using hl, ?_⟩
    rcases hc with ⟨h1, h2⟩ | h1
    · exact .inl ⟨h1, by simpa using h2⟩
    · exact .inr h1

theorem hasAll_nil {xs : List V} (h : HasAll [] xs) : xs = [] := h
theorem hasAll_cons {p : PT} {ps : List PT} {xs : List V} (h : HasAll (p :: ps) xs) : ∃ x ys, xs = x :: ys ∧ HasP p x ∧ HasAll ps ys := h

/-- The first index with an error, and the error. -/
def firstErr (e : Nat → Int) (n : Nat) : Int × Int :=
  match (List.range n).find? (fun k => decide (e k ≠ 0)) with
  | some k => ((k : Int), e k)
  | none => (0, 0)

theorem firstErr_at {e : Nat → Int} {n i : Nat} (hi : i < n) (h : ∀ k, k < i → e k = 0) (he : e i ≠ 0) : firstErr e n = ((i : Int), e i) := by
  have : (List.range n).find? (fun k => decide (e k ≠ 0)) = some i := by
    rw [List.find?_range_eq_some]
    exact ⟨by simpa using he, by simpa using hi, fun j hj => by simp [h j hj]⟩
  simp only [firstErr, this]

theorem firstErr_none {e : Nat → Int} {n : Nat} (h : ∀ k, k < n → e k = 0) : firstErr e n = (0, 0) := by
  have : (List.range n).find? (fun k => decide (e k ≠ 0)) = none := by
    rw [List.find?_eq_none]
    intro k hk
    simp [h k (List.mem_range.1 hk)]
  simp only [firstErr, this]

end Go.Vm

/- What follows an operation, out of the reckoning's sight till the operation's own value is known. -/
namespace Go.Vm

class HoldP where p : Prop
class HoldB where k : Bool → Prop
class HoldV where k : V → Prop
class HoldM where k : V → Mem → Prop

def BIfH (b : Bool) [A : HoldP] [B : HoldP] : Prop := BIf b A.p B.p
def OptVH (o : Option V) [K : HoldV] : Prop := OptV o K.k
def OptBH (o : Option V) [K : HoldB] : Prop := OptB o K.k
def OptMH (o : Option (V × Mem)) [K : HoldM] : Prop := OptVM o K.k
def CallH (P : Program) (f : Nat) (args : List V) (M : Mem) [K : HoldM] : Prop := ACalls P f args M K.k
def CallQ (P : Program) (f : Nat) (args : List V) (M : Mem) [K : HoldM] : Prop := wpCall P true f args M K.k
def CallV (P : Program) (q : Bool) (f : V) (args : List V) (M : Mem) [K : HoldM] : Prop := wpCallV P q f args M K.k

theorem BIfH_true (A : Prop) (B : HoldP) : @BIfH true ⟨A⟩ B = A := rfl
theorem BIfH_false (A : HoldP) (B : Prop) : @BIfH false A ⟨B⟩ = B := rfl
theorem BIfH_not (b : Bool) (A B : HoldP) : @BIfH (!b) A B = @BIfH b B A := by cases b <;> rfl
/-- Both ways at once, in sight. -/
theorem open_if (b : Bool) (A B : Prop) : @BIfH b ⟨A⟩ ⟨B⟩ = BIf b A B := rfl
theorem OptVH_some (v : V) (K : V → Prop) : @OptVH (some v) ⟨K⟩ = K v := rfl
theorem OptBH_some (b : Bool) (K : Bool → Prop) : @OptBH (some (.bool b)) ⟨K⟩ = K b := rfl
theorem OptMH_some (v : V) (M : Mem) (K : V → Mem → Prop) : @OptMH (some (v, M)) ⟨K⟩ = K v M := rfl
theorem condB_held (t : Bool) (A B : Prop) : condB (.bool t) A B = @BIfH t ⟨A⟩ ⟨B⟩ := rfl
theorem CallV_pfn (P : Program) (f : Nat) (caps args : List V) (M : Mem) (K : HoldM) : @CallV P false (.pfn f caps) args M K = @CallH P f (args ++ caps) M K := rfl
theorem CallV_fn (P : Program) (f : Nat) (caps args : List V) (M : Mem) (K : HoldM) : @CallV P false (.fn f caps) args M K = @CallH P f (args ++ caps) M K := rfl
theorem CallVQ_pfn (P : Program) (f : Nat) (caps args : List V) (M : Mem) (K : HoldM) : @CallV P true (.pfn f caps) args M K = @CallQ P f (args ++ caps) M K := rfl
theorem CallVQ_fn (P : Program) (f : Nat) (caps args : List V) (M : Mem) (K : HoldM) : @CallV P true (.fn f caps) args M K = @CallQ P f (args ++ caps) M K := rfl

theorem ifD {p : Prop} [Decidable p] {A B : Prop} (h1 : p → A) (h2 : ¬ p → B) : @BIfH (decide p) ⟨A⟩ ⟨B⟩ := BIf_dec h1 h2
theorem ifB {b : Bool} {A B : Prop} (h1 : b = true → A) (h2 : b = false → B) : @BIfH b ⟨A⟩ ⟨B⟩ := BIf_of h1 h2

/-- A call whose contract is known. -/
theorem callA {P : Program} {f : Nat} {args : List V} {M : Mem} {R K : V → Mem → Prop} (h : ACalls P f args M R) (hk : ∀ v M', R v M' → K v M') : @CallH P f args M ⟨K⟩ := ACalls.mono h hk
theorem callD {P : Program} {f : Nat} {args : List V} {v : V} {M : Mem} {K : V → Mem → Prop} (h : PCalls P f args (fun x => x = v)) (hk : K v M) (hu : underL 0 args = true := by rfl) : @CallH P f args M ⟨K⟩ := call_det h hu hk
theorem callP {P : Program} {f : Nat} {args : List V} {R : V → Prop} {M : Mem} {K : V → Mem → Prop} (h : PCalls P f args R) (hk : ∀ v, R v → K v M) (hu : underL 0 args = true := by rfl) : @CallH P f args M ⟨K⟩ := PCalls.call h hu (fun v hv _ => hk v hv)
/-- A call of known result that leaves memory as it was. -/
theorem callM {P : Program} {f : Nat} {args : List V} {v : V} {M : Mem} {K : V → Mem → Prop} (h : ACalls P f args M (fun x M' => x = v ∧ M' = M)) (hk : K v M) : @CallH P f args M ⟨K⟩ :=
  ACalls.mono h fun x M' ⟨h1, h2⟩ => by rw [h1, h2]; exact hk
theorem callQD {P : Program} {f : Nat} {args : List V} {v : V} {M : Mem} {K : V → Mem → Prop} (h : PCalls P f args (fun x => x = v)) (hk : K v M) (hu : underL 0 args = true := by rfl) : @CallQ P f args M ⟨K⟩ :=
  ⟨v, PCalls.call h hu (fun x hx _ => ⟨hx, rfl⟩), hk⟩
theorem callQM {P : Program} {f : Nat} {args : List V} {v : V} {M : Mem} {K : V → Mem → Prop} (h : ACalls P f args M (fun x M' => x = v ∧ M' = M)) (hk : K v M) : @CallQ P f args M ⟨K⟩ := ⟨v, h, hk⟩

end Go.Vm

/- The laws of reckoning as one set. -/
namespace Go.Vm
theorem jumpK_normal (J : List V → Mem → Prop) (l : Nat) (live : List Nat) (Q : Exit → Slots → Mem → Prop) (s : Slots) (M : Mem) : jumpK J l live Q .normal s M = Q .normal s M := rfl
theorem jumpK_ret (J : List V → Mem → Prop) (l : Nat) (live : List Nat) (Q : Exit → Slots → Mem → Prop) (s : Slots) (M : Mem) : jumpK J l live Q .ret s M = Q .ret s M := rfl
theorem jumpK_exit (J : List V → Mem → Prop) (l : Nat) (live : List Nat) (Q : Exit → Slots → Mem → Prop) (id : Nat) (s : Slots) (M : Mem) : jumpK J l live Q (.exit id) s M = Q (.exit id) s M := rfl
theorem jumpK_goto (J : List V → Mem → Prop) (l : Nat) (live : List Nat) (Q : Exit → Slots → Mem → Prop) (l' : Nat) (s : Slots) (M : Mem) : jumpK J l live Q (.goto l') s M = (l' = l ∧ J (vals s live) M) := rfl
theorem roundK_normal (I : Nat → List V → Mem → Prop) (n len : Nat) (live : List Nat) (Q : Exit → Slots → Mem → Prop) (s : Slots) (M : Mem) : roundK I n len live Q .normal s M = ((∃ m, m < n ∧ I m (vals s live) M) ∨ (popOK len (vals s live) M = true ∧ ∃ m, m < n ∧ I m (vals s live) (M.take len))) := rfl

/-! ### Memory -/
theorem app_mslice (sz bytes id ver len : Nat) (xr : List (List V)) (c : Cap) (M : Mem) : appV false sz bytes (.mslice id ver 0 len) (.slice xr c) M = (bif headLen sz xr then (match M[id]? with
    | some (.arr z rows v fz) =>
      bif z == sz && v == ver && len == rows.length && decide ((rows.length + xr.length) * (2 * bytes) ≤ 2 ^ 48) then
        some (.mslice id (ver + 1) 0 (len + xr.length), M.set id (.arr sz (rows ++ xr) (ver + 1) fz))
      else none
    | some (.vec cells v) =>
      match xr with
      | [[x]] =>
        bif sz == 1 && v == ver && len == cells.length && decide ((cells.length + 1) * (2 * bytes) ≤ 2 ^ 48) then
          some (.mslice id (ver + 1) 0 (len + 1), M.set id (.vec (cells ++ [x]) (ver + 1)))
        else none
      | _ => none
    | _ => none) else none) := by
  simp only [appV, rowsV]
  cases headLen sz xr <;> rfl
theorem app_nil (sz bytes : Nat) (s : List (List V)) (c c' : Cap) (xr : List (List V)) (M : Mem) : appV true sz bytes (.slice s c) (.slice xr c') M = (bif headLen sz xr then bif headLen sz s && (decide (c = .nil) || decide (c = .full)) && decide ((s.length + xr.length) * (2 * bytes) ≤ 2 ^ 48) then some (.slice (s ++ xr) .unk, M) else none else none) := by
  simp only [appV, rowsV]
  cases headLen sz xr <;> rfl
theorem headLen_cons (n : Nat) (r : List V) (rs : List (List V)) : headLen n (r :: rs) = (r.length == n) := rfl
theorem headLen_nil (n : Nat) : headLen n [] = true := rfl
theorem headLen_map {α : Type} {f : α → List V} {n : Nat} (h : ∀ x, (f x).length = n) (l : List α) : headLen n (l.map f) = true := by
  cases l with
  | nil => rfl
  | cons x l => simp [headLen, h]
theorem newarr_eq (sz : Nat) (M : Mem) (h : 0 < sz) : newarrV sz M = some (.mslice M.length 0 0 0, M ++ [.arr sz [] 0 0]) := by
  cases sz with
  | zero => cases h
  | succ n => rfl
theorem newarr_zero (M : Mem) : newarrV 0 M = some (.mslice M.length 0 0 0, M ++ [.vec [] 0]) := rfl
theorem vecAt_one (cells : List V) (row : Nat) : vecAt 1 false 0 cells row = cells[row]? := rfl
theorem vecSet_one (x : V) (cells : List V) (row : Nat) : vecSet 0 [x] cells row = bif decide (row < cells.length) then some (cells.set row x) else none := rfl
theorem bytesStr_arr (id ver len : Nat) (M : Mem) : bytesStrV (.mslice id ver 0 len) M = (match M[id]? with
    | some (.arr z rows v _) => bif z == 1 && v == ver && decide (len ≤ rows.length) then (bytesOf (rows.take len)).map .str else none
    | _ => none) := by
  simp only [bytesStrV, rowsV, Nat.zero_add, List.drop_zero]
  cases M[id]? with
  | none => rfl
  | some B =>
    cases B with
    | arr z rows v fz => cases h : (z == 1 && v == ver && decide (len ≤ rows.length)) <;> simp [h]
    | _ => rfl
theorem dec_le {a b : Nat} (h : a ≤ b) : decide (a ≤ b) = true := decide_eq_true h
theorem minmax_max (k : IntKind) (a b : Int) : minmaxV true (.int k a) (.int k b) = some (.int k (max a b)) := by
  simp only [minmaxV, decide_true, cond_true, Int.max_def]
  congr 2
  split <;> split <;> omega
theorem minmax_min (k : IntKind) (a b : Int) : minmaxV false (.int k a) (.int k b) = some (.int k (min a b)) := by
  simp only [minmaxV, decide_true, cond_true, Int.min_def]
  congr 2
  split <;> split <;> omega
theorem mkfn_eq (f : Nat) (caps : List V) : mkfnV f caps = bif allPure caps then .pfn f caps else .fn f caps := rfl
theorem build_eq (z : List V) (ps : List (Nat × Nat × V)) : buildV z ps = (match fillA z ps with | some cs => some (.agg cs) | none => none) := rfl
theorem buildSlice_eq (z : List V) (sz len : Nat) (ps : List (Nat × Nat × V)) : buildSliceV z sz len ps = (match fillA z ps with | some cs => bif allPure cs then some (.slice (chunk sz len cs) .full) else none | none => none) := rfl

/-- A slice of a slice. -/
theorem slice_lh (sz : Nat) (rows : List (List V)) (c : Cap) (k k' : IntKind) (l h : Int) (M : Mem) (h1 : 0 ≤ l) (h2 : l ≤ h) (h3 : h ≤ (rows.length : Int)) (hz : headLen sz rows = true) :
    sliceV sz (.slice rows c) (some (.int k l)) (some (.int k' h)) none M = some (.slice ((rows.drop l.toNat).take (h.toNat - l.toNat)) (capS c h.toNat rows.length rows.length false)) := by
  have a1 : decide (0 ≤ l) = true := decide_eq_true h1
  have a2 : decide (0 ≤ h) = true := decide_eq_true (by omega)
  have a3 : decide (l.toNat ≤ h.toNat) = true := decide_eq_true (by omega)
  have a4 : decide (h.toNat ≤ rows.length) = true := decide_eq_true (by omega)
  simp only [sliceV, boundV, a1, a2, a3, a4, cond_true, hz, Bool.and_self, decide_true, Nat.le_refl, Option.isSome_none]
theorem slice_l (sz : Nat) (rows : List (List V)) (c : Cap) (k : IntKind) (l : Int) (M : Mem) (h1 : 0 ≤ l) (h2 : l ≤ (rows.length : Int)) (hz : headLen sz rows = true) :
    sliceV sz (.slice rows c) (some (.int k l)) none none M = some (.slice (rows.drop l.toNat) (capS c rows.length rows.length rows.length false)) := by
  have a1 : decide (0 ≤ l) = true := decide_eq_true h1
  have a3 : decide (l.toNat ≤ rows.length) = true := decide_eq_true (by omega)
  simp only [sliceV, boundV, a1, a3, cond_true, hz, Bool.and_self, decide_true, Nat.le_refl, Option.isSome_none]
  rw [List.take_of_length_le (by simp)]
theorem slice_h (sz : Nat) (rows : List (List V)) (c : Cap) (k' : IntKind) (h : Int) (M : Mem) (h2 : 0 ≤ h) (h3 : h ≤ (rows.length : Int)) (hz : headLen sz rows = true) :
    sliceV sz (.slice rows c) none (some (.int k' h)) none M = some (.slice (rows.take h.toNat) (capS c h.toNat rows.length rows.length false)) := by
  have a2 : decide (0 ≤ h) = true := decide_eq_true (by omega)
  have a4 : decide (h.toNat ≤ rows.length) = true := decide_eq_true (by omega)
  simp only [sliceV, boundV, a2, a4, cond_true, hz, Bool.and_self, decide_true, Nat.le_refl, Option.isSome_none, Nat.zero_le, Nat.sub_zero, List.drop_zero]

theorem makeMap_none (M : Mem) : makeMapV none M = some (.map M.length, M ++ [.map []]) := rfl
theorem makeMap_some (k : IntKind) (n : Int) (M : Mem) : makeMapV (some (.int k n)) M = some (.map M.length, M ++ [.map []]) := rfl
/-- An entry looked up; an entry set. -/
def lookE (c : CK) (z : V) (ok : Bool) (key : V) (es : List (V × V)) : Option V := lookupV c [z] false ok (.map 0) key [.map es]
def updE (c : CK) (key x : V) (es : List (V × V)) : Option (List (V × V)) := bif isKey c key && keysOk c key es && x.isPure then some (mapSet c key x es) else none
theorem lookup_eq (c : CK) (z : V) (ok : Bool) (id : Nat) (key : V) (M : Mem) : lookupV c [z] false ok (.map id) key M = (match M[id]? with | some (.map es) => lookE c z ok key es | _ => none) := by
  simp only [lookE, lookupV, mapFind, List.getElem?_cons_zero]
  cases h : M[id]? with
  | none => cases isKey c key <;> rfl
  | some B => cases B <;> cases isKey c key <;> rfl
theorem update_eq (c : CK) (id : Nat) (key x : V) (M : Mem) : mapUpdateVM c (.map id) key x M = (match M[id]? with | some (.map es) => (match updE c key x es with | some es' => some (.undef, M.set id (.map es')) | none => none) | _ => none) := by
  simp only [mapUpdateVM, mapUpdateV, updE]
  cases h : M[id]? with
  | none => rfl
  | some B =>
    cases B with
    | map es => simp only []; cases isKey c key && keysOk c key es && x.isPure <;> rfl
    | box _ => rfl
    | arr _ _ _ _ => rfl
    | vec _ _ => rfl
    | dead => rfl
theorem bin_agg_eql (ks : List CK) (xs ys : List V) : binV .eql (.cells ks) (.agg xs) (.agg ys) = (cellsEq ks xs ys).map .bool := rfl
theorem bin_agg_neq (ks : List CK) (xs ys : List V) : binV .neq (.cells ks) (.agg xs) (.agg ys) = (cellsEq ks xs ys).map fun b => .bool !b := rfl
theorem cellEq_int (k : IntKind) (a b : Int) : cellEq .int (.int k a) (.int k b) = some (decide (a = b)) := by simp [cellEq]
theorem cellEq_bool (a b : Bool) : cellEq .bool (.bool a) (.bool b) = some (decide (a = b)) := rfl
theorem cellEq_str (a b : List UInt8) : cellEq .str (.str a) (.str b) = some (decide (a = b)) := rfl
theorem cellsEqL_nil (xs ys : List V) : cellsEq [] xs ys = some true := by cases xs <;> rfl
theorem cellsEqL_cons (c : CK) (cs : List CK) (x y : V) (xs ys : List V) : cellsEq (c :: cs) (x :: xs) (y :: ys) = (match cellEq c x y, cellsEq cs xs ys with | some b, some d => some (b && d) | _, _ => none) := rfl
theorem take_len_map {α β : Type} (f : α → β) (l : List α) : (l.map f).take l.length = l.map f := List.take_of_length_le (by simp)

attribute [go_sem ↓] wpC_cond_tmp wpC_seq wpC_skip wpC_label wpC_ret wpC_exit wpC_goto wpC_block seqK_normal seqK_ret seqK_exit seqK_goto blockK_normal blockK_ret blockK_exit blockK_goto
  roundK_ret roundK_exit roundK_goto endK_normal endK_ret jumpK_normal jumpK_ret jumpK_exit jumpK_goto wpPop wpKeep
attribute [go_sem] peqV bin_and bin_or bin_xor bin_andNot condB_held popPost_some keepPost_some resAll resVs resV OptV_some OptVH_some OptBH_some OptMH_some BIfH_true BIfH_false BIfH_not BIf_true BIf_false BIf_not
  CallV_pfn CallV_fn CallVQ_pfn CallVQ_fn sinit sget zipS vals
  cond_true cond_false Nat.zero_add Nat.add_zero Nat.le_refl decide_true decide_false
  bin_add bin_sub bin_mul bin_eql bin_neq bin_lss bin_leq bin_gtr bin_geq bin_str_eql bin_str_neq bin_bool_eql bin_bool_neq un_not un_neg pick_true pick_false indexSl_slice indexSl_mslice indexArr_ok indexStr_ok move_rref move_ptr move_eptr
  load_rref load_ptr loadC_one loadC_agg load_eptr storeVM storeV lenV_slice lenV_mslice lenStrV_str extract_tuple conv_int field_agg allocV boxV
  List.length_cons List.length_nil List.length_map List.getElem?_map List.getElem?_cons_zero List.getElem?_cons_succ List.drop_zero List.drop_succ_cons List.take_succ_cons List.take_zero List.nil_append List.cons_append List.set_cons_zero List.set_cons_succ
  V.cells? putAt allCell V.isCell Bool.and_true Bool.and_self Bool.true_and Option.map_some Option.map_none Int.toNat_natCast toNat_sub1 toNat_add1 toNat_lit0 wrap_i64
  freezeV mapO V.under underL memUnder Blk.under V.isPure allPure true_and and_true V.bool.injEq V.int.injEq V.str.injEq
  app_mslice app_nil headLen_cons headLen_nil newarr_eq newarr_zero vecAt_one vecSet_one bytesStr_arr dec_le minmax_max minmax_min mkfn_eq build_eq buildSlice_eq fillA chunk bin_agg_eql bin_agg_neq cellEq_int cellEq_bool cellEq_str cellsEqL_nil cellsEqL_cons makeMap_none makeMap_some lookup_eq update_eq take_len_map beq_self_eq_true Bool.not_true Bool.not_false Bool.false_and Bool.and_false List.length_append
end Go.Vm
