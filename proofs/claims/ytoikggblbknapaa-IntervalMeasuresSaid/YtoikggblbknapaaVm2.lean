/- The abstract machine Vm, part 2: abstract values, code, and the weakest precondition that is proved sound. -/
import Derived.Test.YtoikggblbknapaaVm1
import Derived.Attr
set_option linter.unusedSimpArgs false
set_option linter.unusedVariables false

/- Loops that count up, calls of known result, and what a call's arguments read as: the rules by which contracts are proved. -/
namespace Go.Vm

/-- A round's invariant by the rounds that are still to come. -/
def upI (I : Nat → List V → Mem → Prop) (n : Nat) (m : Nat) (vs : List V) (M : Mem) : Prop := ∃ i, m = n - i ∧ i ≤ n ∧ I i vs M

theorem next_stay {I : Nat → List V → Mem → Prop} {n i len : Nat} {live : List Nat} {Q : Exit → Slots → Mem → Prop} {s : Slots} {M : Mem} (h : i < n) (hI : I (i + 1) (vals s live) M) :
    roundK (upI I n) (n - i) len live Q .normal s M := roundK_stay (n - (i + 1)) (by omega) ⟨i + 1, rfl, h, hI⟩

theorem next_pop {I : Nat → List V → Mem → Prop} {n i len : Nat} {live : List Nat} {Q : Exit → Slots → Mem → Prop} {s : Slots} {M : Mem} (h : i < n) (hp : popOK len (vals s live) M = true) (hI : I (i + 1) (vals s live) (M.take len)) :
    roundK (upI I n) (n - i) len live Q .normal s M := roundK_pop (n - (i + 1)) (by omega) hp ⟨i + 1, rfl, h, hI⟩

/-- A loop that counts from 0 up to n. -/
theorem wpC_for {P : Program} {live : List Nat} {a : ACode} {Q : Exit → Slots → Mem → Prop} {s : Slots} {M : Mem} (n : Nat) (I : Nat → List V → Mem → Prop) (h0 : I 0 (vals s live) M)
    (step : ∀ i vs M1, i < n → decide ((i : Int) < (n : Int)) = true → I i vs M1 → wpC P a (roundK (upI I n) (n - i) M.length live Q) (zipS live vs) M1)
    (last : ∀ vs M1, I n vs M1 → wpC P a (roundK (upI I n) 0 M.length live Q) (zipS live vs) M1) : wpC P (.loop live a) Q s M := by
  refine wpC_loop (upI I n) n ⟨0, rfl, Nat.zero_le _, h0⟩ ?_
  rintro m vs M1 ⟨i, rfl, hi, h⟩
  rcases Nat.lt_or_ge i n with hlt | hge
  · exact step i vs M1 hlt (decide_eq_true (by omega)) h
  · have e : i = n := by omega
    subst e
    have := last vs M1 h
    rwa [Nat.sub_self]

/-- A loop over a list. -/
theorem wpC_forL {α : Type} {P : Program} {live : List Nat} {a : ACode} {Q : Exit → Slots → Mem → Prop} {s : Slots} {M : Mem} (l : List α) (I : Nat → List V → Mem → Prop) (h0 : I 0 (vals s live) M)
    (step : ∀ i x vs M1, l[i]? = some x → i < l.length → decide ((i : Int) < (l.length : Int)) = true → I i vs M1 → wpC P a (roundK (upI I l.length) (l.length - i) M.length live Q) (zipS live vs) M1)
    (last : ∀ vs M1, I l.length vs M1 → wpC P a (roundK (upI I l.length) 0 M.length live Q) (zipS live vs) M1) : wpC P (.loop live a) Q s M :=
  wpC_for l.length I h0 (fun i vs M1 hi hd h => step i l[i] vs M1 (List.getElem?_eq_getElem hi) hi hd h) last

theorem dec_irrefl (a : Int) : decide (a < a) = false := by simp

/-- A call of known result. -/
theorem call_det {P : Program} {f : Nat} {args : List V} {v : V} {M : Mem} {K : V → Mem → Prop} (h : PCalls P f args (fun x => x = v)) (hu : underL 0 args = true) (hk : K v M) : ACalls P f args M K :=
  PCalls.call h hu (fun x hx _ => by rw [hx]; exact hk)

def I64 (n : Int) : Prop := -9223372036854775808 ≤ n ∧ n ≤ 9223372036854775807

theorem i64_of_wf {n : Int} (h : (Lit.int .i64 n).wf = true) : I64 n := by
  have e : IntKind.i64.min = -9223372036854775808 := by decide
  have e' : IntKind.i64.max = 9223372036854775807 := by decide
  simp only [Lit.wf, e, e', Bool.and_eq_true, decide_eq_true_eq] at h
  exact h

theorem hasR_nil {vs : List V} (h : HasR [] vs) : vs = [] := List.length_eq_zero_iff.1 h.1
theorem hasR_cons {ct : CT} {cts : List CT} {vs : List V} (h : HasR (ct :: cts) vs) : ∃ x ys, vs = x :: ys ∧ HasC ct x ∧ HasR cts ys := by
  obtain ⟨hl, h⟩ := h
  cases vs with
  | nil => simp at hl
  | cons x ys => exact ⟨x, ys, rfl, h 0 x ct rfl rfl, by simpa using hl, fun j y c a b => h (j + 1) y c (by simpa using a) (by simpa using b)⟩
theorem hasC_bool {v : V} (h : HasC .bool v) : ∃ b, v = .bool b := by cases h; exact ⟨_, rfl⟩
theorem hasC_i64 {v : V} (h : HasC (.int .i64) v) : ∃ n, v = .int .i64 n ∧ I64 n := by
  cases h with
  | int k n hw => exact ⟨n, rfl, i64_of_wf hw⟩
theorem hasC_str {v : V} (h : HasC .str v) : ∃ s, v = .str s ∧ s.length ≤ maxLen := by cases h; exact ⟨_, rfl, ‹_›⟩

/-- A slice whose rows are read as data. -/
theorem hasC_slice {α : Type} {row : α → List V} {wf : α → Prop} {cts : List CT} (hr : ∀ vs, HasR cts vs → ∃ t, vs = row t ∧ wf t) {v : V} (h : HasC (.slice cts) v) :
    ∃ (l : List α) (c : Cap), v = .slice (l.map row) c ∧ (∀ t ∈ l, wf t) ∧ l.length ≤ maxLen ∧ (c = .nil ∧ l = [] ∨ c = .any) := by
  cases h with
  | slice _ rows c hc hl hz h =>
    have key : ∀ rows : List (List V), (∀ r ∈ rows, HasR cts r) → ∃ l : List α, rows = l.map row ∧ ∀ t ∈ l, wf t := by
      intro rows
      induction rows with
      | nil => exact fun _ => ⟨[], rfl, by simp⟩
      | cons r rows ih =>
        intro hh
        obtain ⟨t, rfl, ht⟩ := hr r (hh r (by simp))
        obtain ⟨l, rfl, hl⟩ := ih fun r' h' => hh r' (by simp [h'])
        exact ⟨t :: l, rfl, by simpa using ⟨ht, hl⟩⟩
    obtain ⟨l, rfl, hwf⟩ := key rows fun r hr' => by
      obtain ⟨i, hi⟩ := List.getElem?_of_mem hr'
      exact ⟨hz i r hi, fun j x ct a b => h i r j x ct hi a b⟩
    refine ⟨l, c, rfl, hwf, by simpa using hl, ?_⟩
    rcases hc with ⟨h1, h2⟩ | h1
    · exact .inl ⟨h1, by simpa using h2⟩
    · exact .inr h1

theorem hasAll_nil {xs : List V} (h : HasAll [] xs) : xs = [] := h
theorem hasAll_cons {p : PT} {ps : List PT} {xs : List V} (h : HasAll (p :: ps) xs) : ∃ x ys, xs = x :: ys ∧ HasP p x ∧ HasAll ps ys := h

/-- The first index with an error, and the error. -/
def firstErr (e : Nat → Int) (n : Nat) : Int × Int :=
  match (List.range n).find? (fun k => decide (e k ≠ 0)) with
  | some k => ((k : Int), e k)
  | none => (0, 0)

theorem firstErr_at {e : Nat → Int} {n i : Nat} (hi : i < n) (h : ∀ k, k < i → e k = 0) (he : e i ≠ 0) : firstErr e n = ((i : Int), e i) := by
  have : (List.range n).find? (fun k => decide (e k ≠ 0)) = some i := by
    rw [List.find?_range_eq_some]
    exact ⟨by simpa using he, by simpa using hi, fun j hj => by simp [h j hj]⟩
  simp only [firstErr, this]

theorem firstErr_none {e : Nat → Int} {n : Nat} (h : ∀ k, k < n → e k = 0) : firstErr e n = (0, 0) := by
  have : (List.range n).find? (fun k => decide (e k ≠ 0)) = none := by
    rw [List.find?_eq_none]
    intro k hk
    simp [h k (List.mem_range.1 hk)]
  simp only [firstErr, this]

end Go.Vm

/- What follows an operation, out of the reckoning's sight till the operation's own value is known. -/
namespace Go.Vm

class HoldP where p : Prop
class HoldB where k : Bool → Prop
class HoldV where k : V → Prop
class HoldM where k : V → Mem → Prop

def BIfH (b : Bool) [A : HoldP] [B : HoldP] : Prop := BIf b A.p B.p
def OptVH (o : Option V) [K : HoldV] : Prop := OptV o K.k
def OptBH (o : Option V) [K : HoldB] : Prop := OptB o K.k
def OptMH (o : Option (V × Mem)) [K : HoldM] : Prop := OptVM o K.k
def CallH (P : Program) (f : Nat) (args : List V) (M : Mem) [K : HoldM] : Prop := ACalls P f args M K.k
def CallQ (P : Program) (f : Nat) (args : List V) (M : Mem) [K : HoldM] : Prop := wpCall P true f args M K.k
def CallV (P : Program) (q : Bool) (f : V) (args : List V) (M : Mem) [K : HoldM] : Prop := wpCallV P q f args M K.k

theorem BIfH_true (A : Prop) (B : HoldP) : @BIfH true ⟨A⟩ B = A := rfl
theorem BIfH_false (A : HoldP) (B : Prop) : @BIfH false A ⟨B⟩ = B := rfl
theorem BIfH_not (b : Bool) (A B : HoldP) : @BIfH (!b) A B = @BIfH b B A := by cases b <;> rfl
/-- Both ways at once, in sight. -/
theorem open_if (b : Bool) (A B : Prop) : @BIfH b ⟨A⟩ ⟨B⟩ = BIf b A B := rfl
theorem OptVH_some (v : V) (K : V → Prop) : @OptVH (some v) ⟨K⟩ = K v := rfl
theorem OptBH_some (b : Bool) (K : Bool → Prop) : @OptBH (some (.bool b)) ⟨K⟩ = K b := rfl
theorem OptMH_some (v : V) (M : Mem) (K : V → Mem → Prop) : @OptMH (some (v, M)) ⟨K⟩ = K v M := rfl
theorem condB_held (t : Bool) (A B : Prop) : condB (.bool t) A B = @BIfH t ⟨A⟩ ⟨B⟩ := rfl
theorem CallV_pfn (P : Program) (f : Nat) (caps args : List V) (M : Mem) (K : HoldM) : @CallV P false (.pfn f caps) args M K = @CallH P f (args ++ caps) M K := rfl
theorem CallV_fn (P : Program) (f : Nat) (caps args : List V) (M : Mem) (K : HoldM) : @CallV P false (.fn f caps) args M K = @CallH P f (args ++ caps) M K := rfl
theorem CallVQ_pfn (P : Program) (f : Nat) (caps args : List V) (M : Mem) (K : HoldM) : @CallV P true (.pfn f caps) args M K = @CallQ P f (args ++ caps) M K := rfl
theorem CallVQ_fn (P : Program) (f : Nat) (caps args : List V) (M : Mem) (K : HoldM) : @CallV P true (.fn f caps) args M K = @CallQ P f (args ++ caps) M K := rfl

theorem ifD {p : Prop} [Decidable p] {A B : Prop} (h1 : p → A) (h2 : ¬ p → B) : @BIfH (decide p) ⟨A⟩ ⟨B⟩ := BIf_dec h1 h2
theorem ifB {b : Bool} {A B : Prop} (h1 : b = true → A) (h2 : b = false → B) : @BIfH b ⟨A⟩ ⟨B⟩ := BIf_of h1 h2

/-- A call whose contract is known. -/
theorem callA {P : Program} {f : Nat} {args : List V} {M : Mem} {R K : V → Mem → Prop} (h : ACalls P f args M R) (hk : ∀ v M', R v M' → K v M') : @CallH P f args M ⟨K⟩ := ACalls.mono h hk
theorem callD {P : Program} {f : Nat} {args : List V} {v : V} {M : Mem} {K : V → Mem → Prop} (h : PCalls P f args (fun x => x = v)) (hk : K v M) (hu : underL 0 args = true := by rfl) : @CallH P f args M ⟨K⟩ := call_det h hu hk
theorem callP {P : Program} {f : Nat} {args : List V} {R : V → Prop} {M : Mem} {K : V → Mem → Prop} (h : PCalls P f args R) (hk : ∀ v, R v → K v M) (hu : underL 0 args = true := by rfl) : @CallH P f args M ⟨K⟩ := PCalls.call h hu (fun v hv _ => hk v hv)
/-- A call of known result that leaves memory as it was. -/
theorem callM {P : Program} {f : Nat} {args : List V} {v : V} {M : Mem} {K : V → Mem → Prop} (h : ACalls P f args M (fun x M' => x = v ∧ M' = M)) (hk : K v M) : @CallH P f args M ⟨K⟩ :=
  ACalls.mono h fun x M' ⟨h1, h2⟩ => by rw [h1, h2]; exact hk
theorem callQD {P : Program} {f : Nat} {args : List V} {v : V} {M : Mem} {K : V → Mem → Prop} (h : PCalls P f args (fun x => x = v)) (hk : K v M) (hu : underL 0 args = true := by rfl) : @CallQ P f args M ⟨K⟩ :=
  ⟨v, PCalls.call h hu (fun x hx _ => ⟨hx, rfl⟩), hk⟩
theorem callQM {P : Program} {f : Nat} {args : List V} {v : V} {M : Mem} {K : V → Mem → Prop} (h : ACalls P f args M (fun x M' => x = v ∧ M' = M)) (hk : K v M) : @CallQ P f args M ⟨K⟩ := ⟨v, h, hk⟩

end Go.Vm

/- The laws of reckoning as one set. -/
namespace Go.Vm
theorem jumpK_normal (J : List V → Mem → Prop) (l : Nat) (live : List Nat) (Q : Exit → Slots → Mem → Prop) (s : Slots) (M : Mem) : jumpK J l live Q .normal s M = Q .normal s M := rfl
theorem jumpK_ret (J : List V → Mem → Prop) (l : Nat) (live : List Nat) (Q : Exit → Slots → Mem → Prop) (s : Slots) (M : Mem) : jumpK J l live Q .ret s M = Q .ret s M := rfl
theorem jumpK_exit (J : List V → Mem → Prop) (l : Nat) (live : List Nat) (Q : Exit → Slots → Mem → Prop) (id : Nat) (s : Slots) (M : Mem) : jumpK J l live Q (.exit id) s M = Q (.exit id) s M := rfl
theorem jumpK_goto (J : List V → Mem → Prop) (l : Nat) (live : List Nat) (Q : Exit → Slots → Mem → Prop) (l' : Nat) (s : Slots) (M : Mem) : jumpK J l live Q (.goto l') s M = (l' = l ∧ J (vals s live) M) := rfl
theorem roundK_normal (I : Nat → List V → Mem → Prop) (n len : Nat) (live : List Nat) (Q : Exit → Slots → Mem → Prop) (s : Slots) (M : Mem) : roundK I n len live Q .normal s M = ((∃ m, m < n ∧ I m (vals s live) M) ∨ (popOK len (vals s live) M = true ∧ ∃ m, m < n ∧ I m (vals s live) (M.take len))) := rfl

/-! ### Memory -/
theorem app_mslice (sz bytes id ver len : Nat) (xr : List (List V)) (c : Cap) (M : Mem) : appV false sz bytes (.mslice id ver 0 len) (.slice xr c) M = (bif headLen sz xr then (match M[id]? with
    | some (.arr z rows v fz) =>
      bif z == sz && v == ver && len == rows.length && decide ((rows.length + xr.length) * (2 * bytes) ≤ 2 ^ 48) then
        some (.mslice id (ver + 1) 0 (len + xr.length), M.set id (.arr sz (rows ++ xr) (ver + 1) fz))
      else none
    | _ => none) else none) := by
  simp only [appV, rowsV]
  cases headLen sz xr <;> rfl
theorem app_nil (sz bytes : Nat) (s : List (List V)) (c c' : Cap) (xr : List (List V)) (M : Mem) : appV true sz bytes (.slice s c) (.slice xr c') M = (bif headLen sz xr then bif headLen sz s && (decide (c = .nil) || decide (c = .full)) && decide ((s.length + xr.length) * (2 * bytes) ≤ 2 ^ 48) then some (.slice (s ++ xr) .unk, M) else none else none) := by
  simp only [appV, rowsV]
  cases headLen sz xr <;> rfl
theorem headLen_cons (n : Nat) (r : List V) (rs : List (List V)) : headLen n (r :: rs) = (r.length == n) := rfl
theorem headLen_nil (n : Nat) : headLen n [] = true := rfl
theorem headLen_map {α : Type} {f : α → List V} {n : Nat} (h : ∀ x, (f x).length = n) (l : List α) : headLen n (l.map f) = true := by
  cases l with
  | nil => rfl
  | cons x l => simp [headLen, h]
theorem newarr_eq (sz : Nat) (M : Mem) : newarrV sz M = some (.mslice M.length 0 0 0, M ++ [.arr sz [] 0 0]) := rfl
theorem dec_le {a b : Nat} (h : a ≤ b) : decide (a ≤ b) = true := decide_eq_true h
theorem minmax_max (k : IntKind) (a b : Int) : minmaxV true (.int k a) (.int k b) = some (.int k (max a b)) := by
  simp only [minmaxV, decide_true, cond_true, Int.max_def]
  congr 2
  split <;> split <;> omega
theorem minmax_min (k : IntKind) (a b : Int) : minmaxV false (.int k a) (.int k b) = some (.int k (min a b)) := by
  simp only [minmaxV, decide_true, cond_true, Int.min_def]
  congr 2
  split <;> split <;> omega
theorem mkfn_eq (f : Nat) (caps : List V) : mkfnV f caps = bif allPure caps then .pfn f caps else .fn f caps := rfl
theorem build_eq (z : List V) (ps : List (Nat × Nat × V)) : buildV z ps = (match fillA z ps with | some cs => some (.agg cs) | none => none) := rfl
theorem buildSlice_eq (z : List V) (sz len : Nat) (ps : List (Nat × Nat × V)) : buildSliceV z sz len ps = (match fillA z ps with | some cs => bif allPure cs then some (.slice (chunk sz len cs) .full) else none | none => none) := rfl

/-- A slice of a slice. -/
theorem slice_lh (sz : Nat) (rows : List (List V)) (c : Cap) (k k' : IntKind) (l h : Int) (M : Mem) (h1 : 0 ≤ l) (h2 : l ≤ h) (h3 : h ≤ (rows.length : Int)) (hz : headLen sz rows = true) :
    sliceV sz (.slice rows c) (some (.int k l)) (some (.int k' h)) none M = some (.slice ((rows.drop l.toNat).take (h.toNat - l.toNat)) (capS c h.toNat rows.length rows.length false)) := by
  have a1 : decide (0 ≤ l) = true := decide_eq_true h1
  have a2 : decide (0 ≤ h) = true := decide_eq_true (by omega)
  have a3 : decide (l.toNat ≤ h.toNat) = true := decide_eq_true (by omega)
  have a4 : decide (h.toNat ≤ rows.length) = true := decide_eq_true (by omega)
  simp only [sliceV, boundV, a1, a2, a3, a4, cond_true, hz, Bool.and_self, decide_true, Nat.le_refl, Option.isSome_none]
theorem slice_l (sz : Nat) (rows : List (List V)) (c : Cap) (k : IntKind) (l : Int) (M : Mem) (h1 : 0 ≤ l) (h2 : l ≤ (rows.length : Int)) (hz : headLen sz rows = true) :
    sliceV sz (.slice rows c) (some (.int k l)) none none M = some (.slice (rows.drop l.toNat) (capS c rows.length rows.length rows.length false)) := by
  have a1 : decide (0 ≤ l) = true := decide_eq_true h1
  have a3 : decide (l.toNat ≤ rows.length) = true := decide_eq_true (by omega)
  simp only [sliceV, boundV, a1, a3, cond_true, hz, Bool.and_self, decide_true, Nat.le_refl, Option.isSome_none]
  rw [List.take_of_length_le (by simp)]
theorem slice_h (sz : Nat) (rows : List (List V)) (c : Cap) (k' : IntKind) (h : Int) (M : Mem) (h2 : 0 ≤ h) (h3 : h ≤ (rows.length : Int)) (hz : headLen sz rows = true) :
    sliceV sz (.slice rows c) none (some (.int k' h)) none M = some (.slice (rows.take h.toNat) (capS c h.toNat rows.length rows.length false)) := by
  have a2 : decide (0 ≤ h) = true := decide_eq_true (by omega)
  have a4 : decide (h.toNat ≤ rows.length) = true := decide_eq_true (by omega)
  simp only [sliceV, boundV, a2, a4, cond_true, hz, Bool.and_self, decide_true, Nat.le_refl, Option.isSome_none, Nat.zero_le, Nat.sub_zero, List.drop_zero]

theorem makeMap_none (M : Mem) : makeMapV none M = some (.map M.length, M ++ [.map []]) := rfl
theorem makeMap_some (k : IntKind) (n : Int) (M : Mem) : makeMapV (some (.int k n)) M = some (.map M.length, M ++ [.map []]) := rfl
/-- An entry looked up; an entry set. -/
def lookE (c : CK) (z : V) (ok : Bool) (key : V) (es : List (V × V)) : Option V := lookupV c [z] false ok (.map 0) key [.map es]
def updE (c : CK) (key x : V) (es : List (V × V)) : Option (List (V × V)) := bif isKey c key && keysOk c key es && x.isPure then some (mapSet c key x es) else none
theorem lookup_eq (c : CK) (z : V) (ok : Bool) (id : Nat) (key : V) (M : Mem) : lookupV c [z] false ok (.map id) key M = (match M[id]? with | some (.map es) => lookE c z ok key es | _ => none) := by
  simp only [lookE, lookupV, mapFind, List.getElem?_cons_zero]
  cases h : M[id]? with
  | none => cases isKey c key <;> rfl
  | some B => cases B <;> cases isKey c key <;> rfl
theorem update_eq (c : CK) (id : Nat) (key x : V) (M : Mem) : mapUpdateVM c (.map id) key x M = (match M[id]? with | some (.map es) => (match updE c key x es with | some es' => some (.undef, M.set id (.map es')) | none => none) | _ => none) := by
  simp only [mapUpdateVM, mapUpdateV, updE]
  cases h : M[id]? with
  | none => rfl
  | some B =>
    cases B with
    | map es => simp only []; cases isKey c key && keysOk c key es && x.isPure <;> rfl
    | box _ => rfl
    | arr _ _ _ _ => rfl
theorem bin_agg_eql (ks : List CK) (xs ys : List V) : binV .eql (.cells ks) (.agg xs) (.agg ys) = (cellsEq ks xs ys).map .bool := rfl
theorem bin_agg_neq (ks : List CK) (xs ys : List V) : binV .neq (.cells ks) (.agg xs) (.agg ys) = (cellsEq ks xs ys).map fun b => .bool !b := rfl
theorem cellEq_int (k : IntKind) (a b : Int) : cellEq .int (.int k a) (.int k b) = some (decide (a = b)) := by simp [cellEq]
theorem cellEq_bool (a b : Bool) : cellEq .bool (.bool a) (.bool b) = some (decide (a = b)) := rfl
theorem cellEq_str (a b : List UInt8) : cellEq .str (.str a) (.str b) = some (decide (a = b)) := rfl
theorem cellsEqL_nil (xs ys : List V) : cellsEq [] xs ys = some true := by cases xs <;> rfl
theorem cellsEqL_cons (c : CK) (cs : List CK) (x y : V) (xs ys : List V) : cellsEq (c :: cs) (x :: xs) (y :: ys) = (match cellEq c x y, cellsEq cs xs ys with | some b, some d => some (b && d) | _, _ => none) := rfl
theorem take_len_map {α β : Type} (f : α → β) (l : List α) : (l.map f).take l.length = l.map f := List.take_of_length_le (by simp)

attribute [go_sem ↓] wpC_cond_tmp wpC_seq wpC_skip wpC_label wpC_ret wpC_exit wpC_goto wpC_block seqK_normal seqK_ret seqK_exit seqK_goto blockK_normal blockK_ret blockK_exit blockK_goto
  roundK_ret roundK_exit roundK_goto endK_normal endK_ret jumpK_normal jumpK_ret jumpK_exit jumpK_goto wpPop wpKeep
attribute [go_sem] peqV bin_and bin_or bin_xor bin_andNot condB_held popPost_some keepPost_some resAll resVs resV OptV_some OptVH_some OptBH_some OptMH_some BIfH_true BIfH_false BIfH_not BIf_true BIf_false BIf_not
  CallV_pfn CallV_fn CallVQ_pfn CallVQ_fn sinit sget zipS vals
  cond_true cond_false Nat.zero_add Nat.add_zero Nat.le_refl decide_true decide_false
  bin_add bin_sub bin_mul bin_eql bin_neq bin_lss bin_leq bin_gtr bin_geq bin_str_eql bin_str_neq bin_bool_eql bin_bool_neq un_not un_neg pick_true pick_false indexSl_slice indexSl_mslice indexArr_ok indexStr_ok move_rref move_ptr move_eptr
  load_rref load_ptr loadC_one loadC_agg load_eptr storeVM storeV lenV_slice lenV_mslice lenStrV_str extract_tuple conv_int field_agg allocV boxV
  List.length_cons List.length_nil List.length_map List.getElem?_map List.getElem?_cons_zero List.getElem?_cons_succ List.drop_zero List.drop_succ_cons List.take_succ_cons List.take_zero List.nil_append List.cons_append List.set_cons_zero List.set_cons_succ
  V.cells? putAt allCell V.isCell Bool.and_true Bool.and_self Bool.true_and Option.map_some Option.map_none Int.toNat_natCast toNat_sub1 toNat_add1 toNat_lit0 wrap_i64
  freezeV mapO V.under underL memUnder Blk.under V.isPure allPure true_and and_true V.bool.injEq V.int.injEq V.str.injEq
  app_mslice app_nil headLen_cons headLen_nil newarr_eq dec_le minmax_max minmax_min mkfn_eq build_eq buildSlice_eq fillA chunk bin_agg_eql bin_agg_neq cellEq_int cellEq_bool cellEq_str cellsEqL_nil cellsEqL_cons makeMap_none makeMap_some lookup_eq update_eq take_len_map beq_self_eq_true Bool.not_true Bool.not_false Bool.false_and Bool.and_false List.length_append
end Go.Vm
