/- The abstract machine Vm, part 2: abstract values, code, and the weakest precondition that is proved sound. -/
import Derived.Test.YtmbeokppfdalfaaVm1
import Derived.Test.YtmbeokppfdalfaaVm0
import Derived.Attr
set_option linter.unusedSimpArgs false
set_option linter.unusedVariables false

/- A law that returns true on all that its arguments can read as: its row's step. -/
namespace Go.Vm
open Go.RowKit (Below)
open Go.ChangeShapes Go.WideShapes

inductive PT where
  | cell (ct : CT)
  | agg (row : List CT)

def HasP : PT → V → Prop
  | .cell ct, v => HasC ct v
  | .agg row, v => ∃ vs, v = .agg vs ∧ HasR row vs

def HasAll : List PT → List V → Prop
  | [], xs => xs = []
  | p :: ps, xs => ∃ x ys, xs = x :: ys ∧ HasP p x ∧ HasAll ps ys

def paramT (P : Program) (t : TypeId) : Option PT :=
  match P.underlying t with
  | some (.struct _) => (flatT P 12 t).map .agg
  | _ =>
    match flatT P 12 t with
    | some [ct] => some (.cell ct)
    | _ => none

def paramsT (P : Program) : List TypeId → Option (List PT)
  | [] => some []
  | t :: ts =>
    match paramT P t, paramsT P ts with
    | some p, some ps => some (p :: ps)
    | _, _ => none

section
variable {H : Type} {enc : TypeId × Value → H} {P : Program} {w : World} {Γ : Env}

theorem flat_one {n : Nat} {t : TypeId} {ct : CT} (h : flatT P n t = some [ct]) (hns : ∀ fs, P.underlying t ≠ some (.struct fs)) {r : Reach} {b0 : Nat} {v : Value} (hv : Value.okWide P w r b0 t v) : v.cells = #[v] := by
  cases n with
  | zero => simp [flatT] at h
  | succ n =>
    unfold flatT at h
    split at h
    · rename_i hu
      obtain ⟨b, rfl⟩ := okWide_bool hu hv
      rfl
    · rename_i k hu
      obtain ⟨b, rfl⟩ := okWide_int hu hv
      rfl
    · rename_i hu
      obtain ⟨b, rfl⟩ := okWide_string hu hv
      rfl
    · rename_i e hu
      obtain ⟨a, b, c, rfl⟩ := okWide_slice hu hv
      rfl
    · rename_i fs hu
      exact absurd hu (hns fs)
    · cases h

theorem arg_read (hS : ∀ b o v, w.cell? ⟨b, o, none⟩ = some v → Γ.S b o) {r : Reach} {b0 : Nat} {t : TypeId} {v : Value} {d : DataW H} {p : List MemPlace} {pt : PT} (hpt : paramT P t = some pt)
    (hv : Value.okWide P w r b0 t v) (h : DataW.Trod enc P w 0 (fun _ => true) true t v d p) : ∃ x, HasP pt x ∧ Rep w Γ x v := by
  obtain ⟨fuel, hf⟩ := h
  unfold paramT at hpt
  split at hpt
  · rename_i fs hu
    obtain ⟨cs, rfl, hl⟩ := okWide_struct hu hv
    obtain ⟨row, hrow, rfl⟩ := Option.map_eq_some_iff.1 hpt
    have := trod_flat (Γ := Γ) hS _ _ _ _ _ _ hrow hf
    obtain ⟨vs, h1, h2, h3⟩ := this.pick
    refine ⟨.agg vs, ⟨vs, rfl, h1⟩, .agg vs cs ?_ ?_⟩
    · simpa [Value.cells] using h2
    · simpa [Value.cells] using h3
  · rename_i hns
    split at hpt
    · rename_i ct hct
      simp only [Option.some.injEq] at hpt
      subst hpt
      have hc := flat_one hct hns hv
      rw [hc] at hf
      have := trod_flat (Γ := Γ) hS _ _ _ _ _ _ hct hf
      obtain ⟨x, h1, h2⟩ := this.2 0 ct v rfl rfl
      exact ⟨x, h1, h2⟩
    · cases hpt

theorem args_read (hS : ∀ b o v, w.cell? ⟨b, o, none⟩ = some v → Γ.S b o) {r : Reach} {b0 : Nat} : ∀ (ts : List TypeId) (vs : List Value) (ds : List (DataW H)) (p : List MemPlace) (pts : List PT),
    DataW.TrodAll enc P w 0 (fun _ => true) true ts vs ds p → (∀ (j : Nat) t v, ts[j]? = some t → vs[j]? = some v → Value.okWide P w r b0 t v) → paramsT P ts = some pts →
    ∃ xs, HasAll pts xs ∧ xs.length = vs.length ∧ ds.length = pts.length ∧ ∀ (j : Nat) (x : V) (v : Value), xs[j]? = some x → vs[j]? = some v → Rep w Γ x v
  | [], vs, ds, p, pts, h, _, hp => by
    simp only [paramsT, Option.some.injEq] at hp
    subst hp
    obtain ⟨rfl, rfl, rfl⟩ := trodAll_nil h
    exact ⟨[], rfl, rfl, rfl, fun j x v h => by simp at h⟩
  | t :: ts, vs, ds, p, pts, h, hok, hp => by
    obtain ⟨v, vs1, d, ds1, a, b, rfl, rfl, rfl, h1, h2⟩ := trodAll_cons h
    simp only [paramsT] at hp
    split at hp
    · rename_i pt ps hpt hps
      simp only [Option.some.injEq] at hp
      subst hp
      obtain ⟨x, hx, hr⟩ := arg_read (Γ := Γ) hS hpt (hok 0 t v rfl rfl) h1
      obtain ⟨xs, hxs, hl, hdl, hrs⟩ := args_read hS ts vs1 ds1 b ps h2 (fun j t' v' ht hv => hok (j + 1) t' v' (by simpa using ht) (by simpa using hv)) hps
      refine ⟨x :: xs, ⟨x, xs, rfl, hx, hxs⟩, by simp [hl], by simp [hdl], fun j y v' hy hv => ?_⟩
      cases j with
      | zero => simp at hy hv; subst hy; subst hv; exact hr
      | succ j => exact hrs j y v' (by simpa using hy) (by simpa using hv)
    · cases hp

theorem trodAll_below {W W' : World} (hl : laidOutB P = true) (hb : Below W.heap.size W W') : ∀ (ts : List TypeId) (vs : List Value) (ds : List (DataW H)) (p : List MemPlace),
    (∀ t ∈ ts, P.readableRec t = true ∧ t < P.types.size) → DataW.TrodAll enc P W 0 (fun _ => true) true ts vs ds p → (∀ x ∈ p, x.block < W.heap.size) →
    DataW.TrodAll enc P W' 0 (fun b => decide (b < W.heap.size)) true ts vs ds p
  | [], vs, ds, p, _, h, _ => by
    obtain ⟨rfl, rfl, rfl⟩ := trodAll_nil h
    exact trodAll_mk0
  | t :: ts, vs, ds, p, hr, h, hp => by
    obtain ⟨v, vs1, d, ds1, a, b, rfl, rfl, rfl, h1, h2⟩ := trodAll_cons h
    have h3 := hr t (by simp)
    exact ⟨a, b, Below.trod hl h3.1 h3.2 h1 hb (fun x hx => hp x (by simp [hx])), trodAll_below hl hb ts vs1 ds1 b (fun t' ht => hr t' (by simp [ht])) h2 (fun x hx => hp x (by simp [hx])), rfl⟩

end

def readableAll (P : Program) (ts : List TypeId) : Bool := ts.all fun t => P.readableRec t && decide (t < P.types.size)

/-- The start: all cells that are there are settled, and no block is the call's own. -/
def Env.start (w : World) : Env := ⟨w.heap.size, [], fun b o => ∃ v, w.cell? ⟨b, o, none⟩ = some v⟩

theorem Good.start (w : World) : Good w (Env.start w) [] where
  len := rfl
  blk i l B h := by simp [Env.start] at h
  b0 i l h := by simp [Env.start] at h
  inj i j l l' h := by simp [Env.start] at h
  scell b o h := h
  base := Nat.le_refl _

/-- A law's step. -/
theorem lift_law {H : Type} {enc : TypeId × Value → H} {C : Checked} {os : Os} {f : FuncId} {fn : Func} {s : ChangeSpec} {conds : List PathCond} {fresh handsOn : Bool} {pts : List PT} {tb : TypeId} {a : Assume}
    (own : ownKnob C.prog.godebug = none) (laidOut : laidOutB C.prog = true) (started : os.Started) (noInit : C.prog.inits.idxOf? f = none) (hfn : C.prog.funcs[f]? = some fn)
    (hvars : s.vars = []) (hs : ∀ ds : List (DataW H), ds.length = pts.length → s.fn H ds = { results := [.lit (.bool true)], args := ds })
    (hpt : paramsT C.prog fn.params.toList = some pts) (hread : readableAll C.prog fn.params.toList = true) (hres : fn.resultTypes = #[tb]) (htb : C.prog.underlying tb = some .bool)
    (witness : ∃ (w : World) (tape : Tape) (i : Input), w.os = os ∧ (w.forCall tape i).Shaped C.prog ∧ i.vars = [] ∧ Input.okWide C.prog (w.forCall tape i) .any w.heap.size f i ∧
      s.pre6 enc C.prog fn conds false (w.forCall tape i).memory i.args ∧ a.holds C.prog (lone (Frame.enter C.prog f i.args .normal) [] (w.forCall tape i)))
    (law : ∀ xs, HasAll pts xs → ACalls C.prog f xs [] (fun v _ => v = .bool true)) :
    ReturnsInHanded a C os f .any (s.pre6 enc C.prog fn conds false) (s.post enc C.prog fn false fresh handsOn false) := by
  refine returnsInHanded_of_change (C := C) own started noInit hfn witness ?_
  intro W base args ds gs before hval hW _ _
  have hW' := hW
  have hlt := hW.lt
  obtain ⟨p, q, hA, hV, rfl, hfz, hnd⟩ := hW
  rw [hvars] at hV
  obtain ⟨rfl, rfl⟩ := trodVars_none hV
  obtain ⟨xs, hxs, hl, hdl, hrep⟩ := args_read (Γ := Env.start W) (fun b o v h => ⟨v, h⟩) fn.params.toList args.toList ds p pts hA (fun j t v ht hv => hval j t v (by simpa using ht) (by simpa using hv)) hpt
  have hrl : RepL W (Env.start W) xs args := ⟨by simpa using hl.symm, fun j x hx => by
    have hj : j < xs.length := (List.getElem?_eq_some_iff.1 hx).1
    have hj2 : j < args.size := by simpa [hl] using hj
    have := hrep j x args[j] hx (by simp [hj2])
    rw [Array.getD_eq_getD_getElem?, Array.getElem?_eq_getElem hj2]
    exact this⟩
  refine ((law xs hxs).2 W (Env.start W) args (Good.start W) hrl).mono fun e W' he => ?_
  obtain ⟨v, cv, Γ', M', rfl, rfl, hr, _, hext⟩ := he
  have hb : Below W.heap.size W W' := hext.below
  cases hr with
  | bool =>
    have hfnds := hs ds hdl
    refine ⟨_, rfl, ds, [], p ++ [], [], p, [], hW', ?_, ?_, ?_, hb.frame _, fun h => by cases h⟩
    · rw [List.append_nil, hfnds, hres]
      exact trodAll_mk1 (Go.RowKit.shut_bool htb _)
    · rw [List.append_nil, hfnds]
      exact trodAll_below laidOut hb _ _ _ _ (fun t ht => by
        have := List.all_eq_true.1 hread t ht
        simpa using this) hA (fun x hx => hlt x (by simp [hx]))
    · rw [List.append_nil, hfnds, hvars]
      rfl

end Go.Vm

/- Abstract code, run on given values: what it ends in is its contract. -/
namespace Go.Vm

abbrev CallFn := Nat → List V → Mem → Option (V × Mem)
abbrev Out := Exit × Slots × Mem

def evCall (cl : CallFn) (q : Bool) (f : Nat) (args : List V) (M : Mem) : Option (V × Mem) :=
  match q with
  | false => cl f args M
  | true =>
    bif underL 0 args then
      match cl f args [] with
      | some (v, []) => bif v.under 0 then some (v, M) else none
      | _ => none
    else none

def evCallV (cl : CallFn) (q : Bool) (f : V) (args : List V) (M : Mem) : Option (V × Mem) :=
  match f with
  | .pfn f caps => evCall cl q f (args ++ caps) M
  | .fn f caps => evCall cl q f (args ++ caps) M
  | _ => none

def evPut (s : Slots) (dst : Option Nat) (isB : Bool) (r : Option (V × Mem)) : Option (Slots × Mem) :=
  match r with
  | some (v, M) =>
    match isB with
    | true => match v with | .bool b => some (sputO s dst (.bool b), M) | _ => none
    | false => some (sputO s dst v, M)
  | none => none

def evOp (cl : CallFn) (q : Bool) (o : AOp) (dst : Option Nat) (isB : Bool) (s : Slots) (M : Mem) : Option (Slots × Mem) :=
  match o with
  | .call f args => evPut s dst isB (evCall cl q f (evL s args) M)
  | .callv fx args => evPut s dst isB (evCallV cl q (ev s fx) (evL s args) M)
  | op =>
    match op.isMem with
    | true => match mstep op s M with | some (v, M') => some (sputO s dst v, M') | none => none
    | false => evPut s dst isB (match pstep op s M with | some v => some (v, M) | none => none)

def evOps (cl : CallFn) (q : Bool) : List AOper → Slots → Mem → Option (Slots × Mem)
  | [], s, M => some (s, M)
  | ⟨dst, op, isB, none⟩ :: os, s, M =>
    match evOp cl q op dst isB s M with
    | some (s', M') => evOps cl q os s' M'
    | none => none
  | ⟨dst, op, isB, some (g, want)⟩ :: os, s, M =>
    match sget s g with
    | .bool b =>
      bif b == want then
        match evOp cl q op dst isB (sput s g (.bool b)) M with
        | some (s', M') => evOps cl q os s' M'
        | none => none
      else evOps cl q os (sputO (sput s g (.bool b)) dst (.tuple [])) M
    | .tuple [] => evOps cl q os (sputO s dst (.tuple [])) M
    | _ => none

def evOne (cl : CallFn) (q : Bool) (o : AOper) (s : Slots) (M : Mem) : Option (Slots × Mem) :=
  match o with
  | ⟨dst, op, isB, none⟩ => evOp cl q op dst isB s M
  | ⟨dst, op, isB, some (g, want)⟩ =>
    match sget s g with
    | .bool b =>
      bif b == want then evOp cl q op dst isB (sput s g (.bool b)) M
      else some (sputO (sput s g (.bool b)) dst (.tuple []), M)
    | .tuple [] => some (sputO s dst (.tuple []), M)
    | _ => none

def evMix (cl : CallFn) : List AOper → List Bool → Slots → Mem → Option (Slots × Mem)
  | o :: os, q :: qs, s, M =>
    match evOne cl q o s M with
    | some (s', M') => evMix cl os qs s' M'
    | none => none
  | _, _, s, M => some (s, M)

mutual
/-- Two values are the same. -/
def veq : V → V → Bool
  | .undef, .undef => true
  | .bool a, .bool b => a == b
  | .int k a, .int k' b => decide (k = k') && decide (a = b)
  | .str a, .str b => decide (a = b)
  | .nilp, .nilp => true
  | .nilf, .nilf => true
  | .nilm, .nilm => true
  | .slice a c, .slice b d => veqLL a b && decide (c = d)
  | .rref a, .rref b => veqL a b
  | .pfn f a, .pfn g b => Nat.beq f g && veqL a b
  | .ptr i o, .ptr j p => Nat.beq i j && Nat.beq o p
  | .eptr i v r o, .eptr i' v' r' o' => Nat.beq i i' && Nat.beq v v' && Nat.beq r r' && Nat.beq o o'
  | .mslice i v r o, .mslice i' v' r' o' => Nat.beq i i' && Nat.beq v v' && Nat.beq r r' && Nat.beq o o'
  | .map i, .map j => Nat.beq i j
  | .fn f a, .fn g b => Nat.beq f g && veqL a b
  | .agg a, .agg b => veqL a b
  | .tuple a, .tuple b => veqL a b
  | _, _ => false
def veqL : List V → List V → Bool
  | [], [] => true
  | x :: xs, y :: ys => veq x y && veqL xs ys
  | _, _ => false
def veqLL : List (List V) → List (List V) → Bool
  | [], [] => true
  | x :: xs, y :: ys => veqL x y && veqLL xs ys
  | _, _ => false
end

def evFind : List (Nat × AOp × Slots × V) → Nat → Option (AOp × Slots × V)
  | [], _ => none
  | (i, x) :: H, j => match Nat.beq i j with | true => some x | false => evFind H j

def evCheck (H : List (Nat × AOp × Slots × V)) : List Nat → Mem → Bool
  | [], _ => true
  | j :: js, M =>
    (match evFind H j with
     | some (op, s, v) => (match pstep op s M with | some x => veq x v | none => false)
     | none => false) && evCheck H js M

def evFloat (cl : CallFn) : List AOper → List (Option (List Nat)) → Nat → List (Nat × AOp × Slots × V) → Slots → Mem → Option (Slots × Mem)
  | o :: os, none :: fs, n, H, s, M =>
    match evOne cl true o s M with
    | some (s', M') => evFloat cl os fs (n + 1) ((n, o.op, s, dstV s' o.dst) :: H) s' M'
    | none => none
  | o :: os, some l :: fs, n, H, s, M =>
    match evOne cl false o s M with
    | some (s', M') => bif evCheck H l M' then evFloat cl os fs (n + 1) H s' M' else none
    | none => none
  | _, _, _, _, s, M => some (s, M)

def evLoop (body : Slots → Mem → Option Out) (live : List Nat) (len : Nat) : Nat → List V → Mem → Option Out
  | 0, _, _ => none
  | k + 1, vs, M =>
    match body (zipS live vs) M with
    | some (.normal, s, M') => bif popOK len (vals s live) M' then evLoop body live len k (vals s live) (M'.take len) else evLoop body live len k (vals s live) M'
    | r => r

def evJump (rest : Slots → Mem → Option Out) (l : Nat) (live : List Nat) : Nat → Option Out → Option Out
  | 0, _ => none
  | k + 1, some (.goto l', s, M) => bif l' == l then evJump rest l live k (rest (zipS live (vals s live)) M) else none
  | _ + 1, r => r

def evC (cl : CallFn) : Nat → ACode → Slots → Mem → Option Out
  | 0, _, _, _ => none
  | n + 1, c, s, M =>
    match c with
    | .skip => some (.normal, s, M)
    | .label => some (.normal, s, M)
    | .region ops live => match evOps cl false ops s M with | some (s', M') => some (.normal, snorm s' live, M') | none => none
    | .mixed ops qs live => match evMix cl ops qs s M with | some (s', M') => some (.normal, snorm s' live, M') | none => none
    | .float ops fl live => match evFloat cl ops fl 0 [] s M with | some (s', M') => some (.normal, snorm s' live, M') | none => none
    | .seq a b =>
      match evC cl n a s M with
      | some (.normal, s', M') => evC cl n b s' M'
      | r => r
    | .cond c a b =>
      match ev s c with
      | .bool true => evC cl n a s M
      | .bool false => evC cl n b s M
      | _ => none
    | .block id a =>
      match evC cl n a s M with
      | some (.exit id', s', M') => bif id' == id then some (.normal, s', M') else some (.exit id', s', M')
      | r => r
    | .loop live a => evLoop (evC cl n a) live M.length n (vals s live) M
    | .scope l live a rest => evJump (evC cl n rest) l live n (evC cl n a s M)
    | .exit id => some (.exit id, s, M)
    | .goto l => some (.goto l, s, M)
    | .ret => some (.ret, s, M)

abbrev FTab := Nat → Option (AFn × Bool)

def evEnd (fn : AFn) (keep : Bool) (base : Nat) (s : Slots) (M' : Mem) : Option (V × Mem) :=
  match resAll s M' fn.results with
  | some v =>
    match keep with
    | true => some (v, M')
    | false =>
      match freezeV M' base 20 v with
      | some v' => bif v'.under base && decide (base ≤ M'.length) && memUnder base (M'.take base) then some (v', M'.take base) else none
      | none => none
  | none => none

def evF (tab : FTab) : Nat → CallFn
  | 0, _, _, _ => none
  | n + 1, f, args, M =>
    match tab f with
    | some (fn, keep) =>
      bif decide (args.length ≤ fn.ntmps) then
        match evC (evF tab n) n fn.body (sinit args 0) M with
        | some (.normal, s, M') => evEnd fn keep M.length s M'
        | some (.ret, s, M') => evEnd fn keep M.length s M'
        | _ => none
      else none
    | none => none

section
variable {P : Program} {cl : CallFn}

def ClOK (P : Program) (cl : CallFn) : Prop := ∀ f args M v M', cl f args M = some (v, M') → ACalls P f args M (fun x N => x = v ∧ N = M')

theorem evCall_sound (hcl : ClOK P cl) {q : Bool} {f : Nat} {args : List V} {M : Mem} {v : V} {M' : Mem} (h : evCall cl q f args M = some (v, M')) {K : V → Mem → Prop} (hk : K v M') : wpCall P q f args M K := by
  cases q with
  | false => exact (hcl _ _ _ _ _ h).mono fun x N ⟨e1, e2⟩ => by rw [e1, e2]; exact hk
  | true =>
    simp only [evCall] at h
    cases hu : underL 0 args with
    | false => simp [hu] at h
    | true =>
      simp only [hu, cond_true] at h
      split at h
      · rename_i v0 hc
        obtain ⟨hf, e⟩ := cond_some h
        simp only [Prod.mk.injEq] at e
        obtain ⟨rfl, rfl⟩ := e
        have hp : PCalls P f args (fun x => x = v0) := (hcl _ _ _ _ _ hc).mono fun x N ⟨e1, e2⟩ => ⟨e1, e2, by rw [e1]; exact hf⟩
        exact ⟨v0, PCalls.call hp hu (fun x hx _ => ⟨hx, rfl⟩), hk⟩
      · cases h

theorem evCallV_sound (hcl : ClOK P cl) {q : Bool} {f : V} {args : List V} {M : Mem} {v : V} {M' : Mem} (h : evCallV cl q f args M = some (v, M')) {K : V → Mem → Prop} (hk : K v M') : wpCallV P q f args M K := by
  unfold evCallV at h
  split at h
  · exact evCall_sound hcl h hk
  · exact evCall_sound hcl h hk
  · cases h

theorem evPut_some {s : Slots} {dst : Option Nat} {isB : Bool} {r : Option (V × Mem)} {s' : Slots} {M' : Mem} (h : evPut s dst isB r = some (s', M')) :
    ∃ v, r = some (v, M') ∧ ∀ K : Slots → Prop, K s' → putV s dst isB v K := by
  unfold evPut at h
  split at h
  · rename_i v M1
    split at h
    · split at h
      · simp only [Option.some.injEq, Prod.mk.injEq] at h
        obtain ⟨rfl, rfl⟩ := h
        exact ⟨_, rfl, fun K hk => hk⟩
      · cases h
    · simp only [Option.some.injEq, Prod.mk.injEq] at h
      obtain ⟨rfl, rfl⟩ := h
      exact ⟨_, rfl, fun K hk => hk⟩
  · cases h

theorem evOp_sound (hcl : ClOK P cl) {q : Bool} {o : AOp} {dst : Option Nat} {isB : Bool} {s : Slots} {M : Mem} {s' : Slots} {M' : Mem} (h : evOp cl q o dst isB s M = some (s', M')) {K : Slots → Mem → Prop} (hk : K s' M') : wpOp P q o dst isB s M K := by
  unfold evOp at h
  unfold wpOp
  split at h
  · obtain ⟨v, hv, hp⟩ := evPut_some h
    exact evCall_sound hcl hv (hp _ hk)
  · obtain ⟨v, hv, hp⟩ := evPut_some h
    exact evCallV_sound hcl hv (hp _ hk)
  · rename_i op hn1 hn2
    split
    · exact absurd rfl (hn1 _ _)
    · exact absurd rfl (hn2 _ _)
    · split at h
      · rename_i hm
        rw [hm]
        split at h
        · rename_i v M1 hs
          simp only [Option.some.injEq, Prod.mk.injEq] at h
          obtain ⟨rfl, rfl⟩ := h
          rw [hs]
          exact hk
        · cases h
      · rename_i hm
        rw [hm]
        obtain ⟨v, hv, hp⟩ := evPut_some h
        split at hv
        · rename_i v1 hs
          simp only [Option.some.injEq, Prod.mk.injEq] at hv
          obtain ⟨rfl, rfl⟩ := hv
          have := hp (fun s' => K s' M) hk
          rw [hs]
          cases isB with
          | true => exact this
          | false => exact this
        · cases hv

theorem evOps_sound (hcl : ClOK P cl) {q : Bool} : ∀ (os : List AOper) (s : Slots) (M : Mem) (s' : Slots) (M' : Mem), evOps cl q os s M = some (s', M') → ∀ K : Slots → Mem → Prop, K s' M' → wpOps P q os s M K
  | [], s, M, s', M', h, K, hk => by
    simp only [evOps, Option.some.injEq, Prod.mk.injEq] at h
    obtain ⟨rfl, rfl⟩ := h
    exact hk
  | ⟨dst, op, isB, none⟩ :: os, s, M, s', M', h, K, hk => by
    unfold evOps at h
    split at h
    · rename_i s1 M1 h1
      exact evOp_sound hcl h1 (evOps_sound hcl os _ _ _ _ h K hk)
    · cases h
  | ⟨dst, op, isB, some (g, want)⟩ :: os, s, M, s', M', h, K, hk => by
    unfold evOps at h
    unfold wpOps
    split at h
    · rename_i b hb
      rw [hb]
      cases hbw : (b == want) with
      | true =>
        have : b = want := by simpa using hbw
        subst this
        simp only [hbw, cond_true] at h
        split at h
        · rename_i s1 M1 h1
          have h2 := evOp_sound (P := P) hcl h1 (K := fun s' M' => wpOps P q os s' M' K) (evOps_sound hcl os _ _ _ _ h K hk)
          cases b with
          | true => exact h2
          | false => exact h2
        · cases h
      | false =>
        simp only [hbw, cond_false] at h
        have h2 := evOps_sound hcl os _ _ _ _ h K hk
        cases b <;> cases want <;> simp at hbw
        · exact h2
        · exact h2
    · rename_i hb
      rw [hb]
      exact evOps_sound hcl os _ _ _ _ h K hk
    · cases h

theorem evOne_sound (hcl : ClOK P cl) {q : Bool} {o : AOper} {s : Slots} {M : Mem} {s' : Slots} {M' : Mem} (h : evOne cl q o s M = some (s', M')) {K : Slots → Mem → Prop} (hk : K s' M') : wpOne P q o s M K := by
  obtain ⟨dst, op, isB, g⟩ := o
  cases g with
  | none => exact evOp_sound hcl h hk
  | some gw =>
    obtain ⟨g, want⟩ := gw
    unfold evOne at h
    unfold wpOne
    simp only at h ⊢
    split at h
    · rename_i b hb
      rw [hb]
      simp only
      cases hbw : (b == want) with
      | true =>
        have : b = want := by simpa using hbw
        subst this
        simp only [hbw, cond_true] at h
        cases b <;> exact evOp_sound hcl h hk
      | false =>
        simp only [hbw, cond_false, Option.some.injEq, Prod.mk.injEq] at h
        obtain ⟨rfl, rfl⟩ := h
        cases b <;> cases want <;> simp at hbw <;> exact hk
    · rename_i hb
      rw [hb]
      simp only [Option.some.injEq, Prod.mk.injEq] at h
      obtain ⟨rfl, rfl⟩ := h
      exact hk
    · cases h

theorem evMix_sound (hcl : ClOK P cl) : ∀ (os : List AOper) (qs : List Bool) (s : Slots) (M : Mem) (s' : Slots) (M' : Mem), evMix cl os qs s M = some (s', M') → ∀ K : Slots → Mem → Prop, K s' M' → wpMix P os qs s M K
  | o :: os, q :: qs, s, M, s', M', h, K, hk => by
    unfold evMix at h
    split at h
    · rename_i s1 M1 h1
      exact evOne_sound hcl h1 (evMix_sound hcl os qs _ _ _ _ h K hk)
    · cases h
  | [], qs, s, M, s', M', h, K, hk => by
    simp only [evMix, Option.some.injEq, Prod.mk.injEq] at h
    obtain ⟨rfl, rfl⟩ := h
    exact hk
  | o :: os, [], s, M, s', M', h, K, hk => by
    simp only [evMix, Option.some.injEq, Prod.mk.injEq] at h
    obtain ⟨rfl, rfl⟩ := h
    exact hk

mutual
theorem veq_eq : ∀ {x y : V}, veq x y = true → x = y
  | .undef, y, h => by cases y <;> simp [veq] at h ⊢
  | .bool a, y, h => by cases y <;> simp [veq] at h ⊢; exact h
  | .int k a, y, h => by cases y <;> simp [veq] at h ⊢; exact h
  | .str a, y, h => by cases y <;> simp [veq] at h ⊢; exact h
  | .nilp, y, h => by cases y <;> simp [veq] at h ⊢
  | .nilf, y, h => by cases y <;> simp [veq] at h ⊢
  | .nilm, y, h => by cases y <;> simp [veq] at h ⊢
  | .slice a c, y, h => by
    cases y <;> simp only [veq, Bool.false_eq_true, Bool.and_eq_true, decide_eq_true_eq] at h
    rw [veqLL_eq h.1, h.2]
  | .rref a, y, h => by
    cases y <;> simp only [veq, Bool.false_eq_true] at h
    rw [veqL_eq h]
  | .pfn f a, y, h => by
    cases y <;> simp only [veq, Bool.false_eq_true, Bool.and_eq_true] at h
    rw [veqL_eq h.2, Nat.eq_of_beq_eq_true h.1]
  | .ptr i o, y, h => by cases y <;> simp [veq] at h ⊢; exact h
  | .eptr i v r o, y, h => by
    cases y <;> simp [veq] at h ⊢
    obtain ⟨⟨⟨h1, h2⟩, h3⟩, h4⟩ := h
    exact ⟨h1, h2, h3, h4⟩
  | .mslice i v r o, y, h => by
    cases y <;> simp [veq] at h ⊢
    obtain ⟨⟨⟨h1, h2⟩, h3⟩, h4⟩ := h
    exact ⟨h1, h2, h3, h4⟩
  | .map i, y, h => by cases y <;> simp [veq] at h ⊢; exact h
  | .fn f a, y, h => by
    cases y <;> simp only [veq, Bool.false_eq_true, Bool.and_eq_true] at h
    rw [veqL_eq h.2, Nat.eq_of_beq_eq_true h.1]
  | .agg a, y, h => by
    cases y <;> simp only [veq, Bool.false_eq_true] at h
    rw [veqL_eq h]
  | .tuple a, y, h => by
    cases y <;> simp only [veq, Bool.false_eq_true] at h
    rw [veqL_eq h]
theorem veqL_eq : ∀ {xs ys : List V}, veqL xs ys = true → xs = ys
  | [], [], _ => rfl
  | x :: xs, y :: ys, h => by
    simp only [veqL, Bool.and_eq_true] at h
    rw [veq_eq h.1, veqL_eq h.2]
  | [], y :: ys, h => by simp [veqL] at h
  | x :: xs, [], h => by simp [veqL] at h
theorem veqLL_eq : ∀ {xs ys : List (List V)}, veqLL xs ys = true → xs = ys
  | [], [], _ => rfl
  | x :: xs, y :: ys, h => by
    simp only [veqLL, Bool.and_eq_true] at h
    rw [veqL_eq h.1, veqLL_eq h.2]
  | [], y :: ys, h => by simp [veqLL] at h
  | x :: xs, [], h => by simp [veqLL] at h
end

def asProps (H : List (Nat × AOp × Slots × V)) : List (Nat × (Mem → Prop)) := H.map fun e => (e.1, fun M1 => pstep e.2.1 e.2.2.1 M1 = some e.2.2.2)
theorem evFind_look : ∀ {H : List (Nat × AOp × Slots × V)} {j : Nat} {x : AOp × Slots × V} {M : Mem}, evFind H j = some x → pstep x.1 x.2.1 M = some x.2.2 → lookP (asProps H) j M
  | [], j, x, M, h, _ => by simp [evFind] at h
  | (i, y) :: H, j, x, M, h, hp => by
    simp only [evFind] at h
    simp only [asProps, List.map_cons, lookP]
    split at h
    · rename_i hb
      simp only [Option.some.injEq] at h
      subst h
      rw [hb]
      exact hp
    · rename_i hb
      rw [hb]
      exact evFind_look (H := H) h hp
theorem evCheck_sound {H : List (Nat × AOp × Slots × V)} {M : Mem} : ∀ {l : List Nat}, evCheck H l M = true → recheck (asProps H) l M
  | [], _ => trivial
  | j :: l, h => by
    simp only [evCheck, Bool.and_eq_true] at h
    obtain ⟨h1, h2⟩ := h
    refine ⟨?_, evCheck_sound h2⟩
    split at h1
    · rename_i op s v hf
      split at h1
      · rename_i x hx
        rw [veq_eq h1] at hx
        exact evFind_look hf hx
      · cases h1
    · cases h1
theorem evFloat_sound (hcl : ClOK P cl) : ∀ (os : List AOper) (fs : List (Option (List Nat))) (n : Nat) (H : List (Nat × AOp × Slots × V)) (s : Slots) (M : Mem) (s' : Slots) (M' : Mem), evFloat cl os fs n H s M = some (s', M') → ∀ K : Slots → Mem → Prop, K s' M' → wpFloat P os fs n (asProps H) s M K
  | o :: os, none :: fs, n, H, s, M, s', M', h, K, hk => by
    unfold evFloat at h
    split at h
    · rename_i s1 M1 h1
      exact evOne_sound hcl h1 (evFloat_sound hcl os fs _ _ _ _ _ _ h K hk)
    · cases h
  | o :: os, some l :: fs, n, H, s, M, s', M', h, K, hk => by
    unfold evFloat at h
    split at h
    · rename_i s1 M1 h1
      cases hc : evCheck H l M1 with
      | true =>
        simp only [hc, cond_true] at h
        exact evOne_sound hcl h1 ⟨evCheck_sound hc, evFloat_sound hcl os fs _ _ _ _ _ _ h K hk⟩
      | false => simp only [hc, cond_false, reduceCtorEq] at h
    · cases h
  | [], fs, n, H, s, M, s', M', h, K, hk => by
    simp only [evFloat, Option.some.injEq, Prod.mk.injEq] at h
    obtain ⟨rfl, rfl⟩ := h
    cases fs <;> exact hk
  | o :: os, [], n, H, s, M, s', M', h, K, hk => by
    simp only [evFloat, Option.some.injEq, Prod.mk.injEq] at h
    obtain ⟨rfl, rfl⟩ := h
    exact hk

theorem evLoop_sound {body : Slots → Mem → Option Out} {a : ACode} {live : List Nat} {len : Nat} {Q : Exit → Slots → Mem → Prop} (hb : ∀ s M e s' M' (Q' : Exit → Slots → Mem → Prop), body s M = some (e, s', M') → Q' e s' M' → wpC P a Q' s M)
    : ∀ (k : Nat) (vs : List V) (M : Mem) (e : Exit) (s' : Slots) (M' : Mem), evLoop body live len k vs M = some (e, s', M') → Q e s' M' →
      ∀ (I : Nat → List V → Mem → Prop), (∀ k vs M, (∃ e s' M', evLoop body live len k vs M = some (e, s', M') ∧ Q e s' M') → I k vs M) → wpC P a (roundK I k len live Q) (zipS live vs) M
  | 0, vs, M, e, s', M', h, _, _, _ => by simp [evLoop] at h
  | k + 1, vs, M, e, s', M', h, hq, I, hI => by
    unfold evLoop at h
    split at h
    · rename_i s1 M1 h1
      refine hb _ _ _ _ _ _ h1 ?_
      simp only [roundK]
      cases hp : popOK len (vals s1 live) M1 with
      | true =>
        simp only [hp, cond_true] at h
        exact .inr ⟨rfl, k, Nat.lt_succ_self k, hI _ _ _ ⟨_, _, _, h, hq⟩⟩
      | false =>
        simp only [hp, cond_false] at h
        exact .inl ⟨k, Nat.lt_succ_self k, hI _ _ _ ⟨_, _, _, h, hq⟩⟩
    · rename_i hne
      refine hb _ _ _ _ _ _ h ?_
      cases e with
      | normal => exact absurd h (hne _ _)
      | _ => exact hq

theorem evJump_other {rest : Slots → Mem → Option Out} {l : Nat} {live : List Nat} {k : Nat} {e : Exit} {s : Slots} {M : Mem} (hne : ∀ l', e ≠ .goto l') {e' : Exit} {s' : Slots} {M' : Mem} (h : evJump rest l live k (some (e, s, M)) = some (e', s', M')) : e' = e ∧ s' = s ∧ M' = M := by
  cases k with
  | zero => simp [evJump] at h
  | succ k =>
    unfold evJump at h
    split at h
    · rename_i heq; simp at heq
    · rename_i heq
      simp only [Option.some.injEq, Prod.mk.injEq] at heq
      exact absurd heq.1 (hne _)
    · rename_i heq
      simp only [Option.some.injEq, Prod.mk.injEq] at h
      exact ⟨h.1.symm, h.2.1.symm, h.2.2.symm⟩

theorem evC_sound (hcl : ClOK P cl) : ∀ (n : Nat) (c : ACode) (s : Slots) (M : Mem) (e : Exit) (s' : Slots) (M' : Mem) (Q : Exit → Slots → Mem → Prop), evC cl n c s M = some (e, s', M') → Q e s' M' → wpC P c Q s M
  | 0, c, s, M, e, s', M', Q, h, _ => by simp [evC] at h
  | n + 1, c, s, M, e, s', M', Q, h, hq => by
    have ih := evC_sound hcl n
    cases c with
    | skip => simp only [evC, Option.some.injEq, Prod.mk.injEq] at h; obtain ⟨rfl, rfl, rfl⟩ := h; exact hq
    | label => simp only [evC, Option.some.injEq, Prod.mk.injEq] at h; obtain ⟨rfl, rfl, rfl⟩ := h; exact hq
    | exit id => simp only [evC, Option.some.injEq, Prod.mk.injEq] at h; obtain ⟨rfl, rfl, rfl⟩ := h; exact hq
    | goto l => simp only [evC, Option.some.injEq, Prod.mk.injEq] at h; obtain ⟨rfl, rfl, rfl⟩ := h; exact hq
    | ret => simp only [evC, Option.some.injEq, Prod.mk.injEq] at h; obtain ⟨rfl, rfl, rfl⟩ := h; exact hq
    | region ops live =>
      simp only [evC] at h
      split at h
      · rename_i s1 M1 h1
        simp only [Option.some.injEq, Prod.mk.injEq] at h
        obtain ⟨rfl, rfl, rfl⟩ := h
        exact evOps_sound hcl _ _ _ _ _ h1 _ hq
      · cases h
    | mixed ops qs live =>
      simp only [evC] at h
      split at h
      · rename_i s1 M1 h1
        simp only [Option.some.injEq, Prod.mk.injEq] at h
        obtain ⟨rfl, rfl, rfl⟩ := h
        exact evMix_sound hcl _ _ _ _ _ _ h1 _ hq
      · cases h
    | float ops fl live =>
      simp only [evC] at h
      split at h
      · rename_i s1 M1 h1
        simp only [Option.some.injEq, Prod.mk.injEq] at h
        obtain ⟨rfl, rfl, rfl⟩ := h
        exact evFloat_sound hcl _ _ _ _ _ _ _ _ h1 _ hq
      · cases h
    | seq a b =>
      simp only [evC] at h
      split at h
      · rename_i s1 M1 h1
        exact ih a _ _ _ _ _ _ h1 (ih b _ _ _ _ _ Q h hq)
      · rename_i hne
        refine ih a _ _ _ _ _ _ h ?_
        cases e with
        | normal => exact absurd h (hne _ _)
        | _ => exact hq
    | cond c a b =>
      simp only [evC] at h
      simp only [wpC]
      split at h
      · rename_i hc; rw [hc]; exact ih a _ _ _ _ _ Q h hq
      · rename_i hc; rw [hc]; exact ih b _ _ _ _ _ Q h hq
      · cases h
    | block id a =>
      simp only [evC] at h
      simp only [wpC]
      split at h
      · rename_i id' s1 M1 h1
        refine ih a _ _ _ _ _ _ h1 ?_
        simp only [blockK]
        cases hid : (id' == id) with
        | true =>
          simp only [hid, cond_true, Option.some.injEq, Prod.mk.injEq] at h ⊢
          obtain ⟨rfl, rfl, rfl⟩ := h
          exact hq
        | false =>
          simp only [hid, cond_false, Option.some.injEq, Prod.mk.injEq] at h ⊢
          obtain ⟨rfl, rfl, rfl⟩ := h
          exact hq
      · rename_i hne
        refine ih a _ _ _ _ _ _ h ?_
        cases e with
        | exit id' => exact absurd h (hne _ _ _)
        | _ => exact hq
    | loop live a =>
      simp only [evC] at h
      refine ⟨fun k vs M1 => ∃ e s' M', evLoop (evC cl n a) live M.length k vs M1 = some (e, s', M') ∧ Q e s' M', n, ⟨e, s', M', h, hq⟩, fun k vs M1 ⟨e1, s1, M2, h1, hq1⟩ => ?_⟩
      exact evLoop_sound (fun s M e s' M' Q' hh hqq => ih a s M e s' M' Q' hh hqq) k vs M1 e1 s1 M2 h1 hq1 _ (fun k vs M h => h)
    | scope l live a rest =>
      simp only [evC] at h
      have out : ∀ k (r : Out), (∃ e s' M', evJump (evC cl n rest) l live k (some r) = some (e, s', M') ∧ Q e s' M') →
          (∃ s1 M1, r = (.goto l, s1, M1) ∧ ∃ k', k = k' + 1 ∧ ∃ e s' M', evJump (evC cl n rest) l live k' (evC cl n rest (zipS live (vals s1 live)) M1) = some (e, s', M') ∧ Q e s' M') ∨ ((∀ l', r.1 ≠ .goto l') ∧ Q r.1 r.2.1 r.2.2) := by
        intro k r ⟨e, s', M', h, hq⟩
        obtain ⟨re, rs, rM⟩ := r
        by_cases hg : ∃ l', re = .goto l'
        · obtain ⟨l', rfl⟩ := hg
          cases k with
          | zero => simp [evJump] at h
          | succ k =>
            simp only [evJump] at h
            obtain ⟨hl, h⟩ := cond_some' h
            have hl : l' = l := by simpa using hl
            subst hl
            exact .inl ⟨rs, rM, rfl, k, rfl, e, s', M', h, hq⟩
        · have hne : ∀ l', re ≠ .goto l' := fun l' he => hg ⟨l', he⟩
          obtain ⟨rfl, rfl, rfl⟩ := evJump_other hne h
          exact .inr ⟨hne, hq⟩
      have part : ∀ (k : Nat) (c : ACode) (s : Slots) (M : Mem) (J : List V → Mem → Prop), (∃ e s' M', evJump (evC cl n rest) l live k (evC cl n c s M) = some (e, s', M') ∧ Q e s' M') →
          (∀ vs M1 k', k = k' + 1 → (∃ e s' M', evJump (evC cl n rest) l live k' (evC cl n rest (zipS live vs) M1) = some (e, s', M') ∧ Q e s' M') → J vs M1) → wpC P c (jumpK J l live Q) s M := by
        intro k c s M J ⟨e, s', M', h, hq⟩ hJ
        cases hr : evC cl n c s M with
        | none =>
          rw [hr] at h
          cases k <;> simp [evJump] at h
        | some r =>
          rw [hr] at h
          refine ih c s M r.1 r.2.1 r.2.2 _ hr ?_
          rcases out k r ⟨e, s', M', h, hq⟩ with ⟨s1, M1, rfl, k', hk', hh⟩ | ⟨hne, hq'⟩
          · exact ⟨rfl, hJ _ _ k' hk' hh⟩
          · obtain ⟨re, rs, rM⟩ := r
            cases re with
            | goto l' => exact absurd rfl (hne l')
            | _ => exact hq'
      refine ⟨fun k vs M1 => ∃ e s' M', evJump (evC cl n rest) l live k (evC cl n rest (zipS live vs) M1) = some (e, s', M') ∧ Q e s' M', ?_, fun k vs M1 hh => ?_⟩
      · exact part n a s M _ ⟨e, s', M', h, hq⟩ (fun vs M1 k' _ hh => ⟨k', hh⟩)
      · exact part k rest _ M1 _ hh (fun vs M2 k' hk' hh' => ⟨k', by omega, hh'⟩)

def TabOK (P : Program) (tab : FTab) : Prop := ∀ f fn k, tab f = some (fn, k) → ∃ h, resFn P h f = some fn

theorem evEnd_keep {fn : AFn} {base : Nat} {s : Slots} {M' : Mem} {v : V} {N : Mem} (h : evEnd fn true base s M' = some (v, N)) : resAll s M' fn.results = some v ∧ N = M' := by
  unfold evEnd at h
  split at h
  · rename_i v0 hv
    simp only [Option.some.injEq, Prod.mk.injEq] at h
    obtain ⟨rfl, rfl⟩ := h
    exact ⟨hv, rfl⟩
  · cases h

theorem evEnd_pop {fn : AFn} {base : Nat} {s : Slots} {M' : Mem} {v : V} {N : Mem} (h : evEnd fn false base s M' = some (v, N)) : popPost base (fun x K => x = v ∧ K = N) (resAll s M' fn.results) M' := by
  unfold evEnd at h
  split at h
  · rename_i v0 hv
    rw [hv]
    simp only at h
    split at h
    · rename_i v1 hf
      obtain ⟨hb, e⟩ := cond_some h
      simp only [Prod.mk.injEq] at e
      obtain ⟨rfl, rfl⟩ := e
      show OptV (freezeV M' base 20 v0) _
      rw [hf]
      exact ⟨hb, rfl, rfl⟩
    · cases h
  · cases h

theorem evF_sound {tab : FTab} (htab : TabOK P tab) : ∀ n, ClOK P (evF tab n)
  | 0, f, args, M, v, M', h => by simp [evF] at h
  | n + 1, f, args, M, v, M', h => by
    have ih := evF_sound htab n
    unfold evF at h
    split at h
    · rename_i fn keep ht
      obtain ⟨hl, h⟩ := cond_some' h
      have hl : args.length ≤ fn.ntmps := by simpa using hl
      obtain ⟨hh, hf⟩ := htab f fn keep ht
      have fin : ∀ (e : Exit) (s : Slots) (M1 : Mem), (e = .normal ∨ e = .ret) → evC (evF tab n) n fn.body (sinit args 0) M = some (e, s, M1) → evEnd fn keep M.length s M1 = some (v, M') → ACalls P f args M (fun x N => x = v ∧ N = M') := by
        intro e s M1 he hc hend
        cases keep with
        | true =>
          obtain ⟨h1, rfl⟩ := evEnd_keep hend
          refine acalls_keep hf hl ?_
          refine evC_sound ih n _ _ _ _ _ _ _ hc ?_
          have hkp : keepPost (fun x N => x = v ∧ N = M') (resAll s M' fn.results) M' := by rw [h1]; exact ⟨rfl, rfl⟩
          rcases he with rfl | rfl <;> exact hkp
        | false =>
          refine acalls_pop hf hl ?_
          refine evC_sound ih n _ _ _ _ _ _ _ hc ?_
          rcases he with rfl | rfl <;> exact evEnd_pop hend
      split at h
      · rename_i s M1 hc; exact fin _ _ _ (.inl rfl) hc h
      · rename_i s M1 hc; exact fin _ _ _ (.inr rfl) hc h
      · cases h
    · cases h

/-- The contract of a call on given values, by running the abstract code. -/
theorem acalls_eval {tab : FTab} (htab : TabOK P tab) (n : Nat) {f : Nat} {args : List V} {M : Mem} {v : V} {M' : Mem} (h : evF tab n f args M = some (v, M')) : ACalls P f args M (fun x N => x = v ∧ N = M') := evF_sound htab n _ _ _ _ _ h

def tabOf : List (Nat × AFn × Bool) → FTab
  | [], _ => none
  | (n, fn, k) :: r, f => bif n == f then some (fn, k) else tabOf r f

theorem tabOf_nil : TabOK P (tabOf []) := fun _ _ _ h => by simp [tabOf] at h

theorem tabOf_cons {n : Nat} {fn : AFn} {k : Bool} {r : List (Nat × AFn × Bool)} {h : Hints} (hf : resFn P h n = some fn) (hr : TabOK P (tabOf r)) : TabOK P (tabOf ((n, fn, k) :: r)) := fun f fn' k' e => by
  simp only [tabOf] at e
  cases hb : (n == f) with
  | true =>
    simp only [hb, cond_true, Option.some.injEq, Prod.mk.injEq] at e
    have : n = f := by simpa using hb
    subst this
    rw [← e.1]
    exact ⟨h, hf⟩
  | false =>
    simp only [hb, cond_false] at e
    exact hr f fn' k' e

/-- A call on given values that touches no memory: by running the abstract code. -/
theorem pcalls_eval {tab : FTab} (htab : TabOK P tab) (n : Nat) {f : Nat} {args : List V} {v : V} (h : evF tab n f args [] = some (v, [])) (hu : v.under 0 = true) : PCalls P f args (fun x => x = v) :=
  (acalls_eval htab n h).mono fun x N ⟨e1, e2⟩ => ⟨e1, e2, by rw [e1]; exact hu⟩

end
end Go.Vm

/- A weaker post-condition: what follows a piece of code may be spoken of by a name. -/
namespace Go.Vm

theorem OptV_mono {o : Option V} {K K' : V → Prop} (h : OptV o K) (hk : ∀ v, K v → K' v) : OptV o K' := by
  cases o with
  | none => exact h
  | some v => exact hk v h
theorem OptB_mono {o : Option V} {K K' : Bool → Prop} (h : OptB o K) (hk : ∀ v, K v → K' v) : OptB o K' := by
  unfold OptB at h ⊢
  split
  · exact hk _ h
  · rename_i hn
    split at h
    · exact absurd rfl (hn _)
    · exact h
theorem OptVM_mono {o : Option (V × Mem)} {K K' : V → Mem → Prop} (h : OptVM o K) (hk : ∀ v M, K v M → K' v M) : OptVM o K' := by
  cases o with
  | none => exact h
  | some v => exact hk _ _ h
theorem BIf_mono {b : Bool} {A B A' B' : Prop} (h : BIf b A B) (h1 : A → A') (h2 : B → B') : BIf b A' B' := by
  cases b
  · exact h2 h
  · exact h1 h
theorem wpCall_mono {P : Program} {q : Bool} {f : Nat} {args : List V} {M : Mem} {K K' : V → Mem → Prop} (h : wpCall P q f args M K) (hk : ∀ v M, K v M → K' v M) : wpCall P q f args M K' := by
  cases q with
  | false => exact ACalls.mono h hk
  | true =>
    obtain ⟨v, h1, h4⟩ := h
    exact ⟨v, h1, hk _ _ h4⟩
theorem wpCallV_mono {P : Program} {q : Bool} {f : V} {args : List V} {M : Mem} {K K' : V → Mem → Prop} (h : wpCallV P q f args M K) (hk : ∀ v M, K v M → K' v M) : wpCallV P q f args M K' := by
  unfold wpCallV at h ⊢
  split
  · exact wpCall_mono h hk
  · exact wpCall_mono h hk
  · rename_i h1 h2
    split at h
    · exact absurd rfl (h1 _ _)
    · exact absurd rfl (h2 _ _)
    · exact h
theorem putV_mono {s : Slots} {dst : Option Nat} {isB : Bool} {v : V} {K K' : Slots → Prop} (h : putV s dst isB v K) (hk : ∀ s, K s → K' s) : putV s dst isB v K' := by
  cases isB with
  | true => exact OptB_mono h fun b hb => hk _ hb
  | false => exact hk _ h
theorem wpOp_mono {P : Program} {q : Bool} {o : AOp} {dst : Option Nat} {isB : Bool} {s : Slots} {M : Mem} {K K' : Slots → Mem → Prop} (h : wpOp P q o dst isB s M K) (hk : ∀ s M, K s M → K' s M) : wpOp P q o dst isB s M K' := by
  unfold wpOp at h ⊢
  split
  · exact wpCall_mono h fun v M' hv => putV_mono hv fun s' hs => hk _ _ hs
  · exact wpCallV_mono h fun v M' hv => putV_mono hv fun s' hs => hk _ _ hs
  · rename_i h1 h2
    split at h
    · exact absurd rfl (h1 _ _)
    · exact absurd rfl (h2 _ _)
    · split
      · rename_i hm
        rw [hm] at h
        exact OptVM_mono h fun v M' hv => hk _ _ hv
      · rename_i hm
        rw [hm] at h
        cases isB with
        | true => exact OptB_mono h fun b hb => hk _ _ hb
        | false => exact OptV_mono h fun b hb => hk _ _ hb
theorem wpOps_mono {P : Program} {q : Bool} : ∀ (os : List AOper) (s : Slots) (M : Mem) (K K' : Slots → Mem → Prop), wpOps P q os s M K → (∀ s M, K s M → K' s M) → wpOps P q os s M K'
  | [], s, M, K, K', h, hk => hk _ _ h
  | ⟨dst, op, isB, none⟩ :: os, s, M, K, K', h, hk => wpOp_mono h fun s' M' hs => wpOps_mono os _ _ _ _ hs hk
  | ⟨dst, op, isB, some (g, want)⟩ :: os, s, M, K, K', h, hk => by
    have op' : ∀ s M, wpOp P q op dst isB s M (fun s' M' => wpOps P q os s' M' K) → wpOp P q op dst isB s M (fun s' M' => wpOps P q os s' M' K') := fun s M h => wpOp_mono h fun s' M' hs => wpOps_mono os _ _ _ _ hs hk
    unfold wpOps at h ⊢
    split
    · rename_i b hb
      rw [hb] at h
      cases want with
      | true => exact BIf_mono h (op' _ _) (fun h => wpOps_mono os _ _ _ _ h hk)
      | false => exact BIf_mono h (fun h => wpOps_mono os _ _ _ _ h hk) (op' _ _)
    · rename_i hb
      rw [hb] at h
      exact wpOps_mono os _ _ _ _ h hk
    · rename_i hn1 hn2
      split at h
      · rename_i hb; exact absurd hb (hn1 _)
      · rename_i hb; exact absurd hb hn2
      · exact h

theorem wpOne_mono {P : Program} {q : Bool} {o : AOper} {s : Slots} {M : Mem} {K K' : Slots → Mem → Prop} (h : wpOne P q o s M K) (hk : ∀ s M, K s M → K' s M) : wpOne P q o s M K' := by
  obtain ⟨dst, op, isB, g⟩ := o
  cases g with
  | none => exact wpOp_mono h hk
  | some gw =>
    obtain ⟨g, want⟩ := gw
    unfold wpOne at h ⊢
    simp only at h ⊢
    split <;> rename_i hb <;> simp only [hb] at h
    · cases want with
      | true => exact BIf_mono h (fun h => wpOp_mono h hk) (hk _ _)
      | false => exact BIf_mono h (hk _ _) (fun h => wpOp_mono h hk)
    · exact hk _ _ h
theorem wpMix_mono {P : Program} : ∀ (os : List AOper) (qs : List Bool) (s : Slots) (M : Mem) (K K' : Slots → Mem → Prop), wpMix P os qs s M K → (∀ s M, K s M → K' s M) → wpMix P os qs s M K'
  | o :: os, q :: qs, s, M, K, K', h, hk => wpOne_mono h fun s' M' hs => wpMix_mono os qs _ _ _ _ hs hk
  | [], qs, s, M, K, K', h, hk => hk _ _ h
  | o :: os, [], s, M, K, K', h, hk => hk _ _ h

theorem wpFloat_mono {P : Program} : ∀ (os : List AOper) (fs : List (Option (List Nat))) (n : Nat) (H : List (Nat × (Mem → Prop))) (s : Slots) (M : Mem) (K K' : Slots → Mem → Prop), wpFloat P os fs n H s M K → (∀ s M, K s M → K' s M) → wpFloat P os fs n H s M K'
  | o :: os, none :: fs, n, H, s, M, K, K', h, hk => wpOne_mono h fun s' M' hs => wpFloat_mono os fs _ _ _ _ _ _ hs hk
  | o :: os, some l :: fs, n, H, s, M, K, K', h, hk => wpOne_mono h fun s' M' hs => ⟨hs.1, wpFloat_mono os fs _ _ _ _ _ _ hs.2 hk⟩
  | [], fs, n, H, s, M, K, K', h, hk => hk _ _ h
  | o :: os, [], n, H, s, M, K, K', h, hk => hk _ _ h

theorem wpC_mono {P : Program} : ∀ (c : ACode) (Q Q' : Exit → Slots → Mem → Prop) (s : Slots) (M : Mem), wpC P c Q s M → (∀ e s M, Q e s M → Q' e s M) → wpC P c Q' s M
  | .skip, Q, Q', s, M, h, hq => hq _ _ _ h
  | .label, Q, Q', s, M, h, hq => hq _ _ _ h
  | .exit _, Q, Q', s, M, h, hq => hq _ _ _ h
  | .goto _, Q, Q', s, M, h, hq => hq _ _ _ h
  | .ret, Q, Q', s, M, h, hq => hq _ _ _ h
  | .region ops live, Q, Q', s, M, h, hq => wpOps_mono ops _ _ _ _ h fun s' M' hs => hq _ _ _ hs
  | .mixed ops qs live, Q, Q', s, M, h, hq => wpMix_mono ops qs _ _ _ _ h fun s' M' hs => hq _ _ _ hs
  | .float ops fl live, Q, Q', s, M, h, hq => wpFloat_mono ops fl _ _ _ _ _ _ h fun s' M' hs => hq _ _ _ hs
  | .seq a b, Q, Q', s, M, h, hq => by
    refine wpC_mono a _ _ s M h fun e s' M' he => ?_
    cases e with
    | normal => exact wpC_mono b _ _ s' M' he hq
    | _ => exact hq _ _ _ he
  | .cond c a b, Q, Q', s, M, h, hq => by
    simp only [wpC] at h ⊢
    split at h
    · exact BIf_mono h (fun h => wpC_mono a _ _ s M h hq) (fun h => wpC_mono b _ _ s M h hq)
    · exact h.elim
  | .block id a, Q, Q', s, M, h, hq => by
    refine wpC_mono a _ _ s M h fun e s' M' he => ?_
    cases e with
    | exit id' =>
      simp only [blockK] at he ⊢
      cases hid : (id' == id) with
      | true => simp only [hid, cond_true] at he ⊢; exact hq _ _ _ he
      | false => simp only [hid, cond_false] at he ⊢; exact hq _ _ _ he
    | _ => exact hq _ _ _ he
  | .loop live a, Q, Q', s, M, h, hq => by
    obtain ⟨I, n, h0, hI⟩ := h
    refine ⟨I, n, h0, fun n vs M1 h1 => wpC_mono a _ _ _ _ (hI n vs M1 h1) fun e s' M' he => ?_⟩
    cases e with
    | normal => exact he
    | _ => exact hq _ _ _ he
  | .scope l live a rest, Q, Q', s, M, h, hq => by
    obtain ⟨J, h1, h2⟩ := h
    refine ⟨J, wpC_mono a _ _ _ _ h1 fun e s' M' he => ?_, fun n vs M1 hj => wpC_mono rest _ _ _ _ (h2 n vs M1 hj) fun e s' M' he => ?_⟩
    · cases e with
      | goto l' => exact he
      | _ => exact hq _ _ _ he
    · cases e with
      | goto l' => exact he
      | _ => exact hq _ _ _ he

/-- A piece of code that ends normally, in slots and memory of which J is known; then what follows. -/
theorem wpC_join {P : Program} {c : ACode} {Q : Exit → Slots → Mem → Prop} {s : Slots} {M : Mem} (J : Slots → Mem → Prop) (h : wpC P c (fun e s' M' => e = .normal ∧ J s' M') s M) (hq : ∀ s' M', J s' M' → Q .normal s' M') : wpC P c Q s M :=
  wpC_mono c _ _ s M h fun e s' M' ⟨he, hj⟩ => by subst he; exact hq _ _ hj

/-- The same with the slots and the memory known. -/
theorem wpC_to {P : Program} {c : ACode} {Q : Exit → Slots → Mem → Prop} {s : Slots} {M : Mem} (s1 : Slots) (M1 : Mem) (h : wpC P c (fun e s' M' => e = .normal ∧ s' = s1 ∧ M' = M1) s M) (hq : Q .normal s1 M1) : wpC P c Q s M :=
  wpC_mono c _ _ s M h fun e s' M' ⟨he, hs, hM⟩ => by subst he hs hM; exact hq

theorem BIf_iff {b : Bool} {A B : Prop} : BIf b A B ↔ (b = true → A) ∧ (b = false → B) := by cases b <;> simp [BIf]

end Go.Vm

/- Loops that count up, calls of known result, and what a call's arguments read as: the rules by which contracts are proved. -/
namespace Go.Vm

/-- A round's invariant by the rounds that are still to come. -/
def upI (I : Nat → List V → Mem → Prop) (n : Nat) (m : Nat) (vs : List V) (M : Mem) : Prop := ∃ i, m = n - i ∧ i ≤ n ∧ I i vs M

theorem next_stay {I : Nat → List V → Mem → Prop} {n i len : Nat} {live : List Nat} {Q : Exit → Slots → Mem → Prop} {s : Slots} {M : Mem} (h : i < n) (hI : I (i + 1) (vals s live) M) :
    roundK (upI I n) (n - i) len live Q .normal s M := roundK_stay (n - (i + 1)) (by omega) ⟨i + 1, rfl, h, hI⟩

theorem next_pop {I : Nat → List V → Mem → Prop} {n i len : Nat} {live : List Nat} {Q : Exit → Slots → Mem → Prop} {s : Slots} {M : Mem} (h : i < n) (hp : popOK len (vals s live) M = true) (hI : I (i + 1) (vals s live) (M.take len)) :
    roundK (upI I n) (n - i) len live Q .normal s M := roundK_pop (n - (i + 1)) (by omega) hp ⟨i + 1, rfl, h, hI⟩

/-- A loop that counts from 0 up to n. -/
theorem wpC_for {P : Program} {live : List Nat} {a : ACode} {Q : Exit → Slots → Mem → Prop} {s : Slots} {M : Mem} (n : Nat) (I : Nat → List V → Mem → Prop) (h0 : I 0 (vals s live) M)
    (step : ∀ i vs M1, i < n → decide ((i : Int) < (n : Int)) = true → I i vs M1 → wpC P a (roundK (upI I n) (n - i) M.length live Q) (zipS live vs) M1)
    (last : ∀ vs M1, I n vs M1 → wpC P a (roundK (upI I n) 0 M.length live Q) (zipS live vs) M1) : wpC P (.loop live a) Q s M := by
  refine wpC_loop (upI I n) n ⟨0, rfl, Nat.zero_le _, h0⟩ ?_
  rintro m vs M1 ⟨i, rfl, hi, h⟩
  rcases Nat.lt_or_ge i n with hlt | hge
  · exact step i vs M1 hlt (decide_eq_true (by omega)) h
  · have e : i = n := by omega
    subst e
    have := last vs M1 h
    rwa [Nat.sub_self]

/-- A loop over a list. -/
theorem wpC_forL {α : Type} {P : Program} {live : List Nat} {a : ACode} {Q : Exit → Slots → Mem → Prop} {s : Slots} {M : Mem} (l : List α) (I : Nat → List V → Mem → Prop) (h0 : I 0 (vals s live) M)
    (step : ∀ i x vs M1, l[i]? = some x → i < l.length → decide ((i : Int) < (l.length : Int)) = true → I i vs M1 → wpC P a (roundK (upI I l.length) (l.length - i) M.length live Q) (zipS live vs) M1)
    (last : ∀ vs M1, I l.length vs M1 → wpC P a (roundK (upI I l.length) 0 M.length live Q) (zipS live vs) M1) : wpC P (.loop live a) Q s M :=
  wpC_for l.length I h0 (fun i vs M1 hi hd h => step i l[i] vs M1 (List.getElem?_eq_getElem hi) hi hd h) last

theorem dec_irrefl (a : Int) : decide (a < a) = false := by simp

/-- A call of known result. -/
theorem call_det {P : Program} {f : Nat} {args : List V} {v : V} {M : Mem} {K : V → Mem → Prop} (h : PCalls P f args (fun x => x = v)) (hu : underL 0 args = true) (hk : K v M) : ACalls P f args M K :=
  PCalls.call h hu (fun x hx _ => by rw [hx]; exact hk)

def I64 (n : Int) : Prop := -9223372036854775808 ≤ n ∧ n ≤ 9223372036854775807

theorem i64_of_wf {n : Int} (h : (Lit.int .i64 n).wf = true) : I64 n := by
  have e : IntKind.i64.min = -9223372036854775808 := by decide
  have e' : IntKind.i64.max = 9223372036854775807 := by decide
  simp only [Lit.wf, e, e', Bool.and_eq_true, decide_eq_true_eq] at h
  exact h

theorem hasR_nil {vs : List V} (h : HasR [] vs) : vs = [] := List.length_eq_zero_iff.1 h.1
theorem hasR_cons {ct : CT} {cts : List CT} {vs : List V} (h : HasR (ct :: cts) vs) : ∃ x ys, vs = x :: ys ∧ HasC ct x ∧ HasR cts ys := by
  obtain ⟨hl, h⟩ := h
  cases vs with
  | nil => simp at hl
  | cons x ys => exact ⟨x, ys, rfl, h 0 x ct rfl rfl, by simpa using hl, fun j y c a b => h (j + 1) y c (by simpa using a) (by simpa using b)⟩
theorem hasC_bool {v : V} (h : HasC .bool v) : ∃ b, v = .bool b := by cases h; exact ⟨_, rfl⟩
theorem hasC_i64 {v : V} (h : HasC (.int .i64) v) : ∃ n, v = .int .i64 n ∧ I64 n := by
  cases h with
  | int k n hw => exact ⟨n, rfl, i64_of_wf hw⟩
theorem hasC_str {v : V} (h : HasC .str v) : ∃ s, v = .str s ∧ s.length ≤ maxLen := by cases h; exact ⟨_, rfl, ‹_›⟩

/-- A slice whose rows are read as data. -/
theorem hasC_slice {α : Type} {row : α → List V} {wf : α → Prop} {cts : List CT} (hr : ∀ vs, HasR cts vs → ∃ t, vs = row t ∧ wf t) {v : V} (h : HasC (.slice cts) v) :
    ∃ (l : List α) (c : Cap), v = .slice (l.map row) c ∧ (∀ t ∈ l, wf t) ∧ l.length ≤ maxLen ∧ (c = .nil ∧ l = [] ∨ c = .any) := by
  cases h with
  | slice _ rows c hc hl hz h =>
    have key : ∀ rows : List (List V), (∀ r ∈ rows, HasR cts r) → ∃ l : List α, rows = l.map row ∧ ∀ t ∈ l, wf t := by
      intro rows
      induction rows with
      | nil => exact fun _ => ⟨[], rfl, by simp⟩
      | cons r rows ih =>
        intro hh
        obtain ⟨t, rfl, ht⟩ := hr r (hh r (by simp))
        obtain ⟨l, rfl, hl⟩ := ih fun r' h' => hh r' (by simp [h'])
        exact ⟨t :: l, rfl, by simpa using ⟨ht, hl⟩⟩
    obtain ⟨l, rfl, hwf⟩ := key rows fun r hr' => by
      obtain ⟨i, hi⟩ := List.getElem?_of_mem hr'
      exact ⟨hz i r hi, fun j x ct a b => h i r j x ct hi a b⟩
    refine ⟨l, c, rfl, hwf, by simpa using hl, ?_⟩
    rcases hc with ⟨h1, h2⟩ | h1
    · exact .inl ⟨h1, by simpa using h2⟩
    · exact .inr h1

theorem hasAll_nil {xs : List V} (h : HasAll [] xs) : xs = [] := h
theorem hasAll_cons {p : PT} {ps : List PT} {xs : List V} (h : HasAll (p :: ps) xs) : ∃ x ys, xs = x :: ys ∧ HasP p x ∧ HasAll ps ys := h

/-- The first index with an error, and the error. -/
def firstErr (e : Nat → Int) (n : Nat) : Int × Int :=
  match (List.range n).find? (fun k => decide (e k ≠ 0)) with
  | some k => ((k : Int), e k)
  | none => (0, 0)

theorem firstErr_at {e : Nat → Int} {n i : Nat} (hi : i < n) (h : ∀ k, k < i → e k = 0) (he : e i ≠ 0) : firstErr e n = ((i : Int), e i) := by
  have : (List.range n).find? (fun k => decide (e k ≠ 0)) = some i := by
    rw [List.find?_range_eq_some]
    exact ⟨by simpa using he, by simpa using hi, fun j hj => by simp [h j hj]⟩
  simp only [firstErr, this]

theorem firstErr_none {e : Nat → Int} {n : Nat} (h : ∀ k, k < n → e k = 0) : firstErr e n = (0, 0) := by
  have : (List.range n).find? (fun k => decide (e k ≠ 0)) = none := by
    rw [List.find?_eq_none]
    intro k hk
    simp [h k (List.mem_range.1 hk)]
  simp only [firstErr, this]

end Go.Vm

/- What follows an operation, out of the reckoning's sight till the operation's own value is known. -/
namespace Go.Vm

class HoldP where p : Prop
class HoldB where k : Bool → Prop
class HoldV where k : V → Prop
class HoldM where k : V → Mem → Prop

def BIfH (b : Bool) [A : HoldP] [B : HoldP] : Prop := BIf b A.p B.p
def OptVH (o : Option V) [K : HoldV] : Prop := OptV o K.k
def OptBH (o : Option V) [K : HoldB] : Prop := OptB o K.k
def OptMH (o : Option (V × Mem)) [K : HoldM] : Prop := OptVM o K.k
def CallH (P : Program) (f : Nat) (args : List V) (M : Mem) [K : HoldM] : Prop := ACalls P f args M K.k
def CallQ (P : Program) (f : Nat) (args : List V) (M : Mem) [K : HoldM] : Prop := wpCall P true f args M K.k
def CallV (P : Program) (q : Bool) (f : V) (args : List V) (M : Mem) [K : HoldM] : Prop := wpCallV P q f args M K.k

theorem BIfH_true (A : Prop) (B : HoldP) : @BIfH true ⟨A⟩ B = A := rfl
theorem BIfH_false (A : HoldP) (B : Prop) : @BIfH false A ⟨B⟩ = B := rfl
theorem BIfH_not (b : Bool) (A B : HoldP) : @BIfH (!b) A B = @BIfH b B A := by cases b <;> rfl
/-- Both ways at once, in sight. -/
theorem open_if (b : Bool) (A B : Prop) : @BIfH b ⟨A⟩ ⟨B⟩ = BIf b A B := rfl
theorem OptVH_some (v : V) (K : V → Prop) : @OptVH (some v) ⟨K⟩ = K v := rfl
theorem OptBH_some (b : Bool) (K : Bool → Prop) : @OptBH (some (.bool b)) ⟨K⟩ = K b := rfl
theorem OptMH_some (v : V) (M : Mem) (K : V → Mem → Prop) : @OptMH (some (v, M)) ⟨K⟩ = K v M := rfl
theorem condB_held (t : Bool) (A B : Prop) : condB (.bool t) A B = @BIfH t ⟨A⟩ ⟨B⟩ := rfl
theorem CallV_pfn (P : Program) (f : Nat) (caps args : List V) (M : Mem) (K : HoldM) : @CallV P false (.pfn f caps) args M K = @CallH P f (args ++ caps) M K := rfl
theorem CallV_fn (P : Program) (f : Nat) (caps args : List V) (M : Mem) (K : HoldM) : @CallV P false (.fn f caps) args M K = @CallH P f (args ++ caps) M K := rfl
theorem CallVQ_pfn (P : Program) (f : Nat) (caps args : List V) (M : Mem) (K : HoldM) : @CallV P true (.pfn f caps) args M K = @CallQ P f (args ++ caps) M K := rfl
theorem CallVQ_fn (P : Program) (f : Nat) (caps args : List V) (M : Mem) (K : HoldM) : @CallV P true (.fn f caps) args M K = @CallQ P f (args ++ caps) M K := rfl

theorem ifD {p : Prop} [Decidable p] {A B : Prop} (h1 : p → A) (h2 : ¬ p → B) : @BIfH (decide p) ⟨A⟩ ⟨B⟩ := BIf_dec h1 h2
theorem ifB {b : Bool} {A B : Prop} (h1 : b = true → A) (h2 : b = false → B) : @BIfH b ⟨A⟩ ⟨B⟩ := BIf_of h1 h2

/-- A call whose contract is known. -/
theorem callA {P : Program} {f : Nat} {args : List V} {M : Mem} {R K : V → Mem → Prop} (h : ACalls P f args M R) (hk : ∀ v M', R v M' → K v M') : @CallH P f args M ⟨K⟩ := ACalls.mono h hk
theorem callD {P : Program} {f : Nat} {args : List V} {v : V} {M : Mem} {K : V → Mem → Prop} (h : PCalls P f args (fun x => x = v)) (hk : K v M) (hu : underL 0 args = true := by rfl) : @CallH P f args M ⟨K⟩ := call_det h hu hk
theorem callP {P : Program} {f : Nat} {args : List V} {R : V → Prop} {M : Mem} {K : V → Mem → Prop} (h : PCalls P f args R) (hk : ∀ v, R v → K v M) (hu : underL 0 args = true := by rfl) : @CallH P f args M ⟨K⟩ := PCalls.call h hu (fun v hv _ => hk v hv)
/-- A call of known result that leaves memory as it was. -/
theorem callM {P : Program} {f : Nat} {args : List V} {v : V} {M : Mem} {K : V → Mem → Prop} (h : ACalls P f args M (fun x M' => x = v ∧ M' = M)) (hk : K v M) : @CallH P f args M ⟨K⟩ :=
  ACalls.mono h fun x M' ⟨h1, h2⟩ => by rw [h1, h2]; exact hk
theorem callQD {P : Program} {f : Nat} {args : List V} {v : V} {M : Mem} {K : V → Mem → Prop} (h : PCalls P f args (fun x => x = v)) (hk : K v M) (hu : underL 0 args = true := by rfl) : @CallQ P f args M ⟨K⟩ :=
  ⟨v, PCalls.call h hu (fun x hx _ => ⟨hx, rfl⟩), hk⟩
theorem callQM {P : Program} {f : Nat} {args : List V} {v : V} {M : Mem} {K : V → Mem → Prop} (h : ACalls P f args M (fun x M' => x = v ∧ M' = M)) (hk : K v M) : @CallQ P f args M ⟨K⟩ := ⟨v, h, hk⟩

end Go.Vm

/- The laws of reckoning as one set. -/
namespace Go.Vm
theorem jumpK_normal (J : List V → Mem → Prop) (l : Nat) (live : List Nat) (Q : Exit → Slots → Mem → Prop) (s : Slots) (M : Mem) : jumpK J l live Q .normal s M = Q .normal s M := rfl
theorem jumpK_ret (J : List V → Mem → Prop) (l : Nat) (live : List Nat) (Q : Exit → Slots → Mem → Prop) (s : Slots) (M : Mem) : jumpK J l live Q .ret s M = Q .ret s M := rfl
theorem jumpK_exit (J : List V → Mem → Prop) (l : Nat) (live : List Nat) (Q : Exit → Slots → Mem → Prop) (id : Nat) (s : Slots) (M : Mem) : jumpK J l live Q (.exit id) s M = Q (.exit id) s M := rfl
theorem jumpK_goto (J : List V → Mem → Prop) (l : Nat) (live : List Nat) (Q : Exit → Slots → Mem → Prop) (l' : Nat) (s : Slots) (M : Mem) : jumpK J l live Q (.goto l') s M = (l' = l ∧ J (vals s live) M) := rfl
theorem roundK_normal (I : Nat → List V → Mem → Prop) (n len : Nat) (live : List Nat) (Q : Exit → Slots → Mem → Prop) (s : Slots) (M : Mem) : roundK I n len live Q .normal s M = ((∃ m, m < n ∧ I m (vals s live) M) ∨ (popOK len (vals s live) M = true ∧ ∃ m, m < n ∧ I m (vals s live) (M.take len))) := rfl

/-! ### Memory -/
theorem app_mslice (sz bytes id ver len : Nat) (xr : List (List V)) (c : Cap) (M : Mem) : appV false sz bytes (.mslice id ver 0 len) (.slice xr c) M = (bif headLen sz xr then (match M[id]? with
    | some (.arr z rows v fz) =>
      bif z == sz && v == ver && len == rows.length && decide ((rows.length + xr.length) * (2 * bytes) ≤ 2 ^ 48) then
        some (.mslice id (ver + 1) 0 (len + xr.length), M.set id (.arr sz (rows ++ xr) (ver + 1) fz))
      else none
    | _ => none) else none) := by
  simp only [appV, rowsV]
  cases headLen sz xr <;> rfl
theorem app_nil (sz bytes : Nat) (s : List (List V)) (c c' : Cap) (xr : List (List V)) (M : Mem) : appV true sz bytes (.slice s c) (.slice xr c') M = (bif headLen sz xr then bif headLen sz s && (decide (c = .nil) || decide (c = .full)) && decide ((s.length + xr.length) * (2 * bytes) ≤ 2 ^ 48) then some (.slice (s ++ xr) .unk, M) else none else none) := by
  simp only [appV, rowsV]
  cases headLen sz xr <;> rfl
theorem headLen_cons (n : Nat) (r : List V) (rs : List (List V)) : headLen n (r :: rs) = (r.length == n) := rfl
theorem headLen_nil (n : Nat) : headLen n [] = true := rfl
theorem headLen_map {α : Type} {f : α → List V} {n : Nat} (h : ∀ x, (f x).length = n) (l : List α) : headLen n (l.map f) = true := by
  cases l with
  | nil => rfl
  | cons x l => simp [headLen, h]
theorem newarr_eq (sz : Nat) (M : Mem) : newarrV sz M = some (.mslice M.length 0 0 0, M ++ [.arr sz [] 0 0]) := rfl
theorem dec_le {a b : Nat} (h : a ≤ b) : decide (a ≤ b) = true := decide_eq_true h
theorem minmax_max (k : IntKind) (a b : Int) : minmaxV true (.int k a) (.int k b) = some (.int k (max a b)) := by
  simp only [minmaxV, decide_true, cond_true, Int.max_def]
  congr 2
  split <;> split <;> omega
theorem minmax_min (k : IntKind) (a b : Int) : minmaxV false (.int k a) (.int k b) = some (.int k (min a b)) := by
  simp only [minmaxV, decide_true, cond_true, Int.min_def]
  congr 2
  split <;> split <;> omega
theorem mkfn_eq (f : Nat) (caps : List V) : mkfnV f caps = bif allPure caps then .pfn f caps else .fn f caps := rfl
theorem build_eq (z : List V) (ps : List (Nat × Nat × V)) : buildV z ps = (match fillA z ps with | some cs => some (.agg cs) | none => none) := rfl
theorem buildSlice_eq (z : List V) (sz len : Nat) (ps : List (Nat × Nat × V)) : buildSliceV z sz len ps = (match fillA z ps with | some cs => bif allPure cs then some (.slice (chunk sz len cs) .full) else none | none => none) := rfl

/-- A slice of a slice. -/
theorem slice_lh (sz : Nat) (rows : List (List V)) (c : Cap) (k k' : IntKind) (l h : Int) (M : Mem) (h1 : 0 ≤ l) (h2 : l ≤ h) (h3 : h ≤ (rows.length : Int)) (hz : headLen sz rows = true) :
    sliceV sz (.slice rows c) (some (.int k l)) (some (.int k' h)) none M = some (.slice ((rows.drop l.toNat).take (h.toNat - l.toNat)) (capS c h.toNat rows.length rows.length false)) := by
  have a1 : decide (0 ≤ l) = true := decide_eq_true h1
  have a2 : decide (0 ≤ h) = true := decide_eq_true (by omega)
  have a3 : decide (l.toNat ≤ h.toNat) = true := decide_eq_true (by omega)
  have a4 : decide (h.toNat ≤ rows.length) = true := decide_eq_true (by omega)
  simp only [sliceV, boundV, a1, a2, a3, a4, cond_true, hz, Bool.and_self, decide_true, Nat.le_refl, Option.isSome_none]
theorem slice_l (sz : Nat) (rows : List (List V)) (c : Cap) (k : IntKind) (l : Int) (M : Mem) (h1 : 0 ≤ l) (h2 : l ≤ (rows.length : Int)) (hz : headLen sz rows = true) :
    sliceV sz (.slice rows c) (some (.int k l)) none none M = some (.slice (rows.drop l.toNat) (capS c rows.length rows.length rows.length false)) := by
  have a1 : decide (0 ≤ l) = true := decide_eq_true h1
  have a3 : decide (l.toNat ≤ rows.length) = true := decide_eq_true (by omega)
  simp only [sliceV, boundV, a1, a3, cond_true, hz, Bool.and_self, decide_true, Nat.le_refl, Option.isSome_none]
  rw [List.take_of_length_le (by simp)]
theorem slice_h (sz : Nat) (rows : List (List V)) (c : Cap) (k' : IntKind) (h : Int) (M : Mem) (h2 : 0 ≤ h) (h3 : h ≤ (rows.length : Int)) (hz : headLen sz rows = true) :
    sliceV sz (.slice rows c) none (some (.int k' h)) none M = some (.slice (rows.take h.toNat) (capS c h.toNat rows.length rows.length false)) := by
  have a2 : decide (0 ≤ h) = true := decide_eq_true (by omega)
  have a4 : decide (h.toNat ≤ rows.length) = true := decide_eq_true (by omega)
  simp only [sliceV, boundV, a2, a4, cond_true, hz, Bool.and_self, decide_true, Nat.le_refl, Option.isSome_none, Nat.zero_le, Nat.sub_zero, List.drop_zero]

theorem makeMap_none (M : Mem) : makeMapV none M = some (.map M.length, M ++ [.map []]) := rfl
theorem makeMap_some (k : IntKind) (n : Int) (M : Mem) : makeMapV (some (.int k n)) M = some (.map M.length, M ++ [.map []]) := rfl
/-- An entry looked up; an entry set. -/
def lookE (c : CK) (z : V) (ok : Bool) (key : V) (es : List (V × V)) : Option V := lookupV c [z] false ok (.map 0) key [.map es]
def updE (c : CK) (key x : V) (es : List (V × V)) : Option (List (V × V)) := bif isKey c key && keysOk c key es && x.isPure then some (mapSet c key x es) else none
theorem lookup_eq (c : CK) (z : V) (ok : Bool) (id : Nat) (key : V) (M : Mem) : lookupV c [z] false ok (.map id) key M = (match M[id]? with | some (.map es) => lookE c z ok key es | _ => none) := by
  simp only [lookE, lookupV, mapFind, List.getElem?_cons_zero]
  cases h : M[id]? with
  | none => cases isKey c key <;> rfl
  | some B => cases B <;> cases isKey c key <;> rfl
theorem update_eq (c : CK) (id : Nat) (key x : V) (M : Mem) : mapUpdateVM c (.map id) key x M = (match M[id]? with | some (.map es) => (match updE c key x es with | some es' => some (.undef, M.set id (.map es')) | none => none) | _ => none) := by
  simp only [mapUpdateVM, mapUpdateV, updE]
  cases h : M[id]? with
  | none => rfl
  | some B =>
    cases B with
    | map es => simp only []; cases isKey c key && keysOk c key es && x.isPure <;> rfl
    | box _ => rfl
    | arr _ _ _ _ => rfl
theorem bin_agg_eql (ks : List CK) (xs ys : List V) : binV .eql (.cells ks) (.agg xs) (.agg ys) = (cellsEq ks xs ys).map .bool := rfl
theorem bin_agg_neq (ks : List CK) (xs ys : List V) : binV .neq (.cells ks) (.agg xs) (.agg ys) = (cellsEq ks xs ys).map fun b => .bool !b := rfl
theorem cellEq_int (k : IntKind) (a b : Int) : cellEq .int (.int k a) (.int k b) = some (decide (a = b)) := by simp [cellEq]
theorem cellEq_bool (a b : Bool) : cellEq .bool (.bool a) (.bool b) = some (decide (a = b)) := rfl
theorem cellEq_str (a b : List UInt8) : cellEq .str (.str a) (.str b) = some (decide (a = b)) := rfl
theorem cellsEqL_nil (xs ys : List V) : cellsEq [] xs ys = some true := by cases xs <;> rfl
theorem cellsEqL_cons (c : CK) (cs : List CK) (x y : V) (xs ys : List V) : cellsEq (c :: cs) (x :: xs) (y :: ys) = (match cellEq c x y, cellsEq cs xs ys with | some b, some d => some (b && d) | _, _ => none) := rfl
theorem take_len_map {α β : Type} (f : α → β) (l : List α) : (l.map f).take l.length = l.map f := List.take_of_length_le (by simp)

attribute [go_sem ↓] wpC_cond_tmp wpC_seq wpC_skip wpC_label wpC_ret wpC_exit wpC_goto wpC_block seqK_normal seqK_ret seqK_exit seqK_goto blockK_normal blockK_ret blockK_exit blockK_goto
  roundK_ret roundK_exit roundK_goto endK_normal endK_ret jumpK_normal jumpK_ret jumpK_exit jumpK_goto wpPop wpKeep
attribute [go_sem] peqV bin_and bin_or bin_xor bin_andNot condB_held popPost_some keepPost_some resAll resVs resV OptV_some OptVH_some OptBH_some OptMH_some BIfH_true BIfH_false BIfH_not BIf_true BIf_false BIf_not
  CallV_pfn CallV_fn CallVQ_pfn CallVQ_fn sinit sget zipS vals
  cond_true cond_false Nat.zero_add Nat.add_zero Nat.le_refl decide_true decide_false
  bin_add bin_sub bin_mul bin_eql bin_neq bin_lss bin_leq bin_gtr bin_geq bin_str_eql bin_str_neq bin_bool_eql bin_bool_neq un_not un_neg pick_true pick_false indexSl_slice indexSl_mslice indexArr_ok indexStr_ok move_rref move_ptr move_eptr
  load_rref load_ptr loadC_one loadC_agg load_eptr storeVM storeV lenV_slice lenV_mslice lenStrV_str extract_tuple conv_int field_agg allocV boxV
  List.length_cons List.length_nil List.length_map List.getElem?_map List.getElem?_cons_zero List.getElem?_cons_succ List.drop_zero List.drop_succ_cons List.take_succ_cons List.take_zero List.nil_append List.cons_append List.set_cons_zero List.set_cons_succ
  V.cells? putAt allCell V.isCell Bool.and_true Bool.and_self Bool.true_and Option.map_some Option.map_none Int.toNat_natCast toNat_sub1 toNat_add1 toNat_lit0 wrap_i64
  freezeV mapO V.under underL memUnder Blk.under V.isPure allPure true_and and_true V.bool.injEq V.int.injEq V.str.injEq
  app_mslice app_nil headLen_cons headLen_nil newarr_eq dec_le minmax_max minmax_min mkfn_eq build_eq buildSlice_eq fillA chunk bin_agg_eql bin_agg_neq cellEq_int cellEq_bool cellEq_str cellsEqL_nil cellsEqL_cons makeMap_none makeMap_some lookup_eq update_eq take_len_map beq_self_eq_true Bool.not_true Bool.not_false Bool.false_and Bool.and_false List.length_append
end Go.Vm
