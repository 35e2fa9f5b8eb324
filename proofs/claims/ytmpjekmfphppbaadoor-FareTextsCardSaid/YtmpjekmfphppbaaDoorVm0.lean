/- The abstract machine Vm, part 0: abstract values, code, and the weakest precondition that is proved sound. -/
import Derived.Calls
import Derived.Below
import Derived.Laws.Sem
import Derived.Laws.World
import Derived.Laws.Cells
import Derived.Deep.Quiet
import Derived.Deep.LoopGhost
import Derived.Scope
import Derived.ScopeJumps
import Derived.Laws.Strings
import Derived.Laws.StructEq
set_option linter.unusedSimpArgs false
set_option linter.unusedVariables false

/- The abstract values and the abstract memory of the machine Vm, what they stand for in a world, and that this is kept by new blocks and by stores. -/
namespace Go.Vm
open Go.RowKit (Below)

inductive Cap where
  | nil | full | any | unk
  deriving DecidableEq

/-- Abstract values. A slice and a read-only pointer carry what they lead to. -/
inductive V where
  | undef
  | bool (b : Bool)
  | int (k : IntKind) (n : Int)
  | str (s : List UInt8)
  | nilp
  | nilf
  | nilm
  | slice (rows : List (List V)) (c : Cap)
  | rref (cells : List V)
  | pfn (f : Nat) (caps : List V)
  | ptr (id off : Nat)
  | eptr (id ver row off : Nat)
  | mslice (id ver start len : Nat)
  | map (id : Nat)
  | fn (f : Nat) (caps : List V)
  | agg (cells : List V)
  | tuple (vs : List V)
  deriving Inhabited

/-- It leads to no cell that may still be written. -/
def V.isPure : V → Bool
  | .bool _ | .int _ _ | .str _ | .nilp | .nilf | .nilm | .slice _ _ | .rref _ | .pfn _ _ => true
  | _ => false

/-- It fills one cell. -/
def V.isCell : V → Bool
  | .undef | .agg _ | .tuple _ => false
  | _ => true

inductive Blk where
  | box (cells : List V)
  | arr (sz : Nat) (rows : List (List V)) (ver fz : Nat)
  | map (es : List (V × V))
  | vec (cells : List V) (ver : Nat)
  | dead
  deriving Inhabited

abbrev Mem := List Blk

structure Loc where
  b : Nat
  box : Bool
  live : Bool
  sz : Nat
  cap : Nat
  ver : Nat

/-- The slice over a part of a block; a block that is not there yet is the nil slice. -/
def Loc.sliceIs (l : Loc) (start len : Nat) (v : Value) : Prop :=
  (l.live = false ∧ len = 0 ∧ v = .slice none 0 0) ∨ (l.live = true ∧ start + len ≤ l.cap ∧ ∃ o, v = .slice (some ⟨l.b, o, none⟩) len (l.cap - start) ∧ (start < l.cap → o = start * l.sz))

structure Env where
  B0 : Nat
  locs : List Loc
  S : Nat → Nat → Prop

inductive Rep (w : World) (Γ : Env) : V → Value → Prop
  | undef (v : Value) : Rep w Γ .undef v
  | bool (b : Bool) : Rep w Γ (.bool b) (.bool b)
  | int (k : IntKind) (n : Int) : Rep w Γ (.int k n) (.int k n)
  | str (s : List UInt8) : Rep w Γ (.str s) (.string ⟨s.toArray⟩)
  | nilp : Rep w Γ .nilp (.pointer none)
  | nilf : Rep w Γ .nilf .nilFunc
  | nilm : Rep w Γ .nilm (.map none)
  | sliceNil (c : Cap) (hc : c = .nil ∨ c = .unk) : Rep w Γ (.slice [] c) (.slice none 0 0)
  | sliceE (c : Cap) (hc : c ≠ .nil) (p : Addr) : Rep w Γ (.slice [] c) (.slice (some p) 0 0)
  | slice (rows : List (List V)) (c : Cap) (b o sz cap : Nat) (cv : Nat → Nat → Value) (hc : c ≠ .nil) (hf : c = .full → cap = rows.length) (hcap : rows.length ≤ cap)
      (hsz : ∀ (i : Nat) (r : List V), rows[i]? = some r → r.length = sz)
      (hs : ∀ i j, i < rows.length → j < sz → Γ.S b (o + (i * sz + j)))
      (hcell : ∀ i j, i < rows.length → j < sz → w.cell? ⟨b, o + (i * sz + j), none⟩ = some (cv i j))
      (hp : ∀ (i : Nat) (r : List V) (j : Nat) (x : V), rows[i]? = some r → r[j]? = some x → x.isPure = true)
      (hr : ∀ (i : Nat) (r : List V) (j : Nat) (x : V), rows[i]? = some r → r[j]? = some x → Rep w Γ x (cv i j)) :
      Rep w Γ (.slice rows c) (.slice (some ⟨b, o, none⟩) rows.length cap)
  | rref (cells : List V) (b o : Nat) (cv : Nat → Value)
      (hs : ∀ j, j < cells.length → Γ.S b (o + j))
      (hcell : ∀ j, j < cells.length → w.cell? ⟨b, o + j, none⟩ = some (cv j))
      (hp : ∀ (j : Nat) (x : V), cells[j]? = some x → x.isPure = true)
      (hr : ∀ (j : Nat) (x : V), cells[j]? = some x → Rep w Γ x (cv j)) :
      Rep w Γ (.rref cells) (.pointer (some ⟨b, o, none⟩))
  | pfn (f : Nat) (caps : List V) (cv : Array Value) (hl : cv.size = caps.length)
      (hp : ∀ (j : Nat) (x : V), caps[j]? = some x → x.isPure = true)
      (hr : ∀ (j : Nat) (x : V), caps[j]? = some x → Rep w Γ x (cv.getD j Go.undef)) : Rep w Γ (.pfn f caps) (.func (.func f) #[] cv)
  | ptr (id off : Nat) (l : Loc) (hl : Γ.locs[id]? = some l) (hb : l.box = true) (hv : l.live = true) : Rep w Γ (.ptr id off) (.pointer (some ⟨l.b, off, none⟩))
  | eptr (id ver row off : Nat) (l : Loc) (hl : Γ.locs[id]? = some l) (hv : ver ≤ l.ver) (p : Addr)
      (h : l.ver = ver → p = ⟨l.b, row * l.sz + off, none⟩) : Rep w Γ (.eptr id ver row off) (.pointer (some p))
  | mslice (id ver start len : Nat) (l : Loc) (hl : Γ.locs[id]? = some l) (hv : ver ≤ l.ver) (v : Value)
      (h : l.ver = ver → l.sliceIs start len v) (hc : v.oneCell' = true) : Rep w Γ (.mslice id ver start len) v
  | map (id : Nat) (l : Loc) (hl : Γ.locs[id]? = some l) (hb : l.box = true) (hv : l.live = true) : Rep w Γ (.map id) (.map (some l.b))
  | fn (f : Nat) (caps : List V) (cv : Array Value) (hl : cv.size = caps.length)
      (hr : ∀ (j : Nat) (x : V), caps[j]? = some x → Rep w Γ x (cv.getD j Go.undef)) : Rep w Γ (.fn f caps) (.func (.func f) #[] cv)
  | agg (cells : List V) (cv : Array Value) (hl : cv.size = cells.length)
      (hr : ∀ (j : Nat) (x : V), cells[j]? = some x → Rep w Γ x (cv.getD j Go.undef)) : Rep w Γ (.agg cells) (.agg cv)
  | tuple (vs : List V) (cv : Array Value) (hl : cv.size = vs.length)
      (hr : ∀ (j : Nat) (x : V), vs[j]? = some x → Rep w Γ x (cv.getD j Go.undef)) : Rep w Γ (.tuple vs) (.tuple cv)

/-- A list of abstract values, cell for cell. -/
def RepL (w : World) (Γ : Env) (xs : List V) (cs : Array Value) : Prop :=
  cs.size = xs.length ∧ ∀ (j : Nat) (x : V), xs[j]? = some x → Rep w Γ x (cs.getD j Go.undef)

/-- The world and its reading have gone on. -/
structure Ext (w : World) (Γ : Env) (w' : World) (Γ' : Env) : Prop where
  s : ∀ b o, Γ.S b o → Γ'.S b o ∧ w'.cell? ⟨b, o, none⟩ = w.cell? ⟨b, o, none⟩
  locs : ∀ (i : Nat) (l : Loc), Γ.locs[i]? = some l → ∃ l', Γ'.locs[i]? = some l' ∧ l.ver ≤ l'.ver ∧ (l'.ver = l.ver → l' = l) ∧ (l.box = true → l' = l)
  b0 : Γ'.B0 = Γ.B0
  below : Below Γ.B0 w w'
  sold : ∀ b o, b < Γ.B0 → Γ'.S b o → Γ.S b o

/-- What is known of the blocks that were there before the call, at whatever moment (a seat whose rows lay package-level variables says it here). -/
def GT (w : World) : Prop := ∃ T f, w.heap[0]? = some (.cells ((List.range 20).map fun i => Value.int .u64 ((10 ^ i : Nat) : Int)).toArray T f)

theorem Ext.refl (w : World) (Γ : Env) : Ext w Γ w Γ :=
  ⟨fun _ _ h => ⟨h, rfl⟩, fun _ l h => ⟨l, h, Nat.le_refl _, fun _ => rfl, fun _ => rfl⟩, rfl, Below.refl _ _, fun _ _ _ h => h⟩

theorem Ext.trans {w1 w2 w3 : World} {Γ1 Γ2 Γ3 : Env} (h : Ext w1 Γ1 w2 Γ2) (k : Ext w2 Γ2 w3 Γ3) : Ext w1 Γ1 w3 Γ3 where
  s b o hs := ⟨(k.s b o (h.s b o hs).1).1, ((k.s b o (h.s b o hs).1).2).trans (h.s b o hs).2⟩
  locs i l hl := by
    obtain ⟨l2, h2, v2, e2, b2⟩ := h.locs i l hl
    obtain ⟨l3, h3, v3, e3, b3⟩ := k.locs i l2 h2
    refine ⟨l3, h3, Nat.le_trans v2 v3, fun e => ?_, fun hb => ?_⟩
    · have hv : l2.ver = l.ver := by omega
      have := e2 hv
      subst this
      exact e3 e
    · have := b2 hb
      subst this
      exact b3 hb
  b0 := k.b0.trans h.b0
  below := h.below.trans (h.b0 ▸ k.below)
  sold b o hb hs := h.sold b o hb (k.sold b o (by rw [h.b0]; exact hb) hs)

theorem Rep.ext {w w' : World} {Γ Γ' : Env} (he : Ext w Γ w' Γ') {x : V} {v : Value} (h : Rep w Γ x v) : Rep w' Γ' x v := by
  induction h with
  | undef v => exact .undef v
  | bool b => exact .bool b
  | int k n => exact .int k n
  | str s => exact .str s
  | nilp => exact .nilp
  | nilf => exact .nilf
  | nilm => exact .nilm
  | sliceNil c hc => exact .sliceNil c hc
  | sliceE c hc p => exact .sliceE c hc p
  | slice rows c b o sz cap cv hc hf hcap hsz hs hcell hp hr ih =>
    exact .slice rows c b o sz cap cv hc hf hcap hsz (fun i j hi hj => (he.s _ _ (hs i j hi hj)).1) (fun i j hi hj => (he.s _ _ (hs i j hi hj)).2.trans (hcell i j hi hj)) hp ih
  | rref cells b o cv hs hcell hp hr ih =>
    exact .rref cells b o cv (fun j hj => (he.s _ _ (hs j hj)).1) (fun j hj => (he.s _ _ (hs j hj)).2.trans (hcell j hj)) hp ih
  | pfn f caps cv hl hp hr ih => exact .pfn f caps cv hl hp ih
  | ptr id off l hl hb hv =>
    obtain ⟨l', h', _, _, h2⟩ := he.locs id l hl
    have := h2 hb
    subst this
    exact .ptr id off _ h' hb hv
  | eptr id ver row off l hl hv v h =>
    obtain ⟨l', h', v', h2, _⟩ := he.locs id l hl
    refine .eptr id ver row off l' h' (by omega) v fun e => ?_
    have e2 : l'.ver = l.ver := by omega
    have := h2 e2
    subst this
    exact h e
  | mslice id ver start len l hl hv v h hc =>
    obtain ⟨l', h', v', h2, _⟩ := he.locs id l hl
    refine .mslice id ver start len l' h' (by omega) v (fun e => ?_) hc
    have e2 : l'.ver = l.ver := by omega
    have := h2 e2
    subst this
    exact h e
  | map id l hl hb hv =>
    obtain ⟨l', h', _, _, h2⟩ := he.locs id l hl
    have := h2 hb
    subst this
    exact .map id _ h' hb hv
  | fn f caps cv hl hr ih => exact .fn f caps cv hl ih
  | agg cells cv hl hr ih => exact .agg cells cv hl ih
  | tuple vs cv hl hr ih => exact .tuple vs cv hl ih

/-- A pure value does not lean on the list of places. -/
theorem Rep.pure_move {w w' : World} {Γ Γ' : Env} (hs : ∀ b o, Γ.S b o → Γ'.S b o ∧ w'.cell? ⟨b, o, none⟩ = w.cell? ⟨b, o, none⟩) {x : V} {v : Value} (h : Rep w Γ x v) (hx : x.isPure = true) : Rep w' Γ' x v := by
  induction h with
  | bool b => exact .bool b
  | int k n => exact .int k n
  | str s => exact .str s
  | nilp => exact .nilp
  | nilf => exact .nilf
  | nilm => exact .nilm
  | sliceNil c hc => exact .sliceNil c hc
  | sliceE c hc p => exact .sliceE c hc p
  | slice rows c b o sz cap cv hc hf hcap hsz hs' hcell hp hr ih =>
    exact .slice rows c b o sz cap cv hc hf hcap hsz (fun i j hi hj => (hs _ _ (hs' i j hi hj)).1) (fun i j hi hj => (hs _ _ (hs' i j hi hj)).2.trans (hcell i j hi hj)) hp
      (fun i r j x h1 h2 => ih i r j x h1 h2 (hp i r j x h1 h2))
  | rref cells b o cv hs' hcell hp hr ih =>
    exact .rref cells b o cv (fun j hj => (hs _ _ (hs' j hj)).1) (fun j hj => (hs _ _ (hs' j hj)).2.trans (hcell j hj)) hp (fun j x h1 => ih j x h1 (hp j x h1))
  | pfn f caps cv hl hp hr ih => exact .pfn f caps cv hl hp (fun j x h1 => ih j x h1 (hp j x h1))
  | undef v => cases hx
  | ptr _ _ _ _ _ _ => cases hx
  | eptr _ _ _ _ _ _ _ _ _ => cases hx
  | mslice _ _ _ _ _ _ _ _ _ _ => cases hx
  | map _ _ _ _ _ => cases hx
  | fn _ _ _ _ _ _ => cases hx
  | agg _ _ _ _ _ => cases hx
  | tuple _ _ _ _ _ => cases hx

def BlkRep (w : World) (Γ : Env) (l : Loc) : Blk → Prop
  | .box cells => l.box = true ∧ l.live = true ∧ (∀ o, ¬ Γ.S l.b o) ∧ ∃ c T, w.heap[l.b]? = some (.cells c T (0, 0)) ∧ RepL w Γ cells c
  | .arr sz rows ver fz => l.box = false ∧ l.sz = sz ∧ l.ver = ver ∧ fz ≤ rows.length ∧ rows.length ≤ l.cap ∧ (l.live = false → l.cap = 0) ∧
      (∀ (i : Nat) (r : List V), rows[i]? = some r → r.length = l.sz) ∧ (∀ (i : Nat) (r : List V) (j : Nat) (x : V), rows[i]? = some r → r[j]? = some x → x.isPure = true) ∧
      (l.live = true → (∀ o, Γ.S l.b o ↔ o < fz * l.sz) ∧ ∃ c T, w.heap[l.b]? = some (.cells c T (0, 0)) ∧ c.size = l.cap * l.sz ∧
        ∀ (i : Nat) (r : List V) (j : Nat) (x : V), rows[i]? = some r → r[j]? = some x → Rep w Γ x (c.getD (i * l.sz + j) Go.undef))
  | .map es => l.box = true ∧ l.live = true ∧ (∀ o, ¬ Γ.S l.b o) ∧ ∃ ents clock, w.heap[l.b]? = some (.map ents clock) ∧ ents.size = es.length ∧
      (∀ (i : Nat) (e : MapEntry) (kv : V × V), ents[i]? = some e → es[i]? = some kv → kv.1.isPure = true ∧ kv.2.isPure = true ∧ Rep w Γ kv.1 e.key ∧ Rep w Γ kv.2 e.val ∧ e.born < clock) ∧
      (∀ (i j : Nat) (e e' : MapEntry), ents[i]? = some e → ents[j]? = some e' → e.born = e'.born → i = j)
  | .vec cells ver => l.box = false ∧ l.sz = 1 ∧ l.ver = ver ∧ cells.length ≤ l.cap ∧ (l.live = false → l.cap = 0) ∧
      (l.live = true → (∀ o, ¬ Γ.S l.b o) ∧ ∃ c T, w.heap[l.b]? = some (.cells c T (0, 0)) ∧ c.size = l.cap ∧ ∀ (j : Nat) (x : V), cells[j]? = some x → Rep w Γ x (c.getD j Go.undef))
  | .dead => l.box = false ∧ l.live = false

structure Good (w : World) (Γ : Env) (M : Mem) : Prop where
  len : Γ.locs.length = M.length
  blk : ∀ (i : Nat) (l : Loc) (B : Blk), Γ.locs[i]? = some l → M[i]? = some B → BlkRep w Γ l B
  b0 : ∀ (i : Nat) (l : Loc), Γ.locs[i]? = some l → Γ.B0 ≤ l.b
  inj : ∀ (i j : Nat) (l l' : Loc), Γ.locs[i]? = some l → Γ.locs[j]? = some l' → l.live = true → l'.live = true → l.b = l'.b → i = j
  scell : ∀ b o, Γ.S b o → ∃ v, w.cell? ⟨b, o, none⟩ = some v
  base : Γ.B0 ≤ w.heap.size
  tab : ∀ w', Below Γ.B0 w w' → GT w'

end Go.Vm

/- What one step of memory does to the reading of a world: draws, new blocks, stores, views that become read-only, and places that are dropped. -/
namespace Go.Vm
open Go.RowKit (Below)

theorem cell_of_heap {w : World} {b o : Nat} {c : Array Value} {T : TypeId} {f : Nat × Nat} (h : w.heap[b]? = some (.cells c T f)) : w.cell? ⟨b, o, none⟩ = c[o]? := by
  simp [World.cell?, h]

theorem getD_of_getElem? {c : Array Value} {j : Nat} (h : j < c.size) : c[j]? = some (c.getD j Go.undef) := by
  simp [h]

theorem cell?_congr {w w' : World} {b o : Nat} (h : w'.heap[b]? = w.heap[b]?) : w'.cell? ⟨b, o, none⟩ = w.cell? ⟨b, o, none⟩ := by
  simp [World.cell?, h]

theorem RepL.ext {w w' : World} {Γ Γ' : Env} (he : Ext w Γ w' Γ') {xs : List V} {cs : Array Value} (h : RepL w Γ xs cs) : RepL w' Γ' xs cs :=
  ⟨h.1, fun j x hx => (h.2 j x hx).ext he⟩

theorem BlkRep.keep {w w' : World} {Γ Γ' : Env} (he : Ext w Γ w' Γ') {l : Loc} (hh : l.live = true → w'.heap[l.b]? = w.heap[l.b]?) (hS : l.live = true → ∀ o, Γ'.S l.b o → Γ.S l.b o) {B : Blk} (h : BlkRep w Γ l B) : BlkRep w' Γ' l B := by
  cases B with
  | box cells =>
    obtain ⟨h1, hv, h2, c, T, h3, h4⟩ := h
    exact ⟨h1, hv, fun o ho => h2 o (hS hv o ho), c, T, (hh hv).trans h3, h4.ext he⟩
  | arr sz rows ver fz =>
    obtain ⟨h1, h0, h2, h3, h4, h5, h6, h7, h8⟩ := h
    refine ⟨h1, h0, h2, h3, h4, h5, h6, h7, fun hc => ?_⟩
    obtain ⟨h5, c, T, h8, h9, h10⟩ := h8 hc
    exact ⟨fun o => ⟨fun ho => (h5 o).1 (hS hc o ho), fun ho => (he.s _ _ ((h5 o).2 ho)).1⟩, c, T, (hh hc).trans h8, h9, fun i r j x hr hx => (h10 i r j x hr hx).ext he⟩
  | map es =>
    obtain ⟨h1, hv, h2, ents, clock, h3, h4, h5, h6⟩ := h
    exact ⟨h1, hv, fun o ho => h2 o (hS hv o ho), ents, clock, (hh hv).trans h3, h4, fun i e kv h7 h8 => by
      obtain ⟨a, b, c, d, e⟩ := h5 i e kv h7 h8
      exact ⟨a, b, c.ext he, d.ext he, e⟩, h6⟩
  | vec cells ver =>
    obtain ⟨h1, h0, h2, h4, h5, h8⟩ := h
    refine ⟨h1, h0, h2, h4, h5, fun hc => ?_⟩
    obtain ⟨h5, c, T, h8, h9, h10⟩ := h8 hc
    exact ⟨fun o ho => h5 o (hS hc o ho), c, T, (hh hc).trans h8, h9, fun j x hx => (h10 j x hx).ext he⟩
  | dead => exact h

/-- A draw. -/
theorem Ext.drew (w : World) (Γ : Env) : Ext w Γ w.drew Γ :=
  ⟨fun _ _ h => ⟨h, rfl⟩, fun _ l h => ⟨l, h, Nat.le_refl _, fun _ => rfl, fun _ => rfl⟩, rfl, (Below.refl _ _).drew, fun _ _ _ h => h⟩

theorem Good.tab_ext {w w' : World} {Γ Γ' : Env} {M : Mem} (h : Good w Γ M) (he : Ext w Γ w' Γ') : ∀ w1, Below Γ'.B0 w' w1 → GT w1 := fun w1 h1 =>
  h.tab w1 (he.below.trans (he.b0 ▸ h1))

theorem Good.drew {w : World} {Γ : Env} {M : Mem} (h : Good w Γ M) : Good w.drew Γ M :=
  ⟨h.len, fun i l B hl hB => (h.blk i l B hl hB).keep (Ext.drew w Γ) (fun _ => rfl) (fun _ _ h => h), h.b0, h.inj, h.scell, h.base, h.tab_ext (Ext.drew w Γ)⟩

theorem Good.loc_lt {w : World} {Γ : Env} {M : Mem} (h : Good w Γ M) {i : Nat} {l : Loc} (hl : Γ.locs[i]? = some l) (hv : l.live = true) : l.b < w.heap.size := by
  have hi : i < M.length := by rw [← h.len]; exact (List.getElem?_eq_some_iff.1 hl).1
  have hB := h.blk i l M[i] hl (by simp [hi])
  have key : ∀ o, w.heap[l.b]? = some o → l.b < w.heap.size := fun o ho => (Array.getElem?_eq_some_iff.1 ho).1
  cases hm : M[i] with
  | box cells => rw [hm] at hB; obtain ⟨_, _, _, c, T, h3, _⟩ := hB; exact key _ h3
  | arr sz rows ver fz =>
    rw [hm] at hB
    obtain ⟨h1, _, _, _, _, _, _, _, h8⟩ := hB
    obtain ⟨_, c, T, h3, _⟩ := h8 hv
    exact key _ h3
  | map es => rw [hm] at hB; obtain ⟨_, _, _, ents, clock, h3, _⟩ := hB; exact key _ h3
  | vec cells ver =>
    rw [hm] at hB
    obtain ⟨_, _, _, _, _, h8⟩ := hB
    obtain ⟨_, c, T, h3, _⟩ := h8 hv
    exact key _ h3
  | dead => rw [hm] at hB; rw [hB.2] at hv; cases hv

theorem Good.s_lt {w : World} {Γ : Env} {M : Mem} (h : Good w Γ M) {b o : Nat} (hs : Γ.S b o) : b < w.heap.size := by
  obtain ⟨v, hv⟩ := h.scell b o hs
  exact World.block_lt_of_cell? (a := ⟨b, o, none⟩) w hv

theorem heap_alloc_lt (w : World) (o : Obj) {k : Nat} (h : k < w.heap.size) : (w.alloc o).heap[k]? = w.heap[k]? := Below.heap_alloc w o k h
theorem heap_alloc_new (w : World) (o : Obj) : (w.alloc o).heap[w.heap.size]? = some o := by
  show (w.heap.push o)[w.heap.size]? = _
  simp

/-- A new block of which the reading says nothing, or whose cells are read-only from the first. -/
def Env.imm (Γ : Env) (b n : Nat) : Env := { Γ with S := fun b' o => Γ.S b' o ∨ (b' = b ∧ o < n) }

theorem Ext.allocImm {w : World} {Γ : Env} {M : Mem} (h : Good w Γ M) (c : Array Value) (T : TypeId) :
    Ext w Γ (w.alloc (.cells c T)) (Γ.imm w.heap.size c.size) where
  s b o hs := ⟨.inl hs, cell?_congr (heap_alloc_lt w _ (h.s_lt hs))⟩
  locs i l hl := ⟨l, hl, Nat.le_refl _, fun _ => rfl, fun _ => rfl⟩
  b0 := rfl
  below := (Below.refl _ _).alloc h.base _
  sold b o hb hs := by
    rcases hs with hs | ⟨rfl, _⟩
    · exact hs
    · have := h.base; omega

theorem Good.allocImm {w : World} {Γ : Env} {M : Mem} (h : Good w Γ M) (c : Array Value) (T : TypeId) :
    Good (w.alloc (.cells c T)) (Γ.imm w.heap.size c.size) M where
  len := h.len
  blk i l B hl hB := (h.blk i l B hl hB).keep (Ext.allocImm h c T) (fun hv => heap_alloc_lt w _ (h.loc_lt hl hv)) (fun hv o ho => by
    rcases ho with ho | ⟨hb, _⟩
    · exact ho
    · have := h.loc_lt hl hv; omega)
  b0 := h.b0
  inj := h.inj
  scell b o hs := by
    rcases hs with hs | ⟨rfl, ho⟩
    · obtain ⟨v, hv⟩ := h.scell b o hs
      exact ⟨v, (cell?_congr (heap_alloc_lt w _ (h.s_lt hs))).trans hv⟩
    · exact ⟨c.getD o Go.undef, by rw [cell_of_heap (heap_alloc_new w _)]; exact getD_of_getElem? ho⟩
  base := by show Γ.B0 ≤ _; have := h.base; simp; omega
  tab := h.tab_ext (Ext.allocImm h c T)

/-- A new block among the places. -/
def Env.more (Γ : Env) (l : Loc) : Env := { Γ with locs := Γ.locs ++ [l] }

theorem Ext.allocLoc {w : World} {Γ : Env} {M : Mem} (h : Good w Γ M) (o : Obj) (l : Loc) : Ext w Γ (w.alloc o) (Γ.more l) where
  s b o hs := ⟨hs, cell?_congr (heap_alloc_lt w _ (h.s_lt hs))⟩
  locs i l hl := ⟨l, by
    have hi : i < Γ.locs.length := (List.getElem?_eq_some_iff.1 hl).1
    simp only [Env.more]
    rw [List.getElem?_append_left hi, hl], Nat.le_refl _, fun _ => rfl, fun _ => rfl⟩
  b0 := rfl
  below := (Below.refl _ _).alloc h.base _
  sold b o hb hs := hs

theorem Good.allocLoc {w : World} {Γ : Env} {M : Mem} (h : Good w Γ M) (o : Obj) (l : Loc) (hlb : l.b = w.heap.size) (B : Blk)
    (hB : BlkRep (w.alloc o) (Γ.more l) l B) : Good (w.alloc o) (Γ.more l) (M ++ [B]) := by
  have split : ∀ i l', (Γ.more l).locs[i]? = some l' → (i < M.length ∧ Γ.locs[i]? = some l') ∨ (i = M.length ∧ l' = l) := by
    intro i l' hl
    simp only [Env.more] at hl
    by_cases hi : i < Γ.locs.length
    · rw [List.getElem?_append_left hi] at hl
      exact .inl ⟨by rw [← h.len]; exact hi, hl⟩
    · rw [List.getElem?_append_right (Nat.le_of_not_lt hi)] at hl
      have : i - Γ.locs.length = 0 := by
        have := (List.getElem?_eq_some_iff.1 hl).1
        simp at this; omega
      rw [this] at hl
      simp at hl
      exact .inr ⟨by rw [← h.len]; omega, hl.symm⟩
  refine ⟨by simp [Env.more, h.len], fun i l' B' hl hB' => ?_, fun i l' hl => ?_, fun i j l1 l2 h1 h2 v1 v2 hb => ?_, fun b o hs => ?_, ?_, h.tab_ext (Ext.allocLoc h o l)⟩
  · rcases split i l' hl with ⟨hi, hl'⟩ | ⟨hi, rfl⟩
    · rw [List.getElem?_append_left hi] at hB'
      exact (h.blk i l' B' hl' hB').keep (Ext.allocLoc h o l) (fun hv => heap_alloc_lt w _ (h.loc_lt hl' hv)) (fun _ _ h => h)
    · subst hi
      simp at hB'
      subst hB'
      exact hB
  · rcases split i l' hl with ⟨hi, hl'⟩ | ⟨hi, rfl⟩
    · exact h.b0 i l' hl'
    · show Γ.B0 ≤ _; rw [hlb]; exact h.base
  · rcases split i l1 h1 with ⟨hi, hl1⟩ | ⟨hi, rfl⟩ <;> rcases split j l2 h2 with ⟨hj, hl2⟩ | ⟨hj, rfl⟩
    · exact h.inj i j l1 l2 hl1 hl2 v1 v2 hb
    · have := h.loc_lt hl1 v1; omega
    · have := h.loc_lt hl2 v2; omega
    · omega
  · obtain ⟨v, hv⟩ := h.scell b o hs
    exact ⟨v, (cell?_congr (heap_alloc_lt w _ (h.s_lt hs))).trans hv⟩
  · have := h.base; simp [Env.more]; omega

theorem Good.no_s_new {w : World} {Γ : Env} {M : Mem} (h : Good w Γ M) (o : Nat) : ¬ Γ.S w.heap.size o := fun hs => by
  have := h.s_lt hs; omega

def boxLoc (b : Nat) : Loc := ⟨b, true, true, 0, 0, 0⟩

theorem Good.allocBox {w : World} {Γ : Env} {M : Mem} (h : Good w Γ M) (c : Array Value) (T : TypeId) (cells : List V) (hr : RepL w Γ cells c) :
    Good (w.alloc (.cells c T)) (Γ.more (boxLoc w.heap.size)) (M ++ [.box cells]) ∧ Ext w Γ (w.alloc (.cells c T)) (Γ.more (boxLoc w.heap.size)) ∧
      Rep (w.alloc (.cells c T)) (Γ.more (boxLoc w.heap.size)) (.ptr M.length 0) (.pointer (some ⟨w.heap.size, 0, none⟩)) := by
  have he := Ext.allocLoc h (.cells c T) (boxLoc w.heap.size)
  refine ⟨h.allocLoc _ _ rfl _ ⟨rfl, rfl, fun o ho => h.no_s_new o ho, c, T, heap_alloc_new w _, hr.ext he⟩, he, ?_⟩
  exact .ptr M.length 0 (boxLoc w.heap.size) (by simp [Env.more, ← h.len]) rfl rfl

theorem Good.allocMap {w : World} {Γ : Env} {M : Mem} (h : Good w Γ M) :
    Good (w.alloc (.map #[] 0)) (Γ.more (boxLoc w.heap.size)) (M ++ [.map []]) ∧ Ext w Γ (w.alloc (.map #[] 0)) (Γ.more (boxLoc w.heap.size)) ∧
      Rep (w.alloc (.map #[] 0)) (Γ.more (boxLoc w.heap.size)) (.map M.length) (.map (some w.heap.size)) := by
  have he := Ext.allocLoc h (.map #[] 0) (boxLoc w.heap.size)
  refine ⟨h.allocLoc _ _ rfl _ ⟨rfl, rfl, fun o ho => h.no_s_new o ho, #[], 0, heap_alloc_new w _, rfl, fun i e kv h1 => by simp at h1, fun i j e e' h1 => by simp at h1⟩, he, ?_⟩
  exact .map M.length (boxLoc w.heap.size) (by simp [Env.more, ← h.len]) rfl rfl

/-- A block of the places is written anew: the places stay, the read-only cells too. -/
theorem Ext.write {w w' : World} {Γ : Env} {M : Mem} (h : Good w Γ M) {id : Nat} {l : Loc} (hl : Γ.locs[id]? = some l)
    (hh : ∀ k, k ≠ l.b → w'.heap[k]? = w.heap[k]?) (hsz : w'.heap.size = w.heap.size) (ho : w'.os = w.os) (ht : w'.tape = w.tape) (hout : w'.output = w.output)
    (hc : ∀ o, Γ.S l.b o → w'.cell? ⟨l.b, o, none⟩ = w.cell? ⟨l.b, o, none⟩) : Ext w Γ w' Γ where
  s b o hs := ⟨hs, by
    by_cases hb : b = l.b
    · subst hb; exact hc o hs
    · exact cell?_congr (hh b hb)⟩
  locs i l hl := ⟨l, hl, Nat.le_refl _, fun _ => rfl, fun _ => rfl⟩
  b0 := rfl
  below := ⟨ho, ht, hout, by omega, fun k hk => hh k (by have := h.b0 id l hl; omega)⟩
  sold b o _ hs := hs

theorem Good.write {w w' : World} {Γ : Env} {M : Mem} (h : Good w Γ M) {id : Nat} {l : Loc} (hl : Γ.locs[id]? = some l) (hv : l.live = true) (he : Ext w Γ w' Γ)
    (hh : ∀ k, k ≠ l.b → w'.heap[k]? = w.heap[k]?) {B : Blk} (hB : BlkRep w' Γ l B) : Good w' Γ (M.set id B) where
  len := by rw [List.length_set]; exact h.len
  blk i l' B' hl' hB' := by
    by_cases hi : id = i
    · subst hi
      have hlt : id < M.length := by rw [← h.len]; exact (List.getElem?_eq_some_iff.1 hl).1
      rw [List.getElem?_set_self hlt] at hB'
      simp only [Option.some.injEq] at hB'
      subst hB'
      rw [hl] at hl'
      simp only [Option.some.injEq] at hl'
      subst hl'
      exact hB
    · rw [List.getElem?_set_ne hi] at hB'
      exact (h.blk i l' B' hl' hB').keep he (fun hv' => hh _ (fun hb => hi (h.inj id i l l' hl hl' hv hv' hb.symm))) (fun _ _ h => h)
  b0 := h.b0
  inj := h.inj
  scell b o hs := by
    obtain ⟨v, hv⟩ := h.scell b o hs
    exact ⟨v, (he.s b o hs).2.trans hv⟩
  base := Nat.le_trans h.base he.below.size
  tab := h.tab_ext he

theorem heap_setCell_ne (w : World) (a : Addr) (u : Value) {k : Nat} (h : k ≠ a.block) : (w.setCell a u).heap[k]? = w.heap[k]? := Below.heap_setCell w a u k h
theorem heap_setCell_eq (w : World) (b o : Nat) (u : Value) {c : Array Value} {T : TypeId} {f : Nat × Nat} (h : w.heap[b]? = some (.cells c T f)) :
    (w.setCell ⟨b, o, none⟩ u).heap[b]? = some (.cells (c.setIfInBounds o u) T f) := by
  show (w.heap.modify b _)[b]? = _
  rw [Array.getElem?_modify, if_pos rfl, h]
  rfl

theorem RepL.set {w : World} {Γ : Env} {xs : List V} {cs : Array Value} (h : RepL w Γ xs cs) {o : Nat} {x : V} {v : Value} (hx : Rep w Γ x v) : RepL w Γ (xs.set o x) (cs.setIfInBounds o v) := by
  refine ⟨by simp [h.1], fun j y hy => ?_⟩
  by_cases hj : o = j
  · subst hj
    have hlt : o < xs.length := by
      have := (List.getElem?_eq_some_iff.1 hy).1
      simpa using this
    rw [List.getElem?_set_self hlt] at hy
    simp only [Option.some.injEq] at hy
    subst hy
    have : o < cs.size := by rw [h.1]; exact hlt
    simpa [Array.getD_eq_getD_getElem?, this] using hx
  · rw [List.getElem?_set_ne hj] at hy
    have := h.2 j y hy
    simpa [Array.getD_eq_getD_getElem?, Array.getElem?_setIfInBounds_ne hj] using this

/-- One cell of a box is written. -/
theorem Good.setBox {w : World} {Γ : Env} {M : Mem} (h : Good w Γ M) {id o : Nat} {l : Loc} (hl : Γ.locs[id]? = some l) {cells : List V} (hM : M[id]? = some (.box cells))
    {x : V} {v : Value} (hx : Rep w Γ x v) :
    Good (w.setCell ⟨l.b, o, none⟩ v) Γ (M.set id (.box (cells.set o x))) ∧ Ext w Γ (w.setCell ⟨l.b, o, none⟩ v) Γ := by
  obtain ⟨h1, hv, h2, c, T, h3, h4⟩ := h.blk id l _ hl hM
  have he : Ext w Γ (w.setCell ⟨l.b, o, none⟩ v) Γ := Ext.write h hl (fun k hk => heap_setCell_ne w _ v hk) (by simp) rfl rfl rfl (fun o' ho => absurd ho (h2 o'))
  exact ⟨h.write hl hv he (fun k hk => heap_setCell_ne w _ v hk) ⟨h1, hv, h2, _, T, heap_setCell_eq w l.b o v h3, (h4.set hx).ext he⟩, he⟩

theorem Good.box_cell {w : World} {Γ : Env} {M : Mem} (h : Good w Γ M) {id o : Nat} {l : Loc} (hl : Γ.locs[id]? = some l) {cells : List V} (hM : M[id]? = some (.box cells)) {x : V} (hx : cells[o]? = some x) :
    ∃ v, w.cell? ⟨l.b, o, none⟩ = some v ∧ Rep w Γ x v ∧ w.frozen? ⟨l.b, o, none⟩ = false := by
  obtain ⟨h1, hv, h2, c, T, h3, h4⟩ := h.blk id l _ hl hM
  have ho : o < c.size := by rw [h4.1]; exact (List.getElem?_eq_some_iff.1 hx).1
  refine ⟨c.getD o Go.undef, by rw [cell_of_heap h3]; exact getD_of_getElem? ho, h4.2 o x hx, by simp [World.frozen?, h3]⟩

theorem Good.loc_of {w : World} {Γ : Env} {M : Mem} (h : Good w Γ M) {id : Nat} {B : Blk} (hM : M[id]? = some B) : ∃ l, Γ.locs[id]? = some l := by
  have : id < Γ.locs.length := by rw [h.len]; exact (List.getElem?_eq_some_iff.1 hM).1
  exact ⟨Γ.locs[id], by simp [this]⟩

end Go.Vm

/- The code of the machine Vm, what one operation does to slots and memory, and the weakest precondition of code. -/
namespace Go.Vm

inductive Opd where
  | tmp (t : Nat)
  | const (v : V)
  deriving Inhabited

/-- What a cell of a comparable type holds. -/
inductive CK where
  | bool | int | str
  deriving DecidableEq

/-- How two values of a type are compared. -/
inductive EqK where
  | none | bool | ptr | slice | map | fn
  | cells (ks : List CK)

inductive AOp where
  | mov (x : Opd)
  | newarr (sz : Nat)
  | pick (c a b : Opd)
  | alloc (zero : List V)
  | box (n : Nat) (x : Opd)
  | build (zero : List V) (parts : List (Nat × Nat × Opd))
  | buildSlice (zero : List V) (sz len : Nat) (parts : List (Nat × Nat × Opd))
  | load (n : Nat) (ag : Bool) (a : Opd)
  | store (n : Nat) (a x : Opd)
  | nilCheck (x : Opd)
  | bin (op : BinOp) (k : EqK) (x y : Opd)
  | un (op : UnOp) (x : Opd)
  | conv (k : IntKind) (x : Opd)
  | convStr (x : Opd)
  | bytesStr (x : Opd)
  | mkfn (f : Nat) (caps : List Opd)
  | makeSlice (zero : List V) (sz bytes : Nat) (l c : Opd)
  | slice (sz : Nat) (x : Opd) (lo hi mx : Option Opd)
  | sliceStr (x : Opd) (lo hi : Option Opd)
  | fieldAddr (off : Nat) (x : Opd)
  | field (off n : Nat) (ag : Bool) (x : Opd)
  | indexArr (len sz : Nat) (x i : Opd)
  | indexSl (sz : Nat) (x i : Opd)
  | indexStr (x i : Opd)
  | indexAgg (len sz : Nat) (ag : Bool) (x i : Opd)
  | lenSl (x : Opd)
  | lenStr (x : Opd)
  | lenConst (n : Nat)
  | append (imm : Bool) (sz bytes : Nat) (s x : Opd)
  | minmax (mx : Bool) (x y : Opd)
  | extract (x : Opd) (i : Nat)
  | makeMap (r : Option Opd)
  | lookup (c : CK) (zero : List V) (ag ok : Bool) (m k : Opd)
  | mapUpdate (c : CK) (m k x : Opd)
  | call (f : Nat) (args : List Opd)
  | callv (f : Opd) (args : List Opd)
  | peq (neg : Bool) (x y : Opd)
  deriving Inhabited

/-- 'isB': its result is a bool. -/
structure AOper where
  dst : Option Nat
  op : AOp
  isB : Bool
  guard : Option (Nat × Bool)
  deriving Inhabited

inductive ACode where
  | skip
  | region (ops : List AOper) (live : List Nat)
  | mixed (ops : List AOper) (qs : List Bool) (live : List Nat)
  | float (ops : List AOper) (fl : List (Option (List Nat))) (live : List Nat)
  | seq (a b : ACode)
  | cond (c : Opd) (a b : ACode)
  | block (id : Nat) (a : ACode)
  | loop (live : List Nat) (a : ACode)
  | scope (l : Nat) (live : List Nat) (a rest : ACode)
  | exit (id : Nat)
  | label
  | goto (l : Nat)
  | ret
  deriving Inhabited

inductive ARes where
  | tmp (t : Nat)
  | cell (t n : Nat) (ag : Bool)

structure AFn where
  ntmps : Nat
  results : List ARes
  body : ACode

/-! ### Slots -/
abbrev Slots := List (Nat × V)

def sget : Slots → Nat → V
  | [], _ => .undef
  | (t, v) :: s, u => bif t == u then v else sget s u

/-- The newest entry of a slot is the one that counts. -/
def sput (s : Slots) (u : Nat) (x : V) : Slots := (u, x) :: s

def sputO (s : Slots) : Option Nat → V → Slots
  | some d, v => sput s d v
  | none, _ => s

def snorm (s : Slots) : List Nat → Slots
  | [] => []
  | t :: ts => (t, sget s t) :: snorm s ts

def vals (s : Slots) : List Nat → List V
  | [] => []
  | t :: ts => sget s t :: vals s ts

def zipS : List Nat → List V → Slots
  | t :: ts, v :: vs => (t, v) :: zipS ts vs
  | _, _ => []

def sinit : List V → Nat → Slots
  | [], _ => []
  | v :: vs, i => (i, v) :: sinit vs (i + 1)

def ev (s : Slots) : Opd → V
  | .tmp t => sget s t
  | .const v => v

def evO (s : Slots) : Option Opd → Option V
  | some x => some (ev s x)
  | none => none

def evL (s : Slots) : List Opd → List V
  | [] => []
  | x :: xs => ev s x :: evL s xs

def evP (s : Slots) : List (Nat × Nat × Opd) → List (Nat × Nat × V)
  | [] => []
  | (a, b, x) :: xs => (a, b, ev s x) :: evP s xs

/-! ### Cells -/
def V.cells? : V → Option (List V)
  | .agg cs => some cs
  | .undef => none
  | .tuple _ => none
  | v => some [v]

def putAt : List V → Nat → List V → List V
  | cells, _, [] => cells
  | cells, off, x :: xs => putAt (cells.set off x) (off + 1) xs

def allCell : List V → Bool
  | [] => true
  | x :: xs => x.isCell && allCell xs

def allPure : List V → Bool
  | [] => true
  | x :: xs => x.isPure && allPure xs

def fillA : List V → List (Nat × Nat × V) → Option (List V)
  | cells, [] => some cells
  | cells, (off, size, v) :: rest =>
    match v.cells? with
    | some cs => bif cs.length == size && decide (off + size ≤ cells.length) then fillA (putAt cells off cs) rest else none
    | none => none

def chunk (sz : Nat) : Nat → List V → List (List V)
  | 0, _ => []
  | n + 1, cells => cells.take sz :: chunk sz n (cells.drop sz)

def loadC (n : Nat) (ag : Bool) (cells : List V) (off : Nat) : Option V :=
  match ag with
  | true => bif decide (off + n ≤ cells.length) then some (.agg ((cells.drop off).take n)) else none
  | false => cells[off]?

mutual
/-- It leads only to places before n. -/
def V.under (n : Nat) : V → Bool
  | .ptr id _ => decide (id < n)
  | .eptr id _ _ _ => decide (id < n)
  | .mslice id _ _ _ => decide (id < n)
  | .map id => decide (id < n)
  | .fn _ caps => underL n caps
  | .agg cells => underL n cells
  | .tuple vs => underL n vs
  | _ => true
def underL (n : Nat) : List V → Bool
  | [] => true
  | x :: xs => V.under n x && underL n xs
end

def Blk.under (n : Nat) : Blk → Bool
  | .box cells => underL n cells
  | .vec cells _ => underL n cells
  | _ => true

def memUnder (n : Nat) : Mem → Bool
  | [] => true
  | B :: M => B.under n && memUnder n M

def slotsUnder (n : Nat) : Slots → Bool
  | [] => true
  | (_, v) :: s => v.under n && slotsUnder n s

/-! ### One operation -/
def bitsV (op : BinOp) (k : IntKind) (x y : Int) : Option V :=
  match op with
  | .and => some (.int k (k.wrap ((BitVec.ofInt k.bits x &&& BitVec.ofInt k.bits y).toNat : Int)))
  | .or => some (.int k (k.wrap ((BitVec.ofInt k.bits x ||| BitVec.ofInt k.bits y).toNat : Int)))
  | .xor => some (.int k (k.wrap ((BitVec.ofInt k.bits x ^^^ BitVec.ofInt k.bits y).toNat : Int)))
  | .andNot => some (.int k (k.wrap ((BitVec.ofInt k.bits x &&& ~~~ BitVec.ofInt k.bits y).toNat : Int)))
  | _ => none

def binInt (op : BinOp) (k : IntKind) (a b : Int) : Option V :=
  match op with
  | .add => some (.int k (k.wrap (a + b)))
  | .sub => some (.int k (k.wrap (a - b)))
  | .mul => some (.int k (k.wrap (a * b)))
  | .quo => bif decide (b = 0) then none else some (.int k (k.wrap (a.tdiv b)))
  | .rem => bif decide (b = 0) then none else some (.int k (a.tmod b))
  | .eql => some (.bool (decide (a = b)))
  | .neq => some (.bool (!decide (a = b)))
  | .lss => some (.bool (decide (a < b)))
  | .leq => some (.bool (decide (a ≤ b)))
  | .gtr => some (.bool (decide (b < a)))
  | .geq => some (.bool (decide (b ≤ a)))
  | .shl | .shr => none
  | .and => bitsV .and k a b
  | .or => bitsV .or k a b
  | .xor => bitsV .xor k a b
  | .andNot => bitsV .andNot k a b

def binStr (op : BinOp) (a b : List UInt8) : Option V :=
  match op with
  | .add => bif decide (((a.length + b.length : Nat) : Int) ≤ 9223372036854775807) then some (.str (a ++ b)) else none
  | .eql => some (.bool (decide (a = b)))
  | .neq => some (.bool (!decide (a = b)))
  | .lss => some (.bool (Op.bytesLess a b))
  | .leq => some (.bool (Op.bytesLess a b || decide (a = b)))
  | .gtr => some (.bool (!(Op.bytesLess a b || decide (a = b))))
  | .geq => some (.bool (!Op.bytesLess a b))
  | _ => none

def shiftV (op : BinOp) (k : IntKind) (a b : Int) : Option V :=
  bif decide (b < 0) then none else
  match op with
  | .shl => some (.int k (k.wrap (a * 2 ^ (min b.toNat k.bits))))
  | .shr => some (.int k (a.fdiv (2 ^ (min b.toNat k.bits))))
  | _ => none

/-- Two cells of a comparable type. -/
def cellEq : CK → V → V → Option Bool
  | .int, .int k a, .int k' b => bif decide (k = k') then some (decide (a = b)) else none
  | .bool, .bool a, .bool b => some (decide (a = b))
  | .str, .str a, .str b => some (decide (a = b))
  | _, _, _ => none

def cellsEq : List CK → List V → List V → Option Bool
  | [], _, _ => some true
  | c :: cs, x :: xs, y :: ys =>
    match cellEq c x y, cellsEq cs xs ys with
    | some b, some d => some (b && d)
    | _, _ => none
  | _, _, _ => none

/-- Is a slice nil? -/
def sliceNil : V → Option Bool
  | .slice _ .nil => some true
  | .slice _ .full => some false
  | .slice _ .any => some false
  | .slice (_ :: _) .unk => some false
  | _ => none

/-- A pointer, a function or an address that is not nil. -/
def notNil : V → Bool
  | .rref _ | .pfn _ _ | .ptr _ _ | .eptr _ _ _ _ | .fn _ _ => true
  | _ => false

def eqV (x y : V) : EqK → Option Bool
  | .bool =>
    match x, y with
    | .bool a, .bool b => some (decide (a = b))
    | _, _ => none
  | .cells ks =>
    match x, y with
    | .agg xs, .agg ys => cellsEq ks xs ys
    | _, _ => none
  | .ptr =>
    match x, y with
    | .nilp, .nilp => some true
    | .nilp, .rref _ | .nilp, .ptr _ _ | .rref _, .nilp | .ptr _ _, .nilp => some false
    | _, _ => none
  | .slice =>
    match x, y with
    | .slice _ .nil, y => sliceNil y
    | x, .slice _ .nil => sliceNil x
    | _, _ => none
  | .map =>
    match x, y with
    | .nilm, .nilm => some true
    | .nilm, .map _ | .map _, .nilm => some false
    | _, _ => none
  | .fn =>
    match x, y with
    | .nilf, .nilf => some true
    | .nilf, .pfn _ _ | .nilf, .fn _ _ | .pfn _ _, .nilf | .fn _ _, .nilf => some false
    | _, _ => none
  | .none => none

def binV (op : BinOp) (ek : EqK) (x y : V) : Option V :=
  match x, y with
  | .int k a, .int k' b =>
    match op with
    | .shl => shiftV .shl k a b
    | .shr => shiftV .shr k a b
    | op => bif decide (k = k') then binInt op k a b else none
  | .str a, .str b => binStr op a b
  | x, y =>
    match op with
    | .eql => (eqV x y ek).map .bool
    | .neq => (eqV x y ek).map fun b => .bool !b
    | _ => none

def unV (op : UnOp) (x : V) : Option V :=
  match op, x with
  | .neg, .int k n => some (.int k (k.wrap (0 - n)))
  | .xor, .int k n => bitsV .xor k (if k.signed then -1 else k.max) n
  | .not, .bool b => some (.bool !b)
  | _, _ => none

def minmaxV (mx : Bool) (x y : V) : Option V :=
  match x, y with
  | .int k a, .int k' b =>
    bif decide (k = k') then
      match mx with
      | true => some (.int k (if b > a then b else a))
      | false => some (.int k (if b < a then b else a))
    else none
  | _, _ => none

/-- The address n cells further on. -/
def moveV (off : Nat) : V → Option V
  | .rref cells => bif decide (off ≤ cells.length) then some (.rref (cells.drop off)) else none
  | .ptr id o => some (.ptr id (o + off))
  | .eptr id v row o => some (.eptr id v row (o + off))
  | _ => none

/-- A cell of a slice whose cells may lead to memory. -/
def vecAt (n : Nat) (ag : Bool) (off : Nat) (cells : List V) (row : Nat) : Option V :=
  match n, ag, off with
  | 1, false, 0 => cells[row]?
  | _, _, _ => none

def vecSet (off : Nat) (xs : List V) (cells : List V) (row : Nat) : Option (List V) :=
  match off, xs with
  | 0, [x] => bif decide (row < cells.length) then some (cells.set row x) else none
  | _, _ => none

def loadV (n : Nat) (ag : Bool) (a : V) (M : Mem) : Option V :=
  match a with
  | .rref cells => loadC n ag cells 0
  | .ptr id off =>
    match M[id]? with
    | some (.box cells) => loadC n ag cells off
    | _ => none
  | .eptr id ver row off =>
    match M[id]? with
    | some (.arr _ rows v _) =>
      bif v == ver then
        match rows[row]? with
        | some r => loadC n ag r off
        | none => none
      else none
    | some (.vec cells v) => bif v == ver then vecAt n ag off cells row else none
    | _ => none
  | _ => none

def storeV (n : Nat) (a x : V) (M : Mem) : Option Mem :=
  match x.cells? with
  | some xs =>
    bif xs.length == n && allCell xs then
      match a with
      | .ptr id off =>
        match M[id]? with
        | some (.box cells) => bif decide (off + n ≤ cells.length) then some (M.set id (.box (putAt cells off xs))) else none
        | _ => none
      | .eptr id ver row off =>
        match M[id]? with
        | some (.arr sz rows v fz) =>
          bif v == ver && decide (fz ≤ row) && allPure xs then
            match rows[row]? with
            | some r => bif decide (off + n ≤ r.length) then some (M.set id (.arr sz (rows.set row (putAt r off xs)) v fz)) else none
            | none => none
          else none
        | some (.vec cells v) =>
          bif v == ver then
            match vecSet off xs cells row with
            | some cs => some (M.set id (.vec cs v))
            | none => none
          else none
        | _ => none
      | _ => none
    else none
  | none => none

/-- The first row has n cells. -/
def headLen (n : Nat) : List (List V) → Bool
  | [] => true
  | r :: _ => r.length == n

/-- The rows that a slice shows. -/
def rowsV (sz : Nat) (M : Mem) : V → Option (List (List V))
  | .slice rows _ => bif headLen sz rows then some rows else none
  | .mslice id ver start len =>
    match M[id]? with
    | some (.arr z rows v _) => bif z == sz && v == ver && decide (start + len ≤ rows.length) then some ((rows.drop start).take len) else none
    | _ => none
  | _ => none

def appendV (imm : Bool) (sz bytes : Nat) (s : V) (xr : List (List V)) (M : Mem) : Option (V × Mem) :=
  match s with
  | .slice rows c =>
    bif headLen sz rows && (decide (c = .nil) || decide (c = .full)) && decide ((rows.length + xr.length) * (2 * bytes) ≤ 2 ^ 48) then
      match imm with
      | true => some (.slice (rows ++ xr) .unk, M)
      | false =>
        match xr with
        | [] => some (.slice rows c, M)
        | _ => some (.mslice M.length 0 0 (rows.length + xr.length), M ++ [.arr sz (rows ++ xr) 0 0])
    else none
  | .mslice id ver 0 len =>
    match M[id]? with
    | some (.arr z rows v fz) =>
      bif z == sz && v == ver && len == rows.length && decide ((rows.length + xr.length) * (2 * bytes) ≤ 2 ^ 48) then
        some (.mslice id (ver + 1) 0 (len + xr.length), M.set id (.arr sz (rows ++ xr) (ver + 1) fz))
      else none
    | some (.vec cells v) =>
      match xr with
      | [[x]] =>
        bif sz == 1 && v == ver && len == cells.length && decide ((cells.length + 1) * (2 * bytes) ≤ 2 ^ 48) then
          some (.mslice id (ver + 1) 0 (len + 1), M.set id (.vec (cells ++ [x]) (ver + 1)))
        else none
      | _ => none
    | _ => none
  | _ => none

/-- A bound of a slice expression. -/
def boundV (d : Nat) : Option V → Option Nat
  | none => some d
  | some (.int _ i) => bif decide (0 ≤ i) then some i.toNat else none
  | some _ => none

/-- What is known of the capacity of a slice of a slice. -/
def capS (c : Cap) (h m len : Nat) (mx : Bool) : Cap :=
  match c with
  | .nil => .nil
  | .unk => .unk
  | .any => bif mx && (h == m) then .full else .any
  | .full => bif mx then (bif h == m then .full else .any) else bif h == len then .full else .any

def sliceV (sz : Nat) (x : V) (lo hi mx : Option V) (M : Mem) : Option V :=
  match x with
  | .slice rows c =>
    match boundV 0 lo, boundV rows.length hi, boundV rows.length mx with
    | some l, some h, some m =>
      bif headLen sz rows && decide (l ≤ h) && decide (h ≤ m) && decide (m ≤ rows.length) then
        some (.slice ((rows.drop l).take (h - l)) (capS c h m rows.length mx.isSome))
      else none
    | _, _, _ => none
  | .mslice id ver start len =>
    match mx, M[id]? with
    | none, some (.arr z rows v _) =>
      match boundV 0 lo, boundV len hi with
      | some l, some h => bif z == sz && v == ver && decide (start + len ≤ rows.length) && decide (l ≤ h) && decide (h ≤ len) then some (.mslice id ver (start + l) (h - l)) else none
      | _, _ => none
    | _, _ => none
  | _ => none

def sliceStrV (x : V) (lo hi : Option V) : Option V :=
  match x with
  | .str s =>
    match boundV 0 lo, boundV s.length hi with
    | some l, some h => bif decide (l ≤ h) && decide (h ≤ s.length) then some (.str ((s.drop l).take (h - l))) else none
    | _, _ => none
  | _ => none

def indexSlV (sz : Nat) (x i : V) (M : Mem) : Option V :=
  match i with
  | .int _ i =>
    bif decide (0 ≤ i) then
      match x with
      | .slice rows _ =>
        match rows[i.toNat]? with
        | some r => bif r.length == sz then some (.rref r) else none
        | none => none
      | .mslice id ver start len =>
        match M[id]? with
        | some (.arr z rows v _) => bif z == sz && v == ver && decide (i.toNat < len) && decide (start + len ≤ rows.length) then some (.eptr id ver (start + i.toNat) 0) else none
        | some (.vec cells v) => bif sz == 1 && v == ver && decide (i.toNat < len) && decide (start + len ≤ cells.length) then some (.eptr id ver (start + i.toNat) 0) else none
        | _ => none
      | _ => none
    else none
  | _ => none

def indexArrV (len sz : Nat) (x i : V) : Option V :=
  match i with
  | .int _ i => bif decide (0 ≤ i) && decide (i < (len : Int)) then moveV (i.toNat * sz) x else none
  | _ => none

def indexStrV (x i : V) : Option V :=
  match x, i with
  | .str s, .int _ i =>
    bif decide (0 ≤ i) then
      match s[i.toNat]? with
      | some b => some (.int .u8 b.toNat)
      | none => none
    else none
  | _, _ => none

def indexAggV (len sz : Nat) (ag : Bool) (x i : V) : Option V :=
  match x, i with
  | .agg cells, .int _ i => bif decide (0 ≤ i) && decide (i < (len : Int)) then loadC sz ag cells (i.toNat * sz) else none
  | _, _ => none

def lenV (x : V) (M : Mem) : Option V :=
  match x with
  | .slice rows _ => some (.int .i64 rows.length)
  | .mslice id ver _ len =>
    match M[id]? with
    | some (.arr _ _ v _) => bif v == ver then some (.int .i64 len) else none
    | some (.vec _ v) => bif v == ver then some (.int .i64 len) else none
    | _ => none
  | _ => none

def mapGet (c : CK) (key : V) : List (V × V) → Option V
  | [] => none
  | (k, v) :: es => bif (cellEq c key k).getD false then some v else mapGet c key es

def mapSet (c : CK) (key val : V) : List (V × V) → List (V × V)
  | [] => [(key, val)]
  | (k, v) :: es => bif (cellEq c key k).getD false then (key, val) :: es else (k, v) :: mapSet c key val es

def isKey : CK → V → Bool
  | .int, .int _ _ => true
  | .str, .str _ => true
  | .bool, .bool _ => true
  | _, _ => false

def keysOk (c : CK) (key : V) : List (V × V) → Bool
  | [] => true
  | (k, _) :: es => (cellEq c key k).isSome && keysOk c key es

def mapFind (c : CK) (M : Mem) (m key : V) : Option (Option V) :=
  bif isKey c key then
    match m with
    | .nilm => some none
    | .map id =>
      match M[id]? with
      | some (.map es) => bif keysOk c key es then some (mapGet c key es) else none
      | _ => none
    | _ => none
  else none

def cellsV (ag : Bool) (cells : List V) : Option V :=
  match ag, cells with
  | true, cs => some (.agg cs)
  | false, [x] => some x
  | false, _ => none

def lookupV (c : CK) (zero : List V) (ag ok : Bool) (m key : V) (M : Mem) : Option V :=
  match mapFind c M m key, cellsV ag zero with
  | some (some v), some _ => some (match ok with | true => .tuple [v, .bool true] | false => v)
  | some none, some z => some (match ok with | true => .tuple [z, .bool false] | false => z)
  | _, _ => none

def mapUpdateV (c : CK) (m key x : V) (M : Mem) : Option Mem :=
  match m with
  | .map id =>
    match M[id]? with
    | some (.map es) => bif isKey c key && keysOk c key es && x.isPure then some (M.set id (.map (mapSet c key x es))) else none
    | _ => none
  | _ => none

def pickV (c a b : V) : Option V :=
  match c with
  | .bool t => some (bif t then a else b)
  | _ => none

def nilCheckV (x : V) : Option V := bif notNil x then some x else none

def convV (k : IntKind) (x : V) : Option V :=
  match x with
  | .int _ n => some (.int k (k.wrap n))
  | _ => none

def convStrV (x : V) : Option V :=
  match x with
  | .str b => some (.str b)
  | _ => none

/-- The bytes that one-cell rows hold. -/
def bytesOf : List (List V) → Option (List UInt8)
  | [] => some []
  | [.int .u8 n] :: rs => (bytesOf rs).map (UInt8.ofNat n.toNat :: ·)
  | _ => none

def bytesStrV (x : V) (M : Mem) : Option V :=
  match rowsV 1 M x with
  | some rows => (bytesOf rows).map .str
  | none => none

def mkfnV (f : Nat) (caps : List V) : V := bif allPure caps then .pfn f caps else .fn f caps

def fieldV (off n : Nat) (ag : Bool) (x : V) : Option V :=
  match x with
  | .agg cells => loadC n ag cells off
  | _ => none

def lenStrV (x : V) : Option V :=
  match x with
  | .str b => some (.int .i64 b.length)
  | _ => none

def extractV (x : V) (i : Nat) : Option V :=
  match x with
  | .tuple vs => vs[i]?
  | _ => none

def boxV (n : Nat) (x : V) (M : Mem) : Option (V × Mem) :=
  match x.cells? with
  | some cs => bif cs.length == n then some (.ptr M.length 0, M ++ [.box cs]) else none
  | none => none

def buildV (zero : List V) (parts : List (Nat × Nat × V)) : Option V :=
  match fillA zero parts with
  | some cs => some (.agg cs)
  | none => none

def buildSliceV (zero : List V) (sz len : Nat) (parts : List (Nat × Nat × V)) : Option V :=
  match fillA zero parts with
  | some cs => bif allPure cs then some (.slice (chunk sz len cs) .full) else none
  | none => none

def makeSliceV (zero : List V) (sz bytes : Nat) (l c : V) (M : Mem) : Option (V × Mem) :=
  match l, c with
  | .int _ l, .int _ c =>
    bif decide (0 ≤ l) && decide (l ≤ c) && decide (c * bytes ≤ 2 ^ 48) && decide (c < 2 ^ 62) then some (.mslice M.length 0 0 l.toNat, M ++ [.arr sz (List.replicate l.toNat zero) 0 0]) else none
  | _, _ => none

def makeMapV (r : Option V) (M : Mem) : Option (V × Mem) :=
  match r with
  | none => some (.map M.length, M ++ [.map []])
  | some (.int _ _) => some (.map M.length, M ++ [.map []])
  | some _ => none

def appV (imm : Bool) (sz bytes : Nat) (a x : V) (M : Mem) : Option (V × Mem) :=
  match rowsV sz M x with
  | some xr => appendV imm sz bytes a xr M
  | none => none

/-- The operations that leave memory alone. -/
def pstep (o : AOp) (s : Slots) (M : Mem) : Option V :=
  match o with
  | .mov x => some (ev s x)
  | .pick c a b => pickV (ev s c) (ev s a) (ev s b)
  | .build zero parts => buildV zero (evP s parts)
  | .buildSlice zero sz len parts => buildSliceV zero sz len (evP s parts)
  | .load n ag a => loadV n ag (ev s a) M
  | .nilCheck x => nilCheckV (ev s x)
  | .bin op ek x y => binV op ek (ev s x) (ev s y)
  | .un op x => unV op (ev s x)
  | .conv k x => convV k (ev s x)
  | .convStr x => convStrV (ev s x)
  | .bytesStr x => bytesStrV (ev s x) M
  | .mkfn f caps => some (mkfnV f (evL s caps))
  | .slice sz x lo hi mx => sliceV sz (ev s x) (evO s lo) (evO s hi) (evO s mx) M
  | .sliceStr x lo hi => sliceStrV (ev s x) (evO s lo) (evO s hi)
  | .fieldAddr off x => moveV off (ev s x)
  | .field off n ag x => fieldV off n ag (ev s x)
  | .indexArr len sz x i => indexArrV len sz (ev s x) (ev s i)
  | .indexSl sz x i => indexSlV sz (ev s x) (ev s i) M
  | .indexStr x i => indexStrV (ev s x) (ev s i)
  | .indexAgg len sz ag x i => indexAggV len sz ag (ev s x) (ev s i)
  | .lenSl x => lenV (ev s x) M
  | .lenStr x => lenStrV (ev s x)
  | .lenConst n => some (.int .i64 n)
  | .minmax mx x y => minmaxV mx (ev s x) (ev s y)
  | .extract x i => extractV (ev s x) i
  | .lookup c zero ag ok m k => lookupV c zero ag ok (ev s m) (ev s k) M
  | _ => none

/-- A slice that is built up; 0 stands for one whose cells may lead to memory. -/
def newarrV (sz : Nat) (M : Mem) : Option (V × Mem) := some (.mslice M.length 0 0 0, M ++ [match sz with | 0 => .vec [] 0 | n + 1 => .arr (n + 1) [] 0 0])
def allocV (zero : List V) (M : Mem) : Option (V × Mem) := some (.ptr M.length 0, M ++ [.box zero])
def storeVM (n : Nat) (a x : V) (M : Mem) : Option (V × Mem) :=
  match storeV n a x M with
  | some M' => some (.undef, M')
  | none => none
def mapUpdateVM (c : CK) (m k x : V) (M : Mem) : Option (V × Mem) :=
  match mapUpdateV c m k x M with
  | some M' => some (.undef, M')
  | none => none

/-- Whether two pointers to blocks of memory are equal. -/
def peqV (neg : Bool) (x y : V) (M : Mem) : Option (V × Mem) :=
  match x, y with
  | .ptr i o, .ptr j p =>
    match M[i]?, M[j]? with
    | some (.box _), some (.box _) => some (.bool ((decide (i = j) && decide (o = p)) != neg), M)
    | _, _ => none
  | _, _ => none

/-- Those that do not. -/
def mstep (o : AOp) (s : Slots) (M : Mem) : Option (V × Mem) :=
  match o with
  | .newarr sz => newarrV sz M
  | .alloc zero => allocV zero M
  | .box n x => boxV n (ev s x) M
  | .store n a x => storeVM n (ev s a) (ev s x) M
  | .makeSlice zero sz bytes l c => makeSliceV zero sz bytes (ev s l) (ev s c) M
  | .append imm sz bytes a x => appV imm sz bytes (ev s a) (ev s x) M
  | .makeMap r => makeMapV (evO s r) M
  | .mapUpdate c m k x => mapUpdateVM c (ev s m) (ev s k) (ev s x) M
  | .peq neg x y => peqV neg (ev s x) (ev s y) M
  | _ => none

def AOp.isMem : AOp → Bool
  | .newarr _ | .alloc _ | .box _ _ | .store _ _ _ | .makeSlice _ _ _ _ _ | .append _ _ _ _ _ | .makeMap _ | .mapUpdate _ _ _ _ | .peq _ _ _ => true
  | _ => false

end Go.Vm

/- Contracts of functions over abstract values, and the weakest precondition of abstract code. -/
namespace Go.Vm

def goFn (P : Program) (f : Nat) : Bool :=
  match P.funcs[f]? with
  | some fn => fn.body.isSome && fn.name != "runtime.NumGoroutine"
  | none => false

/-- The contract of a function: from these arguments, in this memory, it returns, and R holds of what it returns and of the memory then. -/
def ACalls (P : Program) (f : Nat) (args : List V) (M : Mem) (R : V → Mem → Prop) : Prop :=
  goFn P f = true ∧ ∀ (w : World) (Γ : Env) (cargs : Array Value), Good w Γ M → RepL w Γ args cargs →
    Calls P f cargs w (fun e w' => ∃ v cv Γ' M', e = .returned cv ∧ R v M' ∧ Rep w' Γ' v cv ∧ Good w' Γ' M' ∧ Ext w Γ w' Γ')

theorem ACalls.mono {P : Program} {f : Nat} {args : List V} {M : Mem} {R R' : V → Mem → Prop} (h : ACalls P f args M R) (hr : ∀ v M', R v M' → R' v M') : ACalls P f args M R' :=
  ⟨h.1, fun w Γ cargs hg ha => (h.2 w Γ cargs hg ha).mono fun _ _ ⟨v, cv, Γ', M', h1, h2, h3⟩ => ⟨v, cv, Γ', M', h1, hr v M' h2, h3⟩⟩

/-- The contract of a function that touches no memory of its caller's. -/
def PCalls (P : Program) (f : Nat) (args : List V) (R : V → Prop) : Prop :=
  ACalls P f args [] (fun v M' => R v ∧ M' = [] ∧ v.under 0 = true)

theorem PCalls.mono {P : Program} {f : Nat} {args : List V} {R R' : V → Prop} (h : PCalls P f args R) (hr : ∀ v, R v → R' v) : PCalls P f args R' :=
  ACalls.mono h fun _ _ ⟨a, b, c⟩ => ⟨hr _ a, b, c⟩

def V.isScal : V → Bool
  | .bool _ | .int _ _ | .str _ | .nilp | .nilf | .nilm => true
  | _ => false

def scalL : List V → Bool
  | [] => true
  | x :: xs => x.isScal && scalL xs

/-- The value in the world is known from it alone. -/
def V.isFlat : V → Bool
  | .agg cells => scalL cells
  | .tuple vs => scalL vs
  | v => v.isScal

/-- A call; where its order is open (q), it leaves memory as it was and its result is one. -/
def wpCall (P : Program) (q : Bool) (f : Nat) (args : List V) (M : Mem) (K : V → Mem → Prop) : Prop :=
  match q with
  | false => ACalls P f args M K
  | true => ∃ v, ACalls P f args M (fun x M' => x = v ∧ M' = M) ∧ K v M

def OptV (o : Option V) (K : V → Prop) : Prop :=
  match o with
  | some v => K v
  | none => False

def OptB (o : Option V) (K : Bool → Prop) : Prop :=
  match o with
  | some (.bool b) => K b
  | _ => False

def OptVM (o : Option (V × Mem)) (K : V → Mem → Prop) : Prop :=
  match o with
  | some (v, M) => K v M
  | none => False

def BIf (b : Bool) (A B : Prop) : Prop :=
  match b with
  | true => A
  | false => B

def wpCallV (P : Program) (q : Bool) (f : V) (args : List V) (M : Mem) (K : V → Mem → Prop) : Prop :=
  match f with
  | .pfn f caps => wpCall P q f (args ++ caps) M K
  | .fn f caps => wpCall P q f (args ++ caps) M K
  | _ => False

def putV (s : Slots) (dst : Option Nat) (isB : Bool) (v : V) (K : Slots → Prop) : Prop :=
  match isB with
  | true => OptB (some v) (fun b => K (sputO s dst (.bool b)))
  | false => K (sputO s dst v)

def wpOp (P : Program) (q : Bool) (o : AOp) (dst : Option Nat) (isB : Bool) (s : Slots) (M : Mem) (K : Slots → Mem → Prop) : Prop :=
  match o with
  | .call f args => wpCall P q f (evL s args) M (fun v M' => putV s dst isB v (fun s' => K s' M'))
  | .callv fx args => wpCallV P q (ev s fx) (evL s args) M (fun v M' => putV s dst isB v (fun s' => K s' M'))
  | op =>
    match op.isMem with
    | true => OptVM (mstep op s M) (fun v M' => K (sputO s dst v) M')
    | false =>
      match isB with
      | true => OptB (pstep op s M) (fun b => K (sputO s dst (.bool b)) M)
      | false => OptV (pstep op s M) (fun v => K (sputO s dst v) M)

def wpOps (P : Program) (q : Bool) : List AOper → Slots → Mem → (Slots → Mem → Prop) → Prop
  | [], s, M, k => k s M
  | ⟨dst, op, isB, none⟩ :: os, s, M, k => wpOp P q op dst isB s M (fun s' M' => wpOps P q os s' M' k)
  | ⟨dst, op, isB, some (g, want)⟩ :: os, s, M, k =>
    match sget s g with
    | .bool b =>
      match want with
      | true => BIf b (wpOp P q op dst isB (sput s g (.bool true)) M (fun s' M' => wpOps P q os s' M' k)) (wpOps P q os (sputO (sput s g (.bool false)) dst (.tuple [])) M k)
      | false => BIf b (wpOps P q os (sputO (sput s g (.bool true)) dst (.tuple [])) M k) (wpOp P q op dst isB (sput s g (.bool false)) M (fun s' M' => wpOps P q os s' M' k))
    | .tuple [] => wpOps P q os (sputO s dst (.tuple [])) M k
    | _ => False

/-- One operation with its guard. -/
def wpOne (P : Program) (q : Bool) (o : AOper) (s : Slots) (M : Mem) (K : Slots → Mem → Prop) : Prop :=
  match o with
  | ⟨dst, op, isB, none⟩ => wpOp P q op dst isB s M K
  | ⟨dst, op, isB, some (g, want)⟩ =>
    match sget s g with
    | .bool b =>
      match want with
      | true => BIf b (wpOp P q op dst isB (sput s g (.bool true)) M K) (K (sputO (sput s g (.bool false)) dst (.tuple [])) M)
      | false => BIf b (K (sputO (sput s g (.bool true)) dst (.tuple [])) M) (wpOp P q op dst isB (sput s g (.bool false)) M K)
    | .tuple [] => K (sputO s dst (.tuple [])) M
    | _ => False

/-- The operations of a region whose order is open, in the text's order. -/
def wpMix (P : Program) : List AOper → List Bool → Slots → Mem → (Slots → Mem → Prop) → Prop
  | o :: os, q :: qs, s, M, k => wpOne P q o s M (fun s' M' => wpMix P os qs s' M' k)
  | _, _, s, M, k => k s M

/-- What was read before a change of memory is read after it too. -/
def lookP : List (Nat × (Mem → Prop)) → Nat → Mem → Prop
  | [], _, _ => False
  | (i, p) :: H, j, M =>
    match Nat.beq i j with
    | true => p M
    | false => lookP H j M

def recheck (H : List (Nat × (Mem → Prop))) : List Nat → Mem → Prop
  | [], _ => True
  | j :: js, M => lookP H j M ∧ recheck H js M

def dstV (s : Slots) : Option Nat → V
  | some d => sget s d
  | none => .undef

/-- The operations of a region whose order is open, where operations that leave memory alone may come before or after ones that do not. -/
def wpFloat (P : Program) : List AOper → List (Option (List Nat)) → Nat → List (Nat × (Mem → Prop)) → Slots → Mem → (Slots → Mem → Prop) → Prop
  | o :: os, none :: fs, n, H, s, M, k => wpOne P true o s M (fun s' M' => wpFloat P os fs (n + 1) ((n, fun M1 => pstep o.op s M1 = some (dstV s' o.dst)) :: H) s' M' k)
  | o :: os, some l :: fs, n, H, s, M, k => wpOne P false o s M (fun s' M' => recheck H l M' ∧ wpFloat P os fs (n + 1) H s' M' k)
  | _, _, _, _, s, M, k => k s M

/-- What is left of memory when the blocks from n on are dropped. -/
def popOK (n : Nat) (vs : List V) (M : Mem) : Bool := decide (n ≤ M.length) && underL n vs && memUnder n (M.take n)

/-- What follows the first of two pieces of code. -/
def seqK (next : (Exit → Slots → Mem → Prop) → Slots → Mem → Prop) (Q : Exit → Slots → Mem → Prop) : Exit → Slots → Mem → Prop
  | .normal, s, M => next Q s M
  | e, s, M => Q e s M

def blockK (id : Nat) (Q : Exit → Slots → Mem → Prop) : Exit → Slots → Mem → Prop
  | .exit id', s, M => bif id' == id then Q .normal s M else Q (.exit id') s M
  | e, s, M => Q e s M

/-- At the end of a loop's round: on to the next, with the blocks of the round dropped or not. -/
def roundK (I : Nat → List V → Mem → Prop) (n len : Nat) (live : List Nat) (Q : Exit → Slots → Mem → Prop) : Exit → Slots → Mem → Prop
  | .normal, s, M => (∃ m, m < n ∧ I m (vals s live) M) ∨ (popOK len (vals s live) M = true ∧ ∃ m, m < n ∧ I m (vals s live) (M.take len))
  | e, s, M => Q e s M

def jumpK (J : List V → Mem → Prop) (l : Nat) (live : List Nat) (Q : Exit → Slots → Mem → Prop) : Exit → Slots → Mem → Prop
  | .goto l', s, M => l' = l ∧ J (vals s live) M
  | e, s, M => Q e s M

def wpC (P : Program) : ACode → (Exit → Slots → Mem → Prop) → Slots → Mem → Prop
  | .skip, Q, s, M => Q .normal s M
  | .label, Q, s, M => Q .normal s M
  | .region ops live, Q, s, M => wpOps P false ops s M (fun s' M' => Q .normal (snorm s' live) M')
  | .mixed ops qs live, Q, s, M => wpMix P ops qs s M (fun s' M' => Q .normal (snorm s' live) M')
  | .float ops fl live, Q, s, M => wpFloat P ops fl 0 [] s M (fun s' M' => Q .normal (snorm s' live) M')
  | .seq a b, Q, s, M => wpC P a (seqK (wpC P b) Q) s M
  | .cond c a b, Q, s, M =>
    match ev s c with
    | .bool t => BIf t (wpC P a Q s M) (wpC P b Q s M)
    | _ => False
  | .block id a, Q, s, M => wpC P a (blockK id Q) s M
  | .loop live a, Q, s, M =>
    ∃ (I : Nat → List V → Mem → Prop) (n : Nat), I n (vals s live) M ∧
      ∀ n vs M1, I n vs M1 → wpC P a (roundK I n M.length live Q) (zipS live vs) M1
  | .scope l live a rest, Q, s, M =>
    ∃ (J : Nat → List V → Mem → Prop),
      wpC P a (jumpK (fun vs M => ∃ n, J n vs M) l live Q) s M ∧
      ∀ n vs M1, J n vs M1 → wpC P rest (jumpK (fun vs M => ∃ m, m < n ∧ J m vs M) l live Q) (zipS live vs) M1
  | .exit id, Q, s, M => Q (.exit id) s M
  | .goto l, Q, s, M => Q (.goto l) s M
  | .ret, Q, s, M => Q .ret s M

def resV (s : Slots) (M : Mem) : ARes → Option V
  | .tmp t => some (sget s t)
  | .cell t n ag => loadV n ag (sget s t) M

def resVs (s : Slots) (M : Mem) : List ARes → Option (List V)
  | [] => some []
  | r :: rs =>
    match resV s M r, resVs s M rs with
    | some v, some vs => some (v :: vs)
    | _, _ => none

def resAll (s : Slots) (M : Mem) (rs : List ARes) : Option V :=
  match resVs s M rs with
  | some [v] => some v
  | some vs => some (.tuple vs)
  | none => none

/-- What is asked at a function's end. -/
def endK (rs : List ARes) (R : Option V → Mem → Prop) : Exit → Slots → Mem → Prop
  | .normal, s, M => R (resAll s M rs) M
  | .ret, s, M => R (resAll s M rs) M
  | _, _, _ => False

def keepPost (R : V → Mem → Prop) (v : Option V) (M : Mem) : Prop :=
  match v with
  | some v => R v M
  | none => False

/-- A function whose blocks stay. -/
def wpKeep (P : Program) (fn : AFn) (args : List V) (M : Mem) (R : V → Mem → Prop) : Prop :=
  wpC P fn.body (endK fn.results (keepPost R)) (sinit args 0) M

def mapO (f : V → Option V) : List V → Option (List V)
  | [] => some []
  | x :: xs =>
    match f x, mapO f xs with
    | some y, some ys => some (y :: ys)
    | _, _ => none

/-- What a value becomes when the blocks from 'base' on may not be written any more. -/
def freezeV (M : Mem) (base : Nat) : Nat → V → Option V
  | 0, v => bif v.under base then some v else none
  | n + 1, v =>
    match v with
    | .ptr id off =>
      bif decide (id < base) then some (.ptr id off) else
      match M[id]? with
      | some (.box cells) =>
        match mapO (freezeV M base n) (cells.drop off) with
        | some cs => bif allPure cs && decide (off ≤ cells.length) then some (.rref cs) else none
        | none => none
      | _ => none
    | .mslice id ver start len =>
      bif decide (id < base) then some (.mslice id ver start len) else
      match M[id]? with
      | some (.arr _ rows v _) => bif v == ver && decide (start + len ≤ rows.length) then some (.slice ((rows.drop start).take len) .unk) else none
      | some (.vec cells v) =>
        bif v == ver && decide (start + len ≤ cells.length) then
          match mapO (freezeV M base n) ((cells.drop start).take len) with
          | some cs => bif allPure cs then some (.slice (cs.map fun x => [x]) .unk) else none
          | none => none
        else none
      | _ => none
    | .fn f caps =>
      match mapO (freezeV M base n) caps with
      | some cs => some (bif allPure cs then .pfn f cs else .fn f cs)
      | none => none
    | .agg cells => (mapO (freezeV M base n) cells).map .agg
    | .tuple vs => (mapO (freezeV M base n) vs).map .tuple
    | v => bif v.under base then some v else none

/-- A function whose blocks are dropped at its end, what it returns being frozen. -/
def popPost (base : Nat) (R : V → Mem → Prop) (v : Option V) (M' : Mem) : Prop :=
  match v with
  | some v => OptV (freezeV M' base 20 v) fun v' => (v'.under base && decide (base ≤ M'.length) && memUnder base (M'.take base)) = true ∧ R v' (M'.take base)
  | none => False

def wpPop (P : Program) (fn : AFn) (args : List V) (M : Mem) (R : V → Mem → Prop) : Prop :=
  wpC P fn.body (endK fn.results (popPost M.length R)) (sinit args 0) M

end Go.Vm

/- How a loaded function is read as abstract code: a computation on closed terms. -/
namespace Go.Vm

def cellV : Value → Option V
  | .bool b => some (.bool b)
  | .int k n => some (.int k n)
  | .string s => some (.str s.data.toList)
  | .pointer none => some .nilp
  | .slice none 0 0 => some (.slice [] .nil)
  | .map none => some .nilm
  | .nilFunc => some .nilf
  | _ => none

def cellsL : List Value → Option (List V)
  | [] => some []
  | v :: vs =>
    match cellV v, cellsL vs with
    | some x, some xs => some (x :: xs)
    | _, _ => none

def constV : Value → Option V
  | .agg cs => (cellsL cs.toList).map .agg
  | v => cellV v

def opd : Operand → Option Opd
  | .tmp t => some (.tmp t)
  | .const v => (constV v).map .const
  | .func f => some (.const (.pfn f []))
  | .global _ => none

def opdL : List Operand → Option (List Opd)
  | [] => some []
  | x :: xs =>
    match opd x, opdL xs with
    | some y, some ys => some (y :: ys)
    | _, _ => none

def opdO : Option Operand → Option (Option Opd)
  | none => some none
  | some x => (opd x).map some

def aggT (P : Program) (t : TypeId) : Option Bool :=
  match P.underlying t with
  | some (.struct _) => some true
  | some (.array _ _) => some true
  | some _ => some false
  | none => none

def sizeT (P : Program) (t : TypeId) : Option Nat :=
  match P.info? t with
  | some i => some i.size
  | none => none

def zeroT (P : Program) (t : TypeId) : Option (List V) :=
  match P.info? t with
  | some i =>
    match i.zero with
    | some v => cellsL v.cells.toList
    | none => none
  | none => none

/-- The zero value of a type fills one cell and is no row. -/
def loneZero (P : Program) (t : TypeId) : Bool :=
  match P.info? t with
  | some i =>
    match i.zero with
    | some (.agg _) => false
    | some _ => true
    | none => false
  | none => false

def kindT (P : Program) (t : TypeId) : Option CK :=
  match P.underlying t with
  | some .bool => some .bool
  | some (.int _) => some .int
  | some .string => some .str
  | _ => none

/-- A struct each of whose cells is a bool, an integer or a string. -/
def scalarFields (P : Program) : Nat → List Field → Option (List CK)
  | _, [] => some []
  | n, f :: fs =>
    match kindT P f.type, aggT P f.type, scalarFields P (n + 1) fs with
    | some k, some false, some ks => if f.name != "_" && f.offset == n then some (k :: ks) else none
    | _, _, _ => none

def eqKind (P : Program) (t : TypeId) : EqK :=
  match P.underlying t with
  | some .bool => .bool
  | some (.pointer _) => .ptr
  | some (.slice _) => .slice
  | some (.map _ _) => .map
  | some (.func _ _ _) => .fn
  | some (.struct fs) =>
    match scalarFields P 0 fs.toList with
    | some ks => if !P.stoodInHeld t && !P.eqGuardType P.depth t then .cells ks else .none
    | none => .none
  | some (.array n e) =>
    match kindT P e, aggT P e with
    | some k, some false => if sizeT P e == some 1 && !P.eqGuardType P.depth t then .cells (List.replicate n k) else .none
    | _, _ => .none
  | _ => .none

/-- A pointer to what has a size. -/
def ptrT (P : Program) (t : TypeId) : Bool :=
  match P.underlying t with
  | some (.pointer e) => match sizeT P e with | some n => decide (0 < n) | none => false
  | _ => false

def partsS (P : Program) (fs : Array Field) : List (Nat × Operand) → Option (List (Nat × Nat × Opd))
  | [] => some []
  | (i, x) :: rest =>
    match fs[i]?, opd x, partsS P fs rest with
    | some f, some y, some r =>
      match sizeT P f.type with
      | some n => some ((f.offset, n, y) :: r)
      | none => none
    | _, _, _ => none

def partsA (n : Nat) : List (Nat × Operand) → Option (List (Nat × Nat × Opd))
  | [] => some []
  | (i, x) :: rest =>
    match opd x, partsA n rest with
    | some y, some r => some ((i * n, n, y) :: r)
    | _, _ => none

def rep0 : Nat → List V → List V
  | 0, _ => []
  | n + 1, z => z ++ rep0 n z

def bind2 {α β γ : Type} (x : Option α) (y : Option β) (f : α → β → γ) : Option γ :=
  match x, y with
  | some a, some b => some (f a b)
  | _, _ => none

def isNilSlice : Operand → Bool
  | .const (.slice none 0 0) => true
  | _ => false

def isConstO : Operand → Bool
  | .const _ => true
  | _ => false

/-- The zero value of a type has n cells. -/
def zeroLen (P : Program) (e : TypeId) (n : Nat) : Bool :=
  match zeroT P e with
  | some z => z.length == n
  | none => false

def resBuiltin (P : Program) (b : Builtin) (args : List Operand) (tys : List TypeId) (mu : Bool) : Option AOp :=
  match b, args, tys with
  | .len, [x], [t] =>
    match P.underlying t with
    | some .string => (opd x).map .lenStr
    | some (.slice _) => (opd x).map .lenSl
    | some (.array n _) => some (.lenConst n)
    | some (.pointer a) =>
      match P.underlying a with
      | some (.array n _) => some (.lenConst n)
      | _ => none
    | _ => none
  | .append, [s, x], [t, xt] =>
    match P.underlying t, P.underlying xt with
    | some (.slice e), some (.slice _) =>
      match P.info? e, (opd s), (opd x) with
      | some i, some s', some x' => if decide (0 < i.bytes) && zeroLen P e i.size then some (.append (isConstO s != mu) i.size i.bytes s' x') else none
      | _, _, _ => none
    | _, _ => none
  | .max, [x, y], _ => bind2 (opd x) (opd y) (.minmax true)
  | .min, [x, y], _ => bind2 (opd x) (opd y) (.minmax false)
  | _, _, _ => none

/-- The size of an element of a slice type. -/
def elemT (P : Program) (t : TypeId) : Option Nat :=
  match P.underlying t with
  | some (.slice e) => sizeT P e
  | _ => none

def resOp (P : Program) (mu mv : Bool) (ty : TypeId) : Op → Option AOp
  | .move x => (opd x).map .mov
  | .assign x => if mu then (if isNilSlice x then (if mv then some (.newarr 0) else (elemT P ty).map .newarr) else none) else (opd x).map .mov
  | .pick c a b =>
    match opd c, opd a, opd b with
    | some c, some a, some b => some (.pick c a b)
    | _, _, _ => none
  | .alloc e => (zeroT P e).map .alloc
  | .box e x => bind2 (sizeT P e) (opd x) .box
  | .build t parts =>
    match P.underlying t, zeroT P t with
    | some (.struct fs), some z => if fs.toList.all (fun f => (sizeT P f.type).isSome) then (partsS P fs parts.toList).map (.build z) else none
    | some (.array _ e), some z =>
      match sizeT P e with
      | some n => (partsA n parts.toList).map (.build z)
      | none => none
    | _, _ => none
  | .buildSlice t len parts =>
    match P.underlying t with
    | some (.slice e) =>
      match sizeT P e, zeroT P e with
      | some n, some z => if z.length == n && 0 < n && len * n ≤ 2 ^ 20 then (partsA n parts.toList).map (.buildSlice (rep0 len z) n len) else none
      | _, _ => none
    | _ => none
  | .load t a =>
    match sizeT P t, aggT P t, opd a with
    | some n, some ag, some a => some (.load n ag a)
    | _, _, _ => none
  | .store t a x =>
    match sizeT P t, opd a, opd x with
    | some n, some a, some x => some (.store n a x)
    | _, _, _ => none
  | .nilCheck x => (opd x).map .nilCheck
  | .binOp op t x y _ =>
    match mu && ptrT P t, op with
    | true, .eql => bind2 (opd x) (opd y) (.peq false)
    | true, .neq => bind2 (opd x) (opd y) (.peq true)
    | _, _ => bind2 (opd x) (opd y) (.bin op (eqKind P t))
  | .unOp op _ x => (opd x).map (.un op)
  | .convert src dst x =>
    match P.underlying src, P.underlying dst, opd x with
    | some (.int _), some (.int k), some x => some (.conv k x)
    | some .string, some .string, some x => some (.convStr x)
    | some (.slice e), some .string, some x =>
      match P.underlying e with
      | some (.int .u8) => some (.bytesStr x)
      | _ => none
    | _, _, _ => none
  | .makeFunc (.func f) first caps => if first.isEmpty then (opdL caps.toList).map (.mkfn f) else none
  | .makeMap t r =>
    match P.underlying t with
    | some (.map _ _) => (opdO r).map .makeMap
    | _ => none
  | .lookup t m k ok =>
    match P.underlying t, opd m, opd k with
    | some (.map kt e), some m, some k =>
      match zeroT P e, kindT P kt with
      | some [z], some c => bif loneZero P e then some (.lookup c [z] false ok m k) else none
      | _, _ => none
    | _, _, _ => none
  | .mapUpdate t m k x =>
    match P.underlying t, opd m, opd k, opd x with
    | some (.map kt _), some m, some k, some x => (kindT P kt).map (fun c => .mapUpdate c m k x)
    | _, _, _, _ => none
  | .makeSlice t l c =>
    match P.underlying t with
    | some (.slice e) =>
      match P.info? e, zeroT P e, opd l, opd c with
      | some i, some z, some l, some c => if z.length == i.size && allPure z && 0 < i.size then some (.makeSlice z i.size i.bytes l c) else none
      | _, _, _, _ => none
    | _ => none
  | .slice t x lo hi mx =>
    match P.underlying t, opd x, opdO lo, opdO hi, opdO mx with
    | some .string, some x, some lo, some hi, some none => some (.sliceStr x lo hi)
    | some (.slice e), some x, some lo, some hi', some mx' => if mx.isNone || hi.isSome then (sizeT P e).map (fun n => .slice n x lo hi' mx') else none
    | _, _, _, _, _ => none
  | .fieldAddr t x f =>
    match P.underlying t, opd x with
    | some (.struct fs), some x =>
      match fs[f]? with
      | some g =>
        match sizeT P g.type with
        | some n => if n = 0 then none else some (.fieldAddr g.offset x)
        | none => none
      | none => none
    | _, _ => none
  | .field t x f =>
    match P.underlying t, opd x with
    | some (.struct fs), some x =>
      match fs[f]? with
      | some g =>
        match sizeT P g.type, aggT P g.type with
        | some n, some ag => some (.field g.offset n ag x)
        | _, _ => none
      | none => none
    | _, _ => none
  | .indexAddr t x i =>
    match P.underlying t, opd x, opd i with
    | some (.array n e), some x, some i => (sizeT P e).map (fun m => .indexArr n m x i)
    | some (.slice e), some x, some i => (sizeT P e).map (fun m => .indexSl m x i)
    | _, _, _ => none
  | .index t x i =>
    match P.underlying t, opd x, opd i with
    | some .string, some x, some i => some (.indexStr x i)
    | some (.array n e), some x, some i =>
      match sizeT P e, aggT P e with
      | some m, some ag => some (.indexAgg n m ag x i)
      | _, _ => none
    | _, _, _ => none
  | .extract x i => (opd x).map (.extract · i)
  | .call c =>
    match c.callee with
    | .builtin b => resBuiltin P b c.args.toList c.argTypes.toList mu
    | .value (.func f) => (opdL c.args.toList).map (.call f)
    | .value f => bind2 (opd f) (opdL c.args.toList) .callv
    | .invoke _ _ => none
  | _ => none

/-- The slot of an operation of a region, if it is among the n slots. -/
def dstOf (n : Nat) (ops : Array Oper) (j : Nat) : Option Nat :=
  match ops[j]? with
  | some o =>
    match o.dst with
    | some d => if d < n then some d else none
    | none => none
  | none => none

def resGuard (n : Nat) (ops : Array Oper) : Option (Nat × Bool) → Option (Option (Nat × Bool))
  | none => some none
  | some (j, want) => (dstOf n ops j).map fun d => some (d, want)

def isBool (P : Program) (t : TypeId) : Bool :=
  match P.underlying t with
  | some .bool => true
  | _ => false

def resOper (P : Program) (n : Nat) (muts : List Nat) (ops : Array Oper) (i : Nat) (o : Oper) : Option AOper :=
  match resOp P (muts.contains i) (muts.contains (i + 5000)) o.type o.op, resGuard n ops o.guard with
  | some a, some g =>
    match o.dst with
    | none => some ⟨none, a, isBool P o.type, g⟩
    | some d => if d < n then some ⟨some d, a, isBool P o.type, g⟩ else none
  | _, _ => none

def resOpers (P : Program) (n : Nat) (muts : List Nat) (ops : Array Oper) : Nat → List Oper → Option (List AOper)
  | _, [] => some []
  | i, o :: os =>
    match resOper P n muts ops i o, resOpers P n muts ops (i + 1) os with
    | some a, some as => some (a :: as)
    | _, _ => none

/-- It changes nothing in memory. -/
def AOp.quietB : AOp → Bool
  | .buildSlice _ _ _ _ => false
  | op => !op.isMem

/-! ### A region whose order is open -/
def Opd.looks : Opd → List Nat
  | .tmp t => [t]
  | .const _ => []

def looksO : Option Opd → List Nat
  | some x => x.looks
  | none => []

def looksL : List Opd → List Nat
  | [] => []
  | x :: xs => x.looks ++ looksL xs

def looksP : List (Nat × Nat × Opd) → List Nat
  | [] => []
  | (_, _, x) :: xs => x.looks ++ looksP xs

def AOp.looks : AOp → List Nat
  | .mov x => x.looks
  | .newarr _ => []
  | .pick c a b => c.looks ++ (a.looks ++ b.looks)
  | .alloc _ => []
  | .box _ x => x.looks
  | .build _ ps => looksP ps
  | .buildSlice _ _ _ ps => looksP ps
  | .load _ _ a => a.looks
  | .store _ a x => a.looks ++ x.looks
  | .nilCheck x => x.looks
  | .bin _ _ x y => x.looks ++ y.looks
  | .un _ x => x.looks
  | .conv _ x => x.looks
  | .convStr x => x.looks
  | .bytesStr x => x.looks
  | .mkfn _ caps => looksL caps
  | .makeSlice _ _ _ l c => l.looks ++ c.looks
  | .slice _ x lo hi mx => x.looks ++ (looksO lo ++ (looksO hi ++ looksO mx))
  | .sliceStr x lo hi => x.looks ++ (looksO lo ++ looksO hi)
  | .fieldAddr _ x => x.looks
  | .field _ _ _ x => x.looks
  | .indexArr _ _ x i => x.looks ++ i.looks
  | .indexSl _ x i => x.looks ++ i.looks
  | .indexStr x i => x.looks ++ i.looks
  | .indexAgg _ _ _ x i => x.looks ++ i.looks
  | .lenSl x => x.looks
  | .lenStr x => x.looks
  | .lenConst _ => []
  | .append _ _ _ s x => s.looks ++ x.looks
  | .minmax _ x y => x.looks ++ y.looks
  | .extract x _ => x.looks
  | .makeMap r => looksO r
  | .lookup _ _ _ _ m k => m.looks ++ k.looks
  | .mapUpdate _ m k x => m.looks ++ (k.looks ++ x.looks)
  | .call _ args => looksL args
  | .callv f args => f.looks ++ looksL args
  | .peq _ x y => x.looks ++ y.looks

def AOper.looks (o : AOper) : List Nat :=
  match o.guard with
  | some (g, _) => g :: o.op.looks
  | none => o.op.looks

def AOp.isCall : AOp → Bool
  | .call _ _ | .callv _ _ => true
  | _ => false

def inL (l : List Nat) (t : Nat) : Bool := l.any fun u => Nat.beq u t

/-- Neither writes what the other one looks at or writes. -/
def AOper.apartA (x y : AOper) : Bool :=
  (match x.dst with
   | some d => !inL y.looks d && (match y.dst with | some e => !Nat.beq e d | none => true)
   | none => true) &&
  (match y.dst with
   | some d => !inL x.looks d
   | none => true)

/-- The operations that surely come before one, as a number's bits. -/
def maskOf (acc : List Nat) (o : Oper) : Nat :=
  o.after.toList.foldl (fun s e => bif Region.binds .any e then (s ||| 2 ^ e.on) ||| acc.getD e.on 0 else s) 0

def befores : List Oper → List Nat → List Nat
  | [], acc => acc
  | o :: os, acc => befores os (acc ++ [maskOf acc o])

/-- Each waits for earlier ones alone. -/
def edgesBack : Nat → List Oper → Bool
  | _, [] => true
  | k, o :: os => o.after.toList.all (fun e => !Region.binds .any e || Nat.blt e.on k) && edgesBack (k + 1) os

/-- The operation k (y, its mask b) against all earlier ones. -/
def apartFrom (b : Nat) (y : AOper) : Nat → List AOper → Bool
  | _, [] => true
  | i, x :: xs => (b.testBit i || x.apartA y) && apartFrom b y (i + 1) xs

def apartAll (as : List AOper) : List Nat → List AOper → Bool
  | b :: bs, y :: ys => apartFrom b y 0 (as.take (as.length - ys.length - 1)) && apartAll as bs ys
  | _, _ => true

/-- The operation k is in a fixed order with all others. -/
def fixedAt (k : Nat) (b : Nat) : Nat → List Nat → Bool
  | _, [] => true
  | i, c :: cs => (bif Nat.blt i k then b.testBit i else bif Nat.blt k i then c.testBit k else true) && fixedAt k b (i + 1) cs

/-- Which operations leave memory as it is ('true'), whatever the order; the others are in a fixed order with all. -/
def mixQs (B : List Nat) : Nat → List Nat → List AOper → List Bool
  | k, b :: bs, o :: os => (!((o.op.isMem || o.op.isCall) && fixedAt k b 0 B)) :: mixQs B (k + 1) bs os
  | _, _, _ => []

def mixMem : List Bool → List AOper → Bool
  | q :: qs, o :: os => (!q || !o.op.isMem) && mixMem qs os
  | _, _ => true

def mixB (ops : Array Oper) (as : List AOper) : Option (List Bool) :=
  let B := befores ops.toList []
  let qs := mixQs B 0 B as
  bif edgesBack 0 ops.toList && apartAll as B as && mixMem qs as && Region.noSelect ops && Nat.beq as.length ops.size then some qs else none

def firstIdx (p : Nat → Bool) : Nat → Nat → Option Nat
  | _, 0 => none
  | i, f + 1 => bif p i then some i else firstIdx p (i + 1) f

/-- An order that the text allows, in which what leaves memory alone comes as early as it can. -/
def orderF (B : List Nat) (ev : List Bool) (n : Nat) : Nat → Nat → List Nat → Option (List Nat)
  | 0, _, acc => some acc.reverse
  | f + 1, ch, acc =>
    match firstIdx (fun i => !(ch.testBit i) && Nat.beq (B.getD i 0 &&& ch) (B.getD i 0) && !(ev.getD i true)) 0 n with
    | some i => orderF B ev n f (ch ||| 2 ^ i) (i :: acc)
    | none =>
      match firstIdx (fun i => !(ch.testBit i) && Nat.beq (B.getD i 0 &&& ch) (B.getD i 0)) 0 n with
      | some i => orderF B ev n f (ch ||| 2 ^ i) (i :: acc)
      | none => none

def noGuard (o : AOper) : Bool :=
  match o.guard with
  | none => true
  | some _ => false

/-- Position i comes before position k for sure. -/
def bfF (B ix : List Nat) (i k : Nat) : Bool := (B.getD (ix.getD k 0) 0).testBit (ix.getD i 0)

def flF (B ix : List Nat) (ev : List Bool) (n : Nat) : List (Option (List Nat)) :=
  (List.range n).map fun p => bif ev.getD (ix.getD p 0) true then some ((List.range p).filter fun j => !bfF B ix j p && !ev.getD (ix.getD j 0) true) else none

def plainAlloc (o : AOper) : Bool :=
  match o with
  | ⟨some _, .alloc _, false, none⟩ => true
  | _ => false

/-- Two new variables whose order is open, before all that follows. -/
def pairB (B ix : List Nat) (fl : List (Option (List Nat))) (as : List AOper) (n p : Nat) : Bool :=
  Nat.blt (p + 1) n && plainAlloc (as.getD p default) && plainAlloc (as.getD (p + 1) default) && (match fl.getD (p + 1) none with | some _ => true | none => false) &&
    (List.range n).all fun i => !Nat.blt (p + 1) i || (bfF B ix p i && bfF B ix (p + 1) i)

def okF (B ix : List Nat) (fl : List (Option (List Nat))) (as : List AOper) (n p : Nat) : Bool :=
  match fl.getD p none with
  | none => !(as.getD p default).op.isMem && !(as.getD p default).op.isCall
  | some l => noGuard (as.getD p default) && ((List.range n).all (fun i => !Nat.blt p i || bfF B ix p i) || pairB B ix fl as n p) &&
      (List.range p).all fun j => bfF B ix j p || (Nat.beq (j + 1) p && pairB B ix fl as n j) || (inL l j && noGuard (as.getD j default) && (as.getD j default).dst.isSome && (match fl.getD j (some []) with | none => true | some _ => false))

def mixF (ops : Array Oper) (as : List AOper) : Option (List AOper × List (Option (List Nat))) :=
  let n := as.length
  let B := befores ops.toList []
  let ev := as.map fun o => o.op.isMem || o.op.isCall
  match orderF B ev n n 0 [] with
  | none => none
  | some ix =>
    let as' := ix.map fun i => as.getD i default
    let fl := flF B ix ev n
    bif Nat.beq ix.length n && Nat.beq n ops.size && edgesBack 0 ops.toList && (List.range n).all (fun k => inL ix k) &&
      (List.range n).all (fun k => Nat.blt (ix.getD k 0) n && (List.range k).all fun i => !Nat.beq (ix.getD i 0) (ix.getD k 0)) &&
      (List.range n).all (fun k => (List.range k).all fun i => bfF B ix i k || (as'.getD i default).apartA (as'.getD k default)) &&
      (List.range n).all (fun p => okF B ix fl as' n p) then some (as', fl) else none

/-- What the reader is told beside the code: the slots that are live behind a region and at a loop's head, and the operations whose slices are built up by append (region, operation). -/
structure Hints where
  live : List (Nat × List Nat) := []
  loops : List (Nat × List Nat) := []
  muts : List (Nat × List Nat) := []

def look (l : List (Nat × List Nat)) (k : Nat) : List Nat :=
  match l with
  | [] => []
  | (a, xs) :: r => bif Nat.beq a k then xs else look r k

/-- The first region of code. -/
def firstR : Code → Nat
  | .region id _ _ => id
  | .seq a b => min (firstR a) (firstR b)
  | .cond _ a b => min (firstR a) (firstR b)
  | .block _ a => firstR a
  | .loop a => firstR a
  | .scope a => firstR a
  | _ => 1000000

def firstLabel : Code → Option Nat
  | .seq a b => (firstLabel a).or (firstLabel b)
  | .label l => some l
  | _ => none

def resC (P : Program) (n : Nat) (h : Hints) : Nat → Code → Option ACode
  | 0, _ => none
  | k + 1, c =>
    match c with
    | .skip => some .skip
    | .region id ops draw =>
      match resOpers P n (look h.muts id) ops 0 ops.toList with
      | some os =>
        if draw then
          if P.follows .mixedOrders then
            match bif inL (look h.muts id) 9999 then none else mixB ops os with
            | some qs => some (.mixed os qs (look h.live id))
            | none => (mixF ops os).map (fun x => .float x.1 x.2 (look h.live id))
          else none
        else some (.region os (look h.live id))
      | none => none
    | .seq a b => bind2 (resC P n h k a) (resC P n h k b) .seq
    | .cond c a b =>
      match opd c, resC P n h k a, resC P n h k b with
      | some c, some a, some b => some (.cond c a b)
      | _, _, _ => none
    | .block id a => (resC P n h k a).map (.block id)
    | .loop a => (resC P n h k a).map (.loop (look h.loops (firstR a)))
    | .scope a =>
      match firstLabel a with
      | some l =>
        match findLabel a l with
        | some rest => bind2 (resC P n h k a) (resC P n h k rest) (.scope l (look h.loops (firstR rest)))
        | none => none
      | none => none
    | .exit id => some (.exit id)
    | .label _ => some .label
    | .goto l => some (.goto l)
    | .ret => some .ret
    | .rangeFunc _ _ _ _ => none
    | .refuse _ => none

def resRes (P : Program) (n : Nat) : List ResultVar → Option (List ARes)
  | [] => some []
  | .tmp t :: rs => (resRes P n rs).map (.tmp t :: ·)
  | .cell t ty :: rs =>
    match sizeT P ty, aggT P ty, resRes P n rs with
    | some m, some ag, some as => some (.cell t m ag :: as)
    | _, _, _ => none

def resFn (P : Program) (h : Hints) (f : Nat) : Option AFn :=
  match P.funcs[f]? with
  | some fn =>
    match fn.body with
    | some c =>
      bif fn.name != "runtime.NumGoroutine" then
        match resC P fn.ntmps h 200 c, resRes P fn.ntmps fn.results.toList with
        | some b, some rs => some ⟨fn.ntmps, rs, b⟩
        | _, _ => none
      else none
    | none => none
  | none => none

end Go.Vm

/- The laws by which a weakest precondition is reckoned: each operation on values that are known. -/
namespace Go.Vm

@[congr] theorem OptV_congr {o o' : Option V} {K : V → Prop} (h : o = o') : OptV o K = OptV o' K := by rw [h]
@[congr] theorem OptB_congr {o o' : Option V} {K : Bool → Prop} (h : o = o') : OptB o K = OptB o' K := by rw [h]
@[congr] theorem OptVM_congr {o o' : Option (V × Mem)} {K : V → Mem → Prop} (h : o = o') : OptVM o K = OptVM o' K := by rw [h]
@[congr] theorem BIf_congr {b b' : Bool} {A B : Prop} (h : b = b') : BIf b A B = BIf b' A B := by rw [h]
@[congr] theorem ACalls_congr {P : Program} {f : Nat} {a a' : List V} {M M' : Mem} {K : V → Mem → Prop} (h : a = a') (h' : M = M') : ACalls P f a M K = ACalls P f a' M' K := by rw [h, h']
@[congr] theorem wpCall_congr {P : Program} {q : Bool} {f : Nat} {a a' : List V} {M M' : Mem} {K : V → Mem → Prop} (h : a = a') (h' : M = M') : wpCall P q f a M K = wpCall P q f a' M' K := by rw [h, h']
@[congr] theorem wpCallV_congr {P : Program} {q : Bool} {f f' : V} {a a' : List V} {M M' : Mem} {K : V → Mem → Prop} (h0 : f = f') (h : a = a') (h' : M = M') : wpCallV P q f a M K = wpCallV P q f' a' M' K := by rw [h0, h, h']
@[congr] theorem wpC_congr {P : Program} {c : ACode} {Q : Exit → Slots → Mem → Prop} {s s' : Slots} {M M' : Mem} (h : s = s') (h' : M = M') : wpC P c Q s M = wpC P c Q s' M' := by rw [h, h']
@[congr] theorem seqK_congr {next : (Exit → Slots → Mem → Prop) → Slots → Mem → Prop} {Q : Exit → Slots → Mem → Prop} {e : Exit} {s s' : Slots} {M M' : Mem} (h : s = s') (h' : M = M') : seqK next Q e s M = seqK next Q e s' M' := by rw [h, h']

theorem OptV_some (v : V) (K : V → Prop) : OptV (some v) K = K v := rfl
theorem OptB_some (b : Bool) (K : Bool → Prop) : OptB (some (.bool b)) K = K b := rfl
theorem OptVM_some (v : V) (M : Mem) (K : V → Mem → Prop) : OptVM (some (v, M)) K = K v M := rfl
theorem BIf_true (A B : Prop) : BIf true A B = A := rfl
theorem BIf_false (A B : Prop) : BIf false A B = B := rfl
theorem BIf_dec {p : Prop} [Decidable p] {A B : Prop} (h1 : p → A) (h2 : ¬ p → B) : BIf (decide p) A B := by
  by_cases h : p
  · simp only [h, decide_true]; exact h1 h
  · simp only [h, decide_false]; exact h2 h
theorem BIf_of {b : Bool} {A B : Prop} (h1 : b = true → A) (h2 : b = false → B) : BIf b A B := by
  cases b
  · exact h2 rfl
  · exact h1 rfl
theorem BIf_not (b : Bool) (A B : Prop) : BIf (!b) A B = BIf b B A := by cases b <;> rfl

theorem wpC_seq (P : Program) (a b : ACode) (Q : Exit → Slots → Mem → Prop) (s : Slots) (M : Mem) : wpC P (.seq a b) Q s M = wpC P a (seqK (wpC P b) Q) s M := rfl
theorem wpC_skip (P : Program) (Q : Exit → Slots → Mem → Prop) (s : Slots) (M : Mem) : wpC P .skip Q s M = Q .normal s M := rfl
theorem wpC_label (P : Program) (Q : Exit → Slots → Mem → Prop) (s : Slots) (M : Mem) : wpC P .label Q s M = Q .normal s M := rfl
theorem wpC_ret (P : Program) (Q : Exit → Slots → Mem → Prop) (s : Slots) (M : Mem) : wpC P .ret Q s M = Q .ret s M := rfl
theorem wpC_exit (P : Program) (id : Nat) (Q : Exit → Slots → Mem → Prop) (s : Slots) (M : Mem) : wpC P (.exit id) Q s M = Q (.exit id) s M := rfl
theorem wpC_goto (P : Program) (l : Nat) (Q : Exit → Slots → Mem → Prop) (s : Slots) (M : Mem) : wpC P (.goto l) Q s M = Q (.goto l) s M := rfl
theorem wpC_block (P : Program) (id : Nat) (a : ACode) (Q : Exit → Slots → Mem → Prop) (s : Slots) (M : Mem) : wpC P (.block id a) Q s M = wpC P a (blockK id Q) s M := rfl
theorem wpC_cond {P : Program} {c : Opd} {a b : ACode} {Q : Exit → Slots → Mem → Prop} {s : Slots} {M : Mem} {t : Bool} (h : ev s c = .bool t) : wpC P (.cond c a b) Q s M = BIf t (wpC P a Q s M) (wpC P b Q s M) := by
  simp only [wpC, h]

def condB (v : V) (A B : Prop) : Prop :=
  match v with
  | .bool t => BIf t A B
  | _ => False
@[congr] theorem condB_congr {v v' : V} {A B : Prop} (h : v = v') : condB v A B = condB v' A B := by rw [h]
theorem condB_bool (t : Bool) (A B : Prop) : condB (.bool t) A B = BIf t A B := rfl
theorem wpC_cond_tmp (P : Program) (t : Nat) (a b : ACode) (Q : Exit → Slots → Mem → Prop) (s : Slots) (M : Mem) : wpC P (.cond (.tmp t) a b) Q s M = condB (sget s t) (wpC P a Q s M) (wpC P b Q s M) := by
  simp only [wpC, ev, condB] <;> cases sget s t <;> rfl
theorem seqK_normal (next : (Exit → Slots → Mem → Prop) → Slots → Mem → Prop) (Q : Exit → Slots → Mem → Prop) (s : Slots) (M : Mem) : seqK next Q .normal s M = next Q s M := rfl
theorem seqK_ret (next : (Exit → Slots → Mem → Prop) → Slots → Mem → Prop) (Q : Exit → Slots → Mem → Prop) (s : Slots) (M : Mem) : seqK next Q .ret s M = Q .ret s M := rfl
theorem seqK_exit (next : (Exit → Slots → Mem → Prop) → Slots → Mem → Prop) (Q : Exit → Slots → Mem → Prop) (id : Nat) (s : Slots) (M : Mem) : seqK next Q (.exit id) s M = Q (.exit id) s M := rfl
theorem seqK_goto (next : (Exit → Slots → Mem → Prop) → Slots → Mem → Prop) (Q : Exit → Slots → Mem → Prop) (id : Nat) (s : Slots) (M : Mem) : seqK next Q (.goto id) s M = Q (.goto id) s M := rfl
theorem blockK_normal (id : Nat) (Q : Exit → Slots → Mem → Prop) (s : Slots) (M : Mem) : blockK id Q .normal s M = Q .normal s M := rfl
theorem blockK_ret (id : Nat) (Q : Exit → Slots → Mem → Prop) (s : Slots) (M : Mem) : blockK id Q .ret s M = Q .ret s M := rfl
theorem blockK_goto (id l : Nat) (Q : Exit → Slots → Mem → Prop) (s : Slots) (M : Mem) : blockK id Q (.goto l) s M = Q (.goto l) s M := rfl
theorem blockK_exit (id id' : Nat) (Q : Exit → Slots → Mem → Prop) (s : Slots) (M : Mem) : blockK id Q (.exit id') s M = bif id' == id then Q .normal s M else Q (.exit id') s M := rfl
theorem roundK_ret (I : Nat → List V → Mem → Prop) (n len : Nat) (live : List Nat) (Q : Exit → Slots → Mem → Prop) (s : Slots) (M : Mem) : roundK I n len live Q .ret s M = Q .ret s M := rfl
theorem roundK_exit (I : Nat → List V → Mem → Prop) (n len : Nat) (live : List Nat) (Q : Exit → Slots → Mem → Prop) (id : Nat) (s : Slots) (M : Mem) : roundK I n len live Q (.exit id) s M = Q (.exit id) s M := rfl
theorem roundK_goto (I : Nat → List V → Mem → Prop) (n len : Nat) (live : List Nat) (Q : Exit → Slots → Mem → Prop) (id : Nat) (s : Slots) (M : Mem) : roundK I n len live Q (.goto id) s M = Q (.goto id) s M := rfl
theorem roundK_stay {I : Nat → List V → Mem → Prop} {n len : Nat} {live : List Nat} {Q : Exit → Slots → Mem → Prop} {s : Slots} {M : Mem} (m : Nat) (h : m < n) (hI : I m (vals s live) M) : roundK I n len live Q .normal s M := .inl ⟨m, h, hI⟩
theorem roundK_pop {I : Nat → List V → Mem → Prop} {n len : Nat} {live : List Nat} {Q : Exit → Slots → Mem → Prop} {s : Slots} {M : Mem} (m : Nat) (h : m < n) (hp : popOK len (vals s live) M = true) (hI : I m (vals s live) (M.take len)) : roundK I n len live Q .normal s M := .inr ⟨hp, m, h, hI⟩
theorem wpC_loop {P : Program} {live : List Nat} {a : ACode} {Q : Exit → Slots → Mem → Prop} {s : Slots} {M : Mem} (I : Nat → List V → Mem → Prop) (n : Nat) (h0 : I n (vals s live) M)
    (h : ∀ n vs M1, I n vs M1 → wpC P a (roundK I n M.length live Q) (zipS live vs) M1) : wpC P (.loop live a) Q s M := ⟨I, n, h0, h⟩
theorem endK_normal (rs : List ARes) (R : Option V → Mem → Prop) (s : Slots) (M : Mem) : endK rs R .normal s M = R (resAll s M rs) M := rfl
theorem endK_ret (rs : List ARes) (R : Option V → Mem → Prop) (s : Slots) (M : Mem) : endK rs R .ret s M = R (resAll s M rs) M := rfl
theorem popPost_some (base : Nat) (R : V → Mem → Prop) (v : V) (M : Mem) : popPost base R (some v) M = OptV (freezeV M base 20 v) fun v' => (v'.under base && decide (base ≤ M.length) && memUnder base (M.take base)) = true ∧ R v' (M.take base) := rfl
theorem keepPost_some (R : V → Mem → Prop) (v : V) (M : Mem) : keepPost R (some v) M = R v M := rfl

/-! ### Numbers -/
theorem wrap_i64 (n : Int) (h1 : -9223372036854775808 ≤ n) (h2 : n ≤ 9223372036854775807) : IntKind.i64.wrap n = n := by
  have e : (2 : Int) ^ IntKind.i64.bits = 18446744073709551616 := by decide
  have e' : (2 : Int) ^ (IntKind.i64.bits - 1) = 9223372036854775808 := by decide
  unfold IntKind.wrap
  simp only [e, e', show IntKind.i64.signed = true from rfl, Bool.true_and, decide_eq_true_eq]
  split <;> omega
theorem wrap_u64 (n : Int) (h1 : 0 ≤ n) (h2 : n ≤ 18446744073709551615) : IntKind.u64.wrap n = n := by
  have e : (2 : Int) ^ IntKind.u64.bits = 18446744073709551616 := by decide
  unfold IntKind.wrap
  simp only [e, show IntKind.u64.signed = false from rfl, Bool.false_and]
  simp only [Bool.false_eq_true, if_false]
  omega
theorem toNat_sub1 (i : Nat) : ((i : Int) - 1).toNat = i - 1 := by omega
theorem toNat_add1 (i : Nat) : ((i : Int) + 1).toNat = i + 1 := by omega
theorem toNat_lit0 : (0 : Int).toNat = 0 := rfl
theorem nonneg_cast (i : Nat) : decide ((0 : Int) ≤ (i : Int)) = true := by simp
theorem dec_true {p : Prop} [Decidable p] (h : p) : decide p = true := decide_eq_true h
theorem dec_false {p : Prop} [Decidable p] (h : ¬ p) : decide p = false := decide_eq_false h

/-! ### Operations -/
theorem bin_add (k : IntKind) (e : EqK) (a b : Int) : binV .add e (.int k a) (.int k b) = some (.int k (k.wrap (a + b))) := by simp [binV, binInt]
theorem bin_sub (k : IntKind) (e : EqK) (a b : Int) : binV .sub e (.int k a) (.int k b) = some (.int k (k.wrap (a - b))) := by simp [binV, binInt]
theorem bin_mul (k : IntKind) (e : EqK) (a b : Int) : binV .mul e (.int k a) (.int k b) = some (.int k (k.wrap (a * b))) := by simp [binV, binInt]
theorem bin_quo (k : IntKind) (e : EqK) (a b : Int) (h : b ≠ 0) : binV .quo e (.int k a) (.int k b) = some (.int k (k.wrap (a.tdiv b))) := by simp [binV, binInt, h]
theorem bin_rem (k : IntKind) (e : EqK) (a b : Int) (h : b ≠ 0) : binV .rem e (.int k a) (.int k b) = some (.int k (a.tmod b)) := by simp [binV, binInt, h]
theorem bin_eql (k : IntKind) (e : EqK) (a b : Int) : binV .eql e (.int k a) (.int k b) = some (.bool (decide (a = b))) := by simp [binV, binInt]
theorem bin_neq (k : IntKind) (e : EqK) (a b : Int) : binV .neq e (.int k a) (.int k b) = some (.bool (!decide (a = b))) := by simp [binV, binInt]
theorem bin_lss (k : IntKind) (e : EqK) (a b : Int) : binV .lss e (.int k a) (.int k b) = some (.bool (decide (a < b))) := by simp [binV, binInt]
theorem bin_leq (k : IntKind) (e : EqK) (a b : Int) : binV .leq e (.int k a) (.int k b) = some (.bool (decide (a ≤ b))) := by simp [binV, binInt]
theorem bin_gtr (k : IntKind) (e : EqK) (a b : Int) : binV .gtr e (.int k a) (.int k b) = some (.bool (decide (b < a))) := by simp [binV, binInt]
theorem bin_geq (k : IntKind) (e : EqK) (a b : Int) : binV .geq e (.int k a) (.int k b) = some (.bool (decide (b ≤ a))) := by simp [binV, binInt]
theorem bin_bits (op : BinOp) (k : IntKind) (e : EqK) (a b : Int) (h : op = .and ∨ op = .or ∨ op = .xor ∨ op = .andNot) : binV op e (.int k a) (.int k b) = bitsV op k a b := by
  rcases h with rfl | rfl | rfl | rfl <;> simp [binV, binInt]
def andK (k : IntKind) (x y : Int) : Int := k.wrap ((BitVec.ofInt k.bits x &&& BitVec.ofInt k.bits y).toNat : Int)
def orK (k : IntKind) (x y : Int) : Int := k.wrap ((BitVec.ofInt k.bits x ||| BitVec.ofInt k.bits y).toNat : Int)
def xorK (k : IntKind) (x y : Int) : Int := k.wrap ((BitVec.ofInt k.bits x ^^^ BitVec.ofInt k.bits y).toNat : Int)
def andNotK (k : IntKind) (x y : Int) : Int := k.wrap ((BitVec.ofInt k.bits x &&& ~~~ BitVec.ofInt k.bits y).toNat : Int)
theorem bin_and (k : IntKind) (e : EqK) (a b : Int) : binV .and e (.int k a) (.int k b) = some (.int k (andK k a b)) := by simp [binV, binInt, bitsV, andK]
theorem bin_or (k : IntKind) (e : EqK) (a b : Int) : binV .or e (.int k a) (.int k b) = some (.int k (orK k a b)) := by simp [binV, binInt, bitsV, orK]
theorem bin_xor (k : IntKind) (e : EqK) (a b : Int) : binV .xor e (.int k a) (.int k b) = some (.int k (xorK k a b)) := by simp [binV, binInt, bitsV, xorK]
theorem bin_andNot (k : IntKind) (e : EqK) (a b : Int) : binV .andNot e (.int k a) (.int k b) = some (.int k (andNotK k a b)) := by simp [binV, binInt, bitsV, andNotK]
theorem bin_str_eql (e : EqK) (a b : List UInt8) : binV .eql e (.str a) (.str b) = some (.bool (decide (a = b))) := rfl
theorem bin_str_neq (e : EqK) (a b : List UInt8) : binV .neq e (.str a) (.str b) = some (.bool (!decide (a = b))) := rfl
theorem bin_str_lss (e : EqK) (a b : List UInt8) : binV .lss e (.str a) (.str b) = some (.bool (Op.bytesLess a b)) := rfl
theorem bin_bool_eql (a b : Bool) : binV .eql .bool (.bool a) (.bool b) = some (.bool (decide (a = b))) := rfl
theorem bin_bool_neq (a b : Bool) : binV .neq .bool (.bool a) (.bool b) = some (.bool (!decide (a = b))) := rfl
theorem un_not (b : Bool) : unV .not (.bool b) = some (.bool (!b)) := rfl
theorem un_neg (k : IntKind) (n : Int) : unV .neg (.int k n) = some (.int k (k.wrap (0 - n))) := rfl
theorem pick_true (a b : V) : pickV (.bool true) a b = some a := rfl
theorem pick_false (a b : V) : pickV (.bool false) a b = some b := rfl
theorem indexSl_slice {sz : Nat} {rows : List (List V)} {c : Cap} {k : IntKind} {i : Int} {M : Mem} (h : 0 ≤ i) : indexSlV sz (.slice rows c) (.int k i) M = (match rows[i.toNat]? with | some r => bif r.length == sz then some (.rref r) else none | none => none) := by
  simp only [indexSlV, h, decide_true, cond_true] <;> rfl
theorem indexSl_mslice {sz id ver start len : Nat} {k : IntKind} {i : Int} {M : Mem} (h : 0 ≤ i) : indexSlV sz (.mslice id ver start len) (.int k i) M = (match M[id]? with
    | some (.arr z rows v _) => bif z == sz && v == ver && decide (i.toNat < len) && decide (start + len ≤ rows.length) then some (.eptr id ver (start + i.toNat) 0) else none
    | some (.vec cells v) => bif sz == 1 && v == ver && decide (i.toNat < len) && decide (start + len ≤ cells.length) then some (.eptr id ver (start + i.toNat) 0) else none
    | _ => none) := by
  simp only [indexSlV, h, decide_true, cond_true] <;> rfl
theorem indexArr_ok {len sz : Nat} {x : V} {k : IntKind} {i : Int} (h : 0 ≤ i) (h2 : i < len) : indexArrV len sz x (.int k i) = moveV (i.toNat * sz) x := by
  simp [indexArrV, h, h2]
theorem indexStr_ok {s : List UInt8} {k : IntKind} {i : Int} (h : 0 ≤ i) : indexStrV (.str s) (.int k i) = (s[i.toNat]?).map fun b => .int .u8 b.toNat := by
  simp only [indexStrV, h, decide_true, cond_true]
  cases s[i.toNat]? <;> rfl
theorem move_rref (off : Nat) (cells : List V) : moveV off (.rref cells) = bif decide (off ≤ cells.length) then some (.rref (cells.drop off)) else none := rfl
theorem move_ptr (off id o : Nat) : moveV off (.ptr id o) = some (.ptr id (o + off)) := rfl
theorem move_eptr (off id v row o : Nat) : moveV off (.eptr id v row o) = some (.eptr id v row (o + off)) := rfl
theorem load_rref (n : Nat) (ag : Bool) (cells : List V) (M : Mem) : loadV n ag (.rref cells) M = loadC n ag cells 0 := rfl
theorem load_ptr (n : Nat) (ag : Bool) (id off : Nat) (M : Mem) : loadV n ag (.ptr id off) M = (match M[id]? with | some (.box cells) => loadC n ag cells off | _ => none) := rfl
theorem load_eptr (n : Nat) (ag : Bool) (id ver row off : Nat) (M : Mem) : loadV n ag (.eptr id ver row off) M = (match M[id]? with
    | some (.arr _ rows v _) =>
      bif v == ver then
        match rows[row]? with
        | some r => loadC n ag r off
        | none => none
      else none
    | some (.vec cells v) => bif v == ver then vecAt n ag off cells row else none
    | _ => none) := rfl
theorem loadC_one (n : Nat) (cells : List V) (off : Nat) : loadC n false cells off = cells[off]? := rfl
theorem loadC_agg (n : Nat) (cells : List V) (off : Nat) : loadC n true cells off = bif decide (off + n ≤ cells.length) then some (.agg ((cells.drop off).take n)) else none := rfl
theorem storeVM_some {n : Nat} {a x : V} {M M' : Mem} (h : storeV n a x M = some M') : storeVM n a x M = some (.undef, M') := by simp only [storeVM, h]
theorem lenV_slice (rows : List (List V)) (c : Cap) (M : Mem) : lenV (.slice rows c) M = some (.int .i64 rows.length) := rfl
theorem lenV_mslice (id ver start len : Nat) (M : Mem) : lenV (.mslice id ver start len) M = (match M[id]? with
    | some (.arr _ _ v _) => bif v == ver then some (.int .i64 len) else none
    | some (.vec _ v) => bif v == ver then some (.int .i64 len) else none
    | _ => none) := rfl
theorem lenStrV_str (s : List UInt8) : lenStrV (.str s) = some (.int .i64 s.length) := rfl
theorem extract_tuple (vs : List V) (i : Nat) : extractV (.tuple vs) i = vs[i]? := rfl
theorem conv_int (k k' : IntKind) (n : Int) : convV k (.int k' n) = some (.int k (k.wrap n)) := rfl
theorem field_agg (off n : Nat) (ag : Bool) (cells : List V) : fieldV off n ag (.agg cells) = loadC n ag cells off := rfl

end Go.Vm

/- Each operation of the machine Vm does in a world what it does to the abstract values. -/
namespace Go.Vm
open Go.RowKit (Below)

def SlotsRep (w : World) (Γ : Env) (s : Slots) (tmps : Array Value) : Prop := ∀ t, Rep w Γ (sget s t) (tmps.getD t Go.undef)

theorem SlotsRep.ext {w w' : World} {Γ Γ' : Env} (he : Ext w Γ w' Γ') {s : Slots} {tmps : Array Value} (h : SlotsRep w Γ s tmps) : SlotsRep w' Γ' s tmps := fun t => (h t).ext he

theorem cellV_rep {w : World} {Γ : Env} {v : Value} {x : V} (h : cellV v = some x) : Rep w Γ x v ∧ x.isPure = true := by
  unfold cellV at h
  split at h <;> simp only [Option.some.injEq, reduceCtorEq] at h
  · subst h; exact ⟨.bool _, rfl⟩
  · subst h; exact ⟨.int _ _, rfl⟩
  · subst h; exact ⟨by simpa using Rep.str (w := w) (Γ := Γ) _, rfl⟩
  · subst h; exact ⟨.nilp, rfl⟩
  · subst h; exact ⟨.sliceNil _ (.inl rfl), rfl⟩
  · subst h; exact ⟨.nilm, rfl⟩
  · subst h; exact ⟨.nilf, rfl⟩

theorem cellsL_rep {w : World} {Γ : Env} : ∀ {vs : List Value} {xs : List V}, cellsL vs = some xs → vs.length = xs.length ∧ ∀ (j : Nat) (x : V), xs[j]? = some x → Rep w Γ x (vs.toArray.getD j Go.undef) ∧ x.isPure = true
  | [], xs, h => by
    simp only [cellsL, Option.some.injEq] at h
    subst h
    exact ⟨rfl, fun j x hx => by simp at hx⟩
  | v :: vs, xs, h => by
    simp only [cellsL] at h
    split at h <;> simp only [Option.some.injEq, reduceCtorEq] at h
    rename_i x ys h1 h2
    subst h
    obtain ⟨hl, hr⟩ := cellsL_rep h2
    refine ⟨by simp [hl], fun j y hy => ?_⟩
    cases j with
    | zero =>
      simp only [List.getElem?_cons_zero, Option.some.injEq] at hy
      subst hy
      simpa using cellV_rep h1
    | succ j =>
      simp only [List.getElem?_cons_succ] at hy
      have := hr j y hy
      simpa [Array.getD_eq_getD_getElem?] using this

theorem constV_rep {w : World} {Γ : Env} {v : Value} {x : V} (h : constV v = some x) : Rep w Γ x v := by
  unfold constV at h
  split at h
  · rename_i cs
    cases hc : cellsL cs.toList with
    | none => simp [hc] at h
    | some xs =>
      simp only [hc, Option.map_some, Option.some.injEq] at h
      subst h
      obtain ⟨hl, hr⟩ := cellsL_rep (w := w) (Γ := Γ) hc
      exact .agg xs cs (by simpa using hl) (fun j x hx => by simpa using (hr j x hx).1)
  · exact (cellV_rep h).1

theorem opd_rep {w : World} {Γ : Env} {s : Slots} {a : Act} (hs : SlotsRep w Γ s a.tmps) {x : Operand} {y : Opd} (h : opd x = some y) : Rep w Γ (ev s y) (a.eval x) := by
  cases x with
  | tmp t =>
    simp only [opd, Option.some.injEq] at h
    subst h
    exact hs t
  | const v =>
    simp only [opd, Option.map_eq_some_iff] at h
    obtain ⟨z, hz, rfl⟩ := h
    exact constV_rep hz
  | func f =>
    simp only [opd, Option.some.injEq] at h
    subst h
    exact .pfn f [] #[] rfl (fun j x hx => by simp at hx) (fun j x hx => by simp at hx)
  | global g => simp [opd] at h

theorem opdL_rep {w : World} {Γ : Env} {s : Slots} {a : Act} (hs : SlotsRep w Γ s a.tmps) : ∀ {xs : List Operand} {ys : List Opd}, opdL xs = some ys → RepL w Γ (evL s ys) (xs.map a.eval).toArray
  | [], ys, h => by
    simp only [opdL, Option.some.injEq] at h
    subst h
    exact ⟨rfl, fun j x hx => by simp [evL] at hx⟩
  | x :: xs, ys, h => by
    simp only [opdL] at h
    split at h <;> simp only [Option.some.injEq, reduceCtorEq] at h
    rename_i y zs h1 h2
    subst h
    obtain ⟨hl, hr⟩ := opdL_rep hs h2
    refine ⟨by simp [evL] at hl ⊢; exact hl, fun j z hz => ?_⟩
    cases j with
    | zero =>
      simp only [evL, List.getElem?_cons_zero, Option.some.injEq] at hz
      subst hz
      simpa using opd_rep hs h1
    | succ j =>
      simp only [evL, List.getElem?_cons_succ] at hz
      have := hr j z hz
      simpa [Array.getD_eq_getD_getElem?] using this

/-- What is shown of an operation that leaves memory alone: one value, in every later world in which nothing old has turned. -/
def POK (P : Program) (w : World) (Γ : Env) (a : Act) (o : Oper) (v : V) : Prop :=
  ∃ cv, Rep w Γ v cv ∧ ∀ w', Below w.heap.size w w' → (execOp a.eval o).run P w' = .ok (.value cv) w'

section
variable {P : Program} {w : World} {Γ : Env} {M : Mem} {s : Slots} {a : Act} {o : Oper} {v : V}

theorem underlying_run {t : TypeId} {d : TypeDesc} (h : P.underlying t = some d) (w' : World) : (underlying t).run P w' = .ok d w' := by
  simp [underlying, h]
theorem sizeOf_run {t : TypeId} {n : Nat} (h : sizeT P t = some n) (w' : World) : (sizeOf t).run P w' = .ok n w' := by
  unfold sizeT at h
  split at h <;> simp only [Option.some.injEq, reduceCtorEq] at h
  rename_i i hi
  subst h
  simp [sizeOf, typeInfo, hi]
theorem isAgg_run {t : TypeId} {b : Bool} (h : aggT P t = some b) (w' : World) : (isAgg t).run P w' = .ok b w' := by
  unfold aggT at h
  split at h <;> simp only [Option.some.injEq, reduceCtorEq] at h <;> subst h
  · rename_i hu; simp [isAgg, underlying, hu]
  · rename_i hu; simp [isAgg, underlying, hu]
  · rename_i d h1 h2 hu
    simp only [isAgg, underlying, Sem.run_bind, run_program, Result.andThen_ok, hu, Sem.run_pure]

theorem mov_ok (hs : SlotsRep w Γ s a.tmps) {x : Operand} {y : Opd} (ho : o.op = .move x ∨ o.op = .assign x) (hy : opd x = some y) : POK P w Γ a o (ev s y) := by
  refine ⟨a.eval x, opd_rep hs hy, fun w' _ => ?_⟩
  rcases ho with ho | ho <;> simp [execOp, ho]

theorem rep_bool {x : V} {b : Bool} {cv : Value} (h : Rep w Γ x cv) (hx : x = .bool b) : cv = .bool b := by
  subst hx; cases h; rfl
theorem rep_int {k : IntKind} {n : Int} {cv : Value} (h : Rep w Γ (.int k n) cv) : cv = .int k n := by
  cases h; rfl
theorem rep_str {l : List UInt8} {cv : Value} (h : Rep w Γ (.str l) cv) : cv = .string ⟨l.toArray⟩ := by
  cases h; rfl

theorem pick_ok (hs : SlotsRep w Γ s a.tmps) {c x y : Operand} {c' x' y' : Opd} (ho : o.op = .pick c x y) (hc : opd c = some c') (hx : opd x = some x') (hy : opd y = some y')
    (h : pickV (ev s c') (ev s x') (ev s y') = some v) : POK P w Γ a o v := by
  unfold pickV at h
  split at h <;> simp only [Option.some.injEq, reduceCtorEq] at h
  rename_i t ht
  have e := rep_bool (opd_rep hs hc) ht
  subst h
  cases t with
  | true => exact ⟨a.eval x, opd_rep hs hx, fun w' _ => by simp [execOp, ho, e, asBool]⟩
  | false => exact ⟨a.eval y, opd_rep hs hy, fun w' _ => by simp [execOp, ho, e, asBool]⟩


/-! ### Reading -/
def RowAt (w : World) (Γ : Env) (b o : Nat) (cells : List V) : Prop := ∀ (j : Nat) (x : V), cells[j]? = some x → ∃ c, w.cell? ⟨b, o + j, none⟩ = some c ∧ Rep w Γ x c

theorem cell_lt {b j : Nat} {c : Value} (h : w.cell? ⟨b, j, none⟩ = some c) : b < w.heap.size := World.block_lt_of_cell? (a := ⟨b, j, none⟩) w h

theorem cell_later {w' : World} {b j : Nat} {c : Value} (h : w.cell? ⟨b, j, none⟩ = some c) (hb : Below w.heap.size w w') : w'.cell? ⟨b, j, none⟩ = some c :=
  (cell?_congr (hb.block b (cell_lt h))).trans h

/-- What an address leads to. -/
theorem Rep.row (hg : Good w Γ M) {x : V} {cx : Value} (h : Rep w Γ x cx) : match x with
    | .rref cells => ∃ b o, cx = .pointer (some ⟨b, o, none⟩) ∧ RowAt w Γ b o cells
    | .ptr id off => ∃ b, cx = .pointer (some ⟨b, off, none⟩) ∧ ∀ cells, M[id]? = some (.box cells) → RowAt w Γ b 0 cells
    | .eptr id ver row off => ∀ sz rows fz r, M[id]? = some (.arr sz rows ver fz) → rows[row]? = some r → ∃ b o, cx = .pointer (some ⟨b, o + off, none⟩) ∧ RowAt w Γ b o r
    | _ => True := by
  cases h with
  | rref cells b o cv hs hcell hp hr =>
    refine ⟨b, o, rfl, fun j x hx => ⟨cv j, hcell j (List.getElem?_eq_some_iff.1 hx).1, hr j x hx⟩⟩
  | ptr id off l hl hb hv =>
    refine ⟨l.b, rfl, fun cells hM j x hx => ?_⟩
    obtain ⟨c, h1, h2, _⟩ := hg.box_cell hl hM hx
    exact ⟨c, by simpa using h1, h2⟩
  | eptr id ver row off l hl hv v h =>
    intro sz rows fz r hM hr
    obtain ⟨h1, h0, h2, h3, h4, h5, h6, h7, h8⟩ := hg.blk id l _ hl hM
    have hrow : row < rows.length := (List.getElem?_eq_some_iff.1 hr).1
    have hlive : l.live = true := by
      cases hlv : l.live with
      | true => rfl
      | false => have := h5 hlv; omega
    obtain ⟨_, c, T, h8, h9, h10⟩ := h8 hlive
    refine ⟨l.b, row * l.sz, by rw [h h2], fun j x hx => ?_⟩
    have hj : j < l.sz := by rw [← h6 row r hr]; exact (List.getElem?_eq_some_iff.1 hx).1
    have hlt : row * l.sz + j < c.size := by
      rw [h9]
      have : (row + 1) * l.sz ≤ l.cap * l.sz := Nat.mul_le_mul_right _ (by omega)
      rw [Nat.add_mul] at this
      omega
    exact ⟨c.getD (row * l.sz + j) Go.undef, by rw [cell_of_heap h8]; exact getD_of_getElem? hlt, h10 row r j x hr hx⟩
  | _ => trivial

theorem Rep.vecRow (hg : Good w Γ M) {id ver row off : Nat} {cx : Value} (h : Rep w Γ (.eptr id ver row off) cx) {cells : List V} (hM : M[id]? = some (.vec cells ver)) {x : V} (hx : cells[row]? = some x) :
    ∃ b, cx = .pointer (some ⟨b, row + off, none⟩) ∧ RowAt w Γ b row [x] := by
  cases h with
  | eptr _ _ _ _ l hl hv p hp =>
    obtain ⟨h1, h0, h2, h4, h5, h8⟩ := hg.blk id l _ hl hM
    have hrow : row < cells.length := (List.getElem?_eq_some_iff.1 hx).1
    have hlive : l.live = true := by
      cases hlv : l.live with
      | true => rfl
      | false => have := h5 hlv; omega
    obtain ⟨_, c, T, h8, h9, h10⟩ := h8 hlive
    refine ⟨l.b, by rw [hp h2, h0, Nat.mul_one], fun j y hy => ?_⟩
    have hj : j = 0 := by
      have := (List.getElem?_eq_some_iff.1 hy).1
      simp at this; omega
    subst hj
    simp only [List.getElem?_cons_zero, Option.some.injEq] at hy
    subst hy
    exact ⟨c.getD row Go.undef, by rw [cell_of_heap h8]; exact getD_of_getElem? (by omega), h10 row x hx⟩

theorem vecAt_some {n off : Nat} {ag : Bool} {cells : List V} {row : Nat} (h : vecAt n ag off cells row = some v) : n = 1 ∧ ag = false ∧ off = 0 ∧ cells[row]? = some v := by
  unfold vecAt at h
  split at h
  · exact ⟨rfl, rfl, rfl, h⟩
  · cases h

theorem loadC_ok {b o n off : Nat} {ag : Bool} {cells : List V} (h : RowAt w Γ b o cells) (hl : loadC n ag cells off = some v) :
    match ag with
    | true => ∃ (xs : List V) (cv : Nat → Value), v = .agg xs ∧ xs.length = n ∧ (∀ j, j < n → w.cell? ⟨b, o + off + j, none⟩ = some (cv j)) ∧ ∀ (j : Nat) (x : V), xs[j]? = some x → Rep w Γ x (cv j)
    | false => ∃ c, w.cell? ⟨b, o + off, none⟩ = some c ∧ Rep w Γ v c := by
  unfold loadC at hl
  cases ag with
  | true =>
    simp only at hl
    cases hd : decide (off + n ≤ cells.length) with
    | false => simp [hd] at hl
    | true =>
      simp only [hd, cond_true, Option.some.injEq] at hl
      have hle : off + n ≤ cells.length := by simpa using hd
      have key : ∀ j, j < n → ∃ c, w.cell? ⟨b, o + off + j, none⟩ = some c ∧ ∀ x, cells[off + j]? = some x → Rep w Γ x c := fun j hj => by
        obtain ⟨c, h1, h2⟩ := h (off + j) (cells[off + j]'(by omega)) (by simp)
        refine ⟨c, by rw [Nat.add_assoc]; exact h1, fun x hx => ?_⟩
        rw [List.getElem?_eq_getElem (by omega)] at hx
        simp only [Option.some.injEq] at hx
        exact hx ▸ h2
      refine ⟨(cells.drop off).take n, fun j => if hj : j < n then (key j hj).choose else Go.undef, hl.symm, by simp; omega, fun j hj => ?_, fun j x hx => ?_⟩
      · simp only [hj, dite_true]; exact (key j hj).choose_spec.1
      · have hj : j < n := by
          have := (List.getElem?_eq_some_iff.1 hx).1
          simp at this; omega
        simp only [hj, dite_true]
        refine (key j hj).choose_spec.2 x ?_
        rw [List.getElem?_take_of_lt hj, List.getElem?_drop] at hx
        exact hx
  | false =>
    simp only at hl
    obtain ⟨c, h1, h2⟩ := h off v hl
    exact ⟨c, h1, h2⟩

theorem Addr.add_none (b o n : Nat) : (Addr.mk b o none).add n = ⟨b, o + n, none⟩ := by
  unfold Addr.add
  split
  · subst_vars; rfl
  · rfl

theorem loadV_row (hg : Good w Γ M) {n : Nat} {ag : Bool} {x : V} {cx : Value} (h : Rep w Γ x cx) (hl : loadV n ag x M = some v) :
    ∃ b o off cells, cx = .pointer (some ⟨b, o + off, none⟩) ∧ RowAt w Γ b o cells ∧ loadC n ag cells off = some v := by
  have hr := h.row hg
  unfold loadV at hl
  split at hl
  · rename_i cells
    obtain ⟨b, o, h1, h2⟩ := hr
    exact ⟨b, o, 0, cells, h1, h2, hl⟩
  · rename_i id off
    split at hl
    · rename_i cells hM
      obtain ⟨b, h1, h2⟩ := hr
      exact ⟨b, 0, off, cells, by rw [h1, Nat.zero_add], h2 cells hM, hl⟩
    · cases hl
  · rename_i id ver row off
    split at hl
    · rename_i z rows v' fz hM
      cases hb : v' == ver with
      | false => simp [hb] at hl
      | true =>
        simp only [beq_iff_eq] at hb
        subst hb
        simp only [beq_self_eq_true, cond_true] at hl
        split at hl
        · rename_i r hr'
          obtain ⟨b, o, h1, h2⟩ := hr z rows fz r hM hr'
          exact ⟨b, o, off, r, h1, h2, hl⟩
        · cases hl
    · rename_i cells v' hM
      cases hb : v' == ver with
      | false => simp [hb] at hl
      | true =>
        simp only [beq_iff_eq] at hb
        subst hb
        simp only [beq_self_eq_true, cond_true] at hl
        obtain ⟨rfl, rfl, rfl, hx⟩ := vecAt_some hl
        obtain ⟨b, h1, h2⟩ := h.vecRow hg hM hx
        exact ⟨b, row, 0, [v], h1, h2, rfl⟩
    · cases hl
  · cases hl

theorem load_ok (hg : Good w Γ M) (hs : SlotsRep w Γ s a.tmps) {t : TypeId} {x : Operand} {n : Nat} {ag : Bool} {y : Opd} (ho : o.op = .load t x) (hn : sizeT P t = some n) (ha : aggT P t = some ag) (hy : opd x = some y)
    (h : loadV n ag (ev s y) M = some v) : POK P w Γ a o v := by
  obtain ⟨b, off, o', cells, hc, hrow, hl⟩ := loadV_row hg (opd_rep hs hy) h
  have hlc := loadC_ok hrow hl
  cases ag with
  | true =>
    obtain ⟨xs, cv, rfl, hlen, hcell, hr⟩ := hlc
    refine ⟨.agg ((List.range n).map cv).toArray, .agg xs _ (by simp [hlen]) (fun j x hx => ?_), fun w' hb => ?_⟩
    · have hj : j < n := by rw [← hlen]; exact (List.getElem?_eq_some_iff.1 hx).1
      have := hr j x hx
      simpa [Array.getD_eq_getD_getElem?, hj] using this
    · have hrun := run_loadCells (P := P) w' ⟨b, off + o', none⟩ n cv (fun j hj => by rw [Addr.add_none]; exact cell_later (hcell j hj) hb)
      simp [execOp, ho, Instr.loadAt, Instr.sureAddr, hc, loadVar, isAgg_run ha, sizeOf_run hn, hrun]
  | false =>
    obtain ⟨c, hcell, hr⟩ := hlc
    refine ⟨c, hr, fun w' hb => ?_⟩
    simp [execOp, ho, Instr.loadAt, Instr.sureAddr, hc, loadVar, isAgg_run ha, cell_later hcell hb]

theorem Addr.add_add (p : Addr) (m n : Nat) (hm : m ≠ 0 ∨ p.spot = none) : (p.add m).add n = p.add (m + n) := by
  unfold Addr.add
  obtain ⟨b, o, sp⟩ := p
  by_cases h1 : m = 0 <;> by_cases h2 : n = 0 <;> simp_all [Nat.add_assoc]

theorem moveV_ok {x : V} {cx : Value} (h : Rep w Γ x cx) {off : Nat} (hm : moveV off x = some v) :
    ∃ p, cx = .pointer (some p) ∧ Rep w Γ v (.pointer (some (p.add off))) := by
  unfold moveV at hm
  split at hm
  · rename_i cells
    cases hd : decide (off ≤ cells.length) with
    | false => simp [hd] at hm
    | true =>
      simp only [hd, cond_true, Option.some.injEq] at hm
      have hle : off ≤ cells.length := by simpa using hd
      subst hm
      cases h with
      | rref _ b o cv hs hcell hp hr =>
        refine ⟨_, rfl, ?_⟩
        rw [Addr.add_none]
        refine .rref _ b (o + off) (fun j => cv (off + j)) (fun j hj => ?_) (fun j hj => ?_) (fun j x hx => ?_) (fun j x hx => ?_)
        · rw [Nat.add_assoc]; exact hs _ (by simp at hj; omega)
        · rw [Nat.add_assoc]; exact hcell _ (by simp at hj; omega)
        · rw [List.getElem?_drop] at hx; exact hp _ _ hx
        · rw [List.getElem?_drop] at hx; exact hr _ _ hx
  · simp only [Option.some.injEq] at hm
    subst hm
    cases h with
    | ptr id o l hl hb hv => exact ⟨_, rfl, by rw [Addr.add_none]; exact .ptr _ _ l hl hb hv⟩
  · simp only [Option.some.injEq] at hm
    subst hm
    cases h with
    | eptr id ver row o l hl hv p h => exact ⟨_, rfl, .eptr _ _ _ _ l hl hv _ (fun e => by rw [h e, Addr.add_none, Nat.add_assoc])⟩
  · cases hm

theorem fieldAddr_ok (hs : SlotsRep w Γ s a.tmps) {t : TypeId} {x : Operand} {f : Nat} {fs : Array Field} {g : Field} {n : Nat} {y : Opd} (ho : o.op = .fieldAddr t x f)
    (hu : P.underlying t = some (.struct fs)) (hf : fs[f]? = some g) (hn : sizeT P g.type = some n) (hn0 : n ≠ 0) (hy : opd x = some y) (h : moveV g.offset (ev s y) = some v) : POK P w Γ a o v := by
  obtain ⟨p, hc, hr⟩ := moveV_ok (opd_rep hs hy) h
  refine ⟨_, hr, fun w' _ => ?_⟩
  simp [execOp, ho, Instr.fieldAt, underlying_run hu, hf, Instr.sureAddr, hc, fieldPlace, sizeOf_run hn, hn0]

theorem indexArr_ok' (hs : SlotsRep w Γ s a.tmps) {t e : TypeId} {x i : Operand} {len n : Nat} {y j : Opd} (ho : o.op = .indexAddr t x i)
    (hu : P.underlying t = some (.array len e)) (hn : sizeT P e = some n) (hy : opd x = some y) (hj : opd i = some j) (h : indexArrV len n (ev s y) (ev s j) = some v) : POK P w Γ a o v := by
  unfold indexArrV at h
  split at h
  · rename_i k q hq
    cases hd : (decide (0 ≤ q) && decide (q < (len : Int))) with
    | false => simp [hd] at h
    | true =>
      simp only [hd, cond_true] at h
      obtain ⟨p, hc, hr⟩ := moveV_ok (opd_rep hs hy) h
      have hi := opd_rep hs hj
      rw [hq] at hi
      have hi := rep_int hi
      simp only [Bool.and_eq_true, decide_eq_true_eq] at hd
      refine ⟨_, hr, fun w' _ => ?_⟩
      simp [execOp, ho, Instr.indexAt, hi, asIntOf, underlying_run hu, hc, Instr.sureAddr, hd, sizeOf_run hn]
  · cases h

end
end Go.Vm

/- Operations on slices, strings and aggregates. -/
namespace Go.Vm
open Go.RowKit (Below)

section
variable {P : Program} {w : World} {Γ : Env} {M : Mem} {s : Slots} {a : Act} {o : Oper} {v : V}

theorem cond_some {α : Type} {b : Bool} {x y : α} (h : (bif b then some x else none) = some y) : b = true ∧ x = y := by
  cases b with
  | true => simpa using h
  | false => simp at h

theorem Rep.arrLive (hg : Good w Γ M) {id : Nat} {l : Loc} (hl : Γ.locs[id]? = some l) {sz ver fz : Nat} {rows : List (List V)} (hM : M[id]? = some (.arr sz rows ver fz)) (hne : rows ≠ []) : l.live = true := by
  obtain ⟨h1, h0, h2, h3, h4, h5, h6, h7, h8⟩ := hg.blk id l _ hl hM
  cases hlv : l.live with
  | true => rfl
  | false =>
    have := h5 hlv
    have : rows.length = 0 := by omega
    exact absurd (List.length_eq_zero_iff.1 this) hne

theorem indexSl_ok (hg : Good w Γ M) (hs : SlotsRep w Γ s a.tmps) {t e : TypeId} {x i : Operand} {n : Nat} {y j : Opd} (ho : o.op = .indexAddr t x i)
    (hu : P.underlying t = some (.slice e)) (hn : sizeT P e = some n) (hy : opd x = some y) (hj : opd i = some j) (h : indexSlV n (ev s y) (ev s j) M = some v) : POK P w Γ a o v := by
  have hx := opd_rep hs hy
  have hi := opd_rep hs hj
  unfold indexSlV at h
  split at h
  · rename_i k q hq
    rw [hq] at hi
    have hi := rep_int hi
    cases hd : decide (0 ≤ q) with
    | false => simp [hd] at h
    | true =>
      have hq0 : 0 ≤ q := by simpa using hd
      simp only [hd, cond_true] at h
      split at h
      · rename_i rows c hrows
        rw [hrows] at hx
        split at h
        · rename_i r hr
          obtain ⟨hrl, rfl⟩ := cond_some h
          have hrl : r.length = n := by simpa using hrl
          have hlt : q.toNat < rows.length := (List.getElem?_eq_some_iff.1 hr).1
          generalize hcx : a.eval x = cx at hx
          cases hx with
          | sliceNil => simp at hlt
          | sliceE => simp at hlt
          | slice _ _ b of sz cap cv hc hf hcap hsz hst hcell hp hrep =>
            have hszn : sz = n := by rw [← hrl]; exact (hsz _ _ hr).symm
            subst hszn
            refine ⟨.pointer (some ⟨b, of + q.toNat * sz, none⟩), ?_, fun w' _ => ?_⟩
            · refine .rref r b _ (fun j => cv q.toNat j) (fun j hj => ?_) (fun j hj => ?_) (fun j x hx => hp _ _ _ _ hr hx) (fun j x hx => hrep _ _ _ _ hr hx)
              · rw [Nat.add_assoc]; exact hst _ _ hlt (by omega)
              · rw [Nat.add_assoc]; exact hcell _ _ hlt (by omega)
            · have : q < (rows.length : Int) := by omega
              simp [execOp, ho, Instr.indexAt, hi, asIntOf, underlying_run hu, hcx, hq0, this, sizeOf_run hn, Addr.add_none]
        · cases h
      · rename_i id ver start len hms
        rw [hms] at hx
        split at h
        · rename_i z rows v' fz hM
          obtain ⟨hb, rfl⟩ := cond_some h
          simp only [Bool.and_eq_true, beq_iff_eq, decide_eq_true_eq] at hb
          obtain ⟨⟨⟨hz, hv⟩, hlt⟩, hle⟩ := hb
          generalize hcx : a.eval x = cx at hx
          cases hx with
          | mslice _ _ _ _ l hl hvv _ hsl hc =>
            obtain ⟨h1, h0, h2, h3, h4, h5, h6, h7, h8⟩ := hg.blk id l _ hl hM
            have hlive : l.live = true := Rep.arrLive hg hl hM (by rintro rfl; simp at hle; omega)
            rcases hsl (by rw [h2, hv]) with ⟨hd, _⟩ | ⟨_, hcap, of, rfl, hof⟩
            · rw [hlive] at hd; cases hd
            · have hof := hof (by omega)
              subst hof
              have hzn : l.sz = n := by rw [h0, hz]
              refine ⟨.pointer (some ⟨l.b, start * l.sz + q.toNat * n, none⟩), ?_, fun w' _ => ?_⟩
              · refine .eptr _ _ _ _ l hl hvv _ (fun _ => ?_)
                rw [hzn, Nat.add_mul, Nat.add_zero]
              · have : q < (len : Int) := by omega
                simp [execOp, ho, Instr.indexAt, hi, asIntOf, underlying_run hu, hcx, hq0, this, sizeOf_run hn, Addr.add_none]
        · rename_i cells v' hM
          obtain ⟨hb, rfl⟩ := cond_some h
          simp only [Bool.and_eq_true, beq_iff_eq, decide_eq_true_eq] at hb
          obtain ⟨⟨⟨hz, hv⟩, hlt⟩, hle⟩ := hb
          generalize hcx : a.eval x = cx at hx
          cases hx with
          | mslice _ _ _ _ l hl hvv _ hsl hc =>
            obtain ⟨h1, h0, h2, h4, h5, h8⟩ := hg.blk id l _ hl hM
            have hlive : l.live = true := by
              cases hlv : l.live with
              | true => rfl
              | false => have := h5 hlv; omega
            rcases hsl (by rw [h2, hv]) with ⟨hd, _⟩ | ⟨_, hcap, of, rfl, hof⟩
            · rw [hlive] at hd; cases hd
            · have hof := hof (by omega)
              subst hof
              have hzn : l.sz = n := by rw [h0, hz]
              refine ⟨.pointer (some ⟨l.b, start * l.sz + q.toNat * n, none⟩), ?_, fun w' _ => ?_⟩
              · refine .eptr _ _ _ _ l hl hvv _ (fun _ => ?_)
                rw [hzn, Nat.add_mul, Nat.add_zero]
              · have : q < (len : Int) := by omega
                simp [execOp, ho, Instr.indexAt, hi, asIntOf, underlying_run hu, hcx, hq0, this, sizeOf_run hn, Addr.add_none]
        · cases h
      · cases h
  · cases h

theorem index_str_ok (hs : SlotsRep w Γ s a.tmps) {t : TypeId} {x i : Operand} {y j : Opd} (ho : o.op = .index t x i)
    (hu : P.underlying t = some .string) (hy : opd x = some y) (hj : opd i = some j) (h : indexStrV (ev s y) (ev s j) = some v) : POK P w Γ a o v := by
  have hx := opd_rep hs hy
  have hi := opd_rep hs hj
  unfold indexStrV at h
  split at h
  · rename_i b k q hb hq
    rw [hq] at hi
    rw [hb] at hx
    have hi := rep_int hi
    have hx := rep_str hx
    cases hd : decide (0 ≤ q) with
    | false => simp [hd] at h
    | true =>
      have hq0 : 0 ≤ q := by simpa using hd
      simp only [hd, cond_true] at h
      split at h
      · rename_i u hu'
        simp only [Option.some.injEq] at h
        subst h
        refine ⟨_, .int .u8 _, fun w' _ => ?_⟩
        have hlt : q.toNat < b.length := (List.getElem?_eq_some_iff.1 hu').1
        have hget : (ByteArray.mk b.toArray)[q.toNat]? = some u := by
          have hsz : q.toNat < (ByteArray.mk b.toArray).size := by simpa [ByteArray.size] using hlt
          rw [getElem?_pos (ByteArray.mk b.toArray) q.toNat hsz]
          have : (ByteArray.mk b.toArray)[q.toNat]'hsz = b[q.toNat] := by rfl
          rw [this, ← hu', List.getElem?_eq_getElem hlt]
        simp [execOp, ho, Instr.index, hi, asIntOf, underlying_run hu, hx, hq0, hget]
      · cases h
  · cases h

theorem part_run {t : TypeId} {n off : Nat} {ag : Bool} {xs : List V} {cs : Array Value} (hn : sizeT P t = some n) (ha : aggT P t = some ag) (hr : RepL w Γ xs cs) (h : loadC n ag xs off = some v) :
    ∃ cv, Rep w Γ v cv ∧ ∀ w', (part t cs off).run P w' = .ok cv w' := by
  unfold loadC at h
  cases ag with
  | true =>
    obtain ⟨hd, rfl⟩ := cond_some h
    have hle : off + n ≤ xs.length := by simpa using hd
    refine ⟨.agg (cs.extract off (off + n)), .agg _ _ (by simp [hr.1]; omega) (fun j x hx => ?_), fun w' => by simp [part, isAgg_run ha, sizeOf_run hn]⟩
    have hj : j < n := by
      have := (List.getElem?_eq_some_iff.1 hx).1
      simp at this; omega
    rw [List.getElem?_take_of_lt hj, List.getElem?_drop] at hx
    have := hr.2 _ _ hx
    have hlt : off + j < cs.size := by rw [hr.1]; omega
    simpa [Array.getD_eq_getD_getElem?, hlt, show off + j < min (off + n) cs.size from by omega, Array.getElem?_extract, show j < min (off + n) cs.size - off from by omega] using this
  | false =>
    have := hr.2 _ _ h
    have hlt : off < cs.size := by rw [hr.1]; exact (List.getElem?_eq_some_iff.1 h).1
    exact ⟨_, this, fun w' => by simp [part, isAgg_run ha, hlt]⟩

theorem field_ok (hs : SlotsRep w Γ s a.tmps) {t : TypeId} {x : Operand} {f n : Nat} {ag : Bool} {fs : Array Field} {g : Field} {y : Opd} (ho : o.op = .field t x f)
    (hu : P.underlying t = some (.struct fs)) (hf : fs[f]? = some g) (hn : sizeT P g.type = some n) (ha : aggT P g.type = some ag) (hy : opd x = some y) (h : fieldV g.offset n ag (ev s y) = some v) : POK P w Γ a o v := by
  have hx := opd_rep hs hy
  unfold fieldV at h
  split at h
  · rename_i cells hc
    rw [hc] at hx
    generalize hcx : a.eval x = cx at hx
    cases hx with
    | agg _ cs hl hr =>
      obtain ⟨cv, h1, h2⟩ := part_run hn ha ⟨hl, hr⟩ h
      exact ⟨cv, h1, fun w' _ => by simp [execOp, ho, Instr.field, underlying_run hu, hf, hcx, asAgg, h2]⟩
  · cases h

theorem index_agg_ok (hs : SlotsRep w Γ s a.tmps) {t e : TypeId} {x i : Operand} {len n : Nat} {ag : Bool} {y j : Opd} (ho : o.op = .index t x i)
    (hu : P.underlying t = some (.array len e)) (hn : sizeT P e = some n) (ha : aggT P e = some ag) (hy : opd x = some y) (hj : opd i = some j) (h : indexAggV len n ag (ev s y) (ev s j) = some v) : POK P w Γ a o v := by
  have hx := opd_rep hs hy
  have hi := opd_rep hs hj
  unfold indexAggV at h
  split at h
  · rename_i cells k q hc hq
    rw [hc] at hx
    rw [hq] at hi
    have hi := rep_int hi
    cases hd : (decide (0 ≤ q) && decide (q < (len : Int))) with
    | false => simp [hd] at h
    | true =>
      simp only [hd, cond_true] at h
      simp only [Bool.and_eq_true, decide_eq_true_eq] at hd
      generalize hcx : a.eval x = cx at hx
      cases hx with
      | agg _ cs hl hr =>
        obtain ⟨cv, h1, h2⟩ := part_run hn ha ⟨hl, hr⟩ h
        exact ⟨cv, h1, fun w' _ => by simp [execOp, ho, Instr.index, hi, asIntOf, underlying_run hu, hcx, hd, sizeOf_run hn, h2]⟩
  · cases h

theorem nilCheck_ok (hs : SlotsRep w Γ s a.tmps) {x : Operand} {y : Opd} (ho : o.op = .nilCheck x) (hy : opd x = some y) (h : nilCheckV (ev s y) = some v) : POK P w Γ a o v := by
  have hx := opd_rep hs hy
  obtain ⟨hd, rfl⟩ := cond_some h
  refine ⟨_, hx, fun w' _ => ?_⟩
  generalize hcx : a.eval x = cx at hx
  generalize ev s y = z at hx hd
  cases hx <;> first | (cases hd; done) | (simp only [execOp, ho, hcx]; rfl)

theorem mkfn_ok (hs : SlotsRep w Γ s a.tmps) {f : Nat} {first caps : Array Operand} {ys : List Opd} (ho : o.op = .makeFunc (.func f) first caps) (hfirst : first.isEmpty = true) (hy : opdL caps.toList = some ys) : POK P w Γ a o (mkfnV f (evL s ys)) := by
  obtain ⟨hl, hr⟩ := opdL_rep hs hy
  have hf0 : first = #[] := by simpa using hfirst
  have hallP : ∀ xs : List V, allPure xs = true → ∀ (j : Nat) (x : V), xs[j]? = some x → x.isPure = true := by
    intro xs
    induction xs with
    | nil => intro _ j x hx; simp at hx
    | cons z zs ih =>
      intro hp j x hx
      simp only [allPure, Bool.and_eq_true] at hp
      cases j with
      | zero => simp at hx; exact hx ▸ hp.1
      | succ j => exact ih hp.2 j x (by simpa using hx)
  subst hf0
  refine ⟨.func (.func f) #[] (caps.map a.eval), ?_, fun w' _ => by simp only [execOp, ho, Instr.makeFunc]; simp⟩
  unfold mkfnV
  have e : (caps.toList.map a.eval).toArray = caps.map a.eval := Array.ext' (by simp)
  rw [e] at hl hr
  cases hp : allPure (evL s ys) with
  | true => exact .pfn _ _ _ hl (hallP _ hp) hr
  | false => exact .fn _ _ _ hl hr

theorem conv_ok (hs : SlotsRep w Γ s a.tmps) {src dst : TypeId} {x : Operand} {y : Opd} {k k' : IntKind} (ho : o.op = .convert src dst x) (hu : P.underlying src = some (.int k')) (hd : P.underlying dst = some (.int k)) (hy : opd x = some y)
    (h : convV k (ev s y) = some v) : POK P w Γ a o v := by
  have hx := opd_rep hs hy
  unfold convV at h
  split at h
  · rename_i q n hq
    rw [hq] at hx
    have hx := rep_int hx
    simp only [Option.some.injEq] at h
    subst h
    exact ⟨_, .int _ _, fun w' _ => by simp [execOp, ho, convert, underlying_run hu, underlying_run hd, hx, Conv.intToInt]⟩
  · cases h

theorem convStr_ok (hs : SlotsRep w Γ s a.tmps) {src dst : TypeId} {x : Operand} {y : Opd} (ho : o.op = .convert src dst x) (hu : P.underlying src = some .string) (hd : P.underlying dst = some .string) (hy : opd x = some y)
    (h : convStrV (ev s y) = some v) : POK P w Γ a o v := by
  have hx := opd_rep hs hy
  unfold convStrV at h
  split at h
  · rename_i b hq
    rw [hq] at hx
    have hx := rep_str hx
    simp only [Option.some.injEq] at h
    subst h
    exact ⟨_, .str _, fun w' _ => by simp [execOp, ho, convert, underlying_run hu, underlying_run hd, hx]⟩
  · cases h

theorem extract_ok (hs : SlotsRep w Γ s a.tmps) {x : Operand} {i : Nat} {y : Opd} (ho : o.op = .extract x i) (hy : opd x = some y) (h : extractV (ev s y) i = some v) : POK P w Γ a o v := by
  have hx := opd_rep hs hy
  unfold extractV at h
  split at h
  · rename_i vs hv
    rw [hv] at hx
    generalize hcx : a.eval x = cx at hx
    cases hx with
    | tuple _ cv hl hr =>
      have hlt : i < cv.size := by rw [hl]; exact (List.getElem?_eq_some_iff.1 h).1
      exact ⟨_, hr _ _ h, fun w' _ => by simp [execOp, ho, Instr.extract, hcx, hlt]⟩
  · cases h

theorem un_ok (hs : SlotsRep w Γ s a.tmps) {op : UnOp} {t : TypeId} {x : Operand} {y : Opd} (ho : o.op = .unOp op t x) (hy : opd x = some y) (h : unV op (ev s y) = some v) : POK P w Γ a o v := by
  have hx := opd_rep hs hy
  unfold unV at h
  split at h
  · rename_i k n hq
    rw [hq] at hx
    have hx := rep_int hx
    simp only [Option.some.injEq] at h
    subst h
    exact ⟨_, .int _ _, fun w' _ => by simp [execOp, ho, Op.unary, hx, Op.intArith]⟩
  · rename_i k n hq
    rw [hq] at hx
    have hx := rep_int hx
    simp only [bitsV, Option.some.injEq] at h
    subst h
    exact ⟨_, .int _ _, fun w' _ => by simp [execOp, ho, Op.unary, hx, Op.intBits]⟩
  · rename_i b hq
    rw [hq] at hx
    have hx := rep_bool hx rfl
    simp only [Option.some.injEq] at h
    subst h
    exact ⟨_, .bool _, fun w' _ => by simp [execOp, ho, Op.unary, hx]⟩
  · cases h
end
end Go.Vm

/- Operators. -/
namespace Go.Vm
open Go.RowKit (Below)

section
variable {P : Program} {w : World} {Γ : Env} {M : Mem} {s : Slots} {a : Act} {o : Oper} {v : V}

/-- An operator, on the values themselves. -/
def BinRun (P : Program) (op : BinOp) (t : TypeId) (cx cy r : Value) : Prop :=
  ∀ (w' : World) (x y : Operand), (do eqGuard op t x y cx cy; binOp op t cx cy : Sem Value).run P w' = .ok r w'

theorem beq_dec {α : Type} [BEq α] [LawfulBEq α] [DecidableEq α] (x y : α) : (x == y) = decide (x = y) := by
  rw [Bool.eq_iff_iff]; simp

theorem guard_other (op : BinOp) (t : TypeId) (x y : Operand) (cx cy : Value) (h1 : ¬ (cx matches .nilIface)) (h2 : ¬ (cx matches .agg _)) (w' : World) : (eqGuard op t x y cx cy).run P w' = .ok () w' := by
  cases op <;> cases cx <;> first | (exfalso; exact h1 rfl) | (exfalso; exact h2 rfl) | (simp [eqGuard]; done) | (cases cy <;> simp [eqGuard])

theorem bin_int_run {op : BinOp} {t : TypeId} {k k' : IntKind} {x y : Int} {ek : EqK} (h : binV op ek (.int k x) (.int k' y) = some v) : ∃ r, Rep w Γ v r ∧ BinRun P op t (.int k x) (.int k' y) r := by
  have g : ∀ (w' : World) (p q : Operand), (eqGuard op t p q (.int k x) (.int k' y)).run P w' = .ok () w' := fun w' p q => guard_other op t p q _ _ (by simp) (by simp) w'
  by_cases hk : k = k'
  · subst hk
    cases op
    case shl =>
      simp only [binV, shiftV] at h
      cases hd : decide (y < 0) with
      | true => simp [hd] at h
      | false =>
        simp only [hd, cond_false, Option.some.injEq] at h
        subst h
        refine ⟨_, .int _ _, fun w' p q => ?_⟩
        have : ¬ y < 0 := by simpa using hd
        simp [g, binOp, Op.shift, this]
    case shr =>
      simp only [binV, shiftV] at h
      cases hd : decide (y < 0) with
      | true => simp [hd] at h
      | false =>
        simp only [hd, cond_false, Option.some.injEq] at h
        subst h
        refine ⟨_, .int _ _, fun w' p q => ?_⟩
        have : ¬ y < 0 := by simpa using hd
        simp [g, binOp, Op.shift, this]
    case quo =>
      simp only [binV, binInt, decide_true, cond_true] at h
      cases hd : decide (y = 0) with
      | true => simp [hd] at h
      | false =>
        simp only [hd, cond_false, Option.some.injEq] at h
        subst h
        refine ⟨_, .int _ _, fun w' p q => ?_⟩
        have : ¬ y = 0 := by simpa using hd
        simp [g, binOp, Op.intDiv, this]
    case rem =>
      simp only [binV, binInt, decide_true, cond_true] at h
      cases hd : decide (y = 0) with
      | true => simp [hd] at h
      | false =>
        simp only [hd, cond_false, Option.some.injEq] at h
        subst h
        refine ⟨_, .int _ _, fun w' p q => ?_⟩
        have : ¬ y = 0 := by simpa using hd
        simp [g, binOp, Op.intDiv, this]
    case eql =>
      simp only [binV, binInt, decide_true, cond_true, Option.some.injEq] at h
      subst h
      exact ⟨_, .bool _, fun w' p q => by simp [g, binOp, Op.intCmp, beq_dec]⟩
    case neq =>
      simp only [binV, binInt, decide_true, cond_true, Option.some.injEq] at h
      subst h
      exact ⟨_, .bool _, fun w' p q => by simp [g, binOp, Op.intCmp, bne, beq_dec]⟩
    all_goals
      simp only [binV, binInt, bitsV, decide_true, cond_true, Option.some.injEq] at h
      subst h
      first
        | exact ⟨_, .bool _, fun w' p q => by simp [g, binOp, Op.intCmp]⟩
        | exact ⟨_, .int _ _, fun w' p q => by simp [g, binOp, Op.intArith, Op.intBits]⟩
  · cases op
    case shl =>
      simp only [binV, shiftV] at h
      cases hd : decide (y < 0) with
      | true => simp [hd] at h
      | false =>
        simp only [hd, cond_false, Option.some.injEq] at h
        subst h
        refine ⟨_, .int _ _, fun w' p q => ?_⟩
        have : ¬ y < 0 := by simpa using hd
        simp [g, binOp, Op.shift, this]
    case shr =>
      simp only [binV, shiftV] at h
      cases hd : decide (y < 0) with
      | true => simp [hd] at h
      | false =>
        simp only [hd, cond_false, Option.some.injEq] at h
        subst h
        refine ⟨_, .int _ _, fun w' p q => ?_⟩
        have : ¬ y < 0 := by simpa using hd
        simp [g, binOp, Op.shift, this]
    all_goals simp [binV, hk] at h

theorem bin_str_run {op : BinOp} {t : TypeId} {x y : List UInt8} {ek : EqK} (h : binV op ek (.str x) (.str y) = some v) : ∃ r, Rep w Γ v r ∧ BinRun P op t (.string ⟨x.toArray⟩) (.string ⟨y.toArray⟩) r := by
  have g : ∀ (w' : World) (p q : Operand), (eqGuard op t p q (.string ⟨x.toArray⟩) (.string ⟨y.toArray⟩)).run P w' = .ok () w' := fun w' p q => guard_other op t p q _ _ (by simp) (by simp) w'
  simp only [binV] at h
  cases op <;> simp only [binStr, Option.some.injEq, reduceCtorEq] at h
  case add =>
    obtain ⟨hd, rfl⟩ := cond_some h
    have hle : ((x.length + y.length : Nat) : Int) ≤ 9223372036854775807 := by simpa using hd
    refine ⟨.string ⟨(x ++ y).toArray⟩, .str _, fun w' p q => ?_⟩
    have e : (ByteArray.mk x.toArray) ++ (ByteArray.mk y.toArray) = ⟨(x ++ y).toArray⟩ := by
      apply ByteArray.ext
      simp
    have e3 : ((ByteArray.mk x.toArray).size : Int) + ((ByteArray.mk y.toArray).size : Int) ≤ 9223372036854775807 := by
      simp only [ByteArray.size]; simp; omega
    simp [g, binOp, Op.stringOp, e, e3]
  all_goals
    subst h
    exact ⟨_, .bool _, fun w' p q => by simp [g, binOp, Op.stringOp, beq_dec]⟩

theorem equal_run (t : TypeId) (x y : Value) (w' : World) : (Op.equal t x y).run P w' = (Op.equalIn (9999 + 1) t x y).run P w' := rfl

theorem eq_run {op : BinOp} {t : TypeId} {cx cy : Value} {b : Bool} (hop : op = .eql ∨ op = .neq)
    (hg : ∀ (w' : World) (p q : Operand), (eqGuard op t p q cx cy).run P w' = .ok () w') (he : ∀ w' : World, (Op.equalIn (9999 + 1) t cx cy).run P w' = .ok b w')
    (hb : binOp .eql t cx cy = (do pure (.bool (← Op.equal t cx cy)))) (hb' : binOp .neq t cx cy = (do pure (.bool (!(← Op.equal t cx cy))))) :
    BinRun P op t cx cy (.bool (if op = .eql then b else !b)) := fun w' p q => by
  rcases hop with rfl | rfl
  · rw [hb]; simp [hg, equal_run, he]
  · rw [hb']; simp [hg, equal_run, he]

theorem guard_agg (op : BinOp) (t : TypeId) (x y : Operand) (xs ys : Array Value) (hm : P.eqGuardType P.depth t = false) (w' : World) : (eqGuard op t x y (.agg xs) (.agg ys)).run P w' = .ok () w' := by
  cases op <;> simp [eqGuard, hm]

theorem kind_eq {f : TypeId} {c : CK} (hf : kindT P f = some c) {x y : V} {cx cy : Value} (hx : Rep w Γ x cx) (hy : Rep w Γ y cy) {b : Bool} (h : cellEq c x y = some b) (d : Nat) (w' : World) : (Op.equalIn (d + 1) f cx cy).run P w' = .ok b w' := by
  unfold cellEq at h
  split at h
  · rename_i k m k' n
    obtain ⟨hk, rfl⟩ := cond_some h
    have hk : k = k' := by simpa using hk
    subst hk
    have hx := rep_int hx
    have hy := rep_int hy
    subst hx hy
    unfold kindT at hf
    split at hf <;> simp only [Option.some.injEq, reduceCtorEq] at hf
    rename_i hu
    rw [run_equalIn_int w' d f k _ m n hu, beq_dec]
  · rename_i m n
    simp only [Option.some.injEq] at h
    subst h
    have hx := rep_bool hx rfl
    have hy := rep_bool hy rfl
    subst hx hy
    unfold kindT at hf
    split at hf <;> simp only [Option.some.injEq, reduceCtorEq] at hf
    rename_i hu
    rw [run_equalIn_bool' w' d f m n hu, beq_dec]
  · rename_i m n
    simp only [Option.some.injEq] at h
    subst h
    have hx := rep_str hx
    have hy := rep_str hy
    subst hx hy
    unfold kindT at hf
    split at hf <;> simp only [Option.some.injEq, reduceCtorEq] at hf
    rename_i hu
    rw [run_equalIn_string w' d f _ _ hu]
    simp [beq_dec]
  · cases h

theorem part_one {t : TypeId} (ha : aggT P t = some false) {xs : List V} {cs : Array Value} (hr : RepL w Γ xs cs) {n : Nat} {x : V} (hx : xs[n]? = some x) (w' : World) : (part t cs n).run P w' = .ok (cs.getD n Go.undef) w' := by
  have hlt : n < cs.size := by rw [hr.1]; exact (List.getElem?_eq_some_iff.1 hx).1
  simp [part, isAgg_run ha, hlt]

theorem cellsEq_cons {c : CK} {cs : List CK} {xs ys : List V} {b : Bool} (h : cellsEq (c :: cs) xs ys = some b) :
    ∃ x xs' y ys' b1 b2, xs = x :: xs' ∧ ys = y :: ys' ∧ cellEq c x y = some b1 ∧ cellsEq cs xs' ys' = some b2 ∧ b = (b1 && b2) := by
  unfold cellsEq at h
  split at h
  · rename_i heq; cases heq
  · rename_i c' cs' x xs' y ys' heq
    cases heq
    split at h
    · rename_i b1 b2 h1 h2
      simp only [Option.some.injEq] at h
      exact ⟨_, _, _, _, b1, b2, rfl, rfl, h1, h2, h.symm⟩
    · cases h
  · cases h

theorem fields_eq (d : Nat) {xs ys : List V} {cx cy : Array Value} (hx : RepL w Γ xs cx) (hy : RepL w Γ ys cy) (w' : World) : ∀ (fs : List Field) (n : Nat) (ks : List CK) (b : Bool), scalarFields P n fs = some ks → cellsEq ks (xs.drop n) (ys.drop n) = some b →
    (Op.eqFields (d + 1) cx cy fs).run P w' = .ok b w'
  | [], n, ks, b, hf, h => by
    simp only [scalarFields, Option.some.injEq] at hf
    subst hf
    simp only [cellsEq, Option.some.injEq] at h
    subst h
    simp [Op.eqFields]
  | f :: fs, n, ks, b, hf, h => by
    simp only [scalarFields] at hf
    split at hf
    · rename_i k ks' hk hag hfs
      split at hf <;> simp only [Option.some.injEq, reduceCtorEq] at hf
      rename_i hname
      simp only [Bool.and_eq_true, bne_iff_ne, ne_eq, beq_iff_eq] at hname
      subst hf
      obtain ⟨x, xs', y, ys', b1, b2, e1, e2, h1, h2, rfl⟩ := cellsEq_cons h
      have g1 : xs[n]? = some x := by have := congrArg (·[0]?) e1; simpa using this
      have g2 : ys[n]? = some y := by have := congrArg (·[0]?) e2; simpa using this
      have d1 : xs.drop (n + 1) = xs' := by have := congrArg (List.drop 1) e1; simpa [Nat.add_comm] using this
      have d2 : ys.drop (n + 1) = ys' := by have := congrArg (List.drop 1) e2; simpa [Nat.add_comm] using this
      have ih := fields_eq d hx hy w' fs (n + 1) ks' b2 hfs (by rw [d1, d2]; exact h2)
      have hk' := kind_eq hk (hx.2 _ _ g1) (hy.2 _ _ g2) h1 d w'
      simp only [Op.eqFields, hname, ne_eq, not_false_eq_true, if_true, Sem.run_bind, part_one hag hx g1, part_one hag hy g2, Result.andThen_ok, hk', Sem.run_ite, ih]
      cases b1 <;> simp
    · cases hf

theorem eq_struct {t : TypeId} {fs : Array Field} (hu : P.underlying t = some (.struct fs)) (hp : P.stoodInHeld t = false) {ks : List CK} (hf : scalarFields P 0 fs.toList = some ks) {xs ys : List V} {cx cy : Array Value} (hx : RepL w Γ xs cx) (hy : RepL w Γ ys cy)
    {b : Bool} (h : cellsEq ks xs ys = some b) (w' : World) : (Op.equalIn (9999 + 1) t (.agg cx) (.agg cy)).run P w' = .ok b w' := by
  have e : P.fieldsOf t = fs := by simp [Program.fieldsOf, hu]
  rw [run_equalIn_struct w' 9999 t cx cy (by rw [e]; exact hu) hp, e]
  exact fields_eq 9998 hx hy w' fs.toList 0 ks b hf (by simpa using h)


theorem eq_array_aux {e : TypeId} {k : CK} (hk : kindT P e = some k) (hag : aggT P e = some false) (d : Nat) {xs ys : List V} {cx cy : Array Value} (hx : RepL w Γ xs cx) (hy : RepL w Γ ys cy) (w' : World) :
    ∀ (m n : Nat) (b : Bool), cellsEq (List.replicate m k) (xs.drop n) (ys.drop n) = some b →
    ((forIn (List.range' n m) ((none, ()) : Option Bool × Unit) fun i r => do
        if !(← Op.equalIn (d + 1) e (← part e cx (i * 1)) (← part e cy (i * 1))) then pure (ForInStep.done (some false, ()))
        else pure (ForInStep.yield (none, ())) : Sem (Option Bool × Unit))).run P w' = .ok (if b then (none, ()) else (some false, ())) w'
  | 0, n, b, h => by
    simp only [List.replicate_zero, cellsEq, Option.some.injEq] at h
    subst h
    simp
  | m + 1, n, b, h => by
    obtain ⟨x, xs', y, ys', b1, b2, e1, e2, h1, h2, rfl⟩ := cellsEq_cons (by rw [← List.replicate_succ]; exact h)
    have g1 : xs[n]? = some x := by have := congrArg (·[0]?) e1; simpa using this
    have g2 : ys[n]? = some y := by have := congrArg (·[0]?) e2; simpa using this
    have d1 : xs.drop (n + 1) = xs' := by have := congrArg (List.drop 1) e1; simpa [Nat.add_comm] using this
    have d2 : ys.drop (n + 1) = ys' := by have := congrArg (List.drop 1) e2; simpa [Nat.add_comm] using this
    have ih := eq_array_aux hk hag d hx hy w' m (n + 1) b2 (by rw [d1, d2]; exact h2)
    have hk' := kind_eq hk (hx.2 _ _ g1) (hy.2 _ _ g2) h1 d w'
    rw [List.range'_succ, List.forIn_cons]
    simp only [Sem.run_bind, Nat.mul_one, part_one hag hx g1, part_one hag hy g2, Result.andThen_ok, hk', Sem.run_ite]
    cases b1
    · simp
    · simpa using ih

theorem eq_array_d (d : Nat) {t e : TypeId} {len : Nat} (hu : P.underlying t = some (.array len e)) {k : CK} (hk : kindT P e = some k) (hag : aggT P e = some false) (hn : sizeT P e = some 1) {xs ys : List V} {cx cy : Array Value} (hx : RepL w Γ xs cx) (hy : RepL w Γ ys cy)
    {b : Bool} (h : cellsEq (List.replicate len k) xs ys = some b) (w' : World) : (Op.equalIn (d + 1 + 1) t (.agg cx) (.agg cy)).run P w' = .ok b w' := by
  have := eq_array_aux hk hag d hx hy w' len 0 b (by simpa using h)
  rw [Op.equalIn]
  simp only [Sem.run_bind, underlying_run hu, Result.andThen_ok, sizeOf_run hn]
  rw [Std.Legacy.Range.forIn_eq_forIn_range']
  have e0 : [:len].size = len := by simp [Std.Legacy.Range.size]
  rw [e0]
  show ((Sem.run P (forIn (List.range' 0 len) (none, ()) _) w').andThen _) = _
  rw [this]
  cases b <;> simp

theorem eq_array {t e : TypeId} {len : Nat} (hu : P.underlying t = some (.array len e)) {k : CK} (hk : kindT P e = some k) (hag : aggT P e = some false) (hn : sizeT P e = some 1) {xs ys : List V} {cx cy : Array Value} (hx : RepL w Γ xs cx) (hy : RepL w Γ ys cy)
    {b : Bool} (h : cellsEq (List.replicate len k) xs ys = some b) (w' : World) : (Op.equalIn (9999 + 1) t (.agg cx) (.agg cy)).run P w' = .ok b w' := eq_array_d 9998 hu hk hag hn hx hy h w'


theorem nilcap_rep {r : List (List V)} {cx : Value} (hx : Rep w Γ (.slice r .nil) cx) : cx = .slice none 0 0 := by
  cases hx with
  | sliceNil => rfl
  | sliceE _ hc => exact absurd rfl hc
  | slice _ _ b o sz cap cv hc => exact absurd rfl hc

theorem notnil_rep {r : List (List V)} {c : Cap} {cx : Value} (hx : Rep w Γ (.slice r c) cx) (h : c = .full ∨ c = .any ∨ r ≠ []) : ∃ p n d, cx = .slice (some p) n d := by
  cases hx with
  | sliceNil _ hc =>
    rcases h with h | h | h
    · subst h; simp at hc
    · subst h; simp at hc
    · exact absurd rfl h
  | sliceE => exact ⟨_, _, _, rfl⟩
  | slice _ _ b o sz cap cv hc => exact ⟨_, _, _, rfl⟩

theorem sliceNil_rep {y : V} {cy : Value} (hy : Rep w Γ y cy) {b : Bool} (h : sliceNil y = some b) : ∃ p n c, cy = .slice p n c ∧ p.isNone = b := by
  unfold sliceNil at h
  split at h <;> simp only [Option.some.injEq, reduceCtorEq] at h <;> subst h
  · exact ⟨_, _, _, nilcap_rep hy, rfl⟩
  · obtain ⟨p, n, d, e⟩ := notnil_rep hy (.inl rfl); exact ⟨_, _, _, e, rfl⟩
  · obtain ⟨p, n, d, e⟩ := notnil_rep hy (.inr (.inl rfl)); exact ⟨_, _, _, e, rfl⟩
  · obtain ⟨p, n, d, e⟩ := notnil_rep hy (.inr (.inr (by simp))); exact ⟨_, _, _, e, rfl⟩

theorem eqV_run {t : TypeId} {x y : V} {cx cy : Value} (hx : Rep w Γ x cx) (hy : Rep w Γ y cy) {b : Bool} (h : eqV x y (eqKind P t) = some b) {op : BinOp} (hop : op = .eql ∨ op = .neq) :
    BinRun P op t cx cy (.bool (if op = .eql then b else !b)) := by
  unfold eqKind at h
  split at h
  · rename_i hu
    simp only [eqV] at h
    split at h <;> simp only [Option.some.injEq, reduceCtorEq] at h
    rename_i m n
    subst h
    have hx := rep_bool hx rfl
    have hy := rep_bool hy rfl
    subst hx hy
    refine eq_run hop (fun w' p q => guard_other op t p q _ _ (by simp) (by simp) w') (fun w' => ?_) rfl rfl
    rw [run_equalIn_bool' w' 9999 t m n hu, beq_dec]
  · rename_i e hu
    simp only [eqV] at h
    have key : ∀ w' : World, (Op.equalIn (9999 + 1) t cx cy).run P w' = .ok b w' := by
      intro w'
      split at h <;> simp only [Option.some.injEq, reduceCtorEq] at h <;> subst h <;> cases hx <;> cases hy <;> (rw [Op.equalIn]; simp [underlying_run hu])
    refine eq_run hop (fun w' p q => guard_other op t p q _ _ ?_ ?_ w') key ?_ ?_
    all_goals (split at h <;> simp only [Option.some.injEq, reduceCtorEq] at h <;> cases hx <;> cases hy <;> first | rfl | simp)
  · rename_i e hu
    simp only [eqV] at h
    have hv : ∃ p n c q m d, cx = .slice p n c ∧ cy = .slice q m d ∧ ((p = none ∧ b = q.isNone) ∨ (q = none ∧ b = p.isNone)) := by
      split at h
      · obtain ⟨q, m, d, e1, e2⟩ := sliceNil_rep hy h
        exact ⟨none, 0, 0, q, m, d, nilcap_rep hx, e1, .inl ⟨rfl, e2.symm⟩⟩
      · obtain ⟨q, m, d, e1, e2⟩ := sliceNil_rep hx h
        exact ⟨q, m, d, none, 0, 0, e1, nilcap_rep hy, .inr ⟨rfl, e2.symm⟩⟩
      · cases h
    obtain ⟨p, n, c, q, m, d, rfl, rfl, hb⟩ := hv
    refine eq_run hop (fun w' p q => guard_other op t p q _ _ (by simp) (by simp) w') (fun w' => ?_) rfl rfl
    rw [Op.equalIn]
    rcases hb with ⟨rfl, rfl⟩ | ⟨rfl, rfl⟩
    · simp [underlying_run hu]
    · cases p <;> simp [underlying_run hu]
  · rename_i k e hu
    simp only [eqV] at h
    have key : ∀ w' : World, (Op.equalIn (9999 + 1) t cx cy).run P w' = .ok b w' := by
      intro w'
      split at h <;> simp only [Option.some.injEq, reduceCtorEq] at h <;> subst h <;> cases hx <;> cases hy <;> (rw [Op.equalIn]; simp [underlying_run hu])
    refine eq_run hop (fun w' p q => guard_other op t p q _ _ ?_ ?_ w') key ?_ ?_
    all_goals (split at h <;> simp only [Option.some.injEq, reduceCtorEq] at h <;> cases hx <;> cases hy <;> first | rfl | simp)
  · rename_i ps rs vr hu
    simp only [eqV] at h
    have key : ∀ w' : World, (Op.equalIn (9999 + 1) t cx cy).run P w' = .ok b w' := by
      intro w'
      split at h <;> simp only [Option.some.injEq, reduceCtorEq] at h <;> subst h <;> cases hx <;> cases hy <;> (rw [Op.equalIn]; simp [underlying_run hu])
    refine eq_run hop (fun w' p q => guard_other op t p q _ _ ?_ ?_ w') key ?_ ?_
    all_goals (split at h <;> simp only [Option.some.injEq, reduceCtorEq] at h <;> cases hx <;> cases hy <;> first | rfl | simp)
  · rename_i fs hu
    split at h
    · rename_i ks hks
      split at h
      · rename_i hc
        simp only [Bool.and_eq_true, Bool.not_eq_true'] at hc
        simp only [eqV] at h
        split at h
        · cases hx with
          | agg _ cx hlx hrx =>
            cases hy with
            | agg _ cy hly hry => exact eq_run hop (fun w' p q => guard_agg op t p q _ _ hc.2 w') (fun w' => eq_struct hu hc.1 hks ⟨hlx, hrx⟩ ⟨hly, hry⟩ h w') rfl rfl
        · cases h
      · simp [eqV] at h
    · simp [eqV] at h
  · rename_i n e hu
    split at h
    · rename_i k hk hag
      split at h
      · rename_i hc
        simp only [Bool.and_eq_true, Bool.not_eq_true', beq_iff_eq] at hc
        simp only [eqV] at h
        split at h
        · cases hx with
          | agg _ cx hlx hrx =>
            cases hy with
            | agg _ cy hly hry => exact eq_run hop (fun w' p q => guard_agg op t p q _ _ hc.2 w') (fun w' => eq_array hu hk hag hc.1 ⟨hlx, hrx⟩ ⟨hly, hry⟩ h w') rfl rfl
        · cases h
      · simp [eqV] at h
    · simp [eqV] at h
  · simp [eqV] at h

end
end Go.Vm

/- Operators in place; slices, lengths, aggregates, maps that are read. -/
namespace Go.Vm
open Go.RowKit (Below)

section
variable {P : Program} {w : World} {Γ : Env} {M : Mem} {s : Slots} {a : Act} {o : Oper} {v : V}

theorem binV_other {op : BinOp} {ek : EqK} {x y : V} (h1 : ∀ k n k' m, ¬ (x = .int k n ∧ y = .int k' m)) (h2 : ∀ l m, ¬ (x = .str l ∧ y = .str m)) :
    binV op ek x y = (match op with | .eql => (eqV x y ek).map .bool | .neq => (eqV x y ek).map fun b => .bool !b | _ => none) := by
  unfold binV
  split
  · exact absurd ⟨rfl, rfl⟩ (h1 _ _ _ _)
  · exact absurd ⟨rfl, rfl⟩ (h2 _ _)
  · cases op <;> rfl

theorem bin_ok (hs : SlotsRep w Γ s a.tmps) {op : BinOp} {t t' : TypeId} {x y : Operand} {x' y' : Opd} (ho : o.op = .binOp op t x y t') (hx : opd x = some x') (hy : opd y = some y')
    (h : binV op (eqKind P t) (ev s x') (ev s y') = some v) : POK P w Γ a o v := by
  have rx := opd_rep hs hx
  have ry := opd_rep hs hy
  suffices hr : ∃ r, Rep w Γ v r ∧ BinRun P op t (a.eval x) (a.eval y) r by
    obtain ⟨r, h1, h2⟩ := hr
    refine ⟨r, h1, fun w' _ => ?_⟩
    have := h2 w' x y
    simp only [execOp, ho, Sem.run_bind] at this ⊢
    rw [this]
    simp
  generalize a.eval x = cx at rx
  generalize a.eval y = cy at ry
  generalize ev s x' = p at *
  generalize ev s y' = q at *
  by_cases h1 : ∃ k n k' m, p = .int k n ∧ q = .int k' m
  · obtain ⟨k, n, k', m, rfl, rfl⟩ := h1
    have := rep_int rx
    have := rep_int ry
    subst_vars
    exact bin_int_run h
  by_cases h2 : ∃ l m, p = .str l ∧ q = .str m
  · obtain ⟨l, m, rfl, rfl⟩ := h2
    have := rep_str rx
    have := rep_str ry
    subst_vars
    exact bin_str_run h
  rw [binV_other (fun k n k' m hh => h1 ⟨k, n, k', m, hh⟩) (fun l m hh => h2 ⟨l, m, hh⟩)] at h
  cases op <;> simp only [reduceCtorEq] at h
  · cases he : eqV p q (eqKind P t) with
    | none => simp [he] at h
    | some b =>
      simp only [he, Option.map_some, Option.some.injEq] at h
      subst h
      exact ⟨_, .bool _, by simpa using eqV_run rx ry he (.inl rfl)⟩
  · cases he : eqV p q (eqKind P t) with
    | none => simp [he] at h
    | some b =>
      simp only [he, Option.map_some, Option.some.injEq] at h
      subst h
      exact ⟨_, .bool _, by simpa using eqV_run rx ry he (.inr rfl)⟩

theorem minmax_ok (hs : SlotsRep w Γ s a.tmps) {mx : Bool} {x y : Operand} {x' y' : Opd} {tys : Array TypeId} (ho : o.op = .call ⟨.builtin (if mx then .max else .min), #[x, y], tys⟩) (hx : opd x = some x') (hy : opd y = some y')
    (h : minmaxV mx (ev s x') (ev s y') = some v) : POK P w Γ a o v := by
  have rx := opd_rep hs hx
  have ry := opd_rep hs hy
  unfold minmaxV at h
  split at h
  · rename_i k m k' n e1 e2
    rw [e1] at rx
    rw [e2] at ry
    have rx := rep_int rx
    have ry := rep_int ry
    cases hk : decide (k = k') with
    | false => simp [hk] at h
    | true =>
      simp only [hk, cond_true] at h
      cases mx with
      | true =>
        simp only [Option.some.injEq] at h
        subst h
        exact ⟨_, .int _ _, fun w' _ => by simp [execOp, ho, resolve, invoke, builtin, rx, ry, Builtin.max_, Builtin.max2]⟩
      | false =>
        simp only [Option.some.injEq] at h
        subst h
        exact ⟨_, .int _ _, fun w' _ => by simp [execOp, ho, resolve, invoke, builtin, rx, ry, Builtin.min_, Builtin.min2]⟩
  · cases h

theorem lenSl_ok (hg : Good w Γ M) (hs : SlotsRep w Γ s a.tmps) {x : Operand} {x' : Opd} {t e : TypeId} (ho : o.op = .call ⟨.builtin .len, #[x], #[t]⟩) (hu : P.underlying t = some (.slice e)) (hx : opd x = some x')
    (h : lenV (ev s x') M = some v) : POK P w Γ a o v := by
  have rx := opd_rep hs hx
  have key : ∀ p n c, a.eval x = .slice p n c → v = .int .i64 n → POK P w Γ a o v := fun p n c hc hv => by
    subst hv
    exact ⟨_, .int _ _, fun w' _ => by simp [execOp, ho, resolve, invoke, builtin, hc, Builtin.len_, underlying_run hu, goInt]⟩
  unfold lenV at h
  split at h
  · rename_i rows c hr
    simp only [Option.some.injEq] at h
    subst h
    rw [hr] at rx
    generalize hc : a.eval x = cx at rx
    cases rx with
    | sliceNil => exact key _ _ _ hc rfl
    | sliceE => exact key _ _ _ hc rfl
    | slice => exact key _ _ _ hc rfl
  · rename_i id ver start len hr
    rw [hr] at rx
    split at h
    · rename_i z rows vv fz hM
      obtain ⟨hb, rfl⟩ := cond_some h
      have hb : vv = ver := by simpa using hb
      generalize hc : a.eval x = cx at rx
      cases rx with
      | mslice _ _ _ _ l hl hvv _ hsl _ =>
        obtain ⟨h1, h0, h2, _⟩ := hg.blk id l _ hl hM
        rcases hsl (by rw [h2, hb]) with ⟨_, rfl, rfl⟩ | ⟨_, _, of, rfl, _⟩
        · exact key _ _ _ hc rfl
        · exact key _ _ _ hc rfl
    · rename_i cells vv hM
      obtain ⟨hb, rfl⟩ := cond_some h
      have hb : vv = ver := by simpa using hb
      generalize hc : a.eval x = cx at rx
      cases rx with
      | mslice _ _ _ _ l hl hvv _ hsl _ =>
        obtain ⟨h1, h0, h2, _⟩ := hg.blk id l _ hl hM
        rcases hsl (by rw [h2, hb]) with ⟨_, rfl, rfl⟩ | ⟨_, _, of, rfl, _⟩
        · exact key _ _ _ hc rfl
        · exact key _ _ _ hc rfl
    · cases h
  · cases h

theorem lenStr_ok (hs : SlotsRep w Γ s a.tmps) {x : Operand} {x' : Opd} {t : TypeId} (ho : o.op = .call ⟨.builtin .len, #[x], #[t]⟩) (hu : P.underlying t = some .string) (hx : opd x = some x')
    (h : lenStrV (ev s x') = some v) : POK P w Γ a o v := by
  have rx := opd_rep hs hx
  unfold lenStrV at h
  split at h
  · rename_i b hb
    rw [hb] at rx
    have rx := rep_str rx
    simp only [Option.some.injEq] at h
    subst h
    have e : (ByteArray.mk b.toArray).size = b.length := by show b.toArray.size = _; simp
    exact ⟨_, .int _ _, fun w' _ => by simp [execOp, ho, resolve, invoke, builtin, rx, Builtin.len_, underlying_run hu, goInt, e]⟩
  · cases h

theorem lenConst_ok {x : Operand} {t e : TypeId} {n : Nat} (ho : o.op = .call ⟨.builtin .len, #[x], #[t]⟩)
    (hu : P.underlying t = some (.array n e) ∨ ∃ t', P.underlying t = some (.pointer t') ∧ P.underlying t' = some (.array n e)) : POK P w Γ a o (.int .i64 n) := by
  refine ⟨_, .int _ _, fun w' _ => ?_⟩
  rcases hu with hu | ⟨t', hu, hu'⟩
  · simp [execOp, ho, resolve, invoke, builtin, Builtin.len_, underlying_run hu, goInt]
  · simp [execOp, ho, resolve, invoke, builtin, Builtin.len_, underlying_run hu, underlying_run hu', goInt]

theorem sliceBound_run {k : IntKind} {i : Int} {y : Nat} (h0 : 0 ≤ i) (h1 : i.toNat ≤ y) (code : BoundsCode) (w' : World) : (Instr.sliceBound (.int k i) y code).run P w' = .ok i.toNat w' := by
  have : i ≤ (y : Int) := by omega
  simp [Instr.sliceBound, asIntOf, h0, this]

theorem boundV_some {d n : Nat} {x : Option V} (h : boundV d x = some n) : (x = none ∧ n = d) ∨ ∃ k i, x = some (.int k i) ∧ 0 ≤ i ∧ n = i.toNat := by
  unfold boundV at h
  split at h
  · simp only [Option.some.injEq] at h; exact .inl ⟨rfl, h.symm⟩
  · obtain ⟨hd, rfl⟩ := cond_some h
    exact .inr ⟨_, _, rfl, by simpa using hd, rfl⟩
  · cases h

/-- What an operand that may lack stands for. -/
theorem opdO_bound (hs : SlotsRep w Γ s a.tmps) {x : Option Operand} {y : Option Opd} (h : opdO x = some y) {d n : Nat} (hb : boundV d (evO s y) = some n) :
    (x = none ∧ n = d) ∨ ∃ x' k i, x = some x' ∧ a.eval x' = .int k i ∧ 0 ≤ i ∧ n = i.toNat := by
  cases x with
  | none =>
    simp only [opdO, Option.some.injEq] at h
    subst h
    rcases boundV_some hb with ⟨_, e⟩ | ⟨k, i, e, _⟩
    · exact .inl ⟨rfl, e⟩
    · simp [evO] at e
  | some x' =>
    simp only [opdO, Option.map_eq_some_iff] at h
    obtain ⟨y', hy, rfl⟩ := h
    rcases boundV_some hb with ⟨e, _⟩ | ⟨k, i, e, h0, e2⟩
    · simp [evO] at e
    · simp only [evO, Option.some.injEq] at e
      have := opd_rep hs hy
      rw [e] at this
      exact .inr ⟨x', k, i, rfl, rep_int this, h0, e2⟩

theorem sliceBounds_run (hs : SlotsRep w Γ s a.tmps) {lo hi mx : Option Operand} {lo' hi' mx' : Option Opd} (hlo : opdO lo = some lo') (hhi : opdO hi = some hi') (hmx : opdO mx = some mx') (hmh : mx = none ∨ hi ≠ none)
    {b : Bool} {len cap l h m : Nat} (e1 : boundV 0 (evO s lo') = some l) (e2 : boundV len (evO s hi') = some h) (e3 : boundV cap (evO s mx') = some m) (h1 : l ≤ h) (h2 : h ≤ m) (h3 : m ≤ cap) (w' : World) :
    (Instr.sliceBounds b len cap (lo.map a.eval) (hi.map a.eval) (mx.map a.eval)).run P w' = .ok (l, h, m) w' := by
  rcases opdO_bound hs hmx e3 with ⟨rfl, rfl⟩ | ⟨x3, k3, i3, rfl, v3, p3, rfl⟩ <;> rcases opdO_bound hs hhi e2 with ⟨rfl, rfl⟩ | ⟨x2, k2, i2, rfl, v2, p2, rfl⟩ <;> rcases opdO_bound hs hlo e1 with ⟨rfl, rfl⟩ | ⟨x1, k1, i1, rfl, v1, p1, rfl⟩
  all_goals first
    | (exfalso; rcases hmh with hmh | hmh <;> simp at hmh; done)
    | simp [Instr.sliceBounds, *, sliceBound_run]

theorem sliceStr_ok (hs : SlotsRep w Γ s a.tmps) {t : TypeId} {x : Operand} {lo hi : Option Operand} {x' : Opd} {lo' hi' : Option Opd} (ho : o.op = .slice t x lo hi none) (hu : P.underlying t = some .string) (hx : opd x = some x')
    (hlo : opdO lo = some lo') (hhi : opdO hi = some hi') (h : sliceStrV (ev s x') (evO s lo') (evO s hi') = some v) : POK P w Γ a o v := by
  have rx := opd_rep hs hx
  unfold sliceStrV at h
  split at h
  · rename_i b hb
    rw [hb] at rx
    have rx := rep_str rx
    split at h
    · rename_i l hh e1 e2
      obtain ⟨hd, rfl⟩ := cond_some h
      simp only [Bool.and_eq_true, decide_eq_true_eq] at hd
      have esz : (ByteArray.mk b.toArray).size = b.length := by show b.toArray.size = _; simp
      refine ⟨_, .str _, fun w' _ => ?_⟩
      have hrun := sliceBounds_run (P := P) (b := false) hs hlo hhi (mx := none) (mx' := none) rfl (.inl rfl) e1 e2 (e3 := (rfl : boundV b.length (evO s none) = some b.length)) hd.1 hd.2 (Nat.le_refl _) w'
      have hex : (ByteArray.mk b.toArray).extract l hh = ⟨((b.drop l).take (hh - l)).toArray⟩ := by
        apply ByteArray.ext
        simp [ByteArray.data_extract]
      simp only [Option.map_none] at hrun
      simp [execOp, ho, Instr.sliceAt, Instr.slice, underlying_run hu, rx, esz, hrun, hex]
    · cases h
  · cases h


theorem headLen_get {n : Nat} {rows : List (List V)} (h : headLen n rows = true) {sz : Nat} (hsz : ∀ (i : Nat) (r : List V), rows[i]? = some r → r.length = sz) : rows = [] ∨ sz = n := by
  cases rows with
  | nil => exact .inl rfl
  | cons r rs =>
    have h1 := hsz 0 r rfl
    simp only [headLen, beq_iff_eq] at h
    exact .inr (by omega)

theorem slice_ok (hg : Good w Γ M) (hs : SlotsRep w Γ s a.tmps) {t e : TypeId} {n : Nat} {x : Operand} {lo hi mx : Option Operand} {x' : Opd} {lo' hi' mx' : Option Opd} (ho : o.op = .slice t x lo hi mx) (hu : P.underlying t = some (.slice e)) (hn : sizeT P e = some n)
    (hx : opd x = some x') (hlo : opdO lo = some lo') (hhi : opdO hi = some hi') (hmx : opdO mx = some mx') (hmh : mx = none ∨ hi ≠ none)
    (h : sliceV n (ev s x') (evO s lo') (evO s hi') (evO s mx') M = some v) : POK P w Γ a o v := by
  have rx := opd_rep hs hx
  unfold sliceV at h
  split at h
  · rename_i rows c hr
    rw [hr] at rx
    split at h
    · rename_i l hh m e1 e2 e3
      obtain ⟨hd, rfl⟩ := cond_some h
      simp only [Bool.and_eq_true, decide_eq_true_eq] at hd
      obtain ⟨⟨⟨hl0, hlh⟩, hhm⟩, hmr⟩ := hd
      generalize hcx : a.eval x = cx at rx
      cases rx with
      | sliceNil _ hc =>
        have hm0 : m = 0 := by simpa using hmr
        have hh0 : hh = 0 := by omega
        have hl0' : l = 0 := by omega
        subst hm0 hh0 hl0'
        have hrun : ∀ w', (Instr.sliceBounds true 0 0 (lo.map a.eval) (hi.map a.eval) (mx.map a.eval)).run P w' = .ok (0, 0, 0) w' := fun w' => sliceBounds_run (P := P) (b := true) hs hlo hhi hmx hmh e1 e2 e3 (Nat.le_refl _) (Nat.le_refl _) (Nat.le_refl _) w'
        refine ⟨.slice none 0 0, ?_, fun w' _ => by simp [execOp, ho, Instr.sliceAt, Instr.slice, underlying_run hu, hcx, hrun, sizeOf_run hn]⟩
        have : ∀ q, capS c 0 0 ([] : List (List V)).length q = c := by
          intro q
          rcases hc with rfl | rfl <;> rfl
        rw [this]
        simp only [List.drop_nil, List.take_nil]
        exact .sliceNil c hc
      | sliceE _ hc p =>
        have hm0 : m = 0 := by simpa using hmr
        have hh0 : hh = 0 := by omega
        have hl0' : l = 0 := by omega
        subst hm0 hh0 hl0'
        have hrun : ∀ w', (Instr.sliceBounds true 0 0 (lo.map a.eval) (hi.map a.eval) (mx.map a.eval)).run P w' = .ok (0, 0, 0) w' := fun w' => sliceBounds_run (P := P) (b := true) hs hlo hhi hmx hmh e1 e2 e3 (Nat.le_refl _) (Nat.le_refl _) (Nat.le_refl _) w'
        refine ⟨.slice (some p) 0 0, ?_, fun w' _ => by simp [execOp, ho, Instr.sliceAt, Instr.slice, underlying_run hu, hcx, hrun, sizeOf_run hn]⟩
        simp only [List.drop_nil, List.take_nil]
        refine .sliceE _ (fun h0 => ?_) p
        cases c <;> simp [capS] at h0 hc
        all_goals (cases mx' <;> simp [evO] at h0)
      | slice _ _ b of sz cap cv hc hf hcap hsz hst hcell hp hrep =>
        have hrun : ∀ w', ∃ m', (Instr.sliceBounds true rows.length cap (lo.map a.eval) (hi.map a.eval) (mx.map a.eval)).run P w' = .ok (l, hh, m') w' ∧ hh ≤ m' ∧ (mx = none → m' = cap) ∧ (mx ≠ none → m' = m) := fun w' => by
          rcases opdO_bound hs hmx e3 with ⟨rfl, _⟩ | ⟨x3, k3, i3, rfl, v3, p3, e3'⟩
          · simp only [opdO, Option.some.injEq] at hmx
            subst hmx
            exact ⟨cap, sliceBounds_run (P := P) (b := true) hs hlo hhi rfl hmh e1 e2 (e3 := rfl) hlh (by omega) (Nat.le_refl _) w', by omega, fun _ => rfl, fun hne => absurd rfl hne⟩
          · have e3'' : boundV cap (evO s mx') = some m := by
              rcases boundV_some e3 with ⟨en, _⟩ | ⟨k, i, es, h0, e4⟩
              · simp only [opdO, Option.map_eq_some_iff] at hmx
                obtain ⟨y, _, rfl⟩ := hmx
                simp [evO] at en
              · rw [es]; simp [boundV, h0, e4]
            exact ⟨m, sliceBounds_run (P := P) (b := true) hs hlo hhi hmx hmh e1 e2 e3'' hlh hhm (by omega) w', hhm, fun hn' => (by cases hn'), fun _ => rfl⟩
        obtain ⟨m', hrun0, hm1, hm2, hm3⟩ := hrun w
        have hrun' : ∀ w', (Instr.sliceBounds true rows.length cap (lo.map a.eval) (hi.map a.eval) (mx.map a.eval)).run P w' = .ok (l, hh, m') w' := fun w' => by
          obtain ⟨m'', h1, _, h2, h3⟩ := hrun w'
          have : m'' = m' := by
            by_cases hmn : mx = none
            · rw [h2 hmn, hm2 hmn]
            · rw [h3 hmn, hm3 hmn]
          rw [← this]; exact h1
        have hlen : ((rows.drop l).take (hh - l)).length = hh - l := by simp; omega
        refine ⟨.slice (some ⟨b, if m' = l then of else of + l * n, none⟩) (hh - l) (m' - l), ?_, fun w' _ => ?_⟩
        · have hcap' : ∀ c', c' ≠ .nil → (c' = .full → m' - l = hh - l) → Rep w Γ (.slice ((rows.drop l).take (hh - l)) c') (.slice (some ⟨b, if m' = l then of else of + l * n, none⟩) (hh - l) (m' - l)) := fun c' hc1 hc2 => by
            have := Rep.slice (w := w) (Γ := Γ) ((rows.drop l).take (hh - l)) c' b (if m' = l then of else of + l * n) sz (m' - l) (fun i j => cv (l + i) j) hc1 (by rw [hlen]; exact hc2) (by rw [hlen]; omega)
              (fun i r hi => by
                have hi' : i < hh - l := by rw [← hlen]; exact (List.getElem?_eq_some_iff.1 hi).1
                rw [List.getElem?_take_of_lt hi', List.getElem?_drop] at hi
                exact hsz _ _ hi)
              (fun i j hi hj => by
                rw [hlen] at hi
                have hne : rows ≠ [] := by rintro rfl; simp at hmr; omega
                have hszn : sz = n := (headLen_get hl0 hsz).resolve_left hne
                rw [if_neg (by omega), ← hszn]
                have := hst (l + i) j (by omega) hj
                rw [Nat.add_mul] at this
                rw [show of + l * sz + (i * sz + j) = of + (l * sz + i * sz + j) by omega]
                exact this)
              (fun i j hi hj => by
                rw [hlen] at hi
                have hne : rows ≠ [] := by rintro rfl; simp at hmr; omega
                have hszn : sz = n := (headLen_get hl0 hsz).resolve_left hne
                rw [if_neg (by omega), ← hszn]
                have := hcell (l + i) j (by omega) hj
                rw [Nat.add_mul] at this
                rw [show of + l * sz + (i * sz + j) = of + (l * sz + i * sz + j) by omega]
                exact this)
              (fun i r j x hi hj => by
                have hi' : i < hh - l := by rw [← hlen]; exact (List.getElem?_eq_some_iff.1 hi).1
                rw [List.getElem?_take_of_lt hi', List.getElem?_drop] at hi
                exact hp _ _ _ _ hi hj)
              (fun i r j x hi hj => by
                have hi' : i < hh - l := by rw [← hlen]; exact (List.getElem?_eq_some_iff.1 hi).1
                rw [List.getElem?_take_of_lt hi', List.getElem?_drop] at hi
                exact hrep _ _ _ _ hi hj)
            rw [hlen] at this
            exact this
          refine hcap' _ ?_ ?_
          · cases c with
            | nil => exact absurd rfl hc
            | unk => simp [capS]
            | any => simp only [capS]; cases (evO s mx').isSome && (hh == m) <;> simp
            | full => simp only [capS]; cases (evO s mx').isSome <;> cases (hh == m) <;> cases (hh == rows.length) <;> simp
          · intro hfull
            cases hq : (evO s mx').isSome with
            | true =>
              have hmne : mx ≠ none := by
                rintro rfl
                simp only [opdO, Option.some.injEq] at hmx
                subst hmx
                simp [evO] at hq
              have hm := hm3 hmne
              rw [hq] at hfull
              have : hh = m := by
                cases c <;> simp only [capS, Bool.true_and, cond_true, reduceCtorEq] at hfull
                all_goals (cases hb : (hh == m) with
                  | true => simpa using hb
                  | false => rw [hb] at hfull; simp at hfull)
              omega
            | false =>
              have hmn : mx = none := by
                cases mx with
                | none => rfl
                | some z =>
                  simp only [opdO, Option.map_eq_some_iff] at hmx
                  obtain ⟨y, _, rfl⟩ := hmx
                  simp [evO] at hq
              have hmc := hm2 hmn
              rw [hq] at hfull
              have : c = .full ∧ hh = rows.length := by
                cases c <;> simp only [capS, Bool.false_and, cond_false, reduceCtorEq] at hfull
                refine ⟨rfl, ?_⟩
                cases hb : (hh == rows.length) with
                | true => simpa using hb
                | false => rw [hb] at hfull; simp at hfull
              have := hf this.1
              omega
        · simp only [execOp, ho, Instr.sliceAt, Instr.slice, Sem.run_bind, underlying_run hu, hcx, Result.andThen_ok, hrun', sizeOf_run hn, Sem.run_pure, Option.map_some, Addr.add_none]
          split <;> simp
    · cases h
  · rename_i id ver start len hr
    rw [hr] at rx
    split at h
    · rename_i z rows vv fz hmn hM
      split at h
      · rename_i l hh e1 e2
        obtain ⟨hd, rfl⟩ := cond_some h
        simp only [Bool.and_eq_true, decide_eq_true_eq, beq_iff_eq] at hd
        obtain ⟨⟨⟨⟨hz, hv⟩, hsl⟩, hlh⟩, hhl⟩ := hd
        have hmx0 : mx = none := by
          cases mx with
          | none => rfl
          | some q =>
            simp only [opdO, Option.map_eq_some_iff] at hmx
            obtain ⟨y, _, rfl⟩ := hmx
            simp [evO] at hmn
        subst hmx0
        simp only [opdO, Option.some.injEq] at hmx
        subst hmx
        generalize hcx : a.eval x = cx at rx
        cases rx with
        | mslice _ _ _ _ L hl hvv _ hsl' _ =>
          obtain ⟨h1, h0, h2, h3, h4, h5, h6, h7, h8⟩ := hg.blk id L _ hl hM
          rcases hsl' (by rw [h2, hv]) with ⟨hd, rfl, rfl⟩ | ⟨hlive, hcap, of, rfl, hof⟩
          · have hh0 : hh = 0 := by omega
            have hl0' : l = 0 := by omega
            subst hh0 hl0'
            have hrun : ∀ w', (Instr.sliceBounds true 0 0 (lo.map a.eval) (hi.map a.eval) none).run P w' = .ok (0, 0, 0) w' := fun w' => sliceBounds_run (P := P) (b := true) hs hlo hhi (mx := none) (mx' := none) rfl hmh e1 e2 (e3 := rfl) (Nat.le_refl _) (Nat.le_refl _) (Nat.le_refl _) w'
            refine ⟨.slice none 0 0, .mslice _ _ _ _ L hl hvv _ (fun _ => .inl ⟨hd, rfl, rfl⟩) rfl, fun w' _ => by simp [execOp, ho, Instr.sliceAt, Instr.slice, underlying_run hu, hcx, hrun, sizeOf_run hn]⟩
          · have hrun : ∀ w', (Instr.sliceBounds true len (L.cap - start) (lo.map a.eval) (hi.map a.eval) none).run P w' = .ok (l, hh, L.cap - start) w' := fun w' => sliceBounds_run (P := P) (b := true) hs hlo hhi (mx := none) (mx' := none) rfl hmh e1 e2 (e3 := rfl) hlh (by omega) (Nat.le_refl _) w'
            refine ⟨.slice (some ⟨L.b, if L.cap - start = l then of else of + l * n, none⟩) (hh - l) (L.cap - start - l), .mslice _ _ _ _ L hl hvv _ (fun _ => .inr ⟨hlive, by omega, _, by rw [Nat.sub_sub], fun hlt => ?_⟩) rfl, fun w' _ => ?_⟩
            · rw [if_neg (by omega), hof (by omega), h0, hz, Nat.add_mul]
            · simp only [execOp, ho, Instr.sliceAt, Instr.slice, Sem.run_bind, underlying_run hu, hcx, Result.andThen_ok, Option.map_none, hrun, sizeOf_run hn, Sem.run_pure, Option.map_some, Addr.add_none]
              split <;> simp
      · cases h
    · cases h
  · cases h

end
end Go.Vm

/- Aggregates that are built, maps that are read. -/
namespace Go.Vm
open Go.RowKit (Below)

section
variable {P : Program} {w : World} {Γ : Env} {M : Mem} {s : Slots} {a : Act} {o : Oper} {v : V}

theorem cells_rep {x : V} {xs : List V} {cx : Value} (h : Rep w Γ x cx) (hc : x.cells? = some xs) : RepL w Γ xs cx.cells := by
  have one : ∀ {y : V} {cy : Value}, Rep w Γ y cy → cy.cells = #[cy] → RepL w Γ [y] cy.cells := fun {y cy} hy e => by
    rw [e]
    refine ⟨rfl, fun j z hz => ?_⟩
    cases j with
    | zero =>
      simp only [List.getElem?_cons_zero, Option.some.injEq] at hz
      subst hz
      simpa using hy
    | succ j => simp at hz
  cases x <;> simp only [V.cells?, Option.some.injEq, reduceCtorEq] at hc <;> subst hc
  case agg cs => cases h with | agg _ cv hl hr => exact ⟨hl, hr⟩
  case mslice id ver start len =>
    cases h with
    | mslice _ _ _ _ l hl hv _ hsl hc => exact one (.mslice _ _ _ _ l hl hv _ hsl hc) (by cases cx <;> first | rfl | simp [Value.oneCell'] at hc)
  all_goals (have h' := h; cases h <;> exact one h' rfl)

theorem setMany_rep : ∀ (xs : List V) (ds : List Value) (k off : Nat) (cells : List V) (c : Array Value), RepL w Γ cells c → ds.length = xs.length → (∀ (j : Nat) (x : V), xs[j]? = some x → Rep w Γ x (ds.getD j Go.undef)) →
    RepL w Γ (putAt cells (off + k) xs) ((ds.zipIdx k).foldl (fun cs p => cs.setIfInBounds (off + p.2) p.1) c)
  | [], ds, k, off, cells, c, hc, hl, _ => by
    have : ds = [] := List.length_eq_zero_iff.1 hl
    subst this
    simpa [putAt] using hc
  | x :: xs, d :: ds, k, off, cells, c, hc, hl, hr => by
    simp only [putAt, List.zipIdx_cons, List.foldl_cons]
    have h0 := hr 0 x rfl
    rw [show off + k + 1 = off + (k + 1) by omega]
    refine setMany_rep xs ds (k + 1) off _ _ (hc.set h0) (by simpa using hl) (fun j y hy => ?_)
    simpa using hr (j + 1) y (by simpa using hy)
  | x :: xs, [], k, off, cells, c, hc, hl, hr => by simp at hl

theorem putAt_length : ∀ (xs cells : List V) (off : Nat), (putAt cells off xs).length = cells.length
  | [], cells, off => rfl
  | x :: xs, cells, off => by simp [putAt, putAt_length xs]

inductive PartsRep (w : World) (Γ : Env) (place : Nat → Option (Nat × Nat)) : List (Nat × Nat × V) → List (Nat × Value) → Prop
  | nil : PartsRep w Γ place [] []
  | cons {off size i : Nat} {x : V} {cx : Value} {ps : List (Nat × Nat × V)} {qs : List (Nat × Value)} (hp : place i = some (off, size)) (hx : Rep w Γ x cx) (h : PartsRep w Γ place ps qs) : PartsRep w Γ place ((off, size, x) :: ps) ((i, cx) :: qs)

theorem fill_rep {place : Nat → Option (Nat × Nat)} {ps : List (Nat × Nat × V)} {qs : List (Nat × Value)} (h : PartsRep w Γ place ps qs) : ∀ {cells cs : List V} {c : Array Value}, RepL w Γ cells c → fillA cells ps = some cs →
    ∃ d, Instr.fill place c qs = some d ∧ RepL w Γ cs d := by
  induction h with
  | nil =>
    intro cells cs c hc hf
    simp only [fillA, Option.some.injEq] at hf
    subst hf
    exact ⟨c, rfl, hc⟩
  | @cons off size i x cx ps qs hp hx hrest ih =>
    intro cells cs c hc hf
    simp only [fillA] at hf
    split at hf
    · rename_i xs hxs
      have hcx := cells_rep hx hxs
      cases hd : (xs.length == size && decide (off + size ≤ cells.length)) with
      | false => simp [hd] at hf
      | true =>
        simp only [hd, cond_true] at hf
        simp only [Bool.and_eq_true, beq_iff_eq, decide_eq_true_eq] at hd
        have hset := setMany_rep xs cx.cells.toList 0 off cells c hc (by simpa using hcx.1) (fun j y hy => by simpa [Array.getD_eq_getD_getElem?] using hcx.2 j y hy)
        obtain ⟨d, h1, h2⟩ := ih hset hf
        refine ⟨d, ?_, h2⟩
        have e1 : cx.cells.size = size := by rw [hcx.1]; exact hd.1
        have e2 : ¬ (off + cx.cells.size > c.size) := by rw [hc.1, e1]; omega
        simp only [Instr.fill, hp]
        rw [if_neg (by simp [e1, hc.1]; omega)]
        rw [← Array.foldl_toList]
        simpa using h1
    · cases hf

theorem zeroT_run {t : TypeId} {z : List V} (h : zeroT P t = some z) (w' : World) : ∃ zv, (zeroValue t).run P w' = .ok zv w' ∧ ∀ (w : World) (Γ : Env), RepL w Γ z zv.cells ∧ ∀ (j : Nat) (x : V), z[j]? = some x → x.isPure = true := by
  unfold zeroT at h
  split at h
  · rename_i i hi
    split at h
    · rename_i zv hz
      refine ⟨zv, by simp [zeroValue, typeInfo, hi, hz], fun w Γ => ?_⟩
      obtain ⟨h1, h2⟩ := cellsL_rep (w := w) (Γ := Γ) h
      exact ⟨⟨by simpa using h1, fun j x hx => by simpa using (h2 j x hx).1⟩, fun j x hx => (h2 j x hx).2⟩
    · cases h
  · cases h

theorem zero_indep {t : TypeId} {z : List V} (h : zeroT P t = some z) : ∃ zv : Value, (∀ w', (zeroValue t).run P w' = .ok zv w') ∧ ∀ (w : World) (Γ : Env), RepL w Γ z zv.cells ∧ ∀ (j : Nat) (x : V), z[j]? = some x → x.isPure = true := by
  unfold zeroT at h
  split at h
  · rename_i i hi
    split at h
    · rename_i zv hz
      refine ⟨zv, fun w' => by simp [zeroValue, typeInfo, hi, hz], fun w Γ => ?_⟩
      obtain ⟨h1, h2⟩ := cellsL_rep (w := w) (Γ := Γ) h
      exact ⟨⟨by simpa using h1, fun j x hx => by simpa using (h2 j x hx).1⟩, fun j x hx => (h2 j x hx).2⟩
    · cases h
  · cases h

theorem places_run : ∀ (fs : List Field), fs.all (fun f => (sizeT P f.type).isSome) = true → ∀ w' : World,
    (fs.mapM (fun f => do pure (f.offset, ← sizeOf f.type) : Field → Sem (Nat × Nat))).run P w' = .ok (fs.map fun f => (f.offset, (sizeT P f.type).getD 0)) w'
  | [], _, w' => by simp
  | f :: fs, h, w' => by
    simp only [List.all_cons, Bool.and_eq_true] at h
    obtain ⟨n, hn⟩ := Option.isSome_iff_exists.1 h.1
    have ih := places_run fs h.2 w'
    simp only [List.mapM_cons, Sem.run_bind, sizeOf_run hn, Result.andThen_ok, Sem.run_pure, ih, List.map_cons, hn, Option.getD_some]

theorem partsS_rep (hs : SlotsRep w Γ s a.tmps) {fs : Array Field} : ∀ {parts : List (Nat × Operand)} {ps : List (Nat × Nat × Opd)}, partsS P fs parts = some ps →
    PartsRep w Γ (fun i => (fs.map fun f => (f.offset, (sizeT P f.type).getD 0))[i]?) (evP s ps) (parts.map fun p => (p.1, a.eval p.2))
  | [], ps, h => by
    simp only [partsS, Option.some.injEq] at h
    subst h
    exact .nil
  | (i, x) :: rest, ps, h => by
    simp only [partsS] at h
    split at h
    · rename_i f y r hf hy hr
      split at h
      · rename_i n hn
        simp only [Option.some.injEq] at h
        subst h
        exact .cons (by simp [hf, hn]) (opd_rep hs hy) (partsS_rep hs hr)
      · cases h
    · cases h

theorem partsA_rep (hs : SlotsRep w Γ s a.tmps) {n : Nat} : ∀ {parts : List (Nat × Operand)} {ps : List (Nat × Nat × Opd)}, partsA n parts = some ps →
    PartsRep w Γ (fun i => some (i * n, n)) (evP s ps) (parts.map fun p => (p.1, a.eval p.2))
  | [], ps, h => by
    simp only [partsA, Option.some.injEq] at h
    subst h
    exact .nil
  | (i, x) :: rest, ps, h => by
    simp only [partsA] at h
    split at h
    · rename_i y r hy hr
      simp only [Option.some.injEq] at h
      subst h
      exact .cons rfl (opd_rep hs hy) (partsA_rep hs hr)
    · cases h

theorem build_ok (hs : SlotsRep w Γ s a.tmps) {t : TypeId} {parts : Array (Nat × Operand)} {z : List V} {ps : List (Nat × Nat × Opd)} (ho : o.op = .build t parts) (hz : zeroT P t = some z)
    (hu : (∃ fs, P.underlying t = some (.struct fs) ∧ fs.toList.all (fun f => (sizeT P f.type).isSome) = true ∧ partsS P fs parts.toList = some ps) ∨
      (∃ k e n, P.underlying t = some (.array k e) ∧ sizeT P e = some n ∧ partsA n parts.toList = some ps))
    (h : buildV z (evP s ps) = some v) : POK P w Γ a o v := by
  unfold buildV at h
  split at h
  · rename_i cs hf
    simp only [Option.some.injEq] at h
    subst h
    obtain ⟨zv, hzrun, hzrep⟩ := zero_indep hz
    have epar : (parts.map fun p => (p.1, a.eval p.2)).toList = parts.toList.map fun p => (p.1, a.eval p.2) := by simp
    rcases hu with ⟨fs, hu, hall, hps⟩ | ⟨k, e, n, hu, hn, hps⟩
    · obtain ⟨d, h1, h2⟩ := fill_rep (partsS_rep hs hps) (hzrep w Γ).1 hf
      refine ⟨.agg d, .agg _ _ h2.1 h2.2, fun w' _ => ?_⟩
      have hm : (fs.mapM (fun f => do pure (f.offset, ← sizeOf f.type) : Field → Sem (Nat × Nat))).run P w' = .ok (fs.map fun f => (f.offset, (sizeT P f.type).getD 0)) w' := by
        rw [Array.mapM_eq_mapM_toList]
        simp only [Sem.run_map, places_run fs.toList hall w', Result.andThen_ok]
        congr 1
        apply Array.ext'
        simp
      simp only [execOp, ho, Instr.build, Sem.run_bind, hzrun, Result.andThen_ok, underlying_run hu, hm, epar, h1, Sem.run_pure]
    · obtain ⟨d, h1, h2⟩ := fill_rep (partsA_rep hs hps) (hzrep w Γ).1 hf
      refine ⟨.agg d, .agg _ _ h2.1 h2.2, fun w' _ => ?_⟩
      simp only [execOp, ho, Instr.build, Sem.run_bind, hzrun, Result.andThen_ok, underlying_run hu, sizeOf_run hn, epar, h1, Sem.run_pure]
  · cases h

end
end Go.Vm

/- Operations that make or write memory. -/
namespace Go.Vm
open Go.RowKit (Below)

/-- What is shown of an operation that may change memory. -/
def MOK (P : Program) (w : World) (Γ : Env) (a : Act) (o : Oper) (v : V) (M' : Mem) : Prop :=
  ∃ r w' Γ', (execOp a.eval o).run P w = .ok r w' ∧ ((∃ cv, r = .value cv ∧ Rep w' Γ' v cv) ∨ (r = .skip ∧ v = .undef)) ∧ Good w' Γ' M' ∧ Ext w Γ w' Γ'

section
variable {P : Program} {w : World} {Γ : Env} {M : Mem} {s : Slots} {a : Act} {o : Oper} {v : V}

theorem POK.mok (h : POK P w Γ a o v) (hg : Good w Γ M) : MOK P w Γ a o v M := by
  obtain ⟨cv, h1, h2⟩ := h
  exact ⟨_, w, Γ, h2 w (Below.refl _ _), .inl ⟨cv, rfl, h1⟩, hg, Ext.refl _ _⟩

theorem isCell_one {x : V} {cx : Value} (h : Rep w Γ x cx) (hx : x.isCell = true) : cx.oneCell' = true := by
  cases h <;> first | rfl | (simp [V.isCell] at hx; done) | assumption

theorem allCell_one {xs : List V} {cs : Array Value} (h : RepL w Γ xs cs) (hx : allCell xs = true) : ∀ d ∈ cs.toList, d.oneCell' = true := by
  intro d hd
  obtain ⟨j, hj, rfl⟩ := List.getElem_of_mem hd
  have hj' : j < xs.length := by rw [← h.1]; simpa using hj
  have hc : (xs[j]).isCell = true := by
    clear h hd hj
    induction xs generalizing j with
    | nil => simp at hj'
    | cons z zs ih =>
      simp only [allCell, Bool.and_eq_true] at hx
      cases j with
      | zero => exact hx.1
      | succ j => exact ih hx.2 j (by simpa using hj')
  have := isCell_one (h.2 j xs[j] (by simp [hj'])) hc
  have hjs : j < cs.size := by rw [h.1]; exact hj'
  simpa [hjs] using this

theorem allPure_get : ∀ {xs : List V}, allPure xs = true → ∀ (j : Nat) (x : V), xs[j]? = some x → x.isPure = true
  | [], _, j, x, hx => by simp at hx
  | z :: zs, hp, j, x, hx => by
    simp only [allPure, Bool.and_eq_true] at hp
    cases j with
    | zero => simp at hx; exact hx ▸ hp.1
    | succ j => exact allPure_get hp.2 j x (by simpa using hx)

theorem vecSet_some {off row : Nat} {xs cells cs : List V} (h : vecSet off xs cells row = some cs) : off = 0 ∧ ∃ x, xs = [x] ∧ row < cells.length ∧ cs = cells.set row x := by
  unfold vecSet at h
  split at h
  · rename_i x
    obtain ⟨h1, rfl⟩ := cond_some h
    exact ⟨rfl, x, rfl, by simpa using h1, rfl⟩
  · cases h

theorem alloc_ok (hg : Good w Γ M) {e : TypeId} {z : List V} (ho : o.op = .alloc e) (hz : zeroT P e = some z) : MOK P w Γ a o (.ptr M.length 0) (M ++ [.box z]) := by
  obtain ⟨zv, h1, h2⟩ := zero_indep hz
  obtain ⟨g1, g2, g3⟩ := hg.allocBox zv.cells e z (h2 w Γ).1
  refine ⟨_, _, _, ?_, .inl ⟨_, rfl, g3⟩, g1, g2⟩
  simp [execOp, ho, Instr.alloc, h1, newVar, newRow]

theorem box_ok (hg : Good w Γ M) (hs : SlotsRep w Γ s a.tmps) {e : TypeId} {n : Nat} {x : Operand} {y : Opd} {M' : Mem} (ho : o.op = .box e x) (hx : opd x = some y) (h : boxV n (ev s y) M = some (v, M')) : MOK P w Γ a o v M' := by
  unfold boxV at h
  split at h
  · rename_i cs hcs
    obtain ⟨_, h⟩ := cond_some h
    simp only [Prod.mk.injEq] at h
    obtain ⟨rfl, rfl⟩ := h
    obtain ⟨g1, g2, g3⟩ := hg.allocBox _ e cs (cells_rep (opd_rep hs hx) hcs)
    refine ⟨_, _, _, ?_, .inl ⟨_, rfl, g3⟩, g1, g2⟩
    simp [execOp, ho, Instr.box, newVar, newRow]
  · cases h

theorem makeMap_ok (hg : Good w Γ M) (hs : SlotsRep w Γ s a.tmps) {t : TypeId} {kt et : TypeId} {r : Option Operand} {r' : Option Opd} {M' : Mem} (ho : o.op = .makeMap t r) (hu : P.underlying t = some (.map kt et)) (hr : opdO r = some r') (h : makeMapV (evO s r') M = some (v, M')) : MOK P w Γ a o v M' := by
  obtain ⟨g1, g2, g3⟩ := hg.allocMap
  have key : v = .map M.length ∧ M' = M ++ [.map []] ∧ (r = none ∨ ∃ x k i, r = some x ∧ a.eval x = .int k i) := by
    cases r with
    | none =>
      simp only [opdO, Option.some.injEq] at hr
      subst hr
      simp only [evO, makeMapV, Option.some.injEq, Prod.mk.injEq] at h
      exact ⟨h.1.symm, h.2.symm, .inl rfl⟩
    | some x =>
      simp only [opdO, Option.map_eq_some_iff] at hr
      obtain ⟨y, hy, rfl⟩ := hr
      have rx := opd_rep hs hy
      simp only [evO, makeMapV] at h
      split at h
      · rename_i heq; cases heq
      · rename_i k i heq
        simp only [Option.some.injEq] at heq h
        rw [heq] at rx
        simp only [Prod.mk.injEq] at h
        exact ⟨h.1.symm, h.2.symm, .inr ⟨x, k, i, rfl, rep_int rx⟩⟩
      · cases h
  obtain ⟨rfl, rfl, hr'⟩ := key
  refine ⟨_, _, _, ?_, .inl ⟨_, rfl, g3⟩, g1, g2⟩
  rcases hr' with rfl | ⟨x, k, i, rfl, hx⟩
  · simp [execOp, ho, Instr.makeMap]
  · simp [execOp, ho, Instr.makeMap, underlying_run hu, hx, asInt, asIntOf]

/-! ### Writing cells -/
def setFrom : Array Value → Nat → List Value → Array Value
  | c, _, [] => c
  | c, o, d :: ds => setFrom (c.setIfInBounds o d) (o + 1) ds

theorem setFrom_size : ∀ (ds : List Value) (c : Array Value) (o : Nat), (setFrom c o ds).size = c.size
  | [], c, o => rfl
  | d :: ds, c, o => by simp [setFrom, setFrom_size ds]

theorem setFrom_get : ∀ (ds : List Value) (c : Array Value) (o j : Nat), o + ds.length ≤ c.size → (setFrom c o ds).getD j Go.undef = if o ≤ j ∧ j < o + ds.length then ds.getD (j - o) Go.undef else c.getD j Go.undef
  | [], c, o, j, h => by simp [setFrom]; intro _ _; omega
  | d :: ds, c, o, j, h => by
    simp only [List.length_cons] at h
    rw [setFrom, setFrom_get ds _ _ j (by simp; omega)]
    by_cases h1 : o + 1 ≤ j ∧ j < o + 1 + ds.length
    · rw [if_pos h1, if_pos (by simp; omega)]
      rw [show j - o = (j - (o + 1)) + 1 by omega]
      simp
    · rw [if_neg h1]
      by_cases h2 : j = o
      · subst h2
        rw [if_pos (by simp)]
        have : j < c.size := by omega
        simp [Array.getD_eq_getD_getElem?, this]
      · rw [if_neg (by simp; omega)]
        simp [Array.getD_eq_getD_getElem?, Array.getElem?_setIfInBounds_ne (Ne.symm h2)]

theorem storeCells_run {b : Nat} {T : TypeId} : ∀ (ds : List Value) (c : Array Value) (o k : Nat) (w : World), w.heap[b]? = some (.cells c T (0, 0)) → o + k + ds.length ≤ c.size → (∀ d ∈ ds, d.oneCell' = true) →
    ∃ w', (storeCells ⟨b, o, none⟩ ds k).run P w = .ok () w' ∧ w'.heap[b]? = some (.cells (setFrom c (o + k) ds) T (0, 0)) ∧ (∀ j, j ≠ b → w'.heap[j]? = w.heap[j]?) ∧ w'.heap.size = w.heap.size ∧ w'.os = w.os ∧ w'.tape = w.tape ∧ w'.output = w.output
  | [], c, o, k, w, hb, hle, hd => ⟨w, by simp [storeCells], hb, fun _ _ => rfl, rfl, rfl, rfl, rfl⟩
  | d :: ds, c, o, k, w, hb, hle, hd => by
    simp only [List.length_cons] at hle
    have hcell : w.cell? ⟨b, o + k, none⟩ = some (c.getD (o + k) Go.undef) := by rw [cell_of_heap hb]; exact getD_of_getElem? (by omega)
    have hfr : w.frozen? ⟨b, o + k, none⟩ = false := by simp [World.frozen?, hb]
    have h1 := run_store P w ⟨b, o + k, none⟩ d .plain (hd d (by simp))
    simp only [hcell, hfr] at h1
    obtain ⟨w', g1, g2, g3, g4, g5, g6, g7⟩ := storeCells_run ds (c.setIfInBounds (o + k) d) o (k + 1) (w.setCell ⟨b, o + k, none⟩ d) (heap_setCell_eq w b (o + k) d hb) (by simp; omega) (fun d' hd' => hd d' (by simp [hd']))
    refine ⟨w', ?_, ?_, fun j hj => (g3 j hj).trans (heap_setCell_ne w _ d hj), g4.trans (by simp), g5, g6, g7⟩
    · simp only [storeCells, Addr.add_none, Sem.run_bind, h1]
      simpa using g1
    · simpa [setFrom, Nat.add_assoc] using g2

theorem putAt_get (xs cells : List V) (off j : Nat) (h : off + xs.length ≤ cells.length) : (putAt cells off xs)[j]? = if off ≤ j ∧ j < off + xs.length then xs[j - off]? else cells[j]? := by
  induction xs generalizing cells off with
  | nil => simp [putAt]; intro _ _; omega
  | cons x xs ih =>
    simp only [List.length_cons] at h
    rw [putAt, ih _ _ (by simp; omega)]
    by_cases h1 : off + 1 ≤ j ∧ j < off + 1 + xs.length
    · rw [if_pos h1, if_pos (by simp; omega), show j - off = (j - (off + 1)) + 1 by omega]
      simp
    · rw [if_neg h1]
      by_cases h2 : j = off
      · subst h2
        rw [if_pos (by simp), List.getElem?_set_self (by omega)]
        simp
      · rw [if_neg (by simp; omega), List.getElem?_set_ne (Ne.symm h2)]

theorem putAt_rep {xs cells : List V} {ds : List Value} {c : Array Value} {off : Nat} (hc : RepL w Γ cells c) (hx : RepL w Γ xs ds.toArray) (h : off + xs.length ≤ cells.length) : RepL w Γ (putAt cells off xs) (setFrom c off ds) := by
  have hl : ds.length = xs.length := by simpa using hx.1
  refine ⟨by rw [setFrom_size, putAt_length]; exact hc.1, fun j x hj => ?_⟩
  rw [putAt_get xs cells off j h] at hj
  rw [setFrom_get ds c off j (by rw [hc.1, hl]; exact h), hl]
  split at hj
  · rename_i hin
    rw [if_pos hin]
    have := hx.2 _ _ hj
    simpa [Array.getD_eq_getD_getElem?] using this
  · rename_i hin
    rw [if_neg hin]
    exact hc.2 j x hj

theorem store_ok (hg : Good w Γ M) (hs : SlotsRep w Γ s a.tmps) {t : TypeId} {n : Nat} {x y : Operand} {x' y' : Opd} {M' : Mem} (ho : o.op = .store t x y) (hn : sizeT P t = some n) (hx : opd x = some x') (hy : opd y = some y')
    (h : storeV n (ev s x') (ev s y') M = some M') : MOK P w Γ a o .undef M' := by
  have rx := opd_rep hs hx
  have ry := opd_rep hs hy
  unfold storeV at h
  split at h
  · rename_i xs hxs
    cases hd : (xs.length == n && allCell xs) with
    | false => simp [hd] at h
    | true =>
      simp only [hd, cond_true] at h
      simp only [Bool.and_eq_true, beq_iff_eq] at hd
      have hcx := cells_rep ry hxs
      have hone := allCell_one hcx hd.2
      have hsz : (a.eval y).cells.size = n := by rw [hcx.1]; exact hd.1
      have hdl : (a.eval y).cells.toList.length = xs.length := by simpa using hcx.1
      split at h
      · rename_i id off hp
        rw [hp] at rx
        split at h
        · rename_i cells hM
          obtain ⟨hle, rfl⟩ := cond_some h
          have hle : off + n ≤ cells.length := by simpa using hle
          generalize hca : a.eval x = cx at rx
          cases rx with
          | ptr _ _ l hl hb hv =>
            obtain ⟨h1, h1', h2, c, T, h3, h4⟩ := hg.blk id l _ hl hM
            obtain ⟨w', g1, g2, g3, g4, g5, g6, g7⟩ := storeCells_run (P := P) (a.eval y).cells.toList c off 0 w h3 (by rw [hdl, h4.1, hd.1]; omega) hone
            have he : Ext w Γ w' Γ := Ext.write hg hl g3 g4 g5 g6 g7 (fun o' ho' => absurd ho' (h2 o'))
            have hrep : RepL w Γ (putAt cells off xs) (setFrom c off (a.eval y).cells.toList) := putAt_rep h4 (by simpa using hcx) (by rw [hd.1]; exact hle)
            refine ⟨.skip, w', Γ, ?_, .inr ⟨rfl, rfl⟩, hg.write hl h1' he g3 ⟨h1, h1', h2, _, T, g2, (by simpa using hrep.ext he)⟩, he⟩
            simp [execOp, ho, Instr.storeAt, Instr.sureAddr, hca, storeVar, sizeOf_run hn, hsz, g1]
        · cases h
      · rename_i id ver row off hp
        rw [hp] at rx
        split at h
        · rename_i z rows vv fz hM
          cases hd2 : (vv == ver && decide (fz ≤ row) && allPure xs) with
          | false => simp [hd2] at h
          | true =>
            simp only [hd2, cond_true] at h
            simp only [Bool.and_eq_true, beq_iff_eq, decide_eq_true_eq] at hd2
            obtain ⟨⟨hvv, hfz⟩, hpure⟩ := hd2
            split at h
            · rename_i r hr
              obtain ⟨hle, rfl⟩ := cond_some h
              have hle : off + n ≤ r.length := by simpa using hle
              generalize hca : a.eval x = cx at rx
              cases rx with
              | eptr _ _ _ _ l hl hlv p hpa =>
                obtain ⟨h1, h0, h2, h3, h4, h5, h6, h7, h8⟩ := hg.blk id l _ hl hM
                have hrow : row < rows.length := (List.getElem?_eq_some_iff.1 hr).1
                have hlive : l.live = true := Rep.arrLive hg hl hM (by rintro rfl; simp at hrow)
                obtain ⟨hS, c, T, h8, h9, h10⟩ := h8 hlive
                have hp := hpa (by rw [h2, hvv])
                subst hp
                have hrl := h6 row r hr
                have hbound : (row + 1) * l.sz ≤ l.cap * l.sz := Nat.mul_le_mul_right _ (by omega)
                rw [Nat.add_mul, Nat.one_mul] at hbound
                obtain ⟨w', g1, g2, g3, g4, g5, g6, g7⟩ := storeCells_run (P := P) (a.eval y).cells.toList c (row * l.sz + off) 0 w h8 (by rw [hdl, hd.1, h9]; omega) hone
                have hfzrow : fz * l.sz ≤ row * l.sz := Nat.mul_le_mul_right _ hfz
                have he : Ext w Γ w' Γ := Ext.write hg hl g3 g4 g5 g6 g7 (fun o' ho' => by
                  rw [cell_of_heap g2, cell_of_heap h8]
                  have hlt : o' < fz * l.sz := (hS o').1 ho'
                  have hlt2 : o' < c.size := by rw [h9]; omega
                  rw [getD_of_getElem? (by rw [setFrom_size]; exact hlt2), getD_of_getElem? hlt2, setFrom_get _ _ _ _ (by rw [hdl, hd.1, h9]; omega), if_neg (by omega)])
                refine ⟨.skip, w', Γ, ?_, .inr ⟨rfl, rfl⟩, hg.write hl hlive he g3 ?_, he⟩
                · simp [execOp, ho, Instr.storeAt, Instr.sureAddr, hca, storeVar, sizeOf_run hn, hsz, g1]
                · have hpl : (putAt r off xs).length = r.length := putAt_length _ _ _
                  have hpureX := allPure_get hpure
                  refine ⟨h1, h0, h2, by simpa using h3, by simpa using h4, h5, fun i r' hi => ?_, fun i r' j x hi hj => ?_, fun _ => ⟨hS, _, T, g2, by rw [setFrom_size]; exact h9, fun i r' j x hi hj => ?_⟩⟩
                  · by_cases hir : row = i
                    · subst hir
                      rw [List.getElem?_set_self hrow] at hi
                      simp only [Option.some.injEq] at hi
                      rw [← hi, hpl]; exact hrl
                    · rw [List.getElem?_set_ne hir] at hi; exact h6 i r' hi
                  · by_cases hir : row = i
                    · subst hir
                      rw [List.getElem?_set_self hrow] at hi
                      simp only [Option.some.injEq] at hi
                      rw [← hi, putAt_get xs r off j (by rw [hd.1]; exact hle)] at hj
                      split at hj
                      · exact hpureX _ _ hj
                      · exact h7 _ _ _ _ hr hj
                    · rw [List.getElem?_set_ne hir] at hi; exact h7 _ _ _ _ hi hj
                  · by_cases hir : row = i
                    · subst hir
                      rw [List.getElem?_set_self hrow] at hi
                      simp only [Option.some.injEq] at hi
                      rw [← hi, putAt_get xs r off j (by rw [hd.1]; exact hle)] at hj
                      rw [setFrom_get _ _ _ _ (by rw [hdl, hd.1, h9]; omega), hdl, hd.1]
                      split at hj
                      · rename_i hin
                        rw [if_pos (by omega)]
                        have := hcx.2 _ _ hj
                        rw [show row * l.sz + j - (row * l.sz + off + 0) = j - off by omega]
                        simpa [Array.getD_eq_getD_getElem?] using this.ext he
                      · rename_i hin
                        rw [if_neg (by omega)]
                        exact (h10 _ _ _ _ hr hj).ext he
                    · rw [List.getElem?_set_ne hir] at hi
                      rw [setFrom_get _ _ _ _ (by rw [hdl, hd.1, h9]; omega), hdl, hd.1]
                      have hjl : j < l.sz := by rw [← h6 i r' hi]; exact (List.getElem?_eq_some_iff.1 hj).1
                      have hne : ¬ (row * l.sz + off + 0 ≤ i * l.sz + j ∧ i * l.sz + j < row * l.sz + off + 0 + n) := by
                        rintro ⟨q1, q2⟩
                        rcases Nat.lt_or_gt_of_ne hir with hlt | hlt
                        · have : (row + 1) * l.sz ≤ i * l.sz := Nat.mul_le_mul_right _ hlt
                          rw [Nat.add_mul] at this; omega
                        · have : (i + 1) * l.sz ≤ row * l.sz := Nat.mul_le_mul_right _ hlt
                          rw [Nat.add_mul] at this; omega
                      rw [if_neg hne]
                      exact (h10 _ _ _ _ hi hj).ext he
            · cases h
        · rename_i cells vv hM
          cases hvv : vv == ver with
          | false => simp [hvv] at h
          | true =>
            simp only [hvv, cond_true] at h
            have hvv : vv = ver := by simpa using hvv
            split at h
            · rename_i cs hcs
              simp only [Option.some.injEq] at h
              subst h
              obtain ⟨rfl, x1, rfl, hrow, rfl⟩ := vecSet_some hcs
              have hn1 : n = 1 := by have := hd.1; simpa using this.symm
              subst hn1
              generalize hca : a.eval x = cx at rx
              cases rx with
              | eptr _ _ _ _ l hl hlv p hpa =>
                obtain ⟨h1, h0, h2, h4, h5, h8⟩ := hg.blk id l _ hl hM
                have hlive : l.live = true := by
                  cases hlv : l.live with
                  | true => rfl
                  | false => have := h5 hlv; omega
                obtain ⟨hS, c, T, h8, h9, h10⟩ := h8 hlive
                have hp := hpa (by rw [h2, hvv])
                rw [h0, Nat.mul_one, Nat.add_zero] at hp
                subst hp
                have hdl1 : (a.eval y).cells.toList.length = 1 := by rw [hdl]; rfl
                obtain ⟨w', g1, g2, g3, g4, g5, g6, g7⟩ := storeCells_run (P := P) (a.eval y).cells.toList c row 0 w h8 (by rw [hdl1]; omega) hone
                have he : Ext w Γ w' Γ := Ext.write hg hl g3 g4 g5 g6 g7 (fun o' ho' => absurd ho' (hS o'))
                refine ⟨.skip, w', Γ, ?_, .inr ⟨rfl, rfl⟩, hg.write hl hlive he g3 ?_, he⟩
                · simp [execOp, ho, Instr.storeAt, Instr.sureAddr, hca, storeVar, sizeOf_run hn, hsz, g1]
                · refine ⟨h1, h0, h2, by simpa using h4, h5, fun _ => ⟨hS, _, T, g2, by rw [setFrom_size]; exact h9, fun j z hz => ?_⟩⟩
                  rw [setFrom_get _ _ _ _ (by rw [hdl1]; omega), hdl1]
                  by_cases hj : row = j
                  · subst hj
                    rw [List.getElem?_set_self hrow] at hz
                    simp only [Option.some.injEq] at hz
                    subst hz
                    rw [if_pos (by omega), show row - (row + 0) = 0 by omega]
                    have := hcx.2 0 x1 rfl
                    simpa [Array.getD_eq_getD_getElem?] using this.ext he
                  · rw [List.getElem?_set_ne hj] at hz
                    rw [if_neg (by omega)]
                    exact (h10 j z hz).ext he
            · cases h
        · cases h
      · cases h
  · cases h

end
end Go.Vm

/- Slices that are made and grown. -/
namespace Go.Vm
open Go.RowKit (Below)

section
variable {P : Program} {w : World} {Γ : Env} {M : Mem} {s : Slots} {a : Act} {o : Oper} {v : V}

/-- A place without a block. -/
def ghostLoc (b sz : Nat) : Loc := ⟨b, false, false, sz, 0, 0⟩

theorem Ext.ghost (w : World) (Γ : Env) (l : Loc) : Ext w Γ w (Γ.more l) where
  s b o hs := ⟨hs, rfl⟩
  locs i l' hl := ⟨l', by
    have hi : i < Γ.locs.length := (List.getElem?_eq_some_iff.1 hl).1
    simp only [Env.more]
    rw [List.getElem?_append_left hi, hl], Nat.le_refl _, fun _ => rfl, fun _ => rfl⟩
  b0 := rfl
  below := Below.refl _ _
  sold b o hb hs := hs

theorem Good.ghostB (h : Good w Γ M) (sz : Nat) {B : Blk} (hB : BlkRep w (Γ.more (ghostLoc Γ.B0 sz)) (ghostLoc Γ.B0 sz) B) : Good w (Γ.more (ghostLoc Γ.B0 sz)) (M ++ [B]) := by
  have split : ∀ i l', (Γ.more (ghostLoc Γ.B0 sz)).locs[i]? = some l' → (i < M.length ∧ Γ.locs[i]? = some l') ∨ (i = M.length ∧ l' = ghostLoc Γ.B0 sz) := by
    intro i l' hl
    simp only [Env.more] at hl
    by_cases hi : i < Γ.locs.length
    · rw [List.getElem?_append_left hi] at hl
      exact .inl ⟨by rw [← h.len]; exact hi, hl⟩
    · rw [List.getElem?_append_right (Nat.le_of_not_lt hi)] at hl
      have : i - Γ.locs.length = 0 := by
        have := (List.getElem?_eq_some_iff.1 hl).1
        simp at this; omega
      rw [this] at hl
      simp at hl
      exact .inr ⟨by rw [← h.len]; omega, hl.symm⟩
  refine ⟨by simp [Env.more, h.len], fun i l' B' hl hB' => ?_, fun i l' hl => ?_, fun i j l1 l2 h1 h2 v1 v2 hb => ?_, h.scell, h.base, h.tab⟩
  · rcases split i l' hl with ⟨hi, hl'⟩ | ⟨hi, rfl⟩
    · rw [List.getElem?_append_left hi] at hB'
      exact (h.blk i l' B' hl' hB').keep (Ext.ghost w Γ _) (fun _ => rfl) (fun _ _ h => h)
    · subst hi
      simp at hB'
      subst hB'
      exact hB
  · rcases split i l' hl with ⟨hi, hl'⟩ | ⟨hi, rfl⟩
    · exact h.b0 i l' hl'
    · exact Nat.le_refl _
  · rcases split i l1 h1 with ⟨hi, hl1⟩ | ⟨hi, rfl⟩ <;> rcases split j l2 h2 with ⟨hj, hl2⟩ | ⟨hj, rfl⟩
    · exact h.inj i j l1 l2 hl1 hl2 v1 v2 hb
    · cases v2
    · cases v1
    · omega

theorem Good.ghost (h : Good w Γ M) (sz : Nat) : Good w (Γ.more (ghostLoc Γ.B0 sz)) (M ++ [.arr sz [] 0 0]) :=
  h.ghostB sz ⟨rfl, rfl, rfl, Nat.le_refl _, Nat.le_refl _, fun _ => rfl, fun i r hr => by simp at hr, fun i r j x hr => by simp at hr, fun hv => by cases hv⟩

theorem newarr_ok (hg : Good w Γ M) {x : Operand} {sz : Nat} (ho : o.op = .assign x) (hx : isNilSlice x = true) {M' : Mem} (h : newarrV sz M = some (v, M')) : MOK P w Γ a o v M' := by
  have hv : a.eval x = .slice none 0 0 := by
    unfold isNilSlice at hx
    split at hx
    · rfl
    · cases hx
  simp only [newarrV, Option.some.injEq, Prod.mk.injEq] at h
  obtain ⟨rfl, rfl⟩ := h
  cases sz with
  | zero =>
    refine ⟨_, w, _, by simp [execOp, ho, hv]; rfl, .inl ⟨_, rfl, ?_⟩, hg.ghostB 1 (B := .vec [] 0) ⟨rfl, rfl, rfl, Nat.le_refl _, fun _ => rfl, fun hv => by cases hv⟩, Ext.ghost w Γ _⟩
    exact .mslice _ _ _ _ (ghostLoc Γ.B0 1) (by simp [Env.more, ← hg.len]) (Nat.le_refl _) _ (fun _ => .inl ⟨rfl, rfl, rfl⟩) rfl
  | succ n =>
    refine ⟨_, w, _, by simp [execOp, ho, hv]; rfl, .inl ⟨_, rfl, ?_⟩, hg.ghost (n + 1), Ext.ghost w Γ _⟩
    exact .mslice _ _ _ _ (ghostLoc Γ.B0 (n + 1)) (by simp [Env.more, ← hg.len]) (Nat.le_refl _) _ (fun _ => .inl ⟨rfl, rfl, rfl⟩) rfl

def arrLoc (b sz cap : Nat) : Loc := ⟨b, false, true, sz, cap, 0⟩

theorem Good.allocArr (h : Good w Γ M) (c : Array Value) (T : TypeId) (sz cap : Nat) (rows : List (List V)) (hc : c.size = cap * sz) (hle : rows.length ≤ cap) (hsz : ∀ (i : Nat) (r : List V), rows[i]? = some r → r.length = sz)
    (hp : ∀ (i : Nat) (r : List V) (j : Nat) (x : V), rows[i]? = some r → r[j]? = some x → x.isPure = true ∧ Rep w Γ x (c.getD (i * sz + j) Go.undef)) :
    Good (w.alloc (.cells c T)) (Γ.more (arrLoc w.heap.size sz cap)) (M ++ [.arr sz rows 0 0]) ∧ Ext w Γ (w.alloc (.cells c T)) (Γ.more (arrLoc w.heap.size sz cap)) := by
  have he := Ext.allocLoc h (.cells c T) (arrLoc w.heap.size sz cap)
  refine ⟨h.allocLoc _ _ rfl _ ⟨rfl, rfl, rfl, Nat.zero_le _, hle, (fun hv => by cases hv), hsz, fun i r j x hr hx => (hp i r j x hr hx).1, fun _ => ⟨fun o => ⟨fun ho => absurd ho (h.no_s_new o), (fun ho => by simp at ho)⟩, c, T, heap_alloc_new w _, hc, fun i r j x hr hx => (hp i r j x hr hx).2.ext he⟩⟩, he⟩

theorem rep_arr (h : Good w Γ M) {w' : World} {sz cap len : Nat} (hle : len ≤ cap) : Rep w' (Γ.more (arrLoc w.heap.size sz cap)) (.mslice M.length 0 0 len) (.slice (some ⟨w.heap.size, 0, none⟩) len cap) :=
  .mslice _ _ _ _ (arrLoc w.heap.size sz cap) (by simp [Env.more, ← h.len]) (Nat.le_refl _) _ (fun _ => .inr ⟨rfl, (by show 0 + len ≤ cap; omega), 0, rfl, (fun _ => by simp)⟩) rfl

theorem zeroRow_get {zs : Array Value} {n sz i j : Nat} (hz : zs.size = sz) (hj : j < sz) (h : i * sz + j < n) : (((Array.range n).map (zs[· % zs.size]!)).getD (i * sz + j) Go.undef) = zs.getD j Go.undef := by
  have e : (i * sz + j) % zs.size = j := by rw [hz, Nat.add_comm, Nat.add_mul_mod_self_right, Nat.mod_eq_of_lt hj]
  have hj' : j < zs.size := by omega
  simp [Array.getD_eq_getD_getElem?, h, e, hj']

theorem makeSlice_ok (hg : Good w Γ M) (hs : SlotsRep w Γ s a.tmps) {t e : TypeId} {i : TypeInfo} {z : List V} {l c : Operand} {l' c' : Opd} {M' : Mem} (ho : o.op = .makeSlice t l c) (hu : P.underlying t = some (.slice e)) (hi : P.info? e = some i) (hz : zeroT P e = some z)
    (hzl : z.length = i.size) (hp : allPure z = true) (hl : opd l = some l') (hc : opd c = some c') (h : makeSliceV z i.size i.bytes (ev s l') (ev s c') M = some (v, M')) : MOK P w Γ a o v M' := by
  have rl := opd_rep hs hl
  have rc := opd_rep hs hc
  unfold makeSliceV at h
  split at h
  · rename_i k1 L k2 C e1 e2
    rw [e1] at rl
    rw [e2] at rc
    have rl := rep_int rl
    have rc := rep_int rc
    obtain ⟨hd, h⟩ := cond_some h
    simp only [Prod.mk.injEq] at h
    obtain ⟨rfl, rfl⟩ := h
    simp only [Bool.and_eq_true, decide_eq_true_eq] at hd
    obtain ⟨⟨⟨hL, hLC⟩, hbytes⟩, hC⟩ := hd
    obtain ⟨zv, hzrun, hzrep⟩ := zero_indep hz
    have hzr := (hzrep w Γ).1
    have wL : IntKind.i64.wrap L = L := by
      have e : (2 : Int) ^ IntKind.i64.bits = 18446744073709551616 := by decide
      have e' : (2 : Int) ^ (IntKind.i64.bits - 1) = 9223372036854775808 := by decide
      unfold IntKind.wrap
      simp only [e, e', show IntKind.i64.signed = true from rfl, Bool.true_and, decide_eq_true_eq]
      split <;> omega
    have wC : IntKind.i64.wrap C = C := by
      have e : (2 : Int) ^ IntKind.i64.bits = 18446744073709551616 := by decide
      have e' : (2 : Int) ^ (IntKind.i64.bits - 1) = 9223372036854775808 := by decide
      unfold IntKind.wrap
      simp only [e, e', show IntKind.i64.signed = true from rfl, Bool.true_and, decide_eq_true_eq]
      split <;> omega
    have hzs : zv.cells.size = i.size := by rw [hzr.1, hzl]
    let cells : Array Value := if C.toNat * i.size = 0 then (Array.range (C.toNat * i.size)).map ((#[] : Array Value)[· % (#[] : Array Value).size]!) else (Array.range (C.toNat * i.size)).map (zv.cells[· % zv.cells.size]!)
    have hcs : cells.size = C.toNat * i.size := by simp only [cells]; split <;> simp
    obtain ⟨g1, g2⟩ := hg.allocArr cells e i.size C.toNat (List.replicate L.toNat z) hcs (by simp; omega)
      (fun j r hr => by
        have := (List.getElem?_eq_some_iff.1 hr)
        obtain ⟨q1, q2⟩ := this
        simp at q2
        rw [← q2]; exact hzl)
      (fun j r m x hr hx => by
        obtain ⟨q1, q2⟩ := List.getElem?_eq_some_iff.1 hr
        simp only [List.length_replicate] at q1
        simp only [List.getElem_replicate] at q2
        subst q2
        refine ⟨allPure_get hp m x hx, ?_⟩
        have hm : m < i.size := by rw [← hzl]; exact (List.getElem?_eq_some_iff.1 hx).1
        have hlt : j * i.size + m < C.toNat * i.size := by
          have : (j + 1) * i.size ≤ C.toNat * i.size := Nat.mul_le_mul_right _ (by omega)
          rw [Nat.add_mul] at this; omega
        have hne : ¬ (C.toNat * i.size = 0) := by omega
        simp only [cells, if_neg hne]
        rw [zeroRow_get hzs hm hlt]
        exact hzr.2 m x hx)
    refine ⟨_, _, _, ?_, .inl ⟨_, rfl, rep_arr hg (w' := _) (sz := i.size) (cap := C.toNat) (by omega)⟩, g1, g2⟩
    have hb : ¬ (2 ^ 48 < (i.bytes : Int) * C) := by rw [Int.mul_comm]; omega
    have hn : (sizeT P e) = some i.size := by simp [sizeT, hi]
    have hC0 : ¬ C < 0 := by omega
    have hL0 : ¬ L < 0 := by omega
    have hLC' : ¬ L > C := by omega
    simp only [execOp, ho, Instr.makeSlice, Sem.run_bind, underlying_run hu, Result.andThen_ok, rl, rc, asInt, asIntOf, Sem.run_pure, wL, wC, typeInfo, run_program, hi]
    simp only [hC0, hL0, hLC', hb, decide_false, Bool.or_false, Bool.false_or, Bool.false_eq_true, if_false, gt_iff_lt]
    simp only [Sem.run_bind, run_askRoom, Result.andThen_ok, sizeOf_run hn, Sem.run_ite, Sem.run_pure, hzrun, newRow, run_newObj]
    by_cases h0 : C.toNat * i.size = 0
    · simp only [cells, h0, if_true]
      simp
    · simp only [cells, h0, if_false]
      simp
  · cases h

end
end Go.Vm
