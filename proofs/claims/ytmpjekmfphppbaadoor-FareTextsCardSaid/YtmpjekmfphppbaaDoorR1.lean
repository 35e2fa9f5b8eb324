/- The function fare.Text: a line for each ticket, for at most 40 tickets and identifiers of at most 256 bytes. -/
import Derived.Test.YtmpjekmfphppbaaDoorR0
import Derived.Tactics
import Derived.Tactics2
import Derived.StillTactics
import Derived.Laws.Wrap64
import Derived.Laws.Pointers
import Derived.Laws.Cells
import Derived.Laws.Entries
import Derived.Laws.Sem
import Derived.Laws.IdiomStrings
import Derived.Scope
import Derived.LoopTactic
import Derived.LoopN
import Derived.RowKit
import Derived.Below
import Derived.Lib.Walk
import Derived.Lib.AppendIntMem
import Derived.Lib.OwnKind
import Derived.Lib.Slices
import Derived.OwnWalk
import Derived.WalkKit
import Derived.BigCall
import Derived.BigGuard
import Derived.Lib.Hide
import Derived.Lib.ItoaLen
set_option linter.unusedSimpArgs false
set_option linter.unusedVariables false
namespace Go.Proofs
open Go.RowKit Go.Sort Go.Lib Go.Shelf
set_option maxRecDepth 100000
set_option maxHeartbeats 4000000
theorem isBuilderF_grow {T e : TypeId} {B b : Nat} {bs : List Value} {w : World} (h : Lib.IsBuilderF T e B b bs w) (k : Nat) (os : Array Obj) : Lib.IsBuilderF T e B b bs (grow (w.drewN k) os) := by
  have key : ∀ p, Lib.BuilderAtF T e B b p bs w → Lib.BuilderAtF T e B b p bs (grow (w.drewN k) os) := by
    intro p h
    have hlt := h.lt
    obtain ⟨hB, v, hb, hown, hne⟩ := h
    refine ⟨hB, v, (Lib.heap_grow_old w k os b hlt).trans hb, ⟨hown.1, ?_⟩, hne⟩
    rcases hown.2 with hn | ⟨g, cap, cur, fz, hv, hbg, hg, rest⟩
    · exact .inl hn
    · exact .inr ⟨g, cap, cur, fz, hv, hbg, (Lib.heap_grow_old w k os g (Array.getElem?_eq_some_iff.1 hg).1).trans hg, rest⟩
  exact h.elim (fun x => .inl (key _ x)) (fun x => .inr (key _ x))
theorem othersKept_grow (e : TypeId) (b : Option Nat) (w : World) (k : Nat) (os : Array Obj) : Lib.OthersKept e b w (grow (w.drewN k) os) := fun j o hj _ _ => (Lib.heap_grow_old w k os j (Array.getElem?_eq_some_iff.1 hj).1).trans hj
theorem blk_new (w : World) (o : Obj) : (w.alloc o).heap[w.heap.size]? = some o := by
  show (w.heap.push o)[w.heap.size]? = _
  simp
theorem cell_blk {w : World} {b o : Nat} {c : Array Value} {T : TypeId} {f : Nat × Nat} (h : w.heap[b]? = some (.cells c T f)) : w.cell? ⟨b, o, none⟩ = c[o]? := by
  simp [World.cell?, h]
/-- The first error. -/
def firstE (g : Nat → Int) : Nat → Int
  | 0 => 0
  | n + 1 => if firstE g n = 0 then g n else firstE g n
theorem firstE_stop (g : Nat → Int) (m : Nat) (h : firstE g m ≠ 0) : ∀ n, m ≤ n → firstE g n = firstE g m
  | 0, hm => by rw [show m = 0 by omega]
  | n + 1, hm => by
    rcases Nat.lt_or_ge n m with h1 | h1
    · rw [show m = n + 1 by omega]
    · have := firstE_stop g m h n h1
      rw [firstE, this, if_neg h]
/-- The error of a ticket. -/
def tickE (np : Nat) (p f l c : Int) : Int := if p < 0 ∨ (np : Int) ≤ p then 9 else if f < 0 ∨ l < f ∨ 8 ≤ l then 8 else if c < 0 ∨ 1000000 < c then 2 else 0
/-- The line of a ticket. -/
def lineB (id : List UInt8) (f l c : Int) : List UInt8 := id ++ (32 :: Lib.itoa (f + 1)) ++ (32 :: Lib.itoa (l + 1)) ++ (32 :: Lib.itoa c) ++ [10]
def textB (ids : Nat → List UInt8) (p f l c : Nat → Int) : Nat → List UInt8
  | 0 => []
  | k + 1 => textB ids p f l c k ++ lineB (ids (p k).toNat) (f k) (l k) (c k)
theorem textB_len (ids : Nat → List UInt8) (p f l c : Nat → Int) (np : Nat) (hid : ∀ j, j < np → (ids j).length ≤ 256) : ∀ n, (∀ k, k < n → tickE np (p k) (f k) (l k) (c k) = 0) → (textB ids p f l c n).length ≤ n * 400
  | 0, _ => Nat.le_refl _
  | n + 1, h => by
    have ih := textB_len ids p f l c np hid n fun k hk => h k (by omega)
    have hn := h n (by omega)
    unfold tickE at hn
    split at hn
    · cases hn
    split at hn
    · cases hn
    split at hn
    · cases hn
    have h1 := Lib.itoa_length_le (f n + 1) (by omega) (by omega)
    have h2 := Lib.itoa_length_le (l n + 1) (by omega) (by omega)
    have h3 := Lib.itoa_length_le (c n) (by omega) (by omega)
    have h4 := hid (p n).toNat (by omega)
    simp only [textB, lineB, List.length_append, List.length_cons, List.length_nil]
    omega
theorem firstE_all {g : Nat → Int} {n : Nat} (h : firstE g n = 0) : ∀ k, k < n → g k = 0 := by
  induction n with
  | zero => intro k hk; omega
  | succ n ih =>
    rw [firstE] at h
    split at h
    · rename_i h0
      intro k hk
      rcases Nat.lt_or_ge k n with h1 | h1
      · exact ih h0 k h1
      · rw [show k = n by omega]; exact h
    · rename_i h0
      exact absurd h h0
/-- The numbers of a ticket's line. -/
def numB (f l c : Int) : Nat → List UInt8
  | 0 => []
  | 1 => 32 :: Lib.itoa (f + 1)
  | 2 => (32 :: Lib.itoa (f + 1)) ++ (32 :: Lib.itoa (l + 1))
  | _ => (32 :: Lib.itoa (f + 1)) ++ (32 :: Lib.itoa (l + 1)) ++ (32 :: Lib.itoa c)
def numA (f l c : Int) : Nat → Int
  | 0 => f + 1
  | 1 => l + 1
  | _ => c
theorem numB_next (f l c : Int) (j : Nat) (h : j < 3) : numB f l c (j + 1) = numB f l c j ++ (32 :: Lib.itoa (numA f l c j)) := by
  match j, h with
  | 0, _ => rfl
  | 1, _ => rfl
  | 2, _ => rfl
theorem strCells_list (l : List UInt8) : Lib.strCells ⟨l.toArray⟩ = Lib.byteCells l := by
  simp [Lib.strCells, Lib.byteCells]
theorem cat32 (l : List UInt8) : (({ data := #[32] } : ByteArray) ++ ⟨l.toArray⟩ : ByteArray) = ⟨(32 :: l).toArray⟩ := by
  apply ByteArray.ext
  simp
/-- What Text returns. -/
def txtRes (ve E : Int) (t : List UInt8) : Value := if ve ≠ 0 then .tuple #[.string ⟨#[]⟩, .int .i64 ve] else if E ≠ 0 then .tuple #[.string ⟨#[]⟩, .int .i64 E] else .tuple #[.string ⟨t.toArray⟩, .int .i64 0]
set_option maxHeartbeats 16000000 in
theorem Tryd.text_in (pb po np pc : Nat) (pa : Option Addr) (dd ww cc ve : Int) (ids : Nat → List UInt8) (b o n cap : Nat) (p f l c : Nat → Int) (w : World) (hn : n ≤ 40) (hid : ∀ j, j < np → (ids j).length ≤ 256) (hnp : np ≤ maxLen)
    (hpa : 0 < np → pa = some ⟨pb, po, none⟩)
    (hP : ∀ j, j < np → w.cell? ⟨pb, po + j * 6, none⟩ = some (.string ⟨(ids j).toArray⟩))
    (h0 : ∀ j, j < n → w.cell? ⟨b, o + j * 4, none⟩ = some (.int .i64 (p j))) (h1 : ∀ j, j < n → w.cell? ⟨b, o + j * 4 + 1, none⟩ = some (.int .i64 (f j))) (h2 : ∀ j, j < n → w.cell? ⟨b, o + j * 4 + 2, none⟩ = some (.int .i64 (l j)))
    (h3 : ∀ j, j < n → w.cell? ⟨b, o + j * 4 + 3, none⟩ = some (.int .i64 (c j)))
    (hv : ∀ w', Below w.heap.size w w' → Calls Tryd.prog 10 #[.agg #[.slice pa np pc, .int .i64 dd, .int .i64 ww, .int .i64 cc], .slice none 0 0] w' fun e w'' => e = .returned (.int .i64 ve) ∧ Below w'.heap.size w' w'')
    (htab : Lib.TabBelow Tryd.prog w.heap.size w "internal/strconv.uint64pow10" .u64 Lib.pow10Tab) :
    Calls Tryd.prog 6 #[.agg #[.slice pa np pc, .int .i64 dd, .int .i64 ww, .int .i64 cc], .slice (some ⟨b, o, none⟩) n cap] w fun e w' =>
      e = .returned (txtRes ve (firstE (fun k => tickE np (p k) (f k) (l k) (c k)) n) (textB ids p f l c n)) ∧ Below w.heap.size w w' := by
  go_enter Tryd.func6, Tryd.ntmps6
  have hbl0 := (RowKit.Below.refl _ w).alloc (Nat.le_refl _) (.cells #[.slice pa np pc, .int .i64 dd, .int .i64 ww, .int .i64 cc] 24)
  have hsz0 : (w.alloc (.cells #[.slice pa np pc, .int .i64 dd, .int .i64 ww, .int .i64 cc] 24)).heap.size = w.heap.size + 1 := by simp
  have hf0 : (w.alloc (.cells #[.slice pa np pc, .int .i64 dd, .int .i64 ww, .int .i64 cc] 24)).heap[w.heap.size]? = _ := blk_new w _
  by_cases hve : ve = 0
  case neg =>
    go_wp2_with (first
      | (go_at_call 10; refine (hv _ hbl0).mono ?_; rintro e w2 ⟨rfl, hb2⟩))
    · go_ret2
      exact ⟨by rw [txtRes, if_pos hve]; rfl, hbl0.trans (hb2.mono (by rw [hsz0]; omega))⟩
  case pos =>
    subst hve
    go_wp2_with (first
      | (go_at_call 10; refine (hv _ hbl0).mono ?_; rintro e w2 ⟨rfl, hb2⟩))
    have hsz2 : w.heap.size < w2.heap.size := by have := hb2.size; omega
    have hf2 : w2.heap[w.heap.size]? = some (.cells #[.slice pa np pc, .int .i64 dd, .int .i64 ww, .int .i64 cc] 24) := (hb2.block w.heap.size (by omega)).trans hf0
    have hw2 : RowKit.Below w.heap.size w w2 := hbl0.trans (hb2.mono (by rw [hsz0]; omega))
    clear hb2 hf0 hbl0 hsz0 hv
    go_loopw [19] (fun i wr => ∃ k : Nat, k ≤ n ∧ i = .int .i64 k ∧ Lib.IsBuilderF 48 5 w2.heap.size w2.heap.size (Lib.byteCells (textB ids p f l c k)) wr ∧ Below w2.heap.size w2 wr ∧ firstE (fun k => tickE np (p k) (f k) (l k) (c k)) k = 0) (fun i _ => n - (RowKit.intOf i).toNat)
    case atStart => exact ⟨0, Nat.zero_le _, rfl, Lib.IsBuilderF.of (Lib.fresh_isBuilder 48 5 w2), (Below.refl _ w2).alloc (Nat.le_refl _) _, rfl⟩
    case round =>
      obtain ⟨k, hk, rfl, hI, hbl, hE⟩ := hrel
      have hB : w2.heap.size ≤ wr.heap.size := hbl.size
      have hBlt : w2.heap.size < wr.heap.size := hI.elim (fun x => x.lt) (fun x => x.lt)
      by_cases hlt : k < n
      · have hbw : b < w.heap.size := World.block_lt_of_cell? (a := ⟨b, o + k * 4, none⟩) w (h0 k hlt)
        have hall : RowKit.Below w.heap.size w wr := hw2.trans (hbl.mono (by omega))
        have c0 : wr.cell? ⟨b, o + k * 4, none⟩ = some (.int .i64 (p k)) := (hall.cell (p := ⟨b, o + k * 4, none⟩) hbw).trans (h0 k hlt)
        have c1 : wr.cell? ⟨b, o + k * 4 + 1, none⟩ = some (.int .i64 (f k)) := (hall.cell (p := ⟨b, o + k * 4 + 1, none⟩) hbw).trans (h1 k hlt)
        have c2 : wr.cell? ⟨b, o + k * 4 + 2, none⟩ = some (.int .i64 (l k)) := (hall.cell (p := ⟨b, o + k * 4 + 2, none⟩) hbw).trans (h2 k hlt)
        have c3 : wr.cell? ⟨b, o + k * 4 + 3, none⟩ = some (.int .i64 (c k)) := (hall.cell (p := ⟨b, o + k * 4 + 3, none⟩) hbw).trans (h3 k hlt)
        have hfr : wr.heap[w.heap.size]? = some (.cells #[.slice pa np pc, .int .i64 dd, .int .i64 ww, .int .i64 cc] 24) := (hbl.block w.heap.size (by omega)).trans hf2
        have hfc : wr.cell? ⟨w.heap.size, 0, none⟩ = some (.slice pa np pc) := by rw [cell_blk hfr]; rfl
        have hstop : tickE np (p k) (f k) (l k) (c k) ≠ 0 → firstE (fun k => tickE np (p k) (f k) (l k) (c k)) n = tickE np (p k) (f k) (l k) (c k) := fun h => by
          have e : firstE (fun k => tickE np (p k) (f k) (l k) (c k)) (k + 1) = tickE np (p k) (f k) (l k) (c k) := by rw [firstE, if_pos hE]
          rw [firstE_stop _ (k + 1) (by rw [e]; exact h) n (by omega), e]
        clear h0 h1 h2 h3
        generalize hp : p k = P at *
        generalize hf : f k = F at *
        generalize hl : l k = L at *
        generalize hc : c k = C at *
        have hbad : ∀ (E : Int) (w' : World), tickE np P F L C = E → E ≠ 0 → RowKit.Below w.heap.size w w' → Ending.returned (.tuple #[.string ⟨#[]⟩, .int .i64 E]) = Ending.returned (txtRes 0 (firstE (fun k => tickE np (p k) (f k) (l k) (c k)) n) (textB ids p f l c n)) ∧ RowKit.Below w.heap.size w w' := fun E w' h hE hb => by
          have e := hstop (by rw [h]; exact hE)
          exact ⟨by rw [txtRes, if_neg (by omega), if_pos (by rw [e, h]; exact hE), e, h], hb⟩
        have hal := hall.alloc hall.size (.cells #[.int .i64 P, .int .i64 F, .int .i64 L, .int .i64 C] 43)
        have hold : ∀ (q : Nat) (x : Nat), q < wr.heap.size → (wr.alloc (.cells #[.int .i64 P, .int .i64 F, .int .i64 L, .int .i64 C] 43)).cell? ⟨q, x, none⟩ = wr.cell? ⟨q, x, none⟩ := fun q x hq => by
          simp only [World.cell?]
          rw [Lib.alloc_old wr _ q hq]
        have hfc1 := (hold w.heap.size 0 (by omega)).trans hfc
        by_cases hP1 : P < 0
        · go_wp2
          go_ret2
          exact hbad 9 _ (by unfold tickE; rw [if_pos (by omega)]) (by decide) hal
        by_cases hP2 : (np : Int) ≤ P
        · go_wp2
          go_ret2
          exact hbad 9 _ (by unfold tickE; rw [if_pos (by omega)]) (by decide) hal
        by_cases hF1 : F < 0
        · go_wp2
          go_ret2
          exact hbad 8 _ (by unfold tickE; rw [if_neg (by omega), if_pos (by omega)]) (by decide) hal
        by_cases hF2 : L < F
        · go_wp2
          go_ret2
          exact hbad 8 _ (by unfold tickE; rw [if_neg (by omega), if_pos (by omega)]) (by decide) hal
        by_cases hL1 : 8 ≤ L
        · go_wp2
          go_ret2
          exact hbad 8 _ (by unfold tickE; rw [if_neg (by omega), if_pos (by omega)]) (by decide) hal
        by_cases hC1 : C < 0
        · go_wp2
          go_ret2
          exact hbad 2 _ (by unfold tickE; rw [if_neg (by omega), if_neg (by omega), if_pos (by omega)]) (by decide) hal
        by_cases hC2 : 1000000 < C
        · go_wp2
          · go_ret2
            exact hbad 2 _ (by unfold tickE; rw [if_neg (by omega), if_neg (by omega), if_pos (by omega)]) (by decide) hal
          · exfalso
            have : C ≤ 1000000 := by simpa using ‹(!decide (C ≤ 1000000)) = false›
            omega
        obtain rfl := hpa (by omega)
        have hPc : wr.cell? ⟨pb, po + P.toNat * 6, none⟩ = some (.string ⟨(ids P.toNat).toArray⟩) := by
          have := hP P.toNat (by omega)
          have hb := World.block_lt_of_cell? (a := ⟨pb, po + P.toNat * 6, none⟩) w this
          exact (hall.cell (p := ⟨pb, po + P.toNat * 6, none⟩) hb).trans this
        have hPc1 := (hold pb (po + P.toNat * 6) (World.block_lt_of_cell? (a := ⟨pb, po + P.toNat * 6, none⟩) wr hPc)).trans hPc
        have hI1 := hI.alloc (.cells #[.int .i64 P, .int .i64 F, .int .i64 L, .int .i64 C] 43)
        have hlen : (textB ids p f l c k).length ≤ k * 400 := textB_len ids p f l c np hid k (firstE_all hE)
        have hidl := hid P.toNat (by omega)
        have hsz1 : w2.heap.size ≤ (wr.alloc (.cells #[.int .i64 P, .int .i64 F, .int .i64 L, .int .i64 C] 43)).heap.size := by simp; omega
        go_wp2_with (first
          | (go_at_call 11; go_in))
        · exfalso
          have : ¬ C ≤ 1000000 := by simpa using ‹(!decide (C ≤ 1000000)) = true›
          omega
        go_at_call 12
        refine (Tryd.Builder_WriteString_k _ _ _ _ _ hI1 (by rw [Lib.byteCells_length]; simp only [ByteArray.size, List.size_toArray]; omega) hsz1).mono ?_
        rintro e W1 ⟨rfl, g1, b1, k1⟩
        have hT1 := k1 wr.heap.size _ (blk_new wr _) (by simp; omega) (by intro c fz; simp)
        have d1 : W1.cell? ⟨wr.heap.size, 1, none⟩ = some (.int .i64 F) := by rw [cell_blk hT1]; rfl
        have d2 : W1.cell? ⟨wr.heap.size, 2, none⟩ = some (.int .i64 L) := by rw [cell_blk hT1]; rfl
        have d3 : W1.cell? ⟨wr.heap.size, 3, none⟩ = some (.int .i64 C) := by rw [cell_blk hT1]; rfl
        rw [strCells_list] at g1
        go_wp2
        have hbl1 : RowKit.Below w2.heap.size w2 W1 := (hbl.alloc hbl.size (.cells #[.int .i64 P, .int .i64 F, .int .i64 L, .int .i64 C] 43)).trans b1
        have hI2 : Lib.IsBuilderF 48 5 w2.heap.size w2.heap.size (Lib.byteCells (textB ids p f l c k ++ ids P.toNat)) W1 := by rw [Lib.byteCells_append]; exact Or.inr g1
        clear c0 c1 c2 c3 hPc hPc1 hfc hfc1 hfr hold d1 d2 d3 g1 hI hI1 hT1 k1 b1 hB hBlt hall hal hbl hsz1
        generalize hacc : textB ids p f l c k ++ ids P.toNat = acc at *
        have haccl : acc.length ≤ 16256 := by rw [← hacc, List.length_append]; omega
        go_loopw [74] (fun i wq => ∃ j : Nat, j ≤ 3 ∧ i = .int .i64 j ∧ Lib.IsBuilderF 48 5 w2.heap.size w2.heap.size (Lib.byteCells (acc ++ numB F L C j)) wq ∧ wq.heap[W1.heap.size]? = some (.cells #[.int .i64 (F + 1), .int .i64 (L + 1), .int .i64 C] 3) ∧ RowKit.Below w2.heap.size w2 wq) (fun i _ => 3 - (RowKit.intOf i).toNat)
        case atStart => exact ⟨0, by omega, rfl, by simpa [numB] using hI2.alloc _, blk_new W1 _, hbl1.alloc hbl1.size _⟩
        case round =>
          obtain ⟨j, hj, rfl, hJ, hT, hbq⟩ := hrel
          by_cases hj3 : j < 3
          · have hjc : wr.cell? ⟨W1.heap.size, j, none⟩ = some (.int .i64 (numA F L C j)) := by
              rw [cell_blk hT]
              match j, hj3 with
              | 0, _ => rfl
              | 1, _ => rfl
              | 2, _ => rfl
            have hA : 0 ≤ numA F L C j ∧ numA F L C j ≤ 1000000 := by
              match j, hj3 with
              | 0, _ => show 0 ≤ F + 1 ∧ F + 1 ≤ 1000000; omega
              | 1, _ => show 0 ≤ L + 1 ∧ L + 1 ≤ 1000000; omega
              | 2, _ => show 0 ≤ C ∧ C ≤ 1000000; omega
            have hpl : (numB F L C j).length ≤ 66 := by
              have i1 := Lib.itoa_length_le (F + 1) (by omega) (by omega)
              have i2 := Lib.itoa_length_le (L + 1) (by omega) (by omega)
              match j, hj3 with
              | 0, _ => simp [numB]
              | 1, _ => simp only [numB, List.length_cons]; omega
              | 2, _ => simp only [numB, List.length_cons, List.length_append]; omega
            have htabr : Lib.TabIs Tryd.prog wr "internal/strconv.uint64pow10" .u64 Lib.pow10Tab := htab wr (hw2.trans (hbq.mono (by omega)))
            have hnx := numB_next F L C j hj3
            generalize numA F L C j = A at *
            generalize numB F L C j = pre at *
            have hil := Lib.itoa_length_le A (by omega) (by omega)
            go_wp2_with (first
              | (go_at_call 13; refine (Tryd.strconv_Itoa A (by omega) (by omega) _ htabr).mono ?_; rintro e W2 ⟨rfl, q, os, rfl⟩))
            have hJ2 := isBuilderF_grow hJ q os
            have hq2 := hbq.trans (Lib.below_grow _ wr hbq.size q os)
            have hT2 := othersKept_grow 5 (some w2.heap.size) wr q os W1.heap.size _ hT (by have := hbl1.size; have := (hI2.elim (fun x => x.lt) (fun x => x.lt)); simp; omega) (by intro c fz; simp)
            rw [cat32 (Lib.itoa A)]
            go_at_call 12
            refine (Tryd.Builder_WriteString_k _ _ _ _ _ hJ2 (by rw [Lib.byteCells_length]; simp only [ByteArray.size, List.size_toArray, List.length_append, List.length_cons]; omega) hq2.size).mono ?_
            rintro e W3 ⟨rfl, g3, b3, k3⟩
            rw [strCells_list, ← Lib.byteCells_append, List.append_assoc] at g3
            have hT3 := k3 W1.heap.size _ hT2 (by have := hbl1.size; have := (hI2.elim (fun x => x.lt) (fun x => x.lt)); simp; omega) (by intro c fz; simp)
            go_wp2
            go_roundw
            case rel => exact ⟨j + 1, by omega, by simp, by rw [hnx]; exact Or.inr g3, hT3, hq2.trans b3⟩
            case measure => simp [RowKit.intOf]; omega
          · obtain rfl : j = 3 := by omega
            have hpl : (numB F L C 3).length ≤ 66 := by
              have i1 := Lib.itoa_length_le (F + 1) (by omega) (by omega)
              have i2 := Lib.itoa_length_le (L + 1) (by omega) (by omega)
              have i3 := Lib.itoa_length_le C (by omega) (by omega)
              simp only [numB, List.length_cons, List.length_append]; omega
            go_wp2_with (first
              | (go_at_call 11; go_in))
            go_at_call 12
            refine (Tryd.Builder_WriteString_k _ _ _ _ _ hJ (by rw [Lib.byteCells_length]; simp only [ByteArray.size, List.size_toArray, List.length_append]; simp; omega) hbq.size).mono ?_
            rintro e W3 ⟨rfl, g3, b3, k3⟩
            rw [show ({ data := #[10] } : ByteArray) = ⟨([10] : List UInt8).toArray⟩ from rfl, strCells_list, ← Lib.byteCells_append] at g3
            go_wp2
            go_roundw
            case rel =>
              refine ⟨k + 1, by omega, by simp, ?_, hbq.trans b3, ?_⟩
              · rw [show textB ids p f l c (k + 1) = acc ++ numB F L C 3 ++ [10] by rw [textB, lineB, hp, hf, hl, hc, ← hacc]; simp [numB]]
                exact Or.inr g3
              · rw [firstE, if_pos hE, hp, hf, hl, hc]
                unfold tickE
                rw [if_neg (by omega), if_neg (by omega), if_neg (by omega)]
            case measure => simp [RowKit.intOf]; omega
      · obtain rfl : k = n := by omega
        clear h0 h1 h2 h3 htab
        go_wp2_with (first
          | (go_at_call 14; refine (Tryd.Builder_String_any_k _ _ _ _ hI hB).mono ?_; rintro e W1 ⟨rfl, _, b1, _⟩))
        go_ret2
        exact ⟨by rw [txtRes, if_neg (by omega), if_neg (by omega)]; rfl, hw2.trans ((hbl.trans b1).mono (by omega))⟩
theorem Tryd.text_nil (np pc cap : Nat) (pa ta : Option Addr) (dd ww cc ve : Int) (w : World)
    (hv : ∀ w', Below w.heap.size w w' → Calls Tryd.prog 10 #[.agg #[.slice pa np pc, .int .i64 dd, .int .i64 ww, .int .i64 cc], .slice none 0 0] w' fun e w'' => e = .returned (.int .i64 ve) ∧ Below w'.heap.size w' w'') :
    Calls Tryd.prog 6 #[.agg #[.slice pa np pc, .int .i64 dd, .int .i64 ww, .int .i64 cc], .slice ta 0 cap] w fun e w' => e = .returned (txtRes ve 0 []) ∧ Below w.heap.size w w' := by
  go_enter Tryd.func6, Tryd.ntmps6
  have hbl0 := (RowKit.Below.refl _ w).alloc (Nat.le_refl _) (.cells #[.slice pa np pc, .int .i64 dd, .int .i64 ww, .int .i64 cc] 24)
  have hsz0 : (w.alloc (.cells #[.slice pa np pc, .int .i64 dd, .int .i64 ww, .int .i64 cc] 24)).heap.size = w.heap.size + 1 := by simp
  by_cases hve : ve = 0
  case neg =>
    go_wp2_with (first
      | (go_at_call 10; refine (hv _ hbl0).mono ?_; rintro e w2 ⟨rfl, hb2⟩))
    · go_ret2
      exact ⟨by rw [txtRes, if_pos hve]; rfl, hbl0.trans (hb2.mono (by rw [hsz0]; omega))⟩
  case pos =>
    subst hve
    go_wp2_with (first
      | (go_at_call 10; refine (hv _ hbl0).mono ?_; rintro e w2 ⟨rfl, hb2⟩))
    have hsz2 : w.heap.size < w2.heap.size := by have := hb2.size; omega
    have hw2 : RowKit.Below w.heap.size w w2 := hbl0.trans (hb2.mono (by rw [hsz0]; omega))
    clear hb2 hbl0 hsz0 hv
    go_loopw [19] (fun i wr => i = .int .i64 0 ∧ Lib.IsBuilderF 48 5 w2.heap.size w2.heap.size (Lib.byteCells []) wr ∧ Below w2.heap.size w2 wr) (fun _ _ => 0)
    case atStart => exact ⟨rfl, Lib.IsBuilderF.of (Lib.fresh_isBuilder 48 5 w2), (Below.refl _ w2).alloc (Nat.le_refl _) _⟩
    case round =>
      obtain ⟨rfl, hI, hbl⟩ := hrel
      have hB : w2.heap.size ≤ wr.heap.size := hbl.size
      go_wp2_with (first
        | (go_at_call 14; refine (Tryd.Builder_String_any_k _ _ _ _ hI hB).mono ?_; rintro e W1 ⟨rfl, _, b1, _⟩))
      go_ret2
      exact ⟨by rw [txtRes, if_neg (by omega), if_neg (by omega)]; rfl, hw2.trans ((hbl.trans b1).mono (by omega))⟩
end Go.Proofs
