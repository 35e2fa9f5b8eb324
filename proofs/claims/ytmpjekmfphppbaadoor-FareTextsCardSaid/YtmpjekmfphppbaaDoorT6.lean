/- The text of tickets; the statement's function returns true. -/
import Derived.Test.YtmpjekmfphppbaaDoorT5

namespace Go.Vm.C
open Go.Vm
set_option maxHeartbeats 1000000
set_option maxRecDepth 10000
set_option linter.unusedSimpArgs false
set_option linter.unusedVariables false

/-! ### The text of tickets -/
theorem rep_bool {w : World} {Γ : Env} {b : Bool} {v : Value} (h : Rep w Γ (.bool b) v) : v = .bool b := by cases h; rfl
theorem rep_int {w : World} {Γ : Env} {k : IntKind} {n : Int} {v : Value} (h : Rep w Γ (.int k n) v) : v = .int k n := by cases h; rfl
theorem rep_str {w : World} {Γ : Env} {s : List UInt8} {v : Value} (h : Rep w Γ (.str s) v) : v = .string ⟨s.toArray⟩ := by cases h; rfl
theorem tab_of {w : World} (h : GT w) : Lib.TabIs Go.Proofs.Tryd.prog w "internal/strconv.uint64pow10" .u64 Lib.pow10Tab := by
  obtain ⟨T, f, h⟩ := h
  unfold Lib.TabIs World.var?
  rw [show Go.Proofs.Tryd.prog.globalNamed "internal/strconv.uint64pow10" = some 0 by kernel_rfl, Option.bind_some, h]
  simp [Lib.pow10Tab, Function.comp_def]
/-- A slice of rows of one length, in the world. -/
theorem rep_slice_view {w : World} {Γ : Env} {rows : List (List V)} {c : Cap} {sv : Value} (h : Rep w Γ (.slice rows c) sv) (sz : Nat) (hsz : ∀ r ∈ rows, r.length = sz) :
    ∃ (pa : Option Addr) (pc pb po : Nat), sv = .slice pa rows.length pc ∧ (0 < rows.length → pa = some ⟨pb, po, none⟩) ∧
      ∀ (i : Nat) (r : List V) (j : Nat) (x : V), rows[i]? = some r → r[j]? = some x → ∃ u, w.cell? ⟨pb, po + (i * sz + j), none⟩ = some u ∧ Rep w Γ x u := by
  cases h with
  | sliceNil => exact ⟨none, 0, 0, 0, rfl, fun h => absurd h (Nat.lt_irrefl 0), fun i r j x h => by simp at h⟩
  | sliceE _ _ p => exact ⟨some p, 0, 0, 0, rfl, fun h => absurd h (Nat.lt_irrefl 0), fun i r j x h => by simp at h⟩
  | slice _ _ b o s cap cv hc hf hcap hs0 hs hcell hp hr =>
    refine ⟨some ⟨b, o, none⟩, cap, b, o, rfl, fun _ => rfl, fun i r j x h1 h2 => ?_⟩
    have e : s = sz := (hs0 i r h1).symm.trans (hsz r (List.mem_of_getElem? h1))
    subst e
    have hi := (List.getElem?_eq_some_iff.1 h1).1
    have hj := (List.getElem?_eq_some_iff.1 h2).1
    rw [hs0 i r h1] at hj
    exact ⟨cv i j, hcell i j hi hj, hr i r j x h1 h2⟩
def tkP (l : List Ticket) (k : Nat) : Int := ((l[k]?).map Ticket.product).getD 0
def tkF (l : List Ticket) (k : Nat) : Int := ((l[k]?).map Ticket.first).getD 0
def tkL (l : List Ticket) (k : Nat) : Int := ((l[k]?).map Ticket.last).getD 0
def tkC (l : List Ticket) (k : Nat) : Int := ((l[k]?).map Ticket.price).getD 0
def pids (f : Fares) (j : Nat) : List UInt8 := ((f.products[j]?).map Product.id).getD []
def tkE (f : Fares) (l : List Ticket) (k : Nat) : Int := Go.Proofs.tickE f.products.length (tkP l k) (tkF l k) (tkL l k) (tkC l k)
def textOf (f : Fares) (l : List Ticket) (n : Nat) : List UInt8 := Go.Proofs.textB (pids f) (tkP l) (tkF l) (tkL l) (tkC l) n
def textV (f : Fares) (l : List Ticket) : V := if validRes f 0 ≠ 0 then .tuple [.str [], .int .i64 (validRes f 0)] else if Go.Proofs.firstE (tkE f l) l.length ≠ 0 then .tuple [.str [], .int .i64 (Go.Proofs.firstE (tkE f l) l.length)] else .tuple [.str (textOf f l l.length), .int .i64 0]
theorem rep_pair (w : World) (Γ : Env) (s : List UInt8) (n : Int) : Rep w Γ (.tuple [.str s, .int .i64 n]) (.tuple #[.string ⟨s.toArray⟩, .int .i64 n]) := by
  refine .tuple _ _ rfl fun j x h => ?_
  match j, h with
  | 0, h => cases h; exact .str s
  | 1, h => cases h; exact .int _ n
theorem rep_textV (w : World) (Γ : Env) (f : Fares) (l : List Ticket) : Rep w Γ (textV f l) (Go.Proofs.txtRes (validRes f 0) (Go.Proofs.firstE (tkE f l) l.length) (textOf f l l.length)) := by
  unfold textV Go.Proofs.txtRes
  split
  · exact rep_pair w Γ [] _
  split
  · exact rep_pair w Γ [] _
  · exact rep_pair w Γ _ _
theorem under_textV (f : Fares) (l : List Ticket) : (textV f l).under 0 = true := by
  unfold textV
  split
  · rfl
  split <;> rfl
theorem fare_Text_ok (f : Fares) (l : List Ticket) (c : Cap) (hf : f.wf) (hid : ∀ p ∈ f.products, p.id.length ≤ 256) (hl : l.length ≤ 40) :
    PCalls PR C.i_fare_Text [.agg f.row, .slice (l.map Ticket.row) c] (fun v => v = textV f l) := by
  refine ⟨by kernel_rfl, ?_⟩
  intro w Γ cargs hg ⟨hsz, ha⟩
  have ra := ha 0 _ rfl
  have rb := ha 1 _ rfl
  have hc0 : cargs = #[cargs.getD 0 Go.undef, cargs.getD 1 Go.undef] := by
    apply Array.ext
    · simpa using hsz
    · intro j h1 h2
      have h3 : cargs[j] = cargs.getD j Go.undef := by simp [Array.getD, h1]
      rw [h3]
      simp at h2
      rcases (by omega : j = 0 ∨ j = 1) with rfl | rfl <;> rfl
  generalize cargs.getD 0 Go.undef = av at ra hc0
  generalize cargs.getD 1 Go.undef = tv at rb hc0
  subst hc0
  have hlen0 : Γ.locs.length = 0 := by simpa using hg.len
  have hno : ∀ (i : Nat) (x : Loc), Γ.locs[i]? = some x → False := fun i x h => by
    have := (List.getElem?_eq_some_iff.1 h).1; omega
  have hold : ∀ w', Go.RowKit.Below w.heap.size w w' → ∀ b o, Γ.S b o → w'.cell? ⟨b, o, none⟩ = w.cell? ⟨b, o, none⟩ := fun w' hbl b o h => by
    obtain ⟨x, hx⟩ := hg.scell b o h
    exact hbl.cell (p := ⟨b, o, none⟩) (cell_lt hx)
  have fin : ∀ w', Go.RowKit.Below w.heap.size w w' → Good w' Γ [] ∧ Ext w Γ w' Γ := fun w' hbl => by
    have he : Ext w Γ w' Γ := ⟨fun b o h => ⟨h, hold w' hbl b o h⟩, fun i x h => (hno i x h).elim, rfl, hbl.mono hg.base, fun b o _ h => h⟩
    exact ⟨⟨by simpa using hg.len, fun i x B h => (hno i x h).elim, fun i x h => (hno i x h).elim, fun i j x y h => (hno i x h).elim, fun b o h => by obtain ⟨x, hx⟩ := hg.scell b o h; exact ⟨x, (hold w' hbl b o h).trans hx⟩, Nat.le_trans hg.base hbl.size, hg.tab_ext he⟩, he⟩
  have htab : Lib.TabBelow Go.Proofs.Tryd.prog w.heap.size w "internal/strconv.uint64pow10" .u64 Lib.pow10Tab := fun w' hb => tab_of (hg.tab w' (hb.mono hg.base))
  cases ra with
  | agg _ cv hcl hr =>
    have g0 := hr 0 _ rfl
    have g1 := rep_int (hr 1 _ rfl)
    have g2 := rep_int (hr 2 _ rfl)
    have g3 := rep_int (hr 3 _ rfl)
    have hcv : cv = #[cv.getD 0 Go.undef, .int .i64 f.discount, .int .i64 f.within, .int .i64 f.limit] := by
      apply Array.ext
      · simpa [Fares.row] using hcl
      · intro j h1 h2
        have h3 : cv[j] = cv.getD j Go.undef := by simp [Array.getD, h1]
        rw [h3]
        simp at h2
        rcases (by omega : j = 0 ∨ j = 1 ∨ j = 2 ∨ j = 3) with rfl | rfl | rfl | rfl
        · rfl
        · rw [g1]; rfl
        · rw [g2]; rfl
        · rw [g3]; rfl
    generalize cv.getD 0 Go.undef = sv at g0 hcv
    subst hcv
    obtain ⟨pa, pc, pb, po, rfl, hpa, hpv⟩ := rep_slice_view g0 6 (fun r hr => by obtain ⟨p, _, rfl⟩ := List.mem_map.1 hr; rfl)
    obtain ⟨ta, tc, tb, to, rfl, hta, htv⟩ := rep_slice_view rb 4 (fun r hr => by obtain ⟨p, _, rfl⟩ := List.mem_map.1 hr; rfl)
    rw [List.length_map] at hpa hta g0 ⊢
    rw [List.length_map]
    have hv : ∀ w', Go.RowKit.Below w.heap.size w w' → Go.Calls Go.Proofs.Tryd.prog 10 #[.agg #[.slice pa f.products.length pc, .int .i64 f.discount, .int .i64 f.within, .int .i64 f.limit], .slice none 0 0] w' fun e w'' => e = .returned (.int .i64 (validRes f 0)) ∧ Go.RowKit.Below w'.heap.size w' w'' := by
      intro w' hb
      obtain ⟨gw, _⟩ := fin w' hb
      have hg2 : Good w' { Γ with B0 := w'.heap.size } [] := ⟨by simpa using hg.len, fun i x B h => (hno i x h).elim, fun i x h => (hno i x h).elim, fun i j x y h => (hno i x h).elim, gw.scell, Nat.le_refl _, fun w'' hb2 => hg.tab w'' ((hb.mono hg.base).trans (hb2.mono (Nat.le_trans hg.base hb.size)))⟩
      have hs2 : ∀ b o, Γ.S b o → ({ Γ with B0 := w'.heap.size } : Env).S b o ∧ w'.cell? ⟨b, o, none⟩ = w.cell? ⟨b, o, none⟩ := fun b o h => ⟨h, hold w' hb b o h⟩
      have key := (fare_valid_nil f hf).2 w' { Γ with B0 := w'.heap.size } #[.agg #[.slice pa f.products.length pc, .int .i64 f.discount, .int .i64 f.within, .int .i64 f.limit], .slice none 0 0] hg2 ⟨rfl, fun j x h => by
        match j, h with
        | 0, h =>
          cases h
          refine .agg _ _ rfl fun j x h => ?_
          match j, h with
          | 0, h => cases h; exact Rep.pure_move (Γ' := { Γ with B0 := w'.heap.size }) hs2 g0 rfl
          | 1, h => cases h; exact .int _ _
          | 2, h => cases h; exact .int _ _
          | 3, h => cases h; exact .int _ _
        | 1, h => cases h; exact .sliceNil _ (.inl rfl)⟩
      refine key.mono fun e w'' ⟨v, cv, Γ', M', he, ⟨hv, _, _⟩, hr, _, hx⟩ => ?_
      subst hv
      rw [rep_int hr] at he
      exact ⟨he, hx.below⟩
    have wrap : ∀ (e : Go.Ending) (w' : World), (e = .returned (Go.Proofs.txtRes (validRes f 0) (Go.Proofs.firstE (tkE f l) l.length) (textOf f l l.length)) ∧ Go.RowKit.Below w.heap.size w w') →
        ∃ v cv Γ' M', e = .returned cv ∧ (v = textV f l ∧ M' = [] ∧ v.under 0 = true) ∧ Rep w' Γ' v cv ∧ Good w' Γ' M' ∧ Ext w Γ w' Γ' := fun e w' ⟨he, hbl⟩ => by
      obtain ⟨q1, q2⟩ := fin w' hbl
      exact ⟨textV f l, _, Γ, [], he, ⟨rfl, rfl, under_textV f l⟩, rep_textV w' Γ f l, q1, q2⟩
    rcases Nat.eq_zero_or_pos l.length with h0 | h0
    · have e0 : l = [] := List.length_eq_zero_iff.1 h0
      subst e0
      exact (Go.Proofs.Tryd.text_nil f.products.length pc tc pa ta f.discount f.within f.limit (validRes f 0) w hv).mono wrap
    · obtain rfl := hta h0
      have cellT : ∀ (j : Nat) (hj : j < l.length) (q : Nat) (x : Int), (l[j]'hj).row[q]? = some (.int .i64 x) → w.cell? ⟨tb, to + (j * 4 + q), none⟩ = some (.int .i64 x) := fun j hj q x hx => by
        obtain ⟨u, hu, hrep⟩ := htv j _ q _ (show (l.map Ticket.row)[j]? = some (l[j]'hj).row by simp [hj]) hx
        rw [rep_int hrep] at hu
        exact hu
      exact (Go.Proofs.Tryd.text_in pb po f.products.length pc pa f.discount f.within f.limit (validRes f 0) (pids f) tb to l.length tc (tkP l) (tkF l) (tkL l) (tkC l) w hl
        (fun j hj => by
          have hx : f.products[j]? = some (f.products[j]'hj) := by simp [hj]
          simp only [pids, hx, Option.map_some, Option.getD_some]
          exact hid _ (List.getElem_mem hj)) hf.2.1 hpa
        (fun j hj => by
          have hx : f.products[j]? = some (f.products[j]'hj) := by simp [hj]
          obtain ⟨u, hu, hrep⟩ := hpv j _ 0 (.str (f.products[j]'hj).id) (show (f.products.map Product.row)[j]? = some (f.products[j]'hj).row by simp [hj]) rfl
          rw [rep_str hrep] at hu
          simp only [pids, hx, Option.map_some, Option.getD_some]
          exact hu)
        (fun j hj => by
          have := cellT j hj 0 _ rfl
          simpa [tkP, hj] using this)
        (fun j hj => by
          have := cellT j hj 1 _ rfl
          simpa [tkF, hj, Nat.add_assoc] using this)
        (fun j hj => by
          have := cellT j hj 2 _ rfl
          simpa [tkL, hj, Nat.add_assoc] using this)
        (fun j hj => by
          have := cellT j hj 3 _ rfl
          simpa [tkC, hj, Nat.add_assoc] using this) hv htab).mono wrap

/-! ### The reference's numbers and text -/
def preD (m : Nat) : List UInt8 := if m < 10 then [] else Lib.decDigits (m / 10)
theorem decDigits_pre (m : Nat) : Lib.decDigits m = preD m ++ [UInt8.ofNat (48 + m % 10)] := by
  rw [Lib.decDigits, preD]
  by_cases h : m < 10
  · rw [dif_pos h, if_pos h, Nat.mod_eq_of_lt h, List.nil_append]
  · rw [dif_neg h, if_neg h]
theorem preD_step (m : Nat) (h : 10 ≤ m) : preD m = preD (m / 10) ++ [UInt8.ofNat (48 + m / 10 % 10)] := by
  rw [preD, if_neg (by omega), decDigits_pre]
theorem rem10 (m : Nat) : binV .rem .none (.int .i64 (m : Int)) (.int .i64 10) = some (.int .i64 ((m % 10 : Nat) : Int)) := by rw [bin_rem _ _ _ _ (by omega), Int.ofNat_tmod m 10]; rfl
theorem quo10 (m : Nat) (h : m ≤ 1000000000) : binV .quo .none (.int .i64 (m : Int)) (.int .i64 10) = some (.int .i64 ((m / 10 : Nat) : Int)) := by
  have : (m : Int).tdiv 10 = ((m / 10 : Nat) : Int) := (Int.ofNat_tdiv m 10).symm
  rw [bin_quo _ _ _ _ (by omega), this, wrap_i64 _ (by omega) (by omega)]
theorem digit_conv (m : Nat) : IntKind.u8.wrap (48 + ((m % 10 : Nat) : Int)) = ((48 + m % 10 : Nat) : Int) := by
  have h : m % 10 < 10 := Nat.mod_lt _ (by omega)
  generalize m % 10 = d at h
  rcases (by omega : d = 0 ∨ d = 1 ∨ d = 2 ∨ d = 3 ∨ d = 4 ∨ d = 5 ∨ d = 6 ∨ d = 7 ∨ d = 8 ∨ d = 9) with rfl | rfl | rfl | rfl | rfl | rfl | rfl | rfl | rfl | rfl <;> rfl
theorem add_str (a b : List UInt8) (h : a.length + b.length ≤ 1000000000) : binV .add .none (.str a) (.str b) = some (.str (a ++ b)) := by
  show binStr .add a b = _
  unfold binStr
  rw [decide_eq_true (by omega)]
  rfl
theorem digit_str (m : Nat) : bytesStrV (.slice [[.int .u8 ((48 + m % 10 : Nat) : Int)]] .full) [] = some (.str [UInt8.ofNat (48 + m % 10)]) := rfl
theorem transitref35_number_ok (n : Int) (h0 : 0 ≤ n) (h1 : n ≤ 1000000000) : PCalls PR i_transitref35_number [.int .i64 n] (fun v => v = .str (Lib.itoa n)) := by
  obtain ⟨N, rfl⟩ : ∃ N : Nat, n = N := ⟨n.toNat, by omega⟩
  have hi : Lib.itoa (N : Int) = Lib.decDigits N := by unfold Lib.itoa; rw [if_neg (by omega)]; rfl
  have hlen : (Lib.decDigits N).length ≤ 21 := by rw [← hi]; exact Lib.itoa_length_le _ (by omega) (by omega)
  refine acalls_pop fn_transitref35_number_ok (by simp [fn_transitref35_number]) ?_
  simp -implicitDefEqProofs (disch := omega) only [go_sem, Nat.reduceAdd, Nat.reduceMul, Nat.reduceSub, Nat.reduceBEq, Nat.reduceLeDiff, Nat.reduceLT, fn_transitref35_number, e16_1, w16_1, e16_3, w16_3, e16_5, w16_5, e16_7, w16_7, e16_9, w16_9, c16_10, c16_11, c16_12, c16_13, c16_14, e16_16, w16_16, c16_17, c16_18, c16_19, c16_20, rem10 N, digit_conv N, digit_str N]
  refine wpC_loop (fun x vs M => ∃ (m : Nat) (s : List UInt8), m = x ∧ vs = [.int .i64 (m : Int), .str s] ∧ M = [] ∧ m ≤ 1000000000 ∧ Lib.decDigits N = preD m ++ s) N ⟨N, _, rfl, rfl, rfl, by omega, decDigits_pre N⟩ ?_
  rintro _ vs M ⟨m, s, rfl, rfl, rfl, hm, hs⟩
  have hsl : s.length ≤ 21 := by
    have := congrArg List.length hs
    rw [List.length_append] at this
    omega
  simp -implicitDefEqProofs (disch := omega) only [go_sem, Nat.reduceAdd, Nat.reduceMul, Nat.reduceSub, Nat.reduceBEq, Nat.reduceLeDiff, Nat.reduceLT, fn_transitref35_number, e16_1, w16_1, e16_3, w16_3, e16_5, w16_5, e16_7, w16_7, e16_9, w16_9, c16_10, c16_11, c16_12, c16_13, c16_14, e16_16, w16_16, c16_17, c16_18, c16_19, c16_20]
  refine ifD (fun h => ?_) (fun h => ?_)
  · have e1 := quo10 m hm
    have e2 := rem10 (m / 10)
    have e3 := digit_conv (m / 10)
    have e4 := add_str [UInt8.ofNat (48 + m / 10 % 10)] s (by simp; omega)
    simp -implicitDefEqProofs (disch := omega) only [go_sem, Nat.reduceAdd, Nat.reduceMul, Nat.reduceSub, Nat.reduceBEq, Nat.reduceLeDiff, Nat.reduceLT, fn_transitref35_number, e16_1, w16_1, e16_3, w16_3, e16_5, w16_5, e16_7, w16_7, e16_9, w16_9, c16_10, c16_11, c16_12, c16_13, c16_14, e16_16, w16_16, c16_17, c16_18, c16_19, c16_20, e1, e2, e3, digit_str (m / 10), e4]
    refine roundK_stay (m / 10) (by omega) ⟨m / 10, _, rfl, rfl, rfl, by omega, ?_⟩
    rw [hs, preD_step m (by omega), List.append_assoc]; rfl
  · simp -implicitDefEqProofs (disch := omega) only [go_sem, Nat.reduceAdd, Nat.reduceMul, Nat.reduceSub, Nat.reduceBEq, Nat.reduceLeDiff, Nat.reduceLT, fn_transitref35_number, e16_1, w16_1, e16_3, w16_3, e16_5, w16_5, e16_7, w16_7, e16_9, w16_9, c16_10, c16_11, c16_12, c16_13, c16_14, e16_16, w16_16, c16_17, c16_18, c16_19, c16_20]
    rw [hi, hs, preD, if_pos (by omega), List.nil_append]
theorem tk_at {l : List Ticket} {i : Nat} {x : Ticket} (h : l[i]? = some x) : tkP l i = x.product ∧ tkF l i = x.first ∧ tkL l i = x.last ∧ tkC l i = x.price := by
  simp only [tkP, tkF, tkL, tkC, h, Option.map_some, Option.getD_some, and_self]
theorem text_bad {f : Fares} {l : List Ticket} {i : Nat} {x : Ticket} {E : Int} (hv : validRes f 0 = 0) (h0 : Go.Proofs.firstE (tkE f l) i = 0) (hi : i < l.length) (hx : l[i]? = some x)
    (hE : Go.Proofs.tickE f.products.length x.product x.first x.last x.price = E) (hne : E ≠ 0) : textV f l = .tuple [.str [], .int .i64 E] := by
  obtain ⟨e1, e2, e3, e4⟩ := tk_at hx
  have e : tkE f l i = E := by unfold tkE; rw [e1, e2, e3, e4, hE]
  have e5 : Go.Proofs.firstE (tkE f l) (i + 1) = E := by rw [Go.Proofs.firstE, if_pos h0, e]
  have e6 := Go.Proofs.firstE_stop (tkE f l) (i + 1) (by rw [e5]; exact hne) l.length hi
  rw [textV, if_neg (by omega), e6, e5, if_pos hne]
theorem transitref35_Text_ok (f : Fares) (l : List Ticket) (c : Cap) (hf : f.wf) (hid : ∀ p ∈ f.products, p.id.length ≤ 256) (hl : l.length ≤ 40) :
    PCalls PR i_transitref35_Text [.agg f.row, .slice (l.map Ticket.row) c] (fun v => v = textV f l) := by
  refine acalls_pop fn_transitref35_Text_ok (by simp [fn_transitref35_Text]) ?_
  simp -implicitDefEqProofs (disch := omega) only [go_sem, Nat.reduceAdd, Nat.reduceMul, Nat.reduceSub, Nat.reduceBEq, Nat.reduceLeDiff, Nat.reduceLT, fn_transitref35_Text, e7_1, w7_1, e7_3, w7_3, c7_4, e7_6, w7_6, e7_8, w7_8, e7_10, w7_10, e7_12, w7_12, e7_14, w7_14, e7_16, w7_16, c7_17, e7_19, w7_19, e7_21, w7_21, c7_22, e7_24, w7_24, e7_26, w7_26, c7_27, e7_29, w7_29, e7_31, w7_31, c7_32, c7_33, c7_34, c7_35, c7_36, e7_38, w7_38, c7_39, c7_40, c7_41, c7_42, c7_43, e7_45, w7_45, c7_46, c7_47, c7_48, c7_49, c7_50, Fares.row]
  first | refine callD (transitref35_Valid_ok f hf) ?_ | refine callQD (transitref35_Valid_ok f hf) ?_
  simp -implicitDefEqProofs (disch := omega) only [go_sem, Nat.reduceAdd, Nat.reduceMul, Nat.reduceSub, Nat.reduceBEq, Nat.reduceLeDiff, Nat.reduceLT, fn_transitref35_Text, e7_1, w7_1, e7_3, w7_3, c7_4, e7_6, w7_6, e7_8, w7_8, e7_10, w7_10, e7_12, w7_12, e7_14, w7_14, e7_16, w7_16, c7_17, e7_19, w7_19, e7_21, w7_21, c7_22, e7_24, w7_24, e7_26, w7_26, c7_27, e7_29, w7_29, e7_31, w7_31, c7_32, c7_33, c7_34, c7_35, c7_36, e7_38, w7_38, c7_39, c7_40, c7_41, c7_42, c7_43, e7_45, w7_45, c7_46, c7_47, c7_48, c7_49, c7_50, faresOk]
  refine ifD (fun h1 => ?_) (fun h1 => ?_)
  rotate_left
  · have e : textV f l = .tuple [.str [], .int .i64 20] := by
      have : validRes f 0 = 20 := by rw [validRes, if_pos h1]
      rw [textV, this, if_pos (by decide)]
    simp -implicitDefEqProofs (disch := omega) only [go_sem, Nat.reduceAdd, Nat.reduceMul, Nat.reduceSub, Nat.reduceBEq, Nat.reduceLeDiff, Nat.reduceLT, fn_transitref35_Text, e7_1, w7_1, e7_3, w7_3, c7_4, e7_6, w7_6, e7_8, w7_8, e7_10, w7_10, e7_12, w7_12, e7_14, w7_14, e7_16, w7_16, c7_17, e7_19, w7_19, e7_21, w7_21, c7_22, e7_24, w7_24, e7_26, w7_26, c7_27, e7_29, w7_29, e7_31, w7_31, c7_32, c7_33, c7_34, c7_35, c7_36, e7_38, w7_38, c7_39, c7_40, c7_41, c7_42, c7_43, e7_45, w7_45, c7_46, c7_47, c7_48, c7_49, c7_50, e, Fares.row]
  have hv : validRes f 0 = 0 := by rw [validRes, if_neg (by simpa using h1), if_neg (by omega)]
  simp -implicitDefEqProofs (disch := omega) only [go_sem, Nat.reduceAdd, Nat.reduceMul, Nat.reduceSub, Nat.reduceBEq, Nat.reduceLeDiff, Nat.reduceLT, fn_transitref35_Text, e7_1, w7_1, e7_3, w7_3, c7_4, e7_6, w7_6, e7_8, w7_8, e7_10, w7_10, e7_12, w7_12, e7_14, w7_14, e7_16, w7_16, c7_17, e7_19, w7_19, e7_21, w7_21, c7_22, e7_24, w7_24, e7_26, w7_26, c7_27, e7_29, w7_29, e7_31, w7_31, c7_32, c7_33, c7_34, c7_35, c7_36, e7_38, w7_38, c7_39, c7_40, c7_41, c7_42, c7_43, e7_45, w7_45, c7_46, c7_47, c7_48, c7_49, c7_50, Fares.row]
  refine wpC_forL l (fun i vs M => Go.Proofs.firstE (tkE f l) i = 0 ∧ vs = [.slice (l.map Ticket.row) c, .ptr 0 0, .str (textOf f l i), .int .i64 i] ∧ M = [.box f.row]) ⟨rfl, rfl, rfl⟩ ?_ ?_
  · rintro i x vs M hx hi hd ⟨h0, rfl, rfl⟩
    have hbad : ∀ E, Go.Proofs.tickE f.products.length x.product x.first x.last x.price = E → E ≠ 0 → textV f l = .tuple [.str [], .int .i64 E] := fun E hE hne => text_bad hv h0 hi hx hE hne
    simp -implicitDefEqProofs (disch := omega) only [go_sem, Nat.reduceAdd, Nat.reduceMul, Nat.reduceSub, Nat.reduceBEq, Nat.reduceLeDiff, Nat.reduceLT, fn_transitref35_Text, e7_1, w7_1, e7_3, w7_3, c7_4, e7_6, w7_6, e7_8, w7_8, e7_10, w7_10, e7_12, w7_12, e7_14, w7_14, e7_16, w7_16, c7_17, e7_19, w7_19, e7_21, w7_21, c7_22, e7_24, w7_24, e7_26, w7_26, c7_27, e7_29, w7_29, e7_31, w7_31, c7_32, c7_33, c7_34, c7_35, c7_36, e7_38, w7_38, c7_39, c7_40, c7_41, c7_42, c7_43, e7_45, w7_45, c7_46, c7_47, c7_48, c7_49, c7_50, hd, hx, Ticket.row, Fares.row]
    refine ifD (fun h2 => ?_) (fun h2 => ?_)
    · have e := hbad 9 (by unfold Go.Proofs.tickE; rw [if_pos (by omega)]) (by decide)
      simp -implicitDefEqProofs (disch := omega) only [go_sem, Nat.reduceAdd, Nat.reduceMul, Nat.reduceSub, Nat.reduceBEq, Nat.reduceLeDiff, Nat.reduceLT, fn_transitref35_Text, e7_1, w7_1, e7_3, w7_3, c7_4, e7_6, w7_6, e7_8, w7_8, e7_10, w7_10, e7_12, w7_12, e7_14, w7_14, e7_16, w7_16, c7_17, e7_19, w7_19, e7_21, w7_21, c7_22, e7_24, w7_24, e7_26, w7_26, c7_27, e7_29, w7_29, e7_31, w7_31, c7_32, c7_33, c7_34, c7_35, c7_36, e7_38, w7_38, c7_39, c7_40, c7_41, c7_42, c7_43, e7_45, w7_45, c7_46, c7_47, c7_48, c7_49, c7_50, e, Ticket.row, Fares.row]
    simp -implicitDefEqProofs (disch := omega) only [go_sem, Nat.reduceAdd, Nat.reduceMul, Nat.reduceSub, Nat.reduceBEq, Nat.reduceLeDiff, Nat.reduceLT, fn_transitref35_Text, e7_1, w7_1, e7_3, w7_3, c7_4, e7_6, w7_6, e7_8, w7_8, e7_10, w7_10, e7_12, w7_12, e7_14, w7_14, e7_16, w7_16, c7_17, e7_19, w7_19, e7_21, w7_21, c7_22, e7_24, w7_24, e7_26, w7_26, c7_27, e7_29, w7_29, e7_31, w7_31, c7_32, c7_33, c7_34, c7_35, c7_36, e7_38, w7_38, c7_39, c7_40, c7_41, c7_42, c7_43, e7_45, w7_45, c7_46, c7_47, c7_48, c7_49, c7_50, Ticket.row, Fares.row]
    refine ifD (fun h3 => ?_) (fun h3 => ?_)
    · have e := hbad 9 (by unfold Go.Proofs.tickE; rw [if_pos (by omega)]) (by decide)
      simp -implicitDefEqProofs (disch := omega) only [go_sem, Nat.reduceAdd, Nat.reduceMul, Nat.reduceSub, Nat.reduceBEq, Nat.reduceLeDiff, Nat.reduceLT, fn_transitref35_Text, e7_1, w7_1, e7_3, w7_3, c7_4, e7_6, w7_6, e7_8, w7_8, e7_10, w7_10, e7_12, w7_12, e7_14, w7_14, e7_16, w7_16, c7_17, e7_19, w7_19, e7_21, w7_21, c7_22, e7_24, w7_24, e7_26, w7_26, c7_27, e7_29, w7_29, e7_31, w7_31, c7_32, c7_33, c7_34, c7_35, c7_36, e7_38, w7_38, c7_39, c7_40, c7_41, c7_42, c7_43, e7_45, w7_45, c7_46, c7_47, c7_48, c7_49, c7_50, e, Ticket.row, Fares.row]
    simp -implicitDefEqProofs (disch := omega) only [go_sem, Nat.reduceAdd, Nat.reduceMul, Nat.reduceSub, Nat.reduceBEq, Nat.reduceLeDiff, Nat.reduceLT, fn_transitref35_Text, e7_1, w7_1, e7_3, w7_3, c7_4, e7_6, w7_6, e7_8, w7_8, e7_10, w7_10, e7_12, w7_12, e7_14, w7_14, e7_16, w7_16, c7_17, e7_19, w7_19, e7_21, w7_21, c7_22, e7_24, w7_24, e7_26, w7_26, c7_27, e7_29, w7_29, e7_31, w7_31, c7_32, c7_33, c7_34, c7_35, c7_36, e7_38, w7_38, c7_39, c7_40, c7_41, c7_42, c7_43, e7_45, w7_45, c7_46, c7_47, c7_48, c7_49, c7_50, Ticket.row, Fares.row]
    refine ifD (fun h4 => ?_) (fun h4 => ?_)
    · have e := hbad 8 (by unfold Go.Proofs.tickE; rw [if_neg (by omega), if_pos (by omega)]) (by decide)
      simp -implicitDefEqProofs (disch := omega) only [go_sem, Nat.reduceAdd, Nat.reduceMul, Nat.reduceSub, Nat.reduceBEq, Nat.reduceLeDiff, Nat.reduceLT, fn_transitref35_Text, e7_1, w7_1, e7_3, w7_3, c7_4, e7_6, w7_6, e7_8, w7_8, e7_10, w7_10, e7_12, w7_12, e7_14, w7_14, e7_16, w7_16, c7_17, e7_19, w7_19, e7_21, w7_21, c7_22, e7_24, w7_24, e7_26, w7_26, c7_27, e7_29, w7_29, e7_31, w7_31, c7_32, c7_33, c7_34, c7_35, c7_36, e7_38, w7_38, c7_39, c7_40, c7_41, c7_42, c7_43, e7_45, w7_45, c7_46, c7_47, c7_48, c7_49, c7_50, e, Ticket.row, Fares.row]
    simp -implicitDefEqProofs (disch := omega) only [go_sem, Nat.reduceAdd, Nat.reduceMul, Nat.reduceSub, Nat.reduceBEq, Nat.reduceLeDiff, Nat.reduceLT, fn_transitref35_Text, e7_1, w7_1, e7_3, w7_3, c7_4, e7_6, w7_6, e7_8, w7_8, e7_10, w7_10, e7_12, w7_12, e7_14, w7_14, e7_16, w7_16, c7_17, e7_19, w7_19, e7_21, w7_21, c7_22, e7_24, w7_24, e7_26, w7_26, c7_27, e7_29, w7_29, e7_31, w7_31, c7_32, c7_33, c7_34, c7_35, c7_36, e7_38, w7_38, c7_39, c7_40, c7_41, c7_42, c7_43, e7_45, w7_45, c7_46, c7_47, c7_48, c7_49, c7_50, Ticket.row, Fares.row]
    refine ifD (fun h5 => ?_) (fun h5 => ?_)
    · have e := hbad 8 (by unfold Go.Proofs.tickE; rw [if_neg (by omega), if_pos (by omega)]) (by decide)
      simp -implicitDefEqProofs (disch := omega) only [go_sem, Nat.reduceAdd, Nat.reduceMul, Nat.reduceSub, Nat.reduceBEq, Nat.reduceLeDiff, Nat.reduceLT, fn_transitref35_Text, e7_1, w7_1, e7_3, w7_3, c7_4, e7_6, w7_6, e7_8, w7_8, e7_10, w7_10, e7_12, w7_12, e7_14, w7_14, e7_16, w7_16, c7_17, e7_19, w7_19, e7_21, w7_21, c7_22, e7_24, w7_24, e7_26, w7_26, c7_27, e7_29, w7_29, e7_31, w7_31, c7_32, c7_33, c7_34, c7_35, c7_36, e7_38, w7_38, c7_39, c7_40, c7_41, c7_42, c7_43, e7_45, w7_45, c7_46, c7_47, c7_48, c7_49, c7_50, e, Ticket.row, Fares.row]
    simp -implicitDefEqProofs (disch := omega) only [go_sem, Nat.reduceAdd, Nat.reduceMul, Nat.reduceSub, Nat.reduceBEq, Nat.reduceLeDiff, Nat.reduceLT, fn_transitref35_Text, e7_1, w7_1, e7_3, w7_3, c7_4, e7_6, w7_6, e7_8, w7_8, e7_10, w7_10, e7_12, w7_12, e7_14, w7_14, e7_16, w7_16, c7_17, e7_19, w7_19, e7_21, w7_21, c7_22, e7_24, w7_24, e7_26, w7_26, c7_27, e7_29, w7_29, e7_31, w7_31, c7_32, c7_33, c7_34, c7_35, c7_36, e7_38, w7_38, c7_39, c7_40, c7_41, c7_42, c7_43, e7_45, w7_45, c7_46, c7_47, c7_48, c7_49, c7_50, Ticket.row, Fares.row]
    refine ifD (fun h6 => ?_) (fun h6 => ?_)
    · have e := hbad 8 (by unfold Go.Proofs.tickE; rw [if_neg (by omega), if_pos (by omega)]) (by decide)
      simp -implicitDefEqProofs (disch := omega) only [go_sem, Nat.reduceAdd, Nat.reduceMul, Nat.reduceSub, Nat.reduceBEq, Nat.reduceLeDiff, Nat.reduceLT, fn_transitref35_Text, e7_1, w7_1, e7_3, w7_3, c7_4, e7_6, w7_6, e7_8, w7_8, e7_10, w7_10, e7_12, w7_12, e7_14, w7_14, e7_16, w7_16, c7_17, e7_19, w7_19, e7_21, w7_21, c7_22, e7_24, w7_24, e7_26, w7_26, c7_27, e7_29, w7_29, e7_31, w7_31, c7_32, c7_33, c7_34, c7_35, c7_36, e7_38, w7_38, c7_39, c7_40, c7_41, c7_42, c7_43, e7_45, w7_45, c7_46, c7_47, c7_48, c7_49, c7_50, e, Ticket.row, Fares.row]
    simp -implicitDefEqProofs (disch := omega) only [go_sem, Nat.reduceAdd, Nat.reduceMul, Nat.reduceSub, Nat.reduceBEq, Nat.reduceLeDiff, Nat.reduceLT, fn_transitref35_Text, e7_1, w7_1, e7_3, w7_3, c7_4, e7_6, w7_6, e7_8, w7_8, e7_10, w7_10, e7_12, w7_12, e7_14, w7_14, e7_16, w7_16, c7_17, e7_19, w7_19, e7_21, w7_21, c7_22, e7_24, w7_24, e7_26, w7_26, c7_27, e7_29, w7_29, e7_31, w7_31, c7_32, c7_33, c7_34, c7_35, c7_36, e7_38, w7_38, c7_39, c7_40, c7_41, c7_42, c7_43, e7_45, w7_45, c7_46, c7_47, c7_48, c7_49, c7_50, Ticket.row, Fares.row]
    refine ifD (fun h7 => ?_) (fun h7 => ?_)
    · have e := hbad 2 (by unfold Go.Proofs.tickE; rw [if_neg (by omega), if_neg (by omega), if_pos (by omega)]) (by decide)
      simp -implicitDefEqProofs (disch := omega) only [go_sem, Nat.reduceAdd, Nat.reduceMul, Nat.reduceSub, Nat.reduceBEq, Nat.reduceLeDiff, Nat.reduceLT, fn_transitref35_Text, e7_1, w7_1, e7_3, w7_3, c7_4, e7_6, w7_6, e7_8, w7_8, e7_10, w7_10, e7_12, w7_12, e7_14, w7_14, e7_16, w7_16, c7_17, e7_19, w7_19, e7_21, w7_21, c7_22, e7_24, w7_24, e7_26, w7_26, c7_27, e7_29, w7_29, e7_31, w7_31, c7_32, c7_33, c7_34, c7_35, c7_36, e7_38, w7_38, c7_39, c7_40, c7_41, c7_42, c7_43, e7_45, w7_45, c7_46, c7_47, c7_48, c7_49, c7_50, e, Ticket.row, Fares.row]
    simp -implicitDefEqProofs (disch := omega) only [go_sem, Nat.reduceAdd, Nat.reduceMul, Nat.reduceSub, Nat.reduceBEq, Nat.reduceLeDiff, Nat.reduceLT, fn_transitref35_Text, e7_1, w7_1, e7_3, w7_3, c7_4, e7_6, w7_6, e7_8, w7_8, e7_10, w7_10, e7_12, w7_12, e7_14, w7_14, e7_16, w7_16, c7_17, e7_19, w7_19, e7_21, w7_21, c7_22, e7_24, w7_24, e7_26, w7_26, c7_27, e7_29, w7_29, e7_31, w7_31, c7_32, c7_33, c7_34, c7_35, c7_36, e7_38, w7_38, c7_39, c7_40, c7_41, c7_42, c7_43, e7_45, w7_45, c7_46, c7_47, c7_48, c7_49, c7_50, Ticket.row, Fares.row]
    refine ifD (fun h8 => ?_) (fun h8 => ?_)
    · have e := hbad 2 (by unfold Go.Proofs.tickE; rw [if_neg (by omega), if_neg (by omega), if_pos (by omega)]) (by decide)
      simp -implicitDefEqProofs (disch := omega) only [go_sem, Nat.reduceAdd, Nat.reduceMul, Nat.reduceSub, Nat.reduceBEq, Nat.reduceLeDiff, Nat.reduceLT, fn_transitref35_Text, e7_1, w7_1, e7_3, w7_3, c7_4, e7_6, w7_6, e7_8, w7_8, e7_10, w7_10, e7_12, w7_12, e7_14, w7_14, e7_16, w7_16, c7_17, e7_19, w7_19, e7_21, w7_21, c7_22, e7_24, w7_24, e7_26, w7_26, c7_27, e7_29, w7_29, e7_31, w7_31, c7_32, c7_33, c7_34, c7_35, c7_36, e7_38, w7_38, c7_39, c7_40, c7_41, c7_42, c7_43, e7_45, w7_45, c7_46, c7_47, c7_48, c7_49, c7_50, e, Ticket.row, Fares.row]
    obtain ⟨q, hq⟩ : ∃ q : Nat, x.product = q := ⟨x.product.toNat, by omega⟩
    obtain ⟨p, hp⟩ : ∃ p, f.products[q]? = some p := ⟨f.products[q]'(by omega), by simp⟩
    have hpi := hid p (List.mem_of_getElem? hp)
    have w1 : IntKind.i64.wrap (x.first + 1) = x.first + 1 := wrap_i64 _ (by omega) (by omega)
    have w2 : IntKind.i64.wrap (x.last + 1) = x.last + 1 := wrap_i64 _ (by omega) (by omega)
    have i1 := Lib.itoa_length_le (x.first + 1) (by omega) (by omega)
    have i2 := Lib.itoa_length_le (x.last + 1) (by omega) (by omega)
    have i3 := Lib.itoa_length_le x.price (by omega) (by omega)
    have htl : (textOf f l i).length ≤ i * 400 := Go.Proofs.textB_len (pids f) (tkP l) (tkF l) (tkL l) (tkC l) f.products.length (fun j hj => by
      have hx : f.products[j]? = some (f.products[j]'hj) := by simp [hj]
      simp only [pids, hx, Option.map_some, Option.getD_some]
      exact hid _ (List.getElem_mem hj)) i (Go.Proofs.firstE_all h0)
    have a1 := add_str p.id [32] (by simp; omega)
    have a2 := add_str (p.id ++ [32]) (Lib.itoa (x.first + 1)) (by simp; omega)
    have a3 := add_str (p.id ++ [32] ++ Lib.itoa (x.first + 1)) [32] (by simp; omega)
    have a4 := add_str (p.id ++ [32] ++ Lib.itoa (x.first + 1) ++ [32]) (Lib.itoa (x.last + 1)) (by simp; omega)
    have a5 := add_str (p.id ++ [32] ++ Lib.itoa (x.first + 1) ++ [32] ++ Lib.itoa (x.last + 1)) [32] (by simp; omega)
    have a6 := add_str (p.id ++ [32] ++ Lib.itoa (x.first + 1) ++ [32] ++ Lib.itoa (x.last + 1) ++ [32]) (Lib.itoa x.price) (by simp; omega)
    have a7 := add_str (p.id ++ [32] ++ Lib.itoa (x.first + 1) ++ [32] ++ Lib.itoa (x.last + 1) ++ [32] ++ Lib.itoa x.price) [10] (by simp; omega)
    have a8 := add_str (textOf f l i) (p.id ++ [32] ++ Lib.itoa (x.first + 1) ++ [32] ++ Lib.itoa (x.last + 1) ++ [32] ++ Lib.itoa x.price ++ [10]) (by simp; omega)
    simp -implicitDefEqProofs (disch := omega) only [go_sem, Nat.reduceAdd, Nat.reduceMul, Nat.reduceSub, Nat.reduceBEq, Nat.reduceLeDiff, Nat.reduceLT, fn_transitref35_Text, e7_1, w7_1, e7_3, w7_3, c7_4, e7_6, w7_6, e7_8, w7_8, e7_10, w7_10, e7_12, w7_12, e7_14, w7_14, e7_16, w7_16, c7_17, e7_19, w7_19, e7_21, w7_21, c7_22, e7_24, w7_24, e7_26, w7_26, c7_27, e7_29, w7_29, e7_31, w7_31, c7_32, c7_33, c7_34, c7_35, c7_36, e7_38, w7_38, c7_39, c7_40, c7_41, c7_42, c7_43, e7_45, w7_45, c7_46, c7_47, c7_48, c7_49, c7_50, Ticket.row, Fares.row, Product.row, hq, hp, w1, w2, a1]
    first | refine callD (transitref35_number_ok (x.first + 1) (by omega) (by omega)) ?_ | refine callQD (transitref35_number_ok (x.first + 1) (by omega) (by omega)) ?_
    simp -implicitDefEqProofs (disch := omega) only [go_sem, Nat.reduceAdd, Nat.reduceMul, Nat.reduceSub, Nat.reduceBEq, Nat.reduceLeDiff, Nat.reduceLT, fn_transitref35_Text, e7_1, w7_1, e7_3, w7_3, c7_4, e7_6, w7_6, e7_8, w7_8, e7_10, w7_10, e7_12, w7_12, e7_14, w7_14, e7_16, w7_16, c7_17, e7_19, w7_19, e7_21, w7_21, c7_22, e7_24, w7_24, e7_26, w7_26, c7_27, e7_29, w7_29, e7_31, w7_31, c7_32, c7_33, c7_34, c7_35, c7_36, e7_38, w7_38, c7_39, c7_40, c7_41, c7_42, c7_43, e7_45, w7_45, c7_46, c7_47, c7_48, c7_49, c7_50, Ticket.row, Fares.row, w1, w2, a2, a3]
    first | refine callD (transitref35_number_ok (x.last + 1) (by omega) (by omega)) ?_ | refine callQD (transitref35_number_ok (x.last + 1) (by omega) (by omega)) ?_
    simp -implicitDefEqProofs (disch := omega) only [go_sem, Nat.reduceAdd, Nat.reduceMul, Nat.reduceSub, Nat.reduceBEq, Nat.reduceLeDiff, Nat.reduceLT, fn_transitref35_Text, e7_1, w7_1, e7_3, w7_3, c7_4, e7_6, w7_6, e7_8, w7_8, e7_10, w7_10, e7_12, w7_12, e7_14, w7_14, e7_16, w7_16, c7_17, e7_19, w7_19, e7_21, w7_21, c7_22, e7_24, w7_24, e7_26, w7_26, c7_27, e7_29, w7_29, e7_31, w7_31, c7_32, c7_33, c7_34, c7_35, c7_36, e7_38, w7_38, c7_39, c7_40, c7_41, c7_42, c7_43, e7_45, w7_45, c7_46, c7_47, c7_48, c7_49, c7_50, Ticket.row, Fares.row, w1, w2, a4, a5]
    first | refine callD (transitref35_number_ok x.price (by omega) (by omega)) ?_ | refine callQD (transitref35_number_ok x.price (by omega) (by omega)) ?_
    simp -implicitDefEqProofs (disch := omega) only [go_sem, Nat.reduceAdd, Nat.reduceMul, Nat.reduceSub, Nat.reduceBEq, Nat.reduceLeDiff, Nat.reduceLT, fn_transitref35_Text, e7_1, w7_1, e7_3, w7_3, c7_4, e7_6, w7_6, e7_8, w7_8, e7_10, w7_10, e7_12, w7_12, e7_14, w7_14, e7_16, w7_16, c7_17, e7_19, w7_19, e7_21, w7_21, c7_22, e7_24, w7_24, e7_26, w7_26, c7_27, e7_29, w7_29, e7_31, w7_31, c7_32, c7_33, c7_34, c7_35, c7_36, e7_38, w7_38, c7_39, c7_40, c7_41, c7_42, c7_43, e7_45, w7_45, c7_46, c7_47, c7_48, c7_49, c7_50, Ticket.row, Fares.row, w1, w2, a6, a7, a8]
    obtain ⟨b1, b2, b3, b4⟩ := tk_at hx
    have hid2 : pids f q = p.id := by simp only [pids, hp, Option.map_some, Option.getD_some]
    have e1 : textOf f l (i + 1) = textOf f l i ++ (p.id ++ [32] ++ Lib.itoa (x.first + 1) ++ [32] ++ Lib.itoa (x.last + 1) ++ [32] ++ Lib.itoa x.price ++ [10]) := by
      show Go.Proofs.textB (pids f) (tkP l) (tkF l) (tkL l) (tkC l) (i + 1) = _
      rw [Go.Proofs.textB, b1, b2, b3, b4, hq, Int.toNat_natCast, hid2]
      simp [textOf, Go.Proofs.lineB]
    refine next_pop hi rfl ⟨?_, by rw [e1]; rfl, rfl⟩
    rw [Go.Proofs.firstE, if_pos h0, tkE, b1, b2, b3, b4]
    unfold Go.Proofs.tickE
    rw [if_neg (by omega), if_neg (by omega), if_neg (by omega)]
  · rintro vs M ⟨h0, rfl, rfl⟩
    have e : textV f l = .tuple [.str (textOf f l l.length), .int .i64 0] := by rw [textV, if_neg (by omega), if_neg (by omega)]
    simp -implicitDefEqProofs (disch := omega) only [go_sem, Nat.reduceAdd, Nat.reduceMul, Nat.reduceSub, Nat.reduceBEq, Nat.reduceLeDiff, Nat.reduceLT, fn_transitref35_Text, e7_1, w7_1, e7_3, w7_3, c7_4, e7_6, w7_6, e7_8, w7_8, e7_10, w7_10, e7_12, w7_12, e7_14, w7_14, e7_16, w7_16, c7_17, e7_19, w7_19, e7_21, w7_21, c7_22, e7_24, w7_24, e7_26, w7_26, c7_27, e7_29, w7_29, e7_31, w7_31, c7_32, c7_33, c7_34, c7_35, c7_36, e7_38, w7_38, c7_39, c7_40, c7_41, c7_42, c7_43, e7_45, w7_45, c7_46, c7_47, c7_48, c7_49, c7_50, dec_irrefl, e, Fares.row]

/-! ### The statement -/
theorem FareTexts_law (f : Fares) (l : List Ticket) (c : Cap) (hf : f.wf) : PCalls PR i_transitlaw35_FareTexts [.agg f.row, .slice (l.map Ticket.row) c] (fun v => v = .bool true) := by
  refine acalls_pop fn_transitlaw35_FareTexts_ok (by simp [fn_transitlaw35_FareTexts]) ?_
  simp -implicitDefEqProofs (disch := omega) only [go_sem, Nat.reduceAdd, Nat.reduceMul, Nat.reduceSub, Nat.reduceBEq, Nat.reduceLeDiff, Nat.reduceLT, fn_transitlaw35_FareTexts, e3_1, w3_1, e3_3, w3_3, c3_4, e3_6, w3_6, e3_8, w3_8, e3_10, w3_10, e3_12, w3_12, c3_13, c3_14, c3_15, c3_16, c3_17, Fares.row]
  first | refine callD (small_nil f hf) ?_ | refine callQD (small_nil f hf) ?_
  simp -implicitDefEqProofs (disch := omega) only [go_sem, Nat.reduceAdd, Nat.reduceMul, Nat.reduceSub, Nat.reduceBEq, Nat.reduceLeDiff, Nat.reduceLT, fn_transitlaw35_FareTexts, e3_1, w3_1, e3_3, w3_3, c3_4, e3_6, w3_6, e3_8, w3_8, e3_10, w3_10, e3_12, w3_12, c3_13, c3_14, c3_15, c3_16, c3_17]
  refine ifB (fun h1 => ?_) (fun h1 => ?_)
  rotate_left
  · simp -implicitDefEqProofs (disch := omega) only [go_sem, Nat.reduceAdd, Nat.reduceMul, Nat.reduceSub, Nat.reduceBEq, Nat.reduceLeDiff, Nat.reduceLT, fn_transitlaw35_FareTexts, e3_1, w3_1, e3_3, w3_3, c3_4, e3_6, w3_6, e3_8, w3_8, e3_10, w3_10, e3_12, w3_12, c3_13, c3_14, c3_15, c3_16, c3_17]
    first | refine callD (example35_ok) ?_ | refine callQD (example35_ok) ?_
    simp -implicitDefEqProofs (disch := omega) only [go_sem, Nat.reduceAdd, Nat.reduceMul, Nat.reduceSub, Nat.reduceBEq, Nat.reduceLeDiff, Nat.reduceLT, fn_transitlaw35_FareTexts, e3_1, w3_1, e3_3, w3_3, c3_4, e3_6, w3_6, e3_8, w3_8, e3_10, w3_10, e3_12, w3_12, c3_13, c3_14, c3_15, c3_16, c3_17]
  simp -implicitDefEqProofs (disch := omega) only [go_sem, Nat.reduceAdd, Nat.reduceMul, Nat.reduceSub, Nat.reduceBEq, Nat.reduceLeDiff, Nat.reduceLT, fn_transitlaw35_FareTexts, e3_1, w3_1, e3_3, w3_3, c3_4, e3_6, w3_6, e3_8, w3_8, e3_10, w3_10, e3_12, w3_12, c3_13, c3_14, c3_15, c3_16, c3_17]
  refine ifD (fun h2 => ?_) (fun h2 => ?_)
  · simp -implicitDefEqProofs (disch := omega) only [go_sem, Nat.reduceAdd, Nat.reduceMul, Nat.reduceSub, Nat.reduceBEq, Nat.reduceLeDiff, Nat.reduceLT, fn_transitlaw35_FareTexts, e3_1, w3_1, e3_3, w3_3, c3_4, e3_6, w3_6, e3_8, w3_8, e3_10, w3_10, e3_12, w3_12, c3_13, c3_14, c3_15, c3_16, c3_17]
    first | refine callD (example35_ok) ?_ | refine callQD (example35_ok) ?_
    simp -implicitDefEqProofs (disch := omega) only [go_sem, Nat.reduceAdd, Nat.reduceMul, Nat.reduceSub, Nat.reduceBEq, Nat.reduceLeDiff, Nat.reduceLT, fn_transitlaw35_FareTexts, e3_1, w3_1, e3_3, w3_3, c3_4, e3_6, w3_6, e3_8, w3_8, e3_10, w3_10, e3_12, w3_12, c3_13, c3_14, c3_15, c3_16, c3_17]
  have hid : ∀ p ∈ f.products, p.id.length ≤ 256 := fun p hp => by
    have := (Bool.and_eq_true _ _ ▸ h1 : _ ∧ _).2
    simpa using List.all_eq_true.1 this p hp
  obtain ⟨s, n, hv⟩ : ∃ s n, textV f l = .tuple [.str s, .int .i64 n] := by
    unfold textV
    split
    · exact ⟨_, _, rfl⟩
    split
    · exact ⟨_, _, rfl⟩
    · exact ⟨_, _, rfl⟩
  simp -implicitDefEqProofs (disch := omega) only [go_sem, Nat.reduceAdd, Nat.reduceMul, Nat.reduceSub, Nat.reduceBEq, Nat.reduceLeDiff, Nat.reduceLT, fn_transitlaw35_FareTexts, e3_1, w3_1, e3_3, w3_3, c3_4, e3_6, w3_6, e3_8, w3_8, e3_10, w3_10, e3_12, w3_12, c3_13, c3_14, c3_15, c3_16, c3_17, Fares.row]
  first | refine callD (fare_Text_ok f l c hf hid (by omega)) ?_ | refine callQD (fare_Text_ok f l c hf hid (by omega)) ?_
  simp -implicitDefEqProofs (disch := omega) only [go_sem, Nat.reduceAdd, Nat.reduceMul, Nat.reduceSub, Nat.reduceBEq, Nat.reduceLeDiff, Nat.reduceLT, fn_transitlaw35_FareTexts, e3_1, w3_1, e3_3, w3_3, c3_4, e3_6, w3_6, e3_8, w3_8, e3_10, w3_10, e3_12, w3_12, c3_13, c3_14, c3_15, c3_16, c3_17, hv, Fares.row]
  first | refine callD (transitref35_Text_ok f l c hf hid (by omega)) ?_ | refine callQD (transitref35_Text_ok f l c hf hid (by omega)) ?_
  simp -implicitDefEqProofs (disch := omega) only [go_sem, Nat.reduceAdd, Nat.reduceMul, Nat.reduceSub, Nat.reduceBEq, Nat.reduceLeDiff, Nat.reduceLT, fn_transitlaw35_FareTexts, e3_1, w3_1, e3_3, w3_3, c3_4, e3_6, w3_6, e3_8, w3_8, e3_10, w3_10, e3_12, w3_12, c3_13, c3_14, c3_15, c3_16, c3_17, hv, Fares.row]
  first | refine callD (example35_ok) ?_ | refine callQD (example35_ok) ?_
  simp -implicitDefEqProofs (disch := omega) only [go_sem, Nat.reduceAdd, Nat.reduceMul, Nat.reduceSub, Nat.reduceBEq, Nat.reduceLeDiff, Nat.reduceLT, fn_transitlaw35_FareTexts, e3_1, w3_1, e3_3, w3_3, c3_4, e3_6, w3_6, e3_8, w3_8, e3_10, w3_10, e3_12, w3_12, c3_13, c3_14, c3_15, c3_16, c3_17]

end Go.Vm.C

