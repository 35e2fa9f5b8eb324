/- Trips, and the text of a trip's pattern. -/
import Derived.Test.YtjmpgjbbcfbhbaaDoorC1
import Derived.Test.YtjmpgjbbcfbhbaaDoorR0
import Derived.Test.YtjmpgjbbcfbhbaaDoorR1

namespace Go.Vm.C
open Go.Vm
set_option maxHeartbeats 1000000
set_option maxRecDepth 10000
set_option linter.unusedSimpArgs false
set_option linter.unusedVariables false

/-! ### Calls -/
structure Stay where
  stop : Int
  arrive : Int
  depart : Int
  board : Bool
  alight : Bool
def Stay.row (c : Stay) : List V := [.int .i64 c.stop, .int .i64 c.arrive, .int .i64 c.depart, .bool c.board, .bool c.alight]
def Stay.wf (c : Stay) : Prop := I64 c.stop ∧ I64 c.arrive ∧ I64 c.depart
def boards (l : List Stay) (j : Nat) : Bool := ((l[j]?).map Stay.board).getD false
def alights (l : List Stay) (j : Nat) : Bool := ((l[j]?).map Stay.alight).getD false

mutual
theorem under_mono {n m : Nat} (h : n ≤ m) : ∀ v : V, v.under n = true → v.under m = true
  | .ptr _ _, hv => by simp only [V.under, decide_eq_true_eq] at hv ⊢; omega
  | .eptr _ _ _ _, hv => by simp only [V.under, decide_eq_true_eq] at hv ⊢; omega
  | .mslice _ _ _ _, hv => by simp only [V.under, decide_eq_true_eq] at hv ⊢; omega
  | .map _, hv => by simp only [V.under, decide_eq_true_eq] at hv ⊢; omega
  | .fn _ caps, hv => by simp only [V.under] at hv ⊢; exact underL_mono h caps hv
  | .agg cells, hv => by simp only [V.under] at hv ⊢; exact underL_mono h cells hv
  | .tuple vs, hv => by simp only [V.under] at hv ⊢; exact underL_mono h vs hv
  | .undef, _ => rfl
  | .bool _, _ => rfl
  | .int _ _, _ => rfl
  | .str _, _ => rfl
  | .nilp, _ => rfl
  | .nilf, _ => rfl
  | .nilm, _ => rfl
  | .slice _ _, _ => rfl
  | .rref _, _ => rfl
  | .pfn _ _, _ => rfl
theorem underL_mono {n m : Nat} (h : n ≤ m) : ∀ vs : List V, underL n vs = true → underL m vs = true
  | [], _ => rfl
  | v :: vs, hv => by
    simp only [underL, Bool.and_eq_true] at hv ⊢
    exact ⟨under_mono h v hv.1, underL_mono h vs hv.2⟩
end
theorem memUnder_mono {n m : Nat} (h : n ≤ m) : ∀ M : Mem, memUnder n M = true → memUnder m M = true
  | [], _ => rfl
  | B :: M, hv => by
    simp only [memUnder, Bool.and_eq_true] at hv ⊢
    refine ⟨?_, memUnder_mono h M hv.2⟩
    cases B with
    | box cells => exact underL_mono h cells hv.1
    | arr _ _ _ _ => rfl
    | map _ => rfl
    | vec cells _ => exact underL_mono h cells hv.1
    | dead => rfl
theorem memUnder_app (n : Nat) : ∀ M L : Mem, memUnder n (M ++ L) = (memUnder n M && memUnder n L)
  | [], L => by simp [memUnder]
  | B :: M, L => by simp [memUnder, memUnder_app n M L, Bool.and_assoc]

/-- A memory that leads only to itself. -/
def Own (M : Mem) : Prop := memUnder M.length M = true
theorem Own.app {M L : Mem} (h : Own M) (hL : memUnder (M.length + L.length) L = true) : Own (M ++ L) := by
  unfold Own at *
  rw [memUnder_app, List.length_append, memUnder_mono (Nat.le_add_right _ _) M h, hL]; rfl

theorem get_at {α : Type} (M L : List α) (i : Nat) : (M ++ L)[M.length + i]? = L[i]? := by
  rw [List.getElem?_append_right (by omega), Nat.add_sub_cancel_left]
theorem get_at0 {α : Type} (M L : List α) : (M ++ L)[M.length]? = L[0]? := by
  rw [List.getElem?_append_right (by omega), Nat.sub_self]
theorem set_at {α : Type} (M L : List α) (i : Nat) (x : α) : (M ++ L).set (M.length + i) x = M ++ L.set i x := by
  rw [List.set_append, if_neg (by omega), Nat.add_sub_cancel_left]
theorem set_at0 {α : Type} (M L : List α) (x : α) : (M ++ L).set M.length x = M ++ L.set 0 x := by
  rw [List.set_append, if_neg (by omega), Nat.sub_self]

/-! ### Numbers modulo 2^64 -/
theorem u64_wrap (n : Int) : IntKind.u64.wrap n = n % 18446744073709551616 := by
  have e : (2 : Int) ^ IntKind.u64.bits = 18446744073709551616 := by decide
  unfold IntKind.wrap
  simp only [e, show IntKind.u64.signed = false from rfl, Bool.false_and]
  simp

theorem i64_wrap (n : Int) : IntKind.i64.wrap n = if n % 18446744073709551616 ≥ 9223372036854775808 then n % 18446744073709551616 - 18446744073709551616 else n % 18446744073709551616 := by
  have e : (2 : Int) ^ IntKind.i64.bits = 18446744073709551616 := by decide
  have e' : (2 : Int) ^ (IntKind.i64.bits - 1) = 9223372036854775808 := by decide
  unfold IntKind.wrap
  simp only [e, e', show IntKind.i64.signed = true from rfl, Bool.true_and, decide_eq_true_eq]


/-! ### Trips -/
structure Trp where
  id : List UInt8
  route : Int
  cal : Int
  free : Bool
  calls : List Stay
  tag : Cap
def Trp.row (t : Trp) : List V := [.str t.id, .int .i64 t.route, .int .i64 t.cal, .bool t.free, .slice (t.calls.map Stay.row) t.tag]
def Trp.wf (t : Trp) : Prop := t.id.length ≤ maxLen ∧ I64 t.route ∧ I64 t.cal ∧ (∀ c ∈ t.calls, c.wf) ∧ t.calls.length ≤ maxLen
theorem rep_bool {w : World} {Γ : Env} {b : Bool} {v : Value} (h : Rep w Γ (.bool b) v) : v = .bool b := by cases h; rfl
theorem rep_int {w : World} {Γ : Env} {k : IntKind} {n : Int} {v : Value} (h : Rep w Γ (.int k n) v) : v = .int k n := by cases h; rfl
theorem rep_str {w : World} {Γ : Env} {s : List UInt8} {v : Value} (h : Rep w Γ (.str s) v) : v = .string ⟨s.toArray⟩ := by cases h; rfl
theorem tab_of {w : World} (h : GT w) : Lib.TabIs Go.Proofs.Tryd.prog w "internal/strconv.uint64pow10" .u64 Lib.pow10Tab := by
  obtain ⟨T, f, h⟩ := h
  unfold Lib.TabIs World.var?
  rw [show Go.Proofs.Tryd.prog.globalNamed "internal/strconv.uint64pow10" = some 0 by kernel_rfl, Option.bind_some, h]
  simp [Lib.pow10Tab, Function.comp_def]
/-- The text of a pattern. -/
def keyL (l : List Stay) : List UInt8 := l.flatMap fun c => Lib.itoa c.stop ++ Go.Proofs.keyT c.board c.alight
theorem keyB_take (l : List Stay) : ∀ n, n ≤ l.length → Go.Proofs.keyB (fun j => ((l[j]?).map Stay.stop).getD 0) (fun j => ((l[j]?).map Stay.board).getD false) (fun j => ((l[j]?).map Stay.alight).getD false) n = keyL (l.take n)
  | 0, _ => rfl
  | n + 1, h => by
    have hx : l[n]? = some (l[n]'(by omega)) := by simp
    rw [Go.Proofs.keyB, keyB_take l n (by omega), List.take_add_one, hx]
    simp only [hx, keyL, List.flatMap_append, Option.toList_some, Option.map_some, Option.getD_some, List.flatMap_cons, List.flatMap_nil, List.append_nil, List.append_assoc]
theorem key_ok (t : Trp) (hl : t.calls.length ≤ 1000) (hw : ∀ c ∈ t.calls, c.wf) : PCalls PR C.i_trip_key [.agg t.row] (fun v => v = .str (keyL t.calls)) := by
  refine ⟨by kernel_rfl, ?_⟩
  intro w Γ cargs hg ⟨hsz, ha⟩
  have ra := ha 0 _ rfl
  have hc0 : cargs = #[cargs.getD 0 Go.undef] := by
    apply Array.ext
    · simpa using hsz
    · intro j h1 h2
      simp at h2
      subst h2
      simp [Array.getD, h1]
  generalize cargs.getD 0 Go.undef = av at ra hc0
  subst hc0
  have hlen0 : Γ.locs.length = 0 := by simpa using hg.len
  have hno : ∀ (i : Nat) (x : Loc), Γ.locs[i]? = some x → False := fun i x h => by
    have := (List.getElem?_eq_some_iff.1 h).1; omega
  have fin : ∀ w', Go.RowKit.Below w.heap.size w w' → Good w' Γ [] ∧ Ext w Γ w' Γ := fun w' hbl => by
    have hold : ∀ b o, Γ.S b o → w'.cell? ⟨b, o, none⟩ = w.cell? ⟨b, o, none⟩ := fun b o h => by
      obtain ⟨x, hx⟩ := hg.scell b o h
      exact hbl.cell (p := ⟨b, o, none⟩) (cell_lt hx)
    have he : Ext w Γ w' Γ := ⟨fun b o h => ⟨h, hold b o h⟩, fun i x h => (hno i x h).elim, rfl, hbl.mono hg.base, fun b o _ h => h⟩
    exact ⟨⟨by simpa using hg.len, fun i x B h => (hno i x h).elim, fun i x h => (hno i x h).elim, fun i j x y h => (hno i x h).elim, fun b o h => by obtain ⟨x, hx⟩ := hg.scell b o h; exact ⟨x, (hold b o h).trans hx⟩, Nat.le_trans hg.base hbl.size, hg.tab_ext he⟩, he⟩
  have htab : Lib.TabBelow Go.Proofs.Tryd.prog w.heap.size w "internal/strconv.uint64pow10" .u64 Lib.pow10Tab := fun w' hb => tab_of (hg.tab w' (hb.mono hg.base))
  cases ra with
  | agg _ cv hcl hr =>
    have g0 := rep_str (hr 0 _ rfl)
    have g1 := rep_int (hr 1 _ rfl)
    have g2 := rep_int (hr 2 _ rfl)
    have g3 := rep_bool (hr 3 _ rfl)
    have g4 := hr 4 _ rfl
    have hcv : cv = #[.string ⟨t.id.toArray⟩, .int .i64 t.route, .int .i64 t.cal, .bool t.free, cv.getD 4 Go.undef] := by
      apply Array.ext
      · simpa [Trp.row] using hcl
      · intro j h1 h2
        have h3 : cv[j] = cv.getD j Go.undef := by simp [Array.getD, h1]
        rw [h3]
        simp at h2
        rcases (by omega : j = 0 ∨ j = 1 ∨ j = 2 ∨ j = 3 ∨ j = 4) with rfl | rfl | rfl | rfl | rfl
        · rw [g0]; rfl
        · rw [g1]; rfl
        · rw [g2]; rfl
        · rw [g3]; rfl
        · rfl
    generalize cv.getD 4 Go.undef = sv at g4 hcv
    subst hcv
    have nilcase : ∀ (a : Option Addr) (cap : Nat), t.calls = [] → sv = .slice a 0 cap → _ := fun a cap h0 hs => (by
      subst hs
      exact (Go.Proofs.Tryd.key_nil ⟨t.id.toArray⟩ t.route t.cal t.free a cap w).mono fun e w' ⟨he, hbl⟩ => by
        obtain ⟨q1, q2⟩ := fin w' hbl
        exact ⟨.str [], _, Γ, [], he, ⟨by rw [h0]; rfl, rfl, rfl⟩, .str [], q1, q2⟩ : Go.Calls PR C.i_trip_key #[.agg #[.string ⟨t.id.toArray⟩, .int .i64 t.route, .int .i64 t.cal, .bool t.free, sv]] w (fun e w' => ∃ v cv Γ' M', e = .returned cv ∧ (v = .str (keyL t.calls) ∧ M' = [] ∧ v.under 0 = true) ∧ Rep w' Γ' v cv ∧ Good w' Γ' M' ∧ Ext w Γ w' Γ'))
    generalize hrr : t.calls.map Stay.row = rows at g4
    cases g4 with
    | sliceNil => exact nilcase none 0 (List.map_eq_nil_iff.1 hrr) rfl
    | sliceE _ _ p => exact nilcase (some p) 0 (List.map_eq_nil_iff.1 hrr) rfl
    | slice _ _ b o sz cap cc hc hf hcap hrsz hs hcell hp hrep =>
      subst hrr
      rw [List.length_map] at *
      rcases Nat.eq_zero_or_pos t.calls.length with h0 | h0
      · have := nilcase (some ⟨b, o, none⟩) cap (List.length_eq_zero_iff.1 h0) (by rw [h0])
        exact this
      have hget : ∀ i, i < t.calls.length → ∃ s, t.calls[i]? = some s ∧ s ∈ t.calls ∧ (t.calls.map Stay.row)[i]? = some s.row := fun i hi => ⟨t.calls[i], by simp [hi], by simp, by simp [hi]⟩
      have h5 : sz = 5 := by
        obtain ⟨s, _, _, h2⟩ := hget 0 h0
        exact (hrsz 0 s.row h2).symm
      subst h5
      have key := Go.Proofs.Tryd.key_in ⟨t.id.toArray⟩ t.route t.cal t.free b o t.calls.length cap (fun j => ((t.calls[j]?).map Stay.stop).getD 0) (fun j => ((t.calls[j]?).map Stay.arrive).getD 0) (fun j => ((t.calls[j]?).map Stay.depart).getD 0)
        (fun j => ((t.calls[j]?).map Stay.board).getD false) (fun j => ((t.calls[j]?).map Stay.alight).getD false) w hl
        (fun j hj => by
          obtain ⟨s, h1, h2, _⟩ := hget j hj
          have := (hw s h2).1
          simp only [h1, Option.map_some, Option.getD_some]
          exact this)
        (fun j hj => by
          obtain ⟨s, h1, h2, h3⟩ := hget j hj
          have e := rep_int (hrep j s.row 0 (.int .i64 s.stop) h3 rfl)
          have := hcell j 0 hj (by omega)
          rw [e] at this
          simpa [h1, Nat.add_assoc] using this)
        (fun j hj => by
          obtain ⟨s, h1, h2, h3⟩ := hget j hj
          have e := rep_int (hrep j s.row 1 (.int .i64 s.arrive) h3 rfl)
          have := hcell j 1 hj (by omega)
          rw [e] at this
          simpa [h1, Nat.add_assoc] using this)
        (fun j hj => by
          obtain ⟨s, h1, h2, h3⟩ := hget j hj
          have e := rep_int (hrep j s.row 2 (.int .i64 s.depart) h3 rfl)
          have := hcell j 2 hj (by omega)
          rw [e] at this
          simpa [h1, Nat.add_assoc] using this)
        (fun j hj => by
          obtain ⟨s, h1, h2, h3⟩ := hget j hj
          have e := rep_bool (hrep j s.row 3 (.bool s.board) h3 rfl)
          have := hcell j 3 hj (by omega)
          rw [e] at this
          simpa [h1, Nat.add_assoc] using this)
        (fun j hj => by
          obtain ⟨s, h1, h2, h3⟩ := hget j hj
          have e := rep_bool (hrep j s.row 4 (.bool s.alight) h3 rfl)
          have := hcell j 4 hj (by omega)
          rw [e] at this
          simpa [h1, Nat.add_assoc] using this) htab
      refine key.mono fun e w' ⟨he, hbl⟩ => ?_
      obtain ⟨q1, q2⟩ := fin w' hbl
      rw [keyB_take t.calls _ (Nat.le_refl _), List.take_length] at he
      exact ⟨.str (keyL t.calls), _, Γ, [], he, ⟨rfl, rfl, rfl⟩, .str _, q1, q2⟩

end Go.Vm.C

