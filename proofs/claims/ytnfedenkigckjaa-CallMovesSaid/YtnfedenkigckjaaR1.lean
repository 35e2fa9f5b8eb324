/- The iterator call.Rides and the function rides that runs it: which pairs come, for every list of at most 1000 calls. -/
import Derived.RangeFuncNested
import Derived.RangeFuncBound
import Derived.RangeFuncCalls
import Derived.RangeFuncLeaves
import Derived.RangeFuncBox
import Derived.Maps.AppendAt
import Derived.Shelf.Abstract
import Derived.WalkKit
import Derived.OwnWalkIn
import Derived.TacticsInMore
import Derived.LoopNIn
import Derived.LoopIn
import Derived.Scope
import Derived.Test.YtnfedenkigckjaaProg
namespace Go.Proofs
open Go.RowKit Go.Shelf
attribute [local go_sem] Oper.semAt_some
set_option maxRecDepth 100000
set_option maxHeartbeats 2000000

theorem Try.rid_in (F : Fence) (n : Nat) (h14 : F.fn 14) (hro : F.round = none) (b o len cap i k : Nat) (bo al : Nat → Bool) (W : World)
    (hb : ∀ j, j < len → W.cell? ⟨b, o + j * 5 + 3, none⟩ = some (.bool (bo j))) (ha : ∀ j, j < len → W.cell? ⟨b, o + j * 5 + 4, none⟩ = some (.bool (al j))) (hik : i < k) (hk : k < len) :
    CallsIn F n Try.prog 14 #[.slice (some ⟨b, o, none⟩) len cap, .int .i64 i, .int .i64 k] W fun e W' => e = .returned (.bool (bo i && al k)) ∧ W' = W := by
  refine callsIn_of_wp Try.func14 rfl h14 ?_ hro
  simp only [Try.ntmps14, List.size_toArray, List.length_cons, List.length_nil, Nat.reduceAdd, Nat.reduceSub, Array.replicate_succ, Array.replicate_zero, List.push_toArray, List.append_toArray, List.nil_append, List.cons_append]
  have hbi := hb i (by omega)
  have hak := ha k hk
  gi_wp2
  · have h : bo i = true := by assumption
    go_ret
    simp [h]
  · have h : ¬ bo i = true := by assumption
    go_ret
    simp [h]

/-- The pairs with the first index i and the second one below k. -/
def rowP (t : Nat → Nat → Bool) (i : Nat) : Nat → List (Nat × Nat)
  | 0 => []
  | k + 1 => rowP t i k ++ if i < k ∧ t i k = true then [(i, k)] else []
/-- The pairs whose first index is below i. -/
def pairsTo (t : Nat → Nat → Bool) (n : Nat) : Nat → List (Nat × Nat)
  | 0 => []
  | i + 1 => pairsTo t n i ++ rowP t i n
theorem rowP_start (t : Nat → Nat → Bool) (i : Nat) : ∀ k, k ≤ i + 1 → rowP t i k = []
  | 0, _ => rfl
  | k + 1, h => by rw [rowP, rowP_start t i k (by omega), if_neg (by omega)]; rfl
theorem rowP_hit {t : Nat → Nat → Bool} {i k : Nat} (h : i < k) (ht : t i k = true) : rowP t i (k + 1) = rowP t i k ++ [(i, k)] := by rw [rowP, if_pos ⟨h, ht⟩]
theorem rowP_miss {t : Nat → Nat → Bool} {i k : Nat} (ht : t i k = false) : rowP t i (k + 1) = rowP t i k := by rw [rowP, if_neg (by simp [ht]), List.append_nil]
theorem rowP_pre (t : Nat → Nat → Bool) (i k : Nat) : ∀ m, rowP t i k <+: rowP t i (k + m)
  | 0 => List.prefix_rfl
  | m + 1 => (rowP_pre t i k m).trans (by rw [← Nat.add_assoc, rowP]; exact List.prefix_append _ _)
theorem pairsTo_pre (t : Nat → Nat → Bool) (n i : Nat) : ∀ m, pairsTo t n i <+: pairsTo t n (i + m)
  | 0 => List.prefix_rfl
  | m + 1 => (pairsTo_pre t n i m).trans (by rw [← Nat.add_assoc, pairsTo]; exact List.prefix_append _ _)
theorem pairs_pre {t : Nat → Nat → Bool} {n i k : Nat} (hi : i < n) (hk : k ≤ n) : pairsTo t n i ++ rowP t i k <+: pairsTo t n n := by
  obtain ⟨m, rfl⟩ : ∃ m, n = (i + 1) + m := ⟨n - (i + 1), by omega⟩
  refine List.IsPrefix.trans ?_ (pairsTo_pre t (i + 1 + m) (i + 1) m)
  rw [pairsTo]
  obtain ⟨d, hd⟩ : ∃ d, i + 1 + m = k + d := ⟨i + 1 + m - k, by omega⟩
  have := rowP_pre t i k d
  rw [← hd] at this
  obtain ⟨r, hr⟩ := this
  exact ⟨r, by rw [List.append_assoc, hr]⟩

theorem Try.rides1_in (n : Nat) (hn : 1 ≤ n) (l Bs n₀ b o len cap : Nat) (bo al : Nat → Bool) (hreach : len * 80 ≤ 140737488351232) (hbn : b < n₀) (hBs0 : Bs < n₀) (J Jx : List (Nat × Nat) → World → Prop)
    (hY : ∀ pre x W, J pre W → pre.length < (pairsTo (fun i k => bo i && al k) len len).length → YieldAt Fence.wide (n - 1) Try.prog l #[.int .i64 (x.1 : Int), .int .i64 (x.2 : Int)] W fun e W' =>
      (e = .returned (.bool true) ∧ J (pre ++ [x]) W' ∧ Below n₀ W W') ∨ (e = .returned (.bool false) ∧ Jx (pre ++ [x]) W'))
    (W : World) (hBs : W.cell? ⟨Bs, 0, none⟩ = some (.slice (some ⟨b, o, none⟩) len cap))
    (hb : ∀ j, j < len → W.cell? ⟨b, o + j * 5 + 3, none⟩ = some (.bool (bo j))) (ha : ∀ j, j < len → W.cell? ⟨b, o + j * 5 + 4, none⟩ = some (.bool (al j))) (h0 : J [] W) :
    CallsIn Fence.wide n Try.prog 30 #[.func (.yield l) #[] #[], .pointer (some ⟨Bs, 0, none⟩)] W fun e W' => (∃ v, e = .returned v) ∧
      ((∃ ys, ys = pairsTo (fun i k => bo i && al k) len len ∧ J ys W') ∨ (∃ pre, pre <+: pairsTo (fun i k => bo i && al k) len len ∧ Jx pre W')) := by
  refine callsIn_of_wp Try.func30 rfl trivial ?_ rfl
  simp only [Try.ntmps30, List.size_toArray, List.length_cons, List.length_nil, Nat.reduceAdd, Nat.reduceSub, Array.replicate_succ, Array.replicate_zero, List.push_toArray, List.append_toArray, List.nil_append, List.cons_append]
  gi_wp2
  refine wpIn_wide.2 (wp_scope_straight ((wpIn_wide (n := n)).1 ?_))
  refine wpIn_seq ?_
  refine wpIn_label ?_
  gi_wp2
  gi_loopw [7] (fun i wr => ∃ k : Nat, k ≤ len ∧ i = .int .i64 k ∧ J (pairsTo (fun i k => bo i && al k) len k) wr ∧ Below n₀ W wr)
    (fun i _ => len - (intOf i).toNat)
  case atStart => exact ⟨0, Nat.zero_le _, rfl, h0, Below.refl _ _⟩
  case round =>
    obtain ⟨i, hi, rfl, hJs, hnx⟩ := hrel
    have hBs' : wr.cell? ⟨Bs, 0, none⟩ = some (.slice (some ⟨b, o, none⟩) len cap) := (hnx.cell (p := ⟨Bs, 0, none⟩) hBs0).trans hBs
    by_cases hlt : i < len
    · gi_wp2
      gi_loopw [4] (fun p wr2 => ∃ k : Nat, i + 1 ≤ k ∧ k ≤ len ∧ p = .int .i64 k ∧ J (pairsTo (fun i k => bo i && al k) len i ++ rowP (fun i k => bo i && al k) i k) wr2 ∧ Below n₀ W wr2)
        (fun p _ => len - (intOf p).toNat)
      case atStart => exact ⟨i + 1, Nat.le_refl _, hlt, by simp, by rw [rowP_start _ _ _ (Nat.le_refl _), List.append_nil]; exact hJs, hnx⟩
      case round =>
        obtain ⟨k, hik, hk, rfl, hJk, hnk⟩ := hrel
        have hBk := (hnk.cell (p := ⟨Bs, 0, none⟩) hBs0).trans hBs
        have hbk : ∀ j, j < len → wr.cell? ⟨b, o + j * 5 + 3, none⟩ = some (.bool (bo j)) := fun j hj => (hnk.cell (p := ⟨b, o + j * 5 + 3, none⟩) hbn).trans (hb j hj)
        have hak : ∀ j, j < len → wr.cell? ⟨b, o + j * 5 + 4, none⟩ = some (.bool (al j)) := fun j hj => (hnk.cell (p := ⟨b, o + j * 5 + 4, none⟩) hbn).trans (ha j hj)
        by_cases hkl : k < len
        · have hR14 := Try.rid_in Fence.wide (n - 1) trivial rfl b o len cap i k bo al wr hbk hak (by omega) hkl
          by_cases ht : (bo i && al k) = true
          · obtain ⟨fn, tmps, assign, body, hy, hR⟩ := hY _ (i, k) wr hJk (by
              have := (pairs_pre (t := fun i k => bo i && al k) (n := len) (i := i) (k := k + 1) hlt hkl).length_le
              rw [rowP_hit (t := fun i k => bo i && al k) (by omega) ht] at this
              simp only [List.length_append, List.length_cons, List.length_nil] at this ⊢
              omega)
            dsimp only at hy
            rw [ht] at hR14
            gi_wp2_with (refine ⟨trivial, ?_⟩; gi_at_call 14; refine hR14.mono ?_; rintro e w' ⟨rfl, rfl⟩)
            refine hR.mono ?_
            rintro e W3 (⟨rfl, hJ3, hk3⟩ | ⟨rfl, hJx3⟩)
            · gi_wp2
              go_roundw
              case rel => exact ⟨k + 1, by omega, by omega, by simp, by rw [rowP_hit (t := fun i k => bo i && al k) (by omega) ht, ← List.append_assoc]; exact hJ3, hnk.trans hk3⟩
              case measure => simp [intOf]; omega
            · gi_wp2
              simp only [Exit.noGoto]
              go_end0
              refine ⟨⟨_, rfl⟩, .inr ⟨_, ?_, hJx3⟩⟩
              have := pairs_pre (t := fun i k => bo i && al k) (n := len) (i := i) (k := k + 1) hlt hkl
              rw [rowP_hit (t := fun i k => bo i && al k) (by omega) ht, ← List.append_assoc] at this
              exact this
          · have ht' : (bo i && al k) = false := by simpa using ht
            rw [ht'] at hR14
            gi_wp2_with (refine ⟨trivial, ?_⟩; gi_at_call 14; refine hR14.mono ?_; rintro e w' ⟨rfl, rfl⟩)
            refine ⟨fun _ h => (by cases h), ?_⟩
            gi_wp2
            go_roundw
            case rel => exact ⟨k + 1, by omega, by omega, by simp, by rw [rowP_miss (t := fun i k => bo i && al k) ht']; exact hJk, hnk⟩
            case measure => simp [intOf]; omega
        · obtain rfl : k = len := by omega
          gi_wp2
          go_roundw
          case rel => exact ⟨i + 1, by omega, by simp, hJk, hnk⟩
          case measure => simp [intOf]; omega
    · obtain rfl : i = len := by omega
      gi_wp2
      simp only [Exit.noGoto]
      go_end0
      exact ⟨⟨_, rfl⟩, .inl ⟨_, rfl, hJs⟩⟩
theorem Try.rides1_nil (n : Nat) (l Bs cap : Nat) (a : Option Addr) (J : List (Nat × Nat) → World → Prop) (W : World) (hBs : W.cell? ⟨Bs, 0, none⟩ = some (.slice a 0 cap)) (h0 : J [] W) :
    CallsIn Fence.wide n Try.prog 30 #[.func (.yield l) #[] #[], .pointer (some ⟨Bs, 0, none⟩)] W fun e W' => (∃ v, e = .returned v) ∧ J [] W' := by
  refine callsIn_of_wp Try.func30 rfl trivial ?_ rfl
  simp only [Try.ntmps30, List.size_toArray, List.length_cons, List.length_nil, Nat.reduceAdd, Nat.reduceSub, Array.replicate_succ, Array.replicate_zero, List.push_toArray, List.append_toArray, List.nil_append, List.cons_append]
  gi_wp2
  refine wpIn_wide.2 (wp_scope_straight ((wpIn_wide (n := n)).1 ?_))
  refine wpIn_seq ?_
  refine wpIn_label ?_
  gi_wp2
  gi_loopw [7] (fun i wr => i = .int .i64 0 ∧ J [] wr) (fun _ _ => 0)
  case atStart => exact ⟨rfl, h0⟩
  case round =>
    obtain ⟨rfl, hJs⟩ := hrel
    gi_wp2
    simp only [Exit.noGoto]
    go_end0
    exact ⟨⟨_, rfl⟩, hJs⟩

theorem Try.seq_in (n : Nat) (a : Option Addr) (len cap : Nat) (w : World) :
    CallsIn Fence.wide n Try.prog 29 #[.slice a len cap] w fun e w' => e = .returned (.func (.func 30) #[] #[.pointer (some ⟨w.heap.size, 0, none⟩)]) ∧ w' = w.alloc (.cells #[.slice a len cap] 22) := by
  refine callsIn_of_wp Try.func29 rfl trivial ?_ rfl
  simp only [Try.ntmps29, List.size_toArray, List.length_cons, List.length_nil, Nat.reduceAdd, Nat.reduceSub, Array.replicate_succ, Array.replicate_zero, List.push_toArray, List.append_toArray, List.nil_append, List.cons_append]
  gi_wp2
  go_ret
  exact ⟨rfl, rfl⟩

/-- The slice value holds len calls, read in blocks below n₀: who may board, who may alight. -/
def Try.Calls (n₀ : Nat) (W : World) (sv : Value) (len : Nat) (bo al : Nat → Bool) : Prop :=
  ∃ a cap, sv = .slice a len cap ∧ (len = 0 ∨ ∃ b o, a = some ⟨b, o, none⟩ ∧ b < n₀ ∧ (∀ j, j < len → W.cell? ⟨b, o + j * 5 + 3, none⟩ = some (.bool (bo j))) ∧ (∀ j, j < len → W.cell? ⟨b, o + j * 5 + 4, none⟩ = some (.bool (al j))))
abbrev pairsOf (bo al : Nat → Bool) (len : Nat) : List (Nat × Nat) := pairsTo (fun i k => bo i && al k) len len
theorem Try.stops (n : Nat) (hn : 1 ≤ n) (Bs n₀ : Nat) (sv : Value) (len : Nat) (bo al : Nat → Bool) (hreach : len * 80 ≤ 140737488351232) (w : World) (hBs : Bs < w.heap.size) (hn₀ : n₀ ≤ w.heap.size) (hBn : Bs < n₀)
    (hc : w.cell? ⟨Bs, 0, none⟩ = some sv) (hI : Try.Calls n₀ w sv len bo al) :
    SeqStopsK Fence.wide n Try.prog 30 #[.pointer (some ⟨Bs, 0, none⟩)] (fun x : Nat × Nat => #[Value.int .i64 (x.1 : Int), Value.int .i64 (x.2 : Int)]) (Below n₀) (fun ys => ys = pairsOf bo al len) (fun pre => pre <+: pairsOf bo al len) (pairsOf bo al len).length w := fun l J Jx W hW _ _ hY h0 => by
  have hc' := (hW.cell (p := ⟨Bs, 0, none⟩) hBs).trans hc
  obtain ⟨a, cap, rfl, rfl | ⟨b, o, rfl, hb, h3, h4⟩⟩ := hI
  · exact (Try.rides1_nil n l Bs cap a J W hc' h0).mono fun e W' ⟨he, hj⟩ => ⟨he, .inl ⟨_, rfl, hj⟩⟩
  · exact Try.rides1_in n hn l Bs n₀ b o len cap bo al hreach hb hBn J Jx hY W hc'
      (fun j hj => ((hW.mono hn₀).cell (p := ⟨b, o + j * 5 + 3, none⟩) hb).trans (h3 j hj)) (fun j hj => ((hW.mono hn₀).cell (p := ⟨b, o + j * 5 + 4, none⟩) hb).trans (h4 j hj)) h0

theorem Try.info37 : (Try.prog.info? 37).map (fun i => (i.zero, i.size, i.bytes)) = some (some (.agg #[.int .i64 0, .int .i64 0]), 2, 16) := by kernel_rfl
def flatP (L : List (Nat × Nat)) : List Value := L.flatMap fun x => [Value.int .i64 (x.1 : Int), Value.int .i64 (x.2 : Int)]
theorem flatP_snoc (L : List (Nat × Nat)) (x : Nat × Nat) : flatP (L ++ [x]) = flatP L ++ [Value.int .i64 (x.1 : Int), Value.int .i64 (x.2 : Int)] := by simp [flatP]

theorem cell_two_new (W : World) (x y : Value) (t : TypeId) : ∀ j u, [x, y][j]? = some u → (W.alloc (.cells #[x, y] t)).cell? ((⟨W.heap.size, 0, none⟩ : Addr).add j) = some u := by
  intro j u h
  match j, h with
  | 0, h =>
    simp at h; subst h
    show (W.alloc _).cell? ⟨W.heap.size, 0, none⟩ = _
    unfold World.cell?
    rw [World.alloc_heap_new]
    rfl
  | 1, h =>
    simp at h; subst h
    show (W.alloc _).cell? ⟨W.heap.size, 0 + 1, none⟩ = _
    unfold World.cell?
    rw [World.alloc_heap_new]
    rfl
theorem ownsRow_base {W : World} {base base' : Nat} {e : TypeId} {size : Nat} {v : Value} {k : Nat} {xs : List Value} (h : W.ownsRow base e size v k xs) (hb : base' ≤ base) : W.ownsRow base' e size v k xs := by
  refine ⟨h.1, ?_⟩
  rcases h.2 with h | ⟨g, cap, cur, e1, e2, r⟩
  · exact .inl h
  · exact .inr ⟨g, cap, cur, e1, by omega, r⟩
theorem ownsRow_form {W : World} {base : Nat} {e : TypeId} {size : Nat} {v : Value} {k : Nat} {xs : List Value} (h : W.ownsRow base e size v k xs) : ∃ q cap, v = .slice q k cap := by
  rcases h.2 with ⟨rfl, rfl⟩ | ⟨g, cap, _, rfl, _⟩
  · exact ⟨none, 0, rfl⟩
  · exact ⟨_, cap, rfl⟩
theorem boxed_ownF {β : Type} (n B : Nat) (t : TypeId) (v : Value) : OwnFrom (β := β) n (fun _ W => Boxed W B t v) := by
  intro s X Y row h hg hr
  refine Boxed.kept h hg (fun e => ?_)
  obtain ⟨_, o, ho, hc⟩ := hr B e.symm
  rw [show X.heap[B]? = _ from h] at ho; cases ho; cases hc
theorem pure_ownF {β : Type} (n : Nat) (p : β → Prop) : OwnFrom (β := β) n (fun s _ => p s) := fun _ _ _ _ h _ _ => h
/-- Between two rounds: the pairs so far in the box at k + 2, the bound in the box at k. -/
def Try.Inv (k : Nat) (m : Int) (w : World) (pre : List (Nat × Nat)) (W : World) : Prop :=
  (∃ v, Boxed W (k + 1 + 1) 33 v ∧ W.ownsRow (k + 1 + 1) 37 2 v pre.length (flatP pre) ∧ True) ∧ Boxed W k 3 (.int .i64 m) ∧ pre.length ≤ m.toNat ∧ Below k w W
theorem Try.inv_own {k : Nat} {m : Int} {w : World} {n : Nat} (hk : k ≤ n) (hkw : k ≤ w.heap.size) : OwnFrom n (Try.Inv k m w) :=
  OwnFrom.and (Own.from (holdsRow_own (k + 1 + 1) (k + 1 + 1) 33 37 2 (fun pre : List (Nat × Nat) => pre.length) flatP (fun _ _ => True)) _) (OwnFrom.and (boxed_ownF _ _ _ _) (OwnFrom.and (pure_ownF _ (fun pre : List (Nat × Nat) => pre.length ≤ m.toNat)) (ownFrom_below hkw hk)))
theorem rowP_len (t : Nat → Nat → Bool) (i : Nat) : ∀ k, (rowP t i k).length ≤ k
  | 0 => Nat.le_refl _
  | k + 1 => by
    have := rowP_len t i k
    rw [rowP, List.length_append]
    split <;> simp <;> omega
theorem pairsTo_len (t : Nat → Nat → Bool) (n : Nat) : ∀ i, (pairsTo t n i).length ≤ i * n
  | 0 => by simp [pairsTo]
  | i + 1 => by
    have h1 := pairsTo_len t n i
    have h2 := rowP_len t i n
    rw [pairsTo, List.length_append, Nat.add_mul, Nat.one_mul]
    omega
theorem Try.fn_nil (b : Nat) (W : World) : (Sem.run Try.prog (binOp BinOp.eql 51 (Value.func (Fn.func 30) #[] #[Value.pointer (some ⟨b, 0, none⟩)]) Value.nilFunc) W) = .ok (.bool false) W := by kernel_rfl
attribute [local go_sem] Try.fn_nil
theorem Try.rides_in (n : Nat) (hn : 3 ≤ n) (a : Option Addr) (len cap : Nat) (m : Int) (bo al : Nat → Bool) (hlen : len ≤ 1000) (w : World) (hI : Try.Calls w.heap.size w (.slice a len cap) len bo al) :
    CallsIn Fence.wide n Try.prog 16 #[.slice a len cap, .int .i64 m] w fun e W' => ∃ v, e = .returned (.tuple #[v, .bool true]) ∧
      W'.ownsRow w.heap.size 37 2 v ((pairsOf bo al len).take m.toNat).length (flatP ((pairsOf bo al len).take m.toNat)) ∧ Below w.heap.size w W' := by
  have h1 : 1 ≤ n := by omega
  obtain ⟨i0, hi, hz0, hz1, hz2⟩ := info_parts Try.info37
  refine callsIn_of_wp_marks Try.func16 rfl trivial ?_ rfl
  simp only [Try.ntmps16, List.size_toArray, List.length_cons, List.length_nil, Nat.reduceAdd, Nat.reduceSub, Array.replicate_succ, Array.replicate_zero, List.push_toArray, List.append_toArray, List.nil_append, List.cons_append]
  gi_wp2_with (refine ⟨trivial, ?_⟩; gi_at_call 29; refine (Try.seq_in (n - 1) _ _ _ _).mono ?_; rintro e w' ⟨rfl, rfl⟩)
  have b0 := Boxed.new w 3 (.int .i64 m)
  have b1 := Boxed.new (w.alloc (.cells #[.int .i64 m] 3)) 22 (.slice a len cap)
  have b2 := Boxed.new ((w.alloc (.cells #[.int .i64 m] 3)).alloc (.cells #[.slice a len cap] 22)) 33 (.slice none 0 0)
  simp only [World.size_alloc] at b1 b2
  have hB1 : Below w.heap.size w ((w.alloc (.cells #[.int .i64 m] 3)).alloc (.cells #[.slice a len cap] 22)) := ((Below.refl _ w).alloc (Nat.le_refl _) _).alloc (by simp) _
  have hB0 : Below w.heap.size w (((w.alloc (.cells #[.int .i64 m] 3)).alloc (.cells #[.slice a len cap] 22)).alloc (.cells #[.slice none 0 0] 33)) := hB1.alloc (by simp; omega) _
  have hIC : Try.Calls (w.heap.size + 1 + 1) (((w.alloc (.cells #[.int .i64 m] 3)).alloc (.cells #[.slice a len cap] 22)).alloc (.cells #[.slice none 0 0] 33)) (.slice a len cap) len bo al := by
    obtain ⟨a', cap', he, h⟩ := hI
    cases he
    refine ⟨a, cap, rfl, ?_⟩
    rcases h with h | ⟨b, o, rfl, hb, h3, h4⟩
    · exact .inl h
    · exact .inr ⟨b, o, rfl, by omega, fun j hj => (hB0.cell (p := ⟨b, o + j * 5 + 3, none⟩) hb).trans (h3 j hj), fun j hj => (hB0.cell (p := ⟨b, o + j * 5 + 4, none⟩) hb).trans (h4 j hj)⟩
  refine wpIn_rangeFunc_ownG rfl h1 (gf := 30) (lb := #[.pointer (some ⟨w.heap.size + 1, 0, none⟩)]) rfl trivial (enters_of Try.func30 (by kernel_rfl) rfl)
    (Try.stops (n - 1) (by omega) (w.heap.size + 1) (w.heap.size + 1 + 1) (.slice a len cap) len bo al (by omega) _ (by simp) (by simp) (by omega) (b1.alloc _).cell hIC) belowK_t (belowK_b (by simp)) (Below.refl _ _) (fun _ => rfl)
    (Try.Inv w.heap.size m w)
    (fun c pre' W => c = .exit 0 ∧ ∃ pre x, pre' = pre ++ [x] ∧ m ≤ pre.length ∧ Try.Inv w.heap.size m w pre W)
    (Try.inv_own (by simp; omega) (Nat.le_refl _))
    (fun c s X Y row h hg hr => by
      obtain ⟨hc, pre, x, e, hm, hI⟩ := h
      exact ⟨hc, pre, x, e, hm, Try.inv_own (by simp; omega) (Nat.le_refl _) pre X Y row hI hg hr⟩)
    ⟨⟨_, b2, World.ownsRow_nil _ _ _ _, trivial⟩, (b0.alloc _).alloc _, by simp, hB0⟩
    (fun x => { tmps := #[.slice a len cap, .int .i64 m, undef, .pointer (some ⟨w.heap.size, 0, none⟩), .slice none 0 0, .bool false, .func (.func 30) #[] #[.pointer (some ⟨w.heap.size + 1, 0, none⟩)], .pointer (some ⟨w.heap.size + 1 + 1, 0, none⟩), .int .i64 x.1, .int .i64 x.2, .slice a len cap, .func (.func 30) #[] #[.pointer (some ⟨w.heap.size + 1, 0, none⟩)], .func (.func 30) #[] #[.pointer (some ⟨w.heap.size + 1, 0, none⟩)], .bool false, .func (.func 30) #[] #[.pointer (some ⟨w.heap.size + 1, 0, none⟩)], .int .i64 x.1, .int .i64 x.2, undef, undef, undef, undef, undef, undef, undef, undef, undef, undef, undef], defers := [] }) ?assign ?body ?done ?stop
  case assign =>
    intro l x W K hK
    gi_wp2
    exact hK
  case body =>
    rintro l pre x W ⟨⟨v, hv, hrow, _⟩, hm, hle, hB⟩ hlt
    obtain ⟨q, cp, rfl⟩ := ownsRow_form hrow
    have hc := hv.cell
    have hmc := hm.cell
    have hsz := hB.size
    have hpl : pre.length ≤ 1000000 := by
      have h1 : (pairsOf bo al len).length ≤ len * len := pairsTo_len (fun i k => bo i && al k) len len
      have h2 : len * len ≤ 1000 * 1000 := Nat.mul_le_mul hlen hlen
      omega
    by_cases hge : m ≤ pre.length
    · gi_wp2
      exact ⟨KeepsFrom.refl _ _, rfl, pre, x, rfl, hge, ⟨_, hv, hrow, trivial⟩, hm, hle, hB⟩
    · gi_wp2_with (gi_at_builtin; refine wpListIn_append_own _ rfl _ _ 33 rfl (w.heap.size + 1 + 1) 37 i0 (.agg #[.int .i64 0, .int .i64 0]) 2 16 Try.underlying33 hi hz0 hz1 hz2 rfl (by decide) _ _ _ rfl (hrow.alloc _) ⟨W.heap.size, 0, none⟩ 1 1 [.int .i64 x.1, .int .i64 x.2] rfl rfl (cell_two_new _ _ _ _) (by simp [Value.oneCell']) (by have : maxLen = 9223372036854775807 := rfl; omega) (by omega) (by have := hv.lt; simp; omega) ?_; intro v' w1 hown' hgrow _; obtain ⟨g', cap', rfl⟩ := ownsRow_succ hown'; obtain ⟨hv1, hv2, hr2, hk2, hb2⟩ := hv.appended (by decide) hrow (Nat.le_of_lt hv.lt) (Nat.le_refl _) hown' hgrow; have hm1 := ((hm.alloc _).kept hgrow (hm.not_row (by decide) hrow)).kept (grownBy_setCell' w1 (w.heap.size + 1 + 1) (.slice (some ⟨g', 0, none⟩) (pre.length + 1) cap')) (by simp; omega); have hc1 := hv1.cell; have hf1 := hv1.frozen)
      exact ⟨hk2.from _, hb2, ⟨_, hv2, by rw [flatP_snoc]; simpa using hr2, trivial⟩, hm1, by simp; omega, hB.trans (hb2.mono (by omega))⟩
  case done =>
    rintro D ys W hD rfl ⟨⟨v, hv, hrow, _⟩, hm, hle, hB⟩ hK
    have hc := hv.cell
    gi_wp2
    refine ⟨by simp, .inl ⟨_, _, rfl, run_takeDeferred hK, ?_⟩⟩
    have htk : (pairsOf bo al len).take m.toNat = pairsOf bo al len := List.take_of_length_le hle
    rw [htk]
    refine ⟨.tuple #[v, .bool true], ?_, v, rfl, ownsRow_base (ownsRow_putObj hrow _ hK rfl) (by omega), hB.trans (belowK_b (w := w) (Nat.le_refl _) W D _ _ (by simp at hD; omega) hK rfl rfl)⟩
    simp [results, Try.f16, go_sem]
  case stop =>
    rintro D c pre' W hD hpre ⟨rfl, pre, x, rfl, hge, ⟨v, hv, hrow, _⟩, hm, hle, hB⟩ hK
    have hc := hv.cell
    gi_wp2
    refine ⟨by simp, .inl ⟨_, _, rfl, run_takeDeferred hK, ?_⟩⟩
    have htk : (pairsOf bo al len).take m.toNat = pre := by
      have e : m.toNat = pre.length := by omega
      obtain ⟨r, hr⟩ := hpre
      rw [← hr, e, List.append_assoc, List.take_left]
    rw [htk]
    refine ⟨.tuple #[v, .bool true], ?_, v, rfl, ownsRow_base (ownsRow_putObj hrow _ hK rfl) (by omega), hB.trans (belowK_b (w := w) (Nat.le_refl _) W D _ _ (by simp at hD; omega) hK rfl rfl)⟩
    simp [results, Try.f16, go_sem]
end Go.Proofs
