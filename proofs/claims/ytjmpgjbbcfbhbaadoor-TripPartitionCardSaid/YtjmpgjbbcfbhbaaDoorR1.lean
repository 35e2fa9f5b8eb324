/- The function trip.key: a text for each list of at most 1000 calls. -/
import Derived.Test.YtjmpgjbbcfbhbaaDoorR0
import Derived.Tactics
import Derived.Tactics2
import Derived.StillTactics
import Derived.Laws.Wrap64
import Derived.Laws.Pointers
import Derived.Laws.Cells
import Derived.Laws.Entries
import Derived.Laws.Sem
import Derived.Laws.IdiomStrings
import Derived.Scope
import Derived.LoopTactic
import Derived.LoopN
import Derived.RowKit
import Derived.Below
import Derived.Lib.Walk
import Derived.Lib.AppendIntMem
import Derived.Lib.BufferKept
import Derived.Lib.OwnKind
import Derived.Lib.Slices
import Derived.OwnWalk
import Derived.WalkKit
import Derived.BigCall
import Derived.BigGuard
import Derived.Lib.Hide
import Derived.Lib.ItoaLen
namespace Go.Proofs
open Go.RowKit Go.Sort Go.Lib Go.Shelf
set_option maxRecDepth 100000
set_option maxHeartbeats 4000000
theorem blk_new (w : World) (o : Obj) : (w.alloc o).heap[w.heap.size]? = some o := by
  show (w.heap.push o)[w.heap.size]? = _
  simp
theorem cell_blk {w : World} {b o : Nat} {c : Array Value} {T : TypeId} {f : Nat × Nat} (h : w.heap[b]? = some (.cells c T f)) : w.cell? ⟨b, o, none⟩ = c[o]? := by
  simp [World.cell?, h]
def keyT (b a : Bool) : List UInt8 := match b, a with | true, true => [43] | true, false => [98] | false, true => [97] | false, false => [45, 46]
def keyB (st : Nat → Int) (bo al : Nat → Bool) : Nat → List UInt8
  | 0 => []
  | k + 1 => keyB st bo al k ++ Lib.itoa (st k) ++ keyT (bo k) (al k)
theorem keyB_len (st : Nat → Int) (bo al : Nat → Bool) : ∀ n, (∀ k, k < n → -9223372036854775808 ≤ st k ∧ st k ≤ 9223372036854775807) → (keyB st bo al n).length ≤ n * 23
  | 0, _ => Nat.le_refl _
  | n + 1, h => by
    have ih := keyB_len st bo al n fun k hk => h k (by omega)
    have h2 := Lib.itoa_length_le (st n) (h n (by omega)).1 (h n (by omega)).2
    have h3 : (keyT (bo n) (al n)).length ≤ 2 := by cases bo n <;> cases al n <;> decide
    simp only [keyB, List.length_append]
    omega
theorem Tryd.key_in (id : ByteArray) (r c : Int) (sf : Bool) (b o len cap : Nat) (st ar de : Nat → Int) (bo al : Nat → Bool) (w : World) (hlen : len ≤ 1000) (hst : ∀ j, j < len → -9223372036854775808 ≤ st j ∧ st j ≤ 9223372036854775807)
    (h0 : ∀ j, j < len → w.cell? ⟨b, o + j * 5, none⟩ = some (.int .i64 (st j))) (h1 : ∀ j, j < len → w.cell? ⟨b, o + j * 5 + 1, none⟩ = some (.int .i64 (ar j))) (h2 : ∀ j, j < len → w.cell? ⟨b, o + j * 5 + 2, none⟩ = some (.int .i64 (de j)))
    (h3 : ∀ j, j < len → w.cell? ⟨b, o + j * 5 + 3, none⟩ = some (.bool (bo j))) (h4 : ∀ j, j < len → w.cell? ⟨b, o + j * 5 + 4, none⟩ = some (.bool (al j)))
    (htab : Lib.TabBelow Tryd.prog w.heap.size w "internal/strconv.uint64pow10" .u64 Lib.pow10Tab) :
    Calls Tryd.prog 34 #[.agg #[.string id, .int .i64 r, .int .i64 c, .bool sf, .slice (some ⟨b, o, none⟩) len cap]] w fun e w' => e = .returned (.string ⟨(keyB st bo al len).toArray⟩) ∧ Below w.heap.size w w' := by
  go_enter Tryd.func34, Tryd.ntmps34
  go_wp2
  go_loopw [3, 9] (fun sv i wr => ∃ k : Nat, k ≤ len ∧ i = .int .i64 k ∧ wr.ownsRow w.heap.size 5 1 sv (keyB st bo al k).length (Lib.byteCells (keyB st bo al k)) ∧ Below w.heap.size w wr) (fun _ i _ => len - (RowKit.intOf i).toNat)
  case atStart => exact ⟨0, Nat.zero_le _, rfl, ⟨rfl, .inl ⟨rfl, rfl⟩⟩, (RowKit.Below.refl _ w).alloc (Nat.le_refl _) _⟩
  case round =>
    obtain ⟨k, hk, rfl, hown, hbl⟩ := hrel
    by_cases hlt : k < len
    · have hbw : b < w.heap.size := World.block_lt_of_cell? (a := ⟨b, o + k * 5, none⟩) w (h0 k hlt)
      have c0 : wr.cell? ⟨b, o + k * 5, none⟩ = some (.int .i64 (st k)) := (hbl.cell (p := ⟨b, o + k * 5, none⟩) hbw).trans (h0 k hlt)
      have c1 : wr.cell? ⟨b, o + k * 5 + 1, none⟩ = some (.int .i64 (ar k)) := (hbl.cell (p := ⟨b, o + k * 5 + 1, none⟩) hbw).trans (h1 k hlt)
      have c2 : wr.cell? ⟨b, o + k * 5 + 2, none⟩ = some (.int .i64 (de k)) := (hbl.cell (p := ⟨b, o + k * 5 + 2, none⟩) hbw).trans (h2 k hlt)
      have c3 : wr.cell? ⟨b, o + k * 5 + 3, none⟩ = some (.bool (bo k)) := (hbl.cell (p := ⟨b, o + k * 5 + 3, none⟩) hbw).trans (h3 k hlt)
      have c4 : wr.cell? ⟨b, o + k * 5 + 4, none⟩ = some (.bool (al k)) := (hbl.cell (p := ⟨b, o + k * 5 + 4, none⟩) hbw).trans (h4 k hlt)
      clear h0 h1 h2 h3 h4
      have hs := hst k hlt
      have hn := keyB_len st bo al k fun j hj => hst j (by omega)
      have hown1 := hown.alloc (.cells #[.int .i64 (st k), .int .i64 (ar k), .int .i64 (de k), .bool (bo k), .bool (al k)] 44)
      have hbl1 := hbl.alloc hbl.size (.cells #[.int .i64 (st k), .int .i64 (ar k), .int .i64 (de k), .bool (bo k), .bool (al k)] 44)
      have hsz := hbl1.size
      have htab1 := htab.on hbl1
      have hcon := Tryd.strconv_AppendInt_10 w.heap.size _ (st k) hs.1 hs.2 u3 _ _ hown1 hsz (by omega) htab1
      generalize hxs : keyB st bo al k = xs at *
      have e1 : xs.length + (Lib.itoa (st k)).length = (xs ++ Lib.itoa (st k)).length := by simp
      have e2 : Lib.byteCells xs ++ Lib.byteCells (Lib.itoa (st k)) = Lib.byteCells (xs ++ Lib.itoa (st k)) := by simp [Lib.byteCells]
      rw [e1, e2] at hcon
      have hi20 := Lib.itoa_length_le (st k) hs.1 hs.2
      have hnl : (xs ++ Lib.itoa (st k)).length ≤ k * 23 + 21 := by simp only [List.length_append]; omega
      have hkey : keyB st bo al (k + 1) = xs ++ Lib.itoa (st k) ++ keyT (bo k) (al k) := by rw [keyB, hxs]
      generalize xs ++ Lib.itoa (st k) = ys at *
      clear hown hown1 htab1 e1 e2
      generalize bo k = B at *
      generalize al k = A at *
      obtain ⟨i0, hi, hz0, hz1, hz2⟩ := info_parts Tryd.laysM176.i5
      have hi : Tryd.prog.info? 5 = some i0 := hi
      cases B <;> cases A
      all_goals simp only [keyT] at hkey
      · have hnl2 : ys.length + 2 = (ys ++ [45, 46] : List UInt8).length := by simp
        have e3 : Lib.byteCells ys ++ [.int .u8 45, .int .u8 46] = Lib.byteCells (ys ++ [45, 46]) := by simp [Lib.byteCells]
        have E2 := Lib.hid hnl2
        have E3 := Lib.hid e3
        clear hnl2 e3
        go_wp2_with (first
          | (go_at_call 40; refine hcon.mono ?_; rintro e w2 ⟨v2, rfl, hown2, hbl2, hok2⟩
             have hblk := hok2 wr.heap.size _ (blk_new wr _) (by simp) (by intro c fz; simp)
             have d3 : w2.cell? ⟨wr.heap.size, 3, none⟩ = some (.bool false) := by simp [World.cell?, hblk]
             have d4 : w2.cell? ⟨wr.heap.size, 4, none⟩ = some (.bool false) := by simp [World.cell?, hblk]
             have hbl3 := hbl1.trans hbl2
             clear hblk)
          | (at_builtin; refine wpList_append_own _ rfl _ _ 68 rfl w.heap.size 5 i0 (.int .u8 0) 1 1 Tryd.underlying68 hi hz0 hz1 hz2 rfl (by decide) _ _ _ rfl (hown2.alloc _) ⟨w2.heap.size, 0, none⟩ 2 2 [.int .u8 45, .int .u8 46] rfl rfl ?_ ?_ ?_ ?_ ?_ ?_))
        · intro j u' hj
          match j, hj with | 0, hj => simp at hj; subst hj; simp [Addr.add] | 1, hj => simp at hj; subst hj; simp [Addr.add]
        · intro u' hu'
          simp at hu'
          rcases hu' with rfl | rfl <;> rfl
        · unfold maxLen; omega
        · omega
        · have := hbl3.size; simp; omega
        intro v1 w1 hown1 hgrow _
        have hbl4 : RowKit.Below w.heap.size w w1 := (hbl3.alloc hbl3.size _).grown hgrow (by have := hbl3.size; simp; omega) (fun k hk => (hown2.lt k hk).1)
        rw [E3.out, E2.out] at hown1
        go_wp2
        go_roundw
        case rel => exact ⟨k + 1, by omega, by simp, by rw [hkey]; exact hown1, hbl4⟩
        case measure => simp [RowKit.intOf]; omega
      · have hnl2 : ys.length + 1 = (ys ++ [97] : List UInt8).length := by simp
        have e3 : Lib.byteCells ys ++ [.int .u8 97] = Lib.byteCells (ys ++ [97]) := by simp [Lib.byteCells]
        have E2 := Lib.hid hnl2
        have E3 := Lib.hid e3
        clear hnl2 e3
        go_wp2_with (first
          | (go_at_call 40; refine hcon.mono ?_; rintro e w2 ⟨v2, rfl, hown2, hbl2, hok2⟩
             have hblk := hok2 wr.heap.size _ (blk_new wr _) (by simp) (by intro c fz; simp)
             have d3 : w2.cell? ⟨wr.heap.size, 3, none⟩ = some (.bool false) := by simp [World.cell?, hblk]
             have d4 : w2.cell? ⟨wr.heap.size, 4, none⟩ = some (.bool true) := by simp [World.cell?, hblk]
             have hbl3 := hbl1.trans hbl2
             clear hblk)
          | (at_builtin; refine wpList_append_own _ rfl _ _ 68 rfl w.heap.size 5 i0 (.int .u8 0) 1 1 Tryd.underlying68 hi hz0 hz1 hz2 rfl (by decide) _ _ _ rfl (hown2.alloc _) ⟨w2.heap.size, 0, none⟩ 1 1 [.int .u8 97] rfl rfl ?_ ?_ ?_ ?_ ?_ ?_))
        · intro j u' hj
          match j, hj with | 0, hj => simp at hj; subst hj; simp [Addr.add]
        · intro u' hu'
          simp at hu'
          rcases hu' with rfl <;> rfl
        · unfold maxLen; omega
        · omega
        · have := hbl3.size; simp; omega
        intro v1 w1 hown1 hgrow _
        have hbl4 : RowKit.Below w.heap.size w w1 := (hbl3.alloc hbl3.size _).grown hgrow (by have := hbl3.size; simp; omega) (fun k hk => (hown2.lt k hk).1)
        rw [E3.out, E2.out] at hown1
        go_wp2
        go_roundw
        case rel => exact ⟨k + 1, by omega, by simp, by rw [hkey]; exact hown1, hbl4⟩
        case measure => simp [RowKit.intOf]; omega
      · have hnl2 : ys.length + 1 = (ys ++ [98] : List UInt8).length := by simp
        have e3 : Lib.byteCells ys ++ [.int .u8 98] = Lib.byteCells (ys ++ [98]) := by simp [Lib.byteCells]
        have E2 := Lib.hid hnl2
        have E3 := Lib.hid e3
        clear hnl2 e3
        go_wp2_with (first
          | (go_at_call 40; refine hcon.mono ?_; rintro e w2 ⟨v2, rfl, hown2, hbl2, hok2⟩
             have hblk := hok2 wr.heap.size _ (blk_new wr _) (by simp) (by intro c fz; simp)
             have d3 : w2.cell? ⟨wr.heap.size, 3, none⟩ = some (.bool true) := by simp [World.cell?, hblk]
             have d4 : w2.cell? ⟨wr.heap.size, 4, none⟩ = some (.bool false) := by simp [World.cell?, hblk]
             have hbl3 := hbl1.trans hbl2
             clear hblk)
          | (at_builtin; refine wpList_append_own _ rfl _ _ 68 rfl w.heap.size 5 i0 (.int .u8 0) 1 1 Tryd.underlying68 hi hz0 hz1 hz2 rfl (by decide) _ _ _ rfl (hown2.alloc _) ⟨w2.heap.size, 0, none⟩ 1 1 [.int .u8 98] rfl rfl ?_ ?_ ?_ ?_ ?_ ?_))
        · intro j u' hj
          match j, hj with | 0, hj => simp at hj; subst hj; simp [Addr.add]
        · intro u' hu'
          simp at hu'
          rcases hu' with rfl <;> rfl
        · unfold maxLen; omega
        · omega
        · have := hbl3.size; simp; omega
        intro v1 w1 hown1 hgrow _
        have hbl4 : RowKit.Below w.heap.size w w1 := (hbl3.alloc hbl3.size _).grown hgrow (by have := hbl3.size; simp; omega) (fun k hk => (hown2.lt k hk).1)
        rw [E3.out, E2.out] at hown1
        go_wp2
        go_roundw
        case rel => exact ⟨k + 1, by omega, by simp, by rw [hkey]; exact hown1, hbl4⟩
        case measure => simp [RowKit.intOf]; omega
      · have hnl2 : ys.length + 1 = (ys ++ [43] : List UInt8).length := by simp
        have e3 : Lib.byteCells ys ++ [.int .u8 43] = Lib.byteCells (ys ++ [43]) := by simp [Lib.byteCells]
        have E2 := Lib.hid hnl2
        have E3 := Lib.hid e3
        clear hnl2 e3
        go_wp2_with (first
          | (go_at_call 40; refine hcon.mono ?_; rintro e w2 ⟨v2, rfl, hown2, hbl2, hok2⟩
             have hblk := hok2 wr.heap.size _ (blk_new wr _) (by simp) (by intro c fz; simp)
             have d3 : w2.cell? ⟨wr.heap.size, 3, none⟩ = some (.bool true) := by simp [World.cell?, hblk]
             have d4 : w2.cell? ⟨wr.heap.size, 4, none⟩ = some (.bool true) := by simp [World.cell?, hblk]
             have hbl3 := hbl1.trans hbl2
             clear hblk)
          | (at_builtin; refine wpList_append_own _ rfl _ _ 68 rfl w.heap.size 5 i0 (.int .u8 0) 1 1 Tryd.underlying68 hi hz0 hz1 hz2 rfl (by decide) _ _ _ rfl (hown2.alloc _) ⟨w2.heap.size, 0, none⟩ 1 1 [.int .u8 43] rfl rfl ?_ ?_ ?_ ?_ ?_ ?_))
        · intro j u' hj
          match j, hj with | 0, hj => simp at hj; subst hj; simp [Addr.add]
        · intro u' hu'
          simp at hu'
          rcases hu' with rfl <;> rfl
        · unfold maxLen; omega
        · omega
        · have := hbl3.size; simp; omega
        intro v1 w1 hown1 hgrow _
        have hbl4 : RowKit.Below w.heap.size w w1 := (hbl3.alloc hbl3.size _).grown hgrow (by have := hbl3.size; simp; omega) (fun k hk => (hown2.lt k hk).1)
        rw [E3.out, E2.out] at hown1
        go_wp2
        go_roundw
        case rel => exact ⟨k + 1, by omega, by simp, by rw [hkey]; exact hown1, hbl4⟩
        case measure => simp [RowKit.intOf]; omega
    · obtain rfl : k = len := by omega
      clear h0 h1 h2 h3 h4
      generalize hys : keyB st bo al k = ys at hown
      rcases hown.2 with ⟨rfl, hz⟩ | ⟨g, cp, cur, rfl, hg, hgc, hnc, hcm, hcs, htk⟩
      · have : ys = [] := List.length_eq_zero_iff.1 hz
        subst this
        have hconv := run_convert_bytes_string (P := Tryd.prog) wr 68 9 5 none 0 0 Tryd.underlying68 Tryd.underlying5 Tryd.underlying9
        simp only [Conv.bytesToString, Sem.run_pure] at hconv
        have HY := Lib.hid hys
        clear hys
        go_wp2
        go_ret
        exact ⟨by rw [HY.out]; rfl, hbl⟩
      · have hconv := run_convert_bytes_back (P := Tryd.prog) wr 68 9 5 ⟨g, 0, none⟩ cp ys Tryd.underlying68 Tryd.underlying5 Tryd.underlying9 (fun j hj => by
          have e : (cur.toList.take (ys.length * 1))[j]? = some (.int .u8 (ys[j].toNat : Int)) := by rw [htk]; simp [Lib.byteCells, hj]
          rw [List.getElem?_take_of_lt (by omega)] at e
          have ea : (⟨g, 0, none⟩ : Addr).add j = ⟨g, j, none⟩ := by unfold Addr.add; split <;> simp_all
          rw [ea, cell_blk hgc]
          simpa using e)
        clear hgc hcs htk hown
        have HY := Lib.hid hys
        clear hys
        go_wp2
        go_ret
        exact ⟨by rw [HY.out]; rfl, hbl⟩
theorem Tryd.key_nil (id : ByteArray) (r c : Int) (sf : Bool) (a : Option Addr) (cap : Nat) (w : World) :
    Calls Tryd.prog 34 #[.agg #[.string id, .int .i64 r, .int .i64 c, .bool sf, .slice a 0 cap]] w fun e w' => e = .returned (.string ⟨#[]⟩) ∧ Below w.heap.size w w' := by
  go_enter Tryd.func34, Tryd.ntmps34
  go_wp2
  go_loopw [3, 9] (fun sv i wr => i = .int .i64 0 ∧ sv = .slice none 0 0 ∧ Below w.heap.size w wr) (fun _ _ _ => 0)
  case atStart => exact ⟨rfl, rfl, (RowKit.Below.refl _ w).alloc (Nat.le_refl _) _⟩
  case round =>
    obtain ⟨rfl, rfl, hbl⟩ := hrel
    have hconv := run_convert_bytes_string (P := Tryd.prog) wr 68 9 5 none 0 0 Tryd.underlying68 Tryd.underlying5 Tryd.underlying9
    simp only [Conv.bytesToString, Sem.run_pure] at hconv
    go_wp2
    go_ret
    exact ⟨rfl, hbl⟩
end Go.Proofs
