/- The method Days: the keys of a map, in whatever order they come, sorted. -/
import Derived.Test.YtojpmklnmaomlaaR0
import Derived.Test.YtojpmklnmaomlaaR1
import Derived.Laws.AppendOwn
import Derived.OwnWalk
import Derived.Lib.Hide
import Derived.Lib.Walk
import Derived.Lib.BufferKept
import Derived.Lib.OwnKind
import Derived.BigCall
import Derived.BigGuard
import Derived.WalkKit
namespace Go.Proofs
open Go.RowKit
set_option maxRecDepth 1000000
set_option maxHeartbeats 2000000
/-- The keys that came so far, in the map's order. -/
def seenKeys (es : List MapEntry) (seen : Array Nat) : List Int := (es.filter fun e => seen.contains e.born).map fun e => valOf e.key
theorem seenKeys_none (es : List MapEntry) : seenKeys es #[] = [] := by simp [seenKeys]
theorem seenKeys_all (es : Array MapEntry) (seen : Array Nat) (h : (leftOf es seen).size = 0) : seenKeys es.toList seen = es.toList.map fun e => valOf e.key := by
  rw [seenKeys, List.filter_eq_self.2 fun x hx => all_seen es seen h x hx]
theorem seenKeys_other (seen : Array Nat) (b : Nat) : ∀ (es : List MapEntry), b ∉ es.map (·.born) → seenKeys es (seen.push b) = seenKeys es seen := fun es h => by
  rw [seenKeys, seenKeys]
  congr 1
  refine List.filter_congr fun x hx => ?_
  have hne : x.born ≠ b := fun e => h (List.mem_map.2 ⟨x, hx, e⟩)
  rw [contains_push, beq_false_of_ne hne, Bool.or_false]
theorem seenKeys_push (seen : Array Nat) (e : MapEntry) (hs : seen.contains e.born = false) : ∀ (es : List MapEntry), (es.map (·.born)).Nodup → e ∈ es → (seenKeys es (seen.push e.born)).Perm (seenKeys es seen ++ [valOf e.key])
  | [], _, h => by cases h
  | x :: es, hn, h => by
    rw [List.map_cons, List.nodup_cons] at hn
    by_cases hx : x.born = e.born
    · have hxe : x = e := by
        rcases List.mem_cons.1 h with h1 | h1
        · exact h1.symm
        · exact absurd (List.mem_map.2 ⟨e, h1, hx.symm⟩) hn.1
      subst hxe
      have h2 := seenKeys_other seen x.born es hn.1
      have h3 : seenKeys (x :: es) (seen.push x.born) = valOf x.key :: seenKeys es (seen.push x.born) := by
        rw [seenKeys, List.filter_cons, contains_push]; simp [seenKeys]
      have h4 : seenKeys (x :: es) seen = seenKeys es seen := by
        rw [seenKeys, List.filter_cons, hs]; rfl
      rw [h3, h4, h2]
      exact (List.perm_append_singleton _ _).symm
    · have he : e ∈ es := by
        rcases List.mem_cons.1 h with h1 | h1
        · exact absurd (by rw [h1]) hx
        · exact h1
      have ih := seenKeys_push seen e hs es hn.2 he
      have h5 : (seen.push e.born).contains x.born = seen.contains x.born := by
        rw [contains_push, beq_false_of_ne hx, Bool.or_false]
      have h3 : ∀ s : Array Nat, seenKeys (x :: es) s = if s.contains x.born then valOf x.key :: seenKeys es s else seenKeys es s := fun s => by
        rw [seenKeys, List.filter_cons]
        cases s.contains x.born <;> rfl
      rw [h3, h3, h5]
      cases seen.contains x.born
      · exact ih
      · exact ih.cons _
theorem heap_putRow_ne {w : World} {b k : Nat} (d : Array Int) (h : k ≠ b) : (Go.Sort.putRow (Value.int .i64) w b 0 d).heap[k]? = w.heap[k]? := by
  show (w.heap.modify b _)[k]? = _
  rw [Array.getElem?_modify, if_neg (fun e => h e.symm)]
theorem heap_putRow_eq {w : World} {b : Nat} (d : Array Int) {c : Array Value} {T : TypeId} {f : Nat × Nat} (h : w.heap[b]? = some (.cells c T f)) :
    (Go.Sort.putRow (Value.int .i64) w b 0 d).heap[b]? = some (.cells (Go.Sort.putCells (Value.int .i64) 0 d c) T f) := by
  show (w.heap.modify b _)[b]? = _
  rw [Array.getElem?_modify, if_pos rfl, h]
  rfl
theorem sort_perm {a b : List Int} (h : a.Perm b) : (a.mergeSort fun x y => decide (x ≤ y)) = b.mergeSort fun x y => decide (x ≤ y) := by
  have tr : ∀ a b c : Int, decide (a ≤ b) = true → decide (b ≤ c) = true → decide (a ≤ c) = true := fun a b c h1 h2 => by simp at *; omega
  have to : ∀ a b : Int, (decide (a ≤ b) || decide (b ≤ a)) = true := fun a b => by simp; omega
  exact List.Perm.eq_of_pairwise (le := fun x y => decide (x ≤ y) = true) (fun x y _ _ h1 h2 => by simp at h1 h2; omega) (List.pairwise_mergeSort tr to a) (List.pairwise_mergeSort tr to b) (((List.mergeSort_perm a _).trans h).trans (List.mergeSort_perm b _).symm)
/-- What Days leaves: the sorted keys in a block of the call's own. -/
def DaysOut (w w' : World) (v : Value) (zs : List Int) : Prop :=
  (v = .slice none 0 0 ∧ zs = []) ∨ ∃ g cap, v = .slice (some ⟨g, 0, none⟩) zs.length cap ∧ w.heap.size ≤ g ∧ zs.length ≤ cap ∧ ∀ j x, zs[j]? = some x → w'.cell? ⟨g, j, none⟩ = some (.int .i64 x)
theorem Try.days_in (b bm : Nat) (es : Array MapEntry) (clock : Nat) (w : World) (hc : w.cell? ⟨b, 0, none⟩ = some (.map (some bm))) (hb : w.heap[bm]? = some (.map es clock))
    (hold : ∀ x ∈ es.toList, x.born < clock) (hnd : (es.toList.map (·.born)).Nodup) (hv : ∀ x ∈ es.toList, ∃ v, x.key = .int .i64 v) (hn : es.size ≤ 1000) :
    Calls Try.prog 21 #[.pointer (some ⟨b, 0, none⟩)] w fun e w' => ∃ v, e = .returned v ∧ DaysOut w w' v ((es.toList.map fun e => valOf e.key).mergeSort fun x y => decide (x ≤ y)) ∧ Below w.heap.size w w' := by
  have hlt : bm < w.heap.size := (Array.getElem?_eq_some_iff.1 hb).1
  have hrg := run_range_map (P := Try.prog) w 68 3 3 bm es clock Try.underlying68 hb
  go_enter Try.func21, Try.ntmps21
  go_wp2
  go_loopw [3] (fun s w' => ∃ (seen : Array Nat) (ks : List Int), w'.heap[w.heap.size]? = some (.mapIter (some bm) clock seen clock) ∧ Below w.heap.size w w' ∧ w'.ownsRow (w.heap.size + 1) 3 1 s ks.length (ks.map (Value.int .i64)) ∧ ks.Perm (seenKeys es.toList seen)) (fun _ w' => (leftOf es (w'.iterSeen w.heap.size)).size)
  case atStart => exact ⟨#[], [], heap_alloc_new w _, (Below.refl _ w).alloc (Nat.le_refl _) _, ⟨rfl, .inl ⟨rfl, rfl⟩⟩, by rw [seenKeys_none]⟩
  case round =>
    obtain ⟨seen, ks, hr, hbl, hown, hperm⟩ := hrel
    have hb1 : wr.heap[bm]? = some (.map es clock) := (hbl.block bm hlt).trans hb
    have hkl : ks.length ≤ 1000 := by
      rw [hperm.length_eq, seenKeys, List.length_map]
      exact Nat.le_trans (List.length_filter_le _ _) (by simpa using hn)
    rcases run_next_at (P := Try.prog) wr 0 w.heap.size bm clock clock seen es clock hr hb1 hold (Nat.le_refl _) with ⟨h0, hrun⟩ | ⟨e, he, w2, hal2, hrun⟩
    · have hnx : ∀ ty, (Instr.next (.pointer (some ⟨w.heap.size, 0, none⟩)) false ty).run Try.prog wr = _ := fun _ => hrun
      rw [seenKeys_all es seen h0] at hperm
      have hsp := sort_perm hperm
      rcases hown.2 with ⟨rfl, hz⟩ | ⟨g, cap, cur, rfl, hg, hgc, hnc, hcm, hcs, htk⟩
      · have : ks = [] := List.length_eq_zero_iff.1 hz
        subst this
        have hcon := Try.slices_Sort_int_none none 0 wr
        go_wp2_with (first
          | (go_at_call 37; refine hcon.mono ?_; rintro e' w2 ⟨rfl, rfl⟩))
        go_ret
        rw [← hsp]
        exact ⟨_, rfl, .inl ⟨rfl, by simp⟩, hbl⟩
      · have hcell0 : ∀ j, (hj : j < ks.length) → wr.cell? ⟨g, j, none⟩ = some (.int .i64 ks[j]) ∧ wr.frozen? ⟨g, j, none⟩ = false := fun j hj => by
          have e : (cur.toList.take (ks.length * 1))[j]? = some (.int .i64 ks[j]) := by rw [htk]; simp [hj]
          rw [List.getElem?_take_of_lt (by omega)] at e
          refine ⟨?_, by simp [World.frozen?, hgc]⟩
          simp only [World.cell?, hgc]
          simpa using e
        have hH : Go.Sort.Holds (Value.int .i64) wr g 0 ks.toArray := by
          intro j hj
          have hj' : j < ks.length := by simpa using hj
          obtain ⟨q1, q2⟩ := hcell0 j hj'
          rw [Nat.zero_add, getElem!_pos _ j hj]
          exact ⟨by simpa using q1, q2⟩
        have hblk : g < wr.heap.size := (Array.getElem?_eq_some_iff.1 hgc).1
        have hcon := Try.slices_Sort_int g 0 cap ks wr hH hblk (by omega)
        have hml : (ks.mergeSort fun x y => decide (x ≤ y)).length = ks.length := List.length_mergeSort _
        generalize (ks.mergeSort fun x y => decide (x ≤ y)) = zs at *
        clear hH hcell0
        go_wp2_with (first
          | (go_at_call 37; refine hcon.mono ?_; rintro e' w2 ⟨rfl, q, os, rfl⟩))
        go_ret
        have hb6 : Below w.heap.size wr (Go.Sort.grow (Go.Sort.putRow (Value.int .i64) (Go.Sort.ahead wr q) g 0 zs.toArray) os) := by
          refine ⟨rfl, rfl, rfl, ?_, fun k hk => ?_⟩
          · have := hbl.size; simp
          · rw [Go.Sort.heap_grow_old _ _ (by have := hbl.size; simp; omega), heap_putRow_ne _ (by omega)]; rfl
        rw [← hsp]
        refine ⟨_, rfl, .inr ⟨g, cap, by rw [hml]; rfl, by omega, by omega, fun j x hx => ?_⟩, hbl.trans hb6⟩
        have hj := (List.getElem?_eq_some_iff.1 hx).1
        have hcap : j < cur.size := by omega
        have hgq : (Go.Sort.ahead wr q).heap[g]? = some (.cells cur 3 (0, 0)) := hgc
        simp only [World.cell?]
        rw [Go.Sort.heap_grow_old _ _ (by simp; omega), heap_putRow_eq _ hgq]
        simp only [Go.Sort.putCells]
        rw [Array.getElem?_mapIdx, Array.getElem?_eq_getElem hcap]
        simp only [Option.map_some]
        rw [if_neg (by simp), if_pos ⟨Nat.zero_le _, by simpa using hj⟩]
        simp only [Nat.sub_zero]
        rw [getElem!_pos _ j (by simpa using hj)]
        have hxj := (List.getElem?_eq_some_iff.1 hx).2
        simp [hxj]
    · obtain ⟨v, hval⟩ := hv e (mem_left he).1
      rw [hval] at hrun
      have hnx : ∀ ty, (Instr.next (.pointer (some ⟨w.heap.size, 0, none⟩)) false ty).run Try.prog wr = _ := fun _ => hrun
      have hrlt : w.heap.size < wr.heap.size := (Array.getElem?_eq_some_iff.1 hr).1
      have hh2 : w2.heap = wr.heap := by rcases hal2 with rfl | rfl <;> rfl
      have hb2 : Below w.heap.size w w2 := by
        refine ⟨?_, ?_, ?_, ?_, ?_⟩
        · rcases hal2 with rfl | rfl <;> exact hbl.os
        · rcases hal2 with rfl | rfl <;> exact hbl.tape
        · rcases hal2 with rfl | rfl <;> exact hbl.output
        · rw [hh2]; exact hbl.size
        · intro k hk; rw [hh2]; exact hbl.block k hk
      obtain ⟨W3, hW3⟩ : ∃ W3, W3 = ChangeMaps.setBlock w2 w.heap.size (.mapIter (some bm) clock (seen.push e.born) clock) := ⟨_, rfl⟩
      have hr3 : W3.heap[w.heap.size]? = some (.mapIter (some bm) clock (seen.push e.born) clock) := by
        rw [hW3]
        show (w2.heap.setIfInBounds _ _)[_]? = _
        rw [hh2]
        simp [hrlt]
      have hoth : ∀ k, k ≠ w.heap.size → W3.heap[k]? = wr.heap[k]? := fun k hk => by
        rw [hW3]
        show (w2.heap.setIfInBounds _ _)[k]? = _
        rw [hh2, Array.getElem?_setIfInBounds_ne (fun e => hk e.symm)]
      have hb3 : W3.heap[bm]? = some (.map es clock) := (hoth bm (by omega)).trans hb1
      have hsz3 : W3.heap.size = wr.heap.size := by
        rw [hW3]
        show (w2.heap.setIfInBounds _ _).size = _
        rw [Array.size_setIfInBounds, hh2]
      have hown3 : W3.ownsRow (w.heap.size + 1) 3 1 u3 ks.length (ks.map (Value.int .i64)) := by
        refine ⟨hown.1, ?_⟩
        rcases hown.2 with h | ⟨g, cap, cur, h1, h2, h3, h4⟩
        · exact .inl h
        · exact .inr ⟨g, cap, cur, h1, h2, (hoth g (by omega)).trans h3, h4⟩
      have hbl3 : Below w.heap.size w W3 := by
        refine ⟨?_, ?_, ?_, by rw [hsz3]; exact hbl.size, fun k hk => (hoth k (by omega)).trans (hbl.block k hk)⟩
        · rw [hW3]; exact hb2.os
        · rw [hW3]; exact hb2.tape
        · rw [hW3]; exact hb2.output
      have hen := run_entry_at (P := Try.prog) W3 w.heap.size bm clock seen es clock e hr3 hb3 (mem_left he).1 hnd
      rw [hval] at hen
      rw [← hW3] at hrun hnx
      clear hW3
      obtain ⟨i0, hi, hz0, hz1, hz2⟩ : ∃ i0, Try.prog.info? 3 = some i0 ∧ i0.zero = some (.int .i64 0) ∧ i0.size = 1 ∧ i0.bytes = 8 := by
        have hI : (Try.prog.info? 3).map (fun i => (i.zero, i.size, i.bytes)) = some (some (.int .i64 0), 1, 8) := by kernel_rfl
        obtain ⟨i0, h1, h2⟩ := Option.map_eq_some_iff.1 hI
        simp only [Prod.mk.injEq] at h2
        exact ⟨i0, h1, h2⟩
      have hpush := seenKeys_push seen e (mem_left he).2 es.toList hnd (mem_left he).1
      rw [hval] at hpush
      have hperm2 : (ks ++ [v]).Perm (seenKeys es.toList (seen.push e.born)) := (hperm.append_right [v]).trans hpush.symm
      have hszW := hbl3.size
      have hW3lt : w.heap.size < W3.heap.size := by rw [hsz3]; exact hrlt
      have E2 := Lib.hid (show ks.length + 1 = (ks ++ [v]).length by simp)
      have E3 := Lib.hid (show ks.map (Value.int .i64) ++ [.int .i64 v] = (ks ++ [v]).map (Value.int .i64) by simp)
      go_wp2_with (first
        | (at_builtin; refine wpList_append_own _ rfl _ _ 40 rfl (w.heap.size + 1) 3 i0 (.int .i64 0) 1 8 Try.underlying40 hi hz0 hz1 hz2 rfl (by decide) _ _ _ rfl (hown3.alloc _) ⟨wr.heap.size, 0, none⟩ 1 1 [.int .i64 v] rfl rfl ?_ ?_ ?_ ?_ ?_ ?_))
      · intro j u' hj
        have hcell : (W3.alloc (Obj.cells #[Value.int .i64 v] 3)).heap[wr.heap.size]? = some (Obj.cells #[Value.int .i64 v] 3) := by
          rw [← hsz3]; exact heap_alloc_new W3 _
        match j, hj with
        | 0, hj =>
          simp at hj
          subst hj
          simp [Addr.add, World.cell?, hcell]
      · intro u' hu'
        simp at hu'
        subst hu'
        rfl
      · unfold maxLen; omega
      · omega
      · simp; omega
      intro v1 w1 hown1 hgrow _
      have hb4 : Below w.heap.size w w1 := (hbl3.alloc hbl3.size _).grown hgrow (by simp; omega) (fun k hk => by have := (hown3.lt k hk).1; omega)
      have hb5 : Below (w.heap.size + 1) W3 w1 := ((Below.refl _ W3).alloc (by omega) _).grown hgrow (by simp; omega) (fun k hk => (hown3.lt k hk).1)
      have hr4 : w1.heap[w.heap.size]? = some (.mapIter (some bm) clock (seen.push e.born) clock) := (hb5.block _ (by omega)).trans hr3
      rw [E3.out, E2.out] at hown1
      go_wp2
      go_roundw
      case rel => exact ⟨seen.push e.born, ks ++ [v], hr4, hb4, hown1, hperm2⟩
      case measure =>
        rw [iterSeen_of hr4, iterSeen_of hr]
        exact left_shrinks es seen e he
theorem Try.days_nil (w : World) : Calls Try.prog 21 #[.pointer none] w fun e w' => e = .returned (.slice none 0 0) ∧ w' = w := by
  go_enter Try.func21, Try.ntmps21
  go_wp2
  go_ret
  exact ⟨rfl, rfl⟩
end Go.Proofs
