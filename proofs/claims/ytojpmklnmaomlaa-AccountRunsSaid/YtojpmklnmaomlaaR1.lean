/- The function amounts.sum: the sum of a map's values, in whatever order they come. -/
import Derived.Tactics
import Derived.Tactics2
import Derived.StillTactics
import Derived.Laws.Wrap64
import Derived.Laws.Pointers
import Derived.Laws.Cells
import Derived.Laws.Entries
import Derived.Laws.Sem
import Derived.Scope
import Derived.LoopTactic
import Derived.LoopN
import Derived.RowKit
import Derived.Laws.IdiomRangeMap
import Derived.Maps.RangeRun
import Derived.Below
import Derived.Test.YtojpmklnmaomlaaProg
namespace Go.Proofs
open Go.RowKit
set_option maxRecDepth 1000000
set_option maxHeartbeats 1000000
theorem iterSeen_of {W : World} {r : Nat} {a : Option Nat} {b c : Nat} {seen : Array Nat} (h : W.heap[r]? = some (.mapIter a b seen c)) : W.iterSeen r = seen := by
  unfold World.iterSeen
  rw [h]
theorem Try.sum_in (b bm : Nat) (es : Array MapEntry) (clock : Nat) (w : World) (hc : w.cell? ⟨b, 0, none⟩ = some (.map (some bm))) (hb : w.heap[bm]? = some (.map es clock))
    (hold : ∀ x ∈ es.toList, x.born < clock) (hnd : (es.toList.map (·.born)).Nodup) (hv : ∀ x ∈ es.toList, ∃ v, x.val = .int .i64 v) :
    Calls Try.prog 36 #[.pointer (some ⟨b, 0, none⟩)] w fun e w' => e = .returned (.int .i64 (wrap64 ((es.toList.map fun e => valOf e.val).sum))) ∧ Below w.heap.size w w' := by
  have hlt : bm < w.heap.size := (Array.getElem?_eq_some_iff.1 hb).1
  have hrg := run_range_map (P := Try.prog) w 68 3 3 bm es clock Try.underlying68 hb
  go_enter Try.func36, Try.ntmps36
  go_wp2
  go_loopw [3] (fun s w' => ∃ seen : Array Nat, w'.heap[w.heap.size]? = some (.mapIter (some bm) clock seen clock) ∧ Below w.heap.size w w' ∧ s = .int .i64 (wrap64 (seenSum es.toList seen))) (fun _ w' => (leftOf es (w'.iterSeen w.heap.size)).size)
  case atStart => exact ⟨#[], heap_alloc_new w _, (Below.refl _ w).alloc (Nat.le_refl _) _, by rw [seenSum_none]; rfl⟩
  case round =>
    obtain ⟨seen, hr, hbl, rfl⟩ := hrel
    have hb1 : wr.heap[bm]? = some (.map es clock) := (hbl.block bm hlt).trans hb
    rcases run_next_at (P := Try.prog) wr 0 w.heap.size bm clock clock seen es clock hr hb1 hold (Nat.le_refl _) with ⟨h0, hrun⟩ | ⟨e, he, w2, hal2, hrun⟩
    · have hnx : ∀ ty, (Instr.next (.pointer (some ⟨w.heap.size, 0, none⟩)) false ty).run Try.prog wr = _ := fun _ => hrun
      go_wp2
      go_ret
      rw [seenSum_all es seen h0]
      exact ⟨rfl, hbl⟩
    · obtain ⟨v, hval⟩ := hv e (mem_left he).1
      rw [hval] at hrun
      have hnx : ∀ ty, (Instr.next (.pointer (some ⟨w.heap.size, 0, none⟩)) false ty).run Try.prog wr = _ := fun _ => hrun
      have hrlt : w.heap.size < wr.heap.size := (Array.getElem?_eq_some_iff.1 hr).1
      have hh2 : w2.heap = wr.heap := by rcases hal2 with rfl | rfl <;> rfl
      have hb2 : Below w.heap.size w w2 := by
        refine ⟨?_, ?_, ?_, ?_, ?_⟩
        · rcases hal2 with rfl | rfl <;> exact hbl.os
        · rcases hal2 with rfl | rfl <;> exact hbl.tape
        · rcases hal2 with rfl | rfl <;> exact hbl.output
        · rw [hh2]; exact hbl.size
        · intro k hk; rw [hh2]; exact hbl.block k hk
      obtain ⟨W3, hW3⟩ : ∃ W3, W3 = ChangeMaps.setBlock w2 w.heap.size (.mapIter (some bm) clock (seen.push e.born) clock) := ⟨_, rfl⟩
      have hr3 : W3.heap[w.heap.size]? = some (.mapIter (some bm) clock (seen.push e.born) clock) := by
        rw [hW3]
        show (w2.heap.setIfInBounds _ _)[_]? = _
        rw [hh2]
        simp [hrlt]
      have hb3 : W3.heap[bm]? = some (.map es clock) := by
        rw [hW3]
        show (w2.heap.setIfInBounds _ _)[_]? = _
        rw [hh2, Array.getElem?_setIfInBounds_ne (by omega)]
        exact hb1
      have hbl3 : Below w.heap.size w W3 := by
        rw [hW3]
        refine ⟨hb2.os, hb2.tape, hb2.output, ?_, ?_⟩
        · show w.heap.size ≤ (w2.heap.setIfInBounds _ _).size
          rw [Array.size_setIfInBounds]
          exact hb2.size
        · intro k hk
          show (w2.heap.setIfInBounds _ _)[k]? = _
          rw [Array.getElem?_setIfInBounds_ne (by omega)]
          exact hb2.block k hk
      have hen := run_entry_at (P := Try.prog) W3 w.heap.size bm clock seen es clock e hr3 hb3 (mem_left he).1 hnd
      rw [hval] at hen
      rw [← hW3] at hrun hnx
      clear hW3
      go_wp2
      go_roundw
      case rel =>
        refine ⟨seen.push e.born, hr3, hbl3, ?_⟩
        rw [seenSum_push seen e (mem_left he).2 es.toList hnd (mem_left he).1, hval]
        have e3 : ∀ x : Int, (wrap64 x + v + 9223372036854775808) % 18446744073709551616 - 9223372036854775808 = wrap64 (x + v) := fun x => by
          simp only [wrap64]
          omega
        rw [e3]
        rfl
      case measure =>
        rw [iterSeen_of hr3, iterSeen_of hr]
        exact left_shrinks es seen e he
end Go.Proofs
