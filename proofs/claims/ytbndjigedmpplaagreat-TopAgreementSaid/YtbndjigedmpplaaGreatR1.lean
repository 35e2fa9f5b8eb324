/- The function connection.Compare. -/
import Derived.Test.YtbndjigedmpplaaGreatR0
import Derived.Shelf.SlSortCmp.NoneTotal
import Derived.Tactics
import Derived.Tactics2
import Derived.StillTactics
import Derived.Laws.Wrap64
import Derived.Laws.Pointers
import Derived.Laws.Cells
import Derived.Laws.Sem
import Derived.Scope
import Derived.LoopTactic
import Derived.LoopN
import Derived.RowKit
import Derived.Below
namespace Go.Proofs
open Go.RowKit Go.Sort
set_option maxRecDepth 1000000
set_option maxHeartbeats 1000000
abbrev K6 := Int × Int × Int × Int × Int × Int
def Tryz.enc6 (x : K6) : List Value := [.int .i64 x.1, .int .i64 x.2.1, .int .i64 x.2.2.1, .int .i64 x.2.2.2.1, .int .i64 x.2.2.2.2.1, .int .i64 x.2.2.2.2.2]
/-- The order of connections. -/
def Tryz.cmp6 (x y : K6) : Int :=
  if x.2.2.2.2.1 < y.2.2.2.2.1 then -1 else if y.2.2.2.2.1 < x.2.2.2.2.1 then 1
  else if x.2.2.2.2.2 < y.2.2.2.2.2 then -1 else if y.2.2.2.2.2 < x.2.2.2.2.2 then 1
  else if x.1 < y.1 then -1 else if y.1 < x.1 then 1
  else if x.2.1 < y.2.1 then -1 else if y.2.1 < x.2.1 then 1 else 0
theorem Tryz.ix0 (e e' f f' a a' b b' : Value) (W : World) : (Instr.index 273 (.agg #[e, e', f, f', a, a', b, b']) (.int .i64 0)).run Tryz.prog W = .ok (.agg #[e, e']) W := by
  simp [Instr.index, asIntOf, run_underlying Tryz.underlying273, Tryz.sizeOf272, Tryz.isAgg272, go_sem]
theorem Tryz.ix1 (e e' f f' a a' b b' : Value) (W : World) : (Instr.index 273 (.agg #[e, e', f, f', a, a', b, b']) (.int .i64 1)).run Tryz.prog W = .ok (.agg #[f, f']) W := by
  simp [Instr.index, asIntOf, run_underlying Tryz.underlying273, Tryz.sizeOf272, Tryz.isAgg272, go_sem]
theorem Tryz.ix2 (e e' f f' a a' b b' : Value) (W : World) : (Instr.index 273 (.agg #[e, e', f, f', a, a', b, b']) (.int .i64 2)).run Tryz.prog W = .ok (.agg #[a, a']) W := by
  simp [Instr.index, asIntOf, run_underlying Tryz.underlying273, Tryz.sizeOf272, Tryz.isAgg272, go_sem]
theorem Tryz.ix3 (e e' f f' a a' b b' : Value) (W : World) : (Instr.index 273 (.agg #[e, e', f, f', a, a', b, b']) (.int .i64 3)).run Tryz.prog W = .ok (.agg #[b, b']) W := by
  simp [Instr.index, asIntOf, run_underlying Tryz.underlying273, Tryz.sizeOf272, Tryz.isAgg272, go_sem]
theorem Tryz.compare_walk (a b c d e f a' b' c' d' e' f' : Int) (w : World) : Calls Tryz.prog 117 #[.agg #[.int .i64 a, .int .i64 b, .int .i64 c, .int .i64 d, .int .i64 e, .int .i64 f], .agg #[.int .i64 a', .int .i64 b', .int .i64 c', .int .i64 d', .int .i64 e', .int .i64 f']] w fun r w' =>
    r = .returned (.int .i64 (Tryz.cmp6 (a, b, c, d, e, f) (a', b', c', d', e', f'))) ∧ ∃ q os', w' = grow (w.drewN q) os' := by
  go_enter Tryz.func117, Tryz.ntmps117
  go_wp2
  go_loopw [28] (fun v wr => (∃ (q : Nat) (os : Array Obj), wr = grow (w.drewN q) os) ∧ ((v = .int .i64 0) ∨ (v = .int .i64 1 ∧ e = e') ∨ (v = .int .i64 2 ∧ e = e' ∧ f = f') ∨ (v = .int .i64 3 ∧ e = e' ∧ f = f' ∧ a = a') ∨ (v = .int .i64 4 ∧ e = e' ∧ f = f' ∧ a = a' ∧ b = b'))) (fun v _ => (4 - intOf v).toNat)
  case atStart => exact ⟨⟨0, #[_, _], by rw [alloc_eq_grow, alloc_eq_grow, grow_grow]; rfl⟩, .inl rfl⟩
  case round =>
    obtain ⟨hw, hv⟩ := hrel
    have hgr : ∀ o : Obj, ∃ (q : Nat) (os : Array Obj), wr.alloc o = grow (w.drewN q) os := fun o => by
      obtain ⟨q, os, rfl⟩ := hw
      exact ⟨q, os ++ #[o], by rw [alloc_eq_grow, grow_grow]⟩
    rcases hv with rfl | ⟨rfl, rfl⟩ | ⟨rfl, rfl, rfl⟩ | ⟨rfl, rfl, rfl, rfl⟩ | ⟨rfl, rfl, rfl, rfl, rfl⟩
    · have i0 := Tryz.ix0 (.int .i64 e) (.int .i64 e') (.int .i64 f) (.int .i64 f') (.int .i64 a) (.int .i64 a') (.int .i64 b) (.int .i64 b')
      go_wp2
      · go_ret
        refine ⟨?_, hgr _⟩
        have hc : Tryz.cmp6 (a, b, c, d, e, f) (a', b', c', d', e', f') = -1 := by
          simp only [Tryz.cmp6]
          repeat' split
          all_goals first | rfl | omega
        rw [hc]; rfl
      · go_ret
        refine ⟨?_, hgr _⟩
        have hc : Tryz.cmp6 (a, b, c, d, e, f) (a', b', c', d', e', f') = 1 := by
          simp only [Tryz.cmp6]
          repeat' split
          all_goals first | rfl | omega
        rw [hc]; rfl
      · refine ⟨⟨hgr _, .inr (.inl ⟨rfl, by omega⟩)⟩, ?_⟩
        show (4 - (1 : Int)).toNat < (4 - (0 : Int)).toNat
        decide
    · have i1 := Tryz.ix1 (.int .i64 e) (.int .i64 e) (.int .i64 f) (.int .i64 f') (.int .i64 a) (.int .i64 a') (.int .i64 b) (.int .i64 b')
      go_wp2
      · go_ret
        refine ⟨?_, hgr _⟩
        have hc : Tryz.cmp6 (a, b, c, d, e, f) (a', b', c', d', e, f') = -1 := by
          simp only [Tryz.cmp6]
          repeat' split
          all_goals first | rfl | omega
        rw [hc]; rfl
      · go_ret
        refine ⟨?_, hgr _⟩
        have hc : Tryz.cmp6 (a, b, c, d, e, f) (a', b', c', d', e, f') = 1 := by
          simp only [Tryz.cmp6]
          repeat' split
          all_goals first | rfl | omega
        rw [hc]; rfl
      · refine ⟨⟨hgr _, .inr (.inr (.inl ⟨rfl, trivial, by omega⟩))⟩, ?_⟩
        show (4 - (2 : Int)).toNat < (4 - (1 : Int)).toNat
        decide
    · have i2 := Tryz.ix2 (.int .i64 e) (.int .i64 e) (.int .i64 f) (.int .i64 f) (.int .i64 a) (.int .i64 a') (.int .i64 b) (.int .i64 b')
      go_wp2
      · go_ret
        refine ⟨?_, hgr _⟩
        have hc : Tryz.cmp6 (a, b, c, d, e, f) (a', b', c', d', e, f) = -1 := by
          simp only [Tryz.cmp6]
          repeat' split
          all_goals first | rfl | omega
        rw [hc]; rfl
      · go_ret
        refine ⟨?_, hgr _⟩
        have hc : Tryz.cmp6 (a, b, c, d, e, f) (a', b', c', d', e, f) = 1 := by
          simp only [Tryz.cmp6]
          repeat' split
          all_goals first | rfl | omega
        rw [hc]; rfl
      · refine ⟨⟨hgr _, .inr (.inr (.inr (.inl ⟨rfl, trivial, trivial, by omega⟩)))⟩, ?_⟩
        show (4 - (3 : Int)).toNat < (4 - (2 : Int)).toNat
        decide
    · have i3 := Tryz.ix3 (.int .i64 e) (.int .i64 e) (.int .i64 f) (.int .i64 f) (.int .i64 a) (.int .i64 a) (.int .i64 b) (.int .i64 b')
      go_wp2
      · go_ret
        refine ⟨?_, hgr _⟩
        have hc : Tryz.cmp6 (a, b, c, d, e, f) (a, b', c', d', e, f) = -1 := by
          simp only [Tryz.cmp6]
          repeat' split
          all_goals first | rfl | omega
        rw [hc]; rfl
      · go_ret
        refine ⟨?_, hgr _⟩
        have hc : Tryz.cmp6 (a, b, c, d, e, f) (a, b', c', d', e, f) = 1 := by
          simp only [Tryz.cmp6]
          repeat' split
          all_goals first | rfl | omega
        rw [hc]; rfl
      · refine ⟨⟨hgr _, .inr (.inr (.inr (.inr ⟨rfl, trivial, trivial, trivial, by omega⟩)))⟩, ?_⟩
        show (4 - (4 : Int)).toNat < (4 - (3 : Int)).toNat
        decide
    · go_wp2
      go_ret
      refine ⟨?_, hw⟩
      have hc : Tryz.cmp6 (a, b, c, d, e, f) (a, b, c', d', e, f) = 0 := by
        simp only [Tryz.cmp6]
        repeat' split
        all_goals first | rfl | omega
      rw [hc]; rfl
end Go.Proofs
