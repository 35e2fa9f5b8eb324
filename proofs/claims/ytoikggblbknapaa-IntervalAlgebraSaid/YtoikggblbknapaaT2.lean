/- Contracts: the reference's operation, sorting, the list from ends and a condition. -/
import Derived.Test.YtoikggblbknapaaT1

namespace Go.Vm.C
open Go.Vm
set_option maxHeartbeats 1000000
set_option maxRecDepth 10000
set_option linter.unusedSimpArgs false
set_option linter.unusedVariables false

/-! ### Building a list from ends -/
theorem bstep_off {p : Int → Bool} {r : List (Int × Int)} {x y : Int} (h : p x = false) : bstep p r x y = r := by simp [bstep, h]
theorem getD_int {e : List Int} {i : Nat} (h : i < e.length) : e.getD i 0 = e[i] := by simp [List.getD, h]
theorem bldR_off {e : List Int} {p : Int → Bool} {i : Nat} {x : Int} (hx : e[i]? = some x) (h : p x = false) : bldR e p (i + 1) = bldR e p i := by
  have : e.getD i 0 = x := by simp [List.getD, hx]
  rw [bldR, this, bstep_off h]
theorem bldR_nil {e : List Int} {p : Int → Bool} {i : Nat} {x y : Int} (hx : e[i]? = some x) (hy : e[i + 1]? = some y) (h : p x = true) (hr : bldR e p i = []) : bldR e p (i + 1) = [(x, y)] := by
  have h1 : e.getD i 0 = x := by simp [List.getD, hx]
  have h2 : e.getD (i + 1) 0 = y := by simp [List.getD, hy]
  rw [bldR, h1, h2, hr, bstep, if_pos h]
theorem bldR_join {e : List Int} {p : Int → Bool} {i : Nat} {x y : Int} {s : Int × Int} {r : List (Int × Int)} (hx : e[i]? = some x) (hy : e[i + 1]? = some y) (h : p x = true) (hr : bldR e p i = s :: r) (hs : s.2 = x) : bldR e p (i + 1) = (s.1, y) :: r := by
  have h1 : e.getD i 0 = x := by simp [List.getD, hx]
  have h2 : e.getD (i + 1) 0 = y := by simp [List.getD, hy]
  rw [bldR, h1, h2, hr, bstep, if_pos h]
  simp only [if_pos hs]
theorem bldR_new {e : List Int} {p : Int → Bool} {i : Nat} {x y : Int} {s : Int × Int} {r : List (Int × Int)} (hx : e[i]? = some x) (hy : e[i + 1]? = some y) (h : p x = true) (hr : bldR e p i = s :: r) (hs : ¬ s.2 = x) : bldR e p (i + 1) = (x, y) :: s :: r := by
  have h1 : e.getD i 0 = x := by simp [List.getD, hx]
  have h2 : e.getD (i + 1) 0 = y := by simp [List.getD, hy]
  rw [bldR, h1, h2, hr, bstep, if_pos h]
  simp only [if_neg hs]
/-- The rows of a list under way. -/
def bldRows (e : List Int) (p : Int → Bool) (i : Nat) : List (List V) := (bldR e p i).reverse.map spRow
theorem bldRows_len (e : List Int) (p : Int → Bool) (i : Nat) : (bldRows e p i).length = (bldR e p i).length := by simp [bldRows]
theorem bldRows_head (e : List Int) (p : Int → Bool) (i : Nat) : headLen 2 (bldRows e p i) = true := headLen_map (f := spRow) (n := 2) (fun _ => rfl) _
theorem bldRows_push {e : List Int} {p : Int → Bool} {i : Nat} {s : Int × Int} (h : bldR e p (i + 1) = s :: bldR e p i) : bldRows e p i ++ [[.int .i64 s.1, .int .i64 s.2]] = bldRows e p (i + 1) := by
  simp [bldRows, h, spRow]
theorem bldRows_last {e : List Int} {p : Int → Bool} {i : Nat} {s : Int × Int} {r : List (Int × Int)} (h : bldR e p i = s :: r) : (bldRows e p i)[r.length]? = some [.int .i64 s.1, .int .i64 s.2] := by
  simp [bldRows, h, spRow]
theorem bldRows_set {e : List Int} {p : Int → Bool} {i : Nat} {s : Int × Int} {y : Int} {r : List (Int × Int)} (h : bldR e p i = s :: r) (h' : bldR e p (i + 1) = (s.1, y) :: r) : (bldRows e p i).set r.length [.int .i64 s.1, .int .i64 y] = bldRows e p (i + 1) := by
  simp [bldRows, h, h', spRow]
theorem bldRows_bld (e : List Int) (p : Int → Bool) : bldRows e p (e.length - 1) = (bld e p).map spRow := rfl
theorem bldRows_le (e : List Int) (p : Int → Bool) (i : Nat) : (bldRows e p i).length ≤ i := by rw [bldRows_len]; exact bldR_length e p i
theorem toNat_pred (n : Nat) : ((n : Int) + 1 - 1).toNat = n := by omega
theorem lt_suc (n : Nat) : decide (n < n + 1) = true := by simp
theorem castSucc (n : Nat) : ((n + 1 : Nat) : Int) = (n : Int) + 1 := rfl

theorem transitref08_Combine_ok (a b : List (Int × Int)) (c d : Cap) (kind : Int) (ha : a.length ≤ 1000) (hb : b.length ≤ 1000) :
    PCalls PR i_transitref08_Combine [.slice (a.map spRow) c, .slice (b.map spRow) d, .int .i64 kind] (fun v => v = .slice ((refCmb kind a b).map spRow) .unk) := by
  have hm : maxLen = 9223372036854775807 := by rfl
  obtain ⟨h1, _, _, h4⟩ := refEnds_ok a [] List.Pairwise.nil
  obtain ⟨_, _, _, h5⟩ := refEnds_ok b _ h1
  have hlen : (refEnds b (refEnds a [])).length ≤ 4000 := by simp at h4; omega
  refine acalls_pop fn_transitref08_Combine_ok (by simp [fn_transitref08_Combine]) ?_
  simp -implicitDefEqProofs (disch := omega) only [go_sem, Nat.reduceAdd, Nat.reduceMul, Nat.reduceSub, Nat.reduceBEq, Nat.reduceLeDiff, Nat.reduceLT, fn_transitref08_Combine, e18_1, w18_1, e18_3, w18_3, e18_5, w18_5, e18_7, w18_7, e18_9, w18_9, e18_11, w18_11, e18_13, w18_13, e18_15, w18_15, e18_17, w18_17, c18_18, c18_19, e18_21, w18_21, c18_22, c18_23, c18_24, c18_25, c18_26, e18_28, w18_28, c18_29, c18_30, c18_31, c18_32, c18_33]
  refine callP (ends_ok a b c d ha hb) ?_
  rintro v ⟨t, rfl⟩
  unfold refCmb
  generalize refEnds b (refEnds a []) = e at *
  generalize hp : (fun x => kop kind (inS a x) (inS b x)) = p
  have hpx : ∀ x, kop kind (inS a x) (inS b x) = p x := fun x => by rw [← hp]
  simp -implicitDefEqProofs (disch := omega) only [go_sem, Nat.reduceAdd, Nat.reduceMul, Nat.reduceSub, Nat.reduceBEq, Nat.reduceLeDiff, Nat.reduceLT, fn_transitref08_Combine, e18_1, w18_1, e18_3, w18_3, e18_5, w18_5, e18_7, w18_7, e18_9, w18_9, e18_11, w18_11, e18_13, w18_13, e18_15, w18_15, e18_17, w18_17, c18_18, c18_19, e18_21, w18_21, c18_22, c18_23, c18_24, c18_25, c18_26, e18_28, w18_28, c18_29, c18_30, c18_31, c18_32, c18_33]
  refine wpC_for (e.length - 1) (fun i vs M => ∃ ver, vs = [.slice (a.map spRow) c, .slice (b.map spRow) d, .int .i64 kind, .slice (e.map nRow) t, .mslice 0 ver 0 (bldRows e p i).length, .int .i64 i] ∧ M = [.arr 2 (bldRows e p i) ver 0]) ⟨0, rfl, rfl⟩ ?_ ?_
  · rintro i vs M hi hd ⟨ver, rfl, rfl⟩
    obtain ⟨x, hx⟩ : ∃ x, e[i]? = some x := ⟨e[i], by simp⟩
    obtain ⟨y, hy⟩ : ∃ y, e[i + 1]? = some y := ⟨e[i + 1], by simp⟩
    have hle := bldRows_le e p i
    simp -implicitDefEqProofs (disch := omega) only [go_sem, Nat.reduceAdd, Nat.reduceMul, Nat.reduceSub, Nat.reduceBEq, Nat.reduceLeDiff, Nat.reduceLT, fn_transitref08_Combine, e18_1, w18_1, e18_3, w18_3, e18_5, w18_5, e18_7, w18_7, e18_9, w18_9, e18_11, w18_11, e18_13, w18_13, e18_15, w18_15, e18_17, w18_17, c18_18, c18_19, e18_21, w18_21, c18_22, c18_23, c18_24, c18_25, c18_26, e18_28, w18_28, c18_29, c18_30, c18_31, c18_32, c18_33]
    refine ifD (fun g1 => ?_) (fun g1 => ?_)
    rotate_left
    · omega
    simp -implicitDefEqProofs (disch := omega) only [go_sem, Nat.reduceAdd, Nat.reduceMul, Nat.reduceSub, Nat.reduceBEq, Nat.reduceLeDiff, Nat.reduceLT, fn_transitref08_Combine, e18_1, w18_1, e18_3, w18_3, e18_5, w18_5, e18_7, w18_7, e18_9, w18_9, e18_11, w18_11, e18_13, w18_13, e18_15, w18_15, e18_17, w18_17, c18_18, c18_19, e18_21, w18_21, c18_22, c18_23, c18_24, c18_25, c18_26, e18_28, w18_28, c18_29, c18_30, c18_31, c18_32, c18_33, hx, nRow]
    first | refine callD (kept_ok a b c d kind x (by omega) (by omega)) ?_ | refine callQD (kept_ok a b c d kind x (by omega) (by omega)) ?_
    rw [hpx]
    simp -implicitDefEqProofs (disch := omega) only [go_sem, Nat.reduceAdd, Nat.reduceMul, Nat.reduceSub, Nat.reduceBEq, Nat.reduceLeDiff, Nat.reduceLT, fn_transitref08_Combine, e18_1, w18_1, e18_3, w18_3, e18_5, w18_5, e18_7, w18_7, e18_9, w18_9, e18_11, w18_11, e18_13, w18_13, e18_15, w18_15, e18_17, w18_17, c18_18, c18_19, e18_21, w18_21, c18_22, c18_23, c18_24, c18_25, c18_26, e18_28, w18_28, c18_29, c18_30, c18_31, c18_32, c18_33]
    refine ifB (fun g2 => ?_) (fun g2 => ?_)
    rotate_left
    · simp -implicitDefEqProofs (disch := omega) only [go_sem, Nat.reduceAdd, Nat.reduceMul, Nat.reduceSub, Nat.reduceBEq, Nat.reduceLeDiff, Nat.reduceLT, fn_transitref08_Combine, e18_1, w18_1, e18_3, w18_3, e18_5, w18_5, e18_7, w18_7, e18_9, w18_9, e18_11, w18_11, e18_13, w18_13, e18_15, w18_15, e18_17, w18_17, c18_18, c18_19, e18_21, w18_21, c18_22, c18_23, c18_24, c18_25, c18_26, e18_28, w18_28, c18_29, c18_30, c18_31, c18_32, c18_33]
      have e1 := bldR_off hx g2
      have e2 : bldRows e p (i + 1) = bldRows e p i := by rw [bldRows, e1]; rfl
      exact next_stay hi ⟨ver, by rw [e2]; rfl, by rw [e2]⟩
    simp -implicitDefEqProofs (disch := omega) only [go_sem, Nat.reduceAdd, Nat.reduceMul, Nat.reduceSub, Nat.reduceBEq, Nat.reduceLeDiff, Nat.reduceLT, fn_transitref08_Combine, e18_1, w18_1, e18_3, w18_3, e18_5, w18_5, e18_7, w18_7, e18_9, w18_9, e18_11, w18_11, e18_13, w18_13, e18_15, w18_15, e18_17, w18_17, c18_18, c18_19, e18_21, w18_21, c18_22, c18_23, c18_24, c18_25, c18_26, e18_28, w18_28, c18_29, c18_30, c18_31, c18_32, c18_33]
    cases hr : bldR e p i with
    | nil =>
      have hz : (bldRows e p i).length = 0 := by rw [bldRows_len, hr]; rfl
      have e1 := bldR_nil hx hy g2 hr
      have e2 := bldRows_push (p := p) (i := i) (by rw [e1, hr])
      have e3 : (bldRows e p (i + 1)).length = 1 := by rw [bldRows_len, e1]; rfl
      refine ifD (fun g3 => ?_) (fun g3 => ?_)
      · omega
      simp only at e2
      simp -implicitDefEqProofs (disch := omega) only [go_sem, Nat.reduceAdd, Nat.reduceMul, Nat.reduceSub, Nat.reduceBEq, Nat.reduceLeDiff, Nat.reduceLT, fn_transitref08_Combine, e18_1, w18_1, e18_3, w18_3, e18_5, w18_5, e18_7, w18_7, e18_9, w18_9, e18_11, w18_11, e18_13, w18_13, e18_15, w18_15, e18_17, w18_17, c18_18, c18_19, e18_21, w18_21, c18_22, c18_23, c18_24, c18_25, c18_26, e18_28, w18_28, c18_29, c18_30, c18_31, c18_32, c18_33, hx, hy, nRow, hz, e2]
      exact next_stay hi ⟨ver + 1, by rw [e3]; rfl, rfl⟩
    | cons s r =>
      have hz : (bldRows e p i).length = r.length + 1 := by rw [bldRows_len, hr]; rfl
      refine ifD (fun g3 => ?_) (fun g3 => ?_)
      rotate_left
      · omega
      simp -implicitDefEqProofs (disch := omega) only [go_sem, Nat.reduceAdd, Nat.reduceMul, Nat.reduceSub, Nat.reduceBEq, Nat.reduceLeDiff, Nat.reduceLT, fn_transitref08_Combine, e18_1, w18_1, e18_3, w18_3, e18_5, w18_5, e18_7, w18_7, e18_9, w18_9, e18_11, w18_11, e18_13, w18_13, e18_15, w18_15, e18_17, w18_17, c18_18, c18_19, e18_21, w18_21, c18_22, c18_23, c18_24, c18_25, c18_26, e18_28, w18_28, c18_29, c18_30, c18_31, c18_32, c18_33, hx, hz, nRow, castSucc, toNat_pred, lt_suc, bldRows_last hr]
      refine ifD (fun g4 => ?_) (fun g4 => ?_)
      · have e1 := bldR_join hx hy g2 hr g4
        have e2 := bldRows_set hr e1
        have e3 : (bldRows e p (i + 1)).length = r.length + 1 := by rw [bldRows_len, e1]; rfl
        simp -implicitDefEqProofs (disch := omega) only [go_sem, Nat.reduceAdd, Nat.reduceMul, Nat.reduceSub, Nat.reduceBEq, Nat.reduceLeDiff, Nat.reduceLT, fn_transitref08_Combine, e18_1, w18_1, e18_3, w18_3, e18_5, w18_5, e18_7, w18_7, e18_9, w18_9, e18_11, w18_11, e18_13, w18_13, e18_15, w18_15, e18_17, w18_17, c18_18, c18_19, e18_21, w18_21, c18_22, c18_23, c18_24, c18_25, c18_26, e18_28, w18_28, c18_29, c18_30, c18_31, c18_32, c18_33, hx, hy, hz, nRow, castSucc, toNat_pred, lt_suc, bldRows_last hr, e2]
        exact next_stay hi ⟨ver, by rw [e3]; rfl, rfl⟩
      · have e1 := bldR_new hx hy g2 hr g4
        have e2 := bldRows_push (p := p) (i := i) (by rw [e1, hr])
        have e3 : (bldRows e p (i + 1)).length = r.length + 1 + 1 := by rw [bldRows_len, e1]; rfl
        simp only at e2
        simp -implicitDefEqProofs (disch := omega) only [go_sem, Nat.reduceAdd, Nat.reduceMul, Nat.reduceSub, Nat.reduceBEq, Nat.reduceLeDiff, Nat.reduceLT, fn_transitref08_Combine, e18_1, w18_1, e18_3, w18_3, e18_5, w18_5, e18_7, w18_7, e18_9, w18_9, e18_11, w18_11, e18_13, w18_13, e18_15, w18_15, e18_17, w18_17, c18_18, c18_19, e18_21, w18_21, c18_22, c18_23, c18_24, c18_25, c18_26, e18_28, w18_28, c18_29, c18_30, c18_31, c18_32, c18_33, hx, hy, nRow, hz, e2]
        exact next_stay hi ⟨ver + 1, by rw [e3]; rfl, rfl⟩
  · rintro vs M ⟨ver, rfl, rfl⟩
    simp -implicitDefEqProofs (disch := omega) only [go_sem, Nat.reduceAdd, Nat.reduceMul, Nat.reduceSub, Nat.reduceBEq, Nat.reduceLeDiff, Nat.reduceLT, fn_transitref08_Combine, e18_1, w18_1, e18_3, w18_3, e18_5, w18_5, e18_7, w18_7, e18_9, w18_9, e18_11, w18_11, e18_13, w18_13, e18_15, w18_15, e18_17, w18_17, c18_18, c18_19, e18_21, w18_21, c18_22, c18_23, c18_24, c18_25, c18_26, e18_28, w18_28, c18_29, c18_30, c18_31, c18_32, c18_33]
    refine ifD (fun g1 => ?_) (fun g1 => ?_)
    · omega
    simp -implicitDefEqProofs (disch := omega) only [go_sem, Nat.reduceAdd, Nat.reduceMul, Nat.reduceSub, Nat.reduceBEq, Nat.reduceLeDiff, Nat.reduceLT, fn_transitref08_Combine, e18_1, w18_1, e18_3, w18_3, e18_5, w18_5, e18_7, w18_7, e18_9, w18_9, e18_11, w18_11, e18_13, w18_13, e18_15, w18_15, e18_17, w18_17, c18_18, c18_19, e18_21, w18_21, c18_22, c18_23, c18_24, c18_25, c18_26, e18_28, w18_28, c18_29, c18_30, c18_31, c18_32, c18_33, List.take_length]
    rw [bldRows_bld]

/-! ### The library's sort, and its removal of neighbours that are equal -/
theorem extAhead {w : World} {Γ : Env} (n : Nat) : Ext w Γ (Go.Sort.ahead w n) Γ :=
  ⟨fun _ _ h => ⟨h, rfl⟩, fun _ l h => ⟨l, h, Nat.le_refl _, fun _ => rfl, fun _ => rfl⟩, rfl, ⟨rfl, rfl, rfl, Nat.le_refl _, fun _ _ => rfl⟩, fun _ _ _ h => h⟩
theorem goodAhead {w : World} {Γ : Env} {M : Mem} (h : Good w Γ M) (n : Nat) : Good (Go.Sort.ahead w n) Γ M :=
  ⟨h.len, fun i l B hl hB => (h.blk i l B hl hB).keep (extAhead n) (fun _ => rfl) (fun _ _ h => h), h.b0, h.inj, h.scell, h.base⟩
theorem extGrow {w : World} {Γ : Env} {M : Mem} (h : Good w Γ M) (os : Array Obj) : Ext w Γ (Go.Sort.grow w os) Γ :=
  ⟨fun b o hs => ⟨hs, Go.Sort.cell?_grow w os ⟨b, o, none⟩ (h.s_lt hs)⟩, fun _ l hl => ⟨l, hl, Nat.le_refl _, fun _ => rfl, fun _ => rfl⟩, rfl,
    ⟨rfl, rfl, rfl, by simp, fun k hk => Go.Sort.heap_grow_old w os (Nat.lt_of_lt_of_le hk h.base)⟩, fun _ _ _ h => h⟩
theorem goodGrow {w : World} {Γ : Env} {M : Mem} (h : Good w Γ M) (os : Array Obj) : Good (Go.Sort.grow w os) Γ M :=
  ⟨h.len, fun i l B hl hB => (h.blk i l B hl hB).keep (extGrow h os) (fun hv => Go.Sort.heap_grow_old w os (h.loc_lt hl hv)) (fun _ _ h => h), h.b0, h.inj, fun b o hs => by
    obtain ⟨v, hv⟩ := h.scell b o hs
    exact ⟨v, ((extGrow h os).s b o hs).2.trans hv⟩, Nat.le_trans h.base (by simp)⟩
theorem heap_putRow_ne {w : World} {b k : Nat} (d : Array Int) (h : k ≠ b) : (Go.Sort.putRow (Value.int .i64) w b 0 d).heap[k]? = w.heap[k]? := by
  show (w.heap.modify b _)[k]? = _
  rw [Array.getElem?_modify, if_neg (fun e => h e.symm)]
theorem heap_putRow_eq {w : World} {b : Nat} (d : Array Int) {c : Array Value} {T : TypeId} {f : Nat × Nat} (h : w.heap[b]? = some (.cells c T f)) :
    (Go.Sort.putRow (Value.int .i64) w b 0 d).heap[b]? = some (.cells (Go.Sort.putCells (Value.int .i64) 0 d c) T f) := by
  show (w.heap.modify b _)[b]? = _
  rw [Array.getElem?_modify, if_pos rfl, h]
  rfl
/-- The row is written over by another one of the same length. -/
theorem goodPutRow {w : World} {Γ : Env} {M : Mem} (h : Good w Γ M) {id ver : Nat} {l : Loc} (hl : Γ.locs[id]? = some l) (hv : l.live = true) {xs ys : List Int} (hM : M[id]? = some (.arr 1 (xs.map nRow) ver 0)) (hlen : ys.length = xs.length) :
    Good (Go.Sort.putRow (Value.int .i64) w l.b 0 ys.toArray) Γ (M.set id (.arr 1 (ys.map nRow) ver 0)) ∧ Ext w Γ (Go.Sort.putRow (Value.int .i64) w l.b 0 ys.toArray) Γ := by
  obtain ⟨h1, h2, h3, h4, h5, h6, h7, h8, h9⟩ := h.blk id l _ hl hM
  obtain ⟨hS, c, T, hc, hcs, hrep⟩ := h9 hv
  have he : Ext w Γ (Go.Sort.putRow (Value.int .i64) w l.b 0 ys.toArray) Γ :=
    Ext.write h hl (fun k hk => heap_putRow_ne _ hk) (by simp) rfl rfl rfl (fun o ho => by have := (hS o).1 ho; omega)
  refine ⟨h.write hl hv he (fun k hk => heap_putRow_ne _ hk) ⟨h1, h2, h3, Nat.zero_le _, ?_, h6, ?_, ?_, fun _ => ⟨hS, _, T, heap_putRow_eq _ hc, ?_, ?_⟩⟩, he⟩
  · rw [List.length_map] at h5 ⊢; omega
  · intro i r hr
    rw [List.getElem?_map] at hr
    obtain ⟨x, _, rfl⟩ := Option.map_eq_some_iff.1 hr
    rw [h2]; rfl
  · intro i r j x hr hx
    rw [List.getElem?_map] at hr
    obtain ⟨y, _, rfl⟩ := Option.map_eq_some_iff.1 hr
    match j, hx with
    | 0, hx => cases hx; rfl
    | j + 1, hx => simp [nRow] at hx
  · simp [Go.Sort.putCells, hcs]
  · intro i r j x hr hx
    rw [List.getElem?_map] at hr
    obtain ⟨y, hy, rfl⟩ := Option.map_eq_some_iff.1 hr
    match j, hx with
    | 0, hx =>
      cases hx
      have hi := (List.getElem?_eq_some_iff.1 hy).1
      have hcap : i < c.size := by rw [hcs, h2]; rw [List.length_map] at h5; omega
      have e1 : (Go.Sort.putCells (Value.int .i64) 0 ys.toArray c).getD (i * l.sz + 0) Go.undef = .int .i64 y := by
        rw [h2, Nat.mul_one, Nat.add_zero, Array.getD_eq_getD_getElem?]
        unfold Go.Sort.putCells
        rw [Array.getElem?_mapIdx, Array.getElem?_eq_getElem hcap]
        simp only [Option.map_some, Option.getD_some]
        rw [if_pos ⟨Nat.zero_le _, by simpa using hi⟩]
        simp only [Nat.sub_zero]
        have : ys.toArray[i]! = y := by
          rw [getElem!_pos _ i (by simpa using hi)]
          simpa using (List.getElem?_eq_some_iff.1 hy).2
        rw [this]
      rw [e1]
      exact .int _ _
    | j + 1, hx => simp [nRow] at hx
theorem rep_int {w : World} {Γ : Env} {n : Int} {v : Value} (h : Rep w Γ (.int .i64 n) v) : v = .int .i64 n := by cases h; rfl
theorem goodHolds {w : World} {Γ : Env} {M : Mem} (h : Good w Γ M) {id ver : Nat} {l : Loc} (hl : Γ.locs[id]? = some l) (hv : l.live = true) {xs : List Int} (hM : M[id]? = some (.arr 1 (xs.map nRow) ver 0)) : Go.Sort.Holds (Value.int .i64) w l.b 0 xs.toArray := by
  obtain ⟨h1, h2, h3, h4, h5, h6, h7, h8, h9⟩ := h.blk id l _ hl hM
  obtain ⟨hS, c, T, hc, hcs, hrep⟩ := h9 hv
  intro j hj
  have hj' : j < xs.length := by simpa using hj
  have hcap : j < c.size := by rw [hcs, h2]; rw [List.length_map] at h5; omega
  have hr := rep_int (hrep j (nRow xs[j]) 0 (.int .i64 xs[j]) (by rw [List.getElem?_map, List.getElem?_eq_getElem hj']; rfl) rfl)
  rw [h2, Nat.mul_one, Nat.add_zero] at hr
  rw [Nat.zero_add]
  refine ⟨?_, by simp [World.frozen?, hc]⟩
  rw [cell_of_heap hc, getD_of_getElem? hcap, hr, getElem!_pos _ j hj]
  simp
theorem args1 {w : World} {Γ : Env} {x : V} {cargs : Array Value} (h : RepL w Γ [x] cargs) : ∃ v, cargs = #[v] ∧ Rep w Γ x v := by
  refine ⟨cargs.getD 0 Go.undef, ?_, h.2 0 x rfl⟩
  have hs := h.1
  apply Array.ext
  · simpa using hs
  · intro i h1 h2
    have : i = 0 := by simp at h2; omega
    subst this
    simp [Array.getD, h1]
theorem sort_ok {M : Mem} {id ver : Nat} {xs : List Int} (hM : M[id]? = some (.arr 1 (xs.map nRow) ver 0)) (hn : xs.length < 4611686018427387904) :
    ACalls PR C.i_slices_Sort_int_int [.mslice id ver 0 xs.length] M (fun v M' => v = .tuple [] ∧ M' = M.set id (.arr 1 ((xs.mergeSort fun x y => decide (x ≤ y)).map nRow) ver 0)) := by
  refine ⟨by kernel_rfl, ?_⟩
  intro w Γ cargs hg ha
  obtain ⟨v, rfl, hv⟩ := args1 ha
  obtain ⟨l, hl⟩ := hg.loc_of hM
  have hb := hg.blk id l _ hl hM
  have hver : l.ver = ver := hb.2.2.1
  cases hv with
  | mslice _ _ _ _ l' hl' hv' _ hs hone =>
    rw [hl] at hl'; cases hl'
    have hempty : xs = [] → M.set id (.arr 1 ((xs.mergeSort fun x y => decide (x ≤ y)).map nRow) ver 0) = M := by
      intro e
      subst e
      apply List.ext_getElem?
      intro k
      by_cases hk : id = k
      · subst hk; rw [List.getElem?_set_self (List.getElem?_eq_some_iff.1 hM).1, hM]; simp
      · rw [List.getElem?_set_ne hk]
    rcases hs hver with ⟨h1, h2, rfl⟩ | ⟨h1, h2, o, rfl, h3⟩
    · have e : xs = [] := List.length_eq_zero_iff.1 h2
      rw [hempty e]
      subst e
      refine (Go.Proofs.Try.slices_Sort_int_none none 0 w).mono ?_
      rintro e w' ⟨rfl, rfl⟩
      exact ⟨_, _, Γ, _, rfl, ⟨rfl, rfl⟩, .tuple [] #[] rfl (fun j x hx => by simp at hx), hg, Ext.refl _ _⟩
    · by_cases e : xs = []
      · rw [hempty e]
        subst e
        refine (Go.Proofs.Try.slices_Sort_int_none _ _ w).mono ?_
        rintro e w' ⟨rfl, rfl⟩
        exact ⟨_, _, Γ, _, rfl, ⟨rfl, rfl⟩, .tuple [] #[] rfl (fun j x hx => by simp at hx), hg, Ext.refl _ _⟩
      · have hpos : 0 < xs.length := List.length_pos_iff.2 e
        have ho : o = 0 := by rw [h3 (by omega)]; omega
        subst ho
        refine (Go.Proofs.Try.slices_Sort_int l.b 0 _ xs w (goodHolds hg hl h1 hM) (hg.loc_lt hl h1) hn).mono ?_
        rintro e w' ⟨rfl, q, os, rfl⟩
        have g1 := goodAhead hg q
        have e1 := extAhead (w := w) (Γ := Γ) q
        obtain ⟨g2, e2⟩ := goodPutRow g1 hl h1 hM (ys := xs.mergeSort fun x y => decide (x ≤ y)) (List.length_mergeSort _)
        have g3 := goodGrow g2 os
        have e3 := extGrow g2 os
        exact ⟨_, _, Γ, _, rfl, ⟨rfl, rfl⟩, .tuple [] #[] rfl (fun j x hx => by simp at hx), g3, (e1.trans e2).trans e3⟩
theorem compact_ok {M : Mem} {id ver : Nat} {xs : List Int} (hM : M[id]? = some (.arr 1 (xs.map nRow) ver 0)) (hn : xs.length ≤ 9223372036854775807) :
    ACalls PR C.i_slices_Compact_int_int [.mslice id ver 0 xs.length] M (fun v M' => v = .mslice id ver 0 (Go.Lib.compact xs).length ∧ M' = M.set id (.arr 1 ((Go.Lib.compact xs ++ List.replicate (xs.length - (Go.Lib.compact xs).length) 0).map nRow) ver 0)) := by
  refine ⟨by kernel_rfl, ?_⟩
  intro w Γ cargs hg ha
  obtain ⟨v, rfl, hv⟩ := args1 ha
  have hv0 := hv
  obtain ⟨l, hl⟩ := hg.loc_of hM
  have hb := hg.blk id l _ hl hM
  have hver : l.ver = ver := hb.2.2.1
  have hle := Go.Lib.compact_length_le xs
  cases hv with
  | mslice _ _ _ _ l' hl' hv' _ hs hone =>
    rw [hl] at hl'; cases hl'
    have hempty : xs = [] → M.set id (.arr 1 ((Go.Lib.compact xs ++ List.replicate (xs.length - (Go.Lib.compact xs).length) 0).map nRow) ver 0) = M := by
      intro e
      subst e
      apply List.ext_getElem?
      intro k
      by_cases hk : id = k
      · subst hk; rw [List.getElem?_set_self (List.getElem?_eq_some_iff.1 hM).1, hM]; simp [Go.Lib.compact, Go.Lib.compactUpTo]
      · rw [List.getElem?_set_ne hk]
    rcases hs hver with ⟨h1, h2, rfl⟩ | ⟨h1, h2, o, rfl, h3⟩
    · have e : xs = [] := List.length_eq_zero_iff.1 h2
      rw [hempty e]
      subst e
      refine (Go.Proofs.Try.slices_Compact_int_empty none 0 w).mono ?_
      rintro e w' ⟨rfl, rfl⟩
      exact ⟨_, _, Γ, _, rfl, ⟨rfl, rfl⟩, hv0, hg, Ext.refl _ _⟩
    · by_cases e : xs = []
      · rw [hempty e]
        subst e
        refine (Go.Proofs.Try.slices_Compact_int_empty _ _ w).mono ?_
        rintro e w' ⟨rfl, rfl⟩
        exact ⟨_, _, Γ, _, rfl, ⟨rfl, rfl⟩, hv0, hg, Ext.refl _ _⟩
      · have hpos : 0 < xs.length := List.length_pos_iff.2 e
        have ho : o = 0 := by rw [h3 (by omega)]; omega
        subst ho
        refine (Go.Proofs.Try.slices_Compact_int l.b 0 _ xs w (goodHolds hg hl h1 hM) hn (by omega)).mono ?_
        rintro e w' ⟨rfl, q, rfl⟩
        have g1 := goodAhead hg q
        have e1 := extAhead (w := w) (Γ := Γ) q
        obtain ⟨g2, e2⟩ := goodPutRow g1 hl h1 hM (ys := Go.Lib.compact xs ++ List.replicate (xs.length - (Go.Lib.compact xs).length) 0) (by simp; omega)
        refine ⟨_, _, Γ, _, rfl, ⟨rfl, rfl⟩, ?_, g2, e1.trans e2⟩
        exact .mslice id ver 0 _ l hl hv' _ (fun _ => .inr ⟨h1, by omega, 0, rfl, fun _ => by omega⟩) hone

/-! ### The program's list from ends and a condition -/
theorem aget0 (M : Mem) (b : Blk) : (M ++ [b])[M.length]? = some b := by simp
theorem aset0 (M : Mem) (b x : Blk) : (M ++ [b]).set M.length x = M ++ [x] := by simp
theorem atake (M L : Mem) : (M ++ L).take M.length = M := by simp
theorem ale (M L : Mem) : decide (M.length ≤ (M ++ L).length) = true := by simp
theorem nlt_self (n : Nat) : decide (n < n) = false := by simp

theorem build_ok {M : Mem} (hU : memUnder M.length M = true) (e : List Int) (c : Cap) (p : Int → Bool) (f : Nat) (caps : List V) (hlen : e.length ≤ 100000)
    (hp : ∀ (x : Int) (N : Mem), (∃ rows ver, N = M ++ [.arr 2 rows ver 0]) → ACalls PR f (V.int .i64 x :: caps) N (fun v N' => v = .bool (p x) ∧ N' = N)) :
    ACalls PR i_interval_build [.slice (e.map nRow) c, .fn f caps] M (fun v M' => v = .slice ((bld e p).map spRow) .unk ∧ M' = M) := by
  refine acalls_pop fn_interval_build_ok (by simp [fn_interval_build]) ?_
  simp -implicitDefEqProofs (disch := omega) only [go_sem, Nat.reduceAdd, Nat.reduceMul, Nat.reduceSub, Nat.reduceBEq, Nat.reduceLeDiff, Nat.reduceLT, fn_interval_build, e28_1, w28_1, e28_3, w28_3, e28_5, w28_5, e28_7, w28_7, e28_9, w28_9, e28_11, w28_11, e28_13, w28_13, c28_14, e28_16, w28_16, c28_17, e28_19, w28_19, c28_20, c28_21, c28_22, e28_24, w28_24, c28_25, c28_26, c28_27, c28_28, c28_29, e28_31, w28_31, c28_32, c28_33, c28_34, c28_35]
  refine wpC_for (e.length - 1) (fun i vs N => ∃ ver, vs = [.slice (e.map nRow) c, .fn f caps, .mslice M.length ver 0 (bldRows e p i).length, .int .i64 i] ∧ N = M ++ [.arr 2 (bldRows e p i) ver 0]) ⟨0, rfl, rfl⟩ ?_ ?_
  · rintro i vs N hi hd ⟨ver, rfl, rfl⟩
    obtain ⟨x, hx⟩ : ∃ x, e[i]? = some x := ⟨e[i], by simp⟩
    obtain ⟨y, hy⟩ : ∃ y, e[i + 1]? = some y := ⟨e[i + 1], by simp⟩
    have hle := bldRows_le e p i
    simp -implicitDefEqProofs (disch := omega) only [go_sem, Nat.reduceAdd, Nat.reduceMul, Nat.reduceSub, Nat.reduceBEq, Nat.reduceLeDiff, Nat.reduceLT, fn_interval_build, e28_1, w28_1, e28_3, w28_3, e28_5, w28_5, e28_7, w28_7, e28_9, w28_9, e28_11, w28_11, e28_13, w28_13, c28_14, e28_16, w28_16, c28_17, e28_19, w28_19, c28_20, c28_21, c28_22, e28_24, w28_24, c28_25, c28_26, c28_27, c28_28, c28_29, e28_31, w28_31, c28_32, c28_33, c28_34, c28_35]
    refine ifD (fun g1 => ?_) (fun g1 => ?_)
    rotate_left
    · omega
    simp -implicitDefEqProofs (disch := omega) only [go_sem, Nat.reduceAdd, Nat.reduceMul, Nat.reduceSub, Nat.reduceBEq, Nat.reduceLeDiff, Nat.reduceLT, fn_interval_build, e28_1, w28_1, e28_3, w28_3, e28_5, w28_5, e28_7, w28_7, e28_9, w28_9, e28_11, w28_11, e28_13, w28_13, c28_14, e28_16, w28_16, c28_17, e28_19, w28_19, c28_20, c28_21, c28_22, e28_24, w28_24, c28_25, c28_26, c28_27, c28_28, c28_29, e28_31, w28_31, c28_32, c28_33, c28_34, c28_35, hx, nRow]
    refine callA (hp x _ ⟨_, _, rfl⟩) ?_
    rintro v N ⟨rfl, rfl⟩
    simp -implicitDefEqProofs (disch := omega) only [go_sem, Nat.reduceAdd, Nat.reduceMul, Nat.reduceSub, Nat.reduceBEq, Nat.reduceLeDiff, Nat.reduceLT, fn_interval_build, e28_1, w28_1, e28_3, w28_3, e28_5, w28_5, e28_7, w28_7, e28_9, w28_9, e28_11, w28_11, e28_13, w28_13, c28_14, e28_16, w28_16, c28_17, e28_19, w28_19, c28_20, c28_21, c28_22, e28_24, w28_24, c28_25, c28_26, c28_27, c28_28, c28_29, e28_31, w28_31, c28_32, c28_33, c28_34, c28_35]
    refine ifB (fun g2 => ?_) (fun g2 => ?_)
    rotate_left
    · simp -implicitDefEqProofs (disch := omega) only [go_sem, Nat.reduceAdd, Nat.reduceMul, Nat.reduceSub, Nat.reduceBEq, Nat.reduceLeDiff, Nat.reduceLT, fn_interval_build, e28_1, w28_1, e28_3, w28_3, e28_5, w28_5, e28_7, w28_7, e28_9, w28_9, e28_11, w28_11, e28_13, w28_13, c28_14, e28_16, w28_16, c28_17, e28_19, w28_19, c28_20, c28_21, c28_22, e28_24, w28_24, c28_25, c28_26, c28_27, c28_28, c28_29, e28_31, w28_31, c28_32, c28_33, c28_34, c28_35]
      have e1 := bldR_off hx g2
      have e2 : bldRows e p (i + 1) = bldRows e p i := by rw [bldRows, e1]; rfl
      exact next_stay hi ⟨ver, by rw [e2]; rfl, by rw [e2]⟩
    simp -implicitDefEqProofs (disch := omega) only [go_sem, Nat.reduceAdd, Nat.reduceMul, Nat.reduceSub, Nat.reduceBEq, Nat.reduceLeDiff, Nat.reduceLT, fn_interval_build, e28_1, w28_1, e28_3, w28_3, e28_5, w28_5, e28_7, w28_7, e28_9, w28_9, e28_11, w28_11, e28_13, w28_13, c28_14, e28_16, w28_16, c28_17, e28_19, w28_19, c28_20, c28_21, c28_22, e28_24, w28_24, c28_25, c28_26, c28_27, c28_28, c28_29, e28_31, w28_31, c28_32, c28_33, c28_34, c28_35, aget0]
    cases hr : bldR e p i with
    | nil =>
      have hz : (bldRows e p i).length = 0 := by rw [bldRows_len, hr]; rfl
      have e1 := bldR_nil hx hy g2 hr
      have e2 := bldRows_push (p := p) (i := i) (by rw [e1, hr])
      have e3 : (bldRows e p (i + 1)).length = 1 := by rw [bldRows_len, e1]; rfl
      refine ifD (fun g3 => ?_) (fun g3 => ?_)
      · omega
      simp only at e2
      simp -implicitDefEqProofs (disch := omega) only [go_sem, Nat.reduceAdd, Nat.reduceMul, Nat.reduceSub, Nat.reduceBEq, Nat.reduceLeDiff, Nat.reduceLT, fn_interval_build, e28_1, w28_1, e28_3, w28_3, e28_5, w28_5, e28_7, w28_7, e28_9, w28_9, e28_11, w28_11, e28_13, w28_13, c28_14, e28_16, w28_16, c28_17, e28_19, w28_19, c28_20, c28_21, c28_22, e28_24, w28_24, c28_25, c28_26, c28_27, c28_28, c28_29, e28_31, w28_31, c28_32, c28_33, c28_34, c28_35, aget0, aset0, hx, hy, nRow, hz, e2]
      exact next_stay hi ⟨ver + 1, by rw [e3]; rfl, rfl⟩
    | cons s r =>
      have hz : (bldRows e p i).length = r.length + 1 := by rw [bldRows_len, hr]; rfl
      refine ifD (fun g3 => ?_) (fun g3 => ?_)
      rotate_left
      · omega
      simp -implicitDefEqProofs (disch := omega) only [go_sem, Nat.reduceAdd, Nat.reduceMul, Nat.reduceSub, Nat.reduceBEq, Nat.reduceLeDiff, Nat.reduceLT, fn_interval_build, e28_1, w28_1, e28_3, w28_3, e28_5, w28_5, e28_7, w28_7, e28_9, w28_9, e28_11, w28_11, e28_13, w28_13, c28_14, e28_16, w28_16, c28_17, e28_19, w28_19, c28_20, c28_21, c28_22, e28_24, w28_24, c28_25, c28_26, c28_27, c28_28, c28_29, e28_31, w28_31, c28_32, c28_33, c28_34, c28_35, aget0, hx, hz, nRow, castSucc, toNat_pred, lt_suc, bldRows_last hr]
      refine ifD (fun g4 => ?_) (fun g4 => ?_)
      · have e1 := bldR_join hx hy g2 hr g4
        have e2 := bldRows_set hr e1
        have e3 : (bldRows e p (i + 1)).length = r.length + 1 := by rw [bldRows_len, e1]; rfl
        simp -implicitDefEqProofs (disch := omega) only [go_sem, Nat.reduceAdd, Nat.reduceMul, Nat.reduceSub, Nat.reduceBEq, Nat.reduceLeDiff, Nat.reduceLT, fn_interval_build, e28_1, w28_1, e28_3, w28_3, e28_5, w28_5, e28_7, w28_7, e28_9, w28_9, e28_11, w28_11, e28_13, w28_13, c28_14, e28_16, w28_16, c28_17, e28_19, w28_19, c28_20, c28_21, c28_22, e28_24, w28_24, c28_25, c28_26, c28_27, c28_28, c28_29, e28_31, w28_31, c28_32, c28_33, c28_34, c28_35, aget0, aset0, hx, hy, hz, nRow, castSucc, toNat_pred, lt_suc, bldRows_last hr, e2]
        exact next_stay hi ⟨ver, by rw [e3]; rfl, rfl⟩
      · have e1 := bldR_new hx hy g2 hr g4
        have e2 := bldRows_push (p := p) (i := i) (by rw [e1, hr])
        have e3 : (bldRows e p (i + 1)).length = r.length + 1 + 1 := by rw [bldRows_len, e1]; rfl
        simp only at e2
        simp -implicitDefEqProofs (disch := omega) only [go_sem, Nat.reduceAdd, Nat.reduceMul, Nat.reduceSub, Nat.reduceBEq, Nat.reduceLeDiff, Nat.reduceLT, fn_interval_build, e28_1, w28_1, e28_3, w28_3, e28_5, w28_5, e28_7, w28_7, e28_9, w28_9, e28_11, w28_11, e28_13, w28_13, c28_14, e28_16, w28_16, c28_17, e28_19, w28_19, c28_20, c28_21, c28_22, e28_24, w28_24, c28_25, c28_26, c28_27, c28_28, c28_29, e28_31, w28_31, c28_32, c28_33, c28_34, c28_35, aget0, aset0, hx, hy, nRow, hz, e2]
        exact next_stay hi ⟨ver + 1, by rw [e3]; rfl, rfl⟩
  · rintro vs N ⟨ver, rfl, rfl⟩
    simp -implicitDefEqProofs (disch := omega) only [go_sem, Nat.reduceAdd, Nat.reduceMul, Nat.reduceSub, Nat.reduceBEq, Nat.reduceLeDiff, Nat.reduceLT, fn_interval_build, e28_1, w28_1, e28_3, w28_3, e28_5, w28_5, e28_7, w28_7, e28_9, w28_9, e28_11, w28_11, e28_13, w28_13, c28_14, e28_16, w28_16, c28_17, e28_19, w28_19, c28_20, c28_21, c28_22, e28_24, w28_24, c28_25, c28_26, c28_27, c28_28, c28_29, e28_31, w28_31, c28_32, c28_33, c28_34, c28_35]
    refine ifD (fun g1 => ?_) (fun g1 => ?_)
    · omega
    simp -implicitDefEqProofs (disch := omega) only [go_sem, Nat.reduceAdd, Nat.reduceMul, Nat.reduceSub, Nat.reduceBEq, Nat.reduceLeDiff, Nat.reduceLT, fn_interval_build, e28_1, w28_1, e28_3, w28_3, e28_5, w28_5, e28_7, w28_7, e28_9, w28_9, e28_11, w28_11, e28_13, w28_13, c28_14, e28_16, w28_16, c28_17, e28_19, w28_19, c28_20, c28_21, c28_22, e28_24, w28_24, c28_25, c28_26, c28_27, c28_28, c28_29, e28_31, w28_31, c28_32, c28_33, c28_34, c28_35, aget0, atake, ale, hU, nlt_self, List.take_length]
    rw [bldRows_bld]

/-! ### All ends, sorted, each once -/
def lsRow (s : List (Int × Int) × Cap) : List V := [.slice (s.1.map spRow) s.2]
def allE (ls : List (List (Int × Int) × Cap)) : List Int := ls.flatMap fun s => rawE s.1
theorem rawE_cons (s : Int × Int) (l : List (Int × Int)) : rawE (s :: l) = (if s.1 < s.2 then [s.1, s.2] else []) ++ rawE l := rfl
theorem allE_cons (s : List (Int × Int) × Cap) (ls : List (List (Int × Int) × Cap)) : allE (s :: ls) = rawE s.1 ++ allE ls := rfl

theorem bounds_ok (ls : List (List (Int × Int) × Cap)) (c : Cap) (hl : ls.length ≤ 1000) (hs : ∀ s ∈ ls, s.1.length ≤ 100000) (hE : (allE ls).length ≤ 100000) :
    PCalls PR i_interval_bounds [.slice (ls.map lsRow) c] (fun v => v = .slice ((sortU (allE ls)).map nRow) .unk) := by
  refine acalls_pop fn_interval_bounds_ok (by simp [fn_interval_bounds]) ?_
  simp -implicitDefEqProofs (disch := omega) only [go_sem, Nat.reduceAdd, Nat.reduceMul, Nat.reduceSub, Nat.reduceBEq, Nat.reduceLeDiff, Nat.reduceLT, fn_interval_bounds, e29_1, w29_1, e29_3, w29_3, e29_5, w29_5, e29_7, w29_7, c29_8, e29_10, w29_10, e29_12, w29_12, e29_14, w29_14, c29_15, e29_17, w29_17, e29_19, w29_19, e29_21, w29_21, c29_22, c29_23, e29_25, w29_25, c29_26, c29_27, c29_28, c29_29, c29_30, c29_31, c29_32, c29_33, e29_35, w29_35, c29_36, c29_37, c29_38, c29_39, c29_40, c29_41, e29_43, w29_43, e29_45, w29_45, c29_46, c29_47, c29_48, c29_49, c29_50]
  refine wpC_forL ls (fun i vs M => ∃ (raw : List Int) (ver : Nat), raw ++ allE (ls.drop i) = allE ls ∧ vs = [.mslice 0 ver 0 raw.length, .slice (ls.map lsRow) c, .int .i64 ls.length, .int .i64 i] ∧ M = [.arr 1 (raw.map nRow) ver 0]) ⟨[], 0, rfl, rfl, rfl⟩ ?_ ?_
  · rintro i s vs M hsi hi hd ⟨raw, ver, hraw, rfl, rfl⟩
    rw [dropc hsi, allE_cons] at hraw
    have hsl := hs s (List.mem_of_getElem? hsi)
    simp -implicitDefEqProofs (disch := omega) only [go_sem, Nat.reduceAdd, Nat.reduceMul, Nat.reduceSub, Nat.reduceBEq, Nat.reduceLeDiff, Nat.reduceLT, fn_interval_bounds, e29_1, w29_1, e29_3, w29_3, e29_5, w29_5, e29_7, w29_7, c29_8, e29_10, w29_10, e29_12, w29_12, e29_14, w29_14, c29_15, e29_17, w29_17, e29_19, w29_19, e29_21, w29_21, c29_22, c29_23, e29_25, w29_25, c29_26, c29_27, c29_28, c29_29, c29_30, c29_31, c29_32, c29_33, e29_35, w29_35, c29_36, c29_37, c29_38, c29_39, c29_40, c29_41, e29_43, w29_43, e29_45, w29_45, c29_46, c29_47, c29_48, c29_49, c29_50, hd, hsi, lsRow]
    refine wpC_forL s.1 (fun j vs M => ∃ (raw : List Int) (ver : Nat), raw ++ (rawE (s.1.drop j) ++ allE (ls.drop (i + 1))) = allE ls ∧ vs = [.mslice 0 ver 0 raw.length, .slice (ls.map lsRow) c, .int .i64 ls.length, .int .i64 i, .slice (s.1.map spRow) s.2, .int .i64 s.1.length, .int .i64 j] ∧ M = [.arr 1 (raw.map nRow) ver 0]) ⟨raw, ver, hraw, rfl, rfl⟩ ?_ ?_
    · clear hraw
      rintro j t vs M htj hj hd2 ⟨raw, ver, hraw, rfl, rfl⟩
      rw [dropc htj, rawE_cons] at hraw
      simp -implicitDefEqProofs (disch := omega) only [go_sem, Nat.reduceAdd, Nat.reduceMul, Nat.reduceSub, Nat.reduceBEq, Nat.reduceLeDiff, Nat.reduceLT, fn_interval_bounds, e29_1, w29_1, e29_3, w29_3, e29_5, w29_5, e29_7, w29_7, c29_8, e29_10, w29_10, e29_12, w29_12, e29_14, w29_14, c29_15, e29_17, w29_17, e29_19, w29_19, e29_21, w29_21, c29_22, c29_23, e29_25, w29_25, c29_26, c29_27, c29_28, c29_29, c29_30, c29_31, c29_32, c29_33, e29_35, w29_35, c29_36, c29_37, c29_38, c29_39, c29_40, c29_41, e29_43, w29_43, e29_45, w29_45, c29_46, c29_47, c29_48, c29_49, c29_50, hd2, htj, spRow]
      first | refine callD (interval_Valid_ok t) ?_ | refine callQD (interval_Valid_ok t) ?_
      simp -implicitDefEqProofs (disch := omega) only [go_sem, Nat.reduceAdd, Nat.reduceMul, Nat.reduceSub, Nat.reduceBEq, Nat.reduceLeDiff, Nat.reduceLT, fn_interval_bounds, e29_1, w29_1, e29_3, w29_3, e29_5, w29_5, e29_7, w29_7, c29_8, e29_10, w29_10, e29_12, w29_12, e29_14, w29_14, c29_15, e29_17, w29_17, e29_19, w29_19, e29_21, w29_21, c29_22, c29_23, e29_25, w29_25, c29_26, c29_27, c29_28, c29_29, c29_30, c29_31, c29_32, c29_33, e29_35, w29_35, c29_36, c29_37, c29_38, c29_39, c29_40, c29_41, e29_43, w29_43, e29_45, w29_45, c29_46, c29_47, c29_48, c29_49, c29_50]
      refine ifD (fun g1 => ?_) (fun g1 => ?_)
      · rw [if_pos g1] at hraw
        have hb : raw.length + 2 ≤ 100000 := by
          have := congrArg List.length hraw
          simp at this
          omega
        have e1 : raw.map nRow ++ [[V.int .i64 t.1], [V.int .i64 t.2]] = (raw ++ [t.1, t.2]).map nRow := by simp [nRow]
        simp -implicitDefEqProofs (disch := omega) only [go_sem, Nat.reduceAdd, Nat.reduceMul, Nat.reduceSub, Nat.reduceBEq, Nat.reduceLeDiff, Nat.reduceLT, fn_interval_bounds, e29_1, w29_1, e29_3, w29_3, e29_5, w29_5, e29_7, w29_7, c29_8, e29_10, w29_10, e29_12, w29_12, e29_14, w29_14, c29_15, e29_17, w29_17, e29_19, w29_19, e29_21, w29_21, c29_22, c29_23, e29_25, w29_25, c29_26, c29_27, c29_28, c29_29, c29_30, c29_31, c29_32, c29_33, e29_35, w29_35, c29_36, c29_37, c29_38, c29_39, c29_40, c29_41, e29_43, w29_43, e29_45, w29_45, c29_46, c29_47, c29_48, c29_49, c29_50, e1]
        refine next_pop hj rfl ⟨raw ++ [t.1, t.2], ver + 1, by rw [← hraw]; simp, ?_, rfl⟩
        simp [vals, sget]
      · rw [if_neg g1] at hraw
        simp -implicitDefEqProofs (disch := omega) only [go_sem, Nat.reduceAdd, Nat.reduceMul, Nat.reduceSub, Nat.reduceBEq, Nat.reduceLeDiff, Nat.reduceLT, fn_interval_bounds, e29_1, w29_1, e29_3, w29_3, e29_5, w29_5, e29_7, w29_7, c29_8, e29_10, w29_10, e29_12, w29_12, e29_14, w29_14, c29_15, e29_17, w29_17, e29_19, w29_19, e29_21, w29_21, c29_22, c29_23, e29_25, w29_25, c29_26, c29_27, c29_28, c29_29, c29_30, c29_31, c29_32, c29_33, e29_35, w29_35, c29_36, c29_37, c29_38, c29_39, c29_40, c29_41, e29_43, w29_43, e29_45, w29_45, c29_46, c29_47, c29_48, c29_49, c29_50]
        exact next_pop hj rfl ⟨raw, ver, hraw, rfl, rfl⟩
    · clear hraw
      rintro vs M ⟨raw, ver, hraw, rfl, rfl⟩
      rw [List.drop_length] at hraw
      simp -implicitDefEqProofs (disch := omega) only [go_sem, Nat.reduceAdd, Nat.reduceMul, Nat.reduceSub, Nat.reduceBEq, Nat.reduceLeDiff, Nat.reduceLT, fn_interval_bounds, e29_1, w29_1, e29_3, w29_3, e29_5, w29_5, e29_7, w29_7, c29_8, e29_10, w29_10, e29_12, w29_12, e29_14, w29_14, c29_15, e29_17, w29_17, e29_19, w29_19, e29_21, w29_21, c29_22, c29_23, e29_25, w29_25, c29_26, c29_27, c29_28, c29_29, c29_30, c29_31, c29_32, c29_33, e29_35, w29_35, c29_36, c29_37, c29_38, c29_39, c29_40, c29_41, e29_43, w29_43, e29_45, w29_45, c29_46, c29_47, c29_48, c29_49, c29_50, dec_irrefl]
      exact next_stay hi ⟨raw, ver, hraw, rfl, rfl⟩
  · rintro vs M ⟨raw, ver, hraw, rfl, rfl⟩
    rw [List.drop_length, show allE ([] : List (List (Int × Int) × Cap)) = [] from rfl, List.append_nil] at hraw
    subst hraw
    simp -implicitDefEqProofs (disch := omega) only [go_sem, Nat.reduceAdd, Nat.reduceMul, Nat.reduceSub, Nat.reduceBEq, Nat.reduceLeDiff, Nat.reduceLT, fn_interval_bounds, e29_1, w29_1, e29_3, w29_3, e29_5, w29_5, e29_7, w29_7, c29_8, e29_10, w29_10, e29_12, w29_12, e29_14, w29_14, c29_15, e29_17, w29_17, e29_19, w29_19, e29_21, w29_21, c29_22, c29_23, e29_25, w29_25, c29_26, c29_27, c29_28, c29_29, c29_30, c29_31, c29_32, c29_33, e29_35, w29_35, c29_36, c29_37, c29_38, c29_39, c29_40, c29_41, e29_43, w29_43, e29_45, w29_45, c29_46, c29_47, c29_48, c29_49, c29_50, dec_irrefl]
    refine callA (sort_ok (xs := allE ls) (ver := ver) (id := 0) rfl (by omega)) ?_
    rintro v N ⟨rfl, rfl⟩
    simp -implicitDefEqProofs (disch := omega) only [go_sem, Nat.reduceAdd, Nat.reduceMul, Nat.reduceSub, Nat.reduceBEq, Nat.reduceLeDiff, Nat.reduceLT, fn_interval_bounds, e29_1, w29_1, e29_3, w29_3, e29_5, w29_5, e29_7, w29_7, c29_8, e29_10, w29_10, e29_12, w29_12, e29_14, w29_14, c29_15, e29_17, w29_17, e29_19, w29_19, e29_21, w29_21, c29_22, c29_23, e29_25, w29_25, c29_26, c29_27, c29_28, c29_29, c29_30, c29_31, c29_32, c29_33, e29_35, w29_35, c29_36, c29_37, c29_38, c29_39, c29_40, c29_41, e29_43, w29_43, e29_45, w29_45, c29_46, c29_47, c29_48, c29_49, c29_50]
    have hlen : ((allE ls).mergeSort fun x y => decide (x ≤ y)).length = (allE ls).length := List.length_mergeSort _
    rw [← hlen]
    refine callA (compact_ok (xs := (allE ls).mergeSort fun x y => decide (x ≤ y)) (ver := ver) (id := 0) rfl (by rw [hlen]; omega)) ?_
    rintro v N ⟨rfl, rfl⟩
    rw [compact_sort]
    have hle : (sortU (allE ls)).length ≤ (allE ls).length := length_sortU _
    have ht : List.take (sortU (allE ls)).length ((sortU (allE ls)).map nRow ++ (List.replicate ((allE ls).length - (sortU (allE ls)).length) 0).map nRow) = (sortU (allE ls)).map nRow := by
      rw [List.take_append_of_le_length (by simp), List.take_of_length_le (by simp)]
    simp -implicitDefEqProofs (disch := omega) only [go_sem, Nat.reduceAdd, Nat.reduceMul, Nat.reduceSub, Nat.reduceBEq, Nat.reduceLeDiff, Nat.reduceLT, fn_interval_bounds, e29_1, w29_1, e29_3, w29_3, e29_5, w29_5, e29_7, w29_7, c29_8, e29_10, w29_10, e29_12, w29_12, e29_14, w29_14, c29_15, e29_17, w29_17, e29_19, w29_19, e29_21, w29_21, c29_22, c29_23, e29_25, w29_25, c29_26, c29_27, c29_28, c29_29, c29_30, c29_31, c29_32, c29_33, e29_35, w29_35, c29_36, c29_37, c29_38, c29_39, c29_40, c29_41, e29_43, w29_43, e29_45, w29_45, c29_46, c29_47, c29_48, c29_49, c29_50, hlen, List.map_append, ht, List.length_replicate]

end Go.Vm.C

