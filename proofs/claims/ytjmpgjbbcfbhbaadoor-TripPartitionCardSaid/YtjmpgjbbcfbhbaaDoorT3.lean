/- Contracts: Groups, small trips, lists, Pattern. -/
import Derived.Test.YtjmpgjbbcfbhbaaDoorT2

namespace Go.Vm.C
open Go.Vm
set_option maxHeartbeats 1000000
set_option maxRecDepth 10000
set_option linter.unusedSimpArgs false
set_option linter.unusedVariables false

def grpsL (l : List Trp) : List (List Nat) := (gUp l l.length).grps
theorem trp_at {l : List Trp} {i : Nat} {t : Trp} (h : l[i]? = some t) : (l.map Trp.row)[i]? = some [.str t.id, .int .i64 t.route, .int .i64 t.cal, .bool t.free, .slice (t.calls.map Stay.row) t.tag] := by rw [List.getElem?_map, h]; rfl
theorem memget {M : Mem} {i : Nat} {b : Blk} (h : M[i]? = some b) (L : Mem) : (M ++ L)[i]? = some b := by
  rw [List.getElem?_append_left (List.getElem?_eq_some_iff.1 h).1, h]
theorem memlast (M : Mem) (b : Blk) : (M ++ [b])[M.length]? = some b := by simp
theorem memset (M : Mem) (b x : Blk) : (M ++ [b]).set M.length x = M ++ [x] := by simp
theorem Groups_ok (l : List Trp) (c : Cap) (hl : l.length ≤ 1000) (hc : ∀ t ∈ l, t.calls.length ≤ 1000 ∧ ∀ c ∈ t.calls, c.wf) : PCalls PR i_trip_Groups [.slice (l.map Trp.row) c] (fun v => v = grpsV (grpsL l)) := by
  refine acalls_pop fn_trip_Groups_ok (by simp [fn_trip_Groups]) ?_
  simp -implicitDefEqProofs (disch := omega) only [go_sem, Nat.reduceAdd, Nat.reduceMul, Nat.reduceSub, Nat.reduceBEq, Nat.reduceLeDiff, Nat.reduceLT, fn_trip_Groups, e22_1, w22_1, e22_3, w22_3, e22_5, w22_5, e22_7, w22_7, e22_9, w22_9, c22_10, e22_12, w22_12, e22_14, w22_14, e22_16, w22_16, e22_18, w22_18, e22_20, w22_20, e22_22, w22_22, c22_23, c22_24, e22_26, w22_26, e22_28, w22_28, c22_29, c22_30, c22_31, c22_32, c22_33, e22_35, w22_35, c22_36, c22_37, c22_38, c22_39, c22_40, c22_41, e22_43, w22_43, c22_44, c22_45, c22_46, c22_47, c22_48, List.length_map]
  refine wpC_forL l (fun i vs N => ∃ ver cells, vs = [.map 0, .mslice 1 ver 0 cells.length, .slice (l.map Trp.row) c, .int .i64 l.length, .int .i64 i] ∧ GM N (gUp l i) ver cells) ⟨0, [], rfl, ?_⟩ ?_ ?_
  · exact ⟨rfl, rfl, rfl, rfl, fun j g h => by simp [gUp] at h, fun j k id v1 n1 v2 n2 h => by simp at h⟩
  rotate_left
  · rintro vs N ⟨ver, cells, rfl, hG⟩
    have hf := freeze_groups hG
    simp -implicitDefEqProofs (disch := omega) only [go_sem, Nat.reduceAdd, Nat.reduceMul, Nat.reduceSub, Nat.reduceBEq, Nat.reduceLeDiff, Nat.reduceLT, fn_trip_Groups, e22_1, w22_1, e22_3, w22_3, e22_5, w22_5, e22_7, w22_7, e22_9, w22_9, c22_10, e22_12, w22_12, e22_14, w22_14, e22_16, w22_16, e22_18, w22_18, e22_20, w22_20, e22_22, w22_22, c22_23, c22_24, e22_26, w22_26, e22_28, w22_28, c22_29, c22_30, c22_31, c22_32, c22_33, e22_35, w22_35, c22_36, c22_37, c22_38, c22_39, c22_40, c22_41, c22_44, c22_45, c22_46, c22_47, c22_48, dec_irrefl]
    rw [e22_43, w22_43]
    simp only [sget, Nat.reduceBEq, cond_true, cond_false, seqK_normal, wpC_ret, endK_ret, resAll, resVs, resV, popPost_some, List.length_nil, hf, OptV_some]
    refine ⟨?_, rfl, ?_, rfl⟩
    · simp [grpsV, V.under, memUnder]
    · simp
  rintro i t vs N ht hi hd ⟨ver, cells, rfl, hG⟩
  have hta := trp_at ht
  obtain ⟨hc1, hc2⟩ := hc t (List.mem_of_getElem? ht)
  have hkey := key_ok t hc1 hc2
  have hG1 := hG.app (.box t.row) rfl
  have hup : gUp l (i + 1) = gStep (gUp l i) (keyL t.calls) i := by rw [gUp, ht]
  obtain ⟨u1, u2, u3⟩ := gUp_len l i
  have hbox : Blk.box [.str t.id, .int .i64 t.route, .int .i64 t.cal, .bool t.free, .slice (t.calls.map Stay.row) t.tag] = Blk.box t.row := rfl
  generalize gUp l i = S at *
  generalize hS2 : gUp l (i + 1) = S2 at *
  simp only [Trp.row] at hkey
  simp -implicitDefEqProofs (disch := omega) only [go_sem, Nat.reduceAdd, Nat.reduceMul, Nat.reduceSub, Nat.reduceBEq, Nat.reduceLeDiff, Nat.reduceLT, fn_trip_Groups, e22_1, w22_1, e22_3, w22_3, e22_5, w22_5, e22_7, w22_7, e22_9, w22_9, c22_10, e22_12, w22_12, e22_14, w22_14, e22_16, w22_16, e22_18, w22_18, e22_20, w22_20, e22_22, w22_22, c22_23, c22_24, e22_26, w22_26, c22_29, c22_30, c22_31, c22_32, c22_33, e22_35, w22_35, c22_36, c22_37, c22_38, c22_39, c22_40, c22_41, c22_44, c22_45, c22_46, c22_47, c22_48, hd, hta, memlast, memset]
  first | refine callD (hkey) ?_ | refine callQD (hkey) ?_
  rw [hbox]
  generalize hNN : N ++ [Blk.box t.row] = N1 at *
  generalize keyL t.calls = k at *
  have h0 := hG1.map
  have h1 := hG1.vec
  have hlk := lookE_key k S.keys
  cases hp : posK k S.keys with
  | some j =>
    rw [hp] at hlk
    obtain ⟨hj, _⟩ := posK_lt hp
    have hjg : j < S.grps.length := by omega
    obtain ⟨g, hg⟩ : ∃ g, S.grps[j]? = some g := ⟨S.grps[j], by simp⟩
    obtain ⟨id, v, q1, q2⟩ := hG1.grp j g hg
    have hgl := u3 g (List.mem_of_getElem? hg)
    have e2 : S2 = ⟨S.keys, S.grps.set j (g ++ [i])⟩ := by rw [hup, gStep]; simp only [hp, hg]; rfl
    have hG2 := hG1.old hg i q1 q2
    have q1' : cells[j]? = some (.mslice id v 0 (g.map idxRow).length) := by rw [List.length_map]; exact q1
    simp -implicitDefEqProofs (disch := omega) only [go_sem, Nat.reduceAdd, Nat.reduceMul, Nat.reduceSub, Nat.reduceBEq, Nat.reduceLeDiff, Nat.reduceLT, fn_trip_Groups, e22_1, w22_1, e22_3, w22_3, e22_5, w22_5, e22_7, w22_7, e22_9, w22_9, c22_10, e22_12, w22_12, e22_14, w22_14, e22_16, w22_16, e22_18, w22_18, e22_20, w22_20, e22_22, w22_22, c22_23, c22_24, e22_26, w22_26, c22_29, c22_30, c22_31, c22_32, c22_33, e22_35, w22_35, c22_36, c22_37, c22_38, c22_39, c22_40, c22_41, c22_44, c22_45, c22_46, c22_47, c22_48, h0, hlk]
    refine groups_old N1 id ver v j cells (g.map idxRow) i _ _ _ _ h1 q1' q2 (by simp; omega) _ ?_ _ rfl rfl rfl rfl rfl rfl rfl
    rw [List.length_map]
    simp -implicitDefEqProofs (disch := omega) only [go_sem, Nat.reduceAdd, Nat.reduceMul, Nat.reduceSub, Nat.reduceBEq, Nat.reduceLeDiff, Nat.reduceLT, fn_trip_Groups, e22_1, w22_1, e22_3, w22_3, e22_5, w22_5, e22_7, w22_7, e22_9, w22_9, c22_10, e22_12, w22_12, e22_14, w22_14, e22_16, w22_16, e22_18, w22_18, e22_20, w22_20, e22_22, w22_22, c22_23, c22_24, e22_26, w22_26, c22_29, c22_30, c22_31, c22_32, c22_33, e22_35, w22_35, c22_36, c22_37, c22_38, c22_39, c22_40, c22_41, c22_44, c22_45, c22_46, c22_47, c22_48]
    refine next_stay hi ⟨ver, _, ?_, by rw [hS2, e2]; exact hG2⟩
    rw [List.length_set]
    rfl
  | none =>
    rw [hp] at hlk
    have hup2 := updE_key k S.keys hp
    have hlc := hG1.len
    rw [u1, ← hlc] at hup2
    have e2 : S2 = ⟨S.keys ++ [k], S.grps ++ [[i]]⟩ := by rw [hup, gStep]; simp only [hp]
    have hG2 := hG1.new k i u1
    have h1s : ∀ B : Blk, (N1.set 0 B)[1]? = some (.vec cells ver) := fun B => by rw [List.getElem?_set_ne (by omega)]; exact h1
    have hl0 : 0 < N1.length := (List.getElem?_eq_some_iff.1 h0).1
    have hl1 : 1 < N1.length := (List.getElem?_eq_some_iff.1 h1).1
    simp -implicitDefEqProofs (disch := omega) only [go_sem, Nat.reduceAdd, Nat.reduceMul, Nat.reduceSub, Nat.reduceBEq, Nat.reduceLeDiff, Nat.reduceLT, fn_trip_Groups, e22_1, w22_1, e22_3, w22_3, e22_5, w22_5, e22_7, w22_7, e22_9, w22_9, c22_10, e22_12, w22_12, e22_14, w22_14, e22_16, w22_16, e22_18, w22_18, e22_20, w22_20, e22_22, w22_22, c22_23, c22_24, e22_26, w22_26, c22_29, c22_30, c22_31, c22_32, c22_33, e22_35, w22_35, c22_36, c22_37, c22_38, c22_39, c22_40, c22_41, c22_44, c22_45, c22_46, c22_47, c22_48, h0, h1, hlk, hup2, h1s]
    have hcl : cells.length + 1 = (cells ++ [V.slice [] .nil]).length := by simp
    have hat : (cells ++ [V.slice [] .nil])[cells.length]? = some (.slice [] .nil) := by simp
    have hv2 : ((N1.set 0 (Blk.map (esK (S.keys ++ [k]) 0))).set 1 (Blk.vec (cells ++ [V.slice [] .nil]) (ver + 1)))[1]? = some (.vec (cells ++ [V.slice [] .nil]) (ver + 1)) := by rw [List.getElem?_set_self (by simpa using hl1)]
    have hNl : ((N1.set 0 (Blk.map (esK (S.keys ++ [k]) 0))).set 1 (Blk.vec (cells ++ [V.slice [] .nil]) (ver + 1))).length = N1.length := by simp
    have hcl2 : (cells ++ [V.slice [] .nil]).length = ((cells ++ [V.slice [] .nil]).set cells.length (.mslice N1.length 0 0 1)).length := by simp
    rw [hcl]
    generalize cells ++ [V.slice [] .nil] = cells2 at *
    generalize hN2 : (N1.set 0 (Blk.map (esK (S.keys ++ [k]) 0))).set 1 (Blk.vec cells2 (ver + 1)) = N2 at *
    refine groups_new N2 (ver + 1) cells.length cells2 i _ _ _ _ hv2 hat _ ?_ _ rfl rfl rfl rfl rfl rfl rfl
    rw [hNl]
    simp -implicitDefEqProofs (disch := omega) only [go_sem, Nat.reduceAdd, Nat.reduceMul, Nat.reduceSub, Nat.reduceBEq, Nat.reduceLeDiff, Nat.reduceLT, fn_trip_Groups, e22_1, w22_1, e22_3, w22_3, e22_5, w22_5, e22_7, w22_7, e22_9, w22_9, c22_10, e22_12, w22_12, e22_14, w22_14, e22_16, w22_16, e22_18, w22_18, e22_20, w22_20, e22_22, w22_22, c22_23, c22_24, e22_26, w22_26, c22_29, c22_30, c22_31, c22_32, c22_33, e22_35, w22_35, c22_36, c22_37, c22_38, c22_39, c22_40, c22_41, c22_44, c22_45, c22_46, c22_47, c22_48]
    refine next_stay hi ⟨ver + 1, _, ?_, by rw [hS2, e2]; exact hG2⟩
    rw [← hcl2]
    rfl

/-! ### Small trips, lists of integers, positions -/
def smallT (t : Trp) : Bool := decide (t.id.length ≤ 1024) && decide (t.calls.length ≤ 40)
theorem small17_ok (t : Trp) : PCalls PR i_transitlaw17_small [.agg t.row] (fun v => v = .bool (smallT t)) := by
  refine acalls_pop fn_transitlaw17_small_ok (by simp [fn_transitlaw17_small]) ?_
  simp -implicitDefEqProofs (disch := omega) only [go_sem, Nat.reduceAdd, Nat.reduceMul, Nat.reduceSub, Nat.reduceBEq, Nat.reduceLeDiff, Nat.reduceLT, fn_transitlaw17_small, e18_1, w18_1, e18_3, w18_3, c18_4, c18_5, Trp.row]
  refine ifD (fun h => ?_) (fun h => ?_)
  · have h1 : t.id.length ≤ 1024 := by omega
    simp -implicitDefEqProofs (disch := omega) only [go_sem, Nat.reduceAdd, Nat.reduceMul, Nat.reduceSub, Nat.reduceBEq, Nat.reduceLeDiff, Nat.reduceLT, fn_transitlaw17_small, e18_1, w18_1, e18_3, w18_3, c18_4, c18_5, Trp.row, List.length_map, smallT, h1]
    exact decide_eq_decide.2 (by omega)
  · have h1 : ¬ t.id.length ≤ 1024 := by omega
    simp -implicitDefEqProofs (disch := omega) only [go_sem, Nat.reduceAdd, Nat.reduceMul, Nat.reduceSub, Nat.reduceBEq, Nat.reduceLeDiff, Nat.reduceLT, fn_transitlaw17_small, e18_1, w18_1, e18_3, w18_3, c18_4, c18_5, smallT, h1]
def tableB (l : List Trp) (n : Int) : Bool := decide ((l.length : Int) ≤ n) && l.all smallT
theorem table_ok (l : List Trp) (c : Cap) (n : Int) (hn : n ≤ 1000) : PCalls PR i_transitlaw17_table [.slice (l.map Trp.row) c, .int .i64 n] (fun v => v = .bool (tableB l n)) := by
  refine acalls_pop fn_transitlaw17_table_ok (by simp [fn_transitlaw17_table]) ?_
  simp -implicitDefEqProofs (disch := omega) only [go_sem, Nat.reduceAdd, Nat.reduceMul, Nat.reduceSub, Nat.reduceBEq, Nat.reduceLeDiff, Nat.reduceLT, fn_transitlaw17_table, e12_1, w12_1, e12_3, w12_3, c12_4, e12_6, w12_6, e12_8, w12_8, e12_10, w12_10, e12_12, w12_12, c12_13, e12_15, w12_15, c12_16, e12_18, w12_18, c12_19, c12_20, c12_21, c12_22, c12_23, e12_25, w12_25, c12_26, c12_27, c12_28, c12_29, List.length_map]
  refine ifD (fun h => ?_) (fun h => ?_)
  · have h1 : ¬ (l.length : Int) ≤ n := by omega
    simp -implicitDefEqProofs (disch := omega) only [go_sem, Nat.reduceAdd, Nat.reduceMul, Nat.reduceSub, Nat.reduceBEq, Nat.reduceLeDiff, Nat.reduceLT, fn_transitlaw17_table, e12_1, w12_1, e12_3, w12_3, c12_4, e12_6, w12_6, e12_8, w12_8, e12_10, w12_10, e12_12, w12_12, c12_13, e12_15, w12_15, c12_16, e12_18, w12_18, c12_19, c12_20, c12_21, c12_22, c12_23, e12_25, w12_25, c12_26, c12_27, c12_28, c12_29, tableB, h1]
  have h1 : (l.length : Int) ≤ n := by omega
  have e0 : tableB l n = l.all smallT := by simp [tableB, h1]
  simp -implicitDefEqProofs (disch := omega) only [go_sem, Nat.reduceAdd, Nat.reduceMul, Nat.reduceSub, Nat.reduceBEq, Nat.reduceLeDiff, Nat.reduceLT, fn_transitlaw17_table, e12_1, w12_1, e12_3, w12_3, c12_4, e12_6, w12_6, e12_8, w12_8, e12_10, w12_10, e12_12, w12_12, c12_13, e12_15, w12_15, c12_16, e12_18, w12_18, c12_19, c12_20, c12_21, c12_22, c12_23, e12_25, w12_25, c12_26, c12_27, c12_28, c12_29]
  refine wpC_forL l (fun i vs M => (l.take i).all smallT = true ∧ vs = [.slice (l.map Trp.row) c, .int .i64 i] ∧ M = []) ⟨rfl, rfl, rfl⟩ ?_ ?_
  · rintro i t vs M ht hi hd ⟨hall, rfl, rfl⟩
    have hs := small17_ok t
    have hta := trp_at ht
    simp only [Trp.row] at hs
    simp -implicitDefEqProofs (disch := omega) only [go_sem, Nat.reduceAdd, Nat.reduceMul, Nat.reduceSub, Nat.reduceBEq, Nat.reduceLeDiff, Nat.reduceLT, fn_transitlaw17_table, e12_1, w12_1, e12_3, w12_3, c12_4, e12_6, w12_6, e12_8, w12_8, e12_10, w12_10, e12_12, w12_12, c12_13, e12_15, w12_15, c12_16, e12_18, w12_18, c12_19, c12_20, c12_21, c12_22, c12_23, e12_25, w12_25, c12_26, c12_27, c12_28, c12_29, List.length_map, hd, hta]
    first | refine callD (hs) ?_ | refine callQD (hs) ?_
    simp -implicitDefEqProofs (disch := omega) only [go_sem, Nat.reduceAdd, Nat.reduceMul, Nat.reduceSub, Nat.reduceBEq, Nat.reduceLeDiff, Nat.reduceLT, fn_transitlaw17_table, e12_1, w12_1, e12_3, w12_3, c12_4, e12_6, w12_6, e12_8, w12_8, e12_10, w12_10, e12_12, w12_12, c12_13, e12_15, w12_15, c12_16, e12_18, w12_18, c12_19, c12_20, c12_21, c12_22, c12_23, e12_25, w12_25, c12_26, c12_27, c12_28, c12_29]
    refine ifB (fun h2 => ?_) (fun h2 => ?_)
    · simp -implicitDefEqProofs (disch := omega) only [go_sem, Nat.reduceAdd, Nat.reduceMul, Nat.reduceSub, Nat.reduceBEq, Nat.reduceLeDiff, Nat.reduceLT, fn_transitlaw17_table, e12_1, w12_1, e12_3, w12_3, c12_4, e12_6, w12_6, e12_8, w12_8, e12_10, w12_10, e12_12, w12_12, c12_13, e12_15, w12_15, c12_16, e12_18, w12_18, c12_19, c12_20, c12_21, c12_22, c12_23, e12_25, w12_25, c12_26, c12_27, c12_28, c12_29]
      refine next_stay hi ⟨?_, rfl, rfl⟩
      rw [List.take_add_one, ht, List.all_append, hall]
      simp [h2]
    · simp -implicitDefEqProofs (disch := omega) only [go_sem, Nat.reduceAdd, Nat.reduceMul, Nat.reduceSub, Nat.reduceBEq, Nat.reduceLeDiff, Nat.reduceLT, fn_transitlaw17_table, e12_1, w12_1, e12_3, w12_3, c12_4, e12_6, w12_6, e12_8, w12_8, e12_10, w12_10, e12_12, w12_12, c12_13, e12_15, w12_15, c12_16, e12_18, w12_18, c12_19, c12_20, c12_21, c12_22, c12_23, e12_25, w12_25, c12_26, c12_27, c12_28, c12_29, e0]
      symm
      rw [List.all_eq_false]
      exact ⟨t, List.mem_of_getElem? ht, by simp [h2]⟩
  · rintro vs M ⟨hall, rfl, rfl⟩
    rw [List.take_length] at hall
    simp -implicitDefEqProofs (disch := omega) only [go_sem, Nat.reduceAdd, Nat.reduceMul, Nat.reduceSub, Nat.reduceBEq, Nat.reduceLeDiff, Nat.reduceLT, fn_transitlaw17_table, e12_1, w12_1, e12_3, w12_3, c12_4, e12_6, w12_6, e12_8, w12_8, e12_10, w12_10, e12_12, w12_12, c12_13, e12_15, w12_15, c12_16, e12_18, w12_18, c12_19, c12_20, c12_21, c12_22, c12_23, e12_25, w12_25, c12_26, c12_27, c12_28, c12_29, List.length_map, dec_irrefl, e0, hall]
def iRow (n : Int) : List V := [.int .i64 n]
theorem irow_at {l : List Int} {i : Nat} {x : Int} (h : l[i]? = some x) : (l.map iRow)[i]? = some [.int .i64 x] := by rw [List.getElem?_map, h]; rfl
def ints (g : List Nat) : List Int := g.map Int.ofNat
theorem idx_rows (g : List Nat) : g.map idxRow = (ints g).map iRow := by rw [ints, List.map_map]; rfl
theorem ints_eq (a b : List Nat) : (ints a = ints b) ↔ a = b := ⟨fun h => (List.map_inj_right (fun x y h => Int.ofNat.inj h)).1 h, fun h => by rw [h]⟩
theorem same17_ok (a b : List Int) (c d : Cap) (hl : a.length ≤ 1000) : PCalls PR i_transitlaw17_same [.slice (a.map iRow) c, .slice (b.map iRow) d] (fun v => v = .bool (decide (a = b))) := by
  refine acalls_pop fn_transitlaw17_same_ok (by simp [fn_transitlaw17_same]) ?_
  simp -implicitDefEqProofs (disch := omega) only [go_sem, Nat.reduceAdd, Nat.reduceMul, Nat.reduceSub, Nat.reduceBEq, Nat.reduceLeDiff, Nat.reduceLT, fn_transitlaw17_same, e24_1, w24_1, e24_3, w24_3, c24_4, e24_6, w24_6, e24_8, w24_8, e24_10, w24_10, e24_12, w24_12, c24_13, e24_15, w24_15, c24_16, e24_18, w24_18, c24_19, c24_20, c24_21, c24_22, c24_23, e24_25, w24_25, c24_26, c24_27, c24_28, c24_29, List.length_map]
  refine ifD (fun h => ?_) (fun h => ?_)
  rotate_left
  · simp -implicitDefEqProofs (disch := omega) only [go_sem, Nat.reduceAdd, Nat.reduceMul, Nat.reduceSub, Nat.reduceBEq, Nat.reduceLeDiff, Nat.reduceLT, fn_transitlaw17_same, e24_1, w24_1, e24_3, w24_3, c24_4, e24_6, w24_6, e24_8, w24_8, e24_10, w24_10, e24_12, w24_12, c24_13, e24_15, w24_15, c24_16, e24_18, w24_18, c24_19, c24_20, c24_21, c24_22, c24_23, e24_25, w24_25, c24_26, c24_27, c24_28, c24_29]
    symm
    exact decide_eq_false fun e => h (by rw [e])
  simp -implicitDefEqProofs (disch := omega) only [go_sem, Nat.reduceAdd, Nat.reduceMul, Nat.reduceSub, Nat.reduceBEq, Nat.reduceLeDiff, Nat.reduceLT, fn_transitlaw17_same, e24_1, w24_1, e24_3, w24_3, c24_4, e24_6, w24_6, e24_8, w24_8, e24_10, w24_10, e24_12, w24_12, c24_13, e24_15, w24_15, c24_16, e24_18, w24_18, c24_19, c24_20, c24_21, c24_22, c24_23, e24_25, w24_25, c24_26, c24_27, c24_28, c24_29]
  refine wpC_forL a (fun i vs M => a.take i = b.take i ∧ vs = [.slice (a.map iRow) c, .slice (b.map iRow) d, .int .i64 i] ∧ M = []) ⟨rfl, rfl, rfl⟩ ?_ ?_
  · rintro i x vs M hx hi hd ⟨hp, rfl, rfl⟩
    obtain ⟨y, hy⟩ : ∃ y, b[i]? = some y := ⟨b[i]'(by omega), by simp⟩
    have gx := irow_at hx
    have gy := irow_at hy
    simp -implicitDefEqProofs (disch := omega) only [go_sem, Nat.reduceAdd, Nat.reduceMul, Nat.reduceSub, Nat.reduceBEq, Nat.reduceLeDiff, Nat.reduceLT, fn_transitlaw17_same, e24_1, w24_1, e24_3, w24_3, c24_4, e24_6, w24_6, e24_8, w24_8, e24_10, w24_10, e24_12, w24_12, c24_13, e24_15, w24_15, c24_16, e24_18, w24_18, c24_19, c24_20, c24_21, c24_22, c24_23, e24_25, w24_25, c24_26, c24_27, c24_28, c24_29, List.length_map, hd, gx, gy]
    refine ifD (fun h1 => ?_) (fun h1 => ?_)
    · simp -implicitDefEqProofs (disch := omega) only [go_sem, Nat.reduceAdd, Nat.reduceMul, Nat.reduceSub, Nat.reduceBEq, Nat.reduceLeDiff, Nat.reduceLT, fn_transitlaw17_same, e24_1, w24_1, e24_3, w24_3, c24_4, e24_6, w24_6, e24_8, w24_8, e24_10, w24_10, e24_12, w24_12, c24_13, e24_15, w24_15, c24_16, e24_18, w24_18, c24_19, c24_20, c24_21, c24_22, c24_23, e24_25, w24_25, c24_26, c24_27, c24_28, c24_29]
      refine next_stay hi ⟨?_, rfl, rfl⟩
      rw [List.take_add_one, List.take_add_one, hx, hy, hp, h1]
    · simp -implicitDefEqProofs (disch := omega) only [go_sem, Nat.reduceAdd, Nat.reduceMul, Nat.reduceSub, Nat.reduceBEq, Nat.reduceLeDiff, Nat.reduceLT, fn_transitlaw17_same, e24_1, w24_1, e24_3, w24_3, c24_4, e24_6, w24_6, e24_8, w24_8, e24_10, w24_10, e24_12, w24_12, c24_13, e24_15, w24_15, c24_16, e24_18, w24_18, c24_19, c24_20, c24_21, c24_22, c24_23, e24_25, w24_25, c24_26, c24_27, c24_28, c24_29]
      symm
      refine decide_eq_false fun e => h1 ?_
      subst e
      rw [hx] at hy
      simpa using hy
  · rintro vs M ⟨hp, rfl, rfl⟩
    rw [List.take_length, show a.length = b.length from by omega, List.take_length] at hp
    simp -implicitDefEqProofs (disch := omega) only [go_sem, Nat.reduceAdd, Nat.reduceMul, Nat.reduceSub, Nat.reduceBEq, Nat.reduceLeDiff, Nat.reduceLT, fn_transitlaw17_same, e24_1, w24_1, e24_3, w24_3, c24_4, e24_6, w24_6, e24_8, w24_8, e24_10, w24_10, e24_12, w24_12, c24_13, e24_15, w24_15, c24_16, e24_18, w24_18, c24_19, c24_20, c24_21, c24_22, c24_23, e24_25, w24_25, c24_26, c24_27, c24_28, c24_29, List.length_map, dec_irrefl]
    symm
    exact decide_eq_true hp
def PassP (p : List Int) (f t : Int) : Prop := ∃ i k : Nat, i < k ∧ p[i]? = some f ∧ p[k]? = some t
theorem passes_ok (p : List Int) (c : Cap) (f t : Int) (hl : p.length ≤ 1000) (hp : PassP p f t) : PCalls PR i_transitlaw17_passes [.slice (p.map iRow) c, .int .i64 f, .int .i64 t] (fun v => v = .bool true) := by
  obtain ⟨i0, k0, hik, hi0, hk0⟩ := hp
  have hi0l := (List.getElem?_eq_some_iff.1 hi0).1
  have hk0l := (List.getElem?_eq_some_iff.1 hk0).1
  refine acalls_pop fn_transitlaw17_passes_ok (by simp [fn_transitlaw17_passes]) ?_
  simp -implicitDefEqProofs (disch := omega) only [go_sem, Nat.reduceAdd, Nat.reduceMul, Nat.reduceSub, Nat.reduceBEq, Nat.reduceLeDiff, Nat.reduceLT, fn_transitlaw17_passes, e29_1, w29_1, e29_3, w29_3, e29_5, w29_5, e29_7, w29_7, e29_9, w29_9, e29_11, w29_11, c29_12, e29_14, w29_14, c29_15, e29_17, w29_17, c29_18, c29_19, c29_20, c29_21, c29_22, c29_23, e29_25, w29_25, c29_26, c29_27, c29_28, c29_29, c29_30, e29_32, w29_32, c29_33, c29_34, c29_35, List.length_map]
  refine wpC_for p.length (fun i vs M => i ≤ i0 ∧ vs = [.slice (p.map iRow) c, .int .i64 f, .int .i64 t, .int .i64 i] ∧ M = []) ⟨by omega, rfl, rfl⟩ ?_ ?_
  rotate_left
  · rintro vs M ⟨h, rfl, rfl⟩
    omega
  rintro i vs M hi hd ⟨hle, rfl, rfl⟩
  obtain ⟨x, hx⟩ : ∃ x, p[i]? = some x := ⟨p[i], by simp⟩
  have gx := irow_at hx
  simp -implicitDefEqProofs (disch := omega) only [go_sem, Nat.reduceAdd, Nat.reduceMul, Nat.reduceSub, Nat.reduceBEq, Nat.reduceLeDiff, Nat.reduceLT, fn_transitlaw17_passes, e29_1, w29_1, e29_3, w29_3, e29_5, w29_5, e29_7, w29_7, e29_9, w29_9, e29_11, w29_11, c29_12, e29_14, w29_14, c29_15, e29_17, w29_17, c29_18, c29_19, c29_20, c29_21, c29_22, c29_23, e29_25, w29_25, c29_26, c29_27, c29_28, c29_29, c29_30, e29_32, w29_32, c29_33, c29_34, c29_35, List.length_map, hd]
  refine wpC_for (p.length - (i + 1)) (fun j vs M => (i = i0 → i + 1 + j ≤ k0) ∧ vs = [.slice (p.map iRow) c, .int .i64 f, .int .i64 t, .int .i64 i, .int .i64 ((i + 1 + j : Nat) : Int)] ∧ M = []) ⟨by omega, rfl, rfl⟩ ?_ ?_
  rotate_left
  · rintro vs M ⟨h, rfl, rfl⟩
    have hne : i ≠ i0 := fun e => by have := h e; omega
    have hd2 : decide (((i + 1 + (p.length - (i + 1)) : Nat) : Int) < (p.length : Int)) = false := decide_eq_false (by omega)
    simp -implicitDefEqProofs (disch := omega) only [go_sem, Nat.reduceAdd, Nat.reduceMul, Nat.reduceSub, Nat.reduceBEq, Nat.reduceLeDiff, Nat.reduceLT, fn_transitlaw17_passes, e29_1, w29_1, e29_3, w29_3, e29_5, w29_5, e29_7, w29_7, e29_9, w29_9, e29_11, w29_11, c29_12, e29_14, w29_14, c29_15, e29_17, w29_17, c29_18, c29_19, c29_20, c29_21, c29_22, c29_23, e29_25, w29_25, c29_26, c29_27, c29_28, c29_29, c29_30, e29_32, w29_32, c29_33, c29_34, c29_35, List.length_map, hd2]
    exact next_stay hi ⟨by omega, rfl, rfl⟩
  rintro j vs M hj _ ⟨hjk, rfl, rfl⟩
  obtain ⟨y, hy⟩ : ∃ y, p[i + 1 + j]? = some y := ⟨p[i + 1 + j]'(by omega), by simp⟩
  have gy := irow_at hy
  have hd2 : decide (((i + 1 + j : Nat) : Int) < (p.length : Int)) = true := decide_eq_true (by omega)
  have en : ((i + 1 + j : Nat) : Int) + 1 = ((i + 1 + (j + 1) : Nat) : Int) := by omega
  simp -implicitDefEqProofs (disch := omega) only [go_sem, Nat.reduceAdd, Nat.reduceMul, Nat.reduceSub, Nat.reduceBEq, Nat.reduceLeDiff, Nat.reduceLT, fn_transitlaw17_passes, e29_1, w29_1, e29_3, w29_3, e29_5, w29_5, e29_7, w29_7, e29_9, w29_9, e29_11, w29_11, c29_12, e29_14, w29_14, c29_15, e29_17, w29_17, c29_18, c29_19, c29_20, c29_21, c29_22, c29_23, e29_25, w29_25, c29_26, c29_27, c29_28, c29_29, c29_30, e29_32, w29_32, c29_33, c29_34, c29_35, List.length_map, hd2, gx]
  refine ifD (fun h1 => ?_) (fun h1 => ?_)
  rotate_left
  · simp -implicitDefEqProofs (disch := omega) only [go_sem, Nat.reduceAdd, Nat.reduceMul, Nat.reduceSub, Nat.reduceBEq, Nat.reduceLeDiff, Nat.reduceLT, fn_transitlaw17_passes, e29_1, w29_1, e29_3, w29_3, e29_5, w29_5, e29_7, w29_7, e29_9, w29_9, e29_11, w29_11, c29_12, e29_14, w29_14, c29_15, e29_17, w29_17, c29_18, c29_19, c29_20, c29_21, c29_22, c29_23, e29_25, w29_25, c29_26, c29_27, c29_28, c29_29, c29_30, e29_32, w29_32, c29_33, c29_34, c29_35, en]
    refine next_stay hj ⟨fun e => ?_, rfl, rfl⟩
    subst e
    rw [hx] at hi0
    simp only [Option.some.injEq] at hi0
    exact absurd hi0 h1
  simp -implicitDefEqProofs (disch := omega) only [go_sem, Nat.reduceAdd, Nat.reduceMul, Nat.reduceSub, Nat.reduceBEq, Nat.reduceLeDiff, Nat.reduceLT, fn_transitlaw17_passes, e29_1, w29_1, e29_3, w29_3, e29_5, w29_5, e29_7, w29_7, e29_9, w29_9, e29_11, w29_11, c29_12, e29_14, w29_14, c29_15, e29_17, w29_17, c29_18, c29_19, c29_20, c29_21, c29_22, c29_23, e29_25, w29_25, c29_26, c29_27, c29_28, c29_29, c29_30, e29_32, w29_32, c29_33, c29_34, c29_35, gy]
  refine ifD (fun h2 => ?_) (fun h2 => ?_)
  · simp -implicitDefEqProofs (disch := omega) only [go_sem, Nat.reduceAdd, Nat.reduceMul, Nat.reduceSub, Nat.reduceBEq, Nat.reduceLeDiff, Nat.reduceLT, fn_transitlaw17_passes, e29_1, w29_1, e29_3, w29_3, e29_5, w29_5, e29_7, w29_7, e29_9, w29_9, e29_11, w29_11, c29_12, e29_14, w29_14, c29_15, e29_17, w29_17, c29_18, c29_19, c29_20, c29_21, c29_22, c29_23, e29_25, w29_25, c29_26, c29_27, c29_28, c29_29, c29_30, e29_32, w29_32, c29_33, c29_34, c29_35]
  · simp -implicitDefEqProofs (disch := omega) only [go_sem, Nat.reduceAdd, Nat.reduceMul, Nat.reduceSub, Nat.reduceBEq, Nat.reduceLeDiff, Nat.reduceLT, fn_transitlaw17_passes, e29_1, w29_1, e29_3, w29_3, e29_5, w29_5, e29_7, w29_7, e29_9, w29_9, e29_11, w29_11, c29_12, e29_14, w29_14, c29_15, e29_17, w29_17, c29_18, c29_19, c29_20, c29_21, c29_22, c29_23, e29_25, w29_25, c29_26, c29_27, c29_28, c29_29, c29_30, e29_32, w29_32, c29_33, c29_34, c29_35, en]
    refine next_stay hj ⟨fun e => ?_, rfl, rfl⟩
    have := hjk e
    rcases Nat.lt_or_ge (i + 1 + j) k0 with h3 | h3
    · omega
    · have h4 : i + 1 + j = k0 := by omega
      rw [h4] at hy
      rw [hy] at hk0
      simp only [Option.some.injEq] at hk0
      exact absurd hk0 h2
theorem makeSlice_none (n : Nat) (M : Mem) (hn : n ≤ 1000) : makeSliceV [.int .i64 0] 1 8 (.int .i64 0) (.int .i64 (n : Int)) M = some (.mslice M.length 0 0 0, M ++ [.arr 1 [] 0 0]) := by
  have a2 : decide ((0 : Int) ≤ (n : Int)) = true := decide_eq_true (by omega)
  have a3 : decide ((n : Int) * ((8 : Nat) : Int) ≤ 2 ^ 48) = true := decide_eq_true (by omega)
  have a4 : decide ((n : Int) < 2 ^ 62) = true := decide_eq_true (by omega)
  simp only [makeSliceV, a2, a3, a4, Bool.and_self, Int.le_refl, decide_true, cond_true]
  rfl
def stops (t : Trp) : List Int := t.calls.map Stay.stop
theorem Pattern_ok (t : Trp) (hl : t.calls.length ≤ 1000) : PCalls PR i_trip_Pattern [.agg t.row] (fun v => v = .slice ((stops t).map iRow) .unk) := by
  have hmk := fun M => makeSlice_none t.calls.length M hl
  refine acalls_pop fn_trip_Pattern_ok (by simp [fn_trip_Pattern]) ?_
  simp -implicitDefEqProofs (disch := omega) only [go_sem, Nat.reduceAdd, Nat.reduceMul, Nat.reduceSub, Nat.reduceBEq, Nat.reduceLeDiff, Nat.reduceLT, fn_trip_Pattern, e19_1, w19_1, e19_3, w19_3, e19_5, w19_5, e19_7, w19_7, c19_8, e19_10, w19_10, e19_12, w19_12, c19_13, c19_14, e19_16, w19_16, c19_17, c19_18, c19_19, c19_20, c19_21, c19_22, e19_24, w19_24, c19_25, c19_26, c19_27, c19_28, Trp.row, List.length_map, hmk]
  refine wpC_forL t.calls (fun i vs M => ∃ ver, vs = [.mslice 1 ver 0 (t.calls.take i).length, .slice (t.calls.map Stay.row) t.tag, .int .i64 t.calls.length, .int .i64 i] ∧ M = [.box t.row, .arr 1 (((t.calls.take i).map Stay.stop).map iRow) ver 0]) ⟨0, rfl, rfl⟩ ?_ ?_
  · rintro i x vs M hx hi hd ⟨ver, rfl, rfl⟩
    have gx := stay_at hx
    have hlt : (t.calls.take i).length ≤ 1000 := by rw [List.length_take]; omega
    have e1 : ((t.calls.take i).map Stay.stop).map iRow ++ [[.int .i64 x.stop]] = ((t.calls.take (i + 1)).map Stay.stop).map iRow := by rw [List.take_add_one, hx]; simp [iRow]
    have e2 : (t.calls.take i).length + 1 = (t.calls.take (i + 1)).length := by rw [List.take_add_one, hx]; simp
    generalize hL2 : (t.calls.take (i + 1)) = L2 at *
    generalize hL : (t.calls.take i) = L at *
    simp -implicitDefEqProofs (disch := omega) only [go_sem, Nat.reduceAdd, Nat.reduceMul, Nat.reduceSub, Nat.reduceBEq, Nat.reduceLeDiff, Nat.reduceLT, fn_trip_Pattern, e19_1, w19_1, e19_3, w19_3, e19_5, w19_5, e19_7, w19_7, c19_8, e19_10, w19_10, e19_12, w19_12, c19_13, c19_14, e19_16, w19_16, c19_17, c19_18, c19_19, c19_20, c19_21, c19_22, e19_24, w19_24, c19_25, c19_26, c19_27, c19_28, Trp.row, List.length_map, hd, gx, e1, e2]
    exact next_pop hi (by rfl) ⟨ver + 1, by rw [hL2]; rfl, by rw [hL2]; rfl⟩
  · rintro vs M ⟨ver, rfl, rfl⟩
    rw [List.take_length]
    have e : List.take t.calls.length ((t.calls.map Stay.stop).map iRow) = (t.calls.map Stay.stop).map iRow := List.take_of_length_le (by simp)
    simp -implicitDefEqProofs (disch := omega) only [go_sem, Nat.reduceAdd, Nat.reduceMul, Nat.reduceSub, Nat.reduceBEq, Nat.reduceLeDiff, Nat.reduceLT, fn_trip_Pattern, e19_1, w19_1, e19_3, w19_3, e19_5, w19_5, e19_7, w19_7, c19_8, e19_10, w19_10, e19_12, w19_12, c19_13, c19_14, e19_16, w19_16, c19_17, c19_18, c19_19, c19_20, c19_21, c19_22, e19_24, w19_24, c19_25, c19_26, c19_27, c19_28, Trp.row, List.length_map, dec_irrefl, e, stops]

end Go.Vm.C

