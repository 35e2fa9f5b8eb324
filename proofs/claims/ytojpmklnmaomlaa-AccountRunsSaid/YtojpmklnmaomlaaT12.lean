/- The charged days; the reference's account. -/
import Derived.Test.YtojpmklnmaomlaaT11

namespace Go.Vm.C
open Go.Vm
set_option maxHeartbeats 1000000
set_option maxRecDepth 10000
set_option linter.unusedSimpArgs false
set_option linter.unusedVariables false

/-! ### The charged days -/
def dRow (n : Int) : List V := [.int .i64 n]
def sortD (L : List (Int × Int)) : List Int := (L.map (·.1)).mergeSort fun x y => decide (x ≤ y)
theorem sortD_len (L : List (Int × Int)) : (sortD L).length = L.length := by rw [sortD, List.length_mergeSort, List.length_map]
theorem key_vals {w : World} {Γ : Env} : ∀ {ents : List MapEntry} {L : List (Int × Int)}, ents.length = L.length →
    (∀ (i : Nat) (e : MapEntry) (kv : V × V), ents[i]? = some e → (dayMap L)[i]? = some kv → Rep w Γ kv.1 e.key) → (∀ x ∈ ents, ∃ v, x.key = .int .i64 v) ∧ (ents.map fun e => valOf e.key) = L.map (·.1)
  | [], [], _, _ => ⟨fun x h => by simp at h, rfl⟩
  | [], _ :: _, h, _ => by simp at h
  | _ :: _, [], h, _ => by simp at h
  | e :: ents, p :: L, hl, h => by
    obtain ⟨h1, h2⟩ := key_vals (ents := ents) (L := L) (by simpa using hl) (fun i e' kv a b => h (i + 1) e' kv (by simpa using a) (by simpa [dayMap] using b))
    have h3 := h 0 e (.int .i64 p.1, .int .i64 p.2) rfl rfl
    have h4 : e.key = .int .i64 p.1 := rep_i64 h3
    refine ⟨fun x hx => ?_, ?_⟩
    · rcases List.mem_cons.1 hx with rfl | hx
      · exact ⟨_, h4⟩
      · exact h1 x hx
    · rw [List.map_cons, h2, h4, List.map_cons]; rfl
theorem days_rep {w' : World} {Γ : Env} {g cap : Nat} {zs : List Int} (hcap : zs.length ≤ cap) (hcell : ∀ j x, zs[j]? = some x → w'.cell? ⟨g, j, none⟩ = some (.int .i64 x))
    (hS : ∀ j, j < zs.length → Γ.S g j) : Rep w' Γ (.slice (zs.map dRow) .unk) (.slice (some ⟨g, 0, none⟩) zs.length cap) := by
  have := Rep.slice (w := w') (Γ := Γ) (zs.map dRow) .unk g 0 1 cap (fun i _ => match zs[i]? with | some x => Value.int .i64 x | none => Go.undef)
    (by simp) (by simp) (by simpa using hcap) ?_ ?_ ?_ ?_ ?_
  · simpa using this
  · intro i r hr
    rw [List.getElem?_map] at hr
    cases hx : zs[i]? with
    | none => simp [hx] at hr
    | some x => simp [hx] at hr; subst hr; rfl
  · intro i j hi hj
    rw [List.length_map] at hi
    exact hS _ (by omega)
  · intro i j hi hj
    rw [List.length_map] at hi
    obtain ⟨x, hx⟩ : ∃ x, zs[i]? = some x := ⟨zs[i], by simp [hi]⟩
    simp only [hx, Nat.zero_add]
    have : j = 0 := by omega
    subst this
    simpa using hcell i x hx
  · intro i r j x hr hx
    rw [List.getElem?_map] at hr
    cases hp : zs[i]? with
    | none => simp [hp] at hr
    | some p =>
      simp [hp] at hr
      subst hr
      match j, hx with
      | 0, hx => simp [dRow] at hx; subst hx; rfl
      | j + 1, hx => simp [dRow] at hx
  · intro i r j x hr hx
    rw [List.getElem?_map] at hr
    cases hp : zs[i]? with
    | none => simp [hp] at hr
    | some p =>
      simp [hp] at hr
      subst hr
      match j, hx with
      | 0, hx => simp [dRow] at hx; subst hx; exact .int _ _
      | j + 1, hx => simp [dRow] at hx
theorem Days_ok {M : Mem} {f : Fares} {id mid : Nat} {L : List (Int × Int)} (h : Acc M f id mid L) (hn : L.length ≤ 1000) :
    ACalls PR C.i_account_Account_Days [.ptr id 0] M (fun v M' => v = .slice ((sortD L).map dRow) .unk ∧ M' = M) := by
  have hM := h.box
  have hE := h.ents
  refine ⟨by kernel_rfl, ?_⟩
  intro w Γ cargs hg ⟨hsz, ha⟩
  have ra := ha 0 _ rfl
  have hargs : cargs = #[cargs.getD 0 Go.undef] := by
    apply Array.ext
    · simpa using hsz
    · intro j h1 h2
      simp at h2
      subst h2
      simp [Array.getD, h1]
  generalize cargs.getD 0 Go.undef = av at ra hargs
  subst hargs
  obtain ⟨la, hla, rfl⟩ : ∃ la, Γ.locs[id]? = some la ∧ av = .pointer (some ⟨la.b, 0, none⟩) := by
    cases ra with
    | ptr _ _ l hl _ _ => exact ⟨l, hl, rfl⟩
  obtain ⟨hbx, hlv, hnS, cc, T, hcc, hrep⟩ := hg.blk id la _ hla hM
  have r0 := hrep.2 0 _ rfl
  generalize hc0 : cc.getD 0 Go.undef = mv at r0
  obtain ⟨lm, hlm, rfl⟩ : ∃ lm, Γ.locs[mid]? = some lm ∧ mv = .map (some lm.b) := by
    cases r0 with
    | map _ l hl _ _ => exact ⟨l, hl, rfl⟩
  obtain ⟨_, _, _, ents, clock, hents, hesz, he1, he2⟩ := hg.blk mid lm _ hlm hE
  have hcell : w.cell? ⟨la.b, 0, none⟩ = some (.map (some lm.b)) := by
    have hlt : 0 < cc.size := by rw [hrep.1]; simp
    unfold World.cell?
    rw [hcc]
    simp only [Array.getD, hlt, dif_pos] at hc0
    simp [hlt, ← hc0]
  have hlen : ents.toList.length = L.length := by
    have : (dayMap L).length = L.length := by simp [dayMap]
    simpa [this] using hesz
  have hkv : ∀ (i : Nat) (e : MapEntry), ents.toList[i]? = some e → ∃ kv, (dayMap L)[i]? = some kv := fun i e h => by
    have h1 := (List.getElem?_eq_some_iff.1 h).1
    have h2 : (dayMap L).length = L.length := by simp [dayMap]
    exact ⟨(dayMap L)[i], by simp⟩
  obtain ⟨hv, hkeys⟩ := key_vals (w := w) (Γ := Γ) hlen (fun i e kv h1 h2 => (he1 i e kv (by simpa using h1) h2).2.2.1)
  have hold : ∀ x ∈ ents.toList, x.born < clock := fun x hx => by
    obtain ⟨i, hi⟩ := List.getElem?_of_mem hx
    obtain ⟨kv, hk⟩ := hkv i x hi
    exact (he1 i x kv (by simpa using hi) hk).2.2.2.2
  have hnd : (ents.toList.map (·.born)).Nodup := by
    refine List.pairwise_iff_getElem.2 ?_
    intro i j hi hj hij e
    rw [List.length_map] at hi hj
    rw [List.getElem_map, List.getElem_map] at e
    have := he2 i j ents.toList[i] ents.toList[j] (by simp) (by simp) e
    omega
  have hsz2 : ents.size ≤ 1000 := by
    have : ents.size = ents.toList.length := by simp
    omega
  have key := Go.Proofs.Try.days_in la.b lm.b ents clock w hcell hents hold hnd hv hsz2
  rw [hkeys] at key
  refine key.mono ?_
  rintro e w' ⟨v, rfl, hout, hbl⟩
  obtain ⟨hE2, hg2⟩ := good_later hg hbl
  rcases hout with ⟨rfl, h0⟩ | ⟨g, cap, rfl, hgb, hcap, hcells⟩
  · have h0 : sortD L = [] := h0
    refine ⟨_, _, Γ, M, rfl, ⟨rfl, rfl⟩, ?_, hg2, hE2⟩
    rw [h0]
    exact .sliceNil _ (.inr rfl)
  · have hcells : ∀ j x, (sortD L)[j]? = some x → w'.cell? ⟨g, j, none⟩ = some (.int .i64 x) := hcells
    let Γ' : Env := ⟨Γ.B0, Γ.locs, fun b o => Γ.S b o ∨ (b = g ∧ o < (sortD L).length)⟩
    have hloc : ∀ {i : Nat} {l : Loc}, Γ.locs[i]? = some l → l.live = true → l.b ≠ g := fun hl hv => by
      have := hg.loc_lt hl hv
      omega
    have hEx : Ext w Γ w' Γ' := ⟨fun b o hs => ⟨Or.inl hs, (hE2.s b o hs).2⟩, fun i l hl => ⟨l, hl, Nat.le_refl _, fun _ => rfl, fun _ => rfl⟩, rfl, hE2.below, fun b o hb hs => by
      rcases hs with hs | ⟨rfl, _⟩
      · exact hs
      · have := hg.base; omega⟩
    refine ⟨_, _, Γ', M, rfl, ⟨rfl, rfl⟩, days_rep hcap hcells (fun j hj => Or.inr ⟨rfl, hj⟩), ?_, hEx⟩
    refine ⟨hg.len, fun i l B hl hB => (hg.blk i l B hl hB).keep hEx (fun hv => hbl.block _ (hg.loc_lt hl hv)) (fun hv q hs => ?_), hg.b0, hg.inj, fun b o hs => ?_, Nat.le_trans hg.base hbl.size, hg.tab_ext hEx⟩
    · rcases hs with hs | ⟨e, _⟩
      · exact hs
      · exact absurd e (hloc hl hv)
    · rcases hs with hs | ⟨rfl, hlt⟩
      · exact hg2.scell b o hs
      · exact ⟨_, hcells o _ (List.getElem?_eq_getElem hlt)⟩
/-! ### The reference's account -/
structure RA where
  fares : Fares
  days : List Int
  spent : List Int
  c1 : Cap
  c2 : Cap
def RA.row (a : RA) : List V := [.slice (a.fares.products.map Product.row) a.fares.tag, .int .i64 a.fares.discount, .int .i64 a.fares.within, .int .i64 a.fares.limit, .slice (a.days.map dRow) a.c1, .slice (a.spent.map dRow) a.c2]
theorem drow_at {l : List Int} {i : Nat} {x : Int} (h : l[i]? = some x) : (l.map dRow)[i]? = some [.int .i64 x] := by rw [List.getElem?_map, h]; rfl
def findI : List Int → Int → Nat
  | [], _ => 0
  | x :: xs, d => if d ≤ x then 0 else findI xs d + 1
theorem findI_hit {d : Int} : ∀ {l : List Int} {i : Nat} {y : Int}, (∀ j x, j < i → l[j]? = some x → x < d) → l[i]? = some y → d ≤ y → findI l d = i
  | [], i, y, _, h, _ => by simp at h
  | x :: l, 0, y, _, h, hy => by
    simp only [List.getElem?_cons_zero, Option.some.injEq] at h
    subst h
    rw [findI, if_pos hy]
  | x :: l, i + 1, y, hz, h, hy => by
    have hx := hz 0 x (by omega) rfl
    rw [findI, if_neg (by omega), findI_hit (l := l) (i := i) (y := y) (fun j z hj hz2 => hz (j + 1) z (by omega) (by simpa using hz2)) (by simpa using h) hy]
theorem findI_end {d : Int} : ∀ {l : List Int}, (∀ j x, j < l.length → l[j]? = some x → x < d) → findI l d = l.length
  | [], _ => rfl
  | x :: l, hz => by
    have hx := hz 0 x (by simp) rfl
    rw [findI, if_neg (by omega), findI_end (l := l) (fun j z hj hz2 => hz (j + 1) z (by simpa using hj) (by simpa using hz2))]
    rfl
theorem findI_le (d : Int) : ∀ l : List Int, findI l d ≤ l.length
  | [] => Nat.le_refl _
  | x :: l => by
    have := findI_le d l
    rw [findI]
    split
    · exact Nat.zero_le _
    · simp; omega
def hitI (l : List Int) (d : Int) : Bool := decide (l[findI l d]? = some d)
theorem ref_find_ok (a : RA) (d : Int) (hl : a.days.length ≤ 1000) : PCalls PR i_transitref37_find [.agg a.row, .int .i64 d] (fun v => v = .tuple [.int .i64 (findI a.days d : Nat), .bool (hitI a.days d)]) := by
  refine acalls_pop fn_transitref37_find_ok (by simp [fn_transitref37_find]) ?_
  simp -implicitDefEqProofs (disch := omega) only [go_sem, Nat.reduceAdd, Nat.reduceMul, Nat.reduceSub, Nat.reduceBEq, Nat.reduceLeDiff, Nat.reduceLT, fn_transitref37_find, e34_1, w34_1, e34_3, w34_3, e34_5, w34_5, e34_7, w34_7, c34_8, e34_10, w34_10, c34_11, e34_13, w34_13, c34_14, c34_15, c34_16, c34_17, c34_18, e34_20, w34_20, c34_21, c34_22, c34_23, RA.row, List.length_map]
  refine wpC_forL a.days (fun i vs M => (∀ j x, j < i → a.days[j]? = some x → x < d) ∧ vs = [.int .i64 d, .ptr 0 0, .int .i64 i] ∧ M = [.box a.row]) ⟨fun j x h => by omega, rfl, rfl⟩ ?_ ?_
  · rintro i x vs M hx hi hd ⟨hz, rfl, rfl⟩
    have gx := drow_at hx
    simp -implicitDefEqProofs (disch := omega) only [go_sem, Nat.reduceAdd, Nat.reduceMul, Nat.reduceSub, Nat.reduceBEq, Nat.reduceLeDiff, Nat.reduceLT, fn_transitref37_find, e34_1, w34_1, e34_3, w34_3, e34_5, w34_5, e34_7, w34_7, c34_8, e34_10, w34_10, c34_11, e34_13, w34_13, c34_14, c34_15, c34_16, c34_17, c34_18, e34_20, w34_20, c34_21, c34_22, c34_23, RA.row, List.length_map, hd, gx]
    refine ifD (fun h => ?_) (fun h => ?_)
    · have e1 := findI_hit hz hx (by omega)
      have e2 : hitI a.days d = decide (x = d) := by rw [hitI, e1, hx]; simp
      simp -implicitDefEqProofs (disch := omega) only [go_sem, Nat.reduceAdd, Nat.reduceMul, Nat.reduceSub, Nat.reduceBEq, Nat.reduceLeDiff, Nat.reduceLT, fn_transitref37_find, e34_1, w34_1, e34_3, w34_3, e34_5, w34_5, e34_7, w34_7, c34_8, e34_10, w34_10, c34_11, e34_13, w34_13, c34_14, c34_15, c34_16, c34_17, c34_18, e34_20, w34_20, c34_21, c34_22, c34_23, RA.row, List.length_map, gx, e1, e2]
    · simp -implicitDefEqProofs (disch := omega) only [go_sem, Nat.reduceAdd, Nat.reduceMul, Nat.reduceSub, Nat.reduceBEq, Nat.reduceLeDiff, Nat.reduceLT, fn_transitref37_find, e34_1, w34_1, e34_3, w34_3, e34_5, w34_5, e34_7, w34_7, c34_8, e34_10, w34_10, c34_11, e34_13, w34_13, c34_14, c34_15, c34_16, c34_17, c34_18, e34_20, w34_20, c34_21, c34_22, c34_23]
      refine next_stay hi ⟨fun j y hj hy => ?_, rfl, rfl⟩
      rcases Nat.lt_or_ge j i with h2 | h2
      · exact hz j y h2 hy
      · have : j = i := by omega
        subst this
        rw [hx] at hy
        simp only [Option.some.injEq] at hy
        omega
  · rintro vs M ⟨hz, rfl, rfl⟩
    have e1 := findI_end hz
    have e2 : hitI a.days d = false := by rw [hitI, e1]; simp
    simp -implicitDefEqProofs (disch := omega) only [go_sem, Nat.reduceAdd, Nat.reduceMul, Nat.reduceSub, Nat.reduceBEq, Nat.reduceLeDiff, Nat.reduceLT, fn_transitref37_find, e34_1, w34_1, e34_3, w34_3, e34_5, w34_5, e34_7, w34_7, c34_8, e34_10, w34_10, c34_11, e34_13, w34_13, c34_14, c34_15, c34_16, c34_17, c34_18, e34_20, w34_20, c34_21, c34_22, c34_23, RA.row, List.length_map, dec_irrefl, e1, e2]
def onR (a : RA) (d : Int) : Int := if hitI a.days d then (a.spent[findI a.days d]?).getD 0 else 0
theorem hitI_lt {l : List Int} {d : Int} (h : hitI l d = true) : findI l d < l.length := (List.getElem?_eq_some_iff.1 (of_decide_eq_true h)).1
theorem ref_On_ok (a : RA) (d : Int) (hl : a.days.length ≤ 1000) (hs : a.spent.length = a.days.length) : PCalls PR i_transitref37_On [.agg a.row, .int .i64 d] (fun v => v = .int .i64 (onR a d)) := by
  have hf := ref_find_ok a d hl
  simp only [RA.row] at hf
  refine acalls_pop fn_transitref37_On_ok (by simp [fn_transitref37_On]) ?_
  simp -implicitDefEqProofs (disch := omega) only [go_sem, Nat.reduceAdd, Nat.reduceMul, Nat.reduceSub, Nat.reduceBEq, Nat.reduceLeDiff, Nat.reduceLT, fn_transitref37_On, e17_1, w17_1, e17_3, w17_3, e17_5, w17_5, c17_6, e17_8, w17_8, e17_10, w17_10, c17_11, c17_12, c17_13, c17_14, RA.row]
  first | refine callD (hf) ?_ | refine callQD (hf) ?_
  cases hh : hitI a.days d
  · have e : onR a d = 0 := by simp [onR, hh]
    simp -implicitDefEqProofs (disch := omega) only [go_sem, Nat.reduceAdd, Nat.reduceMul, Nat.reduceSub, Nat.reduceBEq, Nat.reduceLeDiff, Nat.reduceLT, fn_transitref37_On, e17_1, w17_1, e17_3, w17_3, e17_5, w17_5, c17_6, e17_8, w17_8, e17_10, w17_10, c17_11, c17_12, c17_13, c17_14, RA.row, e]
  · have hlt := hitI_lt hh
    obtain ⟨x, hx⟩ : ∃ x, a.spent[findI a.days d]? = some x := ⟨a.spent[findI a.days d]'(by omega), by simp⟩
    have gx := drow_at hx
    have e : onR a d = x := by simp [onR, hh, hx]
    simp -implicitDefEqProofs (disch := omega) only [go_sem, Nat.reduceAdd, Nat.reduceMul, Nat.reduceSub, Nat.reduceBEq, Nat.reduceLeDiff, Nat.reduceLT, fn_transitref37_On, e17_1, w17_1, e17_3, w17_3, e17_5, w17_5, c17_6, e17_8, w17_8, e17_10, w17_10, c17_11, c17_12, c17_13, c17_14, RA.row, List.length_map, gx, e]
def leftR (a : RA) (d : Int) : Int × Bool := if a.fares.limit = 0 ∨ validB d = false then (0, false) else (a.fares.limit - onR a d, true)
theorem ref_Left_ok (a : RA) (d : Int) (hl : a.days.length ≤ 1000) (hs : a.spent.length = a.days.length) (hf : 0 ≤ a.fares.limit ∧ a.fares.limit ≤ 1000000) (ho : 0 ≤ onR a d ∧ onR a d ≤ 1000000000) : PCalls PR i_transitref37_Left [.agg a.row, .int .i64 d] (fun v => v = prV (leftR a d)) := by
  have hon := ref_On_ok a d hl hs
  simp only [RA.row] at hon
  refine acalls_pop fn_transitref37_Left_ok (by simp [fn_transitref37_Left]) ?_
  simp -implicitDefEqProofs (disch := omega) only [go_sem, Nat.reduceAdd, Nat.reduceMul, Nat.reduceSub, Nat.reduceBEq, Nat.reduceLeDiff, Nat.reduceLT, fn_transitref37_Left, e22_1, w22_1, e22_3, w22_3, c22_4, e22_6, w22_6, e22_8, w22_8, c22_9, c22_10, c22_11, RA.row]
  refine ifD (fun h1 => ?_) (fun h1 => ?_)
  · have e : leftR a d = (0, false) := by rw [leftR, if_pos (.inl h1)]
    simp -implicitDefEqProofs (disch := omega) only [go_sem, Nat.reduceAdd, Nat.reduceMul, Nat.reduceSub, Nat.reduceBEq, Nat.reduceLeDiff, Nat.reduceLT, fn_transitref37_Left, e22_1, w22_1, e22_3, w22_3, c22_4, e22_6, w22_6, e22_8, w22_8, c22_9, c22_10, c22_11, e, prV]
  simp -implicitDefEqProofs (disch := omega) only [go_sem, Nat.reduceAdd, Nat.reduceMul, Nat.reduceSub, Nat.reduceBEq, Nat.reduceLeDiff, Nat.reduceLT, fn_transitref37_Left, e22_1, w22_1, e22_3, w22_3, c22_4, e22_6, w22_6, e22_8, w22_8, c22_9, c22_10, c22_11, RA.row]
  refine ifD (fun h2 => ?_) (fun h2 => ?_)
  · have e : leftR a d = (0, false) := by rw [leftR, if_pos (.inr (decide_eq_false (by omega)))]
    simp -implicitDefEqProofs (disch := omega) only [go_sem, Nat.reduceAdd, Nat.reduceMul, Nat.reduceSub, Nat.reduceBEq, Nat.reduceLeDiff, Nat.reduceLT, fn_transitref37_Left, e22_1, w22_1, e22_3, w22_3, c22_4, e22_6, w22_6, e22_8, w22_8, c22_9, c22_10, c22_11, e, prV]
  simp -implicitDefEqProofs (disch := omega) only [go_sem, Nat.reduceAdd, Nat.reduceMul, Nat.reduceSub, Nat.reduceBEq, Nat.reduceLeDiff, Nat.reduceLT, fn_transitref37_Left, e22_1, w22_1, e22_3, w22_3, c22_4, e22_6, w22_6, e22_8, w22_8, c22_9, c22_10, c22_11, RA.row]
  refine ifD (fun h3 => ?_) (fun h3 => ?_)
  · have e : leftR a d = (0, false) := by rw [leftR, if_pos (.inr (decide_eq_false (by omega)))]
    simp -implicitDefEqProofs (disch := omega) only [go_sem, Nat.reduceAdd, Nat.reduceMul, Nat.reduceSub, Nat.reduceBEq, Nat.reduceLeDiff, Nat.reduceLT, fn_transitref37_Left, e22_1, w22_1, e22_3, w22_3, c22_4, e22_6, w22_6, e22_8, w22_8, c22_9, c22_10, c22_11, e, prV]
  have hv : validB d = true := decide_eq_true (by omega)
  have e : leftR a d = (a.fares.limit - onR a d, true) := by rw [leftR, if_neg (by simp [h1, hv])]
  simp -implicitDefEqProofs (disch := omega) only [go_sem, Nat.reduceAdd, Nat.reduceMul, Nat.reduceSub, Nat.reduceBEq, Nat.reduceLeDiff, Nat.reduceLT, fn_transitref37_Left, e22_1, w22_1, e22_3, w22_3, c22_4, e22_6, w22_6, e22_8, w22_8, c22_9, c22_10, c22_11, RA.row]
  first | refine callD (hon) ?_ | refine callQD (hon) ?_
  simp -implicitDefEqProofs (disch := omega) only [go_sem, Nat.reduceAdd, Nat.reduceMul, Nat.reduceSub, Nat.reduceBEq, Nat.reduceLeDiff, Nat.reduceLT, fn_transitref37_Left, e22_1, w22_1, e22_3, w22_3, c22_4, e22_6, w22_6, e22_8, w22_8, c22_9, c22_10, c22_11, e, prV]
theorem ref_SameInts_ok (a b : List Int) (c d : Cap) (hl : a.length ≤ 1000) : PCalls PR i_transitref03_SameInts [.slice (a.map dRow) c, .slice (b.map dRow) d] (fun v => v = .bool (decide (a = b))) := by
  refine acalls_pop fn_transitref03_SameInts_ok (by simp [fn_transitref03_SameInts]) ?_
  simp -implicitDefEqProofs (disch := omega) only [go_sem, Nat.reduceAdd, Nat.reduceMul, Nat.reduceSub, Nat.reduceBEq, Nat.reduceLeDiff, Nat.reduceLT, fn_transitref03_SameInts, e20_1, w20_1, e20_3, w20_3, c20_4, e20_6, w20_6, e20_8, w20_8, e20_10, w20_10, e20_12, w20_12, c20_13, e20_15, w20_15, c20_16, e20_18, w20_18, c20_19, c20_20, c20_21, c20_22, c20_23, e20_25, w20_25, c20_26, c20_27, c20_28, c20_29, List.length_map]
  refine ifD (fun h => ?_) (fun h => ?_)
  rotate_left
  · simp -implicitDefEqProofs (disch := omega) only [go_sem, Nat.reduceAdd, Nat.reduceMul, Nat.reduceSub, Nat.reduceBEq, Nat.reduceLeDiff, Nat.reduceLT, fn_transitref03_SameInts, e20_1, w20_1, e20_3, w20_3, c20_4, e20_6, w20_6, e20_8, w20_8, e20_10, w20_10, e20_12, w20_12, c20_13, e20_15, w20_15, c20_16, e20_18, w20_18, c20_19, c20_20, c20_21, c20_22, c20_23, e20_25, w20_25, c20_26, c20_27, c20_28, c20_29]
    symm
    exact decide_eq_false fun e => h (by rw [e])
  simp -implicitDefEqProofs (disch := omega) only [go_sem, Nat.reduceAdd, Nat.reduceMul, Nat.reduceSub, Nat.reduceBEq, Nat.reduceLeDiff, Nat.reduceLT, fn_transitref03_SameInts, e20_1, w20_1, e20_3, w20_3, c20_4, e20_6, w20_6, e20_8, w20_8, e20_10, w20_10, e20_12, w20_12, c20_13, e20_15, w20_15, c20_16, e20_18, w20_18, c20_19, c20_20, c20_21, c20_22, c20_23, e20_25, w20_25, c20_26, c20_27, c20_28, c20_29]
  refine wpC_forL a (fun i vs M => a.take i = b.take i ∧ vs = [.slice (a.map dRow) c, .slice (b.map dRow) d, .int .i64 i] ∧ M = []) ⟨rfl, rfl, rfl⟩ ?_ ?_
  · rintro i x vs M hx hi hd ⟨hp, rfl, rfl⟩
    obtain ⟨y, hy⟩ : ∃ y, b[i]? = some y := ⟨b[i]'(by omega), by simp⟩
    have gx := drow_at hx
    have gy := drow_at hy
    simp -implicitDefEqProofs (disch := omega) only [go_sem, Nat.reduceAdd, Nat.reduceMul, Nat.reduceSub, Nat.reduceBEq, Nat.reduceLeDiff, Nat.reduceLT, fn_transitref03_SameInts, e20_1, w20_1, e20_3, w20_3, c20_4, e20_6, w20_6, e20_8, w20_8, e20_10, w20_10, e20_12, w20_12, c20_13, e20_15, w20_15, c20_16, e20_18, w20_18, c20_19, c20_20, c20_21, c20_22, c20_23, e20_25, w20_25, c20_26, c20_27, c20_28, c20_29, List.length_map, hd, gx, gy]
    refine ifD (fun h1 => ?_) (fun h1 => ?_)
    · simp -implicitDefEqProofs (disch := omega) only [go_sem, Nat.reduceAdd, Nat.reduceMul, Nat.reduceSub, Nat.reduceBEq, Nat.reduceLeDiff, Nat.reduceLT, fn_transitref03_SameInts, e20_1, w20_1, e20_3, w20_3, c20_4, e20_6, w20_6, e20_8, w20_8, e20_10, w20_10, e20_12, w20_12, c20_13, e20_15, w20_15, c20_16, e20_18, w20_18, c20_19, c20_20, c20_21, c20_22, c20_23, e20_25, w20_25, c20_26, c20_27, c20_28, c20_29]
      refine next_stay hi ⟨?_, rfl, rfl⟩
      rw [List.take_add_one, List.take_add_one, hx, hy, hp, h1]
    · simp -implicitDefEqProofs (disch := omega) only [go_sem, Nat.reduceAdd, Nat.reduceMul, Nat.reduceSub, Nat.reduceBEq, Nat.reduceLeDiff, Nat.reduceLT, fn_transitref03_SameInts, e20_1, w20_1, e20_3, w20_3, c20_4, e20_6, w20_6, e20_8, w20_8, e20_10, w20_10, e20_12, w20_12, c20_13, e20_15, w20_15, c20_16, e20_18, w20_18, c20_19, c20_20, c20_21, c20_22, c20_23, e20_25, w20_25, c20_26, c20_27, c20_28, c20_29]
      symm
      refine decide_eq_false fun e => h1 ?_
      subst e
      rw [hx] at hy
      simpa using hy
  · rintro vs M ⟨hp, rfl, rfl⟩
    rw [List.take_length, show a.length = b.length from by omega, List.take_length] at hp
    simp -implicitDefEqProofs (disch := omega) only [go_sem, Nat.reduceAdd, Nat.reduceMul, Nat.reduceSub, Nat.reduceBEq, Nat.reduceLeDiff, Nat.reduceLT, fn_transitref03_SameInts, e20_1, w20_1, e20_3, w20_3, c20_4, e20_6, w20_6, e20_8, w20_8, e20_10, w20_10, e20_12, w20_12, c20_13, e20_15, w20_15, c20_16, e20_18, w20_18, c20_19, c20_20, c20_21, c20_22, c20_23, e20_25, w20_25, c20_26, c20_27, c20_28, c20_29, List.length_map, dec_irrefl]
    symm
    exact decide_eq_true hp
theorem sum_step {l : List Int} {i : Nat} {x : Int} (h : l[i]? = some x) : (l.take (i + 1)).sum = (l.take i).sum + x := by
  rw [List.take_add_one, h, List.sum_append]; simp
theorem sum_bd : ∀ (l : List Int), (∀ x ∈ l, 0 ≤ x ∧ x ≤ 1000000000) → 0 ≤ l.sum ∧ l.sum ≤ 1000000000 * l.length
  | [], _ => by simp
  | x :: l, h => by
    have h1 := h x (by simp)
    have h2 := sum_bd l (fun y hy => h y (by simp [hy]))
    simp only [List.sum_cons, List.length_cons]
    omega
theorem ref_Total_ok (a : RA) (hl : a.spent.length ≤ 1000) (hb : ∀ x ∈ a.spent, 0 ≤ x ∧ x ≤ 1000000000) : PCalls PR i_transitref37_Total [.agg a.row] (fun v => v = .int .i64 a.spent.sum) := by
  refine acalls_pop fn_transitref37_Total_ok (by simp [fn_transitref37_Total]) ?_
  simp -implicitDefEqProofs (disch := omega) only [go_sem, Nat.reduceAdd, Nat.reduceMul, Nat.reduceSub, Nat.reduceBEq, Nat.reduceLeDiff, Nat.reduceLT, fn_transitref37_Total, e19_1, w19_1, e19_3, w19_3, e19_5, w19_5, e19_7, w19_7, e19_9, w19_9, c19_10, e19_12, w19_12, c19_13, c19_14, c19_15, c19_16, c19_17, e19_19, w19_19, c19_20, c19_21, c19_22, c19_23, RA.row, List.length_map]
  refine wpC_forL a.spent (fun i vs M => vs = [.ptr 0 0, .int .i64 (a.spent.take i).sum, .int .i64 i] ∧ M = [.box a.row]) ⟨rfl, rfl⟩ ?_ ?_
  · rintro i x vs M hx hi hd ⟨rfl, rfl⟩
    have gx := drow_at hx
    have h1 := sum_bd (a.spent.take i) (fun y hy => hb y (List.mem_of_mem_take hy))
    have h2 := hb x (List.mem_of_getElem? hx)
    have h3 : (a.spent.take i).length ≤ 1000 := by rw [List.length_take]; omega
    have hst := sum_step hx
    obtain ⟨h11, h12⟩ := h1
    obtain ⟨h21, h22⟩ := h2
    simp -implicitDefEqProofs (disch := omega) only [go_sem, Nat.reduceAdd, Nat.reduceMul, Nat.reduceSub, Nat.reduceBEq, Nat.reduceLeDiff, Nat.reduceLT, fn_transitref37_Total, e19_1, w19_1, e19_3, w19_3, e19_5, w19_5, e19_7, w19_7, e19_9, w19_9, c19_10, e19_12, w19_12, c19_13, c19_14, c19_15, c19_16, c19_17, e19_19, w19_19, c19_20, c19_21, c19_22, c19_23, RA.row, List.length_map, hd, gx]
    exact next_stay hi ⟨by rw [hst]; rfl, rfl⟩
  · rintro vs M ⟨rfl, rfl⟩
    rw [List.take_length]
    simp -implicitDefEqProofs (disch := omega) only [go_sem, Nat.reduceAdd, Nat.reduceMul, Nat.reduceSub, Nat.reduceBEq, Nat.reduceLeDiff, Nat.reduceLT, fn_transitref37_Total, e19_1, w19_1, e19_3, w19_3, e19_5, w19_5, e19_7, w19_7, e19_9, w19_9, c19_10, e19_12, w19_12, c19_13, c19_14, c19_15, c19_16, c19_17, e19_19, w19_19, c19_20, c19_21, c19_22, c19_23, RA.row, List.length_map, dec_irrefl]

/-! ### The reference's account: changes -/
theorem app_none (c : Cap) (M : Mem) : appV false 1 8 (.slice [] .full) (.slice [] c) M = some (.slice [] .full, M) := rfl
theorem app_fresh (l : List Int) (c : Cap) (M : Mem) (h1 : 1 ≤ l.length) (h2 : l.length ≤ 1001) : appV false 1 8 (.slice [] .full) (.slice (l.map dRow) c) M = some (.mslice M.length 0 0 l.length, M ++ [.arr 1 (l.map dRow) 0 0]) := by
  cases l with
  | nil => simp at h1
  | cons x l =>
    have hb : decide ((0 + ((x :: l).map dRow).length) * (2 * 8) ≤ 2 ^ 48) = true := decide_eq_true (by simp at h2 ⊢; omega)
    have hh : headLen 1 ((x :: l).map dRow) = true := rfl
    have hr : rowsV 1 M (.slice ((x :: l).map dRow) c) = some ((x :: l).map dRow) := by simp only [rowsV, hh, cond_true]
    have h0 : headLen 1 ([] : List (List V)) = true := rfl
    simp only [appV, hr, appendV, h0, List.length_nil, hb, Bool.true_and, Bool.and_true, decide_true, Bool.or_true, cond_true]
    simp
theorem app_more (a l : List Int) (c : Cap) (ver fz : Nat) (h2 : a.length + l.length ≤ 2002) : appV false 1 8 (.mslice 0 ver 0 a.length) (.slice (l.map dRow) c) [.arr 1 (a.map dRow) ver fz] = some (.mslice 0 (ver + 1) 0 (a ++ l).length, [.arr 1 ((a ++ l).map dRow) (ver + 1) fz]) := by
  have hb : decide (((a.map dRow).length + (l.map dRow).length) * (2 * 8) ≤ 2 ^ 48) = true := decide_eq_true (by simp; omega)
  have hh : headLen 1 (l.map dRow) = true := by cases l <;> rfl
  have hr : rowsV 1 [.arr 1 (a.map dRow) ver fz] (.slice (l.map dRow) c) = some (l.map dRow) := by simp only [rowsV, hh, cond_true]
  simp only [appV, hr, appendV, List.getElem?_cons_zero, List.length_map] at hb ⊢
  simp [hb]
theorem slice_ht (l : List Int) (c : Cap) (k : Nat) (M : Mem) (h : k ≤ l.length) : sliceV 1 (.slice (l.map dRow) c) none (some (.int .i64 (k : Int))) none M = some (.slice ((l.take k).map dRow) (capS c k l.length l.length false)) := by
  have hh : headLen 1 (l.map dRow) = true := by cases l <;> rfl
  rw [slice_h 1 _ c .i64 k M (by omega) (by simpa using h) hh, List.map_take]
  simp
theorem slice_lt (l : List Int) (c : Cap) (k : Nat) (M : Mem) (h : k ≤ l.length) : sliceV 1 (.slice (l.map dRow) c) (some (.int .i64 (k : Int))) none none M = some (.slice ((l.drop k).map dRow) (capS c l.length l.length l.length false)) := by
  have hh : headLen 1 (l.map dRow) = true := by cases l <;> rfl
  rw [slice_l 1 _ c .i64 k M (by omega) (by simpa using h) hh, List.map_drop]
  simp
def putL (l : List Int) (k : Nat) (n : Int) : List Int := l.take k ++ [n] ++ l.drop k
theorem putL_len (l : List Int) (k : Nat) (n : Int) (h : k ≤ l.length) : (putL l k n).length = l.length + 1 := by
  simp [putL]; omega
theorem ref_put_ok (l : List Int) (c : Cap) (k : Nat) (n : Int) (hl : l.length ≤ 1000) (hk : k ≤ l.length) : PCalls PR i_transitref37_put [.slice (l.map dRow) c, .int .i64 k, .int .i64 n] (fun v => v = .slice ((putL l k n).map dRow) .unk) := by
  have s1 := fun M => slice_ht l c k M hk
  have s2 := fun M => slice_lt l c k M hk
  have hn : [[V.int .i64 n]] = [n].map dRow := rfl
  have hlen := putL_len l k n hk
  refine acalls_pop fn_transitref37_put_ok (by simp [fn_transitref37_put]) ?_
  have hz1 : [n].map dRow = [[V.int .i64 n]] := rfl
  have e : List.take (putL l k n).length ((putL l k n).map dRow) = (putL l k n).map dRow := List.take_of_length_le (by simp)
  rcases Nat.eq_zero_or_pos k with rfl | hpos
  · have hA := app_fresh [n] .full [] (by simp) (by simp)
    rw [hz1] at hA
    simp only [List.length_nil, List.nil_append] at hA
    have hh : headLen 1 (l.map dRow) = true := by cases l <;> rfl
    have eP : [V.int .i64 n] :: l.map dRow = (putL l 0 n).map dRow := by simp [putL, dRow]
    have lP : 1 + l.length = (putL l 0 n).length := by simp [putL]; omega
    generalize putL l 0 n = P at *
    simp -implicitDefEqProofs (disch := omega) only [go_sem, Nat.reduceAdd, Nat.reduceMul, Nat.reduceSub, Nat.reduceBEq, Nat.reduceLeDiff, Nat.reduceLT, fn_transitref37_put, e35_1, w35_1, e35_3, w35_3, e35_5, w35_5, e35_7, w35_7, c35_8, c35_9, c35_10, c35_11, s1, List.take_zero, List.map_nil, app_none, hA, s2, hh, eP, lP, List.length_map, e]
  · have ht1 : (l.take k).length = k := by rw [List.length_take]; omega
    have hF := app_fresh (l.take k) (capS c k l.length l.length false) [] (by omega) (by omega)
    have hA := app_more (l.take k) [n] .full 0 0 (by simp; omega)
    have hB := app_more (l.take k ++ [n]) (l.drop k) (capS c l.length l.length l.length false) 1 0 (by simp; omega)
    have hp : l.take k ++ [n] ++ l.drop k = putL l k n := rfl
    rw [hp] at hB
    rw [hz1] at hA
    simp only [List.length_nil, List.nil_append] at hF
    generalize putL l k n = P at *
    generalize l.take k ++ [n] = Q at *
    simp -implicitDefEqProofs (disch := omega) only [go_sem, Nat.reduceAdd, Nat.reduceMul, Nat.reduceSub, Nat.reduceBEq, Nat.reduceLeDiff, Nat.reduceLT, fn_transitref37_put, e35_1, w35_1, e35_3, w35_3, e35_5, w35_5, e35_7, w35_7, c35_8, c35_9, c35_10, c35_11, s1, hF, hA, s2, hB, List.length_map, e]

end Go.Vm.C

