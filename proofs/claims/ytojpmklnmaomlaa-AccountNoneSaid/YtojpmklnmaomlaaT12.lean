/- The charged days; the statement AccountNone. -/
import Derived.Test.YtojpmklnmaomlaaT11

namespace Go.Vm.C
open Go.Vm
set_option maxHeartbeats 1000000
set_option maxRecDepth 10000
set_option linter.unusedSimpArgs false
set_option linter.unusedVariables false

/-! ### The charged days -/
def dRow (n : Int) : List V := [.int .i64 n]
def sortD (L : List (Int × Int)) : List Int := (L.map (·.1)).mergeSort fun x y => decide (x ≤ y)
theorem sortD_len (L : List (Int × Int)) : (sortD L).length = L.length := by rw [sortD, List.length_mergeSort, List.length_map]
theorem key_vals {w : World} {Γ : Env} : ∀ {ents : List MapEntry} {L : List (Int × Int)}, ents.length = L.length →
    (∀ (i : Nat) (e : MapEntry) (kv : V × V), ents[i]? = some e → (dayMap L)[i]? = some kv → Rep w Γ kv.1 e.key) → (∀ x ∈ ents, ∃ v, x.key = .int .i64 v) ∧ (ents.map fun e => valOf e.key) = L.map (·.1)
  | [], [], _, _ => ⟨fun x h => by simp at h, rfl⟩
  | [], _ :: _, h, _ => by simp at h
  | _ :: _, [], h, _ => by simp at h
  | e :: ents, p :: L, hl, h => by
    obtain ⟨h1, h2⟩ := key_vals (ents := ents) (L := L) (by simpa using hl) (fun i e' kv a b => h (i + 1) e' kv (by simpa using a) (by simpa [dayMap] using b))
    have h3 := h 0 e (.int .i64 p.1, .int .i64 p.2) rfl rfl
    have h4 : e.key = .int .i64 p.1 := rep_i64 h3
    refine ⟨fun x hx => ?_, ?_⟩
    · rcases List.mem_cons.1 hx with rfl | hx
      · exact ⟨_, h4⟩
      · exact h1 x hx
    · rw [List.map_cons, h2, h4, List.map_cons]; rfl
theorem days_rep {w' : World} {Γ : Env} {g cap : Nat} {zs : List Int} (hcap : zs.length ≤ cap) (hcell : ∀ j x, zs[j]? = some x → w'.cell? ⟨g, j, none⟩ = some (.int .i64 x))
    (hS : ∀ j, j < zs.length → Γ.S g j) : Rep w' Γ (.slice (zs.map dRow) .unk) (.slice (some ⟨g, 0, none⟩) zs.length cap) := by
  have := Rep.slice (w := w') (Γ := Γ) (zs.map dRow) .unk g 0 1 cap (fun i _ => match zs[i]? with | some x => Value.int .i64 x | none => Go.undef)
    (by simp) (by simp) (by simpa using hcap) ?_ ?_ ?_ ?_ ?_
  · simpa using this
  · intro i r hr
    rw [List.getElem?_map] at hr
    cases hx : zs[i]? with
    | none => simp [hx] at hr
    | some x => simp [hx] at hr; subst hr; rfl
  · intro i j hi hj
    rw [List.length_map] at hi
    exact hS _ (by omega)
  · intro i j hi hj
    rw [List.length_map] at hi
    obtain ⟨x, hx⟩ : ∃ x, zs[i]? = some x := ⟨zs[i], by simp [hi]⟩
    simp only [hx, Nat.zero_add]
    have : j = 0 := by omega
    subst this
    simpa using hcell i x hx
  · intro i r j x hr hx
    rw [List.getElem?_map] at hr
    cases hp : zs[i]? with
    | none => simp [hp] at hr
    | some p =>
      simp [hp] at hr
      subst hr
      match j, hx with
      | 0, hx => simp [dRow] at hx; subst hx; rfl
      | j + 1, hx => simp [dRow] at hx
  · intro i r j x hr hx
    rw [List.getElem?_map] at hr
    cases hp : zs[i]? with
    | none => simp [hp] at hr
    | some p =>
      simp [hp] at hr
      subst hr
      match j, hx with
      | 0, hx => simp [dRow] at hx; subst hx; exact .int _ _
      | j + 1, hx => simp [dRow] at hx
theorem Days_ok {M : Mem} {f : Fares} {id mid : Nat} {L : List (Int × Int)} (h : Acc M f id mid L) (hn : L.length ≤ 1000) :
    ACalls PR C.i_account_Account_Days [.ptr id 0] M (fun v M' => v = .slice ((sortD L).map dRow) .unk ∧ M' = M) := by
  have hM := h.box
  have hE := h.ents
  refine ⟨by kernel_rfl, ?_⟩
  intro w Γ cargs hg ⟨hsz, ha⟩
  have ra := ha 0 _ rfl
  have hargs : cargs = #[cargs.getD 0 Go.undef] := by
    apply Array.ext
    · simpa using hsz
    · intro j h1 h2
      simp at h2
      subst h2
      simp [Array.getD, h1]
  generalize cargs.getD 0 Go.undef = av at ra hargs
  subst hargs
  obtain ⟨la, hla, rfl⟩ : ∃ la, Γ.locs[id]? = some la ∧ av = .pointer (some ⟨la.b, 0, none⟩) := by
    cases ra with
    | ptr _ _ l hl _ _ => exact ⟨l, hl, rfl⟩
  obtain ⟨hbx, hlv, hnS, cc, T, hcc, hrep⟩ := hg.blk id la _ hla hM
  have r0 := hrep.2 0 _ rfl
  generalize hc0 : cc.getD 0 Go.undef = mv at r0
  obtain ⟨lm, hlm, rfl⟩ : ∃ lm, Γ.locs[mid]? = some lm ∧ mv = .map (some lm.b) := by
    cases r0 with
    | map _ l hl _ _ => exact ⟨l, hl, rfl⟩
  obtain ⟨_, _, _, ents, clock, hents, hesz, he1, he2⟩ := hg.blk mid lm _ hlm hE
  have hcell : w.cell? ⟨la.b, 0, none⟩ = some (.map (some lm.b)) := by
    have hlt : 0 < cc.size := by rw [hrep.1]; simp
    unfold World.cell?
    rw [hcc]
    simp only [Array.getD, hlt, dif_pos] at hc0
    simp [hlt, ← hc0]
  have hlen : ents.toList.length = L.length := by
    have : (dayMap L).length = L.length := by simp [dayMap]
    simpa [this] using hesz
  have hkv : ∀ (i : Nat) (e : MapEntry), ents.toList[i]? = some e → ∃ kv, (dayMap L)[i]? = some kv := fun i e h => by
    have h1 := (List.getElem?_eq_some_iff.1 h).1
    have h2 : (dayMap L).length = L.length := by simp [dayMap]
    exact ⟨(dayMap L)[i], by simp⟩
  obtain ⟨hv, hkeys⟩ := key_vals (w := w) (Γ := Γ) hlen (fun i e kv h1 h2 => (he1 i e kv (by simpa using h1) h2).2.2.1)
  have hold : ∀ x ∈ ents.toList, x.born < clock := fun x hx => by
    obtain ⟨i, hi⟩ := List.getElem?_of_mem hx
    obtain ⟨kv, hk⟩ := hkv i x hi
    exact (he1 i x kv (by simpa using hi) hk).2.2.2.2
  have hnd : (ents.toList.map (·.born)).Nodup := by
    refine List.pairwise_iff_getElem.2 ?_
    intro i j hi hj hij e
    rw [List.length_map] at hi hj
    rw [List.getElem_map, List.getElem_map] at e
    have := he2 i j ents.toList[i] ents.toList[j] (by simp) (by simp) e
    omega
  have hsz2 : ents.size ≤ 1000 := by
    have : ents.size = ents.toList.length := by simp
    omega
  have key := Go.Proofs.Try.days_in la.b lm.b ents clock w hcell hents hold hnd hv hsz2
  rw [hkeys] at key
  refine key.mono ?_
  rintro e w' ⟨v, rfl, hout, hbl⟩
  obtain ⟨hE2, hg2⟩ := good_later hg hbl
  rcases hout with ⟨rfl, h0⟩ | ⟨g, cap, rfl, hgb, hcap, hcells⟩
  · have h0 : sortD L = [] := h0
    refine ⟨_, _, Γ, M, rfl, ⟨rfl, rfl⟩, ?_, hg2, hE2⟩
    rw [h0]
    exact .sliceNil _ (.inr rfl)
  · have hcells : ∀ j x, (sortD L)[j]? = some x → w'.cell? ⟨g, j, none⟩ = some (.int .i64 x) := hcells
    let Γ' : Env := ⟨Γ.B0, Γ.locs, fun b o => Γ.S b o ∨ (b = g ∧ o < (sortD L).length)⟩
    have hloc : ∀ {i : Nat} {l : Loc}, Γ.locs[i]? = some l → l.live = true → l.b ≠ g := fun hl hv => by
      have := hg.loc_lt hl hv
      omega
    have hEx : Ext w Γ w' Γ' := ⟨fun b o hs => ⟨Or.inl hs, (hE2.s b o hs).2⟩, fun i l hl => ⟨l, hl, Nat.le_refl _, fun _ => rfl, fun _ => rfl⟩, rfl, hE2.below, fun b o hb hs => by
      rcases hs with hs | ⟨rfl, _⟩
      · exact hs
      · have := hg.base; omega⟩
    refine ⟨_, _, Γ', M, rfl, ⟨rfl, rfl⟩, days_rep hcap hcells (fun j hj => Or.inr ⟨rfl, hj⟩), ?_, hEx⟩
    refine ⟨hg.len, fun i l B hl hB => (hg.blk i l B hl hB).keep hEx (fun hv => hbl.block _ (hg.loc_lt hl hv)) (fun hv q hs => ?_), hg.b0, hg.inj, fun b o hs => ?_, Nat.le_trans hg.base hbl.size, hg.tab_ext hEx⟩
    · rcases hs with hs | ⟨e, _⟩
      · exact hs
      · exact absurd e (hloc hl hv)
    · rcases hs with hs | ⟨rfl, hlt⟩
      · exact hg2.scell b o hs
      · exact ⟨_, hcells o _ (List.getElem?_eq_getElem hlt)⟩
theorem Days_nil {M : Mem} : ACalls PR C.i_account_Account_Days [.nilp] M (fun v M' => v = .slice [] .nil ∧ M' = M) := by
  refine ⟨by kernel_rfl, ?_⟩
  intro w Γ cargs hg ⟨hsz, ha⟩
  have ra := ha 0 _ rfl
  have hargs : cargs = #[cargs.getD 0 Go.undef] := by
    apply Array.ext
    · simpa using hsz
    · intro j h1 h2
      simp at h2
      subst h2
      simp [Array.getD, h1]
  generalize cargs.getD 0 Go.undef = av at ra hargs
  subst hargs
  cases ra with
  | nilp =>
    refine (Go.Proofs.Try.days_nil w).mono ?_
    rintro e w' ⟨rfl, rfl⟩
    exact ⟨_, _, Γ, M, rfl, ⟨rfl, rfl⟩, .sliceNil _ (.inl rfl), hg, Ext.refl _ _⟩
theorem Spent_nil (d : Int) {M : Mem} (hU : memUnder M.length M = true) : ACalls PR i_account_Account_Spent [.nilp, .int .i64 d] M (fun v M' => v = .int .i64 0 ∧ M' = M) := by
  refine acalls_pop fn_account_Account_Spent_ok (by simp [fn_account_Account_Spent]) ?_
  simp -implicitDefEqProofs (disch := omega) only [go_sem, Nat.reduceAdd, Nat.reduceMul, Nat.reduceSub, Nat.reduceBEq, Nat.reduceLeDiff, Nat.reduceLT, fn_account_Account_Spent, e11_1, w11_1, e11_3, w11_3, c11_4, e11_6, w11_6, e11_8, w11_8, c11_9, c11_10, c11_11, eq_nil_nil, take_len, hU]
theorem Left_nil (d : Int) {M : Mem} (hU : memUnder M.length M = true) : ACalls PR i_account_Account_Left [.nilp, .int .i64 d] M (fun v M' => v = prV (0, false) ∧ M' = M) := by
  refine acalls_pop fn_account_Account_Left_ok (by simp [fn_account_Account_Left]) ?_
  simp -implicitDefEqProofs (disch := omega) only [go_sem, Nat.reduceAdd, Nat.reduceMul, Nat.reduceSub, Nat.reduceBEq, Nat.reduceLeDiff, Nat.reduceLT, fn_account_Account_Left, e12_1, w12_1, e12_3, w12_3, c12_4, e12_6, w12_6, e12_8, w12_8, c12_9, c12_10, c12_11, eq_nil_nil, take_len, hU, prV]
theorem Refund_nil (d n : Int) {M : Mem} (hU : memUnder M.length M = true) : ACalls PR i_account_Account_Refund [.nilp, .int .i64 d, .int .i64 n] M (fun v M' => v = .int .i64 40 ∧ M' = M) := by
  refine acalls_pop fn_account_Account_Refund_ok (by simp [fn_account_Account_Refund]) ?_
  simp -implicitDefEqProofs (disch := omega) only [go_sem, Nat.reduceAdd, Nat.reduceMul, Nat.reduceSub, Nat.reduceBEq, Nat.reduceLeDiff, Nat.reduceLT, fn_account_Account_Refund, e24_1, w24_1, e24_3, w24_3, c24_4, e24_6, w24_6, e24_8, w24_8, e24_10, w24_10, c24_11, e24_13, w24_13, e24_15, w24_15, c24_16, e24_18, w24_18, e24_20, w24_20, e24_22, w24_22, c24_23, c24_24, c24_25, c24_26, c24_27, c24_28, c24_29, eq_nil_nil, take_len, hU]
theorem Total_nil {M : Mem} (hU : memUnder M.length M = true) : ACalls PR i_account_Account_Total [.nilp] M (fun v M' => v = .int .i64 0 ∧ M' = M) := by
  refine acalls_pop fn_account_Account_Total_ok (by simp [fn_account_Account_Total]) ?_
  simp -implicitDefEqProofs (disch := omega) only [go_sem, Nat.reduceAdd, Nat.reduceMul, Nat.reduceSub, Nat.reduceBEq, Nat.reduceLeDiff, Nat.reduceLT, fn_account_Account_Total, e18_1, w18_1, e18_3, w18_3, c18_4, e18_6, w18_6, e18_8, w18_8, c18_9, c18_10, c18_11, eq_nil_nil, take_len, hU]

/-! ### The statement AccountNone -/
theorem AccountNone_law (d n : Int) : PCalls PR i_transitlaw37_AccountNone [.int .i64 d, .int .i64 n] (fun v => v = .bool true) := by
  have hU0 : memUnder ([] : Mem).length [] = true := rfl
  have e0 : decide ((0 : Int) = 0) = true := rfl
  have e40 : decide ((40 : Int) = 40) = true := rfl
  have e7 : decide ((7 : Int) = 7) = true := rfl
  have l0 : decide (((0 : Nat) : Int) = 0) = true := rfl
  refine acalls_pop fn_transitlaw37_AccountNone_ok (by simp [fn_transitlaw37_AccountNone]) ?_
  simp -implicitDefEqProofs (disch := omega) only [go_sem, Nat.reduceAdd, Nat.reduceMul, Nat.reduceSub, Nat.reduceBEq, Nat.reduceLeDiff, Nat.reduceLT, fn_transitlaw37_AccountNone, e6_1, w6_1, e6_3, w6_3, e6_5, w6_5, e6_7, w6_7, e6_9, w6_9, c6_10, e6_12, w6_12, e6_14, w6_14, e6_16, w6_16, c6_17, e6_19, w6_19, e6_21, w6_21, c6_22, c6_23, c6_24, c6_25, c6_26, c6_27, c6_28, c6_29]
  refine callA (Left_nil d hU0) ?_
  rintro v N ⟨rfl, rfl⟩
  simp -implicitDefEqProofs (disch := omega) only [go_sem, Nat.reduceAdd, Nat.reduceMul, Nat.reduceSub, Nat.reduceBEq, Nat.reduceLeDiff, Nat.reduceLT, fn_transitlaw37_AccountNone, e6_1, w6_1, e6_3, w6_3, e6_5, w6_5, e6_7, w6_7, e6_9, w6_9, c6_10, e6_12, w6_12, e6_14, w6_14, e6_16, w6_16, c6_17, e6_19, w6_19, e6_21, w6_21, c6_22, c6_23, c6_24, c6_25, c6_26, c6_27, c6_28, c6_29, prV]
  refine callA (Account_Charge_nil d [] .nil hU0) ?_
  rintro v N ⟨rfl, rfl⟩
  simp -implicitDefEqProofs (disch := omega) only [go_sem, Nat.reduceAdd, Nat.reduceMul, Nat.reduceSub, Nat.reduceBEq, Nat.reduceLeDiff, Nat.reduceLT, fn_transitlaw37_AccountNone, e6_1, w6_1, e6_3, w6_3, e6_5, w6_5, e6_7, w6_7, e6_9, w6_9, c6_10, e6_12, w6_12, e6_14, w6_14, e6_16, w6_16, c6_17, e6_19, w6_19, e6_21, w6_21, c6_22, c6_23, c6_24, c6_25, c6_26, c6_27, c6_28, c6_29, pairV, e0, e40]
  refine callA (Refund_nil d n hU0) ?_
  rintro v N ⟨rfl, rfl⟩
  simp -implicitDefEqProofs (disch := omega) only [go_sem, Nat.reduceAdd, Nat.reduceMul, Nat.reduceSub, Nat.reduceBEq, Nat.reduceLeDiff, Nat.reduceLT, fn_transitlaw37_AccountNone, e6_1, w6_1, e6_3, w6_3, e6_5, w6_5, e6_7, w6_7, e6_9, w6_9, c6_10, e6_12, w6_12, e6_14, w6_14, e6_16, w6_16, c6_17, e6_19, w6_19, e6_21, w6_21, c6_22, c6_23, c6_24, c6_25, c6_26, c6_27, c6_28, c6_29, e0, e40]
  refine callA (Spent_nil d hU0) ?_
  rintro v N ⟨rfl, rfl⟩
  simp -implicitDefEqProofs (disch := omega) only [go_sem, Nat.reduceAdd, Nat.reduceMul, Nat.reduceSub, Nat.reduceBEq, Nat.reduceLeDiff, Nat.reduceLT, fn_transitlaw37_AccountNone, e6_1, w6_1, e6_3, w6_3, e6_5, w6_5, e6_7, w6_7, e6_9, w6_9, c6_10, e6_12, w6_12, e6_14, w6_14, e6_16, w6_16, c6_17, e6_19, w6_19, e6_21, w6_21, c6_22, c6_23, c6_24, c6_25, c6_26, c6_27, c6_28, c6_29, e0]
  refine callA (Total_nil hU0) ?_
  rintro v N ⟨rfl, rfl⟩
  simp -implicitDefEqProofs (disch := omega) only [go_sem, Nat.reduceAdd, Nat.reduceMul, Nat.reduceSub, Nat.reduceBEq, Nat.reduceLeDiff, Nat.reduceLT, fn_transitlaw37_AccountNone, e6_1, w6_1, e6_3, w6_3, e6_5, w6_5, e6_7, w6_7, e6_9, w6_9, c6_10, e6_12, w6_12, e6_14, w6_14, e6_16, w6_16, c6_17, e6_19, w6_19, e6_21, w6_21, c6_22, c6_23, c6_24, c6_25, c6_26, c6_27, c6_28, c6_29, e0]
  refine callA Days_nil ?_
  rintro v N ⟨rfl, rfl⟩
  simp -implicitDefEqProofs (disch := omega) only [go_sem, Nat.reduceAdd, Nat.reduceMul, Nat.reduceSub, Nat.reduceBEq, Nat.reduceLeDiff, Nat.reduceLT, fn_transitlaw37_AccountNone, e6_1, w6_1, e6_3, w6_3, e6_5, w6_5, e6_7, w6_7, e6_9, w6_9, c6_10, e6_12, w6_12, e6_14, w6_14, e6_16, w6_16, c6_17, e6_19, w6_19, e6_21, w6_21, c6_22, c6_23, c6_24, c6_25, c6_26, c6_27, c6_28, c6_29, e0, l0, List.length_nil]
  first | refine callD (one_ok) ?_ | refine callQD (one_ok) ?_
  refine callA (account_New_ok oneF one_wf (.inr (.inr rfl)) hU0) ?_
  rintro v N ⟨⟨L, rfl⟩, _, _, hgood⟩
  obtain ⟨id, mid, t, rfl, hid, hmid, hA⟩ := hgood one_valid
  have hs : ∀ d, spentOn [] d = 0 := fun _ => rfl
  have hsum : sumL [] = 0 := rfl
  have hsort : sortD [] = [] := by simp [sortD]
  have hr : refundRes [] d n = (7, []) := rfl
  have c1 := Account_Spent_ok hA d
  rw [hs] at c1
  have c2 := Account_Total_ok hA (by rw [hsum]; omega)
  rw [hsum] at c2
  have c3 := Days_ok hA (by simp)
  rw [hsort] at c3
  have c4 := Account_Refund_ok hA d n (by rw [hs]; omega)
  rw [hr] at c4
  simp -implicitDefEqProofs (disch := omega) only [go_sem, Nat.reduceAdd, Nat.reduceMul, Nat.reduceSub, Nat.reduceBEq, Nat.reduceLeDiff, Nat.reduceLT, fn_transitlaw37_AccountNone, e6_1, w6_1, e6_3, w6_3, e6_5, w6_5, e6_7, w6_7, e6_9, w6_9, c6_10, e6_12, w6_12, e6_14, w6_14, e6_16, w6_16, c6_17, e6_19, w6_19, e6_21, w6_21, c6_22, c6_23, c6_24, c6_25, c6_26, c6_27, c6_28, c6_29, e0, eq_ptr_nil]
  refine callA c1 ?_
  rintro v N ⟨rfl, rfl⟩
  simp -implicitDefEqProofs (disch := omega) only [go_sem, Nat.reduceAdd, Nat.reduceMul, Nat.reduceSub, Nat.reduceBEq, Nat.reduceLeDiff, Nat.reduceLT, fn_transitlaw37_AccountNone, e6_1, w6_1, e6_3, w6_3, e6_5, w6_5, e6_7, w6_7, e6_9, w6_9, c6_10, e6_12, w6_12, e6_14, w6_14, e6_16, w6_16, c6_17, e6_19, w6_19, e6_21, w6_21, c6_22, c6_23, c6_24, c6_25, c6_26, c6_27, c6_28, c6_29, e0]
  refine callA c2 ?_
  rintro v N ⟨rfl, rfl⟩
  simp -implicitDefEqProofs (disch := omega) only [go_sem, Nat.reduceAdd, Nat.reduceMul, Nat.reduceSub, Nat.reduceBEq, Nat.reduceLeDiff, Nat.reduceLT, fn_transitlaw37_AccountNone, e6_1, w6_1, e6_3, w6_3, e6_5, w6_5, e6_7, w6_7, e6_9, w6_9, c6_10, e6_12, w6_12, e6_14, w6_14, e6_16, w6_16, c6_17, e6_19, w6_19, e6_21, w6_21, c6_22, c6_23, c6_24, c6_25, c6_26, c6_27, c6_28, c6_29, e0]
  refine callA c3 ?_
  rintro v N ⟨rfl, rfl⟩
  simp -implicitDefEqProofs (disch := omega) only [go_sem, Nat.reduceAdd, Nat.reduceMul, Nat.reduceSub, Nat.reduceBEq, Nat.reduceLeDiff, Nat.reduceLT, fn_transitlaw37_AccountNone, e6_1, w6_1, e6_3, w6_3, e6_5, w6_5, e6_7, w6_7, e6_9, w6_9, c6_10, e6_12, w6_12, e6_14, w6_14, e6_16, w6_16, c6_17, e6_19, w6_19, e6_21, w6_21, c6_22, c6_23, c6_24, c6_25, c6_26, c6_27, c6_28, c6_29, e0, l0, List.map_nil, List.length_nil]
  refine callA c4 ?_
  rintro v N ⟨rfl, hA2, _, _⟩
  simp -implicitDefEqProofs (disch := omega) only [go_sem, Nat.reduceAdd, Nat.reduceMul, Nat.reduceSub, Nat.reduceBEq, Nat.reduceLeDiff, Nat.reduceLT, fn_transitlaw37_AccountNone, e6_1, w6_1, e6_3, w6_3, e6_5, w6_5, e6_7, w6_7, e6_9, w6_9, c6_10, e6_12, w6_12, e6_14, w6_14, e6_16, w6_16, c6_17, e6_19, w6_19, e6_21, w6_21, c6_22, c6_23, c6_24, c6_25, c6_26, c6_27, c6_28, c6_29, e7]
  refine callA (exampleHolds_ok hA2.own) ?_
  rintro v N ⟨rfl, rfl⟩
  simp -implicitDefEqProofs (disch := omega) only [go_sem, Nat.reduceAdd, Nat.reduceMul, Nat.reduceSub, Nat.reduceBEq, Nat.reduceLeDiff, Nat.reduceLT, fn_transitlaw37_AccountNone, e6_1, w6_1, e6_3, w6_3, e6_5, w6_5, e6_7, w6_7, e6_9, w6_9, c6_10, e6_12, w6_12, e6_14, w6_14, e6_16, w6_16, c6_17, e6_19, w6_19, e6_21, w6_21, c6_22, c6_23, c6_24, c6_25, c6_26, c6_27, c6_28, c6_29]

end Go.Vm.C

