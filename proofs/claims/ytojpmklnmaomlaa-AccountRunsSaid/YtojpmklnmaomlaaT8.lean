/- Maps from days to amounts; contract: the sum of a map. -/
import Derived.Test.YtojpmklnmaomlaaT7

namespace Go.Vm.C
open Go.Vm
set_option maxHeartbeats 1000000
set_option maxRecDepth 10000
set_option linter.unusedSimpArgs false
set_option linter.unusedVariables false

/-! ### Maps from days to amounts -/
def dayMap (L : List (Int × Int)) : List (V × V) := L.map fun p => (.int .i64 p.1, .int .i64 p.2)
def getL : List (Int × Int) → Int → Option Int
  | [], _ => none
  | (k, v) :: L, d => if d = k then some v else getL L d
def setL : List (Int × Int) → Int → Int → List (Int × Int)
  | [], d, n => [(d, n)]
  | (k, v) :: L, d, n => if d = k then (d, n) :: L else (k, v) :: setL L d n
theorem keysOk_days (d : Int) : ∀ L, keysOk .int (.int .i64 d) (dayMap L) = true
  | [] => rfl
  | (k, v) :: L => by
    show ((cellEq .int (.int .i64 d) (.int .i64 k)).isSome && keysOk .int (.int .i64 d) (dayMap L)) = true
    rw [keysOk_days d L]
    rfl
theorem cell_day (a b : Int) : (cellEq .int (.int .i64 a) (.int .i64 b)).getD false = decide (a = b) := by simp [cellEq]
theorem mapGet_days (d : Int) : ∀ L, mapGet .int (.int .i64 d) (dayMap L) = (getL L d).map (V.int .i64)
  | [] => rfl
  | (k, v) :: L => by
    show (bif (cellEq .int (.int .i64 d) (.int .i64 k)).getD false then some (V.int .i64 v) else mapGet .int (.int .i64 d) (dayMap L)) = _
    rw [mapGet_days d L, cell_day, getL]
    by_cases h : d = k <;> simp [h]
theorem mapSet_days (d n : Int) : ∀ L, mapSet .int (.int .i64 d) (.int .i64 n) (dayMap L) = dayMap (setL L d n)
  | [] => rfl
  | (k, v) :: L => by
    show (bif (cellEq .int (.int .i64 d) (.int .i64 k)).getD false then ((V.int .i64 d, V.int .i64 n) :: dayMap L) else (V.int .i64 k, V.int .i64 v) :: mapSet .int (.int .i64 d) (.int .i64 n) (dayMap L)) = _
    rw [mapSet_days d n L, cell_day, setL]
    by_cases h : d = k <;> simp [h, dayMap]
theorem lookE_day (d : Int) (L : List (Int × Int)) : lookE .int (.int .i64 0) false (.int .i64 d) (dayMap L) = some (.int .i64 ((getL L d).getD 0)) := by
  simp only [lookE, lookupV, mapFind, isKey, cond_true, List.getElem?_cons_zero, keysOk_days, mapGet_days, cellsV]
  cases getL L d <;> rfl
theorem lookE_dayT (d : Int) (L : List (Int × Int)) : lookE .int (.int .i64 0) true (.int .i64 d) (dayMap L) = some (.tuple [.int .i64 ((getL L d).getD 0), .bool (getL L d).isSome]) := by
  simp only [lookE, lookupV, mapFind, isKey, cond_true, List.getElem?_cons_zero, keysOk_days, mapGet_days, cellsV]
  cases getL L d <;> rfl
theorem updE_day (d n : Int) (L : List (Int × Int)) : updE .int (.int .i64 d) (.int .i64 n) (dayMap L) = some (dayMap (setL L d n)) := by
  simp only [updE, isKey, keysOk_days, V.isPure, Bool.and_self, cond_true, mapSet_days]
theorem getL_set (d n e : Int) : ∀ L, getL (setL L d n) e = if e = d then some n else getL L e
  | [] => by simp [setL, getL]
  | (k, v) :: L => by
    rw [setL]
    split
    · rename_i h
      subst h
      simp only [getL]
      split <;> rfl
    · rename_i h
      simp only [getL, getL_set d n e L]
      by_cases h1 : e = k
      · subst h1
        simp [Ne.symm h]
      · simp [h1]
def sumL (L : List (Int × Int)) : Int := (L.map (·.2)).sum

/-! ### The sum of a map, in whatever order -/
theorem rep_i64 {w : World} {Γ : Env} {n : Int} {v : Value} (h : Rep w Γ (.int .i64 n) v) : v = .int .i64 n := by cases h; rfl
theorem good_later {w w' : World} {Γ : Env} {M : Mem} (h : Good w Γ M) (hb : Go.RowKit.Below w.heap.size w w') : Ext w Γ w' Γ ∧ Good w' Γ M := by
  have he : Ext w Γ w' Γ := ⟨fun b o hs => ⟨hs, hb.cell (p := ⟨b, o, none⟩) (h.s_lt hs)⟩, fun _ l hl => ⟨l, hl, Nat.le_refl _, fun _ => rfl, fun _ => rfl⟩, rfl, hb.mono h.base, fun _ _ _ h => h⟩
  refine ⟨he, h.len, fun i l B hl hB => (h.blk i l B hl hB).keep he (fun hv => hb.block _ (h.loc_lt hl hv)) (fun _ _ h => h), h.b0, h.inj, fun b o hs => ?_, Nat.le_trans h.base hb.size, h.tab_ext he⟩
  obtain ⟨v, hv⟩ := h.scell b o hs
  exact ⟨v, (hb.cell (p := ⟨b, o, none⟩) (h.s_lt hs)).trans hv⟩
theorem sum_vals {w : World} {Γ : Env} : ∀ {ents : List MapEntry} {L : List (Int × Int)}, ents.length = L.length →
    (∀ (i : Nat) (e : MapEntry) (kv : V × V), ents[i]? = some e → (dayMap L)[i]? = some kv → Rep w Γ kv.2 e.val) → (∀ x ∈ ents, ∃ v, x.val = .int .i64 v) ∧ (ents.map fun e => valOf e.val).sum = sumL L
  | [], [], _, _ => ⟨fun x h => by simp at h, rfl⟩
  | [], _ :: _, h, _ => by simp at h
  | _ :: _, [], h, _ => by simp at h
  | e :: ents, p :: L, hl, h => by
    obtain ⟨h1, h2⟩ := sum_vals (ents := ents) (L := L) (by simpa using hl) (fun i e' kv a b => h (i + 1) e' kv (by simpa using a) (by simpa [dayMap] using b))
    have h3 := h 0 e (.int .i64 p.1, .int .i64 p.2) rfl rfl
    have h4 : e.val = .int .i64 p.2 := rep_i64 h3
    refine ⟨fun x hx => ?_, ?_⟩
    · rcases List.mem_cons.1 hx with rfl | hx
      · exact ⟨_, h4⟩
      · exact h1 x hx
    · rw [List.map_cons, List.sum_cons, h2, h4, sumL, sumL, List.map_cons, List.sum_cons]; rfl
theorem account_sum_ok {M : Mem} {id mid : Nat} {rest : List V} {L : List (Int × Int)} (hM : M[id]? = some (.box (.map mid :: rest))) (hE : M[mid]? = some (.map (dayMap L))) (hs : -9223372036854775808 ≤ sumL L ∧ sumL L ≤ 9223372036854775807) :
    ACalls PR C.i_account_amounts_sum [.ptr id 0] M (fun v M' => v = .int .i64 (sumL L) ∧ M' = M) := by
  refine ⟨by kernel_rfl, ?_⟩
  intro w Γ cargs hg ⟨hsz, ha⟩
  have ra := ha 0 _ rfl
  have hargs : cargs = #[cargs.getD 0 Go.undef] := by
    apply Array.ext
    · simpa using hsz
    · intro j h1 h2
      simp at h2
      subst h2
      simp [Array.getD, h1]
  generalize cargs.getD 0 Go.undef = av at ra hargs
  subst hargs
  obtain ⟨la, hla, rfl⟩ : ∃ la, Γ.locs[id]? = some la ∧ av = .pointer (some ⟨la.b, 0, none⟩) := by
    cases ra with
    | ptr _ _ l hl _ _ => exact ⟨l, hl, rfl⟩
  obtain ⟨hbx, hlv, hnS, cc, T, hcc, hrep⟩ := hg.blk id la _ hla hM
  have r0 := hrep.2 0 _ rfl
  generalize hc0 : cc.getD 0 Go.undef = mv at r0
  obtain ⟨lm, hlm, rfl⟩ : ∃ lm, Γ.locs[mid]? = some lm ∧ mv = .map (some lm.b) := by
    cases r0 with
    | map _ l hl _ _ => exact ⟨l, hl, rfl⟩
  obtain ⟨_, _, _, ents, clock, hents, hesz, he1, he2⟩ := hg.blk mid lm _ hlm hE
  have hcell : w.cell? ⟨la.b, 0, none⟩ = some (.map (some lm.b)) := by
    have hlt : 0 < cc.size := by rw [hrep.1]; simp
    unfold World.cell?
    rw [hcc]
    simp only [Array.getD, hlt, dif_pos] at hc0
    simp [hlt, ← hc0]
  have hlen : ents.toList.length = L.length := by
    have : (dayMap L).length = L.length := by simp [dayMap]
    simpa [this] using hesz
  have hkv : ∀ (i : Nat) (e : MapEntry), ents.toList[i]? = some e → ∃ kv, (dayMap L)[i]? = some kv := fun i e h => by
    have h1 := (List.getElem?_eq_some_iff.1 h).1
    have h2 : (dayMap L).length = L.length := by simp [dayMap]
    exact ⟨(dayMap L)[i], by simp⟩
  obtain ⟨hv, hsum⟩ := sum_vals (w := w) (Γ := Γ) hlen (fun i e kv h1 h2 => (he1 i e kv (by simpa using h1) h2).2.2.2.1)
  have hold : ∀ x ∈ ents.toList, x.born < clock := fun x hx => by
    obtain ⟨i, hi⟩ := List.getElem?_of_mem hx
    obtain ⟨kv, hk⟩ := hkv i x hi
    exact (he1 i x kv (by simpa using hi) hk).2.2.2.2
  have hnd : (ents.toList.map (·.born)).Nodup := by
    refine List.pairwise_iff_getElem.2 ?_
    intro i j hi hj hij e
    rw [List.length_map] at hi hj
    rw [List.getElem_map, List.getElem_map] at e
    have := he2 i j ents.toList[i] ents.toList[j] (by simp) (by simp) e
    omega
  refine (Go.Proofs.Try.sum_in la.b lm.b ents clock w hcell hents hold hnd hv).mono ?_
  rintro e w' ⟨rfl, hbl⟩
  rw [hsum]
  have hw : Go.RowKit.wrap64 (sumL L) = sumL L := by unfold Go.RowKit.wrap64; omega
  rw [hw]
  obtain ⟨hx, hg'⟩ := good_later hg hbl
  exact ⟨_, _, Γ, M, rfl, ⟨rfl, rfl⟩, .int _ _, hg', hx⟩

end Go.Vm.C

