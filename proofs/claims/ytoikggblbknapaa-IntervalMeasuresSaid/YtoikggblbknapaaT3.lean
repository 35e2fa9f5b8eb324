/- How many integers a list has; contracts of the operations. -/
import Derived.Test.YtoikggblbknapaaT2

namespace Go.Vm.C
open Go.Vm
set_option maxHeartbeats 1000000
set_option maxRecDepth 10000
set_option linter.unusedSimpArgs false
set_option linter.unusedVariables false

/-! ### How many integers a list has -/
def meas : List (Int × Int) → Int
  | [] => 0
  | s :: l => (s.2 - s.1) + meas l
theorem meas_append : ∀ l m : List (Int × Int), meas (l ++ m) = meas l + meas m
  | [], m => by simp [meas]
  | s :: l, m => by rw [List.cons_append, meas, meas, meas_append l m]; omega
theorem meas_reverse : ∀ l : List (Int × Int), meas l.reverse = meas l
  | [] => rfl
  | s :: l => by rw [List.reverse_cons, meas_append, meas_reverse l, meas, meas, meas]; omega
theorem meas_nonneg : ∀ {l : List (Int × Int)}, (∀ s ∈ l, s.1 < s.2) → 0 ≤ meas l
  | [], _ => Int.le_refl _
  | s :: l, h => by
    have h1 := h s (by simp)
    have h2 := meas_nonneg (l := l) fun t ht => h t (by simp [ht])
    rw [meas]; omega
theorem meas_take {l : List (Int × Int)} (h : ∀ s ∈ l, s.1 < s.2) (i : Nat) : meas (l.take i) ≤ meas l := by
  have h1 := meas_append (l.take i) (l.drop i)
  rw [List.take_append_drop] at h1
  have h2 := meas_nonneg (l := l.drop i) fun t ht => h t (List.mem_of_mem_drop ht)
  omega
theorem meas_succ {l : List (Int × Int)} {i : Nat} {s : Int × Int} (h : l[i]? = some s) : meas (l.take (i + 1)) = meas (l.take i) + (s.2 - s.1) := by
  rw [List.take_add_one, h, meas_append]
  simp [meas]
def msum (e : List Int) (p : Int → Bool) : Nat → Int
  | 0 => 0
  | n + 1 => msum e p n + if p (e.getD n 0) = true then e.getD (n + 1) 0 - e.getD n 0 else 0
theorem meas_bldR (e : List Int) (p : Int → Bool) : ∀ n, meas (bldR e p n) = msum e p n
  | 0 => rfl
  | n + 1 => by
    have ih := meas_bldR e p n
    rw [bldR, msum]
    unfold bstep
    split
    · split
      · rename_i s r hr
        rw [hr, meas] at ih
        split
        · rename_i hs
          rw [meas]
          simp only
          omega
        · rw [meas, meas]
          simp only
          omega
      · rename_i hr
        rw [hr, meas] at ih
        rw [meas, meas]
        simp only
        omega
    · omega
theorem meas_bld (e : List Int) (p : Int → Bool) : meas (bld e p) = msum e p (e.length - 1) := by
  rw [bld, meas_reverse, meas_bldR]
theorem msum_le {e : List Int} (p : Int → Bool) (he : e.Pairwise (· < ·)) : ∀ n, n < e.length → msum e p n ≤ e.getD n 0 - e.getD 0 0
  | 0, _ => by simp [msum]
  | n + 1, h => by
    have ih := msum_le p he n (by omega)
    have hp := List.pairwise_iff_getElem.1 he n (n + 1) (by omega) h (by omega)
    have g0 : e.getD n 0 = e[n] := by simp [List.getD, show n < e.length by omega]
    have g1 : e.getD (n + 1) 0 = e[n + 1] := by simp [List.getD, h]
    rw [msum]
    split <;> omega
theorem meas_bound {e : List Int} {p : Int → Bool} {lo hi : Int} (he : e.Pairwise (· < ·)) (h : ∀ z ∈ e, lo ≤ z ∧ z ≤ hi) (hlh : lo ≤ hi) : meas (bld e p) ≤ hi - lo := by
  rw [meas_bld]
  cases hl : e with
  | nil => simp [msum]; omega
  | cons a r =>
    rw [← hl]
    have hpos : 0 < e.length := by rw [hl]; simp
    have h1 := msum_le p he (e.length - 1) (by omega)
    have g0 : e.getD 0 0 = e[0] := by simp [List.getD, hpos]
    have g1 : e.getD (e.length - 1) 0 = e[e.length - 1] := by rw [List.getD, List.getElem?_eq_getElem (by omega)]; rfl
    have h2 := h e[0] (by simp)
    have h3 := h e[e.length - 1] (by simp)
    omega
theorem bldR_ends {e : List Int} {p : Int → Bool} : ∀ n, n < e.length → ∀ s ∈ bldR e p n, s.1 ∈ e ∧ s.2 ∈ e
  | 0, _, s, hs => by simp [bldR] at hs
  | n + 1, h, s, hs => by
    have ih := bldR_ends (e := e) (p := p) n (by omega)
    have g0 : e.getD n 0 ∈ e := by rw [List.getD, List.getElem?_eq_getElem (show n < e.length by omega)]; exact List.getElem_mem _
    have g1 : e.getD (n + 1) 0 ∈ e := by rw [List.getD, List.getElem?_eq_getElem h]; exact List.getElem_mem _
    rw [bldR] at hs
    unfold bstep at hs
    split at hs
    · split at hs
      · rename_i t r hr
        rw [hr] at ih
        split at hs
        · rcases List.mem_cons.1 hs with rfl | hs
          · exact ⟨(ih t (by simp)).1, g1⟩
          · exact ih s (by simp [hs])
        · rcases List.mem_cons.1 hs with rfl | hs
          · exact ⟨g0, g1⟩
          · exact ih s hs
      · simp at hs; subst hs; exact ⟨g0, g1⟩
    · exact ih s hs
theorem bld_ends {e : List Int} {p : Int → Bool} {s : Int × Int} (h : s ∈ bld e p) : s.1 ∈ e ∧ s.2 ∈ e := by
  cases hl : e with
  | nil => subst hl; simp [bld, bldR] at h
  | cons a r =>
    rw [← hl]
    refine bldR_ends (e.length - 1) ?_ s (by simpa [bld] using h)
    rw [hl]; simp
theorem mem_rawE {l : List (Int × Int)} {z : Int} (h : z ∈ rawE l) : ∃ s ∈ l, z = s.1 ∨ z = s.2 := by
  obtain ⟨s, hs, hz⟩ := List.mem_flatMap.1 h
  refine ⟨s, hs, ?_⟩
  split at hz
  · simpa using hz
  · simp at hz
/-- All ends of a list are from lo to hi. -/
def Ends (lo hi : Int) (l : List (Int × Int)) : Prop := ∀ s ∈ l, (lo ≤ s.1 ∧ s.1 ≤ hi) ∧ lo ≤ s.2 ∧ s.2 ≤ hi
theorem rawE_in {lo hi : Int} {l : List (Int × Int)} (h : Ends lo hi l) {z : Int} (hz : z ∈ rawE l) : lo ≤ z ∧ z ≤ hi := by
  obtain ⟨s, hs, h1⟩ := mem_rawE hz
  have := h s hs
  rcases h1 with rfl | rfl
  · exact this.1
  · exact this.2
theorem cmb_in {lo hi : Int} {a b : List (Int × Int)} (ha : Ends lo hi a) (hb : Ends lo hi b) {z : Int} (hz : z ∈ sortU (rawE a ++ rawE b)) : lo ≤ z ∧ z ≤ hi := by
  rw [mem_sortU, List.mem_append] at hz
  rcases hz with hz | hz
  · exact rawE_in ha hz
  · exact rawE_in hb hz
theorem nrm_in {lo hi : Int} {a : List (Int × Int)} (ha : Ends lo hi a) {z : Int} (hz : z ∈ sortU (rawE a)) : lo ≤ z ∧ z ≤ hi := by
  rw [mem_sortU] at hz
  exact rawE_in ha hz
theorem Ends.cmb {lo hi : Int} {a b : List (Int × Int)} (ha : Ends lo hi a) (hb : Ends lo hi b) (kind : Int) : Ends lo hi (cmb kind a b) := fun _ hs =>
  ⟨cmb_in ha hb (bld_ends hs).1, cmb_in ha hb (bld_ends hs).2⟩
theorem Ends.nrm {lo hi : Int} {a : List (Int × Int)} (ha : Ends lo hi a) : Ends lo hi (nrm a) := fun _ hs =>
  ⟨nrm_in ha (bld_ends hs).1, nrm_in ha (bld_ends hs).2⟩
theorem meas_cmb {lo hi : Int} {a b : List (Int × Int)} (ha : Ends lo hi a) (hb : Ends lo hi b) (h : lo ≤ hi) (kind : Int) : meas (cmb kind a b) ≤ hi - lo :=
  meas_bound (sortU_sorted _) (fun _ hz => cmb_in ha hb hz) h
theorem meas_nrm {lo hi : Int} {a : List (Int × Int)} (ha : Ends lo hi a) (h : lo ≤ hi) : meas (nrm a) ≤ hi - lo :=
  meas_bound (sortU_sorted _) (fun _ hz => nrm_in ha hz) h
theorem nf_cmb (kind : Int) (a b : List (Int × Int)) : NF (cmb kind a b) := (bld_ok (sortU_sorted _) (stable_cmb kind a b)).1.nf
theorem nf_nrm (a : List (Int × Int)) : NF (nrm a) := (bld_ok (sortU_sorted _) (stable_nrm a)).1.nf
theorem NF.lt {l : List (Int × Int)} (h : NF l) : ∀ s ∈ l, s.1 < s.2 := fun s hs => by
  obtain ⟨i, hi⟩ := List.getElem?_of_mem hs
  exact h.1 i s hi
theorem nrm_cmb (kind : Int) (a b : List (Int × Int)) : nrm (cmb kind a b) = cmb kind a b :=
  bld_same (sortU_sorted _) (stable_nrm _) (sortU_sorted _) (stable_cmb kind a b) fun x => inS_cmb kind a b x
theorem nrm_nrm (a : List (Int × Int)) : nrm (nrm a) = nrm a :=
  bld_same (sortU_sorted _) (stable_nrm _) (sortU_sorted _) (stable_nrm a) fun x => inS_nrm a x
theorem kop_comm (kind : Int) (h : kind = 0 ∨ kind = 1) (p q : Bool) : kop kind p q = kop kind q p := by
  unfold kop
  rcases h with rfl | rfl <;> cases p <;> cases q <;> rfl
theorem cmb_comm (kind : Int) (h : kind = 0 ∨ kind = 1) (a b : List (Int × Int)) : cmb kind b a = cmb kind a b :=
  bld_same (sortU_sorted _) (stable_cmb kind b a) (sortU_sorted _) (stable_cmb kind a b) fun x => kop_comm kind h _ _

theorem msum_add {e : List Int} {p q p' q' : Int → Bool} (h : ∀ x, (if p x = true then (1 : Int) else 0) + (if q x = true then 1 else 0) = (if p' x = true then 1 else 0) + (if q' x = true then 1 else 0)) : ∀ n, msum e p n + msum e q n = msum e p' n + msum e q' n
  | 0 => rfl
  | n + 1 => by
    have ih := msum_add (e := e) h n
    have := h (e.getD n 0)
    simp only [msum]
    cases h1 : p (e.getD n 0) <;> cases h2 : q (e.getD n 0) <;> cases h3 : p' (e.getD n 0) <;> cases h4 : q' (e.getD n 0) <;> simp only [h1, h2, h3, h4, if_true, Bool.false_eq_true, if_false] at this ⊢ <;> omega
theorem msum_false (e : List Int) : ∀ n, msum e (fun _ => false) n = 0
  | 0 => rfl
  | n + 1 => by simp [msum, msum_false e n]
/-- All five lists from the same ends. -/
theorem meas_laws (a b : List (Int × Int)) : meas (cmb 0 a b) + meas (cmb 1 a b) = meas (nrm a) + meas (nrm b) ∧ meas (cmb 1 a b) + meas (cmb 2 a b) = meas (nrm a) := by
  obtain ⟨h1, h2, h3, _⟩ := refEnds_ok a [] List.Pairwise.nil
  obtain ⟨h4, h5, h6, _⟩ := refEnds_ok b _ h1
  have na : nrm a = bld (refEnds b (refEnds a [])) (inS a) := bld_same (sortU_sorted _) (stable_nrm a) h4 (stable_in fun z hz => h5 z (h3 z hz)) fun _ => rfl
  have nb : nrm b = bld (refEnds b (refEnds a [])) (inS b) := bld_same (sortU_sorted _) (stable_nrm b) h4 (stable_in fun z hz => h6 z hz) fun _ => rfl
  rw [cmb_ref, cmb_ref, cmb_ref, na, nb]
  simp only [refCmb, meas_bld]
  generalize refEnds b (refEnds a []) = e
  constructor
  · refine msum_add (fun x => ?_) _
    cases inS a x <;> cases inS b x <;> simp [kop]
  · have := msum_add (e := e) (p := fun x => kop 1 (inS a x) (inS b x)) (q := fun x => kop 2 (inS a x) (inS b x)) (p' := inS a) (q' := fun _ => false) (fun x => by cases inS a x <;> cases inS b x <;> simp [kop]) (e.length - 1)
    rw [msum_false] at this
    omega

/-! ### Numbers modulo 2^64 -/
theorem u64_wrap (n : Int) : IntKind.u64.wrap n = n % 18446744073709551616 := by
  have e : (2 : Int) ^ IntKind.u64.bits = 18446744073709551616 := by decide
  unfold IntKind.wrap
  simp only [e, show IntKind.u64.signed = false from rfl, Bool.false_and]
  simp

theorem i64_wrap (n : Int) : IntKind.i64.wrap n = if n % 18446744073709551616 ≥ 9223372036854775808 then n % 18446744073709551616 - 18446744073709551616 else n % 18446744073709551616 := by
  have e : (2 : Int) ^ IntKind.i64.bits = 18446744073709551616 := by decide
  have e' : (2 : Int) ^ (IntKind.i64.bits - 1) = 9223372036854775808 := by decide
  unfold IntKind.wrap
  simp only [e, e', show IntKind.i64.signed = true from rfl, Bool.true_and, decide_eq_true_eq]

/-! ### Contracts: the operations -/
theorem allE_one (l : List (Int × Int)) (c : Cap) : allE [(l, c)] = rawE l := by simp [allE]
theorem allE_two (a b : List (Int × Int)) (c d : Cap) : allE [(a, c), (b, d)] = rawE a ++ rawE b := by simp [allE]

theorem Normalize_1_ok {N : Mem} {id : Nat} (l : List (Int × Int)) (c : Cap) (x : Int) (hl : l.length ≤ maxLen) (hN : N[id]? = some (.box [.slice (l.map spRow) c])) (hU : memUnder N.length N = true) :
    ACalls PR i_interval_Normalize_1 [.int .i64 x, .ptr id 0] N (fun v M' => v = .bool (inS l x) ∧ M' = N) := by
  refine acalls_pop fn_interval_Normalize_1_ok (by simp [fn_interval_Normalize_1]) ?_
  simp -implicitDefEqProofs (disch := omega) only [go_sem, Nat.reduceAdd, Nat.reduceMul, Nat.reduceSub, Nat.reduceBEq, Nat.reduceLeDiff, Nat.reduceLT, fn_interval_Normalize_1, e30_1, w30_1, e30_3, w30_3, c30_4, c30_5, hN]
  first | refine callD (interval_Contains_ok l c x hl) ?_ | refine callQD (interval_Contains_ok l c x hl) ?_
  simp -implicitDefEqProofs (disch := omega) only [go_sem, Nat.reduceAdd, Nat.reduceMul, Nat.reduceSub, Nat.reduceBEq, Nat.reduceLeDiff, Nat.reduceLT, fn_interval_Normalize_1, e30_1, w30_1, e30_3, w30_3, c30_4, c30_5, hU, List.take_length]

theorem Union_1_ok {N : Mem} {i j : Nat} (a b : List (Int × Int)) (c d : Cap) (x : Int) (ha : a.length ≤ maxLen) (hb : b.length ≤ maxLen) (hi : N[i]? = some (.box [.slice (a.map spRow) c])) (hj : N[j]? = some (.box [.slice (b.map spRow) d])) (hU : memUnder N.length N = true) :
    ACalls PR i_interval_Union_1 [.int .i64 x, .ptr i 0, .ptr j 0] N (fun v M' => v = .bool (kop 0 (inS a x) (inS b x)) ∧ M' = N) := by
  refine acalls_pop fn_interval_Union_1_ok (by simp [fn_interval_Union_1]) ?_
  simp -implicitDefEqProofs (disch := omega) only [go_sem, Nat.reduceAdd, Nat.reduceMul, Nat.reduceSub, Nat.reduceBEq, Nat.reduceLeDiff, Nat.reduceLT, fn_interval_Union_1, e33_1, w33_1, e33_3, w33_3, c33_4, c33_5, hi]
  first | refine callD (interval_Contains_ok a c x ha) ?_ | refine callQD (interval_Contains_ok a c x ha) ?_
  simp -implicitDefEqProofs (disch := omega) only [go_sem, Nat.reduceAdd, Nat.reduceMul, Nat.reduceSub, Nat.reduceBEq, Nat.reduceLeDiff, Nat.reduceLT, fn_interval_Union_1, e33_1, w33_1, e33_3, w33_3, c33_4, c33_5, hj]
  refine ifB (fun h => ?_) (fun h => ?_)
  · simp -implicitDefEqProofs (disch := omega) only [go_sem, Nat.reduceAdd, Nat.reduceMul, Nat.reduceSub, Nat.reduceBEq, Nat.reduceLeDiff, Nat.reduceLT, fn_interval_Union_1, e33_1, w33_1, e33_3, w33_3, c33_4, c33_5, hU, List.take_length]
    simp [kop, h]
  simp -implicitDefEqProofs (disch := omega) only [go_sem, Nat.reduceAdd, Nat.reduceMul, Nat.reduceSub, Nat.reduceBEq, Nat.reduceLeDiff, Nat.reduceLT, fn_interval_Union_1, e33_1, w33_1, e33_3, w33_3, c33_4, c33_5, hj]
  first | refine callD (interval_Contains_ok b d x hb) ?_ | refine callQD (interval_Contains_ok b d x hb) ?_
  simp -implicitDefEqProofs (disch := omega) only [go_sem, Nat.reduceAdd, Nat.reduceMul, Nat.reduceSub, Nat.reduceBEq, Nat.reduceLeDiff, Nat.reduceLT, fn_interval_Union_1, e33_1, w33_1, e33_3, w33_3, c33_4, c33_5, hU, List.take_length]
  simp [kop, h]

theorem Intersect_1_ok {N : Mem} {i j : Nat} (a b : List (Int × Int)) (c d : Cap) (x : Int) (ha : a.length ≤ maxLen) (hb : b.length ≤ maxLen) (hi : N[i]? = some (.box [.slice (a.map spRow) c])) (hj : N[j]? = some (.box [.slice (b.map spRow) d])) (hU : memUnder N.length N = true) :
    ACalls PR i_interval_Intersect_1 [.int .i64 x, .ptr i 0, .ptr j 0] N (fun v M' => v = .bool (kop 1 (inS a x) (inS b x)) ∧ M' = N) := by
  refine acalls_pop fn_interval_Intersect_1_ok (by simp [fn_interval_Intersect_1]) ?_
  simp -implicitDefEqProofs (disch := omega) only [go_sem, Nat.reduceAdd, Nat.reduceMul, Nat.reduceSub, Nat.reduceBEq, Nat.reduceLeDiff, Nat.reduceLT, fn_interval_Intersect_1, e34_1, w34_1, e34_3, w34_3, c34_4, c34_5, hi]
  first | refine callD (interval_Contains_ok a c x ha) ?_ | refine callQD (interval_Contains_ok a c x ha) ?_
  simp -implicitDefEqProofs (disch := omega) only [go_sem, Nat.reduceAdd, Nat.reduceMul, Nat.reduceSub, Nat.reduceBEq, Nat.reduceLeDiff, Nat.reduceLT, fn_interval_Intersect_1, e34_1, w34_1, e34_3, w34_3, c34_4, c34_5, hj]
  refine ifB (fun h => ?_) (fun h => ?_)
  rotate_left
  · simp -implicitDefEqProofs (disch := omega) only [go_sem, Nat.reduceAdd, Nat.reduceMul, Nat.reduceSub, Nat.reduceBEq, Nat.reduceLeDiff, Nat.reduceLT, fn_interval_Intersect_1, e34_1, w34_1, e34_3, w34_3, c34_4, c34_5, hU, List.take_length]
    simp [kop, h]
  simp -implicitDefEqProofs (disch := omega) only [go_sem, Nat.reduceAdd, Nat.reduceMul, Nat.reduceSub, Nat.reduceBEq, Nat.reduceLeDiff, Nat.reduceLT, fn_interval_Intersect_1, e34_1, w34_1, e34_3, w34_3, c34_4, c34_5, hj]
  first | refine callD (interval_Contains_ok b d x hb) ?_ | refine callQD (interval_Contains_ok b d x hb) ?_
  simp -implicitDefEqProofs (disch := omega) only [go_sem, Nat.reduceAdd, Nat.reduceMul, Nat.reduceSub, Nat.reduceBEq, Nat.reduceLeDiff, Nat.reduceLT, fn_interval_Intersect_1, e34_1, w34_1, e34_3, w34_3, c34_4, c34_5, hU, List.take_length]
  simp [kop, h]

theorem Subtract_1_ok {N : Mem} {i j : Nat} (a b : List (Int × Int)) (c d : Cap) (x : Int) (ha : a.length ≤ maxLen) (hb : b.length ≤ maxLen) (hi : N[i]? = some (.box [.slice (a.map spRow) c])) (hj : N[j]? = some (.box [.slice (b.map spRow) d])) (hU : memUnder N.length N = true) :
    ACalls PR i_interval_Subtract_1 [.int .i64 x, .ptr i 0, .ptr j 0] N (fun v M' => v = .bool (kop 2 (inS a x) (inS b x)) ∧ M' = N) := by
  refine acalls_pop fn_interval_Subtract_1_ok (by simp [fn_interval_Subtract_1]) ?_
  simp -implicitDefEqProofs (disch := omega) only [go_sem, Nat.reduceAdd, Nat.reduceMul, Nat.reduceSub, Nat.reduceBEq, Nat.reduceLeDiff, Nat.reduceLT, fn_interval_Subtract_1, e35_1, w35_1, e35_3, w35_3, c35_4, c35_5, hi]
  first | refine callD (interval_Contains_ok a c x ha) ?_ | refine callQD (interval_Contains_ok a c x ha) ?_
  simp -implicitDefEqProofs (disch := omega) only [go_sem, Nat.reduceAdd, Nat.reduceMul, Nat.reduceSub, Nat.reduceBEq, Nat.reduceLeDiff, Nat.reduceLT, fn_interval_Subtract_1, e35_1, w35_1, e35_3, w35_3, c35_4, c35_5, hj]
  refine ifB (fun h => ?_) (fun h => ?_)
  rotate_left
  · simp -implicitDefEqProofs (disch := omega) only [go_sem, Nat.reduceAdd, Nat.reduceMul, Nat.reduceSub, Nat.reduceBEq, Nat.reduceLeDiff, Nat.reduceLT, fn_interval_Subtract_1, e35_1, w35_1, e35_3, w35_3, c35_4, c35_5, hU, List.take_length]
    simp [kop, h]
  simp -implicitDefEqProofs (disch := omega) only [go_sem, Nat.reduceAdd, Nat.reduceMul, Nat.reduceSub, Nat.reduceBEq, Nat.reduceLeDiff, Nat.reduceLT, fn_interval_Subtract_1, e35_1, w35_1, e35_3, w35_3, c35_4, c35_5, hj]
  first | refine callD (interval_Contains_ok b d x hb) ?_ | refine callQD (interval_Contains_ok b d x hb) ?_
  simp -implicitDefEqProofs (disch := omega) only [go_sem, Nat.reduceAdd, Nat.reduceMul, Nat.reduceSub, Nat.reduceBEq, Nat.reduceLeDiff, Nat.reduceLT, fn_interval_Subtract_1, e35_1, w35_1, e35_3, w35_3, c35_4, c35_5, hU, List.take_length]
  simp [kop, h]

theorem Normalize_ok (l : List (Int × Int)) (c : Cap) (hl : l.length ≤ 10000) : PCalls PR i_interval_Normalize [.slice (l.map spRow) c] (fun v => v = .slice ((nrm l).map spRow) .unk) := by
  have hm : maxLen = 9223372036854775807 := by rfl
  have hr := rawE_length l
  have hs := length_sortU (rawE l)
  have hb := bounds_ok [(l, c)] .full (by simp) (by simp; omega) (by rw [allE_one]; omega)
  rw [allE_one] at hb
  simp only [List.map_cons, List.map_nil, lsRow] at hb
  refine acalls_pop fn_interval_Normalize_ok (by simp [fn_interval_Normalize]) ?_
  simp -implicitDefEqProofs (disch := omega) only [go_sem, Nat.reduceAdd, Nat.reduceMul, Nat.reduceSub, Nat.reduceBEq, Nat.reduceLeDiff, Nat.reduceLT, fn_interval_Normalize, e17_1, w17_1, e17_3, w17_3, c17_4, c17_5]
  first | refine callD (hb) ?_ | refine callQD (hb) ?_
  simp -implicitDefEqProofs (disch := omega) only [go_sem, Nat.reduceAdd, Nat.reduceMul, Nat.reduceSub, Nat.reduceBEq, Nat.reduceLeDiff, Nat.reduceLT, fn_interval_Normalize, e17_1, w17_1, e17_3, w17_3, c17_4, c17_5]
  refine callA (build_ok (M := [.box [.slice (l.map spRow) c]]) rfl _ _ (inS l) _ _ (by omega) ?_) ?_
  · rintro x _ ⟨rows, ver, rfl⟩
    exact Normalize_1_ok l c x (by omega) rfl rfl
  rintro v N ⟨rfl, rfl⟩
  simp -implicitDefEqProofs (disch := omega) only [go_sem, Nat.reduceAdd, Nat.reduceMul, Nat.reduceSub, Nat.reduceBEq, Nat.reduceLeDiff, Nat.reduceLT, fn_interval_Normalize, e17_1, w17_1, e17_3, w17_3, c17_4, c17_5, nrm]

theorem Union_ok (a b : List (Int × Int)) (c d : Cap) (ha : a.length ≤ 10000) (hb : b.length ≤ 10000) : PCalls PR i_interval_Union [.slice (a.map spRow) c, .slice (b.map spRow) d] (fun v => v = .slice ((cmb 0 a b).map spRow) .unk) := by
  have hm : maxLen = 9223372036854775807 := by rfl
  have hr := rawE_length a
  have hr2 := rawE_length b
  have hs := length_sortU (rawE a ++ rawE b)
  rw [List.length_append] at hs
  have hb' := bounds_ok [(a, c), (b, d)] .full (by simp) (by simp; omega) (by rw [allE_two, List.length_append]; omega)
  rw [allE_two] at hb'
  simp only [List.map_cons, List.map_nil, lsRow] at hb'
  refine acalls_pop fn_interval_Union_ok (by simp [fn_interval_Union]) ?_
  simp -implicitDefEqProofs (disch := omega) only [go_sem, Nat.reduceAdd, Nat.reduceMul, Nat.reduceSub, Nat.reduceBEq, Nat.reduceLeDiff, Nat.reduceLT, fn_interval_Union, e19_1, w19_1, e19_3, w19_3, c19_4, c19_5]
  first | refine callD (hb') ?_ | refine callQD (hb') ?_
  simp -implicitDefEqProofs (disch := omega) only [go_sem, Nat.reduceAdd, Nat.reduceMul, Nat.reduceSub, Nat.reduceBEq, Nat.reduceLeDiff, Nat.reduceLT, fn_interval_Union, e19_1, w19_1, e19_3, w19_3, c19_4, c19_5]
  refine callA (build_ok (M := [.box [.slice (a.map spRow) c], .box [.slice (b.map spRow) d]]) rfl _ _ (fun x => kop 0 (inS a x) (inS b x)) _ _ (by omega) ?_) ?_
  · rintro x _ ⟨rows, ver, rfl⟩
    exact Union_1_ok a b c d x (by omega) (by omega) rfl rfl rfl
  rintro v N ⟨rfl, rfl⟩
  simp -implicitDefEqProofs (disch := omega) only [go_sem, Nat.reduceAdd, Nat.reduceMul, Nat.reduceSub, Nat.reduceBEq, Nat.reduceLeDiff, Nat.reduceLT, fn_interval_Union, e19_1, w19_1, e19_3, w19_3, c19_4, c19_5, cmb]

theorem Intersect_ok (a b : List (Int × Int)) (c d : Cap) (ha : a.length ≤ 10000) (hb : b.length ≤ 10000) : PCalls PR i_interval_Intersect [.slice (a.map spRow) c, .slice (b.map spRow) d] (fun v => v = .slice ((cmb 1 a b).map spRow) .unk) := by
  have hm : maxLen = 9223372036854775807 := by rfl
  have hr := rawE_length a
  have hr2 := rawE_length b
  have hs := length_sortU (rawE a ++ rawE b)
  rw [List.length_append] at hs
  have hb' := bounds_ok [(a, c), (b, d)] .full (by simp) (by simp; omega) (by rw [allE_two, List.length_append]; omega)
  rw [allE_two] at hb'
  simp only [List.map_cons, List.map_nil, lsRow] at hb'
  refine acalls_pop fn_interval_Intersect_ok (by simp [fn_interval_Intersect]) ?_
  simp -implicitDefEqProofs (disch := omega) only [go_sem, Nat.reduceAdd, Nat.reduceMul, Nat.reduceSub, Nat.reduceBEq, Nat.reduceLeDiff, Nat.reduceLT, fn_interval_Intersect, e20_1, w20_1, e20_3, w20_3, c20_4, c20_5]
  first | refine callD (hb') ?_ | refine callQD (hb') ?_
  simp -implicitDefEqProofs (disch := omega) only [go_sem, Nat.reduceAdd, Nat.reduceMul, Nat.reduceSub, Nat.reduceBEq, Nat.reduceLeDiff, Nat.reduceLT, fn_interval_Intersect, e20_1, w20_1, e20_3, w20_3, c20_4, c20_5]
  refine callA (build_ok (M := [.box [.slice (a.map spRow) c], .box [.slice (b.map spRow) d]]) rfl _ _ (fun x => kop 1 (inS a x) (inS b x)) _ _ (by omega) ?_) ?_
  · rintro x _ ⟨rows, ver, rfl⟩
    exact Intersect_1_ok a b c d x (by omega) (by omega) rfl rfl rfl
  rintro v N ⟨rfl, rfl⟩
  simp -implicitDefEqProofs (disch := omega) only [go_sem, Nat.reduceAdd, Nat.reduceMul, Nat.reduceSub, Nat.reduceBEq, Nat.reduceLeDiff, Nat.reduceLT, fn_interval_Intersect, e20_1, w20_1, e20_3, w20_3, c20_4, c20_5, cmb]

theorem Subtract_ok (a b : List (Int × Int)) (c d : Cap) (ha : a.length ≤ 10000) (hb : b.length ≤ 10000) : PCalls PR i_interval_Subtract [.slice (a.map spRow) c, .slice (b.map spRow) d] (fun v => v = .slice ((cmb 2 a b).map spRow) .unk) := by
  have hm : maxLen = 9223372036854775807 := by rfl
  have hr := rawE_length a
  have hr2 := rawE_length b
  have hs := length_sortU (rawE a ++ rawE b)
  rw [List.length_append] at hs
  have hb' := bounds_ok [(a, c), (b, d)] .full (by simp) (by simp; omega) (by rw [allE_two, List.length_append]; omega)
  rw [allE_two] at hb'
  simp only [List.map_cons, List.map_nil, lsRow] at hb'
  refine acalls_pop fn_interval_Subtract_ok (by simp [fn_interval_Subtract]) ?_
  simp -implicitDefEqProofs (disch := omega) only [go_sem, Nat.reduceAdd, Nat.reduceMul, Nat.reduceSub, Nat.reduceBEq, Nat.reduceLeDiff, Nat.reduceLT, fn_interval_Subtract, e21_1, w21_1, e21_3, w21_3, c21_4, c21_5]
  first | refine callD (hb') ?_ | refine callQD (hb') ?_
  simp -implicitDefEqProofs (disch := omega) only [go_sem, Nat.reduceAdd, Nat.reduceMul, Nat.reduceSub, Nat.reduceBEq, Nat.reduceLeDiff, Nat.reduceLT, fn_interval_Subtract, e21_1, w21_1, e21_3, w21_3, c21_4, c21_5]
  refine callA (build_ok (M := [.box [.slice (a.map spRow) c], .box [.slice (b.map spRow) d]]) rfl _ _ (fun x => kop 2 (inS a x) (inS b x)) _ _ (by omega) ?_) ?_
  · rintro x _ ⟨rows, ver, rfl⟩
    exact Subtract_1_ok a b c d x (by omega) (by omega) rfl rfl rfl
  rintro v N ⟨rfl, rfl⟩
  simp -implicitDefEqProofs (disch := omega) only [go_sem, Nat.reduceAdd, Nat.reduceMul, Nat.reduceSub, Nat.reduceBEq, Nat.reduceLeDiff, Nat.reduceLT, fn_interval_Subtract, e21_1, w21_1, e21_3, w21_3, c21_4, c21_5, cmb]

theorem Gaps_ok (l : List (Int × Int)) (c : Cap) (s : Int × Int) (hl : l.length ≤ 10000) : PCalls PR i_interval_Gaps [.slice (l.map spRow) c, .agg (spRow s)] (fun v => v = .slice ((cmb 2 [s] l).map spRow) .unk) := by
  have h := Subtract_ok [s] l .full c (by simp) hl
  simp only [List.map_cons, List.map_nil, spRow] at h
  refine acalls_pop fn_interval_Gaps_ok (by simp [fn_interval_Gaps]) ?_
  simp -implicitDefEqProofs (disch := omega) only [go_sem, Nat.reduceAdd, Nat.reduceMul, Nat.reduceSub, Nat.reduceBEq, Nat.reduceLeDiff, Nat.reduceLT, fn_interval_Gaps, e24_1, w24_1, e24_3, w24_3, c24_4, c24_5, spRow]
  first | refine callD (h) ?_ | refine callQD (h) ?_
  simp -implicitDefEqProofs (disch := omega) only [go_sem, Nat.reduceAdd, Nat.reduceMul, Nat.reduceSub, Nat.reduceBEq, Nat.reduceLeDiff, Nat.reduceLT, fn_interval_Gaps, e24_1, w24_1, e24_3, w24_3, c24_4, c24_5]

/-- The number of integers, or none if it is too great. -/
def lenRes (l : List (Int × Int)) : Int × Bool := if 9223372036854775807 < meas (nrm l) then (0, false) else (meas (nrm l), true)
def lenV2 (r : Int × Bool) : V := .tuple [.int .i64 r.1, .bool r.2]
theorem Length_ok (l : List (Int × Int)) (c : Cap) (hl : l.length ≤ 1000) (hE : Ends (-9223372036854775808) 9223372036854775807 l) : PCalls PR i_interval_Length [.slice (l.map spRow) c] (fun v => v = lenV2 (lenRes l)) := by
  have hlen := nrm_length l
  have hlt := (nf_nrm l).lt
  have hin := hE.nrm
  have h0 := meas_nonneg hlt
  refine acalls_pop fn_interval_Length_ok (by simp [fn_interval_Length]) ?_
  simp -implicitDefEqProofs (disch := omega) only [go_sem, Nat.reduceAdd, Nat.reduceMul, Nat.reduceSub, Nat.reduceBEq, Nat.reduceLeDiff, Nat.reduceLT, fn_interval_Length, e22_1, w22_1, e22_3, w22_3, e22_5, w22_5, e22_7, w22_7, c22_8, e22_10, w22_10, e22_12, w22_12, e22_14, w22_14, c22_15, e22_17, w22_17, e22_19, w22_19, c22_20, c22_21, c22_22, c22_23, e22_25, w22_25, c22_26, c22_27, c22_28, c22_29, c22_30, c22_31, e22_33, w22_33, c22_34, c22_35, c22_36, c22_37]
  first | refine callD (Normalize_ok l c (by omega)) ?_ | refine callQD (Normalize_ok l c (by omega)) ?_
  unfold lenRes
  generalize nrm l = n at *
  simp -implicitDefEqProofs (disch := omega) only [go_sem, Nat.reduceAdd, Nat.reduceMul, Nat.reduceSub, Nat.reduceBEq, Nat.reduceLeDiff, Nat.reduceLT, fn_interval_Length, e22_1, w22_1, e22_3, w22_3, e22_5, w22_5, e22_7, w22_7, c22_8, e22_10, w22_10, e22_12, w22_12, e22_14, w22_14, c22_15, e22_17, w22_17, e22_19, w22_19, c22_20, c22_21, c22_22, c22_23, e22_25, w22_25, c22_26, c22_27, c22_28, c22_29, c22_30, c22_31, e22_33, w22_33, c22_34, c22_35, c22_36, c22_37]
  refine wpC_forL n (fun i vs M => meas (n.take i) ≤ 9223372036854775807 ∧ vs = [.int .u64 (meas (n.take i)), .slice (n.map spRow) .unk, .int .i64 n.length, .int .i64 i] ∧ M = []) ⟨by simp [meas], rfl, rfl⟩ ?_ ?_
  · rintro i s vs M hs hi hd ⟨hsum, rfl, rfl⟩
    have hs1 := hlt s (List.mem_of_getElem? hs)
    have hs2 := hin s (List.mem_of_getElem? hs)
    have h1 := meas_succ hs
    have h2 := meas_take hlt (i + 1)
    have h3 := meas_nonneg (l := n.take i) fun t ht => hlt t (List.mem_of_mem_take ht)
    simp -implicitDefEqProofs (disch := omega) only [go_sem, Nat.reduceAdd, Nat.reduceMul, Nat.reduceSub, Nat.reduceBEq, Nat.reduceLeDiff, Nat.reduceLT, fn_interval_Length, e22_1, w22_1, e22_3, w22_3, e22_5, w22_5, e22_7, w22_7, c22_8, e22_10, w22_10, e22_12, w22_12, e22_14, w22_14, c22_15, e22_17, w22_17, e22_19, w22_19, c22_20, c22_21, c22_22, c22_23, e22_25, w22_25, c22_26, c22_27, c22_28, c22_29, c22_30, c22_31, e22_33, w22_33, c22_34, c22_35, c22_36, c22_37, hd, hs, spRow, u64_wrap]
    refine ifD (fun g => ?_) (fun g => ?_)
    · simp -implicitDefEqProofs (disch := omega) only [go_sem, Nat.reduceAdd, Nat.reduceMul, Nat.reduceSub, Nat.reduceBEq, Nat.reduceLeDiff, Nat.reduceLT, fn_interval_Length, e22_1, w22_1, e22_3, w22_3, e22_5, w22_5, e22_7, w22_7, c22_8, e22_10, w22_10, e22_12, w22_12, e22_14, w22_14, c22_15, e22_17, w22_17, e22_19, w22_19, c22_20, c22_21, c22_22, c22_23, e22_25, w22_25, c22_26, c22_27, c22_28, c22_29, c22_30, c22_31, e22_33, w22_33, c22_34, c22_35, c22_36, c22_37]
      rw [if_pos (by omega)]
      rfl
    simp -implicitDefEqProofs (disch := omega) only [go_sem, Nat.reduceAdd, Nat.reduceMul, Nat.reduceSub, Nat.reduceBEq, Nat.reduceLeDiff, Nat.reduceLT, fn_interval_Length, e22_1, w22_1, e22_3, w22_3, e22_5, w22_5, e22_7, w22_7, c22_8, e22_10, w22_10, e22_12, w22_12, e22_14, w22_14, c22_15, e22_17, w22_17, e22_19, w22_19, c22_20, c22_21, c22_22, c22_23, e22_25, w22_25, c22_26, c22_27, c22_28, c22_29, c22_30, c22_31, e22_33, w22_33, c22_34, c22_35, c22_36, c22_37, u64_wrap]
    have e : (meas (n.take i) + (s.2 % 18446744073709551616 - s.1 % 18446744073709551616) % 18446744073709551616) % 18446744073709551616 = meas (n.take (i + 1)) := by omega
    rw [e]
    refine ifD (fun g2 => ?_) (fun g2 => ?_)
    · simp -implicitDefEqProofs (disch := omega) only [go_sem, Nat.reduceAdd, Nat.reduceMul, Nat.reduceSub, Nat.reduceBEq, Nat.reduceLeDiff, Nat.reduceLT, fn_interval_Length, e22_1, w22_1, e22_3, w22_3, e22_5, w22_5, e22_7, w22_7, c22_8, e22_10, w22_10, e22_12, w22_12, e22_14, w22_14, c22_15, e22_17, w22_17, e22_19, w22_19, c22_20, c22_21, c22_22, c22_23, e22_25, w22_25, c22_26, c22_27, c22_28, c22_29, c22_30, c22_31, e22_33, w22_33, c22_34, c22_35, c22_36, c22_37]
      rw [if_pos (by omega)]
      rfl
    simp -implicitDefEqProofs (disch := omega) only [go_sem, Nat.reduceAdd, Nat.reduceMul, Nat.reduceSub, Nat.reduceBEq, Nat.reduceLeDiff, Nat.reduceLT, fn_interval_Length, e22_1, w22_1, e22_3, w22_3, e22_5, w22_5, e22_7, w22_7, c22_8, e22_10, w22_10, e22_12, w22_12, e22_14, w22_14, c22_15, e22_17, w22_17, e22_19, w22_19, c22_20, c22_21, c22_22, c22_23, e22_25, w22_25, c22_26, c22_27, c22_28, c22_29, c22_30, c22_31, e22_33, w22_33, c22_34, c22_35, c22_36, c22_37, u64_wrap]
    rw [e]
    exact next_pop hi rfl ⟨by omega, rfl, rfl⟩
  · rintro vs M ⟨hsum, rfl, rfl⟩
    rw [List.take_length] at hsum
    simp -implicitDefEqProofs (disch := omega) only [go_sem, Nat.reduceAdd, Nat.reduceMul, Nat.reduceSub, Nat.reduceBEq, Nat.reduceLeDiff, Nat.reduceLT, fn_interval_Length, e22_1, w22_1, e22_3, w22_3, e22_5, w22_5, e22_7, w22_7, c22_8, e22_10, w22_10, e22_12, w22_12, e22_14, w22_14, c22_15, e22_17, w22_17, e22_19, w22_19, c22_20, c22_21, c22_22, c22_23, e22_25, w22_25, c22_26, c22_27, c22_28, c22_29, c22_30, c22_31, e22_33, w22_33, c22_34, c22_35, c22_36, c22_37, dec_irrefl, List.take_length]
    rw [if_neg (by omega)]
    rfl

theorem transitref08_Length_ok (l : List (Int × Int)) (c : Cap) (hl : l.length ≤ 1000) (hE : Ends (-9223372036854775808) 9223372036854775807 l) : PCalls PR i_transitref08_Length [.slice (l.map spRow) c] (fun v => v = lenV2 (lenRes l)) := by
  have hlen := nrm_length l
  have hlt := (nf_nrm l).lt
  have hin := hE.nrm
  have h0 := meas_nonneg hlt
  have hmax := meas_nrm hE (by omega)
  have hc := transitref08_Combine_ok l [] c .nil 0 hl (by simp)
  rw [← nrm_ref] at hc
  simp only [List.map_nil] at hc
  refine acalls_pop fn_transitref08_Length_ok (by simp [fn_transitref08_Length]) ?_
  simp -implicitDefEqProofs (disch := omega) only [go_sem, Nat.reduceAdd, Nat.reduceMul, Nat.reduceSub, Nat.reduceBEq, Nat.reduceLeDiff, Nat.reduceLT, fn_transitref08_Length, e23_1, w23_1, e23_3, w23_3, e23_5, w23_5, e23_7, w23_7, e23_9, w23_9, e23_11, w23_11, c23_12, e23_14, w23_14, c23_15, c23_16, c23_17, c23_18, c23_19, e23_21, w23_21, c23_22, e23_24, w23_24, e23_26, w23_26, c23_27, c23_28, c23_29, c23_30, c23_31, c23_32]
  first | refine callD (hc) ?_ | refine callQD (hc) ?_
  unfold lenRes
  generalize nrm l = n at *
  simp -implicitDefEqProofs (disch := omega) only [go_sem, Nat.reduceAdd, Nat.reduceMul, Nat.reduceSub, Nat.reduceBEq, Nat.reduceLeDiff, Nat.reduceLT, fn_transitref08_Length, e23_1, w23_1, e23_3, w23_3, e23_5, w23_5, e23_7, w23_7, e23_9, w23_9, e23_11, w23_11, c23_12, e23_14, w23_14, c23_15, c23_16, c23_17, c23_18, c23_19, e23_21, w23_21, c23_22, e23_24, w23_24, e23_26, w23_26, c23_27, c23_28, c23_29, c23_30, c23_31, c23_32]
  refine wpC_forL n (fun i vs M => vs = [.slice (n.map spRow) .unk, .int .u64 (meas (n.take i)), .int .i64 i] ∧ M = []) ⟨rfl, rfl⟩ ?_ ?_
  · rintro i s vs M hs hi hd ⟨rfl, rfl⟩
    have hs1 := hlt s (List.mem_of_getElem? hs)
    have hs2 := hin s (List.mem_of_getElem? hs)
    have h1 := meas_succ hs
    have h2 := meas_take hlt (i + 1)
    have h3 := meas_nonneg (l := n.take i) fun t ht => hlt t (List.mem_of_mem_take ht)
    simp -implicitDefEqProofs (disch := omega) only [go_sem, Nat.reduceAdd, Nat.reduceMul, Nat.reduceSub, Nat.reduceBEq, Nat.reduceLeDiff, Nat.reduceLT, fn_transitref08_Length, e23_1, w23_1, e23_3, w23_3, e23_5, w23_5, e23_7, w23_7, e23_9, w23_9, e23_11, w23_11, c23_12, e23_14, w23_14, c23_15, c23_16, c23_17, c23_18, c23_19, e23_21, w23_21, c23_22, e23_24, w23_24, e23_26, w23_26, c23_27, c23_28, c23_29, c23_30, c23_31, c23_32, hd, hs, spRow, u64_wrap]
    have e : (meas (n.take i) + (s.2 % 18446744073709551616 - s.1 % 18446744073709551616) % 18446744073709551616) % 18446744073709551616 = meas (n.take (i + 1)) := by omega
    rw [e]
    exact next_stay hi ⟨rfl, rfl⟩
  · rintro vs M ⟨rfl, rfl⟩
    simp -implicitDefEqProofs (disch := omega) only [go_sem, Nat.reduceAdd, Nat.reduceMul, Nat.reduceSub, Nat.reduceBEq, Nat.reduceLeDiff, Nat.reduceLT, fn_transitref08_Length, e23_1, w23_1, e23_3, w23_3, e23_5, w23_5, e23_7, w23_7, e23_9, w23_9, e23_11, w23_11, c23_12, e23_14, w23_14, c23_15, c23_16, c23_17, c23_18, c23_19, e23_21, w23_21, c23_22, e23_24, w23_24, e23_26, w23_26, c23_27, c23_28, c23_29, c23_30, c23_31, c23_32, dec_irrefl, List.take_length]
    refine ifD (fun g => ?_) (fun g => ?_)
    · simp -implicitDefEqProofs (disch := omega) only [go_sem, Nat.reduceAdd, Nat.reduceMul, Nat.reduceSub, Nat.reduceBEq, Nat.reduceLeDiff, Nat.reduceLT, fn_transitref08_Length, e23_1, w23_1, e23_3, w23_3, e23_5, w23_5, e23_7, w23_7, e23_9, w23_9, e23_11, w23_11, c23_12, e23_14, w23_14, c23_15, c23_16, c23_17, c23_18, c23_19, e23_21, w23_21, c23_22, e23_24, w23_24, e23_26, w23_26, c23_27, c23_28, c23_29, c23_30, c23_31, c23_32]
      rw [if_pos (by omega)]
      rfl
    · simp -implicitDefEqProofs (disch := omega) only [go_sem, Nat.reduceAdd, Nat.reduceMul, Nat.reduceSub, Nat.reduceBEq, Nat.reduceLeDiff, Nat.reduceLT, fn_transitref08_Length, e23_1, w23_1, e23_3, w23_3, e23_5, w23_5, e23_7, w23_7, e23_9, w23_9, e23_11, w23_11, c23_12, e23_14, w23_14, c23_15, c23_16, c23_17, c23_18, c23_19, e23_21, w23_21, c23_22, e23_24, w23_24, e23_26, w23_26, c23_27, c23_28, c23_29, c23_30, c23_31, c23_32]
      rw [if_neg (by omega)]
      rfl

end Go.Vm.C

