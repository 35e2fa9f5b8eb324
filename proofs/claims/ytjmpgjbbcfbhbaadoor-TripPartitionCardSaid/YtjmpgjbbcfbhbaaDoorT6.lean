/- The chapter's example; the statements. -/
import Derived.Test.YtjmpgjbbcfbhbaaDoorT5

namespace Go.Vm.C
open Go.Vm
set_option maxHeartbeats 1000000
set_option maxRecDepth 10000
set_option linter.unusedSimpArgs false
set_option linter.unusedVariables false

/-! ### The chapter's example -/
def exA : Trp := ⟨[97], 0, 0, false, [⟨0, 100, 100, true, true⟩, ⟨1, 200, 200, true, false⟩, ⟨2, 300, 300, true, true⟩], .full⟩
def exB : Trp := ⟨[98], 0, 0, false, [⟨0, 0, 0, true, false⟩, ⟨2, 50, 50, false, true⟩], .full⟩
def exC : Trp := ⟨[99], 0, 0, false, [⟨0, 160, 160, true, true⟩, ⟨1, 200, 200, true, false⟩, ⟨2, 240, 240, true, true⟩], .full⟩
theorem example17_ok : PCalls PR i_transitlaw17_example [] (fun v => v = .slice ([exA, exB, exC].map Trp.row) .full) :=
  pcalls_eval tab_ok 3000 (by kernel_rfl) rfl
/-- What the example is about. -/
structure Ex (l : List Trp) (a b c : Trp) : Prop where
  len : l.length = 3
  h0 : l[0]? = some a
  h1 : l[1]? = some b
  h2 : l[2]? = some c
  small : ∀ t ∈ l, t.calls.length ≤ 1000 ∧ t.wf
  grps : grpsL l = [[0, 2], [1]]
  chk1 : checkT l 3 1 1 = (0, 0)
  chk2 : checkT l 2 1 1 = (0, 9)
  find : findP l [98] = some 1
  b02 : betwU l 0 2 l.length = [0, 1, 2]
  b12 : betwU l 1 2 l.length = [0, 2]
  b01 : betwU l 0 1 l.length = []
  o1 : overt c.calls a.calls = true
  o2 : overt a.calls c.calls = false
  o3 : overt a.calls b.calls = false
  pat : stops a = [0, 1, 2]
  same : samePat a.calls c.calls = true
theorem same17_lit (a b : List Int) (c d : Cap) (hl : a.length ≤ 1000) (h : a = b) : PCalls PR i_transitlaw17_same [.slice (a.map iRow) c, .slice (b.map iRow) d] (fun v => v = .bool true) := by
  have := same17_ok a b c d hl
  rw [decide_eq_true h] at this
  exact this
theorem ex17_calls {l : List Trp} {a b c : Trp} (h : Ex l a b c) : (∀ t ∈ l, t.calls.length ≤ 1000) ∧ (∀ t ∈ l, t.wf) ∧ (∀ t ∈ l, t.calls.length ≤ 1000 ∧ ∀ c ∈ t.calls, c.wf) :=
  ⟨fun t ht => (h.small t ht).1, fun t ht => (h.small t ht).2, fun t ht => ⟨(h.small t ht).1, (h.small t ht).2.2.2.2.1⟩⟩
theorem exampleHolds_of {l : List Trp} {a b c : Trp} (h : Ex l a b c) (hx : PCalls PR i_transitlaw17_example [] (fun v => v = .slice (l.map Trp.row) .full)) : PCalls PR i_transitlaw17_exampleHolds [] (fun v => v = .bool true) := by
  obtain ⟨s1, s2, s3⟩ := ex17_calls h
  have hl : l.length ≤ 1000 := by rw [h.len]; omega
  have hm : maxLen = 9223372036854775807 := by rfl
  have g0 := trp_at h.h0
  have g1 := trp_at h.h1
  have g2 := trp_at h.h2
  have ca := s1 a (List.mem_of_getElem? h.h0)
  have cc := s1 c (List.mem_of_getElem? h.h2)
  have hG := Groups_ok l .full hl s3
  rw [h.grps] at hG
  have hC1 := trip_Check_ok l .full 3 1 1 hl s2 s1
  rw [h.chk1] at hC1
  have hC2 := trip_Check_ok l .full 2 1 1 hl s2 s1
  rw [h.chk2] at hC2
  have hF := trip_Find_ok l .full [98] (by omega)
  rw [h.find] at hF
  have hB1 := trip_Between_ok l .full 0 2 hl s1
  rw [h.b02] at hB1
  have hB2 := trip_Between_ok l .full 1 2 hl s1
  rw [h.b12] at hB2
  have hB3 := trip_Between_ok l .full 0 1 hl s1
  rw [h.b01] at hB3
  have hO1 := trip_Overtakes_ok c a cc
  rw [h.o1] at hO1
  have hO2 := trip_Overtakes_ok a c ca
  rw [h.o2] at hO2
  have hO3 := trip_Overtakes_ok a b ca
  rw [h.o3] at hO3
  have hP := Pattern_ok a ca
  rw [h.pat] at hP
  have hS := trip_SamePattern_ok a c ca
  rw [h.same] at hS
  have t1 := same17_lit [0, 2] [0, 2] .unk .full (by decide) rfl
  have t2 := same17_lit [1] [1] .unk .full (by decide) rfl
  have t3 := same17_lit [0, 1, 2] [0, 1, 2] .unk .full (by decide) rfl
  have i0 : ((0 : Nat) : Int) = 0 := rfl
  have i1 : ((1 : Nat) : Int) = 1 := rfl
  have i2 : ((2 : Nat) : Int) = 2 := rfl
  have d2 : decide (((2 : Nat) : Int) = 2) = true := rfl
  have d0 : decide (((0 : Nat) : Int) = 0) = true := rfl
  have n1 : Int.toNat 1 = 1 := rfl
  have n2 : Int.toNat 2 = 2 := rfl
  have z1 : Int.ofNat 0 = 0 := rfl
  have z2 : Int.ofNat 1 = 1 := rfl
  have z3 : Int.ofNat 2 = 2 := rfl
  simp only [grpsV, grpV, List.map_cons, List.map_nil, idxRow, i0, i1, i2] at hG
  simp only [pairV] at hC1 hC2
  simp only [i1] at hF
  simp only [ints, List.map_cons, List.map_nil, iRow, z1, z2, z3] at hB1 hB2 hB3 hP t1 t2 t3
  simp only [Trp.row] at hO1 hO2 hO3 hP hS
  generalize hrows : l.map Trp.row = rows at *
  refine acalls_pop fn_transitlaw17_exampleHolds_ok (by simp [fn_transitlaw17_exampleHolds]) ?_
  simp -implicitDefEqProofs (disch := omega) only [go_sem, Nat.reduceAdd, Nat.reduceMul, Nat.reduceSub, Nat.reduceBEq, Nat.reduceLeDiff, Nat.reduceLT, fn_transitlaw17_exampleHolds, e13_1, w13_1, e13_3, w13_3, e13_5, w13_5, e13_7, w13_7, e13_9, w13_9, e13_11, w13_11, e13_13, w13_13, c13_14, e13_16, w13_16, e13_18, w13_18, c13_19, c13_20, c13_21, c13_22, c13_23, c13_24, c13_25, c13_26]
  first | refine callD (hx) ?_ | refine callQD (hx) ?_
  simp -implicitDefEqProofs (disch := omega) only [go_sem, Nat.reduceAdd, Nat.reduceMul, Nat.reduceSub, Nat.reduceBEq, Nat.reduceLeDiff, Nat.reduceLT, fn_transitlaw17_exampleHolds, e13_1, w13_1, e13_3, w13_3, e13_5, w13_5, e13_7, w13_7, e13_9, w13_9, e13_11, w13_11, e13_13, w13_13, c13_14, e13_16, w13_16, e13_18, w13_18, c13_19, c13_20, c13_21, c13_22, c13_23, c13_24, c13_25, c13_26]
  first | refine callD (hG) ?_ | refine callQD (hG) ?_
  simp -implicitDefEqProofs (disch := omega) only [go_sem, Nat.reduceAdd, Nat.reduceMul, Nat.reduceSub, Nat.reduceBEq, Nat.reduceLeDiff, Nat.reduceLT, fn_transitlaw17_exampleHolds, e13_1, w13_1, e13_3, w13_3, e13_5, w13_5, e13_7, w13_7, e13_9, w13_9, e13_11, w13_11, e13_13, w13_13, c13_14, e13_16, w13_16, e13_18, w13_18, c13_19, c13_20, c13_21, c13_22, c13_23, c13_24, c13_25, c13_26]
  first | refine callD (hC1) ?_ | refine callQD (hC1) ?_
  simp -implicitDefEqProofs (disch := omega) only [go_sem, Nat.reduceAdd, Nat.reduceMul, Nat.reduceSub, Nat.reduceBEq, Nat.reduceLeDiff, Nat.reduceLT, fn_transitlaw17_exampleHolds, e13_1, w13_1, e13_3, w13_3, e13_5, w13_5, e13_7, w13_7, e13_9, w13_9, e13_11, w13_11, e13_13, w13_13, c13_14, e13_16, w13_16, e13_18, w13_18, c13_19, c13_20, c13_21, c13_22, c13_23, c13_24, c13_25, c13_26]
  first | refine callD (hC2) ?_ | refine callQD (hC2) ?_
  simp -implicitDefEqProofs (disch := omega) only [go_sem, Nat.reduceAdd, Nat.reduceMul, Nat.reduceSub, Nat.reduceBEq, Nat.reduceLeDiff, Nat.reduceLT, fn_transitlaw17_exampleHolds, e13_1, w13_1, e13_3, w13_3, e13_5, w13_5, e13_7, w13_7, e13_9, w13_9, e13_11, w13_11, e13_13, w13_13, c13_14, e13_16, w13_16, e13_18, w13_18, c13_19, c13_20, c13_21, c13_22, c13_23, c13_24, c13_25, c13_26]
  first | refine callD (hF) ?_ | refine callQD (hF) ?_
  simp -implicitDefEqProofs (disch := omega) only [go_sem, Nat.reduceAdd, Nat.reduceMul, Nat.reduceSub, Nat.reduceBEq, Nat.reduceLeDiff, Nat.reduceLT, fn_transitlaw17_exampleHolds, e13_1, w13_1, e13_3, w13_3, e13_5, w13_5, e13_7, w13_7, e13_9, w13_9, e13_11, w13_11, e13_13, w13_13, c13_14, e13_16, w13_16, e13_18, w13_18, c13_19, c13_20, c13_21, c13_22, c13_23, c13_24, c13_25, c13_26, d2]
  first | refine callD (t1) ?_ | refine callQD (t1) ?_
  simp -implicitDefEqProofs (disch := omega) only [go_sem, Nat.reduceAdd, Nat.reduceMul, Nat.reduceSub, Nat.reduceBEq, Nat.reduceLeDiff, Nat.reduceLT, fn_transitlaw17_exampleHolds, e13_1, w13_1, e13_3, w13_3, e13_5, w13_5, e13_7, w13_7, e13_9, w13_9, e13_11, w13_11, e13_13, w13_13, c13_14, e13_16, w13_16, e13_18, w13_18, c13_19, c13_20, c13_21, c13_22, c13_23, c13_24, c13_25, c13_26]
  first | refine callD (t2) ?_ | refine callQD (t2) ?_
  simp -implicitDefEqProofs (disch := omega) only [go_sem, Nat.reduceAdd, Nat.reduceMul, Nat.reduceSub, Nat.reduceBEq, Nat.reduceLeDiff, Nat.reduceLT, fn_transitlaw17_exampleHolds, e13_1, w13_1, e13_3, w13_3, e13_5, w13_5, e13_7, w13_7, e13_9, w13_9, e13_11, w13_11, e13_13, w13_13, c13_14, e13_16, w13_16, e13_18, w13_18, c13_19, c13_20, c13_21, c13_22, c13_23, c13_24, c13_25, c13_26]
  first | refine callD (hB1) ?_ | refine callQD (hB1) ?_
  simp -implicitDefEqProofs (disch := omega) only [go_sem, Nat.reduceAdd, Nat.reduceMul, Nat.reduceSub, Nat.reduceBEq, Nat.reduceLeDiff, Nat.reduceLT, fn_transitlaw17_exampleHolds, e13_1, w13_1, e13_3, w13_3, e13_5, w13_5, e13_7, w13_7, e13_9, w13_9, e13_11, w13_11, e13_13, w13_13, c13_14, e13_16, w13_16, e13_18, w13_18, c13_19, c13_20, c13_21, c13_22, c13_23, c13_24, c13_25, c13_26]
  first | refine callD (t3) ?_ | refine callQD (t3) ?_
  simp -implicitDefEqProofs (disch := omega) only [go_sem, Nat.reduceAdd, Nat.reduceMul, Nat.reduceSub, Nat.reduceBEq, Nat.reduceLeDiff, Nat.reduceLT, fn_transitlaw17_exampleHolds, e13_1, w13_1, e13_3, w13_3, e13_5, w13_5, e13_7, w13_7, e13_9, w13_9, e13_11, w13_11, e13_13, w13_13, c13_14, e13_16, w13_16, e13_18, w13_18, c13_19, c13_20, c13_21, c13_22, c13_23, c13_24, c13_25, c13_26]
  first | refine callD (hB2) ?_ | refine callQD (hB2) ?_
  simp -implicitDefEqProofs (disch := omega) only [go_sem, Nat.reduceAdd, Nat.reduceMul, Nat.reduceSub, Nat.reduceBEq, Nat.reduceLeDiff, Nat.reduceLT, fn_transitlaw17_exampleHolds, e13_1, w13_1, e13_3, w13_3, e13_5, w13_5, e13_7, w13_7, e13_9, w13_9, e13_11, w13_11, e13_13, w13_13, c13_14, e13_16, w13_16, e13_18, w13_18, c13_19, c13_20, c13_21, c13_22, c13_23, c13_24, c13_25, c13_26]
  first | refine callD (t1) ?_ | refine callQD (t1) ?_
  simp -implicitDefEqProofs (disch := omega) only [go_sem, Nat.reduceAdd, Nat.reduceMul, Nat.reduceSub, Nat.reduceBEq, Nat.reduceLeDiff, Nat.reduceLT, fn_transitlaw17_exampleHolds, e13_1, w13_1, e13_3, w13_3, e13_5, w13_5, e13_7, w13_7, e13_9, w13_9, e13_11, w13_11, e13_13, w13_13, c13_14, e13_16, w13_16, e13_18, w13_18, c13_19, c13_20, c13_21, c13_22, c13_23, c13_24, c13_25, c13_26]
  first | refine callD (hB3) ?_ | refine callQD (hB3) ?_
  simp -implicitDefEqProofs (disch := omega) only [go_sem, Nat.reduceAdd, Nat.reduceMul, Nat.reduceSub, Nat.reduceBEq, Nat.reduceLeDiff, Nat.reduceLT, fn_transitlaw17_exampleHolds, e13_1, w13_1, e13_3, w13_3, e13_5, w13_5, e13_7, w13_7, e13_9, w13_9, e13_11, w13_11, e13_13, w13_13, c13_14, e13_16, w13_16, e13_18, w13_18, c13_19, c13_20, c13_21, c13_22, c13_23, c13_24, c13_25, c13_26, d0, n1, n2, g0, g1, g2]
  first | refine callD (hO1) ?_ | refine callQD (hO1) ?_
  simp -implicitDefEqProofs (disch := omega) only [go_sem, Nat.reduceAdd, Nat.reduceMul, Nat.reduceSub, Nat.reduceBEq, Nat.reduceLeDiff, Nat.reduceLT, fn_transitlaw17_exampleHolds, e13_1, w13_1, e13_3, w13_3, e13_5, w13_5, e13_7, w13_7, e13_9, w13_9, e13_11, w13_11, e13_13, w13_13, c13_14, e13_16, w13_16, e13_18, w13_18, c13_19, c13_20, c13_21, c13_22, c13_23, c13_24, c13_25, c13_26, n1, n2, g0, g1, g2]
  first | refine callD (hO2) ?_ | refine callQD (hO2) ?_
  simp -implicitDefEqProofs (disch := omega) only [go_sem, Nat.reduceAdd, Nat.reduceMul, Nat.reduceSub, Nat.reduceBEq, Nat.reduceLeDiff, Nat.reduceLT, fn_transitlaw17_exampleHolds, e13_1, w13_1, e13_3, w13_3, e13_5, w13_5, e13_7, w13_7, e13_9, w13_9, e13_11, w13_11, e13_13, w13_13, c13_14, e13_16, w13_16, e13_18, w13_18, c13_19, c13_20, c13_21, c13_22, c13_23, c13_24, c13_25, c13_26, n1, n2, g0, g1, g2]
  first | refine callD (hO3) ?_ | refine callQD (hO3) ?_
  simp -implicitDefEqProofs (disch := omega) only [go_sem, Nat.reduceAdd, Nat.reduceMul, Nat.reduceSub, Nat.reduceBEq, Nat.reduceLeDiff, Nat.reduceLT, fn_transitlaw17_exampleHolds, e13_1, w13_1, e13_3, w13_3, e13_5, w13_5, e13_7, w13_7, e13_9, w13_9, e13_11, w13_11, e13_13, w13_13, c13_14, e13_16, w13_16, e13_18, w13_18, c13_19, c13_20, c13_21, c13_22, c13_23, c13_24, c13_25, c13_26, n1, n2, g0, g1, g2]
  first | refine callD (hP) ?_ | refine callQD (hP) ?_
  simp -implicitDefEqProofs (disch := omega) only [go_sem, Nat.reduceAdd, Nat.reduceMul, Nat.reduceSub, Nat.reduceBEq, Nat.reduceLeDiff, Nat.reduceLT, fn_transitlaw17_exampleHolds, e13_1, w13_1, e13_3, w13_3, e13_5, w13_5, e13_7, w13_7, e13_9, w13_9, e13_11, w13_11, e13_13, w13_13, c13_14, e13_16, w13_16, e13_18, w13_18, c13_19, c13_20, c13_21, c13_22, c13_23, c13_24, c13_25, c13_26, n1, n2, g0, g1, g2]
  first | refine callD (t3) ?_ | refine callQD (t3) ?_
  simp -implicitDefEqProofs (disch := omega) only [go_sem, Nat.reduceAdd, Nat.reduceMul, Nat.reduceSub, Nat.reduceBEq, Nat.reduceLeDiff, Nat.reduceLT, fn_transitlaw17_exampleHolds, e13_1, w13_1, e13_3, w13_3, e13_5, w13_5, e13_7, w13_7, e13_9, w13_9, e13_11, w13_11, e13_13, w13_13, c13_14, e13_16, w13_16, e13_18, w13_18, c13_19, c13_20, c13_21, c13_22, c13_23, c13_24, c13_25, c13_26, n1, n2, g0, g1, g2]
  first | refine callD (hS) ?_ | refine callQD (hS) ?_
  simp -implicitDefEqProofs (disch := omega) only [go_sem, Nat.reduceAdd, Nat.reduceMul, Nat.reduceSub, Nat.reduceBEq, Nat.reduceLeDiff, Nat.reduceLT, fn_transitlaw17_exampleHolds, e13_1, w13_1, e13_3, w13_3, e13_5, w13_5, e13_7, w13_7, e13_9, w13_9, e13_11, w13_11, e13_13, w13_13, c13_14, e13_16, w13_16, e13_18, w13_18, c13_19, c13_20, c13_21, c13_22, c13_23, c13_24, c13_25, c13_26]

/-! ### The statements -/
def exL : List Trp := [exA, exB, exC]
theorem firsts_ex : (firsts exL exL.length).map (groupAt exL) = [[0, 2], [1]] := by decide +kernel
theorem ex17 : Ex exL exA exB exC where
  len := rfl
  h0 := rfl
  h1 := rfl
  h2 := rfl
  small := fun t ht => by
    have hm : maxLen = 9223372036854775807 := by rfl
    simp only [exL, List.mem_cons, List.not_mem_nil, or_false] at ht
    rcases ht with rfl | rfl | rfl
    · refine ⟨by decide, by simp [exA]; omega, by simp [exA, I64], by simp [exA, I64], ?_, by simp [exA]; omega⟩
      intro c hc
      simp only [exA, List.mem_cons, List.not_mem_nil, or_false] at hc
      rcases hc with rfl | rfl | rfl <;> simp [Stay.wf, I64]
    · refine ⟨by decide, by simp [exB]; omega, by simp [exB, I64], by simp [exB, I64], ?_, by simp [exB]; omega⟩
      intro c hc
      simp only [exB, List.mem_cons, List.not_mem_nil, or_false] at hc
      rcases hc with rfl | rfl <;> simp [Stay.wf, I64]
    · refine ⟨by decide, by simp [exC]; omega, by simp [exC, I64], by simp [exC, I64], ?_, by simp [exC]; omega⟩
      intro c hc
      simp only [exC, List.mem_cons, List.not_mem_nil, or_false] at hc
      rcases hc with rfl | rfl | rfl <;> simp [Stay.wf, I64]
  grps := (grpsL_eq exL).trans firsts_ex
  chk1 := by decide +kernel
  chk2 := by decide +kernel
  find := by decide +kernel
  b02 := by decide +kernel
  b12 := by decide +kernel
  b01 := by decide +kernel
  o1 := by decide +kernel
  o2 := by decide +kernel
  o3 := by decide +kernel
  pat := by decide +kernel
  same := by decide +kernel
theorem exampleHolds_ok : PCalls PR i_transitlaw17_exampleHolds [] (fun v => v = .bool true) := exampleHolds_of ex17 example17_ok
theorem table_spec {l : List Trp} {n : Int} (h : tableB l n = true) : (l.length : Int) ≤ n ∧ ∀ t ∈ l, t.id.length ≤ 1024 ∧ t.calls.length ≤ 40 := by
  simp only [tableB, Bool.and_eq_true, decide_eq_true_eq, List.all_eq_true, smallT] at h
  exact h
theorem Checks_law (l : List Trp) (c : Cap) (s r k : Int) (hw : ∀ t ∈ l, t.wf) : PCalls PR i_transitlaw17_TripChecks [.slice (l.map Trp.row) c, .agg [.int .i64 s, .int .i64 r, .int .i64 k]] (fun v => v = .bool true) := by
  have hx := exampleHolds_ok
  have ht := table_ok l c 260 (by omega)
  refine acalls_pop fn_transitlaw17_TripChecks_ok (by simp [fn_transitlaw17_TripChecks]) ?_
  simp -implicitDefEqProofs (disch := omega) only [go_sem, Nat.reduceAdd, Nat.reduceMul, Nat.reduceSub, Nat.reduceBEq, Nat.reduceLeDiff, Nat.reduceLT, fn_transitlaw17_TripChecks, e3_1, w3_1, e3_3, w3_3, c3_4, e3_6, w3_6, e3_8, w3_8, e3_10, w3_10, e3_12, w3_12, c3_13, c3_14, c3_15, c3_16, c3_17]
  first | refine callD (ht) ?_ | refine callQD (ht) ?_
  refine ifB (fun h => ?_) (fun h => ?_)
  · simp -implicitDefEqProofs (disch := omega) only [go_sem, Nat.reduceAdd, Nat.reduceMul, Nat.reduceSub, Nat.reduceBEq, Nat.reduceLeDiff, Nat.reduceLT, fn_transitlaw17_TripChecks, e3_1, w3_1, e3_3, w3_3, c3_4, e3_6, w3_6, e3_8, w3_8, e3_10, w3_10, e3_12, w3_12, c3_13, c3_14, c3_15, c3_16, c3_17]
    first | refine callD (hx) ?_ | refine callQD (hx) ?_
    simp -implicitDefEqProofs (disch := omega) only [go_sem, Nat.reduceAdd, Nat.reduceMul, Nat.reduceSub, Nat.reduceBEq, Nat.reduceLeDiff, Nat.reduceLT, fn_transitlaw17_TripChecks, e3_1, w3_1, e3_3, w3_3, c3_4, e3_6, w3_6, e3_8, w3_8, e3_10, w3_10, e3_12, w3_12, c3_13, c3_14, c3_15, c3_16, c3_17]
  obtain ⟨hl, hs⟩ := table_spec (l := l) (n := 260) (by simpa using h)
  have hc : ∀ t ∈ l, t.calls.length ≤ 1000 := fun t ht => by have := (hs t ht).2; omega
  have h1 := trip_Check_ok l c s r k (by omega) hw hc
  have h2 := transitref17_Check_ok l c s r k (by omega) hw hc
  generalize checkT l s r k = E at *
  simp only [pairV] at h1 h2
  simp -implicitDefEqProofs (disch := omega) only [go_sem, Nat.reduceAdd, Nat.reduceMul, Nat.reduceSub, Nat.reduceBEq, Nat.reduceLeDiff, Nat.reduceLT, fn_transitlaw17_TripChecks, e3_1, w3_1, e3_3, w3_3, c3_4, e3_6, w3_6, e3_8, w3_8, e3_10, w3_10, e3_12, w3_12, c3_13, c3_14, c3_15, c3_16, c3_17]
  first | refine callD (h1) ?_ | refine callQD (h1) ?_
  simp -implicitDefEqProofs (disch := omega) only [go_sem, Nat.reduceAdd, Nat.reduceMul, Nat.reduceSub, Nat.reduceBEq, Nat.reduceLeDiff, Nat.reduceLT, fn_transitlaw17_TripChecks, e3_1, w3_1, e3_3, w3_3, c3_4, e3_6, w3_6, e3_8, w3_8, e3_10, w3_10, e3_12, w3_12, c3_13, c3_14, c3_15, c3_16, c3_17]
  first | refine callD (h2) ?_ | refine callQD (h2) ?_
  simp -implicitDefEqProofs (disch := omega) only [go_sem, Nat.reduceAdd, Nat.reduceMul, Nat.reduceSub, Nat.reduceBEq, Nat.reduceLeDiff, Nat.reduceLT, fn_transitlaw17_TripChecks, e3_1, w3_1, e3_3, w3_3, c3_4, e3_6, w3_6, e3_8, w3_8, e3_10, w3_10, e3_12, w3_12, c3_13, c3_14, c3_15, c3_16, c3_17]
  first | refine callD (hx) ?_ | refine callQD (hx) ?_
  simp -implicitDefEqProofs (disch := omega) only [go_sem, Nat.reduceAdd, Nat.reduceMul, Nat.reduceSub, Nat.reduceBEq, Nat.reduceLeDiff, Nat.reduceLT, fn_transitlaw17_TripChecks, e3_1, w3_1, e3_3, w3_3, c3_4, e3_6, w3_6, e3_8, w3_8, e3_10, w3_10, e3_12, w3_12, c3_13, c3_14, c3_15, c3_16, c3_17]
theorem Finds_law (l : List Trp) (c : Cap) (id : List UInt8) (hid : id.length ≤ maxLen) : PCalls PR i_transitlaw17_TripFinds [.slice (l.map Trp.row) c, .str id] (fun v => v = .bool true) := by
  have hm : maxLen = 9223372036854775807 := by rfl
  have hx := exampleHolds_ok
  have ht := table_ok l c 60 (by omega)
  refine acalls_pop fn_transitlaw17_TripFinds_ok (by simp [fn_transitlaw17_TripFinds]) ?_
  simp -implicitDefEqProofs (disch := omega) only [go_sem, Nat.reduceAdd, Nat.reduceMul, Nat.reduceSub, Nat.reduceBEq, Nat.reduceLeDiff, Nat.reduceLT, fn_transitlaw17_TripFinds, e4_1, w4_1, e4_3, w4_3, c4_4, e4_6, w4_6, e4_8, w4_8, e4_10, w4_10, e4_12, w4_12, c4_13, e4_15, w4_15, e4_17, w4_17, c4_18, c4_19, c4_20, c4_21, c4_22, c4_23]
  first | refine callD (ht) ?_ | refine callQD (ht) ?_
  refine ifB (fun h => ?_) (fun h => ?_)
  · simp -implicitDefEqProofs (disch := omega) only [go_sem, Nat.reduceAdd, Nat.reduceMul, Nat.reduceSub, Nat.reduceBEq, Nat.reduceLeDiff, Nat.reduceLT, fn_transitlaw17_TripFinds, e4_1, w4_1, e4_3, w4_3, c4_4, e4_6, w4_6, e4_8, w4_8, e4_10, w4_10, e4_12, w4_12, c4_13, e4_15, w4_15, e4_17, w4_17, c4_18, c4_19, c4_20, c4_21, c4_22, c4_23]
    first | refine callD (hx) ?_ | refine callQD (hx) ?_
    simp -implicitDefEqProofs (disch := omega) only [go_sem, Nat.reduceAdd, Nat.reduceMul, Nat.reduceSub, Nat.reduceBEq, Nat.reduceLeDiff, Nat.reduceLT, fn_transitlaw17_TripFinds, e4_1, w4_1, e4_3, w4_3, c4_4, e4_6, w4_6, e4_8, w4_8, e4_10, w4_10, e4_12, w4_12, c4_13, e4_15, w4_15, e4_17, w4_17, c4_18, c4_19, c4_20, c4_21, c4_22, c4_23]
  obtain ⟨hl, hs⟩ := table_spec (l := l) (n := 60) (by simpa using h)
  simp -implicitDefEqProofs (disch := omega) only [go_sem, Nat.reduceAdd, Nat.reduceMul, Nat.reduceSub, Nat.reduceBEq, Nat.reduceLeDiff, Nat.reduceLT, fn_transitlaw17_TripFinds, e4_1, w4_1, e4_3, w4_3, c4_4, e4_6, w4_6, e4_8, w4_8, e4_10, w4_10, e4_12, w4_12, c4_13, e4_15, w4_15, e4_17, w4_17, c4_18, c4_19, c4_20, c4_21, c4_22, c4_23]
  refine ifD (fun h2 => ?_) (fun h2 => ?_)
  · simp -implicitDefEqProofs (disch := omega) only [go_sem, Nat.reduceAdd, Nat.reduceMul, Nat.reduceSub, Nat.reduceBEq, Nat.reduceLeDiff, Nat.reduceLT, fn_transitlaw17_TripFinds, e4_1, w4_1, e4_3, w4_3, c4_4, e4_6, w4_6, e4_8, w4_8, e4_10, w4_10, e4_12, w4_12, c4_13, e4_15, w4_15, e4_17, w4_17, c4_18, c4_19, c4_20, c4_21, c4_22, c4_23]
    first | refine callD (hx) ?_ | refine callQD (hx) ?_
    simp -implicitDefEqProofs (disch := omega) only [go_sem, Nat.reduceAdd, Nat.reduceMul, Nat.reduceSub, Nat.reduceBEq, Nat.reduceLeDiff, Nat.reduceLT, fn_transitlaw17_TripFinds, e4_1, w4_1, e4_3, w4_3, c4_4, e4_6, w4_6, e4_8, w4_8, e4_10, w4_10, e4_12, w4_12, c4_13, e4_15, w4_15, e4_17, w4_17, c4_18, c4_19, c4_20, c4_21, c4_22, c4_23]
  have h1 := trip_Find_ok l c id (by omega)
  have h2 := transitref17_Find_ok l c id (by omega)
  simp only [findZ] at h2
  simp -implicitDefEqProofs (disch := omega) only [go_sem, Nat.reduceAdd, Nat.reduceMul, Nat.reduceSub, Nat.reduceBEq, Nat.reduceLeDiff, Nat.reduceLT, fn_transitlaw17_TripFinds, e4_1, w4_1, e4_3, w4_3, c4_4, e4_6, w4_6, e4_8, w4_8, e4_10, w4_10, e4_12, w4_12, c4_13, e4_15, w4_15, e4_17, w4_17, c4_18, c4_19, c4_20, c4_21, c4_22, c4_23]
  cases hf : findP l id with
  | none =>
    rw [hf] at h1 h2
    simp only at h1 h2
    first | refine callD (h1) ?_ | refine callQD (h1) ?_
    simp -implicitDefEqProofs (disch := omega) only [go_sem, Nat.reduceAdd, Nat.reduceMul, Nat.reduceSub, Nat.reduceBEq, Nat.reduceLeDiff, Nat.reduceLT, fn_transitlaw17_TripFinds, e4_1, w4_1, e4_3, w4_3, c4_4, e4_6, w4_6, e4_8, w4_8, e4_10, w4_10, e4_12, w4_12, c4_13, e4_15, w4_15, e4_17, w4_17, c4_18, c4_19, c4_20, c4_21, c4_22, c4_23]
    first | refine callD (h2) ?_ | refine callQD (h2) ?_
    have d : decide ((-1 : Int) < 0) = true := rfl
    have d2 : decide ((0 : Int) = 0) = true := rfl
    simp -implicitDefEqProofs (disch := omega) only [go_sem, Nat.reduceAdd, Nat.reduceMul, Nat.reduceSub, Nat.reduceBEq, Nat.reduceLeDiff, Nat.reduceLT, fn_transitlaw17_TripFinds, e4_1, w4_1, e4_3, w4_3, c4_4, e4_6, w4_6, e4_8, w4_8, e4_10, w4_10, e4_12, w4_12, c4_13, e4_15, w4_15, e4_17, w4_17, c4_18, c4_19, c4_20, c4_21, c4_22, c4_23, d, d2]
    first | refine callD (hx) ?_ | refine callQD (hx) ?_
    simp -implicitDefEqProofs (disch := omega) only [go_sem, Nat.reduceAdd, Nat.reduceMul, Nat.reduceSub, Nat.reduceBEq, Nat.reduceLeDiff, Nat.reduceLT, fn_transitlaw17_TripFinds, e4_1, w4_1, e4_3, w4_3, c4_4, e4_6, w4_6, e4_8, w4_8, e4_10, w4_10, e4_12, w4_12, c4_13, e4_15, w4_15, e4_17, w4_17, c4_18, c4_19, c4_20, c4_21, c4_22, c4_23]
  | some i =>
    rw [hf] at h1 h2
    simp only at h1 h2
    first | refine callD (h1) ?_ | refine callQD (h1) ?_
    simp -implicitDefEqProofs (disch := omega) only [go_sem, Nat.reduceAdd, Nat.reduceMul, Nat.reduceSub, Nat.reduceBEq, Nat.reduceLeDiff, Nat.reduceLT, fn_transitlaw17_TripFinds, e4_1, w4_1, e4_3, w4_3, c4_4, e4_6, w4_6, e4_8, w4_8, e4_10, w4_10, e4_12, w4_12, c4_13, e4_15, w4_15, e4_17, w4_17, c4_18, c4_19, c4_20, c4_21, c4_22, c4_23]
    first | refine callD (h2) ?_ | refine callQD (h2) ?_
    simp -implicitDefEqProofs (disch := omega) only [go_sem, Nat.reduceAdd, Nat.reduceMul, Nat.reduceSub, Nat.reduceBEq, Nat.reduceLeDiff, Nat.reduceLT, fn_transitlaw17_TripFinds, e4_1, w4_1, e4_3, w4_3, c4_4, e4_6, w4_6, e4_8, w4_8, e4_10, w4_10, e4_12, w4_12, c4_13, e4_15, w4_15, e4_17, w4_17, c4_18, c4_19, c4_20, c4_21, c4_22, c4_23]
    refine ifD (fun h => ?_) (fun h => ?_)
    · omega
    simp -implicitDefEqProofs (disch := omega) only [go_sem, Nat.reduceAdd, Nat.reduceMul, Nat.reduceSub, Nat.reduceBEq, Nat.reduceLeDiff, Nat.reduceLT, fn_transitlaw17_TripFinds, e4_1, w4_1, e4_3, w4_3, c4_4, e4_6, w4_6, e4_8, w4_8, e4_10, w4_10, e4_12, w4_12, c4_13, e4_15, w4_15, e4_17, w4_17, c4_18, c4_19, c4_20, c4_21, c4_22, c4_23]
    first | refine callD (hx) ?_ | refine callQD (hx) ?_
    simp -implicitDefEqProofs (disch := omega) only [go_sem, Nat.reduceAdd, Nat.reduceMul, Nat.reduceSub, Nat.reduceBEq, Nat.reduceLeDiff, Nat.reduceLT, fn_transitlaw17_TripFinds, e4_1, w4_1, e4_3, w4_3, c4_4, e4_6, w4_6, e4_8, w4_8, e4_10, w4_10, e4_12, w4_12, c4_13, e4_15, w4_15, e4_17, w4_17, c4_18, c4_19, c4_20, c4_21, c4_22, c4_23]
theorem Overtakes_law (a b : Trp) : PCalls PR i_transitlaw17_TripOvertakes [.agg a.row, .agg b.row] (fun v => v = .bool true) := by
  have hx := exampleHolds_ok
  have h1 := small17_ok a
  have h2 := small17_ok b
  simp only [Trp.row] at h1 h2
  refine acalls_pop fn_transitlaw17_TripOvertakes_ok (by simp [fn_transitlaw17_TripOvertakes]) ?_
  simp -implicitDefEqProofs (disch := omega) only [go_sem, Nat.reduceAdd, Nat.reduceMul, Nat.reduceSub, Nat.reduceBEq, Nat.reduceLeDiff, Nat.reduceLT, fn_transitlaw17_TripOvertakes, e7_1, w7_1, e7_3, w7_3, c7_4, e7_6, w7_6, e7_8, w7_8, c7_9, c7_10, c7_11, Trp.row]
  first | refine callD (h1) ?_ | refine callQD (h1) ?_
  refine ifB (fun h => ?_) (fun h => ?_)
  · simp -implicitDefEqProofs (disch := omega) only [go_sem, Nat.reduceAdd, Nat.reduceMul, Nat.reduceSub, Nat.reduceBEq, Nat.reduceLeDiff, Nat.reduceLT, fn_transitlaw17_TripOvertakes, e7_1, w7_1, e7_3, w7_3, c7_4, e7_6, w7_6, e7_8, w7_8, c7_9, c7_10, c7_11]
    first | refine callD (hx) ?_ | refine callQD (hx) ?_
    simp -implicitDefEqProofs (disch := omega) only [go_sem, Nat.reduceAdd, Nat.reduceMul, Nat.reduceSub, Nat.reduceBEq, Nat.reduceLeDiff, Nat.reduceLT, fn_transitlaw17_TripOvertakes, e7_1, w7_1, e7_3, w7_3, c7_4, e7_6, w7_6, e7_8, w7_8, c7_9, c7_10, c7_11]
  simp -implicitDefEqProofs (disch := omega) only [go_sem, Nat.reduceAdd, Nat.reduceMul, Nat.reduceSub, Nat.reduceBEq, Nat.reduceLeDiff, Nat.reduceLT, fn_transitlaw17_TripOvertakes, e7_1, w7_1, e7_3, w7_3, c7_4, e7_6, w7_6, e7_8, w7_8, c7_9, c7_10, c7_11]
  first | refine callD (h2) ?_ | refine callQD (h2) ?_
  refine ifB (fun h3 => ?_) (fun h3 => ?_)
  · simp -implicitDefEqProofs (disch := omega) only [go_sem, Nat.reduceAdd, Nat.reduceMul, Nat.reduceSub, Nat.reduceBEq, Nat.reduceLeDiff, Nat.reduceLT, fn_transitlaw17_TripOvertakes, e7_1, w7_1, e7_3, w7_3, c7_4, e7_6, w7_6, e7_8, w7_8, c7_9, c7_10, c7_11]
    first | refine callD (hx) ?_ | refine callQD (hx) ?_
    simp -implicitDefEqProofs (disch := omega) only [go_sem, Nat.reduceAdd, Nat.reduceMul, Nat.reduceSub, Nat.reduceBEq, Nat.reduceLeDiff, Nat.reduceLT, fn_transitlaw17_TripOvertakes, e7_1, w7_1, e7_3, w7_3, c7_4, e7_6, w7_6, e7_8, w7_8, c7_9, c7_10, c7_11]
  have ha : a.calls.length ≤ 1000 := by simp [smallT] at h; omega
  have h4 := trip_Overtakes_ok a b ha
  have h5 := transitref17_Overtakes_ok a b ha
  simp only [Trp.row] at h4 h5
  simp -implicitDefEqProofs (disch := omega) only [go_sem, Nat.reduceAdd, Nat.reduceMul, Nat.reduceSub, Nat.reduceBEq, Nat.reduceLeDiff, Nat.reduceLT, fn_transitlaw17_TripOvertakes, e7_1, w7_1, e7_3, w7_3, c7_4, e7_6, w7_6, e7_8, w7_8, c7_9, c7_10, c7_11]
  first | refine callD (h4) ?_ | refine callQD (h4) ?_
  simp -implicitDefEqProofs (disch := omega) only [go_sem, Nat.reduceAdd, Nat.reduceMul, Nat.reduceSub, Nat.reduceBEq, Nat.reduceLeDiff, Nat.reduceLT, fn_transitlaw17_TripOvertakes, e7_1, w7_1, e7_3, w7_3, c7_4, e7_6, w7_6, e7_8, w7_8, c7_9, c7_10, c7_11]
  first | refine callD (h5) ?_ | refine callQD (h5) ?_
  simp -implicitDefEqProofs (disch := omega) only [go_sem, Nat.reduceAdd, Nat.reduceMul, Nat.reduceSub, Nat.reduceBEq, Nat.reduceLeDiff, Nat.reduceLT, fn_transitlaw17_TripOvertakes, e7_1, w7_1, e7_3, w7_3, c7_4, e7_6, w7_6, e7_8, w7_8, c7_9, c7_10, c7_11]
  first | refine callD (hx) ?_ | refine callQD (hx) ?_
  simp -implicitDefEqProofs (disch := omega) only [go_sem, Nat.reduceAdd, Nat.reduceMul, Nat.reduceSub, Nat.reduceBEq, Nat.reduceLeDiff, Nat.reduceLT, fn_transitlaw17_TripOvertakes, e7_1, w7_1, e7_3, w7_3, c7_4, e7_6, w7_6, e7_8, w7_8, c7_9, c7_10, c7_11]

/-! ### More statements -/
theorem Patterns_law (a b : Trp) : PCalls PR i_transitlaw17_TripPatterns [.agg a.row, .agg b.row] (fun v => v = .bool true) := by
  have hx := exampleHolds_ok
  have h1 := small17_ok a
  have h2 := small17_ok b
  simp only [Trp.row] at h1 h2
  refine acalls_pop fn_transitlaw17_TripPatterns_ok (by simp [fn_transitlaw17_TripPatterns]) ?_
  simp -implicitDefEqProofs (disch := omega) only [go_sem, Nat.reduceAdd, Nat.reduceMul, Nat.reduceSub, Nat.reduceBEq, Nat.reduceLeDiff, Nat.reduceLT, fn_transitlaw17_TripPatterns, e5_1, w5_1, e5_3, w5_3, c5_4, e5_6, w5_6, e5_8, w5_8, e5_10, w5_10, c5_11, e5_13, w5_13, e5_15, w5_15, e5_17, w5_17, e5_19, w5_19, c5_20, e5_22, w5_22, c5_23, e5_25, w5_25, c5_26, c5_27, c5_28, c5_29, c5_30, e5_32, w5_32, c5_33, c5_34, c5_35, c5_36, c5_37, c5_38, Trp.row]
  first | refine callD (h1) ?_ | refine callQD (h1) ?_
  refine ifB (fun h => ?_) (fun h => ?_)
  · simp -implicitDefEqProofs (disch := omega) only [go_sem, Nat.reduceAdd, Nat.reduceMul, Nat.reduceSub, Nat.reduceBEq, Nat.reduceLeDiff, Nat.reduceLT, fn_transitlaw17_TripPatterns, e5_1, w5_1, e5_3, w5_3, c5_4, e5_6, w5_6, e5_8, w5_8, e5_10, w5_10, c5_11, e5_13, w5_13, e5_15, w5_15, e5_17, w5_17, e5_19, w5_19, c5_20, e5_22, w5_22, c5_23, e5_25, w5_25, c5_26, c5_27, c5_28, c5_29, c5_30, e5_32, w5_32, c5_33, c5_34, c5_35, c5_36, c5_37, c5_38]
    first | refine callD (hx) ?_ | refine callQD (hx) ?_
    simp -implicitDefEqProofs (disch := omega) only [go_sem, Nat.reduceAdd, Nat.reduceMul, Nat.reduceSub, Nat.reduceBEq, Nat.reduceLeDiff, Nat.reduceLT, fn_transitlaw17_TripPatterns, e5_1, w5_1, e5_3, w5_3, c5_4, e5_6, w5_6, e5_8, w5_8, e5_10, w5_10, c5_11, e5_13, w5_13, e5_15, w5_15, e5_17, w5_17, e5_19, w5_19, c5_20, e5_22, w5_22, c5_23, e5_25, w5_25, c5_26, c5_27, c5_28, c5_29, c5_30, e5_32, w5_32, c5_33, c5_34, c5_35, c5_36, c5_37, c5_38]
  simp -implicitDefEqProofs (disch := omega) only [go_sem, Nat.reduceAdd, Nat.reduceMul, Nat.reduceSub, Nat.reduceBEq, Nat.reduceLeDiff, Nat.reduceLT, fn_transitlaw17_TripPatterns, e5_1, w5_1, e5_3, w5_3, c5_4, e5_6, w5_6, e5_8, w5_8, e5_10, w5_10, c5_11, e5_13, w5_13, e5_15, w5_15, e5_17, w5_17, e5_19, w5_19, c5_20, e5_22, w5_22, c5_23, e5_25, w5_25, c5_26, c5_27, c5_28, c5_29, c5_30, e5_32, w5_32, c5_33, c5_34, c5_35, c5_36, c5_37, c5_38]
  first | refine callD (h2) ?_ | refine callQD (h2) ?_
  refine ifB (fun h3 => ?_) (fun h3 => ?_)
  · simp -implicitDefEqProofs (disch := omega) only [go_sem, Nat.reduceAdd, Nat.reduceMul, Nat.reduceSub, Nat.reduceBEq, Nat.reduceLeDiff, Nat.reduceLT, fn_transitlaw17_TripPatterns, e5_1, w5_1, e5_3, w5_3, c5_4, e5_6, w5_6, e5_8, w5_8, e5_10, w5_10, c5_11, e5_13, w5_13, e5_15, w5_15, e5_17, w5_17, e5_19, w5_19, c5_20, e5_22, w5_22, c5_23, e5_25, w5_25, c5_26, c5_27, c5_28, c5_29, c5_30, e5_32, w5_32, c5_33, c5_34, c5_35, c5_36, c5_37, c5_38]
    first | refine callD (hx) ?_ | refine callQD (hx) ?_
    simp -implicitDefEqProofs (disch := omega) only [go_sem, Nat.reduceAdd, Nat.reduceMul, Nat.reduceSub, Nat.reduceBEq, Nat.reduceLeDiff, Nat.reduceLT, fn_transitlaw17_TripPatterns, e5_1, w5_1, e5_3, w5_3, c5_4, e5_6, w5_6, e5_8, w5_8, e5_10, w5_10, c5_11, e5_13, w5_13, e5_15, w5_15, e5_17, w5_17, e5_19, w5_19, c5_20, e5_22, w5_22, c5_23, e5_25, w5_25, c5_26, c5_27, c5_28, c5_29, c5_30, e5_32, w5_32, c5_33, c5_34, c5_35, c5_36, c5_37, c5_38]
  have ha : a.calls.length ≤ 1000 := by simp [smallT] at h; omega
  have h4 := Pattern_ok a ha
  have h5 := trip_SamePattern_ok a b ha
  have h6 := transitref17_SamePattern_ok a b ha
  have hsl : (stops a).length = a.calls.length := by simp [stops]
  simp only [Trp.row] at h4 h5 h6
  have hst : ∀ (i : Nat) (x : Stay), a.calls[i]? = some x → (stops a)[i]? = some x.stop := fun i x hx => by rw [stops, List.getElem?_map, hx]; rfl
  generalize stops a = p at *
  simp -implicitDefEqProofs (disch := omega) only [go_sem, Nat.reduceAdd, Nat.reduceMul, Nat.reduceSub, Nat.reduceBEq, Nat.reduceLeDiff, Nat.reduceLT, fn_transitlaw17_TripPatterns, e5_1, w5_1, e5_3, w5_3, c5_4, e5_6, w5_6, e5_8, w5_8, e5_10, w5_10, c5_11, e5_13, w5_13, e5_15, w5_15, e5_17, w5_17, e5_19, w5_19, c5_20, e5_22, w5_22, c5_23, e5_25, w5_25, c5_26, c5_27, c5_28, c5_29, c5_30, e5_32, w5_32, c5_33, c5_34, c5_35, c5_36, c5_37, c5_38]
  first | refine callD (h4) ?_ | refine callQD (h4) ?_
  simp -implicitDefEqProofs (disch := omega) only [go_sem, Nat.reduceAdd, Nat.reduceMul, Nat.reduceSub, Nat.reduceBEq, Nat.reduceLeDiff, Nat.reduceLT, fn_transitlaw17_TripPatterns, e5_1, w5_1, e5_3, w5_3, c5_4, e5_6, w5_6, e5_8, w5_8, e5_10, w5_10, c5_11, e5_13, w5_13, e5_15, w5_15, e5_17, w5_17, e5_19, w5_19, c5_20, e5_22, w5_22, c5_23, e5_25, w5_25, c5_26, c5_27, c5_28, c5_29, c5_30, e5_32, w5_32, c5_33, c5_34, c5_35, c5_36, c5_37, c5_38, List.length_map]
  refine ifD (fun h => ?_) (fun h => ?_)
  rotate_left
  · omega
  simp -implicitDefEqProofs (disch := omega) only [go_sem, Nat.reduceAdd, Nat.reduceMul, Nat.reduceSub, Nat.reduceBEq, Nat.reduceLeDiff, Nat.reduceLT, fn_transitlaw17_TripPatterns, e5_1, w5_1, e5_3, w5_3, c5_4, e5_6, w5_6, e5_8, w5_8, e5_10, w5_10, c5_11, e5_13, w5_13, e5_15, w5_15, e5_17, w5_17, e5_19, w5_19, c5_20, e5_22, w5_22, c5_23, e5_25, w5_25, c5_26, c5_27, c5_28, c5_29, c5_30, e5_32, w5_32, c5_33, c5_34, c5_35, c5_36, c5_37, c5_38, List.length_map]
  refine wpC_forL a.calls (fun i vs M => vs = [.ptr 0 0, .ptr 1 0, .slice (p.map iRow) .unk, .int .i64 i] ∧ M = [.box a.row, .box b.row]) ⟨rfl, rfl⟩ ?_ ?_
  · rintro i x vs M hx hi hd ⟨rfl, rfl⟩
    have gx := stay_at hx
    have gp := irow_at (hst i x hx)
    rw [← hsl] at hd
    simp -implicitDefEqProofs (disch := omega) only [go_sem, Nat.reduceAdd, Nat.reduceMul, Nat.reduceSub, Nat.reduceBEq, Nat.reduceLeDiff, Nat.reduceLT, fn_transitlaw17_TripPatterns, e5_1, w5_1, e5_3, w5_3, c5_4, e5_6, w5_6, e5_8, w5_8, e5_10, w5_10, c5_11, e5_13, w5_13, e5_15, w5_15, e5_17, w5_17, e5_19, w5_19, c5_20, e5_22, w5_22, c5_23, e5_25, w5_25, c5_26, c5_27, c5_28, c5_29, c5_30, e5_32, w5_32, c5_33, c5_34, c5_35, c5_36, c5_37, c5_38, Trp.row, List.length_map, hd, gx, gp]
    exact next_stay hi ⟨rfl, rfl⟩
  · rintro vs M ⟨rfl, rfl⟩
    rw [← hsl]
    simp -implicitDefEqProofs (disch := omega) only [go_sem, Nat.reduceAdd, Nat.reduceMul, Nat.reduceSub, Nat.reduceBEq, Nat.reduceLeDiff, Nat.reduceLT, fn_transitlaw17_TripPatterns, e5_1, w5_1, e5_3, w5_3, c5_4, e5_6, w5_6, e5_8, w5_8, e5_10, w5_10, c5_11, e5_13, w5_13, e5_15, w5_15, e5_17, w5_17, e5_19, w5_19, c5_20, e5_22, w5_22, c5_23, e5_25, w5_25, c5_26, c5_27, c5_28, c5_29, c5_30, e5_32, w5_32, c5_33, c5_34, c5_35, c5_36, c5_37, c5_38, Trp.row, List.length_map, dec_irrefl]
    first | refine callD (h5) ?_ | refine callQD (h5) ?_
    simp -implicitDefEqProofs (disch := omega) only [go_sem, Nat.reduceAdd, Nat.reduceMul, Nat.reduceSub, Nat.reduceBEq, Nat.reduceLeDiff, Nat.reduceLT, fn_transitlaw17_TripPatterns, e5_1, w5_1, e5_3, w5_3, c5_4, e5_6, w5_6, e5_8, w5_8, e5_10, w5_10, c5_11, e5_13, w5_13, e5_15, w5_15, e5_17, w5_17, e5_19, w5_19, c5_20, e5_22, w5_22, c5_23, e5_25, w5_25, c5_26, c5_27, c5_28, c5_29, c5_30, e5_32, w5_32, c5_33, c5_34, c5_35, c5_36, c5_37, c5_38, Trp.row]
    first | refine callD (h6) ?_ | refine callQD (h6) ?_
    simp -implicitDefEqProofs (disch := omega) only [go_sem, Nat.reduceAdd, Nat.reduceMul, Nat.reduceSub, Nat.reduceBEq, Nat.reduceLeDiff, Nat.reduceLT, fn_transitlaw17_TripPatterns, e5_1, w5_1, e5_3, w5_3, c5_4, e5_6, w5_6, e5_8, w5_8, e5_10, w5_10, c5_11, e5_13, w5_13, e5_15, w5_15, e5_17, w5_17, e5_19, w5_19, c5_20, e5_22, w5_22, c5_23, e5_25, w5_25, c5_26, c5_27, c5_28, c5_29, c5_30, e5_32, w5_32, c5_33, c5_34, c5_35, c5_36, c5_37, c5_38]
    first | refine callD (hx) ?_ | refine callQD (hx) ?_
    simp -implicitDefEqProofs (disch := omega) only [go_sem, Nat.reduceAdd, Nat.reduceMul, Nat.reduceSub, Nat.reduceBEq, Nat.reduceLeDiff, Nat.reduceLT, fn_transitlaw17_TripPatterns, e5_1, w5_1, e5_3, w5_3, c5_4, e5_6, w5_6, e5_8, w5_8, e5_10, w5_10, c5_11, e5_13, w5_13, e5_15, w5_15, e5_17, w5_17, e5_19, w5_19, c5_20, e5_22, w5_22, c5_23, e5_25, w5_25, c5_26, c5_27, c5_28, c5_29, c5_30, e5_32, w5_32, c5_33, c5_34, c5_35, c5_36, c5_37, c5_38]
/-! The elements of a filtered range, in order. -/
def flt (p : Nat → Bool) (n : Nat) : List Nat := (List.range n).filter p
theorem flt_succ (p : Nat → Bool) (n : Nat) : flt p (n + 1) = if p n then flt p n ++ [n] else flt p n := by
  rw [flt, List.range_succ, List.filter_append, ← flt]
  cases h : p n <;> simp [h]
theorem flt_pre (p : Nat → Bool) (m : Nat) : ∀ k, ∃ L, flt p (m + k) = flt p m ++ L
  | 0 => ⟨[], by simp⟩
  | k + 1 => by
    obtain ⟨L, h⟩ := flt_pre p m k
    rw [← Nat.add_assoc, flt_succ, h]
    cases p (m + k)
    · exact ⟨L, by simp⟩
    · exact ⟨L ++ [m + k], by simp⟩
theorem flt_at {p : Nat → Bool} {i n : Nat} (hi : i < n) (h : p i = true) : (flt p n)[(flt p i).length]? = some i := by
  obtain ⟨L, hL⟩ := flt_pre p (i + 1) (n - (i + 1))
  rw [show i + 1 + (n - (i + 1)) = n by omega, flt_succ, h, if_pos rfl] at hL
  rw [hL, List.append_assoc, List.getElem?_append_right (Nat.le_refl _), Nat.sub_self]; rfl
theorem flt_len (p : Nat → Bool) (n : Nat) : (flt p n).length ≤ n := Nat.le_trans (List.length_filter_le _ _) (by simp)
theorem flt_mem {p : Nat → Bool} {n i : Nat} : i ∈ flt p n ↔ i < n ∧ p i = true := by rw [flt, List.mem_filter, List.mem_range]
theorem Connects_law (l : List Trp) (c : Cap) (f g : Int) : PCalls PR i_transitlaw17_TripConnects [.slice (l.map Trp.row) c, .int .i64 f, .int .i64 g] (fun v => v = .bool true) := by
  have hx := exampleHolds_ok
  have ht := table_ok l c 40 (by omega)
  refine acalls_pop fn_transitlaw17_TripConnects_ok (by simp [fn_transitlaw17_TripConnects]) ?_
  simp -implicitDefEqProofs (disch := omega) only [go_sem, Nat.reduceAdd, Nat.reduceMul, Nat.reduceSub, Nat.reduceBEq, Nat.reduceLeDiff, Nat.reduceLT, fn_transitlaw17_TripConnects, e8_1, w8_1, e8_3, w8_3, c8_4, e8_6, w8_6, e8_8, w8_8, e8_10, w8_10, e8_12, w8_12, e8_14, w8_14, e8_16, w8_16, e8_18, w8_18, c8_19, e8_21, w8_21, e8_23, w8_23, c8_24, c8_25, c8_26, e8_28, w8_28, c8_29, c8_30, c8_31, c8_32, c8_33, e8_35, w8_35, c8_36, c8_37, c8_38, c8_39, c8_40, c8_41]
  first | refine callD (ht) ?_ | refine callQD (ht) ?_
  refine ifB (fun h => ?_) (fun h => ?_)
  · simp -implicitDefEqProofs (disch := omega) only [go_sem, Nat.reduceAdd, Nat.reduceMul, Nat.reduceSub, Nat.reduceBEq, Nat.reduceLeDiff, Nat.reduceLT, fn_transitlaw17_TripConnects, e8_1, w8_1, e8_3, w8_3, c8_4, e8_6, w8_6, e8_8, w8_8, e8_10, w8_10, e8_12, w8_12, e8_14, w8_14, e8_16, w8_16, e8_18, w8_18, c8_19, e8_21, w8_21, e8_23, w8_23, c8_24, c8_25, c8_26, e8_28, w8_28, c8_29, c8_30, c8_31, c8_32, c8_33, e8_35, w8_35, c8_36, c8_37, c8_38, c8_39, c8_40, c8_41]
    first | refine callD (hx) ?_ | refine callQD (hx) ?_
    simp -implicitDefEqProofs (disch := omega) only [go_sem, Nat.reduceAdd, Nat.reduceMul, Nat.reduceSub, Nat.reduceBEq, Nat.reduceLeDiff, Nat.reduceLT, fn_transitlaw17_TripConnects, e8_1, w8_1, e8_3, w8_3, c8_4, e8_6, w8_6, e8_8, w8_8, e8_10, w8_10, e8_12, w8_12, e8_14, w8_14, e8_16, w8_16, e8_18, w8_18, c8_19, e8_21, w8_21, e8_23, w8_23, c8_24, c8_25, c8_26, e8_28, w8_28, c8_29, c8_30, c8_31, c8_32, c8_33, e8_35, w8_35, c8_36, c8_37, c8_38, c8_39, c8_40, c8_41]
  obtain ⟨hl, hs⟩ := table_spec (l := l) (n := 40) (by simpa using h)
  have hc : ∀ t ∈ l, t.calls.length ≤ 1000 := fun t ht => by have := (hs t ht).2; omega
  have h1 := trip_Between_ok l c f g (by omega) hc
  have hat : ∀ i, i < l.length → connI l f g i = true → (betwU l f g l.length)[(betwU l f g i).length]? = some i := fun i hi h => flt_at hi h
  generalize hB : betwU l f g l.length = B at *
  simp -implicitDefEqProofs (disch := omega) only [go_sem, Nat.reduceAdd, Nat.reduceMul, Nat.reduceSub, Nat.reduceBEq, Nat.reduceLeDiff, Nat.reduceLT, fn_transitlaw17_TripConnects, e8_1, w8_1, e8_3, w8_3, c8_4, e8_6, w8_6, e8_8, w8_8, e8_10, w8_10, e8_12, w8_12, e8_14, w8_14, e8_16, w8_16, e8_18, w8_18, c8_19, e8_21, w8_21, e8_23, w8_23, c8_24, c8_25, c8_26, e8_28, w8_28, c8_29, c8_30, c8_31, c8_32, c8_33, e8_35, w8_35, c8_36, c8_37, c8_38, c8_39, c8_40, c8_41]
  first | refine callD (h1) ?_ | refine callQD (h1) ?_
  simp -implicitDefEqProofs (disch := omega) only [go_sem, Nat.reduceAdd, Nat.reduceMul, Nat.reduceSub, Nat.reduceBEq, Nat.reduceLeDiff, Nat.reduceLT, fn_transitlaw17_TripConnects, e8_1, w8_1, e8_3, w8_3, c8_4, e8_6, w8_6, e8_8, w8_8, e8_10, w8_10, e8_12, w8_12, e8_14, w8_14, e8_16, w8_16, e8_18, w8_18, c8_19, e8_21, w8_21, e8_23, w8_23, c8_24, c8_25, c8_26, e8_28, w8_28, c8_29, c8_30, c8_31, c8_32, c8_33, e8_35, w8_35, c8_36, c8_37, c8_38, c8_39, c8_40, c8_41, List.length_map]
  refine wpC_forL l (fun i vs M => vs = [.slice (l.map Trp.row) c, .int .i64 f, .int .i64 g, .slice ((ints B).map iRow) .unk, .int .i64 (betwU l f g i).length, .int .i64 i] ∧ M = []) ⟨rfl, rfl⟩ ?_ ?_
  · rintro i t vs M ht hi hd ⟨rfl, rfl⟩
    have hta := trp_at ht
    have hcn := transitref17_Connects_ok t f g (hc t (List.mem_of_getElem? ht))
    have hci : connI l f g i = conn t.calls f g := by simp only [connI, ht]
    have hsucc := betwU_succ l f g i
    have hlen := betwU_len l f g i
    have hat := hat i hi
    rw [hci] at hsucc hat
    simp only [Trp.row] at hcn
    simp -implicitDefEqProofs (disch := omega) only [go_sem, Nat.reduceAdd, Nat.reduceMul, Nat.reduceSub, Nat.reduceBEq, Nat.reduceLeDiff, Nat.reduceLT, fn_transitlaw17_TripConnects, e8_1, w8_1, e8_3, w8_3, c8_4, e8_6, w8_6, e8_8, w8_8, e8_10, w8_10, e8_12, w8_12, e8_14, w8_14, e8_16, w8_16, e8_18, w8_18, c8_19, e8_21, w8_21, e8_23, w8_23, c8_24, c8_25, c8_26, e8_28, w8_28, c8_29, c8_30, c8_31, c8_32, c8_33, e8_35, w8_35, c8_36, c8_37, c8_38, c8_39, c8_40, c8_41, List.length_map, hd, hta]
    first | refine callD (hcn) ?_ | refine callQD (hcn) ?_
    refine ifB (fun h => ?_) (fun h => ?_)
    · have h : conn t.calls f g = false := by simpa using h
      rw [h, if_neg (by simp)] at hsucc
      simp -implicitDefEqProofs (disch := omega) only [go_sem, Nat.reduceAdd, Nat.reduceMul, Nat.reduceSub, Nat.reduceBEq, Nat.reduceLeDiff, Nat.reduceLT, fn_transitlaw17_TripConnects, e8_1, w8_1, e8_3, w8_3, c8_4, e8_6, w8_6, e8_8, w8_8, e8_10, w8_10, e8_12, w8_12, e8_14, w8_14, e8_16, w8_16, e8_18, w8_18, c8_19, e8_21, w8_21, e8_23, w8_23, c8_24, c8_25, c8_26, e8_28, w8_28, c8_29, c8_30, c8_31, c8_32, c8_33, e8_35, w8_35, c8_36, c8_37, c8_38, c8_39, c8_40, c8_41]
      exact next_stay hi ⟨by rw [hsucc]; rfl, rfl⟩
    · have h : conn t.calls f g = true := by simpa using h
      rw [h, if_pos rfl] at hsucc
      have gb := irow_at (l := ints B) (i := (betwU l f g i).length) (x := (i : Int)) (by rw [ints, List.getElem?_map, hat h]; rfl)
      have hlt : (betwU l f g i).length < B.length := (List.getElem?_eq_some_iff.1 (hat h)).1
      have hil : (ints B).length = B.length := by simp [ints]
      have hd2 : decide ((B.length : Int) ≤ ((betwU l f g i).length : Int)) = false := decide_eq_false (by omega)
      have e2 : (betwU l f g (i + 1)).length = (betwU l f g i).length + 1 := by rw [hsucc]; simp
      generalize (betwU l f g i).length = k at *
      simp -implicitDefEqProofs (disch := omega) only [go_sem, Nat.reduceAdd, Nat.reduceMul, Nat.reduceSub, Nat.reduceBEq, Nat.reduceLeDiff, Nat.reduceLT, fn_transitlaw17_TripConnects, e8_1, w8_1, e8_3, w8_3, c8_4, e8_6, w8_6, e8_8, w8_8, e8_10, w8_10, e8_12, w8_12, e8_14, w8_14, e8_16, w8_16, e8_18, w8_18, c8_19, e8_21, w8_21, e8_23, w8_23, c8_24, c8_25, c8_26, e8_28, w8_28, c8_29, c8_30, c8_31, c8_32, c8_33, e8_35, w8_35, c8_36, c8_37, c8_38, c8_39, c8_40, c8_41, List.length_map, hil, hd2, gb]
      exact next_stay hi ⟨by rw [e2]; rfl, rfl⟩
  · rintro vs M ⟨rfl, rfl⟩
    have hil : (ints B).length = B.length := by simp [ints]
    rw [hB]
    simp -implicitDefEqProofs (disch := omega) only [go_sem, Nat.reduceAdd, Nat.reduceMul, Nat.reduceSub, Nat.reduceBEq, Nat.reduceLeDiff, Nat.reduceLT, fn_transitlaw17_TripConnects, e8_1, w8_1, e8_3, w8_3, c8_4, e8_6, w8_6, e8_8, w8_8, e8_10, w8_10, e8_12, w8_12, e8_14, w8_14, e8_16, w8_16, e8_18, w8_18, c8_19, e8_21, w8_21, e8_23, w8_23, c8_24, c8_25, c8_26, e8_28, w8_28, c8_29, c8_30, c8_31, c8_32, c8_33, e8_35, w8_35, c8_36, c8_37, c8_38, c8_39, c8_40, c8_41, List.length_map, dec_irrefl, hil]
    first | refine callD (hx) ?_ | refine callQD (hx) ?_
    simp -implicitDefEqProofs (disch := omega) only [go_sem, Nat.reduceAdd, Nat.reduceMul, Nat.reduceSub, Nat.reduceBEq, Nat.reduceLeDiff, Nat.reduceLT, fn_transitlaw17_TripConnects, e8_1, w8_1, e8_3, w8_3, c8_4, e8_6, w8_6, e8_8, w8_8, e8_10, w8_10, e8_12, w8_12, e8_14, w8_14, e8_16, w8_16, e8_18, w8_18, c8_19, e8_21, w8_21, e8_23, w8_23, c8_24, c8_25, c8_26, e8_28, w8_28, c8_29, c8_30, c8_31, c8_32, c8_33, e8_35, w8_35, c8_36, c8_37, c8_38, c8_39, c8_40, c8_41]
theorem earlier_self {l : List Trp} {i : Nat} (hi : i < l.length) (h : isFirst l i = true) : groupAt l i ≠ [] := by
  rw [groupAt_eq hi, if_pos h]
  intro e
  have ht : l[i]? = some (l[i]'hi) := by simp
  have : i ∈ grpU l (callsAt l i) l.length := by
    rw [grpU, List.mem_filter]
    refine ⟨List.mem_range.2 hi, ?_⟩
    rw [ht, callsAt_some ht]
    simp [samePat]
  rw [e] at this
  cases this
theorem Groups_law (l : List Trp) (c : Cap) (hw : ∀ t ∈ l, t.wf) : PCalls PR i_transitlaw17_TripGroups [.slice (l.map Trp.row) c] (fun v => v = .bool true) := by
  have hx := exampleHolds_ok
  have ht := table_ok l c 40 (by omega)
  refine acalls_pop fn_transitlaw17_TripGroups_ok (by simp [fn_transitlaw17_TripGroups]) ?_
  simp -implicitDefEqProofs (disch := omega) only [go_sem, Nat.reduceAdd, Nat.reduceMul, Nat.reduceSub, Nat.reduceBEq, Nat.reduceLeDiff, Nat.reduceLT, fn_transitlaw17_TripGroups, e6_1, w6_1, e6_3, w6_3, c6_4, e6_6, w6_6, e6_8, w6_8, e6_10, w6_10, e6_12, w6_12, e6_14, w6_14, e6_16, w6_16, e6_18, w6_18, e6_20, w6_20, c6_21, e6_23, w6_23, e6_25, w6_25, c6_26, c6_27, c6_28, c6_29, e6_31, w6_31, c6_32, c6_33, c6_34, c6_35, c6_36, e6_38, w6_38, c6_39, c6_40, c6_41, c6_42, c6_43, c6_44]
  first | refine callD (ht) ?_ | refine callQD (ht) ?_
  refine ifB (fun h => ?_) (fun h => ?_)
  · simp -implicitDefEqProofs (disch := omega) only [go_sem, Nat.reduceAdd, Nat.reduceMul, Nat.reduceSub, Nat.reduceBEq, Nat.reduceLeDiff, Nat.reduceLT, fn_transitlaw17_TripGroups, e6_1, w6_1, e6_3, w6_3, c6_4, e6_6, w6_6, e6_8, w6_8, e6_10, w6_10, e6_12, w6_12, e6_14, w6_14, e6_16, w6_16, e6_18, w6_18, e6_20, w6_20, c6_21, e6_23, w6_23, e6_25, w6_25, c6_26, c6_27, c6_28, c6_29, e6_31, w6_31, c6_32, c6_33, c6_34, c6_35, c6_36, e6_38, w6_38, c6_39, c6_40, c6_41, c6_42, c6_43, c6_44]
    first | refine callD (hx) ?_ | refine callQD (hx) ?_
    simp -implicitDefEqProofs (disch := omega) only [go_sem, Nat.reduceAdd, Nat.reduceMul, Nat.reduceSub, Nat.reduceBEq, Nat.reduceLeDiff, Nat.reduceLT, fn_transitlaw17_TripGroups, e6_1, w6_1, e6_3, w6_3, c6_4, e6_6, w6_6, e6_8, w6_8, e6_10, w6_10, e6_12, w6_12, e6_14, w6_14, e6_16, w6_16, e6_18, w6_18, e6_20, w6_20, c6_21, e6_23, w6_23, e6_25, w6_25, c6_26, c6_27, c6_28, c6_29, e6_31, w6_31, c6_32, c6_33, c6_34, c6_35, c6_36, e6_38, w6_38, c6_39, c6_40, c6_41, c6_42, c6_43, c6_44]
  obtain ⟨hl, hs⟩ := table_spec (l := l) (n := 40) (by simpa using h)
  have hc : ∀ t ∈ l, t.calls.length ≤ 1000 := fun t ht => by have := (hs t ht).2; omega
  have h1 := Groups_ok l c (by omega) (fun t ht => ⟨hc t ht, (hw t ht).2.2.2.1⟩)
  rw [grpsL_eq] at h1
  have hat : ∀ i, i < l.length → isFirst l i = true → ((firsts l l.length).map (groupAt l))[(firsts l i).length]? = some (groupAt l i) := fun i hi h => by
    rw [List.getElem?_map, show (firsts l l.length)[(firsts l i).length]? = some i from flt_at hi h]; rfl
  have hGl : ((firsts l l.length).map (groupAt l)).length = (firsts l l.length).length := by simp
  generalize (firsts l l.length).map (groupAt l) = G at *
  have hrow : ∀ (j : Nat) (x : List Nat), G[j]? = some x → (G.map fun g => [grpV g])[j]? = some [.slice ((ints x).map iRow) .unk] := fun j x h => by rw [List.getElem?_map, h, ← idx_rows]; rfl
  simp -implicitDefEqProofs (disch := omega) only [go_sem, Nat.reduceAdd, Nat.reduceMul, Nat.reduceSub, Nat.reduceBEq, Nat.reduceLeDiff, Nat.reduceLT, fn_transitlaw17_TripGroups, e6_1, w6_1, e6_3, w6_3, c6_4, e6_6, w6_6, e6_8, w6_8, e6_10, w6_10, e6_12, w6_12, e6_14, w6_14, e6_16, w6_16, e6_18, w6_18, e6_20, w6_20, c6_21, e6_23, w6_23, e6_25, w6_25, c6_26, c6_27, c6_28, c6_29, e6_31, w6_31, c6_32, c6_33, c6_34, c6_35, c6_36, e6_38, w6_38, c6_39, c6_40, c6_41, c6_42, c6_43, c6_44]
  first | refine callD (h1) ?_ | refine callQD (h1) ?_
  simp -implicitDefEqProofs (disch := omega) only [go_sem, Nat.reduceAdd, Nat.reduceMul, Nat.reduceSub, Nat.reduceBEq, Nat.reduceLeDiff, Nat.reduceLT, fn_transitlaw17_TripGroups, e6_1, w6_1, e6_3, w6_3, c6_4, e6_6, w6_6, e6_8, w6_8, e6_10, w6_10, e6_12, w6_12, e6_14, w6_14, e6_16, w6_16, e6_18, w6_18, e6_20, w6_20, c6_21, e6_23, w6_23, e6_25, w6_25, c6_26, c6_27, c6_28, c6_29, e6_31, w6_31, c6_32, c6_33, c6_34, c6_35, c6_36, e6_38, w6_38, c6_39, c6_40, c6_41, c6_42, c6_43, c6_44, grpsV, List.length_map]
  refine wpC_forL l (fun i vs M => vs = [.slice (l.map Trp.row) c, .slice (G.map fun g => [grpV g]) .unk, .int .i64 (firsts l i).length, .int .i64 i] ∧ M = []) ⟨rfl, rfl⟩ ?_ ?_
  · rintro i t vs M ht hi hd ⟨rfl, rfl⟩
    have hgr := transitref17_Group_ok l c i ht (by omega) hc
    have hsucc := firsts_succ l i
    have hlen : (firsts l i).length ≤ i := flt_len _ _
    have hat := hat i hi
    simp -implicitDefEqProofs (disch := omega) only [go_sem, Nat.reduceAdd, Nat.reduceMul, Nat.reduceSub, Nat.reduceBEq, Nat.reduceLeDiff, Nat.reduceLT, fn_transitlaw17_TripGroups, e6_1, w6_1, e6_3, w6_3, c6_4, e6_6, w6_6, e6_8, w6_8, e6_10, w6_10, e6_12, w6_12, e6_14, w6_14, e6_16, w6_16, e6_18, w6_18, e6_20, w6_20, c6_21, e6_23, w6_23, e6_25, w6_25, c6_26, c6_27, c6_28, c6_29, e6_31, w6_31, c6_32, c6_33, c6_34, c6_35, c6_36, e6_38, w6_38, c6_39, c6_40, c6_41, c6_42, c6_43, c6_44, List.length_map, hd]
    refine callP hgr ?_
    rintro v ⟨cap, rfl⟩
    have hil : (ints (groupAt l i)).length = (groupAt l i).length := by simp [ints]
    simp -implicitDefEqProofs (disch := omega) only [go_sem, Nat.reduceAdd, Nat.reduceMul, Nat.reduceSub, Nat.reduceBEq, Nat.reduceLeDiff, Nat.reduceLT, fn_transitlaw17_TripGroups, e6_1, w6_1, e6_3, w6_3, c6_4, e6_6, w6_6, e6_8, w6_8, e6_10, w6_10, e6_12, w6_12, e6_14, w6_14, e6_16, w6_16, e6_18, w6_18, e6_20, w6_20, c6_21, e6_23, w6_23, e6_25, w6_25, c6_26, c6_27, c6_28, c6_29, e6_31, w6_31, c6_32, c6_33, c6_34, c6_35, c6_36, e6_38, w6_38, c6_39, c6_40, c6_41, c6_42, c6_43, c6_44, List.length_map, hil]
    refine ifD (fun h => ?_) (fun h => ?_)
    · have hf : isFirst l i = false := by
        cases hf : isFirst l i with
        | false => rfl
        | true => exact absurd (List.length_eq_zero_iff.1 (by omega)) (earlier_self hi hf)
      rw [hf, if_neg (by simp)] at hsucc
      simp -implicitDefEqProofs (disch := omega) only [go_sem, Nat.reduceAdd, Nat.reduceMul, Nat.reduceSub, Nat.reduceBEq, Nat.reduceLeDiff, Nat.reduceLT, fn_transitlaw17_TripGroups, e6_1, w6_1, e6_3, w6_3, c6_4, e6_6, w6_6, e6_8, w6_8, e6_10, w6_10, e6_12, w6_12, e6_14, w6_14, e6_16, w6_16, e6_18, w6_18, e6_20, w6_20, c6_21, e6_23, w6_23, e6_25, w6_25, c6_26, c6_27, c6_28, c6_29, e6_31, w6_31, c6_32, c6_33, c6_34, c6_35, c6_36, e6_38, w6_38, c6_39, c6_40, c6_41, c6_42, c6_43, c6_44]
      exact next_stay hi ⟨by rw [hsucc]; rfl, rfl⟩
    · have hf : isFirst l i = true := by
        cases hf : isFirst l i with
        | true => rfl
        | false =>
          exfalso
          refine h ?_
          rw [groupAt_eq hi, hf]; rfl
      rw [hf, if_pos rfl] at hsucc
      have hgj := hat hf
      have gb := hrow _ _ hgj
      have hlt : (firsts l i).length < G.length := (List.getElem?_eq_some_iff.1 hgj).1
      have hd2 : decide ((G.length : Int) ≤ ((firsts l i).length : Int)) = false := decide_eq_false (by omega)
      have e2 : (firsts l (i + 1)).length = (firsts l i).length + 1 := by rw [hsucc]; simp
      have hgl : (groupAt l i).length ≤ 1000 := by
        rw [groupAt_eq hi, hf, if_pos rfl]
        have := grpU_len l (callsAt l i) l.length
        omega
      have hsm := same17_lit (ints (groupAt l i)) (ints (groupAt l i)) .unk cap (by rw [hil]; exact hgl) rfl
      generalize (firsts l i).length = k at *
      generalize ints (groupAt l i) = W at *
      simp -implicitDefEqProofs (disch := omega) only [go_sem, Nat.reduceAdd, Nat.reduceMul, Nat.reduceSub, Nat.reduceBEq, Nat.reduceLeDiff, Nat.reduceLT, fn_transitlaw17_TripGroups, e6_1, w6_1, e6_3, w6_3, c6_4, e6_6, w6_6, e6_8, w6_8, e6_10, w6_10, e6_12, w6_12, e6_14, w6_14, e6_16, w6_16, e6_18, w6_18, e6_20, w6_20, c6_21, e6_23, w6_23, e6_25, w6_25, c6_26, c6_27, c6_28, c6_29, e6_31, w6_31, c6_32, c6_33, c6_34, c6_35, c6_36, e6_38, w6_38, c6_39, c6_40, c6_41, c6_42, c6_43, c6_44, List.length_map, hd2, gb]
      first | refine callD (hsm) ?_ | refine callQD (hsm) ?_
      simp -implicitDefEqProofs (disch := omega) only [go_sem, Nat.reduceAdd, Nat.reduceMul, Nat.reduceSub, Nat.reduceBEq, Nat.reduceLeDiff, Nat.reduceLT, fn_transitlaw17_TripGroups, e6_1, w6_1, e6_3, w6_3, c6_4, e6_6, w6_6, e6_8, w6_8, e6_10, w6_10, e6_12, w6_12, e6_14, w6_14, e6_16, w6_16, e6_18, w6_18, e6_20, w6_20, c6_21, e6_23, w6_23, e6_25, w6_25, c6_26, c6_27, c6_28, c6_29, e6_31, w6_31, c6_32, c6_33, c6_34, c6_35, c6_36, e6_38, w6_38, c6_39, c6_40, c6_41, c6_42, c6_43, c6_44]
      exact next_stay hi ⟨by rw [e2]; rfl, rfl⟩
  · rintro vs M ⟨rfl, rfl⟩
    rw [← hGl]
    simp -implicitDefEqProofs (disch := omega) only [go_sem, Nat.reduceAdd, Nat.reduceMul, Nat.reduceSub, Nat.reduceBEq, Nat.reduceLeDiff, Nat.reduceLT, fn_transitlaw17_TripGroups, e6_1, w6_1, e6_3, w6_3, c6_4, e6_6, w6_6, e6_8, w6_8, e6_10, w6_10, e6_12, w6_12, e6_14, w6_14, e6_16, w6_16, e6_18, w6_18, e6_20, w6_20, c6_21, e6_23, w6_23, e6_25, w6_25, c6_26, c6_27, c6_28, c6_29, e6_31, w6_31, c6_32, c6_33, c6_34, c6_35, c6_36, e6_38, w6_38, c6_39, c6_40, c6_41, c6_42, c6_43, c6_44, List.length_map, dec_irrefl]
    first | refine callD (hx) ?_ | refine callQD (hx) ?_
    simp -implicitDefEqProofs (disch := omega) only [go_sem, Nat.reduceAdd, Nat.reduceMul, Nat.reduceSub, Nat.reduceBEq, Nat.reduceLeDiff, Nat.reduceLT, fn_transitlaw17_TripGroups, e6_1, w6_1, e6_3, w6_3, c6_4, e6_6, w6_6, e6_8, w6_8, e6_10, w6_10, e6_12, w6_12, e6_14, w6_14, e6_16, w6_16, e6_18, w6_18, e6_20, w6_20, c6_21, e6_23, w6_23, e6_25, w6_25, c6_26, c6_27, c6_28, c6_29, e6_31, w6_31, c6_32, c6_33, c6_34, c6_35, c6_36, e6_38, w6_38, c6_39, c6_40, c6_41, c6_42, c6_43, c6_44]
theorem Passes_law (l : List Trp) (c : Cap) (f g : Int) : PCalls PR i_transitlaw17_TripPasses [.slice (l.map Trp.row) c, .int .i64 f, .int .i64 g] (fun v => v = .bool true) := by
  have hx := exampleHolds_ok
  have ht := table_ok l c 40 (by omega)
  refine acalls_pop fn_transitlaw17_TripPasses_ok (by simp [fn_transitlaw17_TripPasses]) ?_
  simp -implicitDefEqProofs (disch := omega) only [go_sem, Nat.reduceAdd, Nat.reduceMul, Nat.reduceSub, Nat.reduceBEq, Nat.reduceLeDiff, Nat.reduceLT, fn_transitlaw17_TripPasses, e11_1, w11_1, e11_3, w11_3, c11_4, e11_6, w11_6, e11_8, w11_8, e11_10, w11_10, e11_12, w11_12, e11_14, w11_14, c11_15, e11_17, w11_17, c11_18, e11_20, w11_20, c11_21, c11_22, c11_23, c11_24, c11_25, e11_27, w11_27, c11_28, c11_29, c11_30, c11_31, c11_32]
  first | refine callD (ht) ?_ | refine callQD (ht) ?_
  refine ifB (fun h => ?_) (fun h => ?_)
  · simp -implicitDefEqProofs (disch := omega) only [go_sem, Nat.reduceAdd, Nat.reduceMul, Nat.reduceSub, Nat.reduceBEq, Nat.reduceLeDiff, Nat.reduceLT, fn_transitlaw17_TripPasses, e11_1, w11_1, e11_3, w11_3, c11_4, e11_6, w11_6, e11_8, w11_8, e11_10, w11_10, e11_12, w11_12, e11_14, w11_14, c11_15, e11_17, w11_17, c11_18, e11_20, w11_20, c11_21, c11_22, c11_23, c11_24, c11_25, e11_27, w11_27, c11_28, c11_29, c11_30, c11_31, c11_32]
    first | refine callD (hx) ?_ | refine callQD (hx) ?_
    simp -implicitDefEqProofs (disch := omega) only [go_sem, Nat.reduceAdd, Nat.reduceMul, Nat.reduceSub, Nat.reduceBEq, Nat.reduceLeDiff, Nat.reduceLT, fn_transitlaw17_TripPasses, e11_1, w11_1, e11_3, w11_3, c11_4, e11_6, w11_6, e11_8, w11_8, e11_10, w11_10, e11_12, w11_12, e11_14, w11_14, c11_15, e11_17, w11_17, c11_18, e11_20, w11_20, c11_21, c11_22, c11_23, c11_24, c11_25, e11_27, w11_27, c11_28, c11_29, c11_30, c11_31, c11_32]
  obtain ⟨hl, hs⟩ := table_spec (l := l) (n := 40) (by simpa using h)
  have hc : ∀ t ∈ l, t.calls.length ≤ 1000 := fun t ht => by have := (hs t ht).2; omega
  have h1 := trip_Between_ok l c f g (by omega) hc
  have hat : ∀ (j k : Nat), (betwU l f g l.length)[j]? = some k → k < l.length ∧ connI l f g k = true := fun j k h => flt_mem.1 (List.mem_of_getElem? h)
  have hBl : (betwU l f g l.length).length ≤ 1000 := by have := betwU_len l f g l.length; omega
  generalize betwU l f g l.length = B at *
  have hil : (ints B).length = B.length := by simp [ints]
  simp -implicitDefEqProofs (disch := omega) only [go_sem, Nat.reduceAdd, Nat.reduceMul, Nat.reduceSub, Nat.reduceBEq, Nat.reduceLeDiff, Nat.reduceLT, fn_transitlaw17_TripPasses, e11_1, w11_1, e11_3, w11_3, c11_4, e11_6, w11_6, e11_8, w11_8, e11_10, w11_10, e11_12, w11_12, e11_14, w11_14, c11_15, e11_17, w11_17, c11_18, e11_20, w11_20, c11_21, c11_22, c11_23, c11_24, c11_25, e11_27, w11_27, c11_28, c11_29, c11_30, c11_31, c11_32]
  first | refine callD (h1) ?_ | refine callQD (h1) ?_
  simp -implicitDefEqProofs (disch := omega) only [go_sem, Nat.reduceAdd, Nat.reduceMul, Nat.reduceSub, Nat.reduceBEq, Nat.reduceLeDiff, Nat.reduceLT, fn_transitlaw17_TripPasses, e11_1, w11_1, e11_3, w11_3, c11_4, e11_6, w11_6, e11_8, w11_8, e11_10, w11_10, e11_12, w11_12, e11_14, w11_14, c11_15, e11_17, w11_17, c11_18, e11_20, w11_20, c11_21, c11_22, c11_23, c11_24, c11_25, e11_27, w11_27, c11_28, c11_29, c11_30, c11_31, c11_32, List.length_map]
  refine wpC_forL B (fun i vs M => vs = [.slice (l.map Trp.row) c, .int .i64 f, .int .i64 g, .slice ((ints B).map iRow) .unk, .int .i64 i] ∧ M = []) ⟨rfl, rfl⟩ ?_ ?_
  · rintro i k vs M hk hi hd ⟨rfl, rfl⟩
    obtain ⟨hkl, hcon⟩ := hat i k hk
    have ht : l[k]? = some (l[k]'hkl) := by simp
    generalize l[k]'hkl = t at ht
    have hta := trp_at ht
    have hct := hc t (List.mem_of_getElem? ht)
    have hpt := Pattern_ok t hct
    have gb := irow_at (l := ints B) (i := i) (x := (k : Int)) (by rw [ints, List.getElem?_map, hk]; rfl)
    simp only [connI, ht] at hcon
    have hp : PassP (stops t) f g := by
      rw [conn, List.any_eq_true] at hcon
      obtain ⟨m, hm, h⟩ := hcon
      rw [connA] at h
      have hm := List.mem_range.1 hm
      obtain ⟨y, hy⟩ : ∃ y, t.calls[m]? = some y := ⟨t.calls[m], by simp⟩
      rw [hy] at h
      simp only [Bool.and_eq_true, decide_eq_true_eq] at h
      obtain ⟨i', x', h1, h2, h3, _⟩ := boardL_iff.1 h.1
      exact ⟨i', m, h1, by rw [stops, List.getElem?_map, h2, ← h3]; rfl, by rw [stops, List.getElem?_map, hy, ← h.2.1]; rfl⟩
    have hps := passes_ok (stops t) .unk f g (by simp [stops]; exact hct) hp
    have hd3 : decide ((k : Int) < 0) = false := decide_eq_false (by omega)
    have hd4 : decide ((l.length : Int) ≤ (k : Int)) = false := decide_eq_false (by omega)
    generalize stops t = P at *
    simp only [Trp.row] at hpt
    simp -implicitDefEqProofs (disch := omega) only [go_sem, Nat.reduceAdd, Nat.reduceMul, Nat.reduceSub, Nat.reduceBEq, Nat.reduceLeDiff, Nat.reduceLT, fn_transitlaw17_TripPasses, e11_1, w11_1, e11_3, w11_3, c11_4, e11_6, w11_6, e11_8, w11_8, e11_10, w11_10, e11_12, w11_12, e11_14, w11_14, c11_15, e11_17, w11_17, c11_18, e11_20, w11_20, c11_21, c11_22, c11_23, c11_24, c11_25, e11_27, w11_27, c11_28, c11_29, c11_30, c11_31, c11_32, List.length_map, hil, hd, gb, hd3, hd4, hta]
    first | refine callD (hpt) ?_ | refine callQD (hpt) ?_
    simp -implicitDefEqProofs (disch := omega) only [go_sem, Nat.reduceAdd, Nat.reduceMul, Nat.reduceSub, Nat.reduceBEq, Nat.reduceLeDiff, Nat.reduceLT, fn_transitlaw17_TripPasses, e11_1, w11_1, e11_3, w11_3, c11_4, e11_6, w11_6, e11_8, w11_8, e11_10, w11_10, e11_12, w11_12, e11_14, w11_14, c11_15, e11_17, w11_17, c11_18, e11_20, w11_20, c11_21, c11_22, c11_23, c11_24, c11_25, e11_27, w11_27, c11_28, c11_29, c11_30, c11_31, c11_32]
    first | refine callD (hps) ?_ | refine callQD (hps) ?_
    simp -implicitDefEqProofs (disch := omega) only [go_sem, Nat.reduceAdd, Nat.reduceMul, Nat.reduceSub, Nat.reduceBEq, Nat.reduceLeDiff, Nat.reduceLT, fn_transitlaw17_TripPasses, e11_1, w11_1, e11_3, w11_3, c11_4, e11_6, w11_6, e11_8, w11_8, e11_10, w11_10, e11_12, w11_12, e11_14, w11_14, c11_15, e11_17, w11_17, c11_18, e11_20, w11_20, c11_21, c11_22, c11_23, c11_24, c11_25, e11_27, w11_27, c11_28, c11_29, c11_30, c11_31, c11_32]
    exact next_stay hi ⟨rfl, rfl⟩
  · rintro vs M ⟨rfl, rfl⟩
    simp -implicitDefEqProofs (disch := omega) only [go_sem, Nat.reduceAdd, Nat.reduceMul, Nat.reduceSub, Nat.reduceBEq, Nat.reduceLeDiff, Nat.reduceLT, fn_transitlaw17_TripPasses, e11_1, w11_1, e11_3, w11_3, c11_4, e11_6, w11_6, e11_8, w11_8, e11_10, w11_10, e11_12, w11_12, e11_14, w11_14, c11_15, e11_17, w11_17, c11_18, e11_20, w11_20, c11_21, c11_22, c11_23, c11_24, c11_25, e11_27, w11_27, c11_28, c11_29, c11_30, c11_31, c11_32, List.length_map, hil, dec_irrefl]
    first | refine callD (hx) ?_ | refine callQD (hx) ?_
    simp -implicitDefEqProofs (disch := omega) only [go_sem, Nat.reduceAdd, Nat.reduceMul, Nat.reduceSub, Nat.reduceBEq, Nat.reduceLeDiff, Nat.reduceLT, fn_transitlaw17_TripPasses, e11_1, w11_1, e11_3, w11_3, c11_4, e11_6, w11_6, e11_8, w11_8, e11_10, w11_10, e11_12, w11_12, e11_14, w11_14, c11_15, e11_17, w11_17, c11_18, e11_20, w11_20, c11_21, c11_22, c11_23, c11_24, c11_25, e11_27, w11_27, c11_28, c11_29, c11_30, c11_31, c11_32]

/-! ### What the arguments read as -/
def ctStay : List CT := [.int .i64, .int .i64, .int .i64, .bool, .bool]
theorem read_stay {vs : List V} (h : HasR ctStay vs) : ∃ c : Stay, vs = c.row ∧ c.wf := by
  obtain ⟨_, _, rfl, h1, h⟩ := hasR_cons h
  obtain ⟨_, _, rfl, h2, h⟩ := hasR_cons h
  obtain ⟨_, _, rfl, h3, h⟩ := hasR_cons h
  obtain ⟨_, _, rfl, h4, h⟩ := hasR_cons h
  obtain ⟨_, _, rfl, h5, h⟩ := hasR_cons h
  cases hasR_nil h
  obtain ⟨a, rfl, ha⟩ := hasC_i64 h1
  obtain ⟨b, rfl, hb⟩ := hasC_i64 h2
  obtain ⟨c, rfl, hc⟩ := hasC_i64 h3
  obtain ⟨d, rfl⟩ := hasC_bool h4
  obtain ⟨e, rfl⟩ := hasC_bool h5
  exact ⟨⟨a, b, c, d, e⟩, rfl, ha, hb, hc⟩
def ctTrip : List CT := [.str, .int .i64, .int .i64, .bool, .slice ctStay]
theorem read_trip {vs : List V} (h : HasR ctTrip vs) : ∃ t : Trp, vs = t.row ∧ t.wf := by
  obtain ⟨_, _, rfl, h1, k1⟩ := hasR_cons h
  obtain ⟨_, _, rfl, h2, k2⟩ := hasR_cons k1
  obtain ⟨_, _, rfl, h3, k3⟩ := hasR_cons k2
  obtain ⟨_, _, rfl, h4, k4⟩ := hasR_cons k3
  obtain ⟨_, _, rfl, h5, k5⟩ := hasR_cons k4
  cases hasR_nil k5
  obtain ⟨a1, rfl, g1⟩ := hasC_str h1
  obtain ⟨a2, rfl, g2⟩ := hasC_i64 h2
  obtain ⟨a3, rfl, g3⟩ := hasC_i64 h3
  obtain ⟨a4, rfl⟩ := hasC_bool h4
  obtain ⟨l, c, rfl, hl, hlen, _⟩ := hasC_slice (fun vs h => read_stay h) h5
  exact ⟨⟨a1, a2, a3, a4, l, c⟩, rfl, g1, g2, g3, hl, hlen⟩
theorem read_trips {v : V} (h : HasC (.slice ctTrip) v) : ∃ (l : List Trp) (c : Cap), v = .slice (l.map Trp.row) c ∧ (∀ t ∈ l, t.wf) := by
  obtain ⟨l, c, rfl, hl, _, _⟩ := hasC_slice (fun vs h => read_trip h) h
  exact ⟨l, c, rfl, hl⟩

end Go.Vm.C

