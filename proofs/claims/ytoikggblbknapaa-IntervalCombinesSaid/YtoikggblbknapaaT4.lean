/- The chapter's example and the statements. -/
import Derived.Test.YtoikggblbknapaaT3

namespace Go.Vm.C
open Go.Vm
set_option maxHeartbeats 1000000
set_option maxRecDepth 10000
set_option linter.unusedSimpArgs false
set_option linter.unusedVariables false

/-! ### The chapter's example -/
theorem eqv {l m : List (Int × Int)} (c d : Cap) (hl : l.length ≤ 1000) (h : l = m) : PCalls PR i_transitlaw08_equal [.slice (l.map spRow) c, .slice (m.map spRow) d] (fun v => v = .bool true) :=
  equal_ok l m c d (by have hm : maxLen = 9223372036854775807 := by rfl
                       omega) h
def sl (l : List (Int × Int)) (c : Cap) : V := .slice (l.map spRow) c
theorem ex08_3 (Q : Exit → Slots → Mem → Prop) (s : Slots) (M : Mem) (h : ∀ v, v = sl [(1, 4), (5, 7)] .unk → Q .normal [(1, v)] M) : wpC PR c11_3 Q s M := by
  have h1 := Normalize_ok [(5, 7), (1, 3), (3, 4), (6, 6)] .full (by decide)
  rw [show nrm [(5, 7), (1, 3), (3, 4), (6, 6)] = [(1, 4), (5, 7)] from by decide +kernel] at h1
  rw [e11_3]
  exact callP (K := fun t13_6 M6 => Q .normal [(1, t13_6)] M6) h1 (fun v hv => h v hv)
theorem ex08_5 (Q : Exit → Slots → Mem → Prop) (s : Slots) (M : Mem) (h : ∀ v, v = sl [(1, 3), (5, 10)] .unk → Q .normal [(1, sget s 1), (2, v)] M) : wpC PR c11_5 Q s M := by
  have h1 := Subtract_ok [(1, 10)] [(3, 5)] .full .full (by decide) (by decide)
  rw [show cmb 2 [(1, 10)] [(3, 5)] = [(1, 3), (5, 10)] from by decide +kernel] at h1
  rw [e11_5]
  exact callP (K := fun t13_6 M6 => Q .normal [(1, sget s 1), (2, t13_6)] M6) h1 (fun v hv => h v hv)
theorem ex08_7 (Q : Exit → Slots → Mem → Prop) (s : Slots) (M : Mem) (h : ∀ v, v = sl [(1, 2), (9, 10)] .unk → Q .normal [(1, sget s 1), (2, sget s 2), (3, v)] M) : wpC PR c11_7 Q s M := by
  have h1 := Intersect_ok [(1, 10)] [(0, 2), (9, 12)] .full .full (by decide) (by decide)
  rw [show cmb 1 [(1, 10)] [(0, 2), (9, 12)] = [(1, 2), (9, 10)] from by decide +kernel] at h1
  rw [e11_7]
  exact callP (K := fun t13_6 M6 => Q .normal [(1, sget s 1), (2, sget s 2), (3, t13_6)] M6) h1 (fun v hv => h v hv)
theorem ex08_9 (Q : Exit → Slots → Mem → Prop) (s : Slots) (M : Mem) (h : Q .normal [(1, sget s 1), (2, sget s 2), (3, sget s 3), (4, .int .i64 5), (5, .bool true)] M) : wpC PR c11_9 Q s M := by
  have h1 := Length_ok [(1, 4), (2, 6)] .full (by decide) (by intro s hs; simp at hs; rcases hs with rfl | rfl <;> decide +kernel)
  rw [show lenRes [(1, 4), (2, 6)] = (5, true) from by decide +kernel] at h1
  rw [e11_9]
  exact callP (K := fun t29_4 M4 =>
  @OptVH (extractV t29_4 0) ⟨fun t30_6 =>
  @OptBH (extractV t29_4 1) ⟨fun b31_7 =>
  Q .normal [(1, sget s 1), (2, sget s 2), (3, sget s 3), (4, t30_6), (5, (.bool b31_7))] M4⟩⟩) h1 (fun v hv => by subst hv; exact h)
theorem ex08_11 (Q : Exit → Slots → Mem → Prop) (s : Slots) (M : Mem) (h : ∀ v, v = sl [(0, 1), (3, 5), (6, 8)] .unk → Q .normal [(1, sget s 1), (2, sget s 2), (3, sget s 3), (4, sget s 4), (5, sget s 5), (6, v)] M) : wpC PR c11_11 Q s M := by
  have h1 := Gaps_ok [(1, 3), (5, 6)] .full (0, 8) (by decide)
  rw [show cmb 2 [(0, 8)] [(1, 3), (5, 6)] = [(0, 1), (3, 5), (6, 8)] from by decide +kernel] at h1
  rw [e11_11]
  exact callP (K := fun t13_6 M6 => Q .normal [(1, sget s 1), (2, sget s 2), (3, sget s 3), (4, sget s 4), (5, sget s 5), (6, t13_6)] M6) h1 (fun v hv => h v hv)
theorem ex08_13 (Q : Exit → Slots → Mem → Prop) (s : Slots) (M : Mem) (h : ∀ v, v = sl [(1, 3)] .unk → Q .normal [(1, sget s 1), (2, sget s 2), (3, sget s 3), (4, sget s 4), (5, sget s 5), (6, sget s 6), (7, v)] M) : wpC PR c11_13 Q s M := by
  have h1 := Union_ok [(1, 2)] [(2, 3)] .full .full (by decide) (by decide)
  rw [show cmb 0 [(1, 2)] [(2, 3)] = [(1, 3)] from by decide +kernel] at h1
  rw [e11_13]
  exact callP (K := fun t13_6 M6 => Q .normal [(1, sget s 1), (2, sget s 2), (3, sget s 3), (4, sget s 4), (5, sget s 5), (6, sget s 6), (7, t13_6)] M6) h1 (fun v hv => h v hv)
theorem eqC {l : List (Int × Int)} {M : Mem} {K : V → Mem → Prop} (hl : l.length ≤ 1000) (h : K (.bool true) M) : @CallH PR i_transitlaw08_equal [sl l .unk, sl l .full] M ⟨K⟩ :=
  callP (eqv .unk .full hl rfl) fun v hv => by subst hv; exact h
theorem ex08_15 (Q : Exit → Slots → Mem → Prop) (s : Slots) (M : Mem) (g1 : sget s 1 = sl [(1, 4), (5, 7)] .unk) (g2 : sget s 2 = sl [(1, 3), (5, 10)] .unk) (g3 : sget s 3 = sl [(1, 2), (9, 10)] .unk) (g4 : sget s 4 = .int .i64 5) (g5 : sget s 5 = .bool true)
    (g6 : sget s 6 = sl [(0, 1), (3, 5), (6, 8)] .unk) (g7 : sget s 7 = sl [(1, 3)] .unk) (h : Q .normal [(0, .bool true)] M) : wpC PR c11_15 Q s M := by
  rw [e11_15, g1, g2, g3, g4, g5, g6, g7]
  refine eqC (l := [(1, 4), (5, 7)]) (by decide) ?_
  refine eqC (l := [(1, 3), (5, 10)]) (by decide) ?_
  refine eqC (l := [(1, 2), (9, 10)]) (by decide) ?_
  refine eqC (l := [(0, 1), (3, 5), (6, 8)]) (by decide) ?_
  refine eqC (l := [(1, 3)]) (by decide) ?_
  refine callP (interval_Valid_ok (0, 1)) ?_
  rintro v rfl
  refine callP (interval_Valid_ok (0, 0)) ?_
  rintro v rfl
  have c1 := interval_Contains_ok [(2, 3)] .full 2 (by decide)
  rw [show inS [(2, 3)] 2 = true from by decide +kernel] at c1
  refine callP c1 ?_
  rintro v rfl
  exact h

theorem example08_ok : PCalls PR i_transitlaw08_exampleHolds [] (fun v => v = .bool true) := by
  refine acalls_pop (fn := fn_transitlaw08_exampleHolds) fn_transitlaw08_exampleHolds_ok (Nat.zero_le _) ?_
  unfold wpPop
  simp only [fn_transitlaw08_exampleHolds]
  rw [c11_23, wpC_seq, e11_1, w11_1, seqK_normal, c11_22, wpC_seq]
  refine ex08_3 _ _ _ ?_
  rintro v rfl
  rw [seqK_normal, c11_21, wpC_seq]
  refine ex08_5 _ _ _ ?_
  rintro v rfl
  rw [seqK_normal, c11_20, wpC_seq]
  refine ex08_7 _ _ _ ?_
  rintro v rfl
  rw [seqK_normal, c11_19, wpC_seq]
  refine ex08_9 _ _ _ ?_
  rw [seqK_normal, c11_18, wpC_seq]
  refine ex08_11 _ _ _ ?_
  rintro v rfl
  rw [seqK_normal, c11_17, wpC_seq]
  refine ex08_13 _ _ _ ?_
  rintro v rfl
  rw [seqK_normal, c11_16, wpC_seq]
  refine ex08_15 _ _ _ rfl rfl rfl rfl rfl rfl rfl ?_
  rw [seqK_normal, wpC_ret]
  simp -implicitDefEqProofs (disch := omega) only [go_sem, Nat.reduceAdd, Nat.reduceMul, Nat.reduceSub, Nat.reduceBEq, Nat.reduceLeDiff, Nat.reduceLT]


/-! ### The statements -/
theorem spans' (l : List (Int × Int)) (c : Cap) (hl : l.length ≤ 60) : PCalls PR i_transitlaw08_spans [.slice (l.map spRow) c] (fun v => v = .slice (l.map spRow) .unk) := spans_ok l c (by omega)
theorem contains' (l : List (Int × Int)) (c : Cap) (x : Int) (hl : l.length ≤ 1000) : PCalls PR i_interval_Contains [.slice (l.map spRow) c, .int .i64 x] (fun v => v = .bool (inS l x)) := interval_Contains_ok l c x (by
  have hm : maxLen = 9223372036854775807 := by rfl
  omega)

theorem IntervalContains_law (l : List (Int × Int)) (c : Cap) (s : Int × Int) (x : Int) : PCalls PR i_transitlaw08_IntervalContains [.slice (l.map spRow) c, .agg (spRow s), .int .i64 x] (fun v => v = .bool true) := by
  have hm : maxLen = 9223372036854775807 := by rfl
  have hv := interval_Valid_ok s
  simp only [spRow] at hv
  refine acalls_pop fn_transitlaw08_IntervalContains_ok (by simp [fn_transitlaw08_IntervalContains]) ?_
  try simp -implicitDefEqProofs (disch := omega) only [go_sem, Nat.reduceAdd, Nat.reduceMul, Nat.reduceSub, Nat.reduceBEq, Nat.reduceLeDiff, Nat.reduceLT, fn_transitlaw08_IntervalContains, e3_1, w3_1, e3_3, w3_3, c3_4, e3_6, w3_6, e3_8, w3_8, c3_9, c3_10, c3_11, spRow]
  refine ifD (fun h => ?_) (fun h => ?_)
  · simp -implicitDefEqProofs (disch := omega) only [go_sem, Nat.reduceAdd, Nat.reduceMul, Nat.reduceSub, Nat.reduceBEq, Nat.reduceLeDiff, Nat.reduceLT, fn_transitlaw08_IntervalContains, e3_1, w3_1, e3_3, w3_3, c3_4, e3_6, w3_6, e3_8, w3_8, c3_9, c3_10, c3_11]
    first | refine callD (example08_ok) ?_ | refine callQD (example08_ok) ?_
    try simp -implicitDefEqProofs (disch := omega) only [go_sem, Nat.reduceAdd, Nat.reduceMul, Nat.reduceSub, Nat.reduceBEq, Nat.reduceLeDiff, Nat.reduceLT, fn_transitlaw08_IntervalContains, e3_1, w3_1, e3_3, w3_3, c3_4, e3_6, w3_6, e3_8, w3_8, c3_9, c3_10, c3_11]
  try simp -implicitDefEqProofs (disch := omega) only [go_sem, Nat.reduceAdd, Nat.reduceMul, Nat.reduceSub, Nat.reduceBEq, Nat.reduceLeDiff, Nat.reduceLT, fn_transitlaw08_IntervalContains, e3_1, w3_1, e3_3, w3_3, c3_4, e3_6, w3_6, e3_8, w3_8, c3_9, c3_10, c3_11]
  first | refine callD (hv) ?_ | refine callQD (hv) ?_
  try simp -implicitDefEqProofs (disch := omega) only [go_sem, Nat.reduceAdd, Nat.reduceMul, Nat.reduceSub, Nat.reduceBEq, Nat.reduceLeDiff, Nat.reduceLT, fn_transitlaw08_IntervalContains, e3_1, w3_1, e3_3, w3_3, c3_4, e3_6, w3_6, e3_8, w3_8, c3_9, c3_10, c3_11, decide_eq_true_eq]
  first | refine callD (spans' l c (by omega)) ?_ | refine callQD (spans' l c (by omega)) ?_
  try simp -implicitDefEqProofs (disch := omega) only [go_sem, Nat.reduceAdd, Nat.reduceMul, Nat.reduceSub, Nat.reduceBEq, Nat.reduceLeDiff, Nat.reduceLT, fn_transitlaw08_IntervalContains, e3_1, w3_1, e3_3, w3_3, c3_4, e3_6, w3_6, e3_8, w3_8, c3_9, c3_10, c3_11]
  first | refine callD (contains' l .unk x (by omega)) ?_ | refine callQD (contains' l .unk x (by omega)) ?_
  try simp -implicitDefEqProofs (disch := omega) only [go_sem, Nat.reduceAdd, Nat.reduceMul, Nat.reduceSub, Nat.reduceBEq, Nat.reduceLeDiff, Nat.reduceLT, fn_transitlaw08_IntervalContains, e3_1, w3_1, e3_3, w3_3, c3_4, e3_6, w3_6, e3_8, w3_8, c3_9, c3_10, c3_11]
  first | refine callD (transitref08_Contains_ok l c x (by omega)) ?_ | refine callQD (transitref08_Contains_ok l c x (by omega)) ?_
  try simp -implicitDefEqProofs (disch := omega) only [go_sem, Nat.reduceAdd, Nat.reduceMul, Nat.reduceSub, Nat.reduceBEq, Nat.reduceLeDiff, Nat.reduceLT, fn_transitlaw08_IntervalContains, e3_1, w3_1, e3_3, w3_3, c3_4, e3_6, w3_6, e3_8, w3_8, c3_9, c3_10, c3_11]
  first | refine callD (example08_ok) ?_ | refine callQD (example08_ok) ?_
  try simp -implicitDefEqProofs (disch := omega) only [go_sem, Nat.reduceAdd, Nat.reduceMul, Nat.reduceSub, Nat.reduceBEq, Nat.reduceLeDiff, Nat.reduceLT, fn_transitlaw08_IntervalContains, e3_1, w3_1, e3_3, w3_3, c3_4, e3_6, w3_6, e3_8, w3_8, c3_9, c3_10, c3_11]

theorem IntervalNormalizes_law (l : List (Int × Int)) (c : Cap) : PCalls PR i_transitlaw08_IntervalNormalizes [.slice (l.map spRow) c] (fun v => v = .bool true) := by
  refine acalls_pop fn_transitlaw08_IntervalNormalizes_ok (by simp [fn_transitlaw08_IntervalNormalizes]) ?_
  try simp -implicitDefEqProofs (disch := omega) only [go_sem, Nat.reduceAdd, Nat.reduceMul, Nat.reduceSub, Nat.reduceBEq, Nat.reduceLeDiff, Nat.reduceLT, fn_transitlaw08_IntervalNormalizes, e4_1, w4_1, e4_3, w4_3, c4_4, e4_6, w4_6, e4_8, w4_8, c4_9, c4_10, c4_11]
  refine ifD (fun h => ?_) (fun h => ?_)
  · simp -implicitDefEqProofs (disch := omega) only [go_sem, Nat.reduceAdd, Nat.reduceMul, Nat.reduceSub, Nat.reduceBEq, Nat.reduceLeDiff, Nat.reduceLT, fn_transitlaw08_IntervalNormalizes, e4_1, w4_1, e4_3, w4_3, c4_4, e4_6, w4_6, e4_8, w4_8, c4_9, c4_10, c4_11]
    first | refine callD (example08_ok) ?_ | refine callQD (example08_ok) ?_
    try simp -implicitDefEqProofs (disch := omega) only [go_sem, Nat.reduceAdd, Nat.reduceMul, Nat.reduceSub, Nat.reduceBEq, Nat.reduceLeDiff, Nat.reduceLT, fn_transitlaw08_IntervalNormalizes, e4_1, w4_1, e4_3, w4_3, c4_4, e4_6, w4_6, e4_8, w4_8, c4_9, c4_10, c4_11]
  have hc := transitref08_Combine_ok l [] c .nil 0 (by omega) (by simp)
  simp only [List.map_nil] at hc
  have hn := nrm_length l
  try simp -implicitDefEqProofs (disch := omega) only [go_sem, Nat.reduceAdd, Nat.reduceMul, Nat.reduceSub, Nat.reduceBEq, Nat.reduceLeDiff, Nat.reduceLT, fn_transitlaw08_IntervalNormalizes, e4_1, w4_1, e4_3, w4_3, c4_4, e4_6, w4_6, e4_8, w4_8, c4_9, c4_10, c4_11]
  first | refine callD (spans' l c (by omega)) ?_ | refine callQD (spans' l c (by omega)) ?_
  try simp -implicitDefEqProofs (disch := omega) only [go_sem, Nat.reduceAdd, Nat.reduceMul, Nat.reduceSub, Nat.reduceBEq, Nat.reduceLeDiff, Nat.reduceLT, fn_transitlaw08_IntervalNormalizes, e4_1, w4_1, e4_3, w4_3, c4_4, e4_6, w4_6, e4_8, w4_8, c4_9, c4_10, c4_11]
  first | refine callD (Normalize_ok l .unk (by omega)) ?_ | refine callQD (Normalize_ok l .unk (by omega)) ?_
  try simp -implicitDefEqProofs (disch := omega) only [go_sem, Nat.reduceAdd, Nat.reduceMul, Nat.reduceSub, Nat.reduceBEq, Nat.reduceLeDiff, Nat.reduceLT, fn_transitlaw08_IntervalNormalizes, e4_1, w4_1, e4_3, w4_3, c4_4, e4_6, w4_6, e4_8, w4_8, c4_9, c4_10, c4_11]
  first | refine callD (hc) ?_ | refine callQD (hc) ?_
  try simp -implicitDefEqProofs (disch := omega) only [go_sem, Nat.reduceAdd, Nat.reduceMul, Nat.reduceSub, Nat.reduceBEq, Nat.reduceLeDiff, Nat.reduceLT, fn_transitlaw08_IntervalNormalizes, e4_1, w4_1, e4_3, w4_3, c4_4, e4_6, w4_6, e4_8, w4_8, c4_9, c4_10, c4_11]
  first | refine callD (eqv .unk .unk (by omega) (nrm_ref l)) ?_ | refine callQD (eqv .unk .unk (by omega) (nrm_ref l)) ?_
  try simp -implicitDefEqProofs (disch := omega) only [go_sem, Nat.reduceAdd, Nat.reduceMul, Nat.reduceSub, Nat.reduceBEq, Nat.reduceLeDiff, Nat.reduceLT, fn_transitlaw08_IntervalNormalizes, e4_1, w4_1, e4_3, w4_3, c4_4, e4_6, w4_6, e4_8, w4_8, c4_9, c4_10, c4_11]
  first | refine callD (example08_ok) ?_ | refine callQD (example08_ok) ?_
  try simp -implicitDefEqProofs (disch := omega) only [go_sem, Nat.reduceAdd, Nat.reduceMul, Nat.reduceSub, Nat.reduceBEq, Nat.reduceLeDiff, Nat.reduceLT, fn_transitlaw08_IntervalNormalizes, e4_1, w4_1, e4_3, w4_3, c4_4, e4_6, w4_6, e4_8, w4_8, c4_9, c4_10, c4_11]

theorem IntervalCombines_law (a b : List (Int × Int)) (c d : Cap) : PCalls PR i_transitlaw08_IntervalCombines [.slice (a.map spRow) c, .slice (b.map spRow) d] (fun v => v = .bool true) := by
  refine acalls_pop fn_transitlaw08_IntervalCombines_ok (by simp [fn_transitlaw08_IntervalCombines]) ?_
  try simp -implicitDefEqProofs (disch := omega) only [go_sem, Nat.reduceAdd, Nat.reduceMul, Nat.reduceSub, Nat.reduceBEq, Nat.reduceLeDiff, Nat.reduceLT, fn_transitlaw08_IntervalCombines, e5_1, w5_1, e5_3, w5_3, c5_4, e5_6, w5_6, e5_8, w5_8, c5_9, c5_10, c5_11]
  refine ifD (fun h => ?_) (fun h => ?_)
  · simp -implicitDefEqProofs (disch := omega) only [go_sem, Nat.reduceAdd, Nat.reduceMul, Nat.reduceSub, Nat.reduceBEq, Nat.reduceLeDiff, Nat.reduceLT, fn_transitlaw08_IntervalCombines, e5_1, w5_1, e5_3, w5_3, c5_4, e5_6, w5_6, e5_8, w5_8, c5_9, c5_10, c5_11]
    first | refine callD (example08_ok) ?_ | refine callQD (example08_ok) ?_
    try simp -implicitDefEqProofs (disch := omega) only [go_sem, Nat.reduceAdd, Nat.reduceMul, Nat.reduceSub, Nat.reduceBEq, Nat.reduceLeDiff, Nat.reduceLT, fn_transitlaw08_IntervalCombines, e5_1, w5_1, e5_3, w5_3, c5_4, e5_6, w5_6, e5_8, w5_8, c5_9, c5_10, c5_11]
  try simp -implicitDefEqProofs (disch := omega) only [go_sem, Nat.reduceAdd, Nat.reduceMul, Nat.reduceSub, Nat.reduceBEq, Nat.reduceLeDiff, Nat.reduceLT, fn_transitlaw08_IntervalCombines, e5_1, w5_1, e5_3, w5_3, c5_4, e5_6, w5_6, e5_8, w5_8, c5_9, c5_10, c5_11]
  refine ifD (fun h' => ?_) (fun h' => ?_)
  · simp -implicitDefEqProofs (disch := omega) only [go_sem, Nat.reduceAdd, Nat.reduceMul, Nat.reduceSub, Nat.reduceBEq, Nat.reduceLeDiff, Nat.reduceLT, fn_transitlaw08_IntervalCombines, e5_1, w5_1, e5_3, w5_3, c5_4, e5_6, w5_6, e5_8, w5_8, c5_9, c5_10, c5_11]
    first | refine callD (example08_ok) ?_ | refine callQD (example08_ok) ?_
    try simp -implicitDefEqProofs (disch := omega) only [go_sem, Nat.reduceAdd, Nat.reduceMul, Nat.reduceSub, Nat.reduceBEq, Nat.reduceLeDiff, Nat.reduceLT, fn_transitlaw08_IntervalCombines, e5_1, w5_1, e5_3, w5_3, c5_4, e5_6, w5_6, e5_8, w5_8, c5_9, c5_10, c5_11]
  have hn := fun k => cmb_length k a b
  have hn0 := hn 0
  have hn1 := hn 1
  have hn2 := hn 2
  try simp -implicitDefEqProofs (disch := omega) only [go_sem, Nat.reduceAdd, Nat.reduceMul, Nat.reduceSub, Nat.reduceBEq, Nat.reduceLeDiff, Nat.reduceLT, fn_transitlaw08_IntervalCombines, e5_1, w5_1, e5_3, w5_3, c5_4, e5_6, w5_6, e5_8, w5_8, c5_9, c5_10, c5_11]
  first | refine callD (spans' a c (by omega)) ?_ | refine callQD (spans' a c (by omega)) ?_
  try simp -implicitDefEqProofs (disch := omega) only [go_sem, Nat.reduceAdd, Nat.reduceMul, Nat.reduceSub, Nat.reduceBEq, Nat.reduceLeDiff, Nat.reduceLT, fn_transitlaw08_IntervalCombines, e5_1, w5_1, e5_3, w5_3, c5_4, e5_6, w5_6, e5_8, w5_8, c5_9, c5_10, c5_11]
  first | refine callD (spans' b d (by omega)) ?_ | refine callQD (spans' b d (by omega)) ?_
  try simp -implicitDefEqProofs (disch := omega) only [go_sem, Nat.reduceAdd, Nat.reduceMul, Nat.reduceSub, Nat.reduceBEq, Nat.reduceLeDiff, Nat.reduceLT, fn_transitlaw08_IntervalCombines, e5_1, w5_1, e5_3, w5_3, c5_4, e5_6, w5_6, e5_8, w5_8, c5_9, c5_10, c5_11]
  first | refine callD (Union_ok a b .unk .unk (by omega) (by omega)) ?_ | refine callQD (Union_ok a b .unk .unk (by omega) (by omega)) ?_
  try simp -implicitDefEqProofs (disch := omega) only [go_sem, Nat.reduceAdd, Nat.reduceMul, Nat.reduceSub, Nat.reduceBEq, Nat.reduceLeDiff, Nat.reduceLT, fn_transitlaw08_IntervalCombines, e5_1, w5_1, e5_3, w5_3, c5_4, e5_6, w5_6, e5_8, w5_8, c5_9, c5_10, c5_11]
  first | refine callD (transitref08_Combine_ok a b c d 0 (by omega) (by omega)) ?_ | refine callQD (transitref08_Combine_ok a b c d 0 (by omega) (by omega)) ?_
  try simp -implicitDefEqProofs (disch := omega) only [go_sem, Nat.reduceAdd, Nat.reduceMul, Nat.reduceSub, Nat.reduceBEq, Nat.reduceLeDiff, Nat.reduceLT, fn_transitlaw08_IntervalCombines, e5_1, w5_1, e5_3, w5_3, c5_4, e5_6, w5_6, e5_8, w5_8, c5_9, c5_10, c5_11]
  first | refine callD (eqv .unk .unk (by omega) (cmb_ref 0 a b)) ?_ | refine callQD (eqv .unk .unk (by omega) (cmb_ref 0 a b)) ?_
  try simp -implicitDefEqProofs (disch := omega) only [go_sem, Nat.reduceAdd, Nat.reduceMul, Nat.reduceSub, Nat.reduceBEq, Nat.reduceLeDiff, Nat.reduceLT, fn_transitlaw08_IntervalCombines, e5_1, w5_1, e5_3, w5_3, c5_4, e5_6, w5_6, e5_8, w5_8, c5_9, c5_10, c5_11]
  first | refine callD (spans' a c (by omega)) ?_ | refine callQD (spans' a c (by omega)) ?_
  try simp -implicitDefEqProofs (disch := omega) only [go_sem, Nat.reduceAdd, Nat.reduceMul, Nat.reduceSub, Nat.reduceBEq, Nat.reduceLeDiff, Nat.reduceLT, fn_transitlaw08_IntervalCombines, e5_1, w5_1, e5_3, w5_3, c5_4, e5_6, w5_6, e5_8, w5_8, c5_9, c5_10, c5_11]
  first | refine callD (spans' b d (by omega)) ?_ | refine callQD (spans' b d (by omega)) ?_
  try simp -implicitDefEqProofs (disch := omega) only [go_sem, Nat.reduceAdd, Nat.reduceMul, Nat.reduceSub, Nat.reduceBEq, Nat.reduceLeDiff, Nat.reduceLT, fn_transitlaw08_IntervalCombines, e5_1, w5_1, e5_3, w5_3, c5_4, e5_6, w5_6, e5_8, w5_8, c5_9, c5_10, c5_11]
  first | refine callD (Intersect_ok a b .unk .unk (by omega) (by omega)) ?_ | refine callQD (Intersect_ok a b .unk .unk (by omega) (by omega)) ?_
  try simp -implicitDefEqProofs (disch := omega) only [go_sem, Nat.reduceAdd, Nat.reduceMul, Nat.reduceSub, Nat.reduceBEq, Nat.reduceLeDiff, Nat.reduceLT, fn_transitlaw08_IntervalCombines, e5_1, w5_1, e5_3, w5_3, c5_4, e5_6, w5_6, e5_8, w5_8, c5_9, c5_10, c5_11]
  first | refine callD (transitref08_Combine_ok a b c d 1 (by omega) (by omega)) ?_ | refine callQD (transitref08_Combine_ok a b c d 1 (by omega) (by omega)) ?_
  try simp -implicitDefEqProofs (disch := omega) only [go_sem, Nat.reduceAdd, Nat.reduceMul, Nat.reduceSub, Nat.reduceBEq, Nat.reduceLeDiff, Nat.reduceLT, fn_transitlaw08_IntervalCombines, e5_1, w5_1, e5_3, w5_3, c5_4, e5_6, w5_6, e5_8, w5_8, c5_9, c5_10, c5_11]
  first | refine callD (eqv .unk .unk (by omega) (cmb_ref 1 a b)) ?_ | refine callQD (eqv .unk .unk (by omega) (cmb_ref 1 a b)) ?_
  try simp -implicitDefEqProofs (disch := omega) only [go_sem, Nat.reduceAdd, Nat.reduceMul, Nat.reduceSub, Nat.reduceBEq, Nat.reduceLeDiff, Nat.reduceLT, fn_transitlaw08_IntervalCombines, e5_1, w5_1, e5_3, w5_3, c5_4, e5_6, w5_6, e5_8, w5_8, c5_9, c5_10, c5_11]
  first | refine callD (spans' a c (by omega)) ?_ | refine callQD (spans' a c (by omega)) ?_
  try simp -implicitDefEqProofs (disch := omega) only [go_sem, Nat.reduceAdd, Nat.reduceMul, Nat.reduceSub, Nat.reduceBEq, Nat.reduceLeDiff, Nat.reduceLT, fn_transitlaw08_IntervalCombines, e5_1, w5_1, e5_3, w5_3, c5_4, e5_6, w5_6, e5_8, w5_8, c5_9, c5_10, c5_11]
  first | refine callD (spans' b d (by omega)) ?_ | refine callQD (spans' b d (by omega)) ?_
  try simp -implicitDefEqProofs (disch := omega) only [go_sem, Nat.reduceAdd, Nat.reduceMul, Nat.reduceSub, Nat.reduceBEq, Nat.reduceLeDiff, Nat.reduceLT, fn_transitlaw08_IntervalCombines, e5_1, w5_1, e5_3, w5_3, c5_4, e5_6, w5_6, e5_8, w5_8, c5_9, c5_10, c5_11]
  first | refine callD (Subtract_ok a b .unk .unk (by omega) (by omega)) ?_ | refine callQD (Subtract_ok a b .unk .unk (by omega) (by omega)) ?_
  try simp -implicitDefEqProofs (disch := omega) only [go_sem, Nat.reduceAdd, Nat.reduceMul, Nat.reduceSub, Nat.reduceBEq, Nat.reduceLeDiff, Nat.reduceLT, fn_transitlaw08_IntervalCombines, e5_1, w5_1, e5_3, w5_3, c5_4, e5_6, w5_6, e5_8, w5_8, c5_9, c5_10, c5_11]
  first | refine callD (transitref08_Combine_ok a b c d 2 (by omega) (by omega)) ?_ | refine callQD (transitref08_Combine_ok a b c d 2 (by omega) (by omega)) ?_
  try simp -implicitDefEqProofs (disch := omega) only [go_sem, Nat.reduceAdd, Nat.reduceMul, Nat.reduceSub, Nat.reduceBEq, Nat.reduceLeDiff, Nat.reduceLT, fn_transitlaw08_IntervalCombines, e5_1, w5_1, e5_3, w5_3, c5_4, e5_6, w5_6, e5_8, w5_8, c5_9, c5_10, c5_11]
  first | refine callD (eqv .unk .unk (by omega) (cmb_ref 2 a b)) ?_ | refine callQD (eqv .unk .unk (by omega) (cmb_ref 2 a b)) ?_
  try simp -implicitDefEqProofs (disch := omega) only [go_sem, Nat.reduceAdd, Nat.reduceMul, Nat.reduceSub, Nat.reduceBEq, Nat.reduceLeDiff, Nat.reduceLT, fn_transitlaw08_IntervalCombines, e5_1, w5_1, e5_3, w5_3, c5_4, e5_6, w5_6, e5_8, w5_8, c5_9, c5_10, c5_11]
  first | refine callD (example08_ok) ?_ | refine callQD (example08_ok) ?_
  try simp -implicitDefEqProofs (disch := omega) only [go_sem, Nat.reduceAdd, Nat.reduceMul, Nat.reduceSub, Nat.reduceBEq, Nat.reduceLeDiff, Nat.reduceLT, fn_transitlaw08_IntervalCombines, e5_1, w5_1, e5_3, w5_3, c5_4, e5_6, w5_6, e5_8, w5_8, c5_9, c5_10, c5_11]

theorem IntervalLengths_law (l : List (Int × Int)) (c : Cap) (hE : Ends (-9223372036854775808) 9223372036854775807 l) : PCalls PR i_transitlaw08_IntervalLengths [.slice (l.map spRow) c] (fun v => v = .bool true) := by
  refine acalls_pop fn_transitlaw08_IntervalLengths_ok (by simp [fn_transitlaw08_IntervalLengths]) ?_
  try simp -implicitDefEqProofs (disch := omega) only [go_sem, Nat.reduceAdd, Nat.reduceMul, Nat.reduceSub, Nat.reduceBEq, Nat.reduceLeDiff, Nat.reduceLT, fn_transitlaw08_IntervalLengths, e6_1, w6_1, e6_3, w6_3, c6_4, e6_6, w6_6, e6_8, w6_8, e6_10, w6_10, e6_12, w6_12, c6_13, c6_14, c6_15, c6_16, c6_17]
  refine ifD (fun h => ?_) (fun h => ?_)
  · simp -implicitDefEqProofs (disch := omega) only [go_sem, Nat.reduceAdd, Nat.reduceMul, Nat.reduceSub, Nat.reduceBEq, Nat.reduceLeDiff, Nat.reduceLT, fn_transitlaw08_IntervalLengths, e6_1, w6_1, e6_3, w6_3, c6_4, e6_6, w6_6, e6_8, w6_8, e6_10, w6_10, e6_12, w6_12, c6_13, c6_14, c6_15, c6_16, c6_17]
    first | refine callD (example08_ok) ?_ | refine callQD (example08_ok) ?_
    try simp -implicitDefEqProofs (disch := omega) only [go_sem, Nat.reduceAdd, Nat.reduceMul, Nat.reduceSub, Nat.reduceBEq, Nat.reduceLeDiff, Nat.reduceLT, fn_transitlaw08_IntervalLengths, e6_1, w6_1, e6_3, w6_3, c6_4, e6_6, w6_6, e6_8, w6_8, e6_10, w6_10, e6_12, w6_12, c6_13, c6_14, c6_15, c6_16, c6_17]
  try simp -implicitDefEqProofs (disch := omega) only [go_sem, Nat.reduceAdd, Nat.reduceMul, Nat.reduceSub, Nat.reduceBEq, Nat.reduceLeDiff, Nat.reduceLT, fn_transitlaw08_IntervalLengths, e6_1, w6_1, e6_3, w6_3, c6_4, e6_6, w6_6, e6_8, w6_8, e6_10, w6_10, e6_12, w6_12, c6_13, c6_14, c6_15, c6_16, c6_17]
  first | refine callD (spans' l c (by omega)) ?_ | refine callQD (spans' l c (by omega)) ?_
  try simp -implicitDefEqProofs (disch := omega) only [go_sem, Nat.reduceAdd, Nat.reduceMul, Nat.reduceSub, Nat.reduceBEq, Nat.reduceLeDiff, Nat.reduceLT, fn_transitlaw08_IntervalLengths, e6_1, w6_1, e6_3, w6_3, c6_4, e6_6, w6_6, e6_8, w6_8, e6_10, w6_10, e6_12, w6_12, c6_13, c6_14, c6_15, c6_16, c6_17]
  first | refine callD (Length_ok l .unk (by omega) hE) ?_ | refine callQD (Length_ok l .unk (by omega) hE) ?_
  try simp -implicitDefEqProofs (disch := omega) only [go_sem, Nat.reduceAdd, Nat.reduceMul, Nat.reduceSub, Nat.reduceBEq, Nat.reduceLeDiff, Nat.reduceLT, fn_transitlaw08_IntervalLengths, e6_1, w6_1, e6_3, w6_3, c6_4, e6_6, w6_6, e6_8, w6_8, e6_10, w6_10, e6_12, w6_12, c6_13, c6_14, c6_15, c6_16, c6_17, lenV2]
  first | refine callD (transitref08_Length_ok l c (by omega) hE) ?_ | refine callQD (transitref08_Length_ok l c (by omega) hE) ?_
  try simp -implicitDefEqProofs (disch := omega) only [go_sem, Nat.reduceAdd, Nat.reduceMul, Nat.reduceSub, Nat.reduceBEq, Nat.reduceLeDiff, Nat.reduceLT, fn_transitlaw08_IntervalLengths, e6_1, w6_1, e6_3, w6_3, c6_4, e6_6, w6_6, e6_8, w6_8, e6_10, w6_10, e6_12, w6_12, c6_13, c6_14, c6_15, c6_16, c6_17, lenV2]
  first | refine callD (example08_ok) ?_ | refine callQD (example08_ok) ?_
  try simp -implicitDefEqProofs (disch := omega) only [go_sem, Nat.reduceAdd, Nat.reduceMul, Nat.reduceSub, Nat.reduceBEq, Nat.reduceLeDiff, Nat.reduceLT, fn_transitlaw08_IntervalLengths, e6_1, w6_1, e6_3, w6_3, c6_4, e6_6, w6_6, e6_8, w6_8, e6_10, w6_10, e6_12, w6_12, c6_13, c6_14, c6_15, c6_16, c6_17]

theorem IntervalGaps_law (l : List (Int × Int)) (c : Cap) (s : Int × Int) : PCalls PR i_transitlaw08_IntervalGaps [.slice (l.map spRow) c, .agg (spRow s)] (fun v => v = .bool true) := by
  refine acalls_pop fn_transitlaw08_IntervalGaps_ok (by simp [fn_transitlaw08_IntervalGaps]) ?_
  try simp -implicitDefEqProofs (disch := omega) only [go_sem, Nat.reduceAdd, Nat.reduceMul, Nat.reduceSub, Nat.reduceBEq, Nat.reduceLeDiff, Nat.reduceLT, fn_transitlaw08_IntervalGaps, e7_1, w7_1, e7_3, w7_3, c7_4, e7_6, w7_6, e7_8, w7_8, c7_9, c7_10, c7_11, spRow]
  refine ifD (fun h => ?_) (fun h => ?_)
  · simp -implicitDefEqProofs (disch := omega) only [go_sem, Nat.reduceAdd, Nat.reduceMul, Nat.reduceSub, Nat.reduceBEq, Nat.reduceLeDiff, Nat.reduceLT, fn_transitlaw08_IntervalGaps, e7_1, w7_1, e7_3, w7_3, c7_4, e7_6, w7_6, e7_8, w7_8, c7_9, c7_10, c7_11]
    first | refine callD (example08_ok) ?_ | refine callQD (example08_ok) ?_
    try simp -implicitDefEqProofs (disch := omega) only [go_sem, Nat.reduceAdd, Nat.reduceMul, Nat.reduceSub, Nat.reduceBEq, Nat.reduceLeDiff, Nat.reduceLT, fn_transitlaw08_IntervalGaps, e7_1, w7_1, e7_3, w7_3, c7_4, e7_6, w7_6, e7_8, w7_8, c7_9, c7_10, c7_11]
  have hg := Gaps_ok l .unk s (by omega)
  have hc := transitref08_Combine_ok [s] l .full c 2 (by simp) (by omega)
  simp only [spRow, List.map_cons, List.map_nil] at hg hc
  have hn := cmb_length 2 [s] l
  simp only [List.length_cons, List.length_nil] at hn
  try simp -implicitDefEqProofs (disch := omega) only [go_sem, Nat.reduceAdd, Nat.reduceMul, Nat.reduceSub, Nat.reduceBEq, Nat.reduceLeDiff, Nat.reduceLT, fn_transitlaw08_IntervalGaps, e7_1, w7_1, e7_3, w7_3, c7_4, e7_6, w7_6, e7_8, w7_8, c7_9, c7_10, c7_11]
  first | refine callD (spans' l c (by omega)) ?_ | refine callQD (spans' l c (by omega)) ?_
  try simp -implicitDefEqProofs (disch := omega) only [go_sem, Nat.reduceAdd, Nat.reduceMul, Nat.reduceSub, Nat.reduceBEq, Nat.reduceLeDiff, Nat.reduceLT, fn_transitlaw08_IntervalGaps, e7_1, w7_1, e7_3, w7_3, c7_4, e7_6, w7_6, e7_8, w7_8, c7_9, c7_10, c7_11]
  first | refine callD (hg) ?_ | refine callQD (hg) ?_
  try simp -implicitDefEqProofs (disch := omega) only [go_sem, Nat.reduceAdd, Nat.reduceMul, Nat.reduceSub, Nat.reduceBEq, Nat.reduceLeDiff, Nat.reduceLT, fn_transitlaw08_IntervalGaps, e7_1, w7_1, e7_3, w7_3, c7_4, e7_6, w7_6, e7_8, w7_8, c7_9, c7_10, c7_11]
  first | refine callD (hc) ?_ | refine callQD (hc) ?_
  try simp -implicitDefEqProofs (disch := omega) only [go_sem, Nat.reduceAdd, Nat.reduceMul, Nat.reduceSub, Nat.reduceBEq, Nat.reduceLeDiff, Nat.reduceLT, fn_transitlaw08_IntervalGaps, e7_1, w7_1, e7_3, w7_3, c7_4, e7_6, w7_6, e7_8, w7_8, c7_9, c7_10, c7_11]
  first | refine callD (eqv .unk .unk (by omega) (cmb_ref 2 [s] l)) ?_ | refine callQD (eqv .unk .unk (by omega) (cmb_ref 2 [s] l)) ?_
  try simp -implicitDefEqProofs (disch := omega) only [go_sem, Nat.reduceAdd, Nat.reduceMul, Nat.reduceSub, Nat.reduceBEq, Nat.reduceLeDiff, Nat.reduceLT, fn_transitlaw08_IntervalGaps, e7_1, w7_1, e7_3, w7_3, c7_4, e7_6, w7_6, e7_8, w7_8, c7_9, c7_10, c7_11]
  first | refine callD (example08_ok) ?_ | refine callQD (example08_ok) ?_
  try simp -implicitDefEqProofs (disch := omega) only [go_sem, Nat.reduceAdd, Nat.reduceMul, Nat.reduceSub, Nat.reduceBEq, Nat.reduceLeDiff, Nat.reduceLT, fn_transitlaw08_IntervalGaps, e7_1, w7_1, e7_3, w7_3, c7_4, e7_6, w7_6, e7_8, w7_8, c7_9, c7_10, c7_11]

theorem Ends.mono {lo hi lo' hi' : Int} {l : List (Int × Int)} (h : Ends lo hi l) (h1 : lo' ≤ lo) (h2 : hi ≤ hi') : Ends lo' hi' l := fun s hs => by
  have := h s hs
  omega
theorem bnd_ends {l : List (Int × Int)} (h : bnd l = true) : Ends (-1099511627776) 1099511627776 l := fun s hs => by
  have := List.all_eq_true.1 h s hs
  simp only [Bool.and_eq_true, decide_eq_true_eq] at this
  omega
theorem lenRes_of {l : List (Int × Int)} (h : meas (nrm l) ≤ 9223372036854775807) : lenRes l = (meas (nrm l), true) := by rw [lenRes, if_neg (by omega)]
theorem same' (l m : List (Int × Int)) (c d : Cap) (hl : l.length ≤ 1000) (h : l = m) : PCalls PR i_transitlaw08_same [.slice (l.map spRow) c, .slice (m.map spRow) d] (fun v => v = .bool true) := same08_ok l m c d (by
  have hm : maxLen = 9223372036854775807 := by rfl
  omega) h
theorem normal' (l : List (Int × Int)) (c : Cap) (hl : l.length ≤ 1000) (h : NF l) : PCalls PR i_transitlaw08_normal [.slice (l.map spRow) c] (fun v => v = .bool true) := normal_ok l c (by
  have hm : maxLen = 9223372036854775807 := by rfl
  omega) h
theorem bounded' (l : List (Int × Int)) (c : Cap) (hl : l.length ≤ 1000) : PCalls PR i_transitlaw08_bounded [.slice (l.map spRow) c] (fun v => v = .bool (bnd l)) := bounded_ok l c (by
  have hm : maxLen = 9223372036854775807 := by rfl
  omega)

theorem IntervalCanonical_law (a b : List (Int × Int)) (c d : Cap) : PCalls PR i_transitlaw08_IntervalCanonical [.slice (a.map spRow) c, .slice (b.map spRow) d] (fun v => v = .bool true) := by
  refine acalls_pop fn_transitlaw08_IntervalCanonical_ok (by simp [fn_transitlaw08_IntervalCanonical]) ?_
  simp -implicitDefEqProofs (disch := omega) only [go_sem, Nat.reduceAdd, Nat.reduceMul, Nat.reduceSub, Nat.reduceBEq, Nat.reduceLeDiff, Nat.reduceLT, fn_transitlaw08_IntervalCanonical, e9_1, w9_1, e9_3, w9_3, c9_4, e9_6, w9_6, e9_8, w9_8, e9_10, w9_10, e9_12, w9_12, e9_14, w9_14, c9_15, c9_16, c9_17, c9_18, c9_19, c9_20]
  refine ifD (fun h => ?_) (fun h => ?_)
  · simp -implicitDefEqProofs (disch := omega) only [go_sem, Nat.reduceAdd, Nat.reduceMul, Nat.reduceSub, Nat.reduceBEq, Nat.reduceLeDiff, Nat.reduceLT, fn_transitlaw08_IntervalCanonical, e9_1, w9_1, e9_3, w9_3, c9_4, e9_6, w9_6, e9_8, w9_8, e9_10, w9_10, e9_12, w9_12, e9_14, w9_14, c9_15, c9_16, c9_17, c9_18, c9_19, c9_20]
    first | refine callD (example08_ok) ?_ | refine callQD (example08_ok) ?_
    simp -implicitDefEqProofs (disch := omega) only [go_sem, Nat.reduceAdd, Nat.reduceMul, Nat.reduceSub, Nat.reduceBEq, Nat.reduceLeDiff, Nat.reduceLT, fn_transitlaw08_IntervalCanonical, e9_1, w9_1, e9_3, w9_3, c9_4, e9_6, w9_6, e9_8, w9_8, e9_10, w9_10, e9_12, w9_12, e9_14, w9_14, c9_15, c9_16, c9_17, c9_18, c9_19, c9_20]
  simp -implicitDefEqProofs (disch := omega) only [go_sem, Nat.reduceAdd, Nat.reduceMul, Nat.reduceSub, Nat.reduceBEq, Nat.reduceLeDiff, Nat.reduceLT, fn_transitlaw08_IntervalCanonical, e9_1, w9_1, e9_3, w9_3, c9_4, e9_6, w9_6, e9_8, w9_8, e9_10, w9_10, e9_12, w9_12, e9_14, w9_14, c9_15, c9_16, c9_17, c9_18, c9_19, c9_20]
  refine ifD (fun h' => ?_) (fun h' => ?_)
  · simp -implicitDefEqProofs (disch := omega) only [go_sem, Nat.reduceAdd, Nat.reduceMul, Nat.reduceSub, Nat.reduceBEq, Nat.reduceLeDiff, Nat.reduceLT, fn_transitlaw08_IntervalCanonical, e9_1, w9_1, e9_3, w9_3, c9_4, e9_6, w9_6, e9_8, w9_8, e9_10, w9_10, e9_12, w9_12, e9_14, w9_14, c9_15, c9_16, c9_17, c9_18, c9_19, c9_20]
    first | refine callD (example08_ok) ?_ | refine callQD (example08_ok) ?_
    simp -implicitDefEqProofs (disch := omega) only [go_sem, Nat.reduceAdd, Nat.reduceMul, Nat.reduceSub, Nat.reduceBEq, Nat.reduceLeDiff, Nat.reduceLT, fn_transitlaw08_IntervalCanonical, e9_1, w9_1, e9_3, w9_3, c9_4, e9_6, w9_6, e9_8, w9_8, e9_10, w9_10, e9_12, w9_12, e9_14, w9_14, c9_15, c9_16, c9_17, c9_18, c9_19, c9_20]
  have hn0 := cmb_length 0 a b
  have hn1 := cmb_length 1 a b
  have hn2 := cmb_length 2 a b
  have hn3 := cmb_length 0 b a
  have hn4 := cmb_length 1 b a
  have hn5 := nrm_length a
  have hn6 := nrm_length (nrm a)
  try simp -implicitDefEqProofs (disch := omega) only [go_sem, Nat.reduceAdd, Nat.reduceMul, Nat.reduceSub, Nat.reduceBEq, Nat.reduceLeDiff, Nat.reduceLT, fn_transitlaw08_IntervalCanonical, e9_1, w9_1, e9_3, w9_3, c9_4, e9_6, w9_6, e9_8, w9_8, e9_10, w9_10, e9_12, w9_12, e9_14, w9_14, c9_15, c9_16, c9_17, c9_18, c9_19, c9_20]
  first | refine callD (spans' a c (by omega)) ?_ | refine callQD (spans' a c (by omega)) ?_
  try simp -implicitDefEqProofs (disch := omega) only [go_sem, Nat.reduceAdd, Nat.reduceMul, Nat.reduceSub, Nat.reduceBEq, Nat.reduceLeDiff, Nat.reduceLT, fn_transitlaw08_IntervalCanonical, e9_1, w9_1, e9_3, w9_3, c9_4, e9_6, w9_6, e9_8, w9_8, e9_10, w9_10, e9_12, w9_12, e9_14, w9_14, c9_15, c9_16, c9_17, c9_18, c9_19, c9_20]
  first | refine callD (spans' b d (by omega)) ?_ | refine callQD (spans' b d (by omega)) ?_
  try simp -implicitDefEqProofs (disch := omega) only [go_sem, Nat.reduceAdd, Nat.reduceMul, Nat.reduceSub, Nat.reduceBEq, Nat.reduceLeDiff, Nat.reduceLT, fn_transitlaw08_IntervalCanonical, e9_1, w9_1, e9_3, w9_3, c9_4, e9_6, w9_6, e9_8, w9_8, e9_10, w9_10, e9_12, w9_12, e9_14, w9_14, c9_15, c9_16, c9_17, c9_18, c9_19, c9_20]
  first | refine callD (Normalize_ok a .unk (by omega)) ?_ | refine callQD (Normalize_ok a .unk (by omega)) ?_
  try simp -implicitDefEqProofs (disch := omega) only [go_sem, Nat.reduceAdd, Nat.reduceMul, Nat.reduceSub, Nat.reduceBEq, Nat.reduceLeDiff, Nat.reduceLT, fn_transitlaw08_IntervalCanonical, e9_1, w9_1, e9_3, w9_3, c9_4, e9_6, w9_6, e9_8, w9_8, e9_10, w9_10, e9_12, w9_12, e9_14, w9_14, c9_15, c9_16, c9_17, c9_18, c9_19, c9_20]
  first | refine callD (Union_ok a b .unk .unk (by omega) (by omega)) ?_ | refine callQD (Union_ok a b .unk .unk (by omega) (by omega)) ?_
  try simp -implicitDefEqProofs (disch := omega) only [go_sem, Nat.reduceAdd, Nat.reduceMul, Nat.reduceSub, Nat.reduceBEq, Nat.reduceLeDiff, Nat.reduceLT, fn_transitlaw08_IntervalCanonical, e9_1, w9_1, e9_3, w9_3, c9_4, e9_6, w9_6, e9_8, w9_8, e9_10, w9_10, e9_12, w9_12, e9_14, w9_14, c9_15, c9_16, c9_17, c9_18, c9_19, c9_20]
  first | refine callD (Intersect_ok a b .unk .unk (by omega) (by omega)) ?_ | refine callQD (Intersect_ok a b .unk .unk (by omega) (by omega)) ?_
  try simp -implicitDefEqProofs (disch := omega) only [go_sem, Nat.reduceAdd, Nat.reduceMul, Nat.reduceSub, Nat.reduceBEq, Nat.reduceLeDiff, Nat.reduceLT, fn_transitlaw08_IntervalCanonical, e9_1, w9_1, e9_3, w9_3, c9_4, e9_6, w9_6, e9_8, w9_8, e9_10, w9_10, e9_12, w9_12, e9_14, w9_14, c9_15, c9_16, c9_17, c9_18, c9_19, c9_20]
  first | refine callD (normal' (nrm a) .unk (by omega) (nf_nrm a)) ?_ | refine callQD (normal' (nrm a) .unk (by omega) (nf_nrm a)) ?_
  try simp -implicitDefEqProofs (disch := omega) only [go_sem, Nat.reduceAdd, Nat.reduceMul, Nat.reduceSub, Nat.reduceBEq, Nat.reduceLeDiff, Nat.reduceLT, fn_transitlaw08_IntervalCanonical, e9_1, w9_1, e9_3, w9_3, c9_4, e9_6, w9_6, e9_8, w9_8, e9_10, w9_10, e9_12, w9_12, e9_14, w9_14, c9_15, c9_16, c9_17, c9_18, c9_19, c9_20]
  first | refine callD (normal' (cmb 0 a b) .unk (by omega) (nf_cmb 0 a b)) ?_ | refine callQD (normal' (cmb 0 a b) .unk (by omega) (nf_cmb 0 a b)) ?_
  try simp -implicitDefEqProofs (disch := omega) only [go_sem, Nat.reduceAdd, Nat.reduceMul, Nat.reduceSub, Nat.reduceBEq, Nat.reduceLeDiff, Nat.reduceLT, fn_transitlaw08_IntervalCanonical, e9_1, w9_1, e9_3, w9_3, c9_4, e9_6, w9_6, e9_8, w9_8, e9_10, w9_10, e9_12, w9_12, e9_14, w9_14, c9_15, c9_16, c9_17, c9_18, c9_19, c9_20]
  first | refine callD (normal' (cmb 1 a b) .unk (by omega) (nf_cmb 1 a b)) ?_ | refine callQD (normal' (cmb 1 a b) .unk (by omega) (nf_cmb 1 a b)) ?_
  try simp -implicitDefEqProofs (disch := omega) only [go_sem, Nat.reduceAdd, Nat.reduceMul, Nat.reduceSub, Nat.reduceBEq, Nat.reduceLeDiff, Nat.reduceLT, fn_transitlaw08_IntervalCanonical, e9_1, w9_1, e9_3, w9_3, c9_4, e9_6, w9_6, e9_8, w9_8, e9_10, w9_10, e9_12, w9_12, e9_14, w9_14, c9_15, c9_16, c9_17, c9_18, c9_19, c9_20]
  first | refine callD (Subtract_ok a b .unk .unk (by omega) (by omega)) ?_ | refine callQD (Subtract_ok a b .unk .unk (by omega) (by omega)) ?_
  try simp -implicitDefEqProofs (disch := omega) only [go_sem, Nat.reduceAdd, Nat.reduceMul, Nat.reduceSub, Nat.reduceBEq, Nat.reduceLeDiff, Nat.reduceLT, fn_transitlaw08_IntervalCanonical, e9_1, w9_1, e9_3, w9_3, c9_4, e9_6, w9_6, e9_8, w9_8, e9_10, w9_10, e9_12, w9_12, e9_14, w9_14, c9_15, c9_16, c9_17, c9_18, c9_19, c9_20]
  first | refine callD (normal' (cmb 2 a b) .unk (by omega) (nf_cmb 2 a b)) ?_ | refine callQD (normal' (cmb 2 a b) .unk (by omega) (nf_cmb 2 a b)) ?_
  try simp -implicitDefEqProofs (disch := omega) only [go_sem, Nat.reduceAdd, Nat.reduceMul, Nat.reduceSub, Nat.reduceBEq, Nat.reduceLeDiff, Nat.reduceLT, fn_transitlaw08_IntervalCanonical, e9_1, w9_1, e9_3, w9_3, c9_4, e9_6, w9_6, e9_8, w9_8, e9_10, w9_10, e9_12, w9_12, e9_14, w9_14, c9_15, c9_16, c9_17, c9_18, c9_19, c9_20]
  first | refine callD (Normalize_ok (nrm a) .unk (by omega)) ?_ | refine callQD (Normalize_ok (nrm a) .unk (by omega)) ?_
  try simp -implicitDefEqProofs (disch := omega) only [go_sem, Nat.reduceAdd, Nat.reduceMul, Nat.reduceSub, Nat.reduceBEq, Nat.reduceLeDiff, Nat.reduceLT, fn_transitlaw08_IntervalCanonical, e9_1, w9_1, e9_3, w9_3, c9_4, e9_6, w9_6, e9_8, w9_8, e9_10, w9_10, e9_12, w9_12, e9_14, w9_14, c9_15, c9_16, c9_17, c9_18, c9_19, c9_20]
  first | refine callD (same' (nrm (nrm a)) (nrm a) .unk .unk (by omega) (nrm_nrm a)) ?_ | refine callQD (same' (nrm (nrm a)) (nrm a) .unk .unk (by omega) (nrm_nrm a)) ?_
  try simp -implicitDefEqProofs (disch := omega) only [go_sem, Nat.reduceAdd, Nat.reduceMul, Nat.reduceSub, Nat.reduceBEq, Nat.reduceLeDiff, Nat.reduceLT, fn_transitlaw08_IntervalCanonical, e9_1, w9_1, e9_3, w9_3, c9_4, e9_6, w9_6, e9_8, w9_8, e9_10, w9_10, e9_12, w9_12, e9_14, w9_14, c9_15, c9_16, c9_17, c9_18, c9_19, c9_20]
  first | refine callD (Union_ok b a .unk .unk (by omega) (by omega)) ?_ | refine callQD (Union_ok b a .unk .unk (by omega) (by omega)) ?_
  try simp -implicitDefEqProofs (disch := omega) only [go_sem, Nat.reduceAdd, Nat.reduceMul, Nat.reduceSub, Nat.reduceBEq, Nat.reduceLeDiff, Nat.reduceLT, fn_transitlaw08_IntervalCanonical, e9_1, w9_1, e9_3, w9_3, c9_4, e9_6, w9_6, e9_8, w9_8, e9_10, w9_10, e9_12, w9_12, e9_14, w9_14, c9_15, c9_16, c9_17, c9_18, c9_19, c9_20]
  first | refine callD (same' (cmb 0 b a) (cmb 0 a b) .unk .unk (by omega) (cmb_comm 0 (.inl rfl) a b)) ?_ | refine callQD (same' (cmb 0 b a) (cmb 0 a b) .unk .unk (by omega) (cmb_comm 0 (.inl rfl) a b)) ?_
  try simp -implicitDefEqProofs (disch := omega) only [go_sem, Nat.reduceAdd, Nat.reduceMul, Nat.reduceSub, Nat.reduceBEq, Nat.reduceLeDiff, Nat.reduceLT, fn_transitlaw08_IntervalCanonical, e9_1, w9_1, e9_3, w9_3, c9_4, e9_6, w9_6, e9_8, w9_8, e9_10, w9_10, e9_12, w9_12, e9_14, w9_14, c9_15, c9_16, c9_17, c9_18, c9_19, c9_20]
  first | refine callD (Intersect_ok b a .unk .unk (by omega) (by omega)) ?_ | refine callQD (Intersect_ok b a .unk .unk (by omega) (by omega)) ?_
  try simp -implicitDefEqProofs (disch := omega) only [go_sem, Nat.reduceAdd, Nat.reduceMul, Nat.reduceSub, Nat.reduceBEq, Nat.reduceLeDiff, Nat.reduceLT, fn_transitlaw08_IntervalCanonical, e9_1, w9_1, e9_3, w9_3, c9_4, e9_6, w9_6, e9_8, w9_8, e9_10, w9_10, e9_12, w9_12, e9_14, w9_14, c9_15, c9_16, c9_17, c9_18, c9_19, c9_20]
  first | refine callD (same' (cmb 1 b a) (cmb 1 a b) .unk .unk (by omega) (cmb_comm 1 (.inr rfl) a b)) ?_ | refine callQD (same' (cmb 1 b a) (cmb 1 a b) .unk .unk (by omega) (cmb_comm 1 (.inr rfl) a b)) ?_
  try simp -implicitDefEqProofs (disch := omega) only [go_sem, Nat.reduceAdd, Nat.reduceMul, Nat.reduceSub, Nat.reduceBEq, Nat.reduceLeDiff, Nat.reduceLT, fn_transitlaw08_IntervalCanonical, e9_1, w9_1, e9_3, w9_3, c9_4, e9_6, w9_6, e9_8, w9_8, e9_10, w9_10, e9_12, w9_12, e9_14, w9_14, c9_15, c9_16, c9_17, c9_18, c9_19, c9_20]
  first | refine callD (example08_ok) ?_ | refine callQD (example08_ok) ?_
  simp -implicitDefEqProofs (disch := omega) only [go_sem, Nat.reduceAdd, Nat.reduceMul, Nat.reduceSub, Nat.reduceBEq, Nat.reduceLeDiff, Nat.reduceLT, fn_transitlaw08_IntervalCanonical, e9_1, w9_1, e9_3, w9_3, c9_4, e9_6, w9_6, e9_8, w9_8, e9_10, w9_10, e9_12, w9_12, e9_14, w9_14, c9_15, c9_16, c9_17, c9_18, c9_19, c9_20]

theorem IntervalMeasures_law (a b : List (Int × Int)) (c d : Cap) : PCalls PR i_transitlaw08_IntervalMeasures [.slice (a.map spRow) c, .slice (b.map spRow) d] (fun v => v = .bool true) := by
  refine acalls_pop fn_transitlaw08_IntervalMeasures_ok (by simp [fn_transitlaw08_IntervalMeasures]) ?_
  simp -implicitDefEqProofs (disch := omega) only [go_sem, Nat.reduceAdd, Nat.reduceMul, Nat.reduceSub, Nat.reduceBEq, Nat.reduceLeDiff, Nat.reduceLT, fn_transitlaw08_IntervalMeasures, e10_1, w10_1, e10_3, w10_3, c10_4, e10_6, w10_6, e10_8, w10_8, e10_10, w10_10, e10_12, w10_12, e10_14, w10_14, e10_16, w10_16, e10_18, w10_18, e10_20, w10_20, c10_21, c10_22, c10_23, c10_24, c10_25, c10_26, c10_27, c10_28, c10_29]
  refine ifD (fun h => ?_) (fun h => ?_)
  · simp -implicitDefEqProofs (disch := omega) only [go_sem, Nat.reduceAdd, Nat.reduceMul, Nat.reduceSub, Nat.reduceBEq, Nat.reduceLeDiff, Nat.reduceLT, fn_transitlaw08_IntervalMeasures, e10_1, w10_1, e10_3, w10_3, c10_4, e10_6, w10_6, e10_8, w10_8, e10_10, w10_10, e10_12, w10_12, e10_14, w10_14, e10_16, w10_16, e10_18, w10_18, e10_20, w10_20, c10_21, c10_22, c10_23, c10_24, c10_25, c10_26, c10_27, c10_28, c10_29]
    first | refine callD (example08_ok) ?_ | refine callQD (example08_ok) ?_
    simp -implicitDefEqProofs (disch := omega) only [go_sem, Nat.reduceAdd, Nat.reduceMul, Nat.reduceSub, Nat.reduceBEq, Nat.reduceLeDiff, Nat.reduceLT, fn_transitlaw08_IntervalMeasures, e10_1, w10_1, e10_3, w10_3, c10_4, e10_6, w10_6, e10_8, w10_8, e10_10, w10_10, e10_12, w10_12, e10_14, w10_14, e10_16, w10_16, e10_18, w10_18, e10_20, w10_20, c10_21, c10_22, c10_23, c10_24, c10_25, c10_26, c10_27, c10_28, c10_29]
  simp -implicitDefEqProofs (disch := omega) only [go_sem, Nat.reduceAdd, Nat.reduceMul, Nat.reduceSub, Nat.reduceBEq, Nat.reduceLeDiff, Nat.reduceLT, fn_transitlaw08_IntervalMeasures, e10_1, w10_1, e10_3, w10_3, c10_4, e10_6, w10_6, e10_8, w10_8, e10_10, w10_10, e10_12, w10_12, e10_14, w10_14, e10_16, w10_16, e10_18, w10_18, e10_20, w10_20, c10_21, c10_22, c10_23, c10_24, c10_25, c10_26, c10_27, c10_28, c10_29]
  refine ifD (fun h' => ?_) (fun h' => ?_)
  · simp -implicitDefEqProofs (disch := omega) only [go_sem, Nat.reduceAdd, Nat.reduceMul, Nat.reduceSub, Nat.reduceBEq, Nat.reduceLeDiff, Nat.reduceLT, fn_transitlaw08_IntervalMeasures, e10_1, w10_1, e10_3, w10_3, c10_4, e10_6, w10_6, e10_8, w10_8, e10_10, w10_10, e10_12, w10_12, e10_14, w10_14, e10_16, w10_16, e10_18, w10_18, e10_20, w10_20, c10_21, c10_22, c10_23, c10_24, c10_25, c10_26, c10_27, c10_28, c10_29]
    first | refine callD (example08_ok) ?_ | refine callQD (example08_ok) ?_
    simp -implicitDefEqProofs (disch := omega) only [go_sem, Nat.reduceAdd, Nat.reduceMul, Nat.reduceSub, Nat.reduceBEq, Nat.reduceLeDiff, Nat.reduceLT, fn_transitlaw08_IntervalMeasures, e10_1, w10_1, e10_3, w10_3, c10_4, e10_6, w10_6, e10_8, w10_8, e10_10, w10_10, e10_12, w10_12, e10_14, w10_14, e10_16, w10_16, e10_18, w10_18, e10_20, w10_20, c10_21, c10_22, c10_23, c10_24, c10_25, c10_26, c10_27, c10_28, c10_29]
  simp -implicitDefEqProofs (disch := omega) only [go_sem, Nat.reduceAdd, Nat.reduceMul, Nat.reduceSub, Nat.reduceBEq, Nat.reduceLeDiff, Nat.reduceLT, fn_transitlaw08_IntervalMeasures, e10_1, w10_1, e10_3, w10_3, c10_4, e10_6, w10_6, e10_8, w10_8, e10_10, w10_10, e10_12, w10_12, e10_14, w10_14, e10_16, w10_16, e10_18, w10_18, e10_20, w10_20, c10_21, c10_22, c10_23, c10_24, c10_25, c10_26, c10_27, c10_28, c10_29]
  first | refine callD (bounded' a c (by omega)) ?_ | refine callQD (bounded' a c (by omega)) ?_
  simp -implicitDefEqProofs (disch := omega) only [go_sem, Nat.reduceAdd, Nat.reduceMul, Nat.reduceSub, Nat.reduceBEq, Nat.reduceLeDiff, Nat.reduceLT, fn_transitlaw08_IntervalMeasures, e10_1, w10_1, e10_3, w10_3, c10_4, e10_6, w10_6, e10_8, w10_8, e10_10, w10_10, e10_12, w10_12, e10_14, w10_14, e10_16, w10_16, e10_18, w10_18, e10_20, w10_20, c10_21, c10_22, c10_23, c10_24, c10_25, c10_26, c10_27, c10_28, c10_29]
  refine ifB (fun g1 => ?_) (fun g1 => ?_)
  rotate_left
  · simp -implicitDefEqProofs (disch := omega) only [go_sem, Nat.reduceAdd, Nat.reduceMul, Nat.reduceSub, Nat.reduceBEq, Nat.reduceLeDiff, Nat.reduceLT, fn_transitlaw08_IntervalMeasures, e10_1, w10_1, e10_3, w10_3, c10_4, e10_6, w10_6, e10_8, w10_8, e10_10, w10_10, e10_12, w10_12, e10_14, w10_14, e10_16, w10_16, e10_18, w10_18, e10_20, w10_20, c10_21, c10_22, c10_23, c10_24, c10_25, c10_26, c10_27, c10_28, c10_29]
    first | refine callD (example08_ok) ?_ | refine callQD (example08_ok) ?_
    simp -implicitDefEqProofs (disch := omega) only [go_sem, Nat.reduceAdd, Nat.reduceMul, Nat.reduceSub, Nat.reduceBEq, Nat.reduceLeDiff, Nat.reduceLT, fn_transitlaw08_IntervalMeasures, e10_1, w10_1, e10_3, w10_3, c10_4, e10_6, w10_6, e10_8, w10_8, e10_10, w10_10, e10_12, w10_12, e10_14, w10_14, e10_16, w10_16, e10_18, w10_18, e10_20, w10_20, c10_21, c10_22, c10_23, c10_24, c10_25, c10_26, c10_27, c10_28, c10_29]
  simp -implicitDefEqProofs (disch := omega) only [go_sem, Nat.reduceAdd, Nat.reduceMul, Nat.reduceSub, Nat.reduceBEq, Nat.reduceLeDiff, Nat.reduceLT, fn_transitlaw08_IntervalMeasures, e10_1, w10_1, e10_3, w10_3, c10_4, e10_6, w10_6, e10_8, w10_8, e10_10, w10_10, e10_12, w10_12, e10_14, w10_14, e10_16, w10_16, e10_18, w10_18, e10_20, w10_20, c10_21, c10_22, c10_23, c10_24, c10_25, c10_26, c10_27, c10_28, c10_29]
  first | refine callD (bounded' b d (by omega)) ?_ | refine callQD (bounded' b d (by omega)) ?_
  simp -implicitDefEqProofs (disch := omega) only [go_sem, Nat.reduceAdd, Nat.reduceMul, Nat.reduceSub, Nat.reduceBEq, Nat.reduceLeDiff, Nat.reduceLT, fn_transitlaw08_IntervalMeasures, e10_1, w10_1, e10_3, w10_3, c10_4, e10_6, w10_6, e10_8, w10_8, e10_10, w10_10, e10_12, w10_12, e10_14, w10_14, e10_16, w10_16, e10_18, w10_18, e10_20, w10_20, c10_21, c10_22, c10_23, c10_24, c10_25, c10_26, c10_27, c10_28, c10_29]
  refine ifB (fun g2 => ?_) (fun g2 => ?_)
  rotate_left
  · simp -implicitDefEqProofs (disch := omega) only [go_sem, Nat.reduceAdd, Nat.reduceMul, Nat.reduceSub, Nat.reduceBEq, Nat.reduceLeDiff, Nat.reduceLT, fn_transitlaw08_IntervalMeasures, e10_1, w10_1, e10_3, w10_3, c10_4, e10_6, w10_6, e10_8, w10_8, e10_10, w10_10, e10_12, w10_12, e10_14, w10_14, e10_16, w10_16, e10_18, w10_18, e10_20, w10_20, c10_21, c10_22, c10_23, c10_24, c10_25, c10_26, c10_27, c10_28, c10_29]
    first | refine callD (example08_ok) ?_ | refine callQD (example08_ok) ?_
    simp -implicitDefEqProofs (disch := omega) only [go_sem, Nat.reduceAdd, Nat.reduceMul, Nat.reduceSub, Nat.reduceBEq, Nat.reduceLeDiff, Nat.reduceLT, fn_transitlaw08_IntervalMeasures, e10_1, w10_1, e10_3, w10_3, c10_4, e10_6, w10_6, e10_8, w10_8, e10_10, w10_10, e10_12, w10_12, e10_14, w10_14, e10_16, w10_16, e10_18, w10_18, e10_20, w10_20, c10_21, c10_22, c10_23, c10_24, c10_25, c10_26, c10_27, c10_28, c10_29]
  have ea := bnd_ends g1
  have eb := bnd_ends g2
  have ea' : Ends (-9223372036854775808) 9223372036854775807 a := ea.mono (by omega) (by omega)
  have eb' : Ends (-9223372036854775808) 9223372036854775807 b := eb.mono (by omega) (by omega)
  have ma := meas_nrm ea (by omega)
  have mb := meas_nrm eb (by omega)
  have m0 := meas_cmb ea eb (by omega) 0
  have m1 := meas_cmb ea eb (by omega) 1
  have m2 := meas_cmb ea eb (by omega) 2
  have na := meas_nonneg (nf_nrm a).lt
  have nb := meas_nonneg (nf_nrm b).lt
  have p0 := meas_nonneg (nf_cmb 0 a b).lt
  have p1 := meas_nonneg (nf_cmb 1 a b).lt
  have p2 := meas_nonneg (nf_cmb 2 a b).lt
  have hn0 := cmb_length 0 a b
  have hn1 := cmb_length 1 a b
  have hn2 := cmb_length 2 a b
  have la := Length_ok a .unk (by omega) ea'
  have lb := Length_ok b .unk (by omega) eb'
  have l0 := Length_ok (cmb 0 a b) .unk (by omega) (ea'.cmb eb' 0)
  have l1 := Length_ok (cmb 1 a b) .unk (by omega) (ea'.cmb eb' 1)
  have l2 := Length_ok (cmb 2 a b) .unk (by omega) (ea'.cmb eb' 2)
  rw [lenRes_of (by omega)] at la lb
  rw [lenRes_of (by rw [nrm_cmb]; omega), nrm_cmb] at l0 l1 l2
  obtain ⟨k1, k2⟩ := meas_laws a b
  generalize meas (nrm a) = xa at *
  generalize meas (nrm b) = xb at *
  generalize meas (cmb 0 a b) = x0 at *
  generalize meas (cmb 1 a b) = x1 at *
  generalize meas (cmb 2 a b) = x2 at *
  try simp -implicitDefEqProofs (disch := omega) only [go_sem, Nat.reduceAdd, Nat.reduceMul, Nat.reduceSub, Nat.reduceBEq, Nat.reduceLeDiff, Nat.reduceLT, fn_transitlaw08_IntervalMeasures, e10_1, w10_1, e10_3, w10_3, c10_4, e10_6, w10_6, e10_8, w10_8, e10_10, w10_10, e10_12, w10_12, e10_14, w10_14, e10_16, w10_16, e10_18, w10_18, e10_20, w10_20, c10_21, c10_22, c10_23, c10_24, c10_25, c10_26, c10_27, c10_28, c10_29]
  first | refine callD (spans' a c (by omega)) ?_ | refine callQD (spans' a c (by omega)) ?_
  try simp -implicitDefEqProofs (disch := omega) only [go_sem, Nat.reduceAdd, Nat.reduceMul, Nat.reduceSub, Nat.reduceBEq, Nat.reduceLeDiff, Nat.reduceLT, fn_transitlaw08_IntervalMeasures, e10_1, w10_1, e10_3, w10_3, c10_4, e10_6, w10_6, e10_8, w10_8, e10_10, w10_10, e10_12, w10_12, e10_14, w10_14, e10_16, w10_16, e10_18, w10_18, e10_20, w10_20, c10_21, c10_22, c10_23, c10_24, c10_25, c10_26, c10_27, c10_28, c10_29]
  first | refine callD (spans' b d (by omega)) ?_ | refine callQD (spans' b d (by omega)) ?_
  try simp -implicitDefEqProofs (disch := omega) only [go_sem, Nat.reduceAdd, Nat.reduceMul, Nat.reduceSub, Nat.reduceBEq, Nat.reduceLeDiff, Nat.reduceLT, fn_transitlaw08_IntervalMeasures, e10_1, w10_1, e10_3, w10_3, c10_4, e10_6, w10_6, e10_8, w10_8, e10_10, w10_10, e10_12, w10_12, e10_14, w10_14, e10_16, w10_16, e10_18, w10_18, e10_20, w10_20, c10_21, c10_22, c10_23, c10_24, c10_25, c10_26, c10_27, c10_28, c10_29]
  first | refine callD (la) ?_ | refine callQD (la) ?_
  try simp -implicitDefEqProofs (disch := omega) only [go_sem, Nat.reduceAdd, Nat.reduceMul, Nat.reduceSub, Nat.reduceBEq, Nat.reduceLeDiff, Nat.reduceLT, fn_transitlaw08_IntervalMeasures, e10_1, w10_1, e10_3, w10_3, c10_4, e10_6, w10_6, e10_8, w10_8, e10_10, w10_10, e10_12, w10_12, e10_14, w10_14, e10_16, w10_16, e10_18, w10_18, e10_20, w10_20, c10_21, c10_22, c10_23, c10_24, c10_25, c10_26, c10_27, c10_28, c10_29, lenV2]
  first | refine callD (lb) ?_ | refine callQD (lb) ?_
  try simp -implicitDefEqProofs (disch := omega) only [go_sem, Nat.reduceAdd, Nat.reduceMul, Nat.reduceSub, Nat.reduceBEq, Nat.reduceLeDiff, Nat.reduceLT, fn_transitlaw08_IntervalMeasures, e10_1, w10_1, e10_3, w10_3, c10_4, e10_6, w10_6, e10_8, w10_8, e10_10, w10_10, e10_12, w10_12, e10_14, w10_14, e10_16, w10_16, e10_18, w10_18, e10_20, w10_20, c10_21, c10_22, c10_23, c10_24, c10_25, c10_26, c10_27, c10_28, c10_29, lenV2]
  first | refine callD (Union_ok a b .unk .unk (by omega) (by omega)) ?_ | refine callQD (Union_ok a b .unk .unk (by omega) (by omega)) ?_
  try simp -implicitDefEqProofs (disch := omega) only [go_sem, Nat.reduceAdd, Nat.reduceMul, Nat.reduceSub, Nat.reduceBEq, Nat.reduceLeDiff, Nat.reduceLT, fn_transitlaw08_IntervalMeasures, e10_1, w10_1, e10_3, w10_3, c10_4, e10_6, w10_6, e10_8, w10_8, e10_10, w10_10, e10_12, w10_12, e10_14, w10_14, e10_16, w10_16, e10_18, w10_18, e10_20, w10_20, c10_21, c10_22, c10_23, c10_24, c10_25, c10_26, c10_27, c10_28, c10_29, lenV2]
  first | refine callD (l0) ?_ | refine callQD (l0) ?_
  try simp -implicitDefEqProofs (disch := omega) only [go_sem, Nat.reduceAdd, Nat.reduceMul, Nat.reduceSub, Nat.reduceBEq, Nat.reduceLeDiff, Nat.reduceLT, fn_transitlaw08_IntervalMeasures, e10_1, w10_1, e10_3, w10_3, c10_4, e10_6, w10_6, e10_8, w10_8, e10_10, w10_10, e10_12, w10_12, e10_14, w10_14, e10_16, w10_16, e10_18, w10_18, e10_20, w10_20, c10_21, c10_22, c10_23, c10_24, c10_25, c10_26, c10_27, c10_28, c10_29, lenV2]
  first | refine callD (Intersect_ok a b .unk .unk (by omega) (by omega)) ?_ | refine callQD (Intersect_ok a b .unk .unk (by omega) (by omega)) ?_
  try simp -implicitDefEqProofs (disch := omega) only [go_sem, Nat.reduceAdd, Nat.reduceMul, Nat.reduceSub, Nat.reduceBEq, Nat.reduceLeDiff, Nat.reduceLT, fn_transitlaw08_IntervalMeasures, e10_1, w10_1, e10_3, w10_3, c10_4, e10_6, w10_6, e10_8, w10_8, e10_10, w10_10, e10_12, w10_12, e10_14, w10_14, e10_16, w10_16, e10_18, w10_18, e10_20, w10_20, c10_21, c10_22, c10_23, c10_24, c10_25, c10_26, c10_27, c10_28, c10_29, lenV2]
  first | refine callD (l1) ?_ | refine callQD (l1) ?_
  try simp -implicitDefEqProofs (disch := omega) only [go_sem, Nat.reduceAdd, Nat.reduceMul, Nat.reduceSub, Nat.reduceBEq, Nat.reduceLeDiff, Nat.reduceLT, fn_transitlaw08_IntervalMeasures, e10_1, w10_1, e10_3, w10_3, c10_4, e10_6, w10_6, e10_8, w10_8, e10_10, w10_10, e10_12, w10_12, e10_14, w10_14, e10_16, w10_16, e10_18, w10_18, e10_20, w10_20, c10_21, c10_22, c10_23, c10_24, c10_25, c10_26, c10_27, c10_28, c10_29, lenV2]
  first | refine callD (Subtract_ok a b .unk .unk (by omega) (by omega)) ?_ | refine callQD (Subtract_ok a b .unk .unk (by omega) (by omega)) ?_
  try simp -implicitDefEqProofs (disch := omega) only [go_sem, Nat.reduceAdd, Nat.reduceMul, Nat.reduceSub, Nat.reduceBEq, Nat.reduceLeDiff, Nat.reduceLT, fn_transitlaw08_IntervalMeasures, e10_1, w10_1, e10_3, w10_3, c10_4, e10_6, w10_6, e10_8, w10_8, e10_10, w10_10, e10_12, w10_12, e10_14, w10_14, e10_16, w10_16, e10_18, w10_18, e10_20, w10_20, c10_21, c10_22, c10_23, c10_24, c10_25, c10_26, c10_27, c10_28, c10_29, lenV2]
  first | refine callD (l2) ?_ | refine callQD (l2) ?_
  simp -implicitDefEqProofs (disch := omega) only [go_sem, Nat.reduceAdd, Nat.reduceMul, Nat.reduceSub, Nat.reduceBEq, Nat.reduceLeDiff, Nat.reduceLT, fn_transitlaw08_IntervalMeasures, e10_1, w10_1, e10_3, w10_3, c10_4, e10_6, w10_6, e10_8, w10_8, e10_10, w10_10, e10_12, w10_12, e10_14, w10_14, e10_16, w10_16, e10_18, w10_18, e10_20, w10_20, c10_21, c10_22, c10_23, c10_24, c10_25, c10_26, c10_27, c10_28, c10_29, lenV2, k1, k2]
  first | refine callD (example08_ok) ?_ | refine callQD (example08_ok) ?_
  simp -implicitDefEqProofs (disch := omega) only [go_sem, Nat.reduceAdd, Nat.reduceMul, Nat.reduceSub, Nat.reduceBEq, Nat.reduceLeDiff, Nat.reduceLT, fn_transitlaw08_IntervalMeasures, e10_1, w10_1, e10_3, w10_3, c10_4, e10_6, w10_6, e10_8, w10_8, e10_10, w10_10, e10_12, w10_12, e10_14, w10_14, e10_16, w10_16, e10_18, w10_18, e10_20, w10_20, c10_21, c10_22, c10_23, c10_24, c10_25, c10_26, c10_27, c10_28, c10_29]

theorem IntervalAlgebra_law (a b : List (Int × Int)) (c d : Cap) (x : Int) : PCalls PR i_transitlaw08_IntervalAlgebra [.slice (a.map spRow) c, .slice (b.map spRow) d, .int .i64 x] (fun v => v = .bool true) := by
  refine acalls_pop fn_transitlaw08_IntervalAlgebra_ok (by simp [fn_transitlaw08_IntervalAlgebra]) ?_
  simp -implicitDefEqProofs (disch := omega) only [go_sem, Nat.reduceAdd, Nat.reduceMul, Nat.reduceSub, Nat.reduceBEq, Nat.reduceLeDiff, Nat.reduceLT, fn_transitlaw08_IntervalAlgebra, e8_1, w8_1, e8_3, w8_3, c8_4, e8_6, w8_6, e8_8, w8_8, e8_10, w8_10, c8_13, c8_14, c8_15, c8_16, c8_17]
  refine ifD (fun h => ?_) (fun h => ?_)
  · simp -implicitDefEqProofs (disch := omega) only [go_sem, Nat.reduceAdd, Nat.reduceMul, Nat.reduceSub, Nat.reduceBEq, Nat.reduceLeDiff, Nat.reduceLT, fn_transitlaw08_IntervalAlgebra, e8_1, w8_1, e8_3, w8_3, c8_4, e8_6, w8_6, e8_8, w8_8, e8_10, w8_10, c8_13, c8_14, c8_15, c8_16, c8_17]
    first | refine callD (example08_ok) ?_ | refine callQD (example08_ok) ?_
    simp -implicitDefEqProofs (disch := omega) only [go_sem, Nat.reduceAdd, Nat.reduceMul, Nat.reduceSub, Nat.reduceBEq, Nat.reduceLeDiff, Nat.reduceLT, fn_transitlaw08_IntervalAlgebra, e8_1, w8_1, e8_3, w8_3, c8_4, e8_6, w8_6, e8_8, w8_8, e8_10, w8_10, c8_13, c8_14, c8_15, c8_16, c8_17]
  simp -implicitDefEqProofs (disch := omega) only [go_sem, Nat.reduceAdd, Nat.reduceMul, Nat.reduceSub, Nat.reduceBEq, Nat.reduceLeDiff, Nat.reduceLT, fn_transitlaw08_IntervalAlgebra, e8_1, w8_1, e8_3, w8_3, c8_4, e8_6, w8_6, e8_8, w8_8, e8_10, w8_10, c8_13, c8_14, c8_15, c8_16, c8_17]
  refine ifD (fun h' => ?_) (fun h' => ?_)
  · simp -implicitDefEqProofs (disch := omega) only [go_sem, Nat.reduceAdd, Nat.reduceMul, Nat.reduceSub, Nat.reduceBEq, Nat.reduceLeDiff, Nat.reduceLT, fn_transitlaw08_IntervalAlgebra, e8_1, w8_1, e8_3, w8_3, c8_4, e8_6, w8_6, e8_8, w8_8, e8_10, w8_10, c8_13, c8_14, c8_15, c8_16, c8_17]
    first | refine callD (example08_ok) ?_ | refine callQD (example08_ok) ?_
    simp -implicitDefEqProofs (disch := omega) only [go_sem, Nat.reduceAdd, Nat.reduceMul, Nat.reduceSub, Nat.reduceBEq, Nat.reduceLeDiff, Nat.reduceLT, fn_transitlaw08_IntervalAlgebra, e8_1, w8_1, e8_3, w8_3, c8_4, e8_6, w8_6, e8_8, w8_8, e8_10, w8_10, c8_13, c8_14, c8_15, c8_16, c8_17]
  have hn0 := cmb_length 0 a b
  have hn1 := cmb_length 1 a b
  have hn2 := cmb_length 2 a b
  have hn5 := nrm_length a
  try simp -implicitDefEqProofs (disch := omega) only [go_sem, Nat.reduceAdd, Nat.reduceMul, Nat.reduceSub, Nat.reduceBEq, Nat.reduceLeDiff, Nat.reduceLT, fn_transitlaw08_IntervalAlgebra, e8_1, w8_1, e8_3, w8_3, c8_4, e8_6, w8_6, e8_8, w8_8, e8_10, w8_10, c8_13, c8_14, c8_15, c8_16, c8_17]
  first | refine callD (spans' a c (by omega)) ?_ | refine callQD (spans' a c (by omega)) ?_
  try simp -implicitDefEqProofs (disch := omega) only [go_sem, Nat.reduceAdd, Nat.reduceMul, Nat.reduceSub, Nat.reduceBEq, Nat.reduceLeDiff, Nat.reduceLT, fn_transitlaw08_IntervalAlgebra, e8_1, w8_1, e8_3, w8_3, c8_4, e8_6, w8_6, e8_8, w8_8, e8_10, w8_10, c8_13, c8_14, c8_15, c8_16, c8_17]
  first | refine callD (spans' b d (by omega)) ?_ | refine callQD (spans' b d (by omega)) ?_
  try simp -implicitDefEqProofs (disch := omega) only [go_sem, Nat.reduceAdd, Nat.reduceMul, Nat.reduceSub, Nat.reduceBEq, Nat.reduceLeDiff, Nat.reduceLT, fn_transitlaw08_IntervalAlgebra, e8_1, w8_1, e8_3, w8_3, c8_4, e8_6, w8_6, e8_8, w8_8, e8_10, w8_10, c8_13, c8_14, c8_15, c8_16, c8_17]
  first | refine callD (contains' a .unk x (by omega)) ?_ | refine callQD (contains' a .unk x (by omega)) ?_
  try simp -implicitDefEqProofs (disch := omega) only [go_sem, Nat.reduceAdd, Nat.reduceMul, Nat.reduceSub, Nat.reduceBEq, Nat.reduceLeDiff, Nat.reduceLT, fn_transitlaw08_IntervalAlgebra, e8_1, w8_1, e8_3, w8_3, c8_4, e8_6, w8_6, e8_8, w8_8, e8_10, w8_10, c8_13, c8_14, c8_15, c8_16, c8_17]
  first | refine callD (contains' b .unk x (by omega)) ?_ | refine callQD (contains' b .unk x (by omega)) ?_
  have kN := inS_nrm a x
  have k0 := inS_cmb 0 a b x
  have k1 := inS_cmb 1 a b x
  have k2 := inS_cmb 2 a b x
  have c0 := contains' (cmb 0 a b) .unk x (by omega)
  have c1 := contains' (cmb 1 a b) .unk x (by omega)
  have c2 := contains' (cmb 2 a b) .unk x (by omega)
  have cN := contains' (nrm a) .unk x (by omega)
  rw [k0] at c0
  rw [k1] at c1
  rw [k2] at c2
  rw [kN] at cN
  cases ha : inS a x <;> cases hb : inS b x <;> rw [ha] at cN <;> rw [ha, hb] at c0 c1 c2
  all_goals
    try simp -implicitDefEqProofs (disch := omega) only [go_sem, Nat.reduceAdd, Nat.reduceMul, Nat.reduceSub, Nat.reduceBEq, Nat.reduceLeDiff, Nat.reduceLT, fn_transitlaw08_IntervalAlgebra, e8_1, w8_1, e8_3, w8_3, c8_4, e8_6, w8_6, e8_8, w8_8, e8_10, w8_10, e8_12, w8_12, c8_13, c8_14, c8_15, c8_16, c8_17]
    first | refine callD (Union_ok a b .unk .unk (by omega) (by omega)) ?_ | refine callQD (Union_ok a b .unk .unk (by omega) (by omega)) ?_
    try simp -implicitDefEqProofs (disch := omega) only [go_sem, Nat.reduceAdd, Nat.reduceMul, Nat.reduceSub, Nat.reduceBEq, Nat.reduceLeDiff, Nat.reduceLT, fn_transitlaw08_IntervalAlgebra, e8_1, w8_1, e8_3, w8_3, c8_4, e8_6, w8_6, e8_8, w8_8, e8_10, w8_10, e8_12, w8_12, c8_13, c8_14, c8_15, c8_16, c8_17]
    first | refine callD (c0) ?_ | refine callQD (c0) ?_
    simp -implicitDefEqProofs (disch := omega) only [go_sem, Nat.reduceAdd, Nat.reduceMul, Nat.reduceSub, Nat.reduceBEq, Nat.reduceLeDiff, Nat.reduceLT, fn_transitlaw08_IntervalAlgebra, e8_1, w8_1, e8_3, w8_3, c8_4, e8_6, w8_6, e8_8, w8_8, e8_10, w8_10, e8_12, w8_12, c8_13, c8_14, c8_15, c8_16, c8_17, kop]
    try simp -implicitDefEqProofs (disch := omega) only [go_sem, Nat.reduceAdd, Nat.reduceMul, Nat.reduceSub, Nat.reduceBEq, Nat.reduceLeDiff, Nat.reduceLT, show decide (false = true) = false from rfl, show decide (true = false) = false from rfl]
    first | refine callD (Intersect_ok a b .unk .unk (by omega) (by omega)) ?_ | refine callQD (Intersect_ok a b .unk .unk (by omega) (by omega)) ?_
    try simp -implicitDefEqProofs (disch := omega) only [go_sem, Nat.reduceAdd, Nat.reduceMul, Nat.reduceSub, Nat.reduceBEq, Nat.reduceLeDiff, Nat.reduceLT, fn_transitlaw08_IntervalAlgebra, e8_1, w8_1, e8_3, w8_3, c8_4, e8_6, w8_6, e8_8, w8_8, e8_10, w8_10, e8_12, w8_12, c8_13, c8_14, c8_15, c8_16, c8_17]
    first | refine callD (c1) ?_ | refine callQD (c1) ?_
    simp -implicitDefEqProofs (disch := omega) only [go_sem, Nat.reduceAdd, Nat.reduceMul, Nat.reduceSub, Nat.reduceBEq, Nat.reduceLeDiff, Nat.reduceLT, fn_transitlaw08_IntervalAlgebra, e8_1, w8_1, e8_3, w8_3, c8_4, e8_6, w8_6, e8_8, w8_8, e8_10, w8_10, e8_12, w8_12, c8_13, c8_14, c8_15, c8_16, c8_17, kop]
    first | refine callD (Subtract_ok a b .unk .unk (by omega) (by omega)) ?_ | refine callQD (Subtract_ok a b .unk .unk (by omega) (by omega)) ?_
    try simp -implicitDefEqProofs (disch := omega) only [go_sem, Nat.reduceAdd, Nat.reduceMul, Nat.reduceSub, Nat.reduceBEq, Nat.reduceLeDiff, Nat.reduceLT, fn_transitlaw08_IntervalAlgebra, e8_1, w8_1, e8_3, w8_3, c8_4, e8_6, w8_6, e8_8, w8_8, e8_10, w8_10, e8_12, w8_12, c8_13, c8_14, c8_15, c8_16, c8_17]
    first | refine callD (c2) ?_ | refine callQD (c2) ?_
    simp -implicitDefEqProofs (disch := omega) only [go_sem, Nat.reduceAdd, Nat.reduceMul, Nat.reduceSub, Nat.reduceBEq, Nat.reduceLeDiff, Nat.reduceLT, fn_transitlaw08_IntervalAlgebra, e8_1, w8_1, e8_3, w8_3, c8_4, e8_6, w8_6, e8_8, w8_8, e8_10, w8_10, e8_12, w8_12, c8_13, c8_14, c8_15, c8_16, c8_17, kop]
    first | refine callD (Normalize_ok a .unk (by omega)) ?_ | refine callQD (Normalize_ok a .unk (by omega)) ?_
    try simp -implicitDefEqProofs (disch := omega) only [go_sem, Nat.reduceAdd, Nat.reduceMul, Nat.reduceSub, Nat.reduceBEq, Nat.reduceLeDiff, Nat.reduceLT, fn_transitlaw08_IntervalAlgebra, e8_1, w8_1, e8_3, w8_3, c8_4, e8_6, w8_6, e8_8, w8_8, e8_10, w8_10, e8_12, w8_12, c8_13, c8_14, c8_15, c8_16, c8_17]
    first | refine callD (cN) ?_ | refine callQD (cN) ?_
    simp -implicitDefEqProofs (disch := omega) only [go_sem, Nat.reduceAdd, Nat.reduceMul, Nat.reduceSub, Nat.reduceBEq, Nat.reduceLeDiff, Nat.reduceLT, fn_transitlaw08_IntervalAlgebra, e8_1, w8_1, e8_3, w8_3, c8_4, e8_6, w8_6, e8_8, w8_8, e8_10, w8_10, e8_12, w8_12, c8_13, c8_14, c8_15, c8_16, c8_17]
    first | refine callD (example08_ok) ?_ | refine callQD (example08_ok) ?_
    simp -implicitDefEqProofs (disch := omega) only [go_sem, Nat.reduceAdd, Nat.reduceMul, Nat.reduceSub, Nat.reduceBEq, Nat.reduceLeDiff, Nat.reduceLT, fn_transitlaw08_IntervalAlgebra, e8_1, w8_1, e8_3, w8_3, c8_4, e8_6, w8_6, e8_8, w8_8, e8_10, w8_10, e8_12, w8_12, c8_13, c8_14, c8_15, c8_16, c8_17]

/-! ### What the arguments read as -/
def ctSpan : List CT := [.int .i64, .int .i64]
theorem read_span {vs : List V} (h : HasR ctSpan vs) : ∃ s : Int × Int, vs = spRow s ∧ I64 s.1 ∧ I64 s.2 := by
  obtain ⟨_, _, rfl, h1, h⟩ := hasR_cons h
  obtain ⟨_, _, rfl, h2, h⟩ := hasR_cons h
  cases hasR_nil h
  obtain ⟨a, rfl, ha⟩ := hasC_i64 h1
  obtain ⟨b, rfl, hb⟩ := hasC_i64 h2
  exact ⟨(a, b), rfl, ha, hb⟩
theorem read_spans {v : V} (h : HasC (.slice ctSpan) v) : ∃ (l : List (Int × Int)) (c : Cap), v = .slice (l.map spRow) c ∧ Ends (-9223372036854775808) 9223372036854775807 l := by
  obtain ⟨l, c, rfl, hl, _⟩ := hasC_slice (row := spRow) (wf := fun s => I64 s.1 ∧ I64 s.2) (fun vs h => read_span h) h
  exact ⟨l, c, rfl, fun s hs => ⟨(hl s hs).1, (hl s hs).2⟩⟩

end Go.Vm.C

