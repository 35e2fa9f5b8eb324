/- The statements CallChecks, CallRidable, CallShifts, CallLists, CallEquals and CallRides. -/
import Derived.Test.YtnfedenkigckjaaT4

namespace Go.Vm.C
open Go.Vm
set_option maxHeartbeats 1000000
set_option maxRecDepth 10000
set_option linter.unusedSimpArgs false
set_option linter.unusedVariables false

/-! ### The statements on calls -/
def ctStay : List CT := [.int .i64, .int .i64, .int .i64, .bool, .bool]
def ctBounds : List CT := [.int .i64, .int .i64, .int .i64]
theorem read_stay {vs : List V} (h : HasR ctStay vs) : ∃ r : Stay, vs = r.row ∧ r.wf := by
  obtain ⟨_, _, rfl, h1, h⟩ := hasR_cons h
  obtain ⟨_, _, rfl, h2, h⟩ := hasR_cons h
  obtain ⟨_, _, rfl, h3, h⟩ := hasR_cons h
  obtain ⟨_, _, rfl, h4, h⟩ := hasR_cons h
  obtain ⟨_, _, rfl, h5, h⟩ := hasR_cons h
  cases hasR_nil h
  obtain ⟨a, rfl, ha⟩ := hasC_i64 h1
  obtain ⟨b, rfl, hb⟩ := hasC_i64 h2
  obtain ⟨c, rfl, hc⟩ := hasC_i64 h3
  obtain ⟨d, rfl⟩ := hasC_bool h4
  obtain ⟨e, rfl⟩ := hasC_bool h5
  exact ⟨⟨a, b, c, d, e⟩, rfl, ha, hb, hc⟩
theorem read_stays {v : V} (h : HasC (.slice ctStay) v) : ∃ (l : List Stay) (c : Cap), v = .slice (l.map Stay.row) c ∧ (∀ r ∈ l, r.wf) ∧ l.length ≤ maxLen := by
  obtain ⟨l, c, rfl, hl, hlen, _⟩ := hasC_slice (fun vs h => read_stay h) h
  exact ⟨l, c, rfl, hl, hlen⟩
def boundsRow (a b c : Int) : List V := [.int .i64 a, .int .i64 b, .int .i64 c]
theorem read_bounds {vs : List V} (h : HasR ctBounds vs) : ∃ a b c : Int, vs = boundsRow a b c ∧ I64 a ∧ I64 b ∧ I64 c := by
  obtain ⟨_, _, rfl, h1, h⟩ := hasR_cons h
  obtain ⟨_, _, rfl, h2, h⟩ := hasR_cons h
  obtain ⟨_, _, rfl, h3, h⟩ := hasR_cons h
  cases hasR_nil h
  obtain ⟨a, rfl, ha⟩ := hasC_i64 h1
  obtain ⟨b, rfl, hb⟩ := hasC_i64 h2
  obtain ⟨c, rfl, hc⟩ := hasC_i64 h3
  exact ⟨a, b, c, rfl, ha, hb, hc⟩

theorem CallChecks_law (l : List Stay) (c : Cap) (s lo hi : Int) : PCalls PR i_transitlaw16_CallChecks [.slice (l.map Stay.row) c, .agg (boundsRow s lo hi)] (fun v => v = .bool true) := by
  refine acalls_pop fn_transitlaw16_CallChecks_ok (by simp [fn_transitlaw16_CallChecks]) ?_
  simp -implicitDefEqProofs (disch := omega) only [go_sem, Nat.reduceAdd, Nat.reduceMul, Nat.reduceSub, Nat.reduceBEq, Nat.reduceLeDiff, Nat.reduceLT, fn_transitlaw16_CallChecks, e3_1, w3_1, e3_3, w3_3, c3_4, e3_6, w3_6, e3_8, w3_8, e3_10, w3_10, e3_12, w3_12, c3_13, c3_14, c3_15, c3_16, c3_17, boundsRow]
  refine ifD (fun h1 => ?_) (fun h1 => ?_)
  · simp -implicitDefEqProofs (disch := omega) only [go_sem, Nat.reduceAdd, Nat.reduceMul, Nat.reduceSub, Nat.reduceBEq, Nat.reduceLeDiff, Nat.reduceLT, fn_transitlaw16_CallChecks, e3_1, w3_1, e3_3, w3_3, c3_4, e3_6, w3_6, e3_8, w3_8, e3_10, w3_10, e3_12, w3_12, c3_13, c3_14, c3_15, c3_16, c3_17]
    first | refine callD (exampleHolds_ok) ?_ | refine callQD (exampleHolds_ok) ?_
    simp -implicitDefEqProofs (disch := omega) only [go_sem, Nat.reduceAdd, Nat.reduceMul, Nat.reduceSub, Nat.reduceBEq, Nat.reduceLeDiff, Nat.reduceLT, fn_transitlaw16_CallChecks, e3_1, w3_1, e3_3, w3_3, c3_4, e3_6, w3_6, e3_8, w3_8, e3_10, w3_10, e3_12, w3_12, c3_13, c3_14, c3_15, c3_16, c3_17]
  simp -implicitDefEqProofs (disch := omega) only [go_sem, Nat.reduceAdd, Nat.reduceMul, Nat.reduceSub, Nat.reduceBEq, Nat.reduceLeDiff, Nat.reduceLT, fn_transitlaw16_CallChecks, e3_1, w3_1, e3_3, w3_3, c3_4, e3_6, w3_6, e3_8, w3_8, e3_10, w3_10, e3_12, w3_12, c3_13, c3_14, c3_15, c3_16, c3_17]
  first | refine callD (call_Check_ok l c s lo hi (by omega)) ?_ | refine callQD (call_Check_ok l c s lo hi (by omega)) ?_
  simp -implicitDefEqProofs (disch := omega) only [go_sem, Nat.reduceAdd, Nat.reduceMul, Nat.reduceSub, Nat.reduceBEq, Nat.reduceLeDiff, Nat.reduceLT, fn_transitlaw16_CallChecks, e3_1, w3_1, e3_3, w3_3, c3_4, e3_6, w3_6, e3_8, w3_8, e3_10, w3_10, e3_12, w3_12, c3_13, c3_14, c3_15, c3_16, c3_17, pairV]
  first | refine callD (ref16_Check_ok l c s lo hi (by omega)) ?_ | refine callQD (ref16_Check_ok l c s lo hi (by omega)) ?_
  simp -implicitDefEqProofs (disch := omega) only [go_sem, Nat.reduceAdd, Nat.reduceMul, Nat.reduceSub, Nat.reduceBEq, Nat.reduceLeDiff, Nat.reduceLT, fn_transitlaw16_CallChecks, e3_1, w3_1, e3_3, w3_3, c3_4, e3_6, w3_6, e3_8, w3_8, e3_10, w3_10, e3_12, w3_12, c3_13, c3_14, c3_15, c3_16, c3_17, pairV]
  first | refine callD (exampleHolds_ok) ?_ | refine callQD (exampleHolds_ok) ?_
  simp -implicitDefEqProofs (disch := omega) only [go_sem, Nat.reduceAdd, Nat.reduceMul, Nat.reduceSub, Nat.reduceBEq, Nat.reduceLeDiff, Nat.reduceLT, fn_transitlaw16_CallChecks, e3_1, w3_1, e3_3, w3_3, c3_4, e3_6, w3_6, e3_8, w3_8, e3_10, w3_10, e3_12, w3_12, c3_13, c3_14, c3_15, c3_16, c3_17]

theorem CallRidable_law (l : List Stay) (c : Cap) (b a : Int) : PCalls PR i_transitlaw16_CallRidable [.slice (l.map Stay.row) c, .int .i64 b, .int .i64 a] (fun v => v = .bool true) := by
  have hbeq : ∀ x : Bool, (x == x) = true := fun x => by cases x <;> rfl
  refine acalls_pop fn_transitlaw16_CallRidable_ok (by simp [fn_transitlaw16_CallRidable]) ?_
  simp -implicitDefEqProofs (disch := omega) only [go_sem, Nat.reduceAdd, Nat.reduceMul, Nat.reduceSub, Nat.reduceBEq, Nat.reduceLeDiff, Nat.reduceLT, fn_transitlaw16_CallRidable, e4_1, w4_1, e4_3, w4_3, c4_4, e4_6, w4_6, e4_8, w4_8, c4_9, c4_10, c4_11]
  refine ifD (fun h1 => ?_) (fun h1 => ?_)
  · simp -implicitDefEqProofs (disch := omega) only [go_sem, Nat.reduceAdd, Nat.reduceMul, Nat.reduceSub, Nat.reduceBEq, Nat.reduceLeDiff, Nat.reduceLT, fn_transitlaw16_CallRidable, e4_1, w4_1, e4_3, w4_3, c4_4, e4_6, w4_6, e4_8, w4_8, c4_9, c4_10, c4_11]
    first | refine callD (exampleHolds_ok) ?_ | refine callQD (exampleHolds_ok) ?_
    simp -implicitDefEqProofs (disch := omega) only [go_sem, Nat.reduceAdd, Nat.reduceMul, Nat.reduceSub, Nat.reduceBEq, Nat.reduceLeDiff, Nat.reduceLT, fn_transitlaw16_CallRidable, e4_1, w4_1, e4_3, w4_3, c4_4, e4_6, w4_6, e4_8, w4_8, c4_9, c4_10, c4_11]
  simp -implicitDefEqProofs (disch := omega) only [go_sem, Nat.reduceAdd, Nat.reduceMul, Nat.reduceSub, Nat.reduceBEq, Nat.reduceLeDiff, Nat.reduceLT, fn_transitlaw16_CallRidable, e4_1, w4_1, e4_3, w4_3, c4_4, e4_6, w4_6, e4_8, w4_8, c4_9, c4_10, c4_11]
  first | refine callD (call_Ridable_ok l c b a) ?_ | refine callQD (call_Ridable_ok l c b a) ?_
  simp -implicitDefEqProofs (disch := omega) only [go_sem, Nat.reduceAdd, Nat.reduceMul, Nat.reduceSub, Nat.reduceBEq, Nat.reduceLeDiff, Nat.reduceLT, fn_transitlaw16_CallRidable, e4_1, w4_1, e4_3, w4_3, c4_4, e4_6, w4_6, e4_8, w4_8, c4_9, c4_10, c4_11]
  first | refine callD (ref16_Ridable_ok l c b a) ?_ | refine callQD (ref16_Ridable_ok l c b a) ?_
  simp -implicitDefEqProofs (disch := omega) only [go_sem, Nat.reduceAdd, Nat.reduceMul, Nat.reduceSub, Nat.reduceBEq, Nat.reduceLeDiff, Nat.reduceLT, fn_transitlaw16_CallRidable, e4_1, w4_1, e4_3, w4_3, c4_4, e4_6, w4_6, e4_8, w4_8, c4_9, c4_10, c4_11, hbeq]
  first | refine callD (exampleHolds_ok) ?_ | refine callQD (exampleHolds_ok) ?_
  simp -implicitDefEqProofs (disch := omega) only [go_sem, Nat.reduceAdd, Nat.reduceMul, Nat.reduceSub, Nat.reduceBEq, Nat.reduceLeDiff, Nat.reduceLT, fn_transitlaw16_CallRidable, e4_1, w4_1, e4_3, w4_3, c4_4, e4_6, w4_6, e4_8, w4_8, c4_9, c4_10, c4_11]

theorem CallShifts_law (l : List Stay) (c : Cap) (s : Int) : PCalls PR i_transitlaw16_CallShifts [.slice (l.map Stay.row) c, .int .i64 s] (fun v => v = .bool true) := by
  refine acalls_pop fn_transitlaw16_CallShifts_ok (by simp [fn_transitlaw16_CallShifts]) ?_
  simp -implicitDefEqProofs (disch := omega) only [go_sem, Nat.reduceAdd, Nat.reduceMul, Nat.reduceSub, Nat.reduceBEq, Nat.reduceLeDiff, Nat.reduceLT, fn_transitlaw16_CallShifts, e8_1, w8_1, e8_3, w8_3, c8_4, e8_6, w8_6, e8_8, w8_8, c8_9, c8_10, c8_11]
  refine ifD (fun h1 => ?_) (fun h1 => ?_)
  · simp -implicitDefEqProofs (disch := omega) only [go_sem, Nat.reduceAdd, Nat.reduceMul, Nat.reduceSub, Nat.reduceBEq, Nat.reduceLeDiff, Nat.reduceLT, fn_transitlaw16_CallShifts, e8_1, w8_1, e8_3, w8_3, c8_4, e8_6, w8_6, e8_8, w8_8, c8_9, c8_10, c8_11]
    first | refine callD (exampleHolds_ok) ?_ | refine callQD (exampleHolds_ok) ?_
    simp -implicitDefEqProofs (disch := omega) only [go_sem, Nat.reduceAdd, Nat.reduceMul, Nat.reduceSub, Nat.reduceBEq, Nat.reduceLeDiff, Nat.reduceLT, fn_transitlaw16_CallShifts, e8_1, w8_1, e8_3, w8_3, c8_4, e8_6, w8_6, e8_8, w8_8, c8_9, c8_10, c8_11]
  simp -implicitDefEqProofs (disch := omega) only [go_sem, Nat.reduceAdd, Nat.reduceMul, Nat.reduceSub, Nat.reduceBEq, Nat.reduceLeDiff, Nat.reduceLT, fn_transitlaw16_CallShifts, e8_1, w8_1, e8_3, w8_3, c8_4, e8_6, w8_6, e8_8, w8_8, c8_9, c8_10, c8_11]
  first | refine callD (call_Shift_ok l c s (by omega)) ?_ | refine callQD (call_Shift_ok l c s (by omega)) ?_
  first | refine callD (ref16_Shift_ok l c s (by omega)) ?_ | refine callQD (ref16_Shift_ok l c s (by omega)) ?_
  refine callP (ref16_Equal_ok (l.map (moved s)) (l.map (moved s)) _ _ (by simp; omega)) ?_
  rintro v ⟨b, rfl, hb⟩
  obtain rfl := hb.2 rfl
  simp -implicitDefEqProofs (disch := omega) only [go_sem, Nat.reduceAdd, Nat.reduceMul, Nat.reduceSub, Nat.reduceBEq, Nat.reduceLeDiff, Nat.reduceLT, fn_transitlaw16_CallShifts, e8_1, w8_1, e8_3, w8_3, c8_4, e8_6, w8_6, e8_8, w8_8, c8_9, c8_10, c8_11]
  first | refine callD (exampleHolds_ok) ?_ | refine callQD (exampleHolds_ok) ?_
  simp -implicitDefEqProofs (disch := omega) only [go_sem, Nat.reduceAdd, Nat.reduceMul, Nat.reduceSub, Nat.reduceBEq, Nat.reduceLeDiff, Nat.reduceLT, fn_transitlaw16_CallShifts, e8_1, w8_1, e8_3, w8_3, c8_4, e8_6, w8_6, e8_8, w8_8, c8_9, c8_10, c8_11]

theorem CallLists_law (l : List Stay) (c : Cap) (s : Int) : PCalls PR i_transitlaw16_CallLists [.slice (l.map Stay.row) c, .int .i64 s] (fun v => v = .bool true) := by
  have hm : maxLen = 9223372036854775807 := by rfl
  refine acalls_pop fn_transitlaw16_CallLists_ok (by simp [fn_transitlaw16_CallLists]) ?_
  simp -implicitDefEqProofs (disch := omega) only [go_sem, Nat.reduceAdd, Nat.reduceMul, Nat.reduceSub, Nat.reduceBEq, Nat.reduceLeDiff, Nat.reduceLT, fn_transitlaw16_CallLists, e6_1, w6_1, e6_3, w6_3, c6_4, e6_6, w6_6, e6_8, w6_8, c6_9, c6_10, c6_11]
  refine ifD (fun h1 => ?_) (fun h1 => ?_)
  · simp -implicitDefEqProofs (disch := omega) only [go_sem, Nat.reduceAdd, Nat.reduceMul, Nat.reduceSub, Nat.reduceBEq, Nat.reduceLeDiff, Nat.reduceLT, fn_transitlaw16_CallLists, e6_1, w6_1, e6_3, w6_3, c6_4, e6_6, w6_6, e6_8, w6_8, c6_9, c6_10, c6_11]
    first | refine callD (exampleHolds_ok) ?_ | refine callQD (exampleHolds_ok) ?_
    simp -implicitDefEqProofs (disch := omega) only [go_sem, Nat.reduceAdd, Nat.reduceMul, Nat.reduceSub, Nat.reduceBEq, Nat.reduceLeDiff, Nat.reduceLT, fn_transitlaw16_CallLists, e6_1, w6_1, e6_3, w6_3, c6_4, e6_6, w6_6, e6_8, w6_8, c6_9, c6_10, c6_11]
  have hle := atTo_le l s l.length
  simp -implicitDefEqProofs (disch := omega) only [go_sem, Nat.reduceAdd, Nat.reduceMul, Nat.reduceSub, Nat.reduceBEq, Nat.reduceLeDiff, Nat.reduceLT, fn_transitlaw16_CallLists, e6_1, w6_1, e6_3, w6_3, c6_4, e6_6, w6_6, e6_8, w6_8, c6_9, c6_10, c6_11]
  first | refine callD (call_At_ok l c s (by omega)) ?_ | refine callQD (call_At_ok l c s (by omega)) ?_
  first | refine callD (ref16_At_ok l c s (by omega)) ?_ | refine callQD (ref16_At_ok l c s (by omega)) ?_
  first | refine callD (ref16_Same_ok (atTo l s l.length) (atTo l s l.length) .unk .unk (by omega)) ?_ | refine callQD (ref16_Same_ok (atTo l s l.length) (atTo l s l.length) .unk .unk (by omega)) ?_
  simp -implicitDefEqProofs (disch := omega) only [go_sem, Nat.reduceAdd, Nat.reduceMul, Nat.reduceSub, Nat.reduceBEq, Nat.reduceLeDiff, Nat.reduceLT, fn_transitlaw16_CallLists, e6_1, w6_1, e6_3, w6_3, c6_4, e6_6, w6_6, e6_8, w6_8, c6_9, c6_10, c6_11]
  first | refine callD (call_Duration_ok l c (by omega)) ?_ | refine callQD (call_Duration_ok l c (by omega)) ?_
  simp -implicitDefEqProofs (disch := omega) only [go_sem, Nat.reduceAdd, Nat.reduceMul, Nat.reduceSub, Nat.reduceBEq, Nat.reduceLeDiff, Nat.reduceLT, fn_transitlaw16_CallLists, e6_1, w6_1, e6_3, w6_3, c6_4, e6_6, w6_6, e6_8, w6_8, c6_9, c6_10, c6_11]
  first | refine callD (ref16_Duration_ok l c (by omega)) ?_ | refine callQD (ref16_Duration_ok l c (by omega)) ?_
  simp -implicitDefEqProofs (disch := omega) only [go_sem, Nat.reduceAdd, Nat.reduceMul, Nat.reduceSub, Nat.reduceBEq, Nat.reduceLeDiff, Nat.reduceLT, fn_transitlaw16_CallLists, e6_1, w6_1, e6_3, w6_3, c6_4, e6_6, w6_6, e6_8, w6_8, c6_9, c6_10, c6_11]
  first | refine callD (exampleHolds_ok) ?_ | refine callQD (exampleHolds_ok) ?_
  simp -implicitDefEqProofs (disch := omega) only [go_sem, Nat.reduceAdd, Nat.reduceMul, Nat.reduceSub, Nat.reduceBEq, Nat.reduceLeDiff, Nat.reduceLT, fn_transitlaw16_CallLists, e6_1, w6_1, e6_3, w6_3, c6_4, e6_6, w6_6, e6_8, w6_8, c6_9, c6_10, c6_11]

theorem CallEquals_law (l m : List Stay) (c d : Cap) : PCalls PR i_transitlaw16_CallEquals [.slice (l.map Stay.row) c, .slice (m.map Stay.row) d] (fun v => v = .bool true) := by
  have hbeq : ∀ x : Bool, (x == x) = true := fun x => by cases x <;> rfl
  refine acalls_pop fn_transitlaw16_CallEquals_ok (by simp [fn_transitlaw16_CallEquals]) ?_
  simp -implicitDefEqProofs (disch := omega) only [go_sem, Nat.reduceAdd, Nat.reduceMul, Nat.reduceSub, Nat.reduceBEq, Nat.reduceLeDiff, Nat.reduceLT, fn_transitlaw16_CallEquals, e10_1, w10_1, e10_3, w10_3, c10_4, e10_6, w10_6, e10_8, w10_8, c10_9, c10_10, c10_11]
  refine ifD (fun h1 => ?_) (fun h1 => ?_)
  · simp -implicitDefEqProofs (disch := omega) only [go_sem, Nat.reduceAdd, Nat.reduceMul, Nat.reduceSub, Nat.reduceBEq, Nat.reduceLeDiff, Nat.reduceLT, fn_transitlaw16_CallEquals, e10_1, w10_1, e10_3, w10_3, c10_4, e10_6, w10_6, e10_8, w10_8, c10_9, c10_10, c10_11]
    first | refine callD (exampleHolds_ok) ?_ | refine callQD (exampleHolds_ok) ?_
    simp -implicitDefEqProofs (disch := omega) only [go_sem, Nat.reduceAdd, Nat.reduceMul, Nat.reduceSub, Nat.reduceBEq, Nat.reduceLeDiff, Nat.reduceLT, fn_transitlaw16_CallEquals, e10_1, w10_1, e10_3, w10_3, c10_4, e10_6, w10_6, e10_8, w10_8, c10_9, c10_10, c10_11]
  simp -implicitDefEqProofs (disch := omega) only [go_sem, Nat.reduceAdd, Nat.reduceMul, Nat.reduceSub, Nat.reduceBEq, Nat.reduceLeDiff, Nat.reduceLT, fn_transitlaw16_CallEquals, e10_1, w10_1, e10_3, w10_3, c10_4, e10_6, w10_6, e10_8, w10_8, c10_9, c10_10, c10_11]
  refine ifD (fun h2 => ?_) (fun h2 => ?_)
  · simp -implicitDefEqProofs (disch := omega) only [go_sem, Nat.reduceAdd, Nat.reduceMul, Nat.reduceSub, Nat.reduceBEq, Nat.reduceLeDiff, Nat.reduceLT, fn_transitlaw16_CallEquals, e10_1, w10_1, e10_3, w10_3, c10_4, e10_6, w10_6, e10_8, w10_8, c10_9, c10_10, c10_11]
    first | refine callD (exampleHolds_ok) ?_ | refine callQD (exampleHolds_ok) ?_
    simp -implicitDefEqProofs (disch := omega) only [go_sem, Nat.reduceAdd, Nat.reduceMul, Nat.reduceSub, Nat.reduceBEq, Nat.reduceLeDiff, Nat.reduceLT, fn_transitlaw16_CallEquals, e10_1, w10_1, e10_3, w10_3, c10_4, e10_6, w10_6, e10_8, w10_8, c10_9, c10_10, c10_11]
  simp -implicitDefEqProofs (disch := omega) only [go_sem, Nat.reduceAdd, Nat.reduceMul, Nat.reduceSub, Nat.reduceBEq, Nat.reduceLeDiff, Nat.reduceLT, fn_transitlaw16_CallEquals, e10_1, w10_1, e10_3, w10_3, c10_4, e10_6, w10_6, e10_8, w10_8, c10_9, c10_10, c10_11]
  refine callP (call_Equal_ok l m c d (by omega)) ?_
  rintro v ⟨b, rfl, hb⟩
  simp -implicitDefEqProofs (disch := omega) only [go_sem, Nat.reduceAdd, Nat.reduceMul, Nat.reduceSub, Nat.reduceBEq, Nat.reduceLeDiff, Nat.reduceLT, fn_transitlaw16_CallEquals, e10_1, w10_1, e10_3, w10_3, c10_4, e10_6, w10_6, e10_8, w10_8, c10_9, c10_10, c10_11]
  refine callP (ref16_Equal_ok l m c d (by omega)) ?_
  rintro v ⟨b', rfl, hb'⟩
  have hbb : b' = b := by rw [Bool.eq_iff_iff, hb, hb']
  subst hbb
  simp -implicitDefEqProofs (disch := omega) only [go_sem, Nat.reduceAdd, Nat.reduceMul, Nat.reduceSub, Nat.reduceBEq, Nat.reduceLeDiff, Nat.reduceLT, fn_transitlaw16_CallEquals, e10_1, w10_1, e10_3, w10_3, c10_4, e10_6, w10_6, e10_8, w10_8, c10_9, c10_10, c10_11, hbeq]
  refine callP (call_Equal_ok l l c c (by omega)) ?_
  rintro v ⟨b2, rfl, hb2⟩
  obtain rfl := hb2.2 rfl
  simp -implicitDefEqProofs (disch := omega) only [go_sem, Nat.reduceAdd, Nat.reduceMul, Nat.reduceSub, Nat.reduceBEq, Nat.reduceLeDiff, Nat.reduceLT, fn_transitlaw16_CallEquals, e10_1, w10_1, e10_3, w10_3, c10_4, e10_6, w10_6, e10_8, w10_8, c10_9, c10_10, c10_11]
  first | refine callD (exampleHolds_ok) ?_ | refine callQD (exampleHolds_ok) ?_
  simp -implicitDefEqProofs (disch := omega) only [go_sem, Nat.reduceAdd, Nat.reduceMul, Nat.reduceSub, Nat.reduceBEq, Nat.reduceLeDiff, Nat.reduceLT, fn_transitlaw16_CallEquals, e10_1, w10_1, e10_3, w10_3, c10_4, e10_6, w10_6, e10_8, w10_8, c10_9, c10_10, c10_11]

theorem CallRides_law (l : List Stay) (c : Cap) (most : Int) : PCalls PR i_transitlaw16_CallRides [.slice (l.map Stay.row) c, .int .i64 most] (fun v => v = .bool true) := by
  refine acalls_pop fn_transitlaw16_CallRides_ok (by simp [fn_transitlaw16_CallRides]) ?_
  simp -implicitDefEqProofs (disch := omega) only [go_sem, Nat.reduceAdd, Nat.reduceMul, Nat.reduceSub, Nat.reduceBEq, Nat.reduceLeDiff, Nat.reduceLT, fn_transitlaw16_CallRides, e5_1, w5_1, e5_3, w5_3, c5_4, e5_6, w5_6, e5_8, w5_8, e5_10, w5_10, e5_12, w5_12, c5_13, e5_15, w5_15, e5_17, w5_17, e5_19, w5_19, c5_20, e5_22, w5_22, e5_24, w5_24, c5_25, e5_27, w5_27, c5_28, c5_29, e5_31, w5_31, c5_32, c5_33, c5_34, c5_35, c5_36, c5_37, e5_39, w5_39, c5_40, c5_41, c5_42, c5_43, c5_44, c5_45, c5_46]
  refine ifD (fun h1 => ?_) (fun h1 => ?_)
  · simp -implicitDefEqProofs (disch := omega) only [go_sem, Nat.reduceAdd, Nat.reduceMul, Nat.reduceSub, Nat.reduceBEq, Nat.reduceLeDiff, Nat.reduceLT, fn_transitlaw16_CallRides, e5_1, w5_1, e5_3, w5_3, c5_4, e5_6, w5_6, e5_8, w5_8, e5_10, w5_10, e5_12, w5_12, c5_13, e5_15, w5_15, e5_17, w5_17, e5_19, w5_19, c5_20, e5_22, w5_22, e5_24, w5_24, c5_25, e5_27, w5_27, c5_28, c5_29, e5_31, w5_31, c5_32, c5_33, c5_34, c5_35, c5_36, c5_37, e5_39, w5_39, c5_40, c5_41, c5_42, c5_43, c5_44, c5_45, c5_46]
    first | refine callD (exampleHolds_ok) ?_ | refine callQD (exampleHolds_ok) ?_
    simp -implicitDefEqProofs (disch := omega) only [go_sem, Nat.reduceAdd, Nat.reduceMul, Nat.reduceSub, Nat.reduceBEq, Nat.reduceLeDiff, Nat.reduceLT, fn_transitlaw16_CallRides, e5_1, w5_1, e5_3, w5_3, c5_4, e5_6, w5_6, e5_8, w5_8, e5_10, w5_10, e5_12, w5_12, c5_13, e5_15, w5_15, e5_17, w5_17, e5_19, w5_19, c5_20, e5_22, w5_22, e5_24, w5_24, c5_25, e5_27, w5_27, c5_28, c5_29, e5_31, w5_31, c5_32, c5_33, c5_34, c5_35, c5_36, c5_37, e5_39, w5_39, c5_40, c5_41, c5_42, c5_43, c5_44, c5_45, c5_46]
  simp -implicitDefEqProofs (disch := omega) only [go_sem, Nat.reduceAdd, Nat.reduceMul, Nat.reduceSub, Nat.reduceBEq, Nat.reduceLeDiff, Nat.reduceLT, fn_transitlaw16_CallRides, e5_1, w5_1, e5_3, w5_3, c5_4, e5_6, w5_6, e5_8, w5_8, e5_10, w5_10, e5_12, w5_12, c5_13, e5_15, w5_15, e5_17, w5_17, e5_19, w5_19, c5_20, e5_22, w5_22, e5_24, w5_24, c5_25, e5_27, w5_27, c5_28, c5_29, e5_31, w5_31, c5_32, c5_33, c5_34, c5_35, c5_36, c5_37, e5_39, w5_39, c5_40, c5_41, c5_42, c5_43, c5_44, c5_45, c5_46]
  refine ifD (fun h2 => ?_) (fun h2 => ?_)
  · simp -implicitDefEqProofs (disch := omega) only [go_sem, Nat.reduceAdd, Nat.reduceMul, Nat.reduceSub, Nat.reduceBEq, Nat.reduceLeDiff, Nat.reduceLT, fn_transitlaw16_CallRides, e5_1, w5_1, e5_3, w5_3, c5_4, e5_6, w5_6, e5_8, w5_8, e5_10, w5_10, e5_12, w5_12, c5_13, e5_15, w5_15, e5_17, w5_17, e5_19, w5_19, c5_20, e5_22, w5_22, e5_24, w5_24, c5_25, e5_27, w5_27, c5_28, c5_29, e5_31, w5_31, c5_32, c5_33, c5_34, c5_35, c5_36, c5_37, e5_39, w5_39, c5_40, c5_41, c5_42, c5_43, c5_44, c5_45, c5_46]
    first | refine callD (exampleHolds_ok) ?_ | refine callQD (exampleHolds_ok) ?_
    simp -implicitDefEqProofs (disch := omega) only [go_sem, Nat.reduceAdd, Nat.reduceMul, Nat.reduceSub, Nat.reduceBEq, Nat.reduceLeDiff, Nat.reduceLT, fn_transitlaw16_CallRides, e5_1, w5_1, e5_3, w5_3, c5_4, e5_6, w5_6, e5_8, w5_8, e5_10, w5_10, e5_12, w5_12, c5_13, e5_15, w5_15, e5_17, w5_17, e5_19, w5_19, c5_20, e5_22, w5_22, e5_24, w5_24, c5_25, e5_27, w5_27, c5_28, c5_29, e5_31, w5_31, c5_32, c5_33, c5_34, c5_35, c5_36, c5_37, e5_39, w5_39, c5_40, c5_41, c5_42, c5_43, c5_44, c5_45, c5_46]
  simp -implicitDefEqProofs (disch := omega) only [go_sem, Nat.reduceAdd, Nat.reduceMul, Nat.reduceSub, Nat.reduceBEq, Nat.reduceLeDiff, Nat.reduceLT, fn_transitlaw16_CallRides, e5_1, w5_1, e5_3, w5_3, c5_4, e5_6, w5_6, e5_8, w5_8, e5_10, w5_10, e5_12, w5_12, c5_13, e5_15, w5_15, e5_17, w5_17, e5_19, w5_19, c5_20, e5_22, w5_22, e5_24, w5_24, c5_25, e5_27, w5_27, c5_28, c5_29, e5_31, w5_31, c5_32, c5_33, c5_34, c5_35, c5_36, c5_37, e5_39, w5_39, c5_40, c5_41, c5_42, c5_43, c5_44, c5_45, c5_46]
  refine ifD (fun h3 => ?_) (fun h3 => ?_)
  · simp -implicitDefEqProofs (disch := omega) only [go_sem, Nat.reduceAdd, Nat.reduceMul, Nat.reduceSub, Nat.reduceBEq, Nat.reduceLeDiff, Nat.reduceLT, fn_transitlaw16_CallRides, e5_1, w5_1, e5_3, w5_3, c5_4, e5_6, w5_6, e5_8, w5_8, e5_10, w5_10, e5_12, w5_12, c5_13, e5_15, w5_15, e5_17, w5_17, e5_19, w5_19, c5_20, e5_22, w5_22, e5_24, w5_24, c5_25, e5_27, w5_27, c5_28, c5_29, e5_31, w5_31, c5_32, c5_33, c5_34, c5_35, c5_36, c5_37, e5_39, w5_39, c5_40, c5_41, c5_42, c5_43, c5_44, c5_45, c5_46]
    first | refine callD (exampleHolds_ok) ?_ | refine callQD (exampleHolds_ok) ?_
    simp -implicitDefEqProofs (disch := omega) only [go_sem, Nat.reduceAdd, Nat.reduceMul, Nat.reduceSub, Nat.reduceBEq, Nat.reduceLeDiff, Nat.reduceLT, fn_transitlaw16_CallRides, e5_1, w5_1, e5_3, w5_3, c5_4, e5_6, w5_6, e5_8, w5_8, e5_10, w5_10, e5_12, w5_12, c5_13, e5_15, w5_15, e5_17, w5_17, e5_19, w5_19, c5_20, e5_22, w5_22, e5_24, w5_24, c5_25, e5_27, w5_27, c5_28, c5_29, e5_31, w5_31, c5_32, c5_33, c5_34, c5_35, c5_36, c5_37, e5_39, w5_39, c5_40, c5_41, c5_42, c5_43, c5_44, c5_45, c5_46]
  simp -implicitDefEqProofs (disch := omega) only [go_sem, Nat.reduceAdd, Nat.reduceMul, Nat.reduceSub, Nat.reduceBEq, Nat.reduceLeDiff, Nat.reduceLT, fn_transitlaw16_CallRides, e5_1, w5_1, e5_3, w5_3, c5_4, e5_6, w5_6, e5_8, w5_8, e5_10, w5_10, e5_12, w5_12, c5_13, e5_15, w5_15, e5_17, w5_17, e5_19, w5_19, c5_20, e5_22, w5_22, e5_24, w5_24, c5_25, e5_27, w5_27, c5_28, c5_29, e5_31, w5_31, c5_32, c5_33, c5_34, c5_35, c5_36, c5_37, e5_39, w5_39, c5_40, c5_41, c5_42, c5_43, c5_44, c5_45, c5_46]
  first | refine callD (rides_ok l c most (by omega)) ?_ | refine callQD (rides_ok l c most (by omega)) ?_
  simp -implicitDefEqProofs (disch := omega) only [go_sem, Nat.reduceAdd, Nat.reduceMul, Nat.reduceSub, Nat.reduceBEq, Nat.reduceLeDiff, Nat.reduceLT, fn_transitlaw16_CallRides, e5_1, w5_1, e5_3, w5_3, c5_4, e5_6, w5_6, e5_8, w5_8, e5_10, w5_10, e5_12, w5_12, c5_13, e5_15, w5_15, e5_17, w5_17, e5_19, w5_19, c5_20, e5_22, w5_22, e5_24, w5_24, c5_25, e5_27, w5_27, c5_28, c5_29, e5_31, w5_31, c5_32, c5_33, c5_34, c5_35, c5_36, c5_37, e5_39, w5_39, c5_40, c5_41, c5_42, c5_43, c5_44, c5_45, c5_46]
  first | refine callD (ref16_Rides_ok l c (by omega)) ?_ | refine callQD (ref16_Rides_ok l c (by omega)) ?_
  have hmin : (((ridesOf l).take most.toNat).length : Int) = min most ((ridesOf l).length : Int) := by rw [List.length_take]; omega
  have hrl : (ridesOf l).length ≤ 1000000 := by
    have h2 := Go.Proofs.pairsTo_len (rideT l) l.length l.length
    have h3 : l.length * l.length ≤ 1000 * 1000 := Nat.mul_le_mul (by omega) (by omega)
    have h4 : (ridesOf l).length ≤ l.length * l.length := h2
    omega
  have hPL : ∀ i, i < ((ridesOf l).take most.toNat).length → (ridesOf l)[i]? = ((ridesOf l).take most.toNat)[i]? := by
    intro i hi
    rw [List.getElem?_take_of_lt]
    rw [List.length_take] at hi; omega
  simp -implicitDefEqProofs (disch := omega) only [go_sem, Nat.reduceAdd, Nat.reduceMul, Nat.reduceSub, Nat.reduceBEq, Nat.reduceLeDiff, Nat.reduceLT, fn_transitlaw16_CallRides, e5_1, w5_1, e5_3, w5_3, c5_4, e5_6, w5_6, e5_8, w5_8, e5_10, w5_10, e5_12, w5_12, c5_13, e5_15, w5_15, e5_17, w5_17, e5_19, w5_19, c5_20, e5_22, w5_22, e5_24, w5_24, c5_25, e5_27, w5_27, c5_28, c5_29, e5_31, w5_31, c5_32, c5_33, c5_34, c5_35, c5_36, c5_37, e5_39, w5_39, c5_40, c5_41, c5_42, c5_43, c5_44, c5_45, c5_46]
  rw [decide_eq_true hmin]
  generalize (ridesOf l).take most.toNat = P at *
  simp -implicitDefEqProofs (disch := omega) only [go_sem, Nat.reduceAdd, Nat.reduceMul, Nat.reduceSub, Nat.reduceBEq, Nat.reduceLeDiff, Nat.reduceLT, fn_transitlaw16_CallRides, e5_1, w5_1, e5_3, w5_3, c5_4, e5_6, w5_6, e5_8, w5_8, e5_10, w5_10, e5_12, w5_12, c5_13, e5_15, w5_15, e5_17, w5_17, e5_19, w5_19, c5_20, e5_22, w5_22, e5_24, w5_24, c5_25, e5_27, w5_27, c5_28, c5_29, e5_31, w5_31, c5_32, c5_33, c5_34, c5_35, c5_36, c5_37, e5_39, w5_39, c5_40, c5_41, c5_42, c5_43, c5_44, c5_45, c5_46]
  refine wpC_forL P (fun i vs M => vs = [.slice (P.map pairRow) .unk, .slice ((ridesOf l).map pairRow) .unk, .int .i64 P.length, .int .i64 i] ∧ M = []) ⟨rfl, rfl⟩ ?_ ?_
  · rintro i x vs M hx hi hd ⟨rfl, rfl⟩
    have hy := hPL i hi
    rw [hx] at hy
    simp -implicitDefEqProofs (disch := omega) only [go_sem, Nat.reduceAdd, Nat.reduceMul, Nat.reduceSub, Nat.reduceBEq, Nat.reduceLeDiff, Nat.reduceLT, fn_transitlaw16_CallRides, e5_1, w5_1, e5_3, w5_3, c5_4, e5_6, w5_6, e5_8, w5_8, e5_10, w5_10, e5_12, w5_12, c5_13, e5_15, w5_15, e5_17, w5_17, e5_19, w5_19, c5_20, e5_22, w5_22, e5_24, w5_24, c5_25, e5_27, w5_27, c5_28, c5_29, e5_31, w5_31, c5_32, c5_33, c5_34, c5_35, c5_36, c5_37, e5_39, w5_39, c5_40, c5_41, c5_42, c5_43, c5_44, c5_45, c5_46, hd, hx, hy, pairRow]
    refine next_stay hi ⟨?_, rfl⟩
    simp only [vals, sget]; rfl
  · rintro vs M ⟨rfl, rfl⟩
    simp -implicitDefEqProofs (disch := omega) only [go_sem, Nat.reduceAdd, Nat.reduceMul, Nat.reduceSub, Nat.reduceBEq, Nat.reduceLeDiff, Nat.reduceLT, fn_transitlaw16_CallRides, e5_1, w5_1, e5_3, w5_3, c5_4, e5_6, w5_6, e5_8, w5_8, e5_10, w5_10, e5_12, w5_12, c5_13, e5_15, w5_15, e5_17, w5_17, e5_19, w5_19, c5_20, e5_22, w5_22, e5_24, w5_24, c5_25, e5_27, w5_27, c5_28, c5_29, e5_31, w5_31, c5_32, c5_33, c5_34, c5_35, c5_36, c5_37, e5_39, w5_39, c5_40, c5_41, c5_42, c5_43, c5_44, c5_45, c5_46, dec_irrefl]
    first | refine callD (exampleHolds_ok) ?_ | refine callQD (exampleHolds_ok) ?_
    simp -implicitDefEqProofs (disch := omega) only [go_sem, Nat.reduceAdd, Nat.reduceMul, Nat.reduceSub, Nat.reduceBEq, Nat.reduceLeDiff, Nat.reduceLT, fn_transitlaw16_CallRides, e5_1, w5_1, e5_3, w5_3, c5_4, e5_6, w5_6, e5_8, w5_8, e5_10, w5_10, e5_12, w5_12, c5_13, e5_15, w5_15, e5_17, w5_17, e5_19, w5_19, c5_20, e5_22, w5_22, e5_24, w5_24, c5_25, e5_27, w5_27, c5_28, c5_29, e5_31, w5_31, c5_32, c5_33, c5_34, c5_35, c5_36, c5_37, e5_39, w5_39, c5_40, c5_41, c5_42, c5_43, c5_44, c5_45, c5_46]

end Go.Vm.C

