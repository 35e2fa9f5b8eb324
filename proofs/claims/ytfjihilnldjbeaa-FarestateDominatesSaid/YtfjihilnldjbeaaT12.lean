/- Contracts: dominance, and the chapter's example. -/
import Derived.Test.YtfjihilnldjbeaaT11

namespace Go.Vm.C
open Go.Vm
set_option maxHeartbeats 1000000
set_option maxRecDepth 10000
set_option linter.unusedSimpArgs false
set_option linter.unusedVariables false

/-! ### Dominance -/
def lastR (rl : List Ride) : Ride := rl.headD ⟨0, 0, 0, 0⟩
/-- The closed part, for rides last first. -/
def closedL (f g : Fares) (rl ql : List Ride) : Bool := closedB f (minSum f rl.reverse) (minSum g ql.reverse) rl.length ql.length (lastR rl) (lastR ql)
def openL (A B : List Open) : Bool := B.all fun x => A.any fun o => replB o x
def domL (f g : Fares) (rl ql : List Ride) : Bool := closedL f g rl ql && openL (opens f rl.reverse) (opens g ql.reverse)

theorem opens_zones {f : Fares} {l : List Ride} {o : Open} (h : o ∈ opens f l) : o.zones < 18446744073709551616 := by
  obtain ⟨i, k, _, _, h⟩ := opens_mem.1 h
  unfold openOf at h
  split at h
  · split at h
    · simp only [Option.some.injEq] at h
      rw [← h]
      exact zonesOf_lt _
    · simp at h
  · simp at h
theorem opens_len {f : Fares} {l : List Ride} (hok : f.Ok) (hl : l.length ≤ 8) : (opens f l).length ≤ 144 := by
  have h1 := opensTo_len f l l.length
  have h2 := hok.len
  have h3 : l.length * f.products.length ≤ 8 * 16 := Nat.mul_le_mul hl h2
  rw [opens]; omega
theorem StAt.shows2 {M : Mem} {f : Fares} {fp : Nat} {rl : List Ride} {id : Nat} (h : StAt M f fp rl id) : ∃ p r, M[id]? = some (.box (stRow fp p r (rl.length : Nat) (sums f rl.reverse))) ∧ (rl ≠ [] → r = lastR rl) := by
  cases rl with
  | nil => obtain ⟨r, h⟩ := h; exact ⟨_, r, h, fun h => absurd rfl h⟩
  | cons r rl => obtain ⟨pid, h, _⟩ := h; exact ⟨_, r, h, fun _ => rfl⟩
theorem sums_all (f : Fares) (rl : List Ride) : sums f rl.reverse rl.length = minSum f rl.reverse := by
  rw [sums, if_pos (by simp), List.take_of_length_le (by simp)]
theorem minSum_top {f : Fares} (hok : f.Ok) {l : List Ride} (hl : l.length ≤ 8) : minSum f l ≤ 9000000 := by
  rcases Int.lt_or_le (minSum f l) 0 with h | h
  · omega
  · obtain ⟨d, e1, e2⟩ := minSum_get h
    have := div_mild hok _ _ e1
    omega

theorem State_Dominates_ok {f g : Fares} (hf : f.wf) (hok : f.Ok) (hg : g.wf) (hokg : g.Ok) {M : Mem} {fp id gp jd : Nat} {rl ql : List Ride} (h : Held M f fp rl id) (k : Held M g gp ql jd) (hl : ∀ x ∈ rl, x.wf) (hlen : rl.length ≤ 8) (hq : ∀ x ∈ ql, x.wf) (hqlen : ql.length ≤ 8) :
    ACalls PR i_farestate_State_Dominates [.ptr id 0, .ptr jd 0] M (fun v M' => (∃ b : Bool, v = .bool b ∧ (b = true ↔ sameF f g ∧ domL f g rl ql = true)) ∧ M' = M) := by
  obtain ⟨pv, x, hM, hx⟩ := h.st.shows2
  obtain ⟨qv, y, hN, hy⟩ := k.st.shows2
  have hU : memUnder M.length M = true := h.own
  have hp1 := hok.len
  have hp2 := hokg.len
  have hc : closedB f (sums f rl.reverse rl.length) (sums g ql.reverse ql.length) rl.length ql.length x y = closedL f g rl ql := by
    rw [sums_all, sums_all, closedL, closedB, closedB]
    by_cases h1 : ql = []
    · simp [h1]
    by_cases h2 : rl = []
    · simp [h2]
    rw [hx h2, hy h1]
  refine acalls_pop fn_farestate_State_Dominates_ok (by simp [fn_farestate_State_Dominates]) ?_
  simp -implicitDefEqProofs (disch := omega) only [go_sem, Nat.reduceAdd, Nat.reduceMul, Nat.reduceSub, Nat.reduceBEq, Nat.reduceLeDiff, Nat.reduceLT, fn_farestate_State_Dominates, e19_1, w19_1, e19_3, w19_3, c19_4, e19_6, w19_6, e19_8, w19_8, e19_10, w19_10, e19_12, w19_12, c19_13, e19_15, w19_15, e19_17, w19_17, e19_19, w19_19, e19_21, w19_21, c19_22, e19_24, w19_24, e19_26, w19_26, c19_27, c19_28, e19_30, w19_30, c19_31, c19_32, c19_33, c19_34, c19_35, c19_36, e19_38, w19_38, c19_39, e19_41, w19_41, c19_42, c19_43, c19_44, c19_45, e19_47, w19_47, c19_48, c19_49, c19_50, c19_51, c19_52, c19_53, e19_55, w19_55, c19_56, c19_57, c19_58, c19_59, c19_60, eq_ptr_nil, nilCheck_ptr, hM, hN, st_0]
  refine callA (sameFares_ok f g (by omega) h.fares k.fares hU) ?_
  rintro v N ⟨⟨b, rfl, hb⟩, rfl⟩
  simp -implicitDefEqProofs (disch := omega) only [go_sem, Nat.reduceAdd, Nat.reduceMul, Nat.reduceSub, Nat.reduceBEq, Nat.reduceLeDiff, Nat.reduceLT, fn_farestate_State_Dominates, e19_1, w19_1, e19_3, w19_3, c19_4, e19_6, w19_6, e19_8, w19_8, e19_10, w19_10, e19_12, w19_12, c19_13, e19_15, w19_15, e19_17, w19_17, e19_19, w19_19, e19_21, w19_21, c19_22, e19_24, w19_24, e19_26, w19_26, c19_27, c19_28, e19_30, w19_30, c19_31, c19_32, c19_33, c19_34, c19_35, c19_36, e19_38, w19_38, c19_39, e19_41, w19_41, c19_42, c19_43, c19_44, c19_45, e19_47, w19_47, c19_48, c19_49, c19_50, c19_51, c19_52, c19_53, e19_55, w19_55, c19_56, c19_57, c19_58, c19_59, c19_60]
  refine ifB (fun h1 => ?_) (fun h1 => ?_)
  rotate_left
  · simp -implicitDefEqProofs (disch := omega) only [go_sem, Nat.reduceAdd, Nat.reduceMul, Nat.reduceSub, Nat.reduceBEq, Nat.reduceLeDiff, Nat.reduceLT, fn_farestate_State_Dominates, e19_1, w19_1, e19_3, w19_3, c19_4, e19_6, w19_6, e19_8, w19_8, e19_10, w19_10, e19_12, w19_12, c19_13, e19_15, w19_15, e19_17, w19_17, e19_19, w19_19, e19_21, w19_21, c19_22, e19_24, w19_24, e19_26, w19_26, c19_27, c19_28, e19_30, w19_30, c19_31, c19_32, c19_33, c19_34, c19_35, c19_36, e19_38, w19_38, c19_39, e19_41, w19_41, c19_42, c19_43, c19_44, c19_45, e19_47, w19_47, c19_48, c19_49, c19_50, c19_51, c19_52, c19_53, e19_55, w19_55, c19_56, c19_57, c19_58, c19_59, c19_60, take_len, hU]
    refine ⟨false, rfl, by simp, fun e => ?_⟩
    rw [hb.2 e.1] at h1; simp at h1
  have hsf := hb.1 h1
  simp -implicitDefEqProofs (disch := omega) only [go_sem, Nat.reduceAdd, Nat.reduceMul, Nat.reduceSub, Nat.reduceBEq, Nat.reduceLeDiff, Nat.reduceLT, fn_farestate_State_Dominates, e19_1, w19_1, e19_3, w19_3, c19_4, e19_6, w19_6, e19_8, w19_8, e19_10, w19_10, e19_12, w19_12, c19_13, e19_15, w19_15, e19_17, w19_17, e19_19, w19_19, e19_21, w19_21, c19_22, e19_24, w19_24, e19_26, w19_26, c19_27, c19_28, e19_30, w19_30, c19_31, c19_32, c19_33, c19_34, c19_35, c19_36, e19_38, w19_38, c19_39, e19_41, w19_41, c19_42, c19_43, c19_44, c19_45, e19_47, w19_47, c19_48, c19_49, c19_50, c19_51, c19_52, c19_53, e19_55, w19_55, c19_56, c19_57, c19_58, c19_59, c19_60]
  refine callA (closedBetter_ok hok hM hN h.fares hU (by omega) (by omega) (by rw [sums_all]; exact minSum_top hok (by simpa using hlen))) ?_
  rintro v N ⟨rfl, rfl⟩
  rw [hc]
  simp -implicitDefEqProofs (disch := omega) only [go_sem, Nat.reduceAdd, Nat.reduceMul, Nat.reduceSub, Nat.reduceBEq, Nat.reduceLeDiff, Nat.reduceLT, fn_farestate_State_Dominates, e19_1, w19_1, e19_3, w19_3, c19_4, e19_6, w19_6, e19_8, w19_8, e19_10, w19_10, e19_12, w19_12, c19_13, e19_15, w19_15, e19_17, w19_17, e19_19, w19_19, e19_21, w19_21, c19_22, e19_24, w19_24, e19_26, w19_26, c19_27, c19_28, e19_30, w19_30, c19_31, c19_32, c19_33, c19_34, c19_35, c19_36, e19_38, w19_38, c19_39, e19_41, w19_41, c19_42, c19_43, c19_44, c19_45, e19_47, w19_47, c19_48, c19_49, c19_50, c19_51, c19_52, c19_53, e19_55, w19_55, c19_56, c19_57, c19_58, c19_59, c19_60]
  refine ifB (fun h2 => ?_) (fun h2 => ?_)
  rotate_left
  · simp -implicitDefEqProofs (disch := omega) only [go_sem, Nat.reduceAdd, Nat.reduceMul, Nat.reduceSub, Nat.reduceBEq, Nat.reduceLeDiff, Nat.reduceLT, fn_farestate_State_Dominates, e19_1, w19_1, e19_3, w19_3, c19_4, e19_6, w19_6, e19_8, w19_8, e19_10, w19_10, e19_12, w19_12, c19_13, e19_15, w19_15, e19_17, w19_17, e19_19, w19_19, e19_21, w19_21, c19_22, e19_24, w19_24, e19_26, w19_26, c19_27, c19_28, e19_30, w19_30, c19_31, c19_32, c19_33, c19_34, c19_35, c19_36, e19_38, w19_38, c19_39, e19_41, w19_41, c19_42, c19_43, c19_44, c19_45, e19_47, w19_47, c19_48, c19_49, c19_50, c19_51, c19_52, c19_53, e19_55, w19_55, c19_56, c19_57, c19_58, c19_59, c19_60, take_len, hU]
    refine ⟨false, rfl, by simp, fun e => ?_⟩
    simp [domL, h2] at e
  simp -implicitDefEqProofs (disch := omega) only [go_sem, Nat.reduceAdd, Nat.reduceMul, Nat.reduceSub, Nat.reduceBEq, Nat.reduceLeDiff, Nat.reduceLT, fn_farestate_State_Dominates, e19_1, w19_1, e19_3, w19_3, c19_4, e19_6, w19_6, e19_8, w19_8, e19_10, w19_10, e19_12, w19_12, c19_13, e19_15, w19_15, e19_17, w19_17, e19_19, w19_19, e19_21, w19_21, c19_22, e19_24, w19_24, e19_26, w19_26, c19_27, c19_28, e19_30, w19_30, c19_31, c19_32, c19_33, c19_34, c19_35, c19_36, e19_38, w19_38, c19_39, e19_41, w19_41, c19_42, c19_43, c19_44, c19_45, e19_47, w19_47, c19_48, c19_49, c19_50, c19_51, c19_52, c19_53, e19_55, w19_55, c19_56, c19_57, c19_58, c19_59, c19_60]
  refine callA (State_tickets_ok hf hok h hl hlen) ?_
  rintro v N ⟨rfl, rfl⟩
  simp -implicitDefEqProofs (disch := omega) only [go_sem, Nat.reduceAdd, Nat.reduceMul, Nat.reduceSub, Nat.reduceBEq, Nat.reduceLeDiff, Nat.reduceLT, fn_farestate_State_Dominates, e19_1, w19_1, e19_3, w19_3, c19_4, e19_6, w19_6, e19_8, w19_8, e19_10, w19_10, e19_12, w19_12, c19_13, e19_15, w19_15, e19_17, w19_17, e19_19, w19_19, e19_21, w19_21, c19_22, e19_24, w19_24, e19_26, w19_26, c19_27, c19_28, e19_30, w19_30, c19_31, c19_32, c19_33, c19_34, c19_35, c19_36, e19_38, w19_38, c19_39, e19_41, w19_41, c19_42, c19_43, c19_44, c19_45, e19_47, w19_47, c19_48, c19_49, c19_50, c19_51, c19_52, c19_53, e19_55, w19_55, c19_56, c19_57, c19_58, c19_59, c19_60]
  refine callA (State_tickets_ok hg hokg k hq hqlen) ?_
  rintro v N ⟨rfl, rfl⟩
  simp -implicitDefEqProofs (disch := omega) only [go_sem, Nat.reduceAdd, Nat.reduceMul, Nat.reduceSub, Nat.reduceBEq, Nat.reduceLeDiff, Nat.reduceLT, fn_farestate_State_Dominates, e19_1, w19_1, e19_3, w19_3, c19_4, e19_6, w19_6, e19_8, w19_8, e19_10, w19_10, e19_12, w19_12, c19_13, e19_15, w19_15, e19_17, w19_17, e19_19, w19_19, e19_21, w19_21, c19_22, e19_24, w19_24, e19_26, w19_26, c19_27, c19_28, e19_30, w19_30, c19_31, c19_32, c19_33, c19_34, c19_35, c19_36, e19_38, w19_38, c19_39, e19_41, w19_41, c19_42, c19_43, c19_44, c19_45, e19_47, w19_47, c19_48, c19_49, c19_50, c19_51, c19_52, c19_53, e19_55, w19_55, c19_56, c19_57, c19_58, c19_59, c19_60]
  have hA := opens_len (l := rl.reverse) hok (by simpa using hlen)
  have hB := opens_len (l := ql.reverse) hokg (by simpa using hqlen)
  have hzA : ∀ o ∈ opens f rl.reverse, o.zones < 18446744073709551616 := fun o ho => opens_zones ho
  have hzB : ∀ o ∈ opens g ql.reverse, o.zones < 18446744073709551616 := fun o ho => opens_zones ho
  have hdom : domL f g rl ql = openL (opens f rl.reverse) (opens g ql.reverse) := by rw [domL, h2, Bool.true_and]
  rw [hdom]
  generalize opens f rl.reverse = A at *
  generalize opens g ql.reverse = B at *
  refine wpC_forL B (fun i vs N' => openL A (B.take i) = true ∧ vs = [.slice (A.map Open.row) .unk, .slice (B.map Open.row) .unk, .int .i64 B.length, .int .i64 i] ∧ N' = N) ⟨rfl, rfl, rfl⟩ ?_ ?_
  rotate_left
  · rintro vs N' ⟨hall, rfl, rfl⟩
    rw [List.take_length] at hall
    simp -implicitDefEqProofs (disch := omega) only [go_sem, Nat.reduceAdd, Nat.reduceMul, Nat.reduceSub, Nat.reduceBEq, Nat.reduceLeDiff, Nat.reduceLT, fn_farestate_State_Dominates, e19_1, w19_1, e19_3, w19_3, c19_4, e19_6, w19_6, e19_8, w19_8, e19_10, w19_10, e19_12, w19_12, c19_13, e19_15, w19_15, e19_17, w19_17, e19_19, w19_19, e19_21, w19_21, c19_22, e19_24, w19_24, e19_26, w19_26, c19_27, c19_28, e19_30, w19_30, c19_31, c19_32, c19_33, c19_34, c19_35, c19_36, e19_38, w19_38, c19_39, e19_41, w19_41, c19_42, c19_43, c19_44, c19_45, e19_47, w19_47, c19_48, c19_49, c19_50, c19_51, c19_52, c19_53, e19_55, w19_55, c19_56, c19_57, c19_58, c19_59, c19_60, dec_irrefl, take_len, hU]
    exact ⟨true, rfl, fun _ => ⟨hsf, hall⟩, fun _ => rfl⟩
  rintro i o vs N' ho hi hid ⟨hall, rfl, rfl⟩
  simp -implicitDefEqProofs (disch := omega) only [go_sem, Nat.reduceAdd, Nat.reduceMul, Nat.reduceSub, Nat.reduceBEq, Nat.reduceLeDiff, Nat.reduceLT, fn_farestate_State_Dominates, e19_1, w19_1, e19_3, w19_3, c19_4, e19_6, w19_6, e19_8, w19_8, e19_10, w19_10, e19_12, w19_12, c19_13, e19_15, w19_15, e19_17, w19_17, e19_19, w19_19, e19_21, w19_21, c19_22, e19_24, w19_24, e19_26, w19_26, c19_27, c19_28, e19_30, w19_30, c19_31, c19_32, c19_33, c19_34, c19_35, c19_36, e19_38, w19_38, c19_39, e19_41, w19_41, c19_42, c19_43, c19_44, c19_45, e19_47, w19_47, c19_48, c19_49, c19_50, c19_51, c19_52, c19_53, e19_55, w19_55, c19_56, c19_57, c19_58, c19_59, c19_60, hid, ho, Open.row, get_at0, set_at0, get_at, set_at, List.append_assoc]
  refine wpC_forL A (fun j vs N => vs = [.slice (A.map Open.row) .unk, .ptr N'.length 0, .bool ((A.take j).any fun a => replB a o), .slice (B.map Open.row) .unk, .int .i64 B.length, .int .i64 i, .slice (A.map Open.row) .unk, .int .i64 A.length, .int .i64 j] ∧ N = N' ++ [.box o.row]) ⟨rfl, rfl⟩ ?_ ?_
  · rintro j a vs N ha hj hjd ⟨rfl, rfl⟩
    have hpop : ∀ (b : Bool) (L : Mem), popOK (N'.length + 1) [.slice (A.map Open.row) .unk, .ptr N'.length 0, .bool b, .slice (B.map Open.row) .unk, .int .i64 B.length, .int .i64 i, .slice (A.map Open.row) .unk, .int .i64 A.length, .int .i64 ((j : Int) + 1)] (N' ++ .box o.row :: L) = true := by
      intro b L
      refine pop1 (h.own.app (by simp [memUnder, Blk.under, underL, V.under, Open.row])) ?_
      simp [underL, V.under]
    have hnext : (A.take (j + 1)).any (fun a => replB a o) = ((A.take j).any (fun a => replB a o) || replB a o) := by
      rw [List.take_add_one, ha, List.any_append]; simp
    simp -implicitDefEqProofs (disch := omega) only [go_sem, Nat.reduceAdd, Nat.reduceMul, Nat.reduceSub, Nat.reduceBEq, Nat.reduceLeDiff, Nat.reduceLT, fn_farestate_State_Dominates, e19_1, w19_1, e19_3, w19_3, c19_4, e19_6, w19_6, e19_8, w19_8, e19_10, w19_10, e19_12, w19_12, c19_13, e19_15, w19_15, e19_17, w19_17, e19_19, w19_19, e19_21, w19_21, c19_22, e19_24, w19_24, e19_26, w19_26, c19_27, c19_28, e19_30, w19_30, c19_31, c19_32, c19_33, c19_34, c19_35, c19_36, e19_38, w19_38, c19_39, e19_41, w19_41, c19_42, c19_43, c19_44, c19_45, e19_47, w19_47, c19_48, c19_49, c19_50, c19_51, c19_52, c19_53, e19_55, w19_55, c19_56, c19_57, c19_58, c19_59, c19_60, hjd, ha, Open.row, get_at0, set_at0, get_at, set_at, List.append_assoc]
    refine ifB (fun h3 => ?_) (fun h3 => ?_)
    · simp -implicitDefEqProofs (disch := omega) only [go_sem, Nat.reduceAdd, Nat.reduceMul, Nat.reduceSub, Nat.reduceBEq, Nat.reduceLeDiff, Nat.reduceLT, fn_farestate_State_Dominates, e19_1, w19_1, e19_3, w19_3, c19_4, e19_6, w19_6, e19_8, w19_8, e19_10, w19_10, e19_12, w19_12, c19_13, e19_15, w19_15, e19_17, w19_17, e19_19, w19_19, e19_21, w19_21, c19_22, e19_24, w19_24, e19_26, w19_26, c19_27, c19_28, e19_30, w19_30, c19_31, c19_32, c19_33, c19_34, c19_35, c19_36, e19_38, w19_38, c19_39, e19_41, w19_41, c19_42, c19_43, c19_44, c19_45, e19_47, w19_47, c19_48, c19_49, c19_50, c19_51, c19_52, c19_53, e19_55, w19_55, c19_56, c19_57, c19_58, c19_59, c19_60]
      refine next_pop hj (hpop _ _) ⟨?_, take1 _ _ _⟩
      rw [hnext, h3, Bool.true_or]; simp only [vals, sget]; rfl
    simp -implicitDefEqProofs (disch := omega) only [go_sem, Nat.reduceAdd, Nat.reduceMul, Nat.reduceSub, Nat.reduceBEq, Nat.reduceLeDiff, Nat.reduceLT, fn_farestate_State_Dominates, e19_1, w19_1, e19_3, w19_3, c19_4, e19_6, w19_6, e19_8, w19_8, e19_10, w19_10, e19_12, w19_12, c19_13, e19_15, w19_15, e19_17, w19_17, e19_19, w19_19, e19_21, w19_21, c19_22, e19_24, w19_24, e19_26, w19_26, c19_27, c19_28, e19_30, w19_30, c19_31, c19_32, c19_33, c19_34, c19_35, c19_36, e19_38, w19_38, c19_39, e19_41, w19_41, c19_42, c19_43, c19_44, c19_45, e19_47, w19_47, c19_48, c19_49, c19_50, c19_51, c19_52, c19_53, e19_55, w19_55, c19_56, c19_57, c19_58, c19_59, c19_60, ha, Open.row, get_at0, set_at0, get_at, set_at, List.append_assoc]
    first | refine callD (replaces_ok a o (hzA a (List.mem_of_getElem? ha)) (hzB o (List.mem_of_getElem? ho))) ?_ | refine callQD (replaces_ok a o (hzA a (List.mem_of_getElem? ha)) (hzB o (List.mem_of_getElem? ho))) ?_
    simp -implicitDefEqProofs (disch := omega) only [go_sem, Nat.reduceAdd, Nat.reduceMul, Nat.reduceSub, Nat.reduceBEq, Nat.reduceLeDiff, Nat.reduceLT, fn_farestate_State_Dominates, e19_1, w19_1, e19_3, w19_3, c19_4, e19_6, w19_6, e19_8, w19_8, e19_10, w19_10, e19_12, w19_12, c19_13, e19_15, w19_15, e19_17, w19_17, e19_19, w19_19, e19_21, w19_21, c19_22, e19_24, w19_24, e19_26, w19_26, c19_27, c19_28, e19_30, w19_30, c19_31, c19_32, c19_33, c19_34, c19_35, c19_36, e19_38, w19_38, c19_39, e19_41, w19_41, c19_42, c19_43, c19_44, c19_45, e19_47, w19_47, c19_48, c19_49, c19_50, c19_51, c19_52, c19_53, e19_55, w19_55, c19_56, c19_57, c19_58, c19_59, c19_60]
    refine next_pop hj (hpop _ _) ⟨?_, take1 _ _ _⟩
    rw [hnext, h3, Bool.false_or]; simp only [vals, sget]; rfl
  rintro vs N ⟨rfl, rfl⟩
  rw [List.take_length]
  simp -implicitDefEqProofs (disch := omega) only [go_sem, Nat.reduceAdd, Nat.reduceMul, Nat.reduceSub, Nat.reduceBEq, Nat.reduceLeDiff, Nat.reduceLT, fn_farestate_State_Dominates, e19_1, w19_1, e19_3, w19_3, c19_4, e19_6, w19_6, e19_8, w19_8, e19_10, w19_10, e19_12, w19_12, c19_13, e19_15, w19_15, e19_17, w19_17, e19_19, w19_19, e19_21, w19_21, c19_22, e19_24, w19_24, e19_26, w19_26, c19_27, c19_28, e19_30, w19_30, c19_31, c19_32, c19_33, c19_34, c19_35, c19_36, e19_38, w19_38, c19_39, e19_41, w19_41, c19_42, c19_43, c19_44, c19_45, e19_47, w19_47, c19_48, c19_49, c19_50, c19_51, c19_52, c19_53, e19_55, w19_55, c19_56, c19_57, c19_58, c19_59, c19_60, dec_irrefl]
  refine ifB (fun h3 => ?_) (fun h3 => ?_)
  · simp -implicitDefEqProofs (disch := omega) only [go_sem, Nat.reduceAdd, Nat.reduceMul, Nat.reduceSub, Nat.reduceBEq, Nat.reduceLeDiff, Nat.reduceLT, fn_farestate_State_Dominates, e19_1, w19_1, e19_3, w19_3, c19_4, e19_6, w19_6, e19_8, w19_8, e19_10, w19_10, e19_12, w19_12, c19_13, e19_15, w19_15, e19_17, w19_17, e19_19, w19_19, e19_21, w19_21, c19_22, e19_24, w19_24, e19_26, w19_26, c19_27, c19_28, e19_30, w19_30, c19_31, c19_32, c19_33, c19_34, c19_35, c19_36, e19_38, w19_38, c19_39, e19_41, w19_41, c19_42, c19_43, c19_44, c19_45, e19_47, w19_47, c19_48, c19_49, c19_50, c19_51, c19_52, c19_53, e19_55, w19_55, c19_56, c19_57, c19_58, c19_59, c19_60]
    refine next_pop hi ?_ ⟨?_, ?_, ?_⟩
    · have : memUnder N'.length N' = true := hU
      simp [popOK, vals, sget, underL, V.under, this]
    · rw [List.take_add_one, ho, openL, List.all_append]
      rw [openL] at hall
      rw [hall]
      simpa using h3
    · simp only [vals, sget]; rfl
    · exact app_take _ _
  · simp -implicitDefEqProofs (disch := omega) only [go_sem, Nat.reduceAdd, Nat.reduceMul, Nat.reduceSub, Nat.reduceBEq, Nat.reduceLeDiff, Nat.reduceLT, fn_farestate_State_Dominates, e19_1, w19_1, e19_3, w19_3, c19_4, e19_6, w19_6, e19_8, w19_8, e19_10, w19_10, e19_12, w19_12, c19_13, e19_15, w19_15, e19_17, w19_17, e19_19, w19_19, e19_21, w19_21, c19_22, e19_24, w19_24, e19_26, w19_26, c19_27, c19_28, e19_30, w19_30, c19_31, c19_32, c19_33, c19_34, c19_35, c19_36, e19_38, w19_38, c19_39, e19_41, w19_41, c19_42, c19_43, c19_44, c19_45, e19_47, w19_47, c19_48, c19_49, c19_50, c19_51, c19_52, c19_53, e19_55, w19_55, c19_56, c19_57, c19_58, c19_59, c19_60, app_take, le_app, hU]
    refine ⟨false, rfl, by simp, fun e => ?_⟩
    have e2 := e.2
    rw [openL, List.all_eq_true] at e2
    have := e2 o (List.mem_of_getElem? ho)
    rw [h3] at this; simp at this
theorem eq_nil_nil : binV .eql .ptr .nilp .nilp = some (.bool true) := rfl
theorem State_Dominates_nil1 (v : V) {M : Mem} (hU : Own M) : ACalls PR i_farestate_State_Dominates [.nilp, v] M (fun v M' => v = .bool false ∧ M' = M) := by
  have hU' : memUnder M.length M = true := hU
  refine acalls_pop fn_farestate_State_Dominates_ok (by simp [fn_farestate_State_Dominates]) ?_
  simp -implicitDefEqProofs (disch := omega) only [go_sem, Nat.reduceAdd, Nat.reduceMul, Nat.reduceSub, Nat.reduceBEq, Nat.reduceLeDiff, Nat.reduceLT, fn_farestate_State_Dominates, e19_1, w19_1, e19_3, w19_3, c19_4, e19_6, w19_6, e19_8, w19_8, e19_10, w19_10, e19_12, w19_12, c19_13, e19_15, w19_15, e19_17, w19_17, e19_19, w19_19, e19_21, w19_21, c19_22, e19_24, w19_24, e19_26, w19_26, c19_27, c19_28, e19_30, w19_30, c19_31, c19_32, c19_33, c19_34, c19_35, c19_36, e19_38, w19_38, c19_39, e19_41, w19_41, c19_42, c19_43, c19_44, c19_45, e19_47, w19_47, c19_48, c19_49, c19_50, c19_51, c19_52, c19_53, e19_55, w19_55, c19_56, c19_57, c19_58, c19_59, c19_60, eq_ptr_nil, eq_nil_nil, take_len, hU']
theorem State_Dominates_nil2 {i o : Nat} {M : Mem} (hU : Own M) : ACalls PR i_farestate_State_Dominates [.ptr i o, .nilp] M (fun v M' => v = .bool false ∧ M' = M) := by
  have hU' : memUnder M.length M = true := hU
  refine acalls_pop fn_farestate_State_Dominates_ok (by simp [fn_farestate_State_Dominates]) ?_
  simp -implicitDefEqProofs (disch := omega) only [go_sem, Nat.reduceAdd, Nat.reduceMul, Nat.reduceSub, Nat.reduceBEq, Nat.reduceLeDiff, Nat.reduceLT, fn_farestate_State_Dominates, e19_1, w19_1, e19_3, w19_3, c19_4, e19_6, w19_6, e19_8, w19_8, e19_10, w19_10, e19_12, w19_12, c19_13, e19_15, w19_15, e19_17, w19_17, e19_19, w19_19, e19_21, w19_21, c19_22, e19_24, w19_24, e19_26, w19_26, c19_27, c19_28, e19_30, w19_30, c19_31, c19_32, c19_33, c19_34, c19_35, c19_36, e19_38, w19_38, c19_39, e19_41, w19_41, c19_42, c19_43, c19_44, c19_45, e19_47, w19_47, c19_48, c19_49, c19_50, c19_51, c19_52, c19_53, e19_55, w19_55, c19_56, c19_57, c19_58, c19_59, c19_60, eq_ptr_nil, eq_nil_nil, take_len, hU']
theorem State_Price_nil {M : Mem} (hU : Own M) : ACalls PR i_farestate_State_Price [.nilp] M (fun v M' => v = prV (0, false) ∧ M' = M) := by
  have hU' : memUnder M.length M = true := hU
  refine acalls_pop fn_farestate_State_Price_ok (by simp [fn_farestate_State_Price]) ?_
  simp -implicitDefEqProofs (disch := omega) only [go_sem, Nat.reduceAdd, Nat.reduceMul, Nat.reduceSub, Nat.reduceBEq, Nat.reduceLeDiff, Nat.reduceLT, fn_farestate_State_Price, e14_1, w14_1, e14_3, w14_3, c14_4, e14_6, w14_6, e14_8, w14_8, e14_10, w14_10, c14_11, e14_13, w14_13, c14_14, e14_16, w14_16, c14_17, c14_18, c14_19, c14_20, eq_ptr_nil, eq_nil_nil, take_len, hU', prV]
theorem State_Rides_nil {M : Mem} (hU : Own M) : ACalls PR i_farestate_State_Rides [.nilp] M (fun v M' => v = .int .i64 0 ∧ M' = M) := by
  have hU' : memUnder M.length M = true := hU
  refine acalls_pop fn_farestate_State_Rides_ok (by simp [fn_farestate_State_Rides]) ?_
  simp -implicitDefEqProofs (disch := omega) only [go_sem, Nat.reduceAdd, Nat.reduceMul, Nat.reduceSub, Nat.reduceBEq, Nat.reduceLeDiff, Nat.reduceLT, fn_farestate_State_Rides, e15_1, w15_1, e15_3, w15_3, c15_4, e15_6, w15_6, e15_8, w15_8, c15_9, c15_10, c15_11, eq_ptr_nil, eq_nil_nil, take_len, hU']
theorem State_Ride_nil (r : Ride) {M : Mem} (hU : Own M) : ACalls PR i_farestate_State_Ride [.nilp, .agg r.row] M (fun v M' => v = .tuple [.nilp, .int .i64 40] ∧ ∃ L, M' = M ++ L ∧ Own M') := by
  refine acalls_keep fn_farestate_State_Ride_ok (by simp [fn_farestate_State_Ride]) ?_
  simp only [wpKeep]
  simp -implicitDefEqProofs (disch := omega) only [go_sem, Nat.reduceAdd, Nat.reduceMul, Nat.reduceSub, Nat.reduceBEq, Nat.reduceLeDiff, Nat.reduceLT, fn_farestate_State_Ride, e16_1, w16_1, e16_3, w16_3, c16_4, e16_6, w16_6, e16_8, w16_8, c16_9, e16_11, w16_11, e16_13, w16_13, e16_15, w16_15, e16_17, w16_17, e16_19, w16_19, e16_21, w16_21, c16_22, e16_24, w16_24, e16_26, w16_26, e16_28, w16_28, c16_29, e16_31, w16_31, e16_33, w16_33, e16_35, w16_35, e16_37, w16_37, e16_39, w16_39, c16_40, c16_41, c16_42, c16_43, e16_45, w16_45, c16_46, c16_47, c16_48, c16_49, c16_50, c16_51, c16_52, c16_53, e16_55, w16_55, c16_56, c16_57, c16_58, c16_59, c16_60, c16_61, e16_63, w16_63, e16_65, w16_65, c16_66, c16_67, c16_68, c16_69, c16_70, c16_71, c16_72, c16_73, c16_74, eq_ptr_nil, eq_nil_nil, Ride.row, get_at0, set_at0]
  exact ⟨_, rfl, hU.app (by simp [memUnder, Blk.under, underL, V.under])⟩
theorem farestate_Ride_full (r : Ride) {f : Fares} {M : Mem} {fp id : Nat} {rl : List Ride} (h : Held M f fp rl id) (hlen : rl.length = 8) :
    ACalls PR i_farestate_State_Ride [.ptr id 0, .agg r.row] M (fun v M' => v = .tuple [.nilp, .int .i64 33] ∧ ∃ L, M' = M ++ L ∧ Own M') := by
  obtain ⟨p, x, hM⟩ := h.st.shows
  have hM' := fun L => app_get hM L
  refine acalls_keep fn_farestate_State_Ride_ok (by simp [fn_farestate_State_Ride]) ?_
  simp only [wpKeep]
  simp -implicitDefEqProofs (disch := omega) only [go_sem, Nat.reduceAdd, Nat.reduceMul, Nat.reduceSub, Nat.reduceBEq, Nat.reduceLeDiff, Nat.reduceLT, fn_farestate_State_Ride, e16_1, w16_1, e16_3, w16_3, c16_4, e16_6, w16_6, e16_8, w16_8, c16_9, e16_11, w16_11, e16_13, w16_13, e16_15, w16_15, e16_17, w16_17, e16_19, w16_19, e16_21, w16_21, c16_22, e16_24, w16_24, e16_26, w16_26, e16_28, w16_28, c16_29, e16_31, w16_31, e16_33, w16_33, e16_35, w16_35, e16_37, w16_37, e16_39, w16_39, c16_40, c16_41, c16_42, c16_43, e16_45, w16_45, c16_46, c16_47, c16_48, c16_49, c16_50, c16_51, c16_52, c16_53, e16_55, w16_55, c16_56, c16_57, c16_58, c16_59, c16_60, c16_61, e16_63, w16_63, e16_65, w16_65, c16_66, c16_67, c16_68, c16_69, c16_70, c16_71, c16_72, c16_73, c16_74, eq_ptr_nil, eq_nil_nil, nilCheck_ptr, hM', st_0, st_6, Ride.row]
  refine ifD (fun h1 => ?_) (fun h1 => ?_)
  rotate_left
  · omega
  simp -implicitDefEqProofs (disch := omega) only [go_sem, Nat.reduceAdd, Nat.reduceMul, Nat.reduceSub, Nat.reduceBEq, Nat.reduceLeDiff, Nat.reduceLT, fn_farestate_State_Ride, e16_1, w16_1, e16_3, w16_3, c16_4, e16_6, w16_6, e16_8, w16_8, c16_9, e16_11, w16_11, e16_13, w16_13, e16_15, w16_15, e16_17, w16_17, e16_19, w16_19, e16_21, w16_21, c16_22, e16_24, w16_24, e16_26, w16_26, e16_28, w16_28, c16_29, e16_31, w16_31, e16_33, w16_33, e16_35, w16_35, e16_37, w16_37, e16_39, w16_39, c16_40, c16_41, c16_42, c16_43, e16_45, w16_45, c16_46, c16_47, c16_48, c16_49, c16_50, c16_51, c16_52, c16_53, e16_55, w16_55, c16_56, c16_57, c16_58, c16_59, c16_60, c16_61, e16_63, w16_63, e16_65, w16_65, c16_66, c16_67, c16_68, c16_69, c16_70, c16_71, c16_72, c16_73, c16_74, eq_ptr_nil, eq_nil_nil, nilCheck_ptr, hM', st_0, st_6, Ride.row]
  exact ⟨_, rfl, h.own.app (by simp [memUnder, Blk.under, underL, V.under])⟩

/-! ### The chapter's example -/
theorem Held.app {M : Mem} {f : Fares} {fp : Nat} {rl : List Ride} {id : Nat} (h : Held M f fp rl id) {L : Mem} (hL : Own (M ++ L)) : Held (M ++ L) f fp rl id := ⟨hL, app_get h.fares L, h.st.app L⟩
theorem Price_held {M : Mem} {f : Fares} {fp : Nat} {rl : List Ride} {id : Nat} (h : Held M f fp rl id) (hl : rl.length ≤ 8) : ACalls PR i_farestate_State_Price [.ptr id 0] M (fun v M' => v = prV (statePrice f (minSum f rl.reverse)) ∧ M' = M) := by
  obtain ⟨p, r, hM⟩ := h.st.shows
  rw [← sums_all]
  exact State_Price_ok hM h.fares h.own (by omega)
theorem Rides_held {M : Mem} {f : Fares} {fp : Nat} {rl : List Ride} {id : Nat} (h : Held M f fp rl id) : ACalls PR i_farestate_State_Rides [.ptr id 0] M (fun v M' => v = .int .i64 (rl.length : Nat) ∧ M' = M) := by
  obtain ⟨p, r, hM⟩ := h.st.shows
  exact State_Rides_ok hM h.own
theorem Dom_yes {f g : Fares} (hf : f.wf) (hok : f.Ok) (hg : g.wf) (hokg : g.Ok) {M : Mem} {fp id gp jd : Nat} {rl ql : List Ride} (h : Held M f fp rl id) (k : Held M g gp ql jd) (hl : ∀ x ∈ rl, x.wf) (hlen : rl.length ≤ 8) (hq : ∀ x ∈ ql, x.wf) (hqlen : ql.length ≤ 8) (hs : sameF f g) (hd : domL f g rl ql = true) :
    ACalls PR i_farestate_State_Dominates [.ptr id 0, .ptr jd 0] M (fun v M' => v = .bool true ∧ M' = M) := by
  refine ACalls.mono (State_Dominates_ok hf hok hg hokg h k hl hlen hq hqlen) ?_
  rintro v M' ⟨⟨b, rfl, hb⟩, rfl⟩
  rw [hb.2 ⟨hs, hd⟩]
  exact ⟨rfl, rfl⟩
theorem Dom_no {f g : Fares} (hf : f.wf) (hok : f.Ok) (hg : g.wf) (hokg : g.Ok) {M : Mem} {fp id gp jd : Nat} {rl ql : List Ride} (h : Held M f fp rl id) (k : Held M g gp ql jd) (hl : ∀ x ∈ rl, x.wf) (hlen : rl.length ≤ 8) (hq : ∀ x ∈ ql, x.wf) (hqlen : ql.length ≤ 8) (hd : ¬ (sameF f g ∧ domL f g rl ql = true)) :
    ACalls PR i_farestate_State_Dominates [.ptr id 0, .ptr jd 0] M (fun v M' => v = .bool false ∧ M' = M) := by
  refine ACalls.mono (State_Dominates_ok hf hok hg hokg h k hl hlen hq hqlen) ?_
  rintro v M' ⟨⟨b, rfl, hb⟩, rfl⟩
  cases b with
  | false => exact ⟨rfl, rfl⟩
  | true => exact absurd (hb.1 rfl) hd
theorem sameF_refl (f : Fares) : sameF f f := ⟨rfl, rfl, rfl, rfl⟩
def exF : Fares := ⟨[⟨[115, 105, 110, 103, 108, 101], 200, 1, 16, 0, 255⟩, ⟨[112, 97, 115, 115], 350, 3, 16, 3600, 255⟩], .full, 0, 0, 0⟩
def exBad : Fares := ⟨[], .nil, 0, 0, -1⟩
def exL : List Ride := [⟨0, 600, 1, 1⟩, ⟨1800, 2400, 2, 1⟩, ⟨3000, 3600, 1, 1⟩]
theorem example_ok : PCalls PR i_transitlaw36_example [] (fun v => v = .agg exF.row) := by
  refine acalls_pop fn_transitlaw36_example_ok (by simp [fn_transitlaw36_example]) ?_
  simp -implicitDefEqProofs (disch := omega) only [go_sem, Nat.reduceAdd, Nat.reduceMul, Nat.reduceSub, Nat.reduceBEq, Nat.reduceLeDiff, Nat.reduceLT, fn_transitlaw36_example, e22_1, w22_1, e22_3, w22_3, c22_4, c22_5, exF, Fares.row, Product.row, List.map_cons, List.map_nil]
theorem exF_ok : (checkRes exF).2 = 0 := by decide +kernel
theorem exBad_no : (checkRes exBad).2 ≠ 0 := by decide +kernel
theorem exF_wf : exF.wf := by
  have hm : maxLen = 9223372036854775807 := by rfl
  refine ⟨?_, ?_, ?_, ?_, ?_⟩ <;> simp [exF, Product.wf, I64, hm]
theorem exBad_wf : exBad.wf := by
  have hm : maxLen = 9223372036854775807 := by rfl
  refine ⟨?_, ?_, ?_, ?_, ?_⟩ <;> simp [exBad, Product.wf, I64, hm]
theorem exL_wf : ∀ x ∈ exL, x.wf := by
  intro x hx
  simp only [exL, List.mem_cons, List.not_mem_nil, or_false] at hx
  rcases hx with rfl | rfl | rfl <;> simp [Ride.wf, I64]
theorem exL_wf' (n : Nat) : ∀ x ∈ exL.take n, x.wf := fun x hx => exL_wf x (List.mem_of_mem_take hx)
theorem ex_price0 : statePrice exF (minSum exF []) = (0, true) := by decide +kernel
theorem ex_price1 : statePrice exF (minSum exF (exL.take 1)) = (200, true) := by decide +kernel
theorem ex_price2 : statePrice exF (minSum exF (exL.take 2)) = (350, true) := by decide +kernel
theorem ex_price3 : statePrice exF (minSum exF exL) = (350, true) := by decide +kernel
theorem ex_dom20 : domL exF exF (exL.take 2).reverse [] = false := by decide +kernel
theorem ex_dom22 : domL exF exF (exL.take 2).reverse (exL.take 2).reverse = true := by decide +kernel

theorem exampleHolds_ok {M : Mem} (hU : Own M) : ACalls PR i_transitlaw36_exampleHolds [] M (fun v M' => v = .bool true ∧ M' = M) := by
  refine acalls_pop fn_transitlaw36_exampleHolds_ok (by simp [fn_transitlaw36_exampleHolds]) ?_
  simp only [wpPop, fn_transitlaw36_exampleHolds, sinit, c11_53, wpC_seq, e11_1, w11_1, seqK_normal]
  simp only [c11_52, wpC_seq, e11_3, w11_3]
  simp -implicitDefEqProofs (disch := omega) only [go_sem, Nat.reduceAdd, Nat.reduceMul, Nat.reduceSub, Nat.reduceBEq, Nat.reduceLeDiff, Nat.reduceLT, c11_51, e11_5, w11_5]
  first | refine callD (example_ok) ?_ | refine callQD (example_ok) ?_
  refine callA (made_ok exF [] .nil exF_wf exF_ok (by simp) (by simp) hU) ?_
  rintro v N ⟨L1, id1, fp1, rfl, rfl, H1⟩
  have U1 := H1.own
  simp -implicitDefEqProofs (disch := omega) only [go_sem, Nat.reduceAdd, Nat.reduceMul, Nat.reduceSub, Nat.reduceBEq, Nat.reduceLeDiff, Nat.reduceLT, c11_50, e11_7, w11_7]
  first | refine callD (example_ok) ?_ | refine callQD (example_ok) ?_
  simp -implicitDefEqProofs (disch := omega) only [go_sem, Nat.reduceAdd, Nat.reduceMul, Nat.reduceSub, Nat.reduceBEq, Nat.reduceLeDiff, Nat.reduceLT]
  refine callA (made_ok exF (exL.take 1) _ exF_wf exF_ok (exL_wf' 1) (by simp [exL]) U1) ?_
  rintro v N ⟨L2, id2, fp2, rfl, rfl, H2⟩
  have U2 := H2.own
  simp -implicitDefEqProofs (disch := omega) only [go_sem, Nat.reduceAdd, Nat.reduceMul, Nat.reduceSub, Nat.reduceBEq, Nat.reduceLeDiff, Nat.reduceLT, c11_49, e11_9, w11_9]
  first | refine callD (example_ok) ?_ | refine callQD (example_ok) ?_
  simp -implicitDefEqProofs (disch := omega) only [go_sem, Nat.reduceAdd, Nat.reduceMul, Nat.reduceSub, Nat.reduceBEq, Nat.reduceLeDiff, Nat.reduceLT]
  refine callA (made_ok exF (exL.take 2) _ exF_wf exF_ok (exL_wf' 2) (by simp [exL]) U2) ?_
  rintro v N ⟨L3, id3, fp3, rfl, rfl, H3⟩
  have U3 := H3.own
  simp -implicitDefEqProofs (disch := omega) only [go_sem, Nat.reduceAdd, Nat.reduceMul, Nat.reduceSub, Nat.reduceBEq, Nat.reduceLeDiff, Nat.reduceLT, c11_48, e11_11, w11_11]
  first | refine callD (example_ok) ?_ | refine callQD (example_ok) ?_
  refine callA (made_ok exF exL _ exF_wf exF_ok exL_wf (by simp [exL]) U3) ?_
  rintro v N ⟨L4, id4, fp4, rfl, rfl, H4⟩
  have U4 := H4.own
  simp -implicitDefEqProofs (disch := omega) only [go_sem, Nat.reduceAdd, Nat.reduceMul, Nat.reduceSub, Nat.reduceBEq, Nat.reduceLeDiff, Nat.reduceLT, c11_47, e11_13, w11_13]
  first | refine callD (example_ok) ?_ | refine callQD (example_ok) ?_
  simp -implicitDefEqProofs (disch := omega) only [go_sem, Nat.reduceAdd, Nat.reduceMul, Nat.reduceSub, Nat.reduceBEq, Nat.reduceLeDiff, Nat.reduceLT]
  refine callA (made_ok exF (exL.take 2) _ exF_wf exF_ok (exL_wf' 2) (by simp [exL]) U4) ?_
  rintro v N ⟨L5, id5, fp5, rfl, rfl, H5⟩
  have U5 := H5.own
  simp -implicitDefEqProofs (disch := omega) only [go_sem, Nat.reduceAdd, Nat.reduceMul, Nat.reduceSub, Nat.reduceBEq, Nat.reduceLeDiff, Nat.reduceLT, c11_46, e11_18, w11_18, c11_45, e11_20, w11_20]
  have K4 := H4.app U5
  have K3 := (H3.app U4).app U5
  have K2 := ((H2.app U3).app U4).app U5
  have K1 := (((H1.app U2).app U3).app U4).app U5
  have hN : M ++ L1 ++ L2 ++ L3 ++ L4 ++ L5 = M ++ (L1 ++ (L2 ++ (L3 ++ (L4 ++ L5)))) := by simp only [List.append_assoc]
  generalize L1 ++ (L2 ++ (L3 ++ (L4 ++ L5))) = LL at hN
  rw [hN] at K1 K2 K3 K4 H5 U5 ⊢
  clear hN U1 U2 U3 U4 H1 H2 H3 H4
  have q1 := Price_held K1 (by simp)
  have q2 := Price_held K2 (by simp [exL])
  have q3 := Price_held K3 (by simp [exL])
  have q4 := Price_held K4 (by simp [exL])
  simp only [List.reverse_nil, List.reverse_reverse, ex_price0, ex_price1, ex_price2, ex_price3, prV] at q1 q2 q3 q4
  refine callA q1 ?_
  rintro v N ⟨rfl, rfl⟩
  simp -implicitDefEqProofs (disch := omega) only [go_sem, Nat.reduceAdd, Nat.reduceMul, Nat.reduceSub, Nat.reduceBEq, Nat.reduceLeDiff, Nat.reduceLT, c11_44, e11_22, w11_22]
  refine callA q2 ?_
  rintro v N ⟨rfl, rfl⟩
  simp -implicitDefEqProofs (disch := omega) only [go_sem, Nat.reduceAdd, Nat.reduceMul, Nat.reduceSub, Nat.reduceBEq, Nat.reduceLeDiff, Nat.reduceLT, c11_43, e11_24, w11_24]
  refine callA q3 ?_
  rintro v N ⟨rfl, rfl⟩
  simp -implicitDefEqProofs (disch := omega) only [go_sem, Nat.reduceAdd, Nat.reduceMul, Nat.reduceSub, Nat.reduceBEq, Nat.reduceLeDiff, Nat.reduceLT, c11_42, e11_26, w11_26]
  refine callA q4 ?_
  rintro v N ⟨rfl, rfl⟩
  simp -implicitDefEqProofs (disch := omega) only [go_sem, Nat.reduceAdd, Nat.reduceMul, Nat.reduceSub, Nat.reduceBEq, Nat.reduceLeDiff, Nat.reduceLT, c11_41, e11_28, w11_28]
  refine callA (farestate_Start_ok exBad exBad_wf U5) ?_
  rintro v N ⟨⟨L6, rfl⟩, U6, hv, _⟩
  obtain rfl := hv exBad_no
  simp -implicitDefEqProofs (disch := omega) only [go_sem, Nat.reduceAdd, Nat.reduceMul, Nat.reduceSub, Nat.reduceBEq, Nat.reduceLeDiff, Nat.reduceLT, c11_40, e11_30, w11_30, c11_39, e11_32, w11_32]
  refine callA (State_Ride_nil ⟨0, 600, 1, 1⟩ U6) ?_
  rintro v N ⟨rfl, L7, rfl, U7⟩
  simp -implicitDefEqProofs (disch := omega) only [go_sem, Nat.reduceAdd, Nat.reduceMul, Nat.reduceSub, Nat.reduceBEq, Nat.reduceLeDiff, Nat.reduceLT, c11_38, e11_34, w11_34]
  refine callA (State_Price_nil U7) ?_
  rintro v N ⟨rfl, rfl⟩
  simp -implicitDefEqProofs (disch := omega) only [go_sem, Nat.reduceAdd, Nat.reduceMul, Nat.reduceSub, Nat.reduceBEq, Nat.reduceLeDiff, Nat.reduceLT, prV, c11_37, e11_36, w11_36]
  have J1 := (K1.app U6).app U7
  have J3 := (K3.app U6).app U7
  have J4 := (K4.app U6).app U7
  have J5 := (H5.app U6).app U7
  have r4 := Rides_held J4
  have hl3 : exL.reverse.length = 3 := rfl
  rw [hl3] at r4
  have hw2 : ∀ x ∈ (exL.take 2).reverse, x.wf := fun x hx => exL_wf' 2 x (List.mem_reverse.1 hx)
  have hl2 : (exL.take 2).reverse.length ≤ 8 := by simp [exL]
  have hok := checkRes_ok exF_ok
  refine callA r4 ?_
  rintro v N ⟨rfl, rfl⟩
  simp -implicitDefEqProofs (disch := omega) only [go_sem, Nat.reduceAdd, Nat.reduceMul, Nat.reduceSub, Nat.reduceBEq, Nat.reduceLeDiff, Nat.reduceLT]
  refine callA (Dom_no exF_wf hok exF_wf hok J3 J1 hw2 hl2 (by simp) (by simp) (by intro e; have := e.2; rw [List.reverse_nil, ex_dom20] at this; simp at this)) ?_
  rintro v N ⟨rfl, rfl⟩
  simp -implicitDefEqProofs (disch := omega) only [go_sem, Nat.reduceAdd, Nat.reduceMul, Nat.reduceSub, Nat.reduceBEq, Nat.reduceLeDiff, Nat.reduceLT]
  refine callA (Dom_yes exF_wf hok exF_wf hok J3 J5 hw2 hl2 hw2 hl2 (sameF_refl _) ex_dom22) ?_
  rintro v N ⟨rfl, rfl⟩
  simp -implicitDefEqProofs (disch := omega) only [go_sem, Nat.reduceAdd, Nat.reduceMul, Nat.reduceSub, Nat.reduceBEq, Nat.reduceLeDiff, Nat.reduceLT]
  refine callA (Dom_yes exF_wf hok exF_wf hok J5 J3 hw2 hl2 hw2 hl2 (sameF_refl _) ex_dom22) ?_
  rintro v N ⟨rfl, rfl⟩
  simp -implicitDefEqProofs (disch := omega) only [go_sem, Nat.reduceAdd, Nat.reduceMul, Nat.reduceSub, Nat.reduceBEq, Nat.reduceLeDiff, Nat.reduceLT, eq_nil_nil]
  refine callA (State_Rides_nil U7) ?_
  rintro v N ⟨rfl, rfl⟩
  simp -implicitDefEqProofs (disch := omega) only [go_sem, Nat.reduceAdd, Nat.reduceMul, Nat.reduceSub, Nat.reduceBEq, Nat.reduceLeDiff, Nat.reduceLT]
  refine callA (State_Dominates_nil1 _ U7) ?_
  rintro v N ⟨rfl, rfl⟩
  simp -implicitDefEqProofs (disch := omega) only [go_sem, Nat.reduceAdd, Nat.reduceMul, Nat.reduceSub, Nat.reduceBEq, Nat.reduceLeDiff, Nat.reduceLT]
  refine callA (State_Dominates_nil2 U7) ?_
  rintro v N ⟨rfl, rfl⟩
  have hU' : memUnder M.length M = true := hU
  simp -implicitDefEqProofs (disch := omega) only [go_sem, Nat.reduceAdd, Nat.reduceMul, Nat.reduceSub, Nat.reduceBEq, Nat.reduceLeDiff, Nat.reduceLT, c11_37, app_take, le_app, hU', List.append_assoc]

end Go.Vm.C

