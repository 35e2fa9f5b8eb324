/- Contracts: the check of tickets. -/
import Derived.Test.YtmpjekmfphppbaaT5

namespace Go.Vm.C
open Go.Vm
set_option maxHeartbeats 1000000
set_option maxRecDepth 10000
set_option linter.unusedSimpArgs false
set_option linter.unusedVariables false

theorem oneErr_zero {f : Fares} {l : List Ride} {t : Ticket} {next : Int} (hok : f.Ok) (h : oneErr f l t next = 0) :
    t.first = next ∧ t.first ≤ t.last ∧ t.last < l.length ∧ 0 ≤ t.price ∧ t.price ≤ 1000000 := by
  unfold oneErr at h
  split at h
  · simp at h
  rename_i h1
  split at h
  · simp at h
  rename_i h2
  split at h
  · simp at h
  rename_i p hp
  split at h
  · simp at h
  split at h
  · simp at h
  rename_i h3
  simp only [ne_eq, Decidable.not_not] at h3
  have := ticket_range (f := f) (l := l) (i := t.first.toNat) (hok.prods p (List.mem_of_getElem? hp)).1 hok.discount.1
  omega

theorem drop_cons {α : Type} {l : List α} {i : Nat} {t : α} (h : l[i]? = some t) : l.drop i = t :: l.drop (i + 1) := by
  obtain ⟨h1, h2⟩ := List.getElem?_eq_some_iff.1 h
  rw [List.drop_eq_getElem_cons h1, h2]

theorem verGo_err {f : Fares} {l : List Ride} {ts : List Ticket} {i : Nat} {t : Ticket} {next sum : Int} (h : ts[i]? = some t) (he : oneErr f l t next ≠ 0) : verGo f l (ts.drop i) next sum = (0, oneErr f l t next) := by
  rw [drop_cons h, verGo, if_pos he]
theorem verGo_next {f : Fares} {l : List Ride} {ts : List Ticket} {i : Nat} {t : Ticket} {next sum : Int} (h : ts[i]? = some t) (he : oneErr f l t next = 0) : verGo f l (ts.drop i) next sum = verGo f l (ts.drop (i + 1)) (t.last + 1) (sum + t.price) := by
  rw [drop_cons h, verGo, if_neg (by simp [he])]

theorem take_small {ts : List Ticket} {i : Nat} {t : Ticket} (h : ts[i]? = some t) (hs : Small (ts.take i)) (ht : 0 ≤ t.price ∧ t.price ≤ 1000000) : Small (ts.take (i + 1)) := by
  rw [List.take_add_one, h]
  intro t' ht'
  rcases List.mem_append.1 ht' with h1 | h1
  · exact hs t' h1
  · simp at h1; subst h1; exact ht

theorem fare_Verify_ok (f : Fares) (l : List Ride) (c : Cap) (ts : List Ticket) (d : Cap) (hf : f.wf) (hl : ∀ r ∈ l, r.wf) :
    PCalls PR i_fare_Verify [.agg f.row, .slice (l.map Ride.row) c, .slice (ts.map Ticket.row) d] (fun v => v = pairV (verRes f l ts)) := by
  have hm : maxLen = 9223372036854775807 := by rfl
  refine acalls_pop fn_fare_Verify_ok (by simp [fn_fare_Verify]) ?_
  simp -implicitDefEqProofs (disch := omega) only [go_sem, Nat.reduceAdd, Nat.reduceMul, Nat.reduceSub, Nat.reduceBEq, Nat.reduceLeDiff, Nat.reduceLT, fn_fare_Verify, e17_1, w17_1, e17_3, w17_3, e17_5, w17_5, c17_6, e17_8, w17_8, c17_9, e17_11, w17_11, e17_13, w17_13, e17_15, w17_15, c17_16, e17_18, w17_18, e17_20, w17_20, e17_22, w17_22, c17_23, e17_25, w17_25, c17_26, e17_28, w17_28, e17_30, w17_30, c17_31, c17_32, c17_33, c17_34, e17_36, w17_36, c17_37, c17_38, c17_39, c17_40, c17_41, c17_42, e17_44, w17_44, c17_45, e17_47, w17_47, e17_49, w17_49, c17_50, c17_51, c17_52, c17_53, c17_54, c17_55, Fares.row]
  first | refine callD (fare_valid_ok f l c hf) ?_ | refine callQD (fare_valid_ok f l c hf) ?_
  simp -implicitDefEqProofs (disch := omega) only [go_sem, Nat.reduceAdd, Nat.reduceMul, Nat.reduceSub, Nat.reduceBEq, Nat.reduceLeDiff, Nat.reduceLT, fn_fare_Verify, e17_1, w17_1, e17_3, w17_3, e17_5, w17_5, c17_6, e17_8, w17_8, c17_9, e17_11, w17_11, e17_13, w17_13, e17_15, w17_15, c17_16, e17_18, w17_18, e17_20, w17_20, e17_22, w17_22, c17_23, e17_25, w17_25, c17_26, e17_28, w17_28, e17_30, w17_30, c17_31, c17_32, c17_33, c17_34, e17_36, w17_36, c17_37, c17_38, c17_39, c17_40, c17_41, c17_42, e17_44, w17_44, c17_45, e17_47, w17_47, e17_49, w17_49, c17_50, c17_51, c17_52, c17_53, c17_54, c17_55]
  refine ifD (fun h1 => ?_) (fun h1 => ?_)
  rotate_left
  · simp -implicitDefEqProofs (disch := omega) only [go_sem, Nat.reduceAdd, Nat.reduceMul, Nat.reduceSub, Nat.reduceBEq, Nat.reduceLeDiff, Nat.reduceLT, fn_fare_Verify, e17_1, w17_1, e17_3, w17_3, e17_5, w17_5, c17_6, e17_8, w17_8, c17_9, e17_11, w17_11, e17_13, w17_13, e17_15, w17_15, c17_16, e17_18, w17_18, e17_20, w17_20, e17_22, w17_22, c17_23, e17_25, w17_25, c17_26, e17_28, w17_28, e17_30, w17_30, c17_31, c17_32, c17_33, c17_34, e17_36, w17_36, c17_37, c17_38, c17_39, c17_40, c17_41, c17_42, e17_44, w17_44, c17_45, e17_47, w17_47, e17_49, w17_49, c17_50, c17_51, c17_52, c17_53, c17_54, c17_55, verRes, pairV, Fares.row]
    rw [if_pos h1]
  have e0 : verRes f l ts = verGo f l ts 0 0 := by rw [verRes, if_neg (by simp [h1])]
  obtain ⟨hc, hlen⟩ := validRes_zero.1 h1
  have hok := checkRes_ok hc
  simp -implicitDefEqProofs (disch := omega) only [go_sem, Nat.reduceAdd, Nat.reduceMul, Nat.reduceSub, Nat.reduceBEq, Nat.reduceLeDiff, Nat.reduceLT, fn_fare_Verify, e17_1, w17_1, e17_3, w17_3, e17_5, w17_5, c17_6, e17_8, w17_8, c17_9, e17_11, w17_11, e17_13, w17_13, e17_15, w17_15, c17_16, e17_18, w17_18, e17_20, w17_20, e17_22, w17_22, c17_23, e17_25, w17_25, c17_26, e17_28, w17_28, e17_30, w17_30, c17_31, c17_32, c17_33, c17_34, e17_36, w17_36, c17_37, c17_38, c17_39, c17_40, c17_41, c17_42, e17_44, w17_44, c17_45, e17_47, w17_47, e17_49, w17_49, c17_50, c17_51, c17_52, c17_53, c17_54, c17_55]
  refine wpC_forL ts (fun i vs M => ∃ next : Nat, Small (ts.take i) ∧ i ≤ next ∧ next ≤ l.length ∧ verRes f l ts = verGo f l (ts.drop i) next (total (ts.take i)) ∧
      vs = [.slice (l.map Ride.row) c, .ptr 0 0, .int .i64 next, .int .i64 (total (ts.take i)), .slice (ts.map Ticket.row) d, .int .i64 ts.length, .int .i64 i] ∧ M = [.box f.row]) ⟨0, by simp [Small], by omega, by omega, by rw [e0]; rfl, rfl, rfl⟩ ?_ ?_
  · rintro i t vs M ht hi hd ⟨next, hs, hin, hnl, hv, rfl, rfl⟩
    have h3 : (ts.take i).length ≤ i := by simp; omega
    have h4 := total_le hs
    simp -implicitDefEqProofs (disch := omega) only [go_sem, Nat.reduceAdd, Nat.reduceMul, Nat.reduceSub, Nat.reduceBEq, Nat.reduceLeDiff, Nat.reduceLT, fn_fare_Verify, e17_1, w17_1, e17_3, w17_3, e17_5, w17_5, c17_6, e17_8, w17_8, c17_9, e17_11, w17_11, e17_13, w17_13, e17_15, w17_15, c17_16, e17_18, w17_18, e17_20, w17_20, e17_22, w17_22, c17_23, e17_25, w17_25, c17_26, e17_28, w17_28, e17_30, w17_30, c17_31, c17_32, c17_33, c17_34, e17_36, w17_36, c17_37, c17_38, c17_39, c17_40, c17_41, c17_42, e17_44, w17_44, c17_45, e17_47, w17_47, e17_49, w17_49, c17_50, c17_51, c17_52, c17_53, c17_54, c17_55, hd, ht, Ticket.row]
    first | refine callD (fare_check_ok f l c t next hf hok hl hlen (by omega)) ?_ | refine callQD (fare_check_ok f l c t next hf hok hl hlen (by omega)) ?_
    simp -implicitDefEqProofs (disch := omega) only [go_sem, Nat.reduceAdd, Nat.reduceMul, Nat.reduceSub, Nat.reduceBEq, Nat.reduceLeDiff, Nat.reduceLT, fn_fare_Verify, e17_1, w17_1, e17_3, w17_3, e17_5, w17_5, c17_6, e17_8, w17_8, c17_9, e17_11, w17_11, e17_13, w17_13, e17_15, w17_15, c17_16, e17_18, w17_18, e17_20, w17_20, e17_22, w17_22, c17_23, e17_25, w17_25, c17_26, e17_28, w17_28, e17_30, w17_30, c17_31, c17_32, c17_33, c17_34, e17_36, w17_36, c17_37, c17_38, c17_39, c17_40, c17_41, c17_42, e17_44, w17_44, c17_45, e17_47, w17_47, e17_49, w17_49, c17_50, c17_51, c17_52, c17_53, c17_54, c17_55, Ticket.row]
    refine ifD (fun h5 => ?_) (fun h5 => ?_)
    rotate_left
    · have e1 := hv.trans (verGo_err ht h5)
      simp -implicitDefEqProofs (disch := omega) only [go_sem, Nat.reduceAdd, Nat.reduceMul, Nat.reduceSub, Nat.reduceBEq, Nat.reduceLeDiff, Nat.reduceLT, fn_fare_Verify, e17_1, w17_1, e17_3, w17_3, e17_5, w17_5, c17_6, e17_8, w17_8, c17_9, e17_11, w17_11, e17_13, w17_13, e17_15, w17_15, c17_16, e17_18, w17_18, e17_20, w17_20, e17_22, w17_22, c17_23, e17_25, w17_25, c17_26, e17_28, w17_28, e17_30, w17_30, c17_31, c17_32, c17_33, c17_34, e17_36, w17_36, c17_37, c17_38, c17_39, c17_40, c17_41, c17_42, e17_44, w17_44, c17_45, e17_47, w17_47, e17_49, w17_49, c17_50, c17_51, c17_52, c17_53, c17_54, c17_55, e1, pairV, Fares.row]
    obtain ⟨g1, g2, g3, g4, g5⟩ := oneErr_zero hok h5
    have hv' := hv.trans (verGo_next ht h5)
    obtain ⟨k, hk⟩ : ∃ k : Nat, t.last = k := ⟨t.last.toNat, by omega⟩
    simp -implicitDefEqProofs (disch := omega) only [go_sem, Nat.reduceAdd, Nat.reduceMul, Nat.reduceSub, Nat.reduceBEq, Nat.reduceLeDiff, Nat.reduceLT, fn_fare_Verify, e17_1, w17_1, e17_3, w17_3, e17_5, w17_5, c17_6, e17_8, w17_8, c17_9, e17_11, w17_11, e17_13, w17_13, e17_15, w17_15, c17_16, e17_18, w17_18, e17_20, w17_20, e17_22, w17_22, c17_23, e17_25, w17_25, c17_26, e17_28, w17_28, e17_30, w17_30, c17_31, c17_32, c17_33, c17_34, e17_36, w17_36, c17_37, c17_38, c17_39, c17_40, c17_41, c17_42, e17_44, w17_44, c17_45, e17_47, w17_47, e17_49, w17_49, c17_50, c17_51, c17_52, c17_53, c17_54, c17_55, Ticket.row]
    refine next_pop hi rfl ⟨k + 1, take_small ht hs ⟨g4, g5⟩, by omega, by omega, ?_, ?_, rfl⟩
    · rw [hv', total_snoc ht, hk]; rfl
    · rw [total_snoc ht, hk]; rfl
  · rintro vs M ⟨next, hs, hin, hnl, hv, rfl, rfl⟩
    rw [List.drop_length, List.take_length] at hv
    simp -implicitDefEqProofs (disch := omega) only [go_sem, Nat.reduceAdd, Nat.reduceMul, Nat.reduceSub, Nat.reduceBEq, Nat.reduceLeDiff, Nat.reduceLT, fn_fare_Verify, e17_1, w17_1, e17_3, w17_3, e17_5, w17_5, c17_6, e17_8, w17_8, c17_9, e17_11, w17_11, e17_13, w17_13, e17_15, w17_15, c17_16, e17_18, w17_18, e17_20, w17_20, e17_22, w17_22, c17_23, e17_25, w17_25, c17_26, e17_28, w17_28, e17_30, w17_30, c17_31, c17_32, c17_33, c17_34, e17_36, w17_36, c17_37, c17_38, c17_39, c17_40, c17_41, c17_42, e17_44, w17_44, c17_45, e17_47, w17_47, e17_49, w17_49, c17_50, c17_51, c17_52, c17_53, c17_54, c17_55, dec_irrefl, List.take_length, Fares.row]
    refine ifD (fun h5 => ?_) (fun h5 => ?_)
    rotate_left
    · rw [verGo, if_pos h5] at hv
      simp -implicitDefEqProofs (disch := omega) only [go_sem, Nat.reduceAdd, Nat.reduceMul, Nat.reduceSub, Nat.reduceBEq, Nat.reduceLeDiff, Nat.reduceLT, fn_fare_Verify, e17_1, w17_1, e17_3, w17_3, e17_5, w17_5, c17_6, e17_8, w17_8, c17_9, e17_11, w17_11, e17_13, w17_13, e17_15, w17_15, c17_16, e17_18, w17_18, e17_20, w17_20, e17_22, w17_22, c17_23, e17_25, w17_25, c17_26, e17_28, w17_28, e17_30, w17_30, c17_31, c17_32, c17_33, c17_34, e17_36, w17_36, c17_37, c17_38, c17_39, c17_40, c17_41, c17_42, e17_44, w17_44, c17_45, e17_47, w17_47, e17_49, w17_49, c17_50, c17_51, c17_52, c17_53, c17_54, c17_55, hv, pairV, Fares.row]
    rw [verGo, if_neg (by simp [h5])] at hv
    simp -implicitDefEqProofs (disch := omega) only [go_sem, Nat.reduceAdd, Nat.reduceMul, Nat.reduceSub, Nat.reduceBEq, Nat.reduceLeDiff, Nat.reduceLT, fn_fare_Verify, e17_1, w17_1, e17_3, w17_3, e17_5, w17_5, c17_6, e17_8, w17_8, c17_9, e17_11, w17_11, e17_13, w17_13, e17_15, w17_15, c17_16, e17_18, w17_18, e17_20, w17_20, e17_22, w17_22, c17_23, e17_25, w17_25, c17_26, e17_28, w17_28, e17_30, w17_30, c17_31, c17_32, c17_33, c17_34, e17_36, w17_36, c17_37, c17_38, c17_39, c17_40, c17_41, c17_42, e17_44, w17_44, c17_45, e17_47, w17_47, e17_49, w17_49, c17_50, c17_51, c17_52, c17_53, c17_54, c17_55, Fares.row]
    first | refine callD (fare_capped_ok f _) ?_ | refine callQD (fare_capped_ok f _) ?_
    simp -implicitDefEqProofs (disch := omega) only [go_sem, Nat.reduceAdd, Nat.reduceMul, Nat.reduceSub, Nat.reduceBEq, Nat.reduceLeDiff, Nat.reduceLT, fn_fare_Verify, e17_1, w17_1, e17_3, w17_3, e17_5, w17_5, c17_6, e17_8, w17_8, c17_9, e17_11, w17_11, e17_13, w17_13, e17_15, w17_15, c17_16, e17_18, w17_18, e17_20, w17_20, e17_22, w17_22, c17_23, e17_25, w17_25, c17_26, e17_28, w17_28, e17_30, w17_30, c17_31, c17_32, c17_33, c17_34, e17_36, w17_36, c17_37, c17_38, c17_39, c17_40, c17_41, c17_42, e17_44, w17_44, c17_45, e17_47, w17_47, e17_49, w17_49, c17_50, c17_51, c17_52, c17_53, c17_54, c17_55, hv, pairV, Fares.row]

theorem transitref35_Verify_ok (f : Fares) (l : List Ride) (c : Cap) (ts : List Ticket) (d : Cap) (hf : f.wf) (hl : ∀ r ∈ l, r.wf) (hts : ts.length ≤ maxLen) :
    PCalls PR i_transitref35_Verify [.agg f.row, .slice (l.map Ride.row) c, .slice (ts.map Ticket.row) d] (fun v => v = pairV (verRes f l ts)) := by
  have hm : maxLen = 9223372036854775807 := by rfl
  refine acalls_pop fn_transitref35_Verify_ok (by simp [fn_transitref35_Verify]) ?_
  simp -implicitDefEqProofs (disch := omega) only [go_sem, Nat.reduceAdd, Nat.reduceMul, Nat.reduceSub, Nat.reduceBEq, Nat.reduceLeDiff, Nat.reduceLT, fn_transitref35_Verify, e18_1, w18_1, e18_3, w18_3, c18_4, e18_6, w18_6, e18_8, w18_8, c18_9, e18_11, w18_11, e18_13, w18_13, e18_15, w18_15, e18_17, w18_17, e18_19, w18_19, e18_21, w18_21, c18_22, e18_24, w18_24, e18_26, w18_26, c18_27, c18_28, c18_29, e18_31, w18_31, c18_32, c18_33, c18_34, c18_35, c18_36, e18_38, w18_38, c18_39, e18_41, w18_41, e18_43, w18_43, c18_44, c18_45, c18_46, c18_47, c18_48, c18_49, c18_50, Fares.row]
  first | refine callD (transitref35_Valid_ok f hf) ?_ | refine callQD (transitref35_Valid_ok f hf) ?_
  simp -implicitDefEqProofs (disch := omega) only [go_sem, Nat.reduceAdd, Nat.reduceMul, Nat.reduceSub, Nat.reduceBEq, Nat.reduceLeDiff, Nat.reduceLT, fn_transitref35_Verify, e18_1, w18_1, e18_3, w18_3, c18_4, e18_6, w18_6, e18_8, w18_8, c18_9, e18_11, w18_11, e18_13, w18_13, e18_15, w18_15, e18_17, w18_17, e18_19, w18_19, e18_21, w18_21, c18_22, e18_24, w18_24, e18_26, w18_26, c18_27, c18_28, c18_29, e18_31, w18_31, c18_32, c18_33, c18_34, c18_35, c18_36, e18_38, w18_38, c18_39, e18_41, w18_41, e18_43, w18_43, c18_44, c18_45, c18_46, c18_47, c18_48, c18_49, c18_50, faresOk]
  refine ifD (fun h1 => ?_) (fun h1 => ?_)
  rotate_left
  · have e1 : verRes f l ts = (0, 20) := by simp [verRes, validRes, h1]
    simp -implicitDefEqProofs (disch := omega) only [go_sem, Nat.reduceAdd, Nat.reduceMul, Nat.reduceSub, Nat.reduceBEq, Nat.reduceLeDiff, Nat.reduceLT, fn_transitref35_Verify, e18_1, w18_1, e18_3, w18_3, c18_4, e18_6, w18_6, e18_8, w18_8, c18_9, e18_11, w18_11, e18_13, w18_13, e18_15, w18_15, e18_17, w18_17, e18_19, w18_19, e18_21, w18_21, c18_22, e18_24, w18_24, e18_26, w18_26, c18_27, c18_28, c18_29, e18_31, w18_31, c18_32, c18_33, c18_34, c18_35, c18_36, e18_38, w18_38, c18_39, e18_41, w18_41, e18_43, w18_43, c18_44, c18_45, c18_46, c18_47, c18_48, c18_49, c18_50, e1, pairV, Fares.row]
  simp -implicitDefEqProofs (disch := omega) only [go_sem, Nat.reduceAdd, Nat.reduceMul, Nat.reduceSub, Nat.reduceBEq, Nat.reduceLeDiff, Nat.reduceLT, fn_transitref35_Verify, e18_1, w18_1, e18_3, w18_3, c18_4, e18_6, w18_6, e18_8, w18_8, c18_9, e18_11, w18_11, e18_13, w18_13, e18_15, w18_15, e18_17, w18_17, e18_19, w18_19, e18_21, w18_21, c18_22, e18_24, w18_24, e18_26, w18_26, c18_27, c18_28, c18_29, e18_31, w18_31, c18_32, c18_33, c18_34, c18_35, c18_36, e18_38, w18_38, c18_39, e18_41, w18_41, e18_43, w18_43, c18_44, c18_45, c18_46, c18_47, c18_48, c18_49, c18_50]
  refine ifD (fun h2 => ?_) (fun h2 => ?_)
  · have e1 : verRes f l ts = (0, 33) := by
      have : validRes f l.length = 33 := by rw [validRes, if_neg (by simp [h1]), if_pos (by omega)]
      simp [verRes, this]
    simp -implicitDefEqProofs (disch := omega) only [go_sem, Nat.reduceAdd, Nat.reduceMul, Nat.reduceSub, Nat.reduceBEq, Nat.reduceLeDiff, Nat.reduceLT, fn_transitref35_Verify, e18_1, w18_1, e18_3, w18_3, c18_4, e18_6, w18_6, e18_8, w18_8, c18_9, e18_11, w18_11, e18_13, w18_13, e18_15, w18_15, e18_17, w18_17, e18_19, w18_19, e18_21, w18_21, c18_22, e18_24, w18_24, e18_26, w18_26, c18_27, c18_28, c18_29, e18_31, w18_31, c18_32, c18_33, c18_34, c18_35, c18_36, e18_38, w18_38, c18_39, e18_41, w18_41, e18_43, w18_43, c18_44, c18_45, c18_46, c18_47, c18_48, c18_49, c18_50, e1, pairV, Fares.row]
  have h0 : validRes f l.length = 0 := validRes_zero.2 ⟨h1, by omega⟩
  have e0 : verRes f l ts = verGo f l ts 0 0 := by rw [verRes, if_neg (by simp [h0])]
  have hok := checkRes_ok h1
  simp -implicitDefEqProofs (disch := omega) only [go_sem, Nat.reduceAdd, Nat.reduceMul, Nat.reduceSub, Nat.reduceBEq, Nat.reduceLeDiff, Nat.reduceLT, fn_transitref35_Verify, e18_1, w18_1, e18_3, w18_3, c18_4, e18_6, w18_6, e18_8, w18_8, c18_9, e18_11, w18_11, e18_13, w18_13, e18_15, w18_15, e18_17, w18_17, e18_19, w18_19, e18_21, w18_21, c18_22, e18_24, w18_24, e18_26, w18_26, c18_27, c18_28, c18_29, e18_31, w18_31, c18_32, c18_33, c18_34, c18_35, c18_36, e18_38, w18_38, c18_39, e18_41, w18_41, e18_43, w18_43, c18_44, c18_45, c18_46, c18_47, c18_48, c18_49, c18_50]
  refine wpC_forL ts (fun i vs M => ∃ next : Nat, Small (ts.take i) ∧ i ≤ next ∧ next ≤ l.length ∧ verRes f l ts = verGo f l (ts.drop i) next (total (ts.take i)) ∧
      vs = [.slice (l.map Ride.row) c, .slice (ts.map Ticket.row) d, .ptr 0 0, .int .i64 next, .int .i64 i] ∧ M = [.box f.row]) ⟨0, by simp [Small], by omega, by omega, by rw [e0]; rfl, rfl, rfl⟩ ?_ ?_
  · rintro i t vs M ht hi hd ⟨next, hs, hin, hnl, hv, rfl, rfl⟩
    have h3 : (ts.take i).length ≤ i := by simp; omega
    have h4 := total_le hs
    simp -implicitDefEqProofs (disch := omega) only [go_sem, Nat.reduceAdd, Nat.reduceMul, Nat.reduceSub, Nat.reduceBEq, Nat.reduceLeDiff, Nat.reduceLT, fn_transitref35_Verify, e18_1, w18_1, e18_3, w18_3, c18_4, e18_6, w18_6, e18_8, w18_8, c18_9, e18_11, w18_11, e18_13, w18_13, e18_15, w18_15, e18_17, w18_17, e18_19, w18_19, e18_21, w18_21, c18_22, e18_24, w18_24, e18_26, w18_26, c18_27, c18_28, c18_29, e18_31, w18_31, c18_32, c18_33, c18_34, c18_35, c18_36, e18_38, w18_38, c18_39, e18_41, w18_41, e18_43, w18_43, c18_44, c18_45, c18_46, c18_47, c18_48, c18_49, c18_50, hd, ht, Ticket.row, Fares.row]
    first | refine callD (transitref35_one_ok f l c t next hf hok hl (by omega) (by omega)) ?_ | refine callQD (transitref35_one_ok f l c t next hf hok hl (by omega) (by omega)) ?_
    simp -implicitDefEqProofs (disch := omega) only [go_sem, Nat.reduceAdd, Nat.reduceMul, Nat.reduceSub, Nat.reduceBEq, Nat.reduceLeDiff, Nat.reduceLT, fn_transitref35_Verify, e18_1, w18_1, e18_3, w18_3, c18_4, e18_6, w18_6, e18_8, w18_8, c18_9, e18_11, w18_11, e18_13, w18_13, e18_15, w18_15, e18_17, w18_17, e18_19, w18_19, e18_21, w18_21, c18_22, e18_24, w18_24, e18_26, w18_26, c18_27, c18_28, c18_29, e18_31, w18_31, c18_32, c18_33, c18_34, c18_35, c18_36, e18_38, w18_38, c18_39, e18_41, w18_41, e18_43, w18_43, c18_44, c18_45, c18_46, c18_47, c18_48, c18_49, c18_50, Ticket.row]
    refine ifD (fun h5 => ?_) (fun h5 => ?_)
    rotate_left
    · have e1 := hv.trans (verGo_err ht h5)
      simp -implicitDefEqProofs (disch := omega) only [go_sem, Nat.reduceAdd, Nat.reduceMul, Nat.reduceSub, Nat.reduceBEq, Nat.reduceLeDiff, Nat.reduceLT, fn_transitref35_Verify, e18_1, w18_1, e18_3, w18_3, c18_4, e18_6, w18_6, e18_8, w18_8, c18_9, e18_11, w18_11, e18_13, w18_13, e18_15, w18_15, e18_17, w18_17, e18_19, w18_19, e18_21, w18_21, c18_22, e18_24, w18_24, e18_26, w18_26, c18_27, c18_28, c18_29, e18_31, w18_31, c18_32, c18_33, c18_34, c18_35, c18_36, e18_38, w18_38, c18_39, e18_41, w18_41, e18_43, w18_43, c18_44, c18_45, c18_46, c18_47, c18_48, c18_49, c18_50, e1, pairV, Fares.row]
    obtain ⟨g1, g2, g3, g4, g5⟩ := oneErr_zero hok h5
    have hv' := hv.trans (verGo_next ht h5)
    obtain ⟨k, hk⟩ : ∃ k : Nat, t.last = k := ⟨t.last.toNat, by omega⟩
    simp -implicitDefEqProofs (disch := omega) only [go_sem, Nat.reduceAdd, Nat.reduceMul, Nat.reduceSub, Nat.reduceBEq, Nat.reduceLeDiff, Nat.reduceLT, fn_transitref35_Verify, e18_1, w18_1, e18_3, w18_3, c18_4, e18_6, w18_6, e18_8, w18_8, c18_9, e18_11, w18_11, e18_13, w18_13, e18_15, w18_15, e18_17, w18_17, e18_19, w18_19, e18_21, w18_21, c18_22, e18_24, w18_24, e18_26, w18_26, c18_27, c18_28, c18_29, e18_31, w18_31, c18_32, c18_33, c18_34, c18_35, c18_36, e18_38, w18_38, c18_39, e18_41, w18_41, e18_43, w18_43, c18_44, c18_45, c18_46, c18_47, c18_48, c18_49, c18_50, ht, Ticket.row]
    refine next_stay hi ⟨k + 1, take_small ht hs ⟨g4, g5⟩, by omega, by omega, ?_, ?_, rfl⟩
    · rw [hv', total_snoc ht, hk]; rfl
    · rw [hk]; rfl
  · rintro vs M ⟨next, hs, hin, hnl, hv, rfl, rfl⟩
    rw [List.drop_length, List.take_length] at hv
    rw [List.take_length] at hs
    simp -implicitDefEqProofs (disch := omega) only [go_sem, Nat.reduceAdd, Nat.reduceMul, Nat.reduceSub, Nat.reduceBEq, Nat.reduceLeDiff, Nat.reduceLT, fn_transitref35_Verify, e18_1, w18_1, e18_3, w18_3, c18_4, e18_6, w18_6, e18_8, w18_8, c18_9, e18_11, w18_11, e18_13, w18_13, e18_15, w18_15, e18_17, w18_17, e18_19, w18_19, e18_21, w18_21, c18_22, e18_24, w18_24, e18_26, w18_26, c18_27, c18_28, c18_29, e18_31, w18_31, c18_32, c18_33, c18_34, c18_35, c18_36, e18_38, w18_38, c18_39, e18_41, w18_41, e18_43, w18_43, c18_44, c18_45, c18_46, c18_47, c18_48, c18_49, c18_50, dec_irrefl, List.take_length, Fares.row]
    refine ifD (fun h5 => ?_) (fun h5 => ?_)
    rotate_left
    · rw [verGo, if_pos h5] at hv
      simp -implicitDefEqProofs (disch := omega) only [go_sem, Nat.reduceAdd, Nat.reduceMul, Nat.reduceSub, Nat.reduceBEq, Nat.reduceLeDiff, Nat.reduceLT, fn_transitref35_Verify, e18_1, w18_1, e18_3, w18_3, c18_4, e18_6, w18_6, e18_8, w18_8, c18_9, e18_11, w18_11, e18_13, w18_13, e18_15, w18_15, e18_17, w18_17, e18_19, w18_19, e18_21, w18_21, c18_22, e18_24, w18_24, e18_26, w18_26, c18_27, c18_28, c18_29, e18_31, w18_31, c18_32, c18_33, c18_34, c18_35, c18_36, e18_38, w18_38, c18_39, e18_41, w18_41, e18_43, w18_43, c18_44, c18_45, c18_46, c18_47, c18_48, c18_49, c18_50, hv, pairV, Fares.row]
    rw [verGo, if_neg (by simp [h5])] at hv
    simp -implicitDefEqProofs (disch := omega) only [go_sem, Nat.reduceAdd, Nat.reduceMul, Nat.reduceSub, Nat.reduceBEq, Nat.reduceLeDiff, Nat.reduceLT, fn_transitref35_Verify, e18_1, w18_1, e18_3, w18_3, c18_4, e18_6, w18_6, e18_8, w18_8, c18_9, e18_11, w18_11, e18_13, w18_13, e18_15, w18_15, e18_17, w18_17, e18_19, w18_19, e18_21, w18_21, c18_22, e18_24, w18_24, e18_26, w18_26, c18_27, c18_28, c18_29, e18_31, w18_31, c18_32, c18_33, c18_34, c18_35, c18_36, e18_38, w18_38, c18_39, e18_41, w18_41, e18_43, w18_43, c18_44, c18_45, c18_46, c18_47, c18_48, c18_49, c18_50, Fares.row]
    first | refine callD (transitref35_Sum_ok ts d hs (by omega)) ?_ | refine callQD (transitref35_Sum_ok ts d hs (by omega)) ?_
    first | refine callD (transitref35_Capped_ok f _ hok.limit.1) ?_ | refine callQD (transitref35_Capped_ok f _ hok.limit.1) ?_
    simp -implicitDefEqProofs (disch := omega) only [go_sem, Nat.reduceAdd, Nat.reduceMul, Nat.reduceSub, Nat.reduceBEq, Nat.reduceLeDiff, Nat.reduceLT, fn_transitref35_Verify, e18_1, w18_1, e18_3, w18_3, c18_4, e18_6, w18_6, e18_8, w18_8, c18_9, e18_11, w18_11, e18_13, w18_13, e18_15, w18_15, e18_17, w18_17, e18_19, w18_19, e18_21, w18_21, c18_22, e18_24, w18_24, e18_26, w18_26, c18_27, c18_28, c18_29, e18_31, w18_31, c18_32, c18_33, c18_34, c18_35, c18_36, e18_38, w18_38, c18_39, e18_41, w18_41, e18_43, w18_43, c18_44, c18_45, c18_46, c18_47, c18_48, c18_49, c18_50, hv, pairV, Fares.row]

end Go.Vm.C

