/- The statement InboxPlays. -/
import Derived.Test.YtmbeokppfdalfaaT13

namespace Go.Vm.C
open Go.Vm
set_option maxHeartbeats 1000000
set_option maxRecDepth 10000
set_option linter.unusedSimpArgs false
set_option linter.unusedVariables false

/-! ### The statement InboxPlays -/
theorem InAt.put {M : Mem} {b : Ibx} {id sid j : Nat} (h : InAt M b id sid) {cells : List V} (hj : M[j]? = some (.box cells)) (hne : j ≠ id) (cells' : List V) (hu : underL M.length cells' = true) : InAt (M.set j (.box cells')) b id sid := by
  obtain ⟨kv, h1, h2⟩ := h.box
  have hjs : j ≠ sid := fun e => by
    subst e
    have := h.src
    rw [hj] at this
    cases this
  refine ⟨by rw [List.length_set]; exact set_under _ (.box cells') (show Blk.under M.length (.box cells') = true from hu) _ _ h.own, by rw [List.getElem?_set_ne hjs]; exact h.src, kv, by rw [List.getElem?_set_ne hne]; exact h1, ?_⟩
  rcases h2 with ⟨c, rfl⟩ | ⟨kid, ver, rfl, h3⟩
  · exact .inl ⟨c, rfl⟩
  · refine .inr ⟨kid, ver, rfl, ?_⟩
    have : j ≠ kid := fun e => by
      subst e
      rw [hj] at h3
      cases h3
    rw [List.getElem?_set_ne this]; exact h3
theorem plays_tail {N : Mem} {b : Ibx} {r : RBox} (h : InAt N b 1 0) (hok : b.Ok) (hr : Rel b r) (hat : N[2]? = some (.box r.row)) {k : Nat} (o : Oper) (ho : N[k]? = some (.box o.row)) (hn : I64 o.now) (e : Int) (v39 v40 v41 : V) (Q : Exit → Slots → Mem → Prop) (q : Q .normal [(7, .ptr 1 0), (9, .ptr 2 0), (39, v39), (40, v40), (41, v41), (98, .bool false)] N) :
    ∀ s, sget s 7 = .ptr 1 0 → sget s 9 = .ptr 2 0 → sget s 12 = .ptr k 0 → sget s 13 = .int .i64 e → sget s 14 = .int .i64 e → sget s 39 = v39 → sget s 40 = v40 → sget s 41 = v41 → wpC PR c6_43 Q s N := by
  intro s g7 g9 g12 g13 g14 g39 g40 g41
  have hs := same_ok h hok hr o.src o.now hn
  simp only [RBox.row] at hat hs
  simp only [Oper.row, Msg.row, List.cons_append, List.nil_append] at ho
  simp -implicitDefEqProofs (disch := omega) only [go_sem, Nat.reduceAdd, Nat.reduceMul, Nat.reduceSub, Nat.reduceBEq, Nat.reduceLeDiff, Nat.reduceLT, fn_transitlaw32_InboxPlays, e6_1, w6_1, e6_3, w6_3, e6_5, w6_5, e6_7, w6_7, c6_8, e6_10, w6_10, e6_12, w6_12, e6_14, w6_14, c6_15, e6_17, w6_17, e6_19, w6_19, c6_20, e6_22, w6_22, e6_24, w6_24, e6_26, w6_26, e6_28, w6_28, c6_29, e6_31, w6_31, e6_33, w6_33, e6_35, w6_35, c6_36, e6_38, w6_38, e6_40, w6_40, c6_41, e6_43, w6_43, c6_44, c6_45, c6_46, c6_47, c6_48, c6_49, e6_51, w6_51, c6_52, c6_53, c6_54, c6_55, c6_56, c6_57, e6_59, w6_59, c6_60, c6_61, c6_62, c6_63, c6_64, c6_65, g7, g9, g12, g13, g14, g39, g40, g41, int_neq_self, hat, ho]
  refine callM hs ?_
  simp -implicitDefEqProofs (disch := omega) only [go_sem, Nat.reduceAdd, Nat.reduceMul, Nat.reduceSub, Nat.reduceBEq, Nat.reduceLeDiff, Nat.reduceLT, fn_transitlaw32_InboxPlays, e6_1, w6_1, e6_3, w6_3, e6_5, w6_5, e6_7, w6_7, c6_8, e6_10, w6_10, e6_12, w6_12, e6_14, w6_14, c6_15, e6_17, w6_17, e6_19, w6_19, c6_20, e6_22, w6_22, e6_24, w6_24, e6_26, w6_26, e6_28, w6_28, c6_29, e6_31, w6_31, e6_33, w6_33, e6_35, w6_35, c6_36, e6_38, w6_38, e6_40, w6_40, c6_41, e6_43, w6_43, c6_44, c6_45, c6_46, c6_47, c6_48, c6_49, e6_51, w6_51, c6_52, c6_53, c6_54, c6_55, c6_56, c6_57, e6_59, w6_59, c6_60, c6_61, c6_62, c6_63, c6_64, c6_65, g7, g9, g12, g13, g14, g39, g40, g41]
  exact q
theorem Rel.start {n : Nat} {pat : Int} (h : newErr n pat = 0) : Rel (startI n pat) (rNew n pat) := by
  rw [rNew, if_pos h]
  refine ⟨rfl, ?_, rfl, fun s hs hr => ?_⟩
  · show List.replicate n (⟨-1, 0⟩ : RSrc) = (List.replicate n (⟨false, 0, false, 0⟩ : Src)).map refS
    rw [List.map_replicate]; rfl
  · rw [List.eq_of_mem_replicate hs] at hr
    cases hr

theorem InboxPlays_law (n0 pat : Int) (l : List Oper) (c : Cap) (hl : ∀ o ∈ l, o.wf) (hlen : l.length ≤ maxLen) : PCalls PR i_transitlaw32_InboxPlays [.int .i64 n0, .int .i64 pat, .slice (l.map Oper.row) c] (fun v => v = .bool true) := by
  have hm : maxLen = 9223372036854775807 := by rfl
  refine acalls_pop fn_transitlaw32_InboxPlays_ok (by simp [fn_transitlaw32_InboxPlays]) ?_
  simp -implicitDefEqProofs (disch := omega) only [go_sem, Nat.reduceAdd, Nat.reduceMul, Nat.reduceSub, Nat.reduceBEq, Nat.reduceLeDiff, Nat.reduceLT, fn_transitlaw32_InboxPlays, e6_1, w6_1, e6_3, w6_3, e6_5, w6_5, e6_7, w6_7, c6_8, e6_10, w6_10, e6_12, w6_12, e6_14, w6_14, c6_15, e6_17, w6_17, e6_19, w6_19, c6_20, e6_22, w6_22, e6_24, w6_24, e6_26, w6_26, e6_28, w6_28, c6_29, e6_31, w6_31, e6_33, w6_33, e6_35, w6_35, c6_36, e6_38, w6_38, e6_40, w6_40, c6_41, e6_43, w6_43, c6_44, c6_45, c6_46, c6_47, c6_48, c6_49, e6_51, w6_51, c6_52, c6_53, c6_54, c6_55, c6_56, c6_57, e6_59, w6_59, c6_60, c6_61, c6_62, c6_63, c6_64, c6_65]
  refine callA (inbox_New_ok n0 pat []) ?_
  rintro v N ⟨hb, hg⟩
  by_cases h0 : newErr n0 pat = 0
  rotate_left
  · obtain ⟨rfl, rfl⟩ := hb h0
    simp -implicitDefEqProofs (disch := omega) only [go_sem, Nat.reduceAdd, Nat.reduceMul, Nat.reduceSub, Nat.reduceBEq, Nat.reduceLeDiff, Nat.reduceLT, fn_transitlaw32_InboxPlays, e6_1, w6_1, e6_3, w6_3, e6_5, w6_5, e6_7, w6_7, c6_8, e6_10, w6_10, e6_12, w6_12, e6_14, w6_14, c6_15, e6_17, w6_17, e6_19, w6_19, c6_20, e6_22, w6_22, e6_24, w6_24, e6_26, w6_26, e6_28, w6_28, c6_29, e6_31, w6_31, e6_33, w6_33, e6_35, w6_35, c6_36, e6_38, w6_38, e6_40, w6_40, c6_41, e6_43, w6_43, c6_44, c6_45, c6_46, c6_47, c6_48, c6_49, e6_51, w6_51, c6_52, c6_53, c6_54, c6_55, c6_56, c6_57, e6_59, w6_59, c6_60, c6_61, c6_62, c6_63, c6_64, c6_65]
    first | refine callD (transitref32_New_ok n0 pat) ?_ | refine callQD (transitref32_New_ok n0 pat) ?_
    have hd : decide (newErr n0 pat = 0) = false := decide_eq_false h0
    simp -implicitDefEqProofs (disch := omega) only [go_sem, Nat.reduceAdd, Nat.reduceMul, Nat.reduceSub, Nat.reduceBEq, Nat.reduceLeDiff, Nat.reduceLT, fn_transitlaw32_InboxPlays, e6_1, w6_1, e6_3, w6_3, e6_5, w6_5, e6_7, w6_7, c6_8, e6_10, w6_10, e6_12, w6_12, e6_14, w6_14, c6_15, e6_17, w6_17, e6_19, w6_19, c6_20, e6_22, w6_22, e6_24, w6_24, e6_26, w6_26, e6_28, w6_28, c6_29, e6_31, w6_31, e6_33, w6_33, e6_35, w6_35, c6_36, e6_38, w6_38, e6_40, w6_40, c6_41, e6_43, w6_43, c6_44, c6_45, c6_46, c6_47, c6_48, c6_49, e6_51, w6_51, c6_52, c6_53, c6_54, c6_55, c6_56, c6_57, e6_59, w6_59, c6_60, c6_61, c6_62, c6_63, c6_64, c6_65, RBox.row, hd]
    first | refine callD (example32_ok) ?_ | refine callQD (example32_ok) ?_
    simp -implicitDefEqProofs (disch := omega) only [go_sem, Nat.reduceAdd, Nat.reduceMul, Nat.reduceSub, Nat.reduceBEq, Nat.reduceLeDiff, Nat.reduceLT, fn_transitlaw32_InboxPlays, e6_1, w6_1, e6_3, w6_3, e6_5, w6_5, e6_7, w6_7, c6_8, e6_10, w6_10, e6_12, w6_12, e6_14, w6_14, c6_15, e6_17, w6_17, e6_19, w6_19, c6_20, e6_22, w6_22, e6_24, w6_24, e6_26, w6_26, e6_28, w6_28, c6_29, e6_31, w6_31, e6_33, w6_33, e6_35, w6_35, c6_36, e6_38, w6_38, e6_40, w6_40, c6_41, e6_43, w6_43, c6_44, c6_45, c6_46, c6_47, c6_48, c6_49, e6_51, w6_51, c6_52, c6_53, c6_54, c6_55, c6_56, c6_57, e6_59, w6_59, c6_60, c6_61, c6_62, c6_63, c6_64, c6_65]
  obtain ⟨rfl, rfl⟩ := hg h0
  have hs : 1 ≤ n0 ∧ n0 ≤ 8 := by
    unfold newErr at h0
    split at h0
    · cases h0
    · omega
  obtain ⟨n, rfl⟩ : ∃ n : Nat, n0 = n := ⟨n0.toNat, by omega⟩
  have hI0 := New_at (M := []) rfl n pat
  have hok0 := startI_ok h0
  have hr0 := Rel.start h0
  simp only [List.nil_append, List.length_nil, Nat.zero_add] at hI0
  simp -implicitDefEqProofs (disch := omega) only [go_sem, Nat.reduceAdd, Nat.reduceMul, Nat.reduceSub, Nat.reduceBEq, Nat.reduceLeDiff, Nat.reduceLT, fn_transitlaw32_InboxPlays, e6_1, w6_1, e6_3, w6_3, e6_5, w6_5, e6_7, w6_7, c6_8, e6_10, w6_10, e6_12, w6_12, e6_14, w6_14, c6_15, e6_17, w6_17, e6_19, w6_19, c6_20, e6_22, w6_22, e6_24, w6_24, e6_26, w6_26, e6_28, w6_28, c6_29, e6_31, w6_31, e6_33, w6_33, e6_35, w6_35, c6_36, e6_38, w6_38, e6_40, w6_40, c6_41, e6_43, w6_43, c6_44, c6_45, c6_46, c6_47, c6_48, c6_49, e6_51, w6_51, c6_52, c6_53, c6_54, c6_55, c6_56, c6_57, e6_59, w6_59, c6_60, c6_61, c6_62, c6_63, c6_64, c6_65, Int.toNat_natCast]
  first | refine callD (transitref32_New_ok n pat) ?_ | refine callQD (transitref32_New_ok n pat) ?_
  generalize rNew n pat = r0 at *
  have hd : decide (newErr n pat = 0) = true := decide_eq_true h0
  have hpe : binV .eql .ptr (.ptr 1 0) .nilp = some (.bool false) := rfl
  simp -implicitDefEqProofs (disch := omega) only [go_sem, Nat.reduceAdd, Nat.reduceMul, Nat.reduceSub, Nat.reduceBEq, Nat.reduceLeDiff, Nat.reduceLT, fn_transitlaw32_InboxPlays, e6_1, w6_1, e6_3, w6_3, e6_5, w6_5, e6_7, w6_7, c6_8, e6_10, w6_10, e6_12, w6_12, e6_14, w6_14, c6_15, e6_17, w6_17, e6_19, w6_19, c6_20, e6_22, w6_22, e6_24, w6_24, e6_26, w6_26, e6_28, w6_28, c6_29, e6_31, w6_31, e6_33, w6_33, e6_35, w6_35, c6_36, e6_38, w6_38, e6_40, w6_40, c6_41, e6_43, w6_43, c6_44, c6_45, c6_46, c6_47, c6_48, c6_49, e6_51, w6_51, c6_52, c6_53, c6_54, c6_55, c6_56, c6_57, e6_59, w6_59, c6_60, c6_61, c6_62, c6_63, c6_64, c6_65, RBox.row, hd, hpe]
  refine ifD (fun h1 => ?_) (fun h1 => ?_)
  · simp -implicitDefEqProofs (disch := omega) only [go_sem, Nat.reduceAdd, Nat.reduceMul, Nat.reduceSub, Nat.reduceBEq, Nat.reduceLeDiff, Nat.reduceLT, fn_transitlaw32_InboxPlays, e6_1, w6_1, e6_3, w6_3, e6_5, w6_5, e6_7, w6_7, c6_8, e6_10, w6_10, e6_12, w6_12, e6_14, w6_14, c6_15, e6_17, w6_17, e6_19, w6_19, c6_20, e6_22, w6_22, e6_24, w6_24, e6_26, w6_26, e6_28, w6_28, c6_29, e6_31, w6_31, e6_33, w6_33, e6_35, w6_35, c6_36, e6_38, w6_38, e6_40, w6_40, c6_41, e6_43, w6_43, c6_44, c6_45, c6_46, c6_47, c6_48, c6_49, e6_51, w6_51, c6_52, c6_53, c6_54, c6_55, c6_56, c6_57, e6_59, w6_59, c6_60, c6_61, c6_62, c6_63, c6_64, c6_65]
    first | refine callD (example32_ok) ?_ | refine callQD (example32_ok) ?_
    simp -implicitDefEqProofs (disch := omega) only [go_sem, Nat.reduceAdd, Nat.reduceMul, Nat.reduceSub, Nat.reduceBEq, Nat.reduceLeDiff, Nat.reduceLT, fn_transitlaw32_InboxPlays, e6_1, w6_1, e6_3, w6_3, e6_5, w6_5, e6_7, w6_7, c6_8, e6_10, w6_10, e6_12, w6_12, e6_14, w6_14, c6_15, e6_17, w6_17, e6_19, w6_19, c6_20, e6_22, w6_22, e6_24, w6_24, e6_26, w6_26, e6_28, w6_28, c6_29, e6_31, w6_31, e6_33, w6_33, e6_35, w6_35, c6_36, e6_38, w6_38, e6_40, w6_40, c6_41, e6_43, w6_43, c6_44, c6_45, c6_46, c6_47, c6_48, c6_49, e6_51, w6_51, c6_52, c6_53, c6_54, c6_55, c6_56, c6_57, e6_59, w6_59, c6_60, c6_61, c6_62, c6_63, c6_64, c6_65]
  have hI1 := hI0.app [.box r0.row] (by rfl)
  simp -implicitDefEqProofs (disch := omega) only [go_sem, Nat.reduceAdd, Nat.reduceMul, Nat.reduceSub, Nat.reduceBEq, Nat.reduceLeDiff, Nat.reduceLT, fn_transitlaw32_InboxPlays, e6_1, w6_1, e6_3, w6_3, e6_5, w6_5, e6_7, w6_7, c6_8, e6_10, w6_10, e6_12, w6_12, e6_14, w6_14, c6_15, e6_17, w6_17, e6_19, w6_19, c6_20, e6_22, w6_22, e6_24, w6_24, e6_26, w6_26, e6_28, w6_28, c6_29, e6_31, w6_31, e6_33, w6_33, e6_35, w6_35, c6_36, e6_38, w6_38, e6_40, w6_40, c6_41, e6_43, w6_43, c6_44, c6_45, c6_46, c6_47, c6_48, c6_49, e6_51, w6_51, c6_52, c6_53, c6_54, c6_55, c6_56, c6_57, e6_59, w6_59, c6_60, c6_61, c6_62, c6_63, c6_64, c6_65]
  refine wpC_forL l (fun i vs N => vs = [.ptr 1 0, .ptr 2 0, .slice (l.map Oper.row) c, .int .i64 l.length, .int .i64 i] ∧ InAt N (runI (startI n pat) (l.take i)) 1 0 ∧ ∃ r, Rel (runI (startI n pat) (l.take i)) r ∧ N[2]? = some (.box r.row)) ⟨rfl, hI1, r0, hr0, rfl⟩ ?_ ?_
  rotate_left
  · rintro vs N ⟨rfl, _, _⟩
    simp -implicitDefEqProofs (disch := omega) only [go_sem, Nat.reduceAdd, Nat.reduceMul, Nat.reduceSub, Nat.reduceBEq, Nat.reduceLeDiff, Nat.reduceLT, fn_transitlaw32_InboxPlays, e6_1, w6_1, e6_3, w6_3, e6_5, w6_5, e6_7, w6_7, c6_8, e6_10, w6_10, e6_12, w6_12, e6_14, w6_14, c6_15, e6_17, w6_17, e6_19, w6_19, c6_20, e6_22, w6_22, e6_24, w6_24, e6_26, w6_26, e6_28, w6_28, c6_29, e6_31, w6_31, e6_33, w6_33, e6_35, w6_35, c6_36, e6_38, w6_38, e6_40, w6_40, c6_41, e6_43, w6_43, c6_44, c6_45, c6_46, c6_47, c6_48, c6_49, e6_51, w6_51, c6_52, c6_53, c6_54, c6_55, c6_56, c6_57, e6_59, w6_59, c6_60, c6_61, c6_62, c6_63, c6_64, c6_65, dec_irrefl]
    first | refine callD (example32_ok) ?_ | refine callQD (example32_ok) ?_
    simp -implicitDefEqProofs (disch := omega) only [go_sem, Nat.reduceAdd, Nat.reduceMul, Nat.reduceSub, Nat.reduceBEq, Nat.reduceLeDiff, Nat.reduceLT, fn_transitlaw32_InboxPlays, e6_1, w6_1, e6_3, w6_3, e6_5, w6_5, e6_7, w6_7, c6_8, e6_10, w6_10, e6_12, w6_12, e6_14, w6_14, c6_15, e6_17, w6_17, e6_19, w6_19, c6_20, e6_22, w6_22, e6_24, w6_24, e6_26, w6_26, e6_28, w6_28, c6_29, e6_31, w6_31, e6_33, w6_33, e6_35, w6_35, c6_36, e6_38, w6_38, e6_40, w6_40, c6_41, e6_43, w6_43, c6_44, c6_45, c6_46, c6_47, c6_48, c6_49, e6_51, w6_51, c6_52, c6_53, c6_54, c6_55, c6_56, c6_57, e6_59, w6_59, c6_60, c6_61, c6_62, c6_63, c6_64, c6_65]
  rintro i o vs N ho hi hd2 ⟨rfl, hI, r, hr, hat⟩
  have hwf := hl o (List.mem_of_getElem? ho)
  have hok : (runI (startI n pat) (l.take i)).Ok := runI_ok (fun x hx => hl x (List.mem_of_mem_take hx)) hok0
  have hsn := runI_snoc (startI n pat) ho
  generalize runI (startI n pat) (l.take i) = b at *
  generalize hB2 : runI (startI n pat) (l.take (i + 1)) = b2 at *
  have hsm := small_ok o.m
  have hI2 := hI.app [.box o.row] (by simp [memUnder, Blk.under, Oper.row, Msg.row, underL, V.under])
  have h2l := (List.getElem?_eq_some_iff.1 hat).1
  have hat2 : (N ++ [Blk.box o.row])[2]? = some (.box r.row) := mget hat _
  have hop : (N ++ [Blk.box o.row])[N.length]? = some (.box o.row) := mlast N _ _
  have hrok := hr.ok hok
  have hset : ∀ x : Blk, (N ++ [Blk.box o.row]).set N.length x = N ++ [x] := fun x => mset N _ x []
  have hlN : (N ++ [Blk.box o.row]).length = N.length + 1 := by simp
  simp only [Msg.row] at hsm
  simp -implicitDefEqProofs (disch := omega) only [go_sem, Nat.reduceAdd, Nat.reduceMul, Nat.reduceSub, Nat.reduceBEq, Nat.reduceLeDiff, Nat.reduceLT, fn_transitlaw32_InboxPlays, e6_1, w6_1, e6_3, w6_3, e6_5, w6_5, e6_7, w6_7, c6_8, e6_10, w6_10, e6_12, w6_12, e6_14, w6_14, c6_15, e6_17, w6_17, e6_19, w6_19, c6_20, e6_22, w6_22, e6_24, w6_24, e6_26, w6_26, e6_28, w6_28, c6_29, e6_31, w6_31, e6_33, w6_33, e6_35, w6_35, c6_36, e6_38, w6_38, e6_40, w6_40, c6_41, c6_44, c6_45, c6_46, c6_47, c6_48, c6_49, e6_51, w6_51, c6_52, c6_53, c6_54, c6_55, c6_56, c6_57, e6_59, w6_59, c6_60, c6_61, c6_62, c6_63, c6_64, c6_65, hd2, ho, get_at0, mset, Oper.row, Msg.row]
  have hbx : Blk.box [.int .i64 o.kind, .int .i64 o.m.src, .int .i64 o.m.seq, .int .i64 o.m.iss, .int .i64 o.m.exp, .int .i64 o.m.kind, .str o.m.trip, .int .i64 o.m.day, .int .i64 o.m.inst, .int .i64 o.m.callNo, .int .i64 o.m.secs, .int .i64 o.m.route, .bool o.m.free, .slice (o.m.calls.map Stay.row) o.m.tag, .int .i64 o.src, .int .i64 o.now] = Blk.box o.row := rfl
  first | refine callD (hsm) ?_ | refine callQD (hsm) ?_
  simp -implicitDefEqProofs (disch := omega) only [go_sem, Nat.reduceAdd, Nat.reduceMul, Nat.reduceSub, Nat.reduceBEq, Nat.reduceLeDiff, Nat.reduceLT, fn_transitlaw32_InboxPlays, e6_1, w6_1, e6_3, w6_3, e6_5, w6_5, e6_7, w6_7, c6_8, e6_10, w6_10, e6_12, w6_12, e6_14, w6_14, c6_15, e6_17, w6_17, e6_19, w6_19, c6_20, e6_22, w6_22, e6_24, w6_24, e6_26, w6_26, e6_28, w6_28, c6_29, e6_31, w6_31, e6_33, w6_33, e6_35, w6_35, c6_36, e6_38, w6_38, e6_40, w6_40, c6_41, c6_44, c6_45, c6_46, c6_47, c6_48, c6_49, e6_51, w6_51, c6_52, c6_53, c6_54, c6_55, c6_56, c6_57, e6_59, w6_59, c6_60, c6_61, c6_62, c6_63, c6_64, c6_65]
  refine ifB (fun h3 => ?_) (fun h3 => ?_)
  rotate_left
  · simp -implicitDefEqProofs (disch := omega) only [go_sem, Nat.reduceAdd, Nat.reduceMul, Nat.reduceSub, Nat.reduceBEq, Nat.reduceLeDiff, Nat.reduceLT, fn_transitlaw32_InboxPlays, e6_1, w6_1, e6_3, w6_3, e6_5, w6_5, e6_7, w6_7, c6_8, e6_10, w6_10, e6_12, w6_12, e6_14, w6_14, c6_15, e6_17, w6_17, e6_19, w6_19, c6_20, e6_22, w6_22, e6_24, w6_24, e6_26, w6_26, e6_28, w6_28, c6_29, e6_31, w6_31, e6_33, w6_33, e6_35, w6_35, c6_36, e6_38, w6_38, e6_40, w6_40, c6_41, c6_44, c6_45, c6_46, c6_47, c6_48, c6_49, e6_51, w6_51, c6_52, c6_53, c6_54, c6_55, c6_56, c6_57, e6_59, w6_59, c6_60, c6_61, c6_62, c6_63, c6_64, c6_65]
    first | refine callD (example32_ok) ?_ | refine callQD (example32_ok) ?_
    simp -implicitDefEqProofs (disch := omega) only [go_sem, Nat.reduceAdd, Nat.reduceMul, Nat.reduceSub, Nat.reduceBEq, Nat.reduceLeDiff, Nat.reduceLT, fn_transitlaw32_InboxPlays, e6_1, w6_1, e6_3, w6_3, e6_5, w6_5, e6_7, w6_7, c6_8, e6_10, w6_10, e6_12, w6_12, e6_14, w6_14, c6_15, e6_17, w6_17, e6_19, w6_19, c6_20, e6_22, w6_22, e6_24, w6_24, e6_26, w6_26, e6_28, w6_28, c6_29, e6_31, w6_31, e6_33, w6_33, e6_35, w6_35, c6_36, e6_38, w6_38, e6_40, w6_40, c6_41, c6_44, c6_45, c6_46, c6_47, c6_48, c6_49, e6_51, w6_51, c6_52, c6_53, c6_54, c6_55, c6_56, c6_57, e6_59, w6_59, c6_60, c6_61, c6_62, c6_63, c6_64, c6_65]
  rw [hbx]
  generalize hNN : N ++ [Blk.box o.row] = N1 at *
  have hop' := hop
  have hat2' := hat2
  simp only [Oper.row, Msg.row, List.cons_append, List.nil_append] at hop'
  simp only [RBox.row] at hat2'
  have hnow : I64 o.now := hwf.2.2.2
  have hstep : ∀ (N3 : Mem) (r' : RBox), InAt N3 b2 1 0 → Rel b2 r' → N3[2]? = some (.box r'.row) → N3[N.length]? = some (.box o.row) → ∀ (e : Int) (Q : Exit → Slots → Mem → Prop), Q .normal [(7, .ptr 1 0), (9, .ptr 2 0), (39, .slice (l.map Oper.row) c), (40, .int .i64 l.length), (41, .int .i64 i), (98, .bool false)] N3 →
      ∀ s, sget s 7 = .ptr 1 0 → sget s 9 = .ptr 2 0 → sget s 12 = .ptr N.length 0 → sget s 13 = .int .i64 e → sget s 14 = .int .i64 e → sget s 39 = .slice (l.map Oper.row) c → sget s 40 = .int .i64 l.length → sget s 41 = .int .i64 i → wpC PR c6_43 Q s N3 := fun N3 r' a1 a2 a3 a4 e Q q =>
    plays_tail a1 (by rw [hsn]; exact stepI_ok hok hwf) a2 a3 o a4 hnow e _ _ _ Q q
  simp -implicitDefEqProofs (disch := omega) only [go_sem, Nat.reduceAdd, Nat.reduceMul, Nat.reduceSub, Nat.reduceBEq, Nat.reduceLeDiff, Nat.reduceLT, fn_transitlaw32_InboxPlays, e6_1, w6_1, e6_3, w6_3, e6_5, w6_5, e6_7, w6_7, c6_8, e6_10, w6_10, e6_12, w6_12, e6_14, w6_14, c6_15, e6_17, w6_17, e6_19, w6_19, c6_20, e6_22, w6_22, e6_24, w6_24, e6_26, w6_26, e6_28, w6_28, c6_29, e6_31, w6_31, e6_33, w6_33, e6_35, w6_35, c6_36, e6_38, w6_38, e6_40, w6_40, c6_41, c6_44, c6_45, c6_46, c6_47, c6_48, c6_49, e6_51, w6_51, c6_52, c6_53, c6_54, c6_55, c6_56, c6_57, e6_59, w6_59, c6_60, c6_61, c6_62, c6_63, c6_64, c6_65, hop']
  refine ifD (fun k0 => ?_) (fun k0 => ?_)
  · have hrc := Receive_ok hI2 hok o.m o.now hwf.2.1.2.2.2.2.2.2.2.2.2.2.2.2 hwf.2.1.2.2.2.2.2.1
    have hrr := ref_Receive_ok r hrok o.m o.now hwf.2.1.2.2.2.2.2.2.2.2.2.2.2.2 hwf.2.1.2.2.2.2.2.1
    have e1 : stepI b o = recvI b o.m o.now := by rw [stepI, if_pos k0]
    obtain ⟨ee, hr'⟩ := hr.recv hok o.m o.now
    rw [hsn, e1] at hstep
    simp only [Msg.row] at hrc
    simp only [Msg.row, RBox.row] at hrr
    simp -implicitDefEqProofs (disch := omega) only [go_sem, Nat.reduceAdd, Nat.reduceMul, Nat.reduceSub, Nat.reduceBEq, Nat.reduceLeDiff, Nat.reduceLT, fn_transitlaw32_InboxPlays, e6_1, w6_1, e6_3, w6_3, e6_5, w6_5, e6_7, w6_7, c6_8, e6_10, w6_10, e6_12, w6_12, e6_14, w6_14, c6_15, e6_17, w6_17, e6_19, w6_19, c6_20, e6_22, w6_22, e6_24, w6_24, e6_26, w6_26, e6_28, w6_28, c6_29, e6_31, w6_31, e6_33, w6_33, e6_35, w6_35, c6_36, e6_38, w6_38, e6_40, w6_40, c6_41, c6_44, c6_45, c6_46, c6_47, c6_48, c6_49, e6_51, w6_51, c6_52, c6_53, c6_54, c6_55, c6_56, c6_57, e6_59, w6_59, c6_60, c6_61, c6_62, c6_63, c6_64, c6_65, hop']
    refine callA hrc ?_
    rintro v N2 ⟨rfl, hf2, hI3⟩
    have q1 : N2[2]? = some (.box r.row) := by rw [hf2.2 2 (by omega) (by omega) (by omega)]; exact hat2
    have q2 : N2[N.length]? = some (.box o.row) := by rw [hf2.2 N.length (by omega) (by omega) (by omega)]; exact hop
    have q1' := q1
    have q2' := q2
    simp only [Oper.row, Msg.row, List.cons_append, List.nil_append] at q2'
    simp only [RBox.row] at q1'
    have hl2 := (List.getElem?_eq_some_iff.1 q1).1
    have hI4 := hI3.put q1 (by decide) (rRecvI r o.m o.now).row rfl
    have w1 : (N2.set 2 (.box (rRecvI r o.m o.now).row))[2]? = some (.box (rRecvI r o.m o.now).row) := by rw [List.getElem?_set_self hl2]
    have w2 : (N2.set 2 (.box (rRecvI r o.m o.now).row))[N.length]? = some (.box o.row) := by rw [List.getElem?_set_ne (by omega)]; exact q2
    have hk1 : decide (o.kind = 1) = false := decide_eq_false (by omega)
    have fin := hstep _ _ hI4 hr' w1 w2 (recvE b o.m o.now)
    generalize rRecvI r o.m o.now = r' at *
    generalize rRecvE r o.m o.now = er at *
    simp only [RBox.row] at fin w1 w2 hI4
    simp only [Oper.row, Msg.row, List.cons_append, List.nil_append] at w2
    simp -implicitDefEqProofs (disch := omega) only [go_sem, Nat.reduceAdd, Nat.reduceMul, Nat.reduceSub, Nat.reduceBEq, Nat.reduceLeDiff, Nat.reduceLT, fn_transitlaw32_InboxPlays, e6_1, w6_1, e6_3, w6_3, e6_5, w6_5, e6_7, w6_7, c6_8, e6_10, w6_10, e6_12, w6_12, e6_14, w6_14, c6_15, e6_17, w6_17, e6_19, w6_19, c6_20, e6_22, w6_22, e6_24, w6_24, e6_26, w6_26, e6_28, w6_28, c6_29, e6_31, w6_31, e6_33, w6_33, e6_35, w6_35, c6_36, e6_38, w6_38, e6_40, w6_40, c6_41, c6_44, c6_45, c6_46, c6_47, c6_48, c6_49, e6_51, w6_51, c6_52, c6_53, c6_54, c6_55, c6_56, c6_57, e6_59, w6_59, c6_60, c6_61, c6_62, c6_63, c6_64, c6_65, q1', q2']
    first | refine callD (hrr) ?_ | refine callQD (hrr) ?_
    simp -implicitDefEqProofs (disch := omega) only [go_sem, Nat.reduceAdd, Nat.reduceMul, Nat.reduceSub, Nat.reduceBEq, Nat.reduceLeDiff, Nat.reduceLT, fn_transitlaw32_InboxPlays, e6_1, w6_1, e6_3, w6_3, e6_5, w6_5, e6_7, w6_7, c6_8, e6_10, w6_10, e6_12, w6_12, e6_14, w6_14, c6_15, e6_17, w6_17, e6_19, w6_19, c6_20, e6_22, w6_22, e6_24, w6_24, e6_26, w6_26, e6_28, w6_28, c6_29, e6_31, w6_31, e6_33, w6_33, e6_35, w6_35, c6_36, e6_38, w6_38, e6_40, w6_40, c6_41, c6_44, c6_45, c6_46, c6_47, c6_48, c6_49, e6_51, w6_51, c6_52, c6_53, c6_54, c6_55, c6_56, c6_57, e6_59, w6_59, c6_60, c6_61, c6_62, c6_63, c6_64, c6_65, q1', q2', w1, w2, hk1]
    refine fin _ ?_ _ rfl rfl rfl rfl (by rw [ee]; rfl) rfl rfl rfl
    simp -implicitDefEqProofs (disch := omega) only [go_sem, Nat.reduceAdd, Nat.reduceMul, Nat.reduceSub, Nat.reduceBEq, Nat.reduceLeDiff, Nat.reduceLT, fn_transitlaw32_InboxPlays, e6_1, w6_1, e6_3, w6_3, e6_5, w6_5, e6_7, w6_7, c6_8, e6_10, w6_10, e6_12, w6_12, e6_14, w6_14, c6_15, e6_17, w6_17, e6_19, w6_19, c6_20, e6_22, w6_22, e6_24, w6_24, e6_26, w6_26, e6_28, w6_28, c6_29, e6_31, w6_31, e6_33, w6_33, e6_35, w6_35, c6_36, e6_38, w6_38, e6_40, w6_40, c6_41, c6_44, c6_45, c6_46, c6_47, c6_48, c6_49, e6_51, w6_51, c6_52, c6_53, c6_54, c6_55, c6_56, c6_57, e6_59, w6_59, c6_60, c6_61, c6_62, c6_63, c6_64, c6_65]
    exact next_stay hi ⟨rfl, by rw [hB2, hsn, e1]; exact hI4, r', by rw [hB2, hsn, e1]; exact hr', w1⟩
  simp -implicitDefEqProofs (disch := omega) only [go_sem, Nat.reduceAdd, Nat.reduceMul, Nat.reduceSub, Nat.reduceBEq, Nat.reduceLeDiff, Nat.reduceLT, fn_transitlaw32_InboxPlays, e6_1, w6_1, e6_3, w6_3, e6_5, w6_5, e6_7, w6_7, c6_8, e6_10, w6_10, e6_12, w6_12, e6_14, w6_14, c6_15, e6_17, w6_17, e6_19, w6_19, c6_20, e6_22, w6_22, e6_24, w6_24, e6_26, w6_26, e6_28, w6_28, c6_29, e6_31, w6_31, e6_33, w6_33, e6_35, w6_35, c6_36, e6_38, w6_38, e6_40, w6_40, c6_41, c6_44, c6_45, c6_46, c6_47, c6_48, c6_49, e6_51, w6_51, c6_52, c6_53, c6_54, c6_55, c6_56, c6_57, e6_59, w6_59, c6_60, c6_61, c6_62, c6_63, c6_64, c6_65, hop']
  refine ifD (fun k1 => ?_) (fun k1 => ?_)
  · have hrc := Heartbeat_ok hI2 o.src o.now
    have hrr := ref_Heartbeat_ok r hrok o.src o.now
    have e1 : stepI b o = beatI b o.src o.now := by rw [stepI, if_neg k0, if_pos k1]
    obtain ⟨ee, hr'⟩ := hr.beat hok o.src o.now
    rw [hsn, e1] at hstep
    simp only [RBox.row] at hrr
    simp -implicitDefEqProofs (disch := omega) only [go_sem, Nat.reduceAdd, Nat.reduceMul, Nat.reduceSub, Nat.reduceBEq, Nat.reduceLeDiff, Nat.reduceLT, fn_transitlaw32_InboxPlays, e6_1, w6_1, e6_3, w6_3, e6_5, w6_5, e6_7, w6_7, c6_8, e6_10, w6_10, e6_12, w6_12, e6_14, w6_14, c6_15, e6_17, w6_17, e6_19, w6_19, c6_20, e6_22, w6_22, e6_24, w6_24, e6_26, w6_26, e6_28, w6_28, c6_29, e6_31, w6_31, e6_33, w6_33, e6_35, w6_35, c6_36, e6_38, w6_38, e6_40, w6_40, c6_41, c6_44, c6_45, c6_46, c6_47, c6_48, c6_49, e6_51, w6_51, c6_52, c6_53, c6_54, c6_55, c6_56, c6_57, e6_59, w6_59, c6_60, c6_61, c6_62, c6_63, c6_64, c6_65, hop']
    refine callA hrc ?_
    rintro v N2 ⟨rfl, hf2, _, hI3⟩
    have q1 : N2[2]? = some (.box r.row) := by rw [hf2.2 2 (by omega) (by omega) (by omega)]; exact hat2
    have q2 : N2[N.length]? = some (.box o.row) := by rw [hf2.2 N.length (by omega) (by omega) (by omega)]; exact hop
    have q1' := q1
    have q2' := q2
    simp only [Oper.row, Msg.row, List.cons_append, List.nil_append] at q2'
    simp only [RBox.row] at q1'
    have hl2 := (List.getElem?_eq_some_iff.1 q1).1
    have hI4 := hI3.put q1 (by decide) (rBeatI r o.src o.now).row rfl
    have w1 : (N2.set 2 (.box (rBeatI r o.src o.now).row))[2]? = some (.box (rBeatI r o.src o.now).row) := by rw [List.getElem?_set_self hl2]
    have w2 : (N2.set 2 (.box (rBeatI r o.src o.now).row))[N.length]? = some (.box o.row) := by rw [List.getElem?_set_ne (by omega)]; exact q2
    have fin := hstep _ _ hI4 hr' w1 w2 (beatE b o.src o.now)
    generalize rBeatI r o.src o.now = r' at *
    generalize rBeatE r o.src o.now = er at *
    simp only [RBox.row] at fin w1 hI4
    simp -implicitDefEqProofs (disch := omega) only [go_sem, Nat.reduceAdd, Nat.reduceMul, Nat.reduceSub, Nat.reduceBEq, Nat.reduceLeDiff, Nat.reduceLT, fn_transitlaw32_InboxPlays, e6_1, w6_1, e6_3, w6_3, e6_5, w6_5, e6_7, w6_7, c6_8, e6_10, w6_10, e6_12, w6_12, e6_14, w6_14, c6_15, e6_17, w6_17, e6_19, w6_19, c6_20, e6_22, w6_22, e6_24, w6_24, e6_26, w6_26, e6_28, w6_28, c6_29, e6_31, w6_31, e6_33, w6_33, e6_35, w6_35, c6_36, e6_38, w6_38, e6_40, w6_40, c6_41, c6_44, c6_45, c6_46, c6_47, c6_48, c6_49, e6_51, w6_51, c6_52, c6_53, c6_54, c6_55, c6_56, c6_57, e6_59, w6_59, c6_60, c6_61, c6_62, c6_63, c6_64, c6_65, q1', q2']
    first | refine callD (hrr) ?_ | refine callQD (hrr) ?_
    simp -implicitDefEqProofs (disch := omega) only [go_sem, Nat.reduceAdd, Nat.reduceMul, Nat.reduceSub, Nat.reduceBEq, Nat.reduceLeDiff, Nat.reduceLT, fn_transitlaw32_InboxPlays, e6_1, w6_1, e6_3, w6_3, e6_5, w6_5, e6_7, w6_7, c6_8, e6_10, w6_10, e6_12, w6_12, e6_14, w6_14, c6_15, e6_17, w6_17, e6_19, w6_19, c6_20, e6_22, w6_22, e6_24, w6_24, e6_26, w6_26, e6_28, w6_28, c6_29, e6_31, w6_31, e6_33, w6_33, e6_35, w6_35, c6_36, e6_38, w6_38, e6_40, w6_40, c6_41, c6_44, c6_45, c6_46, c6_47, c6_48, c6_49, e6_51, w6_51, c6_52, c6_53, c6_54, c6_55, c6_56, c6_57, e6_59, w6_59, c6_60, c6_61, c6_62, c6_63, c6_64, c6_65, q1', q2']
    refine fin _ ?_ _ rfl rfl rfl rfl (by rw [ee]; rfl) rfl rfl rfl
    simp -implicitDefEqProofs (disch := omega) only [go_sem, Nat.reduceAdd, Nat.reduceMul, Nat.reduceSub, Nat.reduceBEq, Nat.reduceLeDiff, Nat.reduceLT, fn_transitlaw32_InboxPlays, e6_1, w6_1, e6_3, w6_3, e6_5, w6_5, e6_7, w6_7, c6_8, e6_10, w6_10, e6_12, w6_12, e6_14, w6_14, c6_15, e6_17, w6_17, e6_19, w6_19, c6_20, e6_22, w6_22, e6_24, w6_24, e6_26, w6_26, e6_28, w6_28, c6_29, e6_31, w6_31, e6_33, w6_33, e6_35, w6_35, c6_36, e6_38, w6_38, e6_40, w6_40, c6_41, c6_44, c6_45, c6_46, c6_47, c6_48, c6_49, e6_51, w6_51, c6_52, c6_53, c6_54, c6_55, c6_56, c6_57, e6_59, w6_59, c6_60, c6_61, c6_62, c6_63, c6_64, c6_65]
    exact next_stay hi ⟨rfl, by rw [hB2, hsn, e1]; exact hI4, r', by rw [hB2, hsn, e1]; exact hr', w1⟩
  · have e1 : stepI b o = b := by rw [stepI, if_neg k0, if_neg k1]
    rw [hsn, e1] at hstep
    simp -implicitDefEqProofs (disch := omega) only [go_sem, Nat.reduceAdd, Nat.reduceMul, Nat.reduceSub, Nat.reduceBEq, Nat.reduceLeDiff, Nat.reduceLT, fn_transitlaw32_InboxPlays, e6_1, w6_1, e6_3, w6_3, e6_5, w6_5, e6_7, w6_7, c6_8, e6_10, w6_10, e6_12, w6_12, e6_14, w6_14, c6_15, e6_17, w6_17, e6_19, w6_19, c6_20, e6_22, w6_22, e6_24, w6_24, e6_26, w6_26, e6_28, w6_28, c6_29, e6_31, w6_31, e6_33, w6_33, e6_35, w6_35, c6_36, e6_38, w6_38, e6_40, w6_40, c6_41, c6_44, c6_45, c6_46, c6_47, c6_48, c6_49, e6_51, w6_51, c6_52, c6_53, c6_54, c6_55, c6_56, c6_57, e6_59, w6_59, c6_60, c6_61, c6_62, c6_63, c6_64, c6_65, hop']
    have fin := hstep _ _ hI2 hr hat2 hop 0
    refine fin _ ?_ _ rfl rfl rfl rfl rfl rfl rfl rfl
    simp -implicitDefEqProofs (disch := omega) only [go_sem, Nat.reduceAdd, Nat.reduceMul, Nat.reduceSub, Nat.reduceBEq, Nat.reduceLeDiff, Nat.reduceLT, fn_transitlaw32_InboxPlays, e6_1, w6_1, e6_3, w6_3, e6_5, w6_5, e6_7, w6_7, c6_8, e6_10, w6_10, e6_12, w6_12, e6_14, w6_14, c6_15, e6_17, w6_17, e6_19, w6_19, c6_20, e6_22, w6_22, e6_24, w6_24, e6_26, w6_26, e6_28, w6_28, c6_29, e6_31, w6_31, e6_33, w6_33, e6_35, w6_35, c6_36, e6_38, w6_38, e6_40, w6_40, c6_41, c6_44, c6_45, c6_46, c6_47, c6_48, c6_49, e6_51, w6_51, c6_52, c6_53, c6_54, c6_55, c6_56, c6_57, e6_59, w6_59, c6_60, c6_61, c6_62, c6_63, c6_64, c6_65]
    exact next_stay hi ⟨rfl, by rw [hB2, hsn, e1]; exact hI2, r, by rw [hB2, hsn, e1]; exact hr, hat2⟩

end Go.Vm.C

