/- Contracts: operations, the chapter's example. -/
import Derived.Test.YtojpmklnmaomlaaT10

namespace Go.Vm.C
open Go.Vm
set_option maxHeartbeats 1000000
set_option maxRecDepth 10000
set_option linter.unusedSimpArgs false
set_option linter.unusedVariables false

/-! ### Operations -/
structure Oper where
  day : Int
  rides : List Ride
  cap : Cap
  refund : Bool
  amount : Int
def Oper.row (o : Oper) : List V := [.int .i64 o.day, .slice (o.rides.map Ride.row) o.cap, .bool o.refund, .int .i64 o.amount]
def Oper.wf (o : Oper) : Prop := I64 o.day ∧ (∀ r ∈ o.rides, r.wf) ∧ o.rides.length ≤ maxLen ∧ I64 o.amount
/-- What an operation does. -/
def doRes (f : Fares) (L : List (Int × Int)) (o : Oper) : Int × Int × List (Int × Int) :=
  if o.refund = true then (0, (refundRes L o.day o.amount).1, (refundRes L o.day o.amount).2) else chargeRes f L o.day o.rides
theorem Acc.popped {M M' : Mem} {f : Fares} {id mid : Nat} {L L' : List (Int × Int)} {b : Blk} {es : List (V × V)} (h : Acc M f id mid L) (k : Acc M' f id mid L') (e : M' = (M ++ [b]).set mid (.map es)) :
    M'.take M.length = M.set mid (.map (dayMap L')) ∧ decide (M.length ≤ M'.length) = true ∧ memUnder M.length (M.set mid (.map (dayMap L'))) = true := by
  have hlt : mid < M.length := (List.getElem?_eq_some_iff.1 h.ents).1
  have h1 := k.ents
  rw [e, List.getElem?_set_self (by simp; omega)] at h1
  simp only [Option.some.injEq, Blk.map.injEq] at h1
  subst h1
  have h2 : (M ++ [b]).set mid (.map (dayMap L')) = M.set mid (.map (dayMap L')) ++ [b] := by rw [List.set_append, if_pos hlt]
  have h3 := (h.set L').own
  rw [List.length_set] at h3
  refine ⟨?_, ?_, h3⟩
  · rw [e, h2, List.take_append_of_le_length (by simp), List.take_of_length_le (by simp)]
  · rw [e]; simp
theorem do_ok {M : Mem} {f : Fares} {id mid : Nat} {L : List (Int × Int)} (hf : f.wf) (hc : (checkRes f).2 = 0) (h : Acc M f id mid L) (o : Oper) (ho : o.wf) (hs : 0 ≤ spentOn L o.day ∧ spentOn L o.day ≤ 1000000000) :
    ACalls PR i_transitlaw37_do [.ptr id 0, .agg o.row] M (fun v M' => v = pairV ((doRes f L o).1, (doRes f L o).2.1) ∧ M' = M.set mid (.map (dayMap (doRes f L o).2.2))) := by
  have hO : Own M := h.own
  have h1 : id < M.length := (List.getElem?_eq_some_iff.1 h.box).1
  have h2 : mid < M.length := (List.getElem?_eq_some_iff.1 h.ents).1
  have hA : Acc (M ++ [.box o.row]) f id mid L := ⟨hO.app (by simp [memUnder, Blk.under, underL, V.under, Oper.row]), app_get h.box _, app_get h.ents _, h.ne⟩
  refine acalls_pop fn_transitlaw37_do_ok (by simp [fn_transitlaw37_do]) ?_
  simp -implicitDefEqProofs (disch := omega) only [go_sem, Nat.reduceAdd, Nat.reduceMul, Nat.reduceSub, Nat.reduceBEq, Nat.reduceLeDiff, Nat.reduceLT, fn_transitlaw37_do, e10_1, w10_1, e10_3, w10_3, c10_4, e10_6, w10_6, e10_8, w10_8, c10_9, c10_10, c10_11, Oper.row, get_at0]
  refine ifB (fun h3 => ?_) (fun h3 => ?_)
  · have e : doRes f L o = (0, (refundRes L o.day o.amount).1, (refundRes L o.day o.amount).2) := by rw [doRes, if_pos h3]
    rw [e]
    simp -implicitDefEqProofs (disch := omega) only [go_sem, Nat.reduceAdd, Nat.reduceMul, Nat.reduceSub, Nat.reduceBEq, Nat.reduceLeDiff, Nat.reduceLT, fn_transitlaw37_do, e10_1, w10_1, e10_3, w10_3, c10_4, e10_6, w10_6, e10_8, w10_8, c10_9, c10_10, c10_11, Oper.row, get_at0]
    refine callA (Account_Refund_ok hA o.day o.amount hs) ?_
    rintro v N ⟨rfl, hN, hNl, es, hNe⟩
    obtain ⟨p1, p2, p3⟩ := h.popped hN hNe
    simp -implicitDefEqProofs (disch := omega) only [go_sem, Nat.reduceAdd, Nat.reduceMul, Nat.reduceSub, Nat.reduceBEq, Nat.reduceLeDiff, Nat.reduceLT, fn_transitlaw37_do, e10_1, w10_1, e10_3, w10_3, c10_4, e10_6, w10_6, e10_8, w10_8, c10_9, c10_10, c10_11, pairV, p1, p2, p3]
  · have e : doRes f L o = chargeRes f L o.day o.rides := by rw [doRes, if_neg (by simp [h3])]
    rw [e]
    simp -implicitDefEqProofs (disch := omega) only [go_sem, Nat.reduceAdd, Nat.reduceMul, Nat.reduceSub, Nat.reduceBEq, Nat.reduceLeDiff, Nat.reduceLT, fn_transitlaw37_do, e10_1, w10_1, e10_3, w10_3, c10_4, e10_6, w10_6, e10_8, w10_8, c10_9, c10_10, c10_11, Oper.row, get_at0]
    refine callA (Account_Charge_ok hf hc hA o.day o.rides o.cap ho.2.1 hs) ?_
    rintro v N ⟨rfl, hN, hNl, es, hNe⟩
    obtain ⟨p1, p2, p3⟩ := h.popped hN hNe
    simp -implicitDefEqProofs (disch := omega) only [go_sem, Nat.reduceAdd, Nat.reduceMul, Nat.reduceSub, Nat.reduceBEq, Nat.reduceLeDiff, Nat.reduceLT, fn_transitlaw37_do, e10_1, w10_1, e10_3, w10_3, c10_4, e10_6, w10_6, e10_8, w10_8, c10_9, c10_10, c10_11, pairV, p1, p2, p3]
def largeB (f : Fares) (l : List Oper) : Bool := !(decide (f.products.length ≤ 20 ∧ l.length ≤ 40) && l.all fun o => decide (o.rides.length ≤ 10))
theorem large37_ok (f : Fares) (l : List Oper) (c : Cap) (hl : ∀ o ∈ l, o.wf) : PCalls PR i_transitlaw37_large [.agg f.row, .slice (l.map Oper.row) c] (fun v => v = .bool (largeB f l)) := by
  refine acalls_pop fn_transitlaw37_large_ok (by simp [fn_transitlaw37_large]) ?_
  simp -implicitDefEqProofs (disch := omega) only [go_sem, Nat.reduceAdd, Nat.reduceMul, Nat.reduceSub, Nat.reduceBEq, Nat.reduceLeDiff, Nat.reduceLT, fn_transitlaw37_large, e7_1, w7_1, e7_3, w7_3, c7_4, e7_6, w7_6, e7_8, w7_8, e7_10, w7_10, e7_12, w7_12, c7_13, e7_15, w7_15, c7_16, e7_18, w7_18, c7_19, c7_20, c7_21, c7_22, c7_23, e7_25, w7_25, c7_26, c7_27, c7_28, c7_29, Fares.row]
  refine ifD (fun h1 => ?_) (fun h1 => ?_)
  · have e : largeB f l = true := by rw [largeB, decide_eq_false (by omega)]; rfl
    simp -implicitDefEqProofs (disch := omega) only [go_sem, Nat.reduceAdd, Nat.reduceMul, Nat.reduceSub, Nat.reduceBEq, Nat.reduceLeDiff, Nat.reduceLT, fn_transitlaw37_large, e7_1, w7_1, e7_3, w7_3, c7_4, e7_6, w7_6, e7_8, w7_8, e7_10, w7_10, e7_12, w7_12, c7_13, e7_15, w7_15, c7_16, e7_18, w7_18, c7_19, c7_20, c7_21, c7_22, c7_23, e7_25, w7_25, c7_26, c7_27, c7_28, c7_29, e]
  simp -implicitDefEqProofs (disch := omega) only [go_sem, Nat.reduceAdd, Nat.reduceMul, Nat.reduceSub, Nat.reduceBEq, Nat.reduceLeDiff, Nat.reduceLT, fn_transitlaw37_large, e7_1, w7_1, e7_3, w7_3, c7_4, e7_6, w7_6, e7_8, w7_8, e7_10, w7_10, e7_12, w7_12, c7_13, e7_15, w7_15, c7_16, e7_18, w7_18, c7_19, c7_20, c7_21, c7_22, c7_23, e7_25, w7_25, c7_26, c7_27, c7_28, c7_29]
  refine ifD (fun h2 => ?_) (fun h2 => ?_)
  · have e : largeB f l = true := by rw [largeB, decide_eq_false (by omega)]; rfl
    simp -implicitDefEqProofs (disch := omega) only [go_sem, Nat.reduceAdd, Nat.reduceMul, Nat.reduceSub, Nat.reduceBEq, Nat.reduceLeDiff, Nat.reduceLT, fn_transitlaw37_large, e7_1, w7_1, e7_3, w7_3, c7_4, e7_6, w7_6, e7_8, w7_8, e7_10, w7_10, e7_12, w7_12, c7_13, e7_15, w7_15, c7_16, e7_18, w7_18, c7_19, c7_20, c7_21, c7_22, c7_23, e7_25, w7_25, c7_26, c7_27, c7_28, c7_29, e]
  simp -implicitDefEqProofs (disch := omega) only [go_sem, Nat.reduceAdd, Nat.reduceMul, Nat.reduceSub, Nat.reduceBEq, Nat.reduceLeDiff, Nat.reduceLT, fn_transitlaw37_large, e7_1, w7_1, e7_3, w7_3, c7_4, e7_6, w7_6, e7_8, w7_8, e7_10, w7_10, e7_12, w7_12, c7_13, e7_15, w7_15, c7_16, e7_18, w7_18, c7_19, c7_20, c7_21, c7_22, c7_23, e7_25, w7_25, c7_26, c7_27, c7_28, c7_29]
  refine wpC_forL l (fun i vs M => (l.take i).all (fun o => decide (o.rides.length ≤ 10)) = true ∧ vs = [.slice (l.map Oper.row) c, .int .i64 i] ∧ M = [.box f.row]) ⟨by simp, rfl, by simp [Fares.row]⟩ ?_ ?_
  · rintro i o vs M ho hi hd ⟨hall, rfl, rfl⟩
    have hw := hl o (List.mem_of_getElem? ho)
    simp -implicitDefEqProofs (disch := omega) only [go_sem, Nat.reduceAdd, Nat.reduceMul, Nat.reduceSub, Nat.reduceBEq, Nat.reduceLeDiff, Nat.reduceLT, fn_transitlaw37_large, e7_1, w7_1, e7_3, w7_3, c7_4, e7_6, w7_6, e7_8, w7_8, e7_10, w7_10, e7_12, w7_12, c7_13, e7_15, w7_15, c7_16, e7_18, w7_18, c7_19, c7_20, c7_21, c7_22, c7_23, e7_25, w7_25, c7_26, c7_27, c7_28, c7_29, hd, ho, Oper.row]
    refine ifD (fun h5 => ?_) (fun h5 => ?_)
    · have e : largeB f l = true := by
        have : l.all (fun o => decide (o.rides.length ≤ 10)) = false := by
          rw [List.all_eq_false]; exact ⟨o, List.mem_of_getElem? ho, by simp; omega⟩
        rw [largeB, this, Bool.and_false]; rfl
      simp -implicitDefEqProofs (disch := omega) only [go_sem, Nat.reduceAdd, Nat.reduceMul, Nat.reduceSub, Nat.reduceBEq, Nat.reduceLeDiff, Nat.reduceLT, fn_transitlaw37_large, e7_1, w7_1, e7_3, w7_3, c7_4, e7_6, w7_6, e7_8, w7_8, e7_10, w7_10, e7_12, w7_12, c7_13, e7_15, w7_15, c7_16, e7_18, w7_18, c7_19, c7_20, c7_21, c7_22, c7_23, e7_25, w7_25, c7_26, c7_27, c7_28, c7_29, e]
    simp -implicitDefEqProofs (disch := omega) only [go_sem, Nat.reduceAdd, Nat.reduceMul, Nat.reduceSub, Nat.reduceBEq, Nat.reduceLeDiff, Nat.reduceLT, fn_transitlaw37_large, e7_1, w7_1, e7_3, w7_3, c7_4, e7_6, w7_6, e7_8, w7_8, e7_10, w7_10, e7_12, w7_12, c7_13, e7_15, w7_15, c7_16, e7_18, w7_18, c7_19, c7_20, c7_21, c7_22, c7_23, e7_25, w7_25, c7_26, c7_27, c7_28, c7_29]
    refine next_stay hi ⟨?_, ?_, rfl⟩
    · rw [List.take_add_one, ho, List.all_append, hall]
      simp; omega
    · simp only [vals, sget]; rfl
  · rintro vs M ⟨hall, rfl, rfl⟩
    rw [List.take_length] at hall
    have e : largeB f l = false := by rw [largeB, hall, decide_eq_true (by omega)]; rfl
    simp -implicitDefEqProofs (disch := omega) only [go_sem, Nat.reduceAdd, Nat.reduceMul, Nat.reduceSub, Nat.reduceBEq, Nat.reduceLeDiff, Nat.reduceLT, fn_transitlaw37_large, e7_1, w7_1, e7_3, w7_3, c7_4, e7_6, w7_6, e7_8, w7_8, e7_10, w7_10, e7_12, w7_12, c7_13, e7_15, w7_15, c7_16, e7_18, w7_18, c7_19, c7_20, c7_21, c7_22, c7_23, e7_25, w7_25, c7_26, c7_27, c7_28, c7_29, dec_irrefl, e]
def oneF : Fares := ⟨[⟨[97], 200, 1, 16, 0, 255⟩], .full, 0, 0, 500⟩
theorem one_ok : PCalls PR i_transitlaw37_one [] (fun v => v = .agg oneF.row) := by
  refine acalls_pop fn_transitlaw37_one_ok (by simp [fn_transitlaw37_one]) ?_
  simp -implicitDefEqProofs (disch := omega) only [go_sem, Nat.reduceAdd, Nat.reduceMul, Nat.reduceSub, Nat.reduceBEq, Nat.reduceLeDiff, Nat.reduceLT, fn_transitlaw37_one, e25_1, w25_1, e25_3, w25_3, c25_4, c25_5, oneF, Fares.row, Product.row, List.map_cons, List.map_nil]

/-! ### The chapter's example -/
theorem fareRes_tag (f : Fares) (t : Cap) (l : List Ride) : fareRes ⟨f.products, t, f.discount, f.within, f.limit⟩ l = fareRes f l := by cases f; kernel_rfl
theorem checkRes_tag (f : Fares) (t : Cap) : checkRes ⟨f.products, t, f.discount, f.within, f.limit⟩ = checkRes f := by cases f; kernel_rfl
theorem chargeRes_tag (f : Fares) (t : Cap) (L : List (Int × Int)) (d : Int) (l : List Ride) : chargeRes ⟨f.products, t, f.discount, f.within, f.limit⟩ L d l = chargeRes f L d l := by
  simp only [chargeRes, chargeAmt, fareRes_tag]
theorem leftRes_tag (f : Fares) (t : Cap) (L : List (Int × Int)) (d : Int) : leftRes ⟨f.products, t, f.discount, f.within, f.limit⟩ L d = leftRes f L d := rfl
theorem doRes_tag (f : Fares) (t : Cap) (L : List (Int × Int)) (o : Oper) : doRes ⟨f.products, t, f.discount, f.within, f.limit⟩ L o = doRes f L o := by
  simp only [doRes, chargeRes_tag]
/-- A memory that begins with M. -/
structure From (M N : Mem) : Prop where
  take : N.take M.length = M
  le : M.length ≤ N.length
theorem From.app (M L : Mem) : From M (M ++ L) := ⟨app_take M L, by simp⟩
theorem From.set {M N : Mem} (h : From M N) {i : Nat} (hi : M.length ≤ i) (x : Blk) : From M (N.set i x) := by
  refine ⟨?_, by rw [List.length_set]; exact h.le⟩
  rw [List.take_set_of_le hi]
  exact h.take
def exR : List Ride := [⟨0, 0, 1, 1⟩]
theorem one_valid : (checkRes oneF).2 = 0 := by decide +kernel
theorem ex1 : chargeRes oneF [] 9450 exR = (200, 0, [(9450, 200)]) := by decide +kernel
theorem ex2 : chargeRes oneF [(9450, 200)] 9450 exR = (200, 0, [(9450, 400)]) := by decide +kernel
theorem ex3 : chargeRes oneF [(9450, 400)] 9450 exR = (100, 0, [(9450, 500)]) := by decide +kernel
theorem ex4 : leftRes oneF [(9450, 500)] 9450 = (0, true) := by decide +kernel
theorem ex5 : refundRes [(9450, 500)] 9450 150 = (0, [(9450, 350)]) := by decide +kernel
theorem ex6 : chargeRes oneF [(9450, 350)] 9450 exR = (150, 0, [(9450, 500)]) := by decide +kernel
theorem ex7 : refundRes [(9450, 500)] 1 5 = (7, [(9450, 500)]) := by decide +kernel
theorem ex8 : refundRes [(9450, 500)] 9450 0 = (2, [(9450, 500)]) := by decide +kernel
theorem one_wf : oneF.wf := by
  have hm : maxLen = 9223372036854775807 := by rfl
  refine ⟨?_, ?_, ?_, ?_, ?_⟩ <;> simp [oneF, Product.wf, I64, hm]
theorem exR_wf : ∀ x ∈ exR, x.wf := by
  intro x hx
  simp only [exR, List.mem_cons, List.not_mem_nil, or_false] at hx
  subst hx; simp [Ride.wf, I64]
theorem tag_wf {f : Fares} (h : f.wf) (t : Cap) : Fares.wf ⟨f.products, t, f.discount, f.within, f.limit⟩ := h
theorem exampleHolds_ok {M : Mem} (hU : memUnder M.length M = true) : ACalls PR i_transitlaw37_exampleHolds [] M (fun v M' => v = .bool true ∧ M' = M) := by
  refine acalls_pop (fn := fn_transitlaw37_exampleHolds) fn_transitlaw37_exampleHolds_ok (Nat.zero_le _) ?_
  unfold wpPop
  simp only [fn_transitlaw37_exampleHolds]
  rw [c8_41, wpC_seq, e8_1, w8_1, seqK_normal, c8_40, wpC_seq, e8_3, w8_3]
  first | refine callD (one_ok) ?_ | refine callQD (one_ok) ?_
  refine callA (account_New_ok oneF one_wf (.inr (.inr rfl)) hU) ?_
  rintro v N ⟨⟨L, rfl⟩, _, _, hgood⟩
  obtain ⟨id, mid, t, rfl, hid, hmid, hA⟩ := hgood one_valid
  have hT := From.app M L
  generalize M ++ L = N at *
  have hwf := tag_wf one_wf t
  have hck : (checkRes ⟨oneF.products, t, oneF.discount, oneF.within, oneF.limit⟩).2 = 0 := by rw [checkRes_tag]; exact one_valid
  have hch : ∀ {N : Mem} {L : List (Int × Int)}, Acc N ⟨oneF.products, t, oneF.discount, oneF.within, oneF.limit⟩ id mid L → (0 ≤ spentOn L 9450 ∧ spentOn L 9450 ≤ 1000000000) → From M N →
      ACalls PR i_account_Account_Charge [.ptr id 0, .int .i64 9450, .slice (exR.map Ride.row) .full] N (fun v N' => v = pairV ((chargeRes oneF L 9450 exR).1, (chargeRes oneF L 9450 exR).2.1) ∧ Acc N' ⟨oneF.products, t, oneF.discount, oneF.within, oneF.limit⟩ id mid (chargeRes oneF L 9450 exR).2.2 ∧ From M N') := by
    intro N L hA hs hT
    refine ACalls.mono (Account_Charge_ok hwf hck hA 9450 exR .full exR_wf hs) ?_
    rintro v N' ⟨rfl, hA', _, es, rfl⟩
    rw [chargeRes_tag] at hA' ⊢
    exact ⟨rfl, hA', hT.set hmid _⟩
  have hrf : ∀ {N : Mem} {L : List (Int × Int)} (d n : Int), Acc N ⟨oneF.products, t, oneF.discount, oneF.within, oneF.limit⟩ id mid L → (0 ≤ spentOn L d ∧ spentOn L d ≤ 1000000000) → From M N →
      ACalls PR i_account_Account_Refund [.ptr id 0, .int .i64 d, .int .i64 n] N (fun v N' => v = .int .i64 (refundRes L d n).1 ∧ Acc N' ⟨oneF.products, t, oneF.discount, oneF.within, oneF.limit⟩ id mid (refundRes L d n).2 ∧ From M N') := by
    intro N L d n hA hs hT
    refine ACalls.mono (Account_Refund_ok hA d n hs) ?_
    rintro v N' ⟨rfl, hA', _, es, rfl⟩
    exact ⟨rfl, hA', hT.set hmid _⟩
  simp -implicitDefEqProofs (disch := omega) only [go_sem, Nat.reduceAdd, Nat.reduceMul, Nat.reduceSub, Nat.reduceBEq, Nat.reduceLeDiff, Nat.reduceLT, c8_39, e8_8, w8_8, eq_ptr_nil, c8_38, e8_10, w8_10, c8_37, e8_12, w8_12]
  refine callA (hch hA (by decide) hT) ?_
  rw [ex1]
  rintro v N ⟨rfl, hA, hT⟩
  simp -implicitDefEqProofs (disch := omega) only [go_sem, Nat.reduceAdd, Nat.reduceMul, Nat.reduceSub, Nat.reduceBEq, Nat.reduceLeDiff, Nat.reduceLT, pairV, c8_36, e8_14, w8_14]
  refine callA (hch hA (by decide) hT) ?_
  rw [ex2]
  rintro v N ⟨rfl, hA, hT⟩
  simp -implicitDefEqProofs (disch := omega) only [go_sem, Nat.reduceAdd, Nat.reduceMul, Nat.reduceSub, Nat.reduceBEq, Nat.reduceLeDiff, Nat.reduceLT, pairV, c8_35, e8_16, w8_16]
  refine callA (hch hA (by decide) hT) ?_
  rw [ex3]
  rintro v N ⟨rfl, hA, hT⟩
  simp -implicitDefEqProofs (disch := omega) only [go_sem, Nat.reduceAdd, Nat.reduceMul, Nat.reduceSub, Nat.reduceBEq, Nat.reduceLeDiff, Nat.reduceLT, pairV, c8_34, e8_18, w8_18]
  refine callA (Account_Left_ok hA 9450 (show 0 ≤ oneF.limit ∧ oneF.limit ≤ 1000000 by decide) (by decide)) ?_
  rw [leftRes_tag, ex4]
  rintro v N ⟨rfl, rfl⟩
  simp -implicitDefEqProofs (disch := omega) only [go_sem, Nat.reduceAdd, Nat.reduceMul, Nat.reduceSub, Nat.reduceBEq, Nat.reduceLeDiff, Nat.reduceLT, prV, c8_33, e8_20, w8_20]
  refine callA (hrf 9450 150 hA (by decide) hT) ?_
  rw [ex5]
  rintro v N ⟨rfl, hA, hT⟩
  simp -implicitDefEqProofs (disch := omega) only [go_sem, Nat.reduceAdd, Nat.reduceMul, Nat.reduceSub, Nat.reduceBEq, Nat.reduceLeDiff, Nat.reduceLT, c8_32, e8_22, w8_22]
  refine callA (hch hA (by decide) hT) ?_
  rw [ex6]
  rintro v N ⟨rfl, hA, hT⟩
  simp -implicitDefEqProofs (disch := omega) only [go_sem, Nat.reduceAdd, Nat.reduceMul, Nat.reduceSub, Nat.reduceBEq, Nat.reduceLeDiff, Nat.reduceLT, pairV, c8_31, e8_24, w8_24, c8_30, e8_26, w8_26]
  refine callA (Account_Charge_nil 0 [] .nil hA.own) ?_
  rintro v N ⟨rfl, rfl⟩
  simp -implicitDefEqProofs (disch := omega) only [go_sem, Nat.reduceAdd, Nat.reduceMul, Nat.reduceSub, Nat.reduceBEq, Nat.reduceLeDiff, Nat.reduceLT, pairV, c8_29, e8_28, w8_28]
  refine callA (hrf 1 5 hA (by decide) hT) ?_
  rw [ex7]
  rintro v N ⟨rfl, hA, hT⟩
  simp -implicitDefEqProofs (disch := omega) only [go_sem, Nat.reduceAdd, Nat.reduceMul, Nat.reduceSub, Nat.reduceBEq, Nat.reduceLeDiff, Nat.reduceLT]
  refine callA (hrf 9450 0 hA (by decide) hT) ?_
  rw [ex8]
  rintro v N ⟨rfl, hA, hT⟩
  simp -implicitDefEqProofs (disch := omega) only [go_sem, Nat.reduceAdd, Nat.reduceMul, Nat.reduceSub, Nat.reduceBEq, Nat.reduceLeDiff, Nat.reduceLT]
  refine callA (Account_Total_ok hA (by decide)) ?_
  rintro v N ⟨rfl, rfl⟩
  have hsum : sumL [((9450 : Int), (500 : Int))] = 500 := by decide
  rw [hsum]
  have p1 := hT.take
  have p2 : decide (M.length ≤ N.length) = true := decide_eq_true hT.le
  simp -implicitDefEqProofs (disch := omega) only [go_sem, Nat.reduceAdd, Nat.reduceMul, Nat.reduceSub, Nat.reduceBEq, Nat.reduceLeDiff, Nat.reduceLT, p1, p2, hU]

end Go.Vm.C

