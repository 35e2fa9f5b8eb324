/- Contracts: options and the check of fares. -/
import Derived.Test.YtcgejpmgaaghkaaT3

namespace Go.Vm.C
open Go.Vm
set_option maxHeartbeats 1000000
set_option maxRecDepth 10000
set_option linter.unusedSimpArgs false
set_option linter.unusedVariables false

/-! ### Fares -/
structure Fares where
  products : List Product
  tag : Cap
  discount : Int
  within : Int
  limit : Int

def Fares.row (f : Fares) : List V := [.slice (f.products.map Product.row) f.tag, .int .i64 f.discount, .int .i64 f.within, .int .i64 f.limit]
def Fares.wf (f : Fares) : Prop := (∀ p ∈ f.products, p.wf) ∧ f.products.length ≤ maxLen ∧ I64 f.discount ∧ I64 f.within ∧ I64 f.limit

/-- The indices below i at which a test holds. -/
def idxs (t : Nat → Bool) (i : Nat) : List Nat := (List.range i).filter t
theorem idxs_succ (t : Nat → Bool) (i : Nat) : idxs t (i + 1) = idxs t i ++ if t i then [i] else [] := by
  simp only [idxs, List.range_succ, List.filter_append]
  cases h : t i <;> simp [h]
theorem idxs_le (t : Nat → Bool) (i : Nat) : (idxs t i).length ≤ i := by
  have := List.length_filter_le t (List.range i)
  simpa [idxs] using this
theorem idxs_mem {t : Nat → Bool} {i j : Nat} : j ∈ idxs t i ↔ j < i ∧ t j = true := by simp [idxs]

/-- Test an element. -/
def at? {α : Type} (t : α → Bool) (l : List α) (i : Nat) : Bool := ((l[i]?).map t).getD false
theorem at?_eq {α : Type} {t : α → Bool} {l : List α} {i : Nat} {x : α} (h : l[i]? = some x) : at? t l i = t x := by simp [at?, h]

def options (f : Fares) (l : List Ride) : List Nat := idxs (at? (fun p => covers p l) f.products) f.products.length

theorem product_Options_ok (f : Fares) (l : List Ride) (c : Cap) (hf : f.wf) (hl : ∀ r ∈ l, r.wf) (hlen : l.length ≤ maxLen) (hsm : f.products.length ≤ 40) : PCalls PR i_product_Options [.agg f.row, .slice (l.map Ride.row) c] (fun v => v = .slice ((options f l).map intRow) .unk) := by
  refine acalls_pop fn_product_Options_ok (by simp [fn_product_Options]) ?_
  simp -implicitDefEqProofs (disch := omega) only [go_sem, Nat.reduceAdd, Nat.reduceMul, Nat.reduceSub, Nat.reduceBEq, Nat.reduceLeDiff, Nat.reduceLT, fn_product_Options, e16_1, w16_1, e16_3, w16_3, e16_5, w16_5, e16_7, w16_7, c16_8, e16_10, w16_10, e16_12, w16_12, e16_14, w16_14, c16_15, c16_16, e16_18, w16_18, c16_19, c16_20, c16_21, c16_22, c16_23, c16_24, e16_26, w16_26, c16_27, c16_28, c16_29, c16_30, Fares.row]
  refine wpC_forL f.products (fun i vs M => ∃ ver, vs = [.slice (l.map Ride.row) c, .mslice 1 ver 0 (idxs (at? (fun p => covers p l) f.products) i).length, .slice (f.products.map Product.row) f.tag, .int .i64 f.products.length, .int .i64 i] ∧
    M = [.box f.row, .arr 1 ((idxs (at? (fun p => covers p l) f.products) i).map intRow) ver 0]) ⟨0, rfl, rfl⟩ ?_ ?_
  · rintro i p vs M hp hi hd ⟨ver, rfl, rfl⟩
    have hle := idxs_le (at? (fun p => covers p l) f.products) i
    simp -implicitDefEqProofs (disch := omega) only [go_sem, Nat.reduceAdd, Nat.reduceMul, Nat.reduceSub, Nat.reduceBEq, Nat.reduceLeDiff, Nat.reduceLT, fn_product_Options, e16_1, w16_1, e16_3, w16_3, e16_5, w16_5, e16_7, w16_7, c16_8, e16_10, w16_10, e16_12, w16_12, e16_14, w16_14, c16_15, c16_16, e16_18, w16_18, c16_19, c16_20, c16_21, c16_22, c16_23, c16_24, e16_26, w16_26, c16_27, c16_28, c16_29, c16_30, hd, hp, Product.row]
    first | refine callD (product_Covers_ok p l c (hf.1 p (List.mem_of_getElem? hp)) hl hlen) ?_ | refine callQD (product_Covers_ok p l c (hf.1 p (List.mem_of_getElem? hp)) hl hlen) ?_
    simp -implicitDefEqProofs (disch := omega) only [go_sem, Nat.reduceAdd, Nat.reduceMul, Nat.reduceSub, Nat.reduceBEq, Nat.reduceLeDiff, Nat.reduceLT, fn_product_Options, e16_1, w16_1, e16_3, w16_3, e16_5, w16_5, e16_7, w16_7, c16_8, e16_10, w16_10, e16_12, w16_12, e16_14, w16_14, c16_15, c16_16, e16_18, w16_18, c16_19, c16_20, c16_21, c16_22, c16_23, c16_24, e16_26, w16_26, c16_27, c16_28, c16_29, c16_30]
    refine ifB (fun h => ?_) (fun h => ?_)
    · simp -implicitDefEqProofs (disch := omega) only [go_sem, Nat.reduceAdd, Nat.reduceMul, Nat.reduceSub, Nat.reduceBEq, Nat.reduceLeDiff, Nat.reduceLT, fn_product_Options, e16_1, w16_1, e16_3, w16_3, e16_5, w16_5, e16_7, w16_7, c16_8, e16_10, w16_10, e16_12, w16_12, e16_14, w16_14, c16_15, c16_16, e16_18, w16_18, c16_19, c16_20, c16_21, c16_22, c16_23, c16_24, e16_26, w16_26, c16_27, c16_28, c16_29, c16_30]
      refine next_pop hi rfl ⟨ver + 1, ?_, ?_⟩
      · simp only [idxs_succ, at?_eq hp, h, if_true, List.length_append] <;> rfl
      · simp only [idxs_succ, at?_eq hp, h, if_true, List.map_append] <;> rfl
    · simp -implicitDefEqProofs (disch := omega) only [go_sem, Nat.reduceAdd, Nat.reduceMul, Nat.reduceSub, Nat.reduceBEq, Nat.reduceLeDiff, Nat.reduceLT, fn_product_Options, e16_1, w16_1, e16_3, w16_3, e16_5, w16_5, e16_7, w16_7, c16_8, e16_10, w16_10, e16_12, w16_12, e16_14, w16_14, c16_15, c16_16, e16_18, w16_18, c16_19, c16_20, c16_21, c16_22, c16_23, c16_24, e16_26, w16_26, c16_27, c16_28, c16_29, c16_30]
      refine next_pop hi rfl ⟨ver, ?_, ?_⟩
      · simp only [idxs_succ, at?_eq hp, h, Bool.false_eq_true, if_false, List.append_nil] <;> rfl
      · simp only [idxs_succ, at?_eq hp, h, Bool.false_eq_true, if_false, List.append_nil] <;> rfl
  · rintro vs M ⟨ver, rfl, rfl⟩
    simp -implicitDefEqProofs (disch := omega) only [go_sem, Nat.reduceAdd, Nat.reduceMul, Nat.reduceSub, Nat.reduceBEq, Nat.reduceLeDiff, Nat.reduceLT, fn_product_Options, e16_1, w16_1, e16_3, w16_3, e16_5, w16_5, e16_7, w16_7, c16_8, e16_10, w16_10, e16_12, w16_12, e16_14, w16_14, c16_15, c16_16, e16_18, w16_18, c16_19, c16_20, c16_21, c16_22, c16_23, c16_24, e16_26, w16_26, c16_27, c16_28, c16_29, c16_30, dec_irrefl, options]

theorem transitref21_Options_ok (f : Fares) (l : List Ride) (c : Cap) (hf : f.wf) (hl : ∀ r ∈ l, r.wf) (hlen : l.length ≤ maxLen) (hsm : f.products.length ≤ 40) : PCalls PR i_transitref21_Options [.agg f.row, .slice (l.map Ride.row) c] (fun v => v = .slice ((options f l).map intRow) .unk) := by
  refine acalls_pop fn_transitref21_Options_ok (by simp [fn_transitref21_Options]) ?_
  simp -implicitDefEqProofs (disch := omega) only [go_sem, Nat.reduceAdd, Nat.reduceMul, Nat.reduceSub, Nat.reduceBEq, Nat.reduceLeDiff, Nat.reduceLT, fn_transitref21_Options, e17_1, w17_1, e17_3, w17_3, e17_5, w17_5, e17_7, w17_7, e17_9, w17_9, e17_11, w17_11, c17_12, e17_14, w17_14, c17_15, c17_16, c17_17, c17_18, c17_19, e17_21, w17_21, c17_22, c17_23, c17_24, c17_25, Fares.row]
  refine wpC_forL f.products (fun i vs M => ∃ ver, vs = [.slice (l.map Ride.row) c, .ptr 0 0, .mslice 1 ver 0 (idxs (at? (fun p => covers p l) f.products) i).length, .int .i64 i] ∧
    M = [.box f.row, .arr 1 ((idxs (at? (fun p => covers p l) f.products) i).map intRow) ver 0]) ⟨0, rfl, rfl⟩ ?_ ?_
  · rintro i p vs M hp hi hd ⟨ver, rfl, rfl⟩
    have hle := idxs_le (at? (fun p => covers p l) f.products) i
    simp -implicitDefEqProofs (disch := omega) only [go_sem, Nat.reduceAdd, Nat.reduceMul, Nat.reduceSub, Nat.reduceBEq, Nat.reduceLeDiff, Nat.reduceLT, fn_transitref21_Options, e17_1, w17_1, e17_3, w17_3, e17_5, w17_5, e17_7, w17_7, e17_9, w17_9, e17_11, w17_11, c17_12, e17_14, w17_14, c17_15, c17_16, c17_17, c17_18, c17_19, e17_21, w17_21, c17_22, c17_23, c17_24, c17_25, hd, hp, Fares.row, Product.row]
    first | refine callD (transitref21_Covers_ok p l c (hf.1 p (List.mem_of_getElem? hp)) hl hlen) ?_ | refine callQD (transitref21_Covers_ok p l c (hf.1 p (List.mem_of_getElem? hp)) hl hlen) ?_
    simp -implicitDefEqProofs (disch := omega) only [go_sem, Nat.reduceAdd, Nat.reduceMul, Nat.reduceSub, Nat.reduceBEq, Nat.reduceLeDiff, Nat.reduceLT, fn_transitref21_Options, e17_1, w17_1, e17_3, w17_3, e17_5, w17_5, e17_7, w17_7, e17_9, w17_9, e17_11, w17_11, c17_12, e17_14, w17_14, c17_15, c17_16, c17_17, c17_18, c17_19, e17_21, w17_21, c17_22, c17_23, c17_24, c17_25]
    refine ifB (fun h => ?_) (fun h => ?_)
    · simp -implicitDefEqProofs (disch := omega) only [go_sem, Nat.reduceAdd, Nat.reduceMul, Nat.reduceSub, Nat.reduceBEq, Nat.reduceLeDiff, Nat.reduceLT, fn_transitref21_Options, e17_1, w17_1, e17_3, w17_3, e17_5, w17_5, e17_7, w17_7, e17_9, w17_9, e17_11, w17_11, c17_12, e17_14, w17_14, c17_15, c17_16, c17_17, c17_18, c17_19, e17_21, w17_21, c17_22, c17_23, c17_24, c17_25]
      refine next_stay hi ⟨ver + 1, ?_, ?_⟩
      · simp only [idxs_succ, at?_eq hp, h, if_true, List.length_append] <;> rfl
      · simp only [idxs_succ, at?_eq hp, h, if_true, List.map_append] <;> rfl
    · simp -implicitDefEqProofs (disch := omega) only [go_sem, Nat.reduceAdd, Nat.reduceMul, Nat.reduceSub, Nat.reduceBEq, Nat.reduceLeDiff, Nat.reduceLT, fn_transitref21_Options, e17_1, w17_1, e17_3, w17_3, e17_5, w17_5, e17_7, w17_7, e17_9, w17_9, e17_11, w17_11, c17_12, e17_14, w17_14, c17_15, c17_16, c17_17, c17_18, c17_19, e17_21, w17_21, c17_22, c17_23, c17_24, c17_25]
      refine next_stay hi ⟨ver, ?_, ?_⟩
      · simp only [idxs_succ, at?_eq hp, h, Bool.false_eq_true, if_false, List.append_nil] <;> rfl
      · simp only [idxs_succ, at?_eq hp, h, Bool.false_eq_true, if_false, List.append_nil] <;> rfl
  · rintro vs M ⟨ver, rfl, rfl⟩
    simp -implicitDefEqProofs (disch := omega) only [go_sem, Nat.reduceAdd, Nat.reduceMul, Nat.reduceSub, Nat.reduceBEq, Nat.reduceLeDiff, Nat.reduceLT, fn_transitref21_Options, e17_1, w17_1, e17_3, w17_3, e17_5, w17_5, e17_7, w17_7, e17_9, w17_9, e17_11, w17_11, c17_12, e17_14, w17_14, c17_15, c17_16, c17_17, c17_18, c17_19, e17_21, w17_21, c17_22, c17_23, c17_24, c17_25, dec_irrefl, options, Fares.row]

/-! ### Maps from strings to true -/
def strMap (ids : List (List UInt8)) : List (V × V) := ids.map fun s => (.str s, .bool true)

theorem keysOk_strs (s : List UInt8) : ∀ ids, keysOk .str (.str s) (strMap ids) = true
  | [] => rfl
  | i :: ids => by
    show ((cellEq .str (.str s) (.str i)).isSome && keysOk .str (.str s) (strMap ids)) = true
    rw [keysOk_strs s ids]
    rfl
theorem mapGet_strs (s : List UInt8) : ∀ ids, mapGet .str (.str s) (strMap ids) = if s ∈ ids then some (.bool true) else none
  | [] => rfl
  | i :: ids => by
    show (bif (cellEq .str (.str s) (.str i)).getD false then some (V.bool true) else mapGet .str (.str s) (strMap ids)) = _
    rw [mapGet_strs s ids]
    by_cases h : s = i
    · subst h; simp [cellEq]
    · simp [cellEq, h]
theorem mapSet_strs (s : List UInt8) : ∀ ids, s ∉ ids → mapSet .str (.str s) (.bool true) (strMap ids) = strMap (ids ++ [s])
  | [], _ => rfl
  | i :: ids, h => by
    have h1 : s ≠ i := fun e => h (by simp [e])
    have h2 := mapSet_strs s ids (fun e => h (by simp [e]))
    show (bif (cellEq .str (.str s) (.str i)).getD false then _ else (V.str i, V.bool true) :: mapSet .str (.str s) (.bool true) (strMap ids)) = _
    rw [h2]
    simp [cellEq, h1, strMap]
theorem lookE_strs (s : List UInt8) (ids : List (List UInt8)) : lookE .str (.bool false) false (.str s) (strMap ids) = some (.bool (decide (s ∈ ids))) := by
  simp only [lookE, lookupV, mapFind, isKey, cond_true, List.getElem?_cons_zero, keysOk_strs, mapGet_strs, cellsV]
  by_cases hs : s ∈ ids <;> simp [hs]
theorem updE_strs {s : List UInt8} {ids : List (List UInt8)} (hs : s ∉ ids) : updE .str (.str s) (.bool true) (strMap ids) = some (strMap (ids ++ [s])) := by
  simp only [updE, isKey, keysOk_strs, V.isPure, Bool.and_self, cond_true, mapSet_strs s ids hs]

/-! ### Check -/
/-- The error of the product i. -/
def prodErr (l : List Product) (i : Nat) : Int :=
  match l[i]? with
  | none => 0
  | some p => if okName p.id = false then 12 else if p.id ∈ (l.take i).map Product.id then 6 else if p.right = false then 2 else 0

def checkRes (f : Fares) : Int × Int :=
  if within f.discount 0 1000000 = true ∧ within f.within 0 86400 = true ∧ within f.limit 0 1000000 = true then
    if 16 < f.products.length then (0, 5) else firstErr (prodErr f.products) f.products.length
  else (-1, 2)

def pairV (p : Int × Int) : V := .tuple [.int .i64 p.1, .int .i64 p.2]

theorem product_Check_ok (f : Fares) (hf : f.wf) : PCalls PR i_product_Check [.agg f.row] (fun v => v = pairV (checkRes f)) := by
  refine acalls_pop fn_product_Check_ok (by simp [fn_product_Check]) ?_
  simp -implicitDefEqProofs (disch := omega) only [go_sem, Nat.reduceAdd, Nat.reduceMul, Nat.reduceSub, Nat.reduceBEq, Nat.reduceLeDiff, Nat.reduceLT, fn_product_Check, e11_1, w11_1, e11_3, w11_3, c11_4, e11_6, w11_6, e11_8, w11_8, c11_9, e11_11, w11_11, e11_13, w11_13, e11_15, w11_15, e11_17, w11_17, c11_18, e11_20, w11_20, e11_22, w11_22, c11_23, e11_25, w11_25, e11_27, w11_27, c11_28, e11_30, w11_30, e11_32, w11_32, c11_33, e11_35, w11_35, e11_37, w11_37, c11_38, c11_39, c11_40, c11_41, c11_42, e11_44, w11_44, c11_45, c11_46, c11_47, c11_48, c11_49, c11_50, e11_52, w11_52, c11_53, c11_54, c11_55, c11_56, c11_57, c11_58, Fares.row]
  first | refine callD (product_within_ok _ _ _) ?_ | refine callQD (product_within_ok _ _ _) ?_
  simp -implicitDefEqProofs (disch := omega) only [go_sem, Nat.reduceAdd, Nat.reduceMul, Nat.reduceSub, Nat.reduceBEq, Nat.reduceLeDiff, Nat.reduceLT, fn_product_Check, e11_1, w11_1, e11_3, w11_3, c11_4, e11_6, w11_6, e11_8, w11_8, c11_9, e11_11, w11_11, e11_13, w11_13, e11_15, w11_15, e11_17, w11_17, c11_18, e11_20, w11_20, e11_22, w11_22, c11_23, e11_25, w11_25, e11_27, w11_27, c11_28, e11_30, w11_30, e11_32, w11_32, c11_33, e11_35, w11_35, e11_37, w11_37, c11_38, c11_39, c11_40, c11_41, c11_42, e11_44, w11_44, c11_45, c11_46, c11_47, c11_48, c11_49, c11_50, e11_52, w11_52, c11_53, c11_54, c11_55, c11_56, c11_57, c11_58]
  refine ifB (fun h1 => ?_) (fun h1 => ?_)
  rotate_left
  · simp -implicitDefEqProofs (disch := omega) only [go_sem, Nat.reduceAdd, Nat.reduceMul, Nat.reduceSub, Nat.reduceBEq, Nat.reduceLeDiff, Nat.reduceLT, fn_product_Check, e11_1, w11_1, e11_3, w11_3, c11_4, e11_6, w11_6, e11_8, w11_8, c11_9, e11_11, w11_11, e11_13, w11_13, e11_15, w11_15, e11_17, w11_17, c11_18, e11_20, w11_20, e11_22, w11_22, c11_23, e11_25, w11_25, e11_27, w11_27, c11_28, e11_30, w11_30, e11_32, w11_32, c11_33, e11_35, w11_35, e11_37, w11_37, c11_38, c11_39, c11_40, c11_41, c11_42, e11_44, w11_44, c11_45, c11_46, c11_47, c11_48, c11_49, c11_50, e11_52, w11_52, c11_53, c11_54, c11_55, c11_56, c11_57, c11_58, pairV, checkRes, h1]
    rfl
  simp -implicitDefEqProofs (disch := omega) only [go_sem, Nat.reduceAdd, Nat.reduceMul, Nat.reduceSub, Nat.reduceBEq, Nat.reduceLeDiff, Nat.reduceLT, fn_product_Check, e11_1, w11_1, e11_3, w11_3, c11_4, e11_6, w11_6, e11_8, w11_8, c11_9, e11_11, w11_11, e11_13, w11_13, e11_15, w11_15, e11_17, w11_17, c11_18, e11_20, w11_20, e11_22, w11_22, c11_23, e11_25, w11_25, e11_27, w11_27, c11_28, e11_30, w11_30, e11_32, w11_32, c11_33, e11_35, w11_35, e11_37, w11_37, c11_38, c11_39, c11_40, c11_41, c11_42, e11_44, w11_44, c11_45, c11_46, c11_47, c11_48, c11_49, c11_50, e11_52, w11_52, c11_53, c11_54, c11_55, c11_56, c11_57, c11_58]
  first | refine callD (product_within_ok _ _ _) ?_ | refine callQD (product_within_ok _ _ _) ?_
  simp -implicitDefEqProofs (disch := omega) only [go_sem, Nat.reduceAdd, Nat.reduceMul, Nat.reduceSub, Nat.reduceBEq, Nat.reduceLeDiff, Nat.reduceLT, fn_product_Check, e11_1, w11_1, e11_3, w11_3, c11_4, e11_6, w11_6, e11_8, w11_8, c11_9, e11_11, w11_11, e11_13, w11_13, e11_15, w11_15, e11_17, w11_17, c11_18, e11_20, w11_20, e11_22, w11_22, c11_23, e11_25, w11_25, e11_27, w11_27, c11_28, e11_30, w11_30, e11_32, w11_32, c11_33, e11_35, w11_35, e11_37, w11_37, c11_38, c11_39, c11_40, c11_41, c11_42, e11_44, w11_44, c11_45, c11_46, c11_47, c11_48, c11_49, c11_50, e11_52, w11_52, c11_53, c11_54, c11_55, c11_56, c11_57, c11_58]
  refine ifB (fun h2 => ?_) (fun h2 => ?_)
  rotate_left
  · simp -implicitDefEqProofs (disch := omega) only [go_sem, Nat.reduceAdd, Nat.reduceMul, Nat.reduceSub, Nat.reduceBEq, Nat.reduceLeDiff, Nat.reduceLT, fn_product_Check, e11_1, w11_1, e11_3, w11_3, c11_4, e11_6, w11_6, e11_8, w11_8, c11_9, e11_11, w11_11, e11_13, w11_13, e11_15, w11_15, e11_17, w11_17, c11_18, e11_20, w11_20, e11_22, w11_22, c11_23, e11_25, w11_25, e11_27, w11_27, c11_28, e11_30, w11_30, e11_32, w11_32, c11_33, e11_35, w11_35, e11_37, w11_37, c11_38, c11_39, c11_40, c11_41, c11_42, e11_44, w11_44, c11_45, c11_46, c11_47, c11_48, c11_49, c11_50, e11_52, w11_52, c11_53, c11_54, c11_55, c11_56, c11_57, c11_58, pairV, checkRes, h1, h2]
    rfl
  simp -implicitDefEqProofs (disch := omega) only [go_sem, Nat.reduceAdd, Nat.reduceMul, Nat.reduceSub, Nat.reduceBEq, Nat.reduceLeDiff, Nat.reduceLT, fn_product_Check, e11_1, w11_1, e11_3, w11_3, c11_4, e11_6, w11_6, e11_8, w11_8, c11_9, e11_11, w11_11, e11_13, w11_13, e11_15, w11_15, e11_17, w11_17, c11_18, e11_20, w11_20, e11_22, w11_22, c11_23, e11_25, w11_25, e11_27, w11_27, c11_28, e11_30, w11_30, e11_32, w11_32, c11_33, e11_35, w11_35, e11_37, w11_37, c11_38, c11_39, c11_40, c11_41, c11_42, e11_44, w11_44, c11_45, c11_46, c11_47, c11_48, c11_49, c11_50, e11_52, w11_52, c11_53, c11_54, c11_55, c11_56, c11_57, c11_58]
  first | refine callD (product_within_ok _ _ _) ?_ | refine callQD (product_within_ok _ _ _) ?_
  simp -implicitDefEqProofs (disch := omega) only [go_sem, Nat.reduceAdd, Nat.reduceMul, Nat.reduceSub, Nat.reduceBEq, Nat.reduceLeDiff, Nat.reduceLT, fn_product_Check, e11_1, w11_1, e11_3, w11_3, c11_4, e11_6, w11_6, e11_8, w11_8, c11_9, e11_11, w11_11, e11_13, w11_13, e11_15, w11_15, e11_17, w11_17, c11_18, e11_20, w11_20, e11_22, w11_22, c11_23, e11_25, w11_25, e11_27, w11_27, c11_28, e11_30, w11_30, e11_32, w11_32, c11_33, e11_35, w11_35, e11_37, w11_37, c11_38, c11_39, c11_40, c11_41, c11_42, e11_44, w11_44, c11_45, c11_46, c11_47, c11_48, c11_49, c11_50, e11_52, w11_52, c11_53, c11_54, c11_55, c11_56, c11_57, c11_58]
  refine ifB (fun h3 => ?_) (fun h3 => ?_)
  rotate_left
  · simp -implicitDefEqProofs (disch := omega) only [go_sem, Nat.reduceAdd, Nat.reduceMul, Nat.reduceSub, Nat.reduceBEq, Nat.reduceLeDiff, Nat.reduceLT, fn_product_Check, e11_1, w11_1, e11_3, w11_3, c11_4, e11_6, w11_6, e11_8, w11_8, c11_9, e11_11, w11_11, e11_13, w11_13, e11_15, w11_15, e11_17, w11_17, c11_18, e11_20, w11_20, e11_22, w11_22, c11_23, e11_25, w11_25, e11_27, w11_27, c11_28, e11_30, w11_30, e11_32, w11_32, c11_33, e11_35, w11_35, e11_37, w11_37, c11_38, c11_39, c11_40, c11_41, c11_42, e11_44, w11_44, c11_45, c11_46, c11_47, c11_48, c11_49, c11_50, e11_52, w11_52, c11_53, c11_54, c11_55, c11_56, c11_57, c11_58, pairV, checkRes, h1, h2, h3]
    rfl
  simp -implicitDefEqProofs (disch := omega) only [go_sem, Nat.reduceAdd, Nat.reduceMul, Nat.reduceSub, Nat.reduceBEq, Nat.reduceLeDiff, Nat.reduceLT, fn_product_Check, e11_1, w11_1, e11_3, w11_3, c11_4, e11_6, w11_6, e11_8, w11_8, c11_9, e11_11, w11_11, e11_13, w11_13, e11_15, w11_15, e11_17, w11_17, c11_18, e11_20, w11_20, e11_22, w11_22, c11_23, e11_25, w11_25, e11_27, w11_27, c11_28, e11_30, w11_30, e11_32, w11_32, c11_33, e11_35, w11_35, e11_37, w11_37, c11_38, c11_39, c11_40, c11_41, c11_42, e11_44, w11_44, c11_45, c11_46, c11_47, c11_48, c11_49, c11_50, e11_52, w11_52, c11_53, c11_54, c11_55, c11_56, c11_57, c11_58]
  refine ifD (fun h4 => ?_) (fun h4 => ?_)
  · have : 16 < f.products.length := by omega
    simp -implicitDefEqProofs (disch := omega) only [go_sem, Nat.reduceAdd, Nat.reduceMul, Nat.reduceSub, Nat.reduceBEq, Nat.reduceLeDiff, Nat.reduceLT, fn_product_Check, e11_1, w11_1, e11_3, w11_3, c11_4, e11_6, w11_6, e11_8, w11_8, c11_9, e11_11, w11_11, e11_13, w11_13, e11_15, w11_15, e11_17, w11_17, c11_18, e11_20, w11_20, e11_22, w11_22, c11_23, e11_25, w11_25, e11_27, w11_27, c11_28, e11_30, w11_30, e11_32, w11_32, c11_33, e11_35, w11_35, e11_37, w11_37, c11_38, c11_39, c11_40, c11_41, c11_42, e11_44, w11_44, c11_45, c11_46, c11_47, c11_48, c11_49, c11_50, e11_52, w11_52, c11_53, c11_54, c11_55, c11_56, c11_57, c11_58, pairV, checkRes, h1, h2, h3, this]
    rfl
  have h4' : ¬ 16 < f.products.length := by omega
  have hres : checkRes f = firstErr (prodErr f.products) f.products.length := by simp [checkRes, h1, h2, h3, h4']
  simp -implicitDefEqProofs (disch := omega) only [go_sem, Nat.reduceAdd, Nat.reduceMul, Nat.reduceSub, Nat.reduceBEq, Nat.reduceLeDiff, Nat.reduceLT, fn_product_Check, e11_1, w11_1, e11_3, w11_3, c11_4, e11_6, w11_6, e11_8, w11_8, c11_9, e11_11, w11_11, e11_13, w11_13, e11_15, w11_15, e11_17, w11_17, c11_18, e11_20, w11_20, e11_22, w11_22, c11_23, e11_25, w11_25, e11_27, w11_27, c11_28, e11_30, w11_30, e11_32, w11_32, c11_33, e11_35, w11_35, e11_37, w11_37, c11_38, c11_39, c11_40, c11_41, c11_42, e11_44, w11_44, c11_45, c11_46, c11_47, c11_48, c11_49, c11_50, e11_52, w11_52, c11_53, c11_54, c11_55, c11_56, c11_57, c11_58, hres]
  refine wpC_forL f.products (fun i vs M => (∀ k, k < i → prodErr f.products k = 0) ∧ vs = [.map 1, .slice (f.products.map Product.row) f.tag, .int .i64 f.products.length, .int .i64 i] ∧
    M = [.box f.row, .map (strMap ((f.products.take i).map Product.id))]) ⟨fun k hk => absurd hk (Nat.not_lt_zero k), rfl, rfl⟩ ?_ ?_
  · rintro i p vs M hp hi hd ⟨hall, rfl, rfl⟩
    have fin : ∀ e, prodErr f.products i = e → e ≠ 0 → V.tuple [.int .i64 i, .int .i64 e] = pairV (firstErr (prodErr f.products) f.products.length) := fun e h1 h2 => by
      rw [firstErr_at hi hall (by rw [h1]; exact h2), h1]; rfl
    have herr : prodErr f.products i = if okName p.id = false then 12 else if p.id ∈ (f.products.take i).map Product.id then 6 else if p.right = false then 2 else 0 := by simp only [prodErr, hp]
    simp -implicitDefEqProofs (disch := omega) only [go_sem, Nat.reduceAdd, Nat.reduceMul, Nat.reduceSub, Nat.reduceBEq, Nat.reduceLeDiff, Nat.reduceLT, fn_product_Check, e11_1, w11_1, e11_3, w11_3, c11_4, e11_6, w11_6, e11_8, w11_8, c11_9, e11_11, w11_11, e11_13, w11_13, e11_15, w11_15, e11_17, w11_17, c11_18, e11_20, w11_20, e11_22, w11_22, c11_23, e11_25, w11_25, e11_27, w11_27, c11_28, e11_30, w11_30, e11_32, w11_32, c11_33, e11_35, w11_35, e11_37, w11_37, c11_38, c11_39, c11_40, c11_41, c11_42, e11_44, w11_44, c11_45, c11_46, c11_47, c11_48, c11_49, c11_50, e11_52, w11_52, c11_53, c11_54, c11_55, c11_56, c11_57, c11_58, hd, hp, Product.row]
    first | refine callD (ident_Valid_ok _ (hf.1 p (List.mem_of_getElem? hp)).1) ?_ | refine callQD (ident_Valid_ok _ (hf.1 p (List.mem_of_getElem? hp)).1) ?_
    simp -implicitDefEqProofs (disch := omega) only [go_sem, Nat.reduceAdd, Nat.reduceMul, Nat.reduceSub, Nat.reduceBEq, Nat.reduceLeDiff, Nat.reduceLT, fn_product_Check, e11_1, w11_1, e11_3, w11_3, c11_4, e11_6, w11_6, e11_8, w11_8, c11_9, e11_11, w11_11, e11_13, w11_13, e11_15, w11_15, e11_17, w11_17, c11_18, e11_20, w11_20, e11_22, w11_22, c11_23, e11_25, w11_25, e11_27, w11_27, c11_28, e11_30, w11_30, e11_32, w11_32, c11_33, e11_35, w11_35, e11_37, w11_37, c11_38, c11_39, c11_40, c11_41, c11_42, e11_44, w11_44, c11_45, c11_46, c11_47, c11_48, c11_49, c11_50, e11_52, w11_52, c11_53, c11_54, c11_55, c11_56, c11_57, c11_58]
    refine ifB (fun g1 => ?_) (fun g1 => ?_)
    rotate_left
    · simp -implicitDefEqProofs (disch := omega) only [go_sem, Nat.reduceAdd, Nat.reduceMul, Nat.reduceSub, Nat.reduceBEq, Nat.reduceLeDiff, Nat.reduceLT, fn_product_Check, e11_1, w11_1, e11_3, w11_3, c11_4, e11_6, w11_6, e11_8, w11_8, c11_9, e11_11, w11_11, e11_13, w11_13, e11_15, w11_15, e11_17, w11_17, c11_18, e11_20, w11_20, e11_22, w11_22, c11_23, e11_25, w11_25, e11_27, w11_27, c11_28, e11_30, w11_30, e11_32, w11_32, c11_33, e11_35, w11_35, e11_37, w11_37, c11_38, c11_39, c11_40, c11_41, c11_42, e11_44, w11_44, c11_45, c11_46, c11_47, c11_48, c11_49, c11_50, e11_52, w11_52, c11_53, c11_54, c11_55, c11_56, c11_57, c11_58]
      exact fin 12 (by rw [herr, if_pos g1]) (by decide)
    have g1' : ¬ okName p.id = false := by simp [g1]
    simp -implicitDefEqProofs (disch := omega) only [go_sem, Nat.reduceAdd, Nat.reduceMul, Nat.reduceSub, Nat.reduceBEq, Nat.reduceLeDiff, Nat.reduceLT, fn_product_Check, e11_1, w11_1, e11_3, w11_3, c11_4, e11_6, w11_6, e11_8, w11_8, c11_9, e11_11, w11_11, e11_13, w11_13, e11_15, w11_15, e11_17, w11_17, c11_18, e11_20, w11_20, e11_22, w11_22, c11_23, e11_25, w11_25, e11_27, w11_27, c11_28, e11_30, w11_30, e11_32, w11_32, c11_33, e11_35, w11_35, e11_37, w11_37, c11_38, c11_39, c11_40, c11_41, c11_42, e11_44, w11_44, c11_45, c11_46, c11_47, c11_48, c11_49, c11_50, e11_52, w11_52, c11_53, c11_54, c11_55, c11_56, c11_57, c11_58, lookE_strs]
    refine ifD (fun g2 => ?_) (fun g2 => ?_)
    · simp -implicitDefEqProofs (disch := omega) only [go_sem, Nat.reduceAdd, Nat.reduceMul, Nat.reduceSub, Nat.reduceBEq, Nat.reduceLeDiff, Nat.reduceLT, fn_product_Check, e11_1, w11_1, e11_3, w11_3, c11_4, e11_6, w11_6, e11_8, w11_8, c11_9, e11_11, w11_11, e11_13, w11_13, e11_15, w11_15, e11_17, w11_17, c11_18, e11_20, w11_20, e11_22, w11_22, c11_23, e11_25, w11_25, e11_27, w11_27, c11_28, e11_30, w11_30, e11_32, w11_32, c11_33, e11_35, w11_35, e11_37, w11_37, c11_38, c11_39, c11_40, c11_41, c11_42, e11_44, w11_44, c11_45, c11_46, c11_47, c11_48, c11_49, c11_50, e11_52, w11_52, c11_53, c11_54, c11_55, c11_56, c11_57, c11_58]
      exact fin 6 (by rw [herr, if_neg g1', if_pos g2]) (by decide)
    have bad : p.right = false → prodErr f.products i = 2 := fun h => by rw [herr, if_neg g1', if_neg g2, if_pos h]
    simp -implicitDefEqProofs (disch := omega) only [go_sem, Nat.reduceAdd, Nat.reduceMul, Nat.reduceSub, Nat.reduceBEq, Nat.reduceLeDiff, Nat.reduceLT, fn_product_Check, e11_1, w11_1, e11_3, w11_3, c11_4, e11_6, w11_6, e11_8, w11_8, c11_9, e11_11, w11_11, e11_13, w11_13, e11_15, w11_15, e11_17, w11_17, c11_18, e11_20, w11_20, e11_22, w11_22, c11_23, e11_25, w11_25, e11_27, w11_27, c11_28, e11_30, w11_30, e11_32, w11_32, c11_33, e11_35, w11_35, e11_37, w11_37, c11_38, c11_39, c11_40, c11_41, c11_42, e11_44, w11_44, c11_45, c11_46, c11_47, c11_48, c11_49, c11_50, e11_52, w11_52, c11_53, c11_54, c11_55, c11_56, c11_57, c11_58]
    first | refine callD (product_within_ok _ _ _) ?_ | refine callQD (product_within_ok _ _ _) ?_
    simp -implicitDefEqProofs (disch := omega) only [go_sem, Nat.reduceAdd, Nat.reduceMul, Nat.reduceSub, Nat.reduceBEq, Nat.reduceLeDiff, Nat.reduceLT, fn_product_Check, e11_1, w11_1, e11_3, w11_3, c11_4, e11_6, w11_6, e11_8, w11_8, c11_9, e11_11, w11_11, e11_13, w11_13, e11_15, w11_15, e11_17, w11_17, c11_18, e11_20, w11_20, e11_22, w11_22, c11_23, e11_25, w11_25, e11_27, w11_27, c11_28, e11_30, w11_30, e11_32, w11_32, c11_33, e11_35, w11_35, e11_37, w11_37, c11_38, c11_39, c11_40, c11_41, c11_42, e11_44, w11_44, c11_45, c11_46, c11_47, c11_48, c11_49, c11_50, e11_52, w11_52, c11_53, c11_54, c11_55, c11_56, c11_57, c11_58]
    refine ifB (fun k1 => ?_) (fun k1 => ?_)
    rotate_left
    · simp -implicitDefEqProofs (disch := omega) only [go_sem, Nat.reduceAdd, Nat.reduceMul, Nat.reduceSub, Nat.reduceBEq, Nat.reduceLeDiff, Nat.reduceLT, fn_product_Check, e11_1, w11_1, e11_3, w11_3, c11_4, e11_6, w11_6, e11_8, w11_8, c11_9, e11_11, w11_11, e11_13, w11_13, e11_15, w11_15, e11_17, w11_17, c11_18, e11_20, w11_20, e11_22, w11_22, c11_23, e11_25, w11_25, e11_27, w11_27, c11_28, e11_30, w11_30, e11_32, w11_32, c11_33, e11_35, w11_35, e11_37, w11_37, c11_38, c11_39, c11_40, c11_41, c11_42, e11_44, w11_44, c11_45, c11_46, c11_47, c11_48, c11_49, c11_50, e11_52, w11_52, c11_53, c11_54, c11_55, c11_56, c11_57, c11_58]
      exact fin 2 (bad (by simp [Product.right, k1])) (by decide)
    simp -implicitDefEqProofs (disch := omega) only [go_sem, Nat.reduceAdd, Nat.reduceMul, Nat.reduceSub, Nat.reduceBEq, Nat.reduceLeDiff, Nat.reduceLT, fn_product_Check, e11_1, w11_1, e11_3, w11_3, c11_4, e11_6, w11_6, e11_8, w11_8, c11_9, e11_11, w11_11, e11_13, w11_13, e11_15, w11_15, e11_17, w11_17, c11_18, e11_20, w11_20, e11_22, w11_22, c11_23, e11_25, w11_25, e11_27, w11_27, c11_28, e11_30, w11_30, e11_32, w11_32, c11_33, e11_35, w11_35, e11_37, w11_37, c11_38, c11_39, c11_40, c11_41, c11_42, e11_44, w11_44, c11_45, c11_46, c11_47, c11_48, c11_49, c11_50, e11_52, w11_52, c11_53, c11_54, c11_55, c11_56, c11_57, c11_58]
    first | refine callD (product_within_ok _ _ _) ?_ | refine callQD (product_within_ok _ _ _) ?_
    simp -implicitDefEqProofs (disch := omega) only [go_sem, Nat.reduceAdd, Nat.reduceMul, Nat.reduceSub, Nat.reduceBEq, Nat.reduceLeDiff, Nat.reduceLT, fn_product_Check, e11_1, w11_1, e11_3, w11_3, c11_4, e11_6, w11_6, e11_8, w11_8, c11_9, e11_11, w11_11, e11_13, w11_13, e11_15, w11_15, e11_17, w11_17, c11_18, e11_20, w11_20, e11_22, w11_22, c11_23, e11_25, w11_25, e11_27, w11_27, c11_28, e11_30, w11_30, e11_32, w11_32, c11_33, e11_35, w11_35, e11_37, w11_37, c11_38, c11_39, c11_40, c11_41, c11_42, e11_44, w11_44, c11_45, c11_46, c11_47, c11_48, c11_49, c11_50, e11_52, w11_52, c11_53, c11_54, c11_55, c11_56, c11_57, c11_58]
    refine ifB (fun k2 => ?_) (fun k2 => ?_)
    rotate_left
    · simp -implicitDefEqProofs (disch := omega) only [go_sem, Nat.reduceAdd, Nat.reduceMul, Nat.reduceSub, Nat.reduceBEq, Nat.reduceLeDiff, Nat.reduceLT, fn_product_Check, e11_1, w11_1, e11_3, w11_3, c11_4, e11_6, w11_6, e11_8, w11_8, c11_9, e11_11, w11_11, e11_13, w11_13, e11_15, w11_15, e11_17, w11_17, c11_18, e11_20, w11_20, e11_22, w11_22, c11_23, e11_25, w11_25, e11_27, w11_27, c11_28, e11_30, w11_30, e11_32, w11_32, c11_33, e11_35, w11_35, e11_37, w11_37, c11_38, c11_39, c11_40, c11_41, c11_42, e11_44, w11_44, c11_45, c11_46, c11_47, c11_48, c11_49, c11_50, e11_52, w11_52, c11_53, c11_54, c11_55, c11_56, c11_57, c11_58]
      exact fin 2 (bad (by simp [Product.right, k2])) (by decide)
    simp -implicitDefEqProofs (disch := omega) only [go_sem, Nat.reduceAdd, Nat.reduceMul, Nat.reduceSub, Nat.reduceBEq, Nat.reduceLeDiff, Nat.reduceLT, fn_product_Check, e11_1, w11_1, e11_3, w11_3, c11_4, e11_6, w11_6, e11_8, w11_8, c11_9, e11_11, w11_11, e11_13, w11_13, e11_15, w11_15, e11_17, w11_17, c11_18, e11_20, w11_20, e11_22, w11_22, c11_23, e11_25, w11_25, e11_27, w11_27, c11_28, e11_30, w11_30, e11_32, w11_32, c11_33, e11_35, w11_35, e11_37, w11_37, c11_38, c11_39, c11_40, c11_41, c11_42, e11_44, w11_44, c11_45, c11_46, c11_47, c11_48, c11_49, c11_50, e11_52, w11_52, c11_53, c11_54, c11_55, c11_56, c11_57, c11_58]
    first | refine callD (product_within_ok _ _ _) ?_ | refine callQD (product_within_ok _ _ _) ?_
    simp -implicitDefEqProofs (disch := omega) only [go_sem, Nat.reduceAdd, Nat.reduceMul, Nat.reduceSub, Nat.reduceBEq, Nat.reduceLeDiff, Nat.reduceLT, fn_product_Check, e11_1, w11_1, e11_3, w11_3, c11_4, e11_6, w11_6, e11_8, w11_8, c11_9, e11_11, w11_11, e11_13, w11_13, e11_15, w11_15, e11_17, w11_17, c11_18, e11_20, w11_20, e11_22, w11_22, c11_23, e11_25, w11_25, e11_27, w11_27, c11_28, e11_30, w11_30, e11_32, w11_32, c11_33, e11_35, w11_35, e11_37, w11_37, c11_38, c11_39, c11_40, c11_41, c11_42, e11_44, w11_44, c11_45, c11_46, c11_47, c11_48, c11_49, c11_50, e11_52, w11_52, c11_53, c11_54, c11_55, c11_56, c11_57, c11_58]
    refine ifB (fun k3 => ?_) (fun k3 => ?_)
    rotate_left
    · simp -implicitDefEqProofs (disch := omega) only [go_sem, Nat.reduceAdd, Nat.reduceMul, Nat.reduceSub, Nat.reduceBEq, Nat.reduceLeDiff, Nat.reduceLT, fn_product_Check, e11_1, w11_1, e11_3, w11_3, c11_4, e11_6, w11_6, e11_8, w11_8, c11_9, e11_11, w11_11, e11_13, w11_13, e11_15, w11_15, e11_17, w11_17, c11_18, e11_20, w11_20, e11_22, w11_22, c11_23, e11_25, w11_25, e11_27, w11_27, c11_28, e11_30, w11_30, e11_32, w11_32, c11_33, e11_35, w11_35, e11_37, w11_37, c11_38, c11_39, c11_40, c11_41, c11_42, e11_44, w11_44, c11_45, c11_46, c11_47, c11_48, c11_49, c11_50, e11_52, w11_52, c11_53, c11_54, c11_55, c11_56, c11_57, c11_58]
      exact fin 2 (bad (by simp [Product.right, k3])) (by decide)
    simp -implicitDefEqProofs (disch := omega) only [go_sem, Nat.reduceAdd, Nat.reduceMul, Nat.reduceSub, Nat.reduceBEq, Nat.reduceLeDiff, Nat.reduceLT, fn_product_Check, e11_1, w11_1, e11_3, w11_3, c11_4, e11_6, w11_6, e11_8, w11_8, c11_9, e11_11, w11_11, e11_13, w11_13, e11_15, w11_15, e11_17, w11_17, c11_18, e11_20, w11_20, e11_22, w11_22, c11_23, e11_25, w11_25, e11_27, w11_27, c11_28, e11_30, w11_30, e11_32, w11_32, c11_33, e11_35, w11_35, e11_37, w11_37, c11_38, c11_39, c11_40, c11_41, c11_42, e11_44, w11_44, c11_45, c11_46, c11_47, c11_48, c11_49, c11_50, e11_52, w11_52, c11_53, c11_54, c11_55, c11_56, c11_57, c11_58]
    first | refine callD (product_within_ok _ _ _) ?_ | refine callQD (product_within_ok _ _ _) ?_
    simp -implicitDefEqProofs (disch := omega) only [go_sem, Nat.reduceAdd, Nat.reduceMul, Nat.reduceSub, Nat.reduceBEq, Nat.reduceLeDiff, Nat.reduceLT, fn_product_Check, e11_1, w11_1, e11_3, w11_3, c11_4, e11_6, w11_6, e11_8, w11_8, c11_9, e11_11, w11_11, e11_13, w11_13, e11_15, w11_15, e11_17, w11_17, c11_18, e11_20, w11_20, e11_22, w11_22, c11_23, e11_25, w11_25, e11_27, w11_27, c11_28, e11_30, w11_30, e11_32, w11_32, c11_33, e11_35, w11_35, e11_37, w11_37, c11_38, c11_39, c11_40, c11_41, c11_42, e11_44, w11_44, c11_45, c11_46, c11_47, c11_48, c11_49, c11_50, e11_52, w11_52, c11_53, c11_54, c11_55, c11_56, c11_57, c11_58]
    refine ifB (fun k4 => ?_) (fun k4 => ?_)
    rotate_left
    · simp -implicitDefEqProofs (disch := omega) only [go_sem, Nat.reduceAdd, Nat.reduceMul, Nat.reduceSub, Nat.reduceBEq, Nat.reduceLeDiff, Nat.reduceLT, fn_product_Check, e11_1, w11_1, e11_3, w11_3, c11_4, e11_6, w11_6, e11_8, w11_8, c11_9, e11_11, w11_11, e11_13, w11_13, e11_15, w11_15, e11_17, w11_17, c11_18, e11_20, w11_20, e11_22, w11_22, c11_23, e11_25, w11_25, e11_27, w11_27, c11_28, e11_30, w11_30, e11_32, w11_32, c11_33, e11_35, w11_35, e11_37, w11_37, c11_38, c11_39, c11_40, c11_41, c11_42, e11_44, w11_44, c11_45, c11_46, c11_47, c11_48, c11_49, c11_50, e11_52, w11_52, c11_53, c11_54, c11_55, c11_56, c11_57, c11_58]
      exact fin 2 (bad (by simp [Product.right, k4])) (by decide)
    simp -implicitDefEqProofs (disch := omega) only [go_sem, Nat.reduceAdd, Nat.reduceMul, Nat.reduceSub, Nat.reduceBEq, Nat.reduceLeDiff, Nat.reduceLT, fn_product_Check, e11_1, w11_1, e11_3, w11_3, c11_4, e11_6, w11_6, e11_8, w11_8, c11_9, e11_11, w11_11, e11_13, w11_13, e11_15, w11_15, e11_17, w11_17, c11_18, e11_20, w11_20, e11_22, w11_22, c11_23, e11_25, w11_25, e11_27, w11_27, c11_28, e11_30, w11_30, e11_32, w11_32, c11_33, e11_35, w11_35, e11_37, w11_37, c11_38, c11_39, c11_40, c11_41, c11_42, e11_44, w11_44, c11_45, c11_46, c11_47, c11_48, c11_49, c11_50, e11_52, w11_52, c11_53, c11_54, c11_55, c11_56, c11_57, c11_58]
    first | refine callD (product_within_ok _ _ _) ?_ | refine callQD (product_within_ok _ _ _) ?_
    simp -implicitDefEqProofs (disch := omega) only [go_sem, Nat.reduceAdd, Nat.reduceMul, Nat.reduceSub, Nat.reduceBEq, Nat.reduceLeDiff, Nat.reduceLT, fn_product_Check, e11_1, w11_1, e11_3, w11_3, c11_4, e11_6, w11_6, e11_8, w11_8, c11_9, e11_11, w11_11, e11_13, w11_13, e11_15, w11_15, e11_17, w11_17, c11_18, e11_20, w11_20, e11_22, w11_22, c11_23, e11_25, w11_25, e11_27, w11_27, c11_28, e11_30, w11_30, e11_32, w11_32, c11_33, e11_35, w11_35, e11_37, w11_37, c11_38, c11_39, c11_40, c11_41, c11_42, e11_44, w11_44, c11_45, c11_46, c11_47, c11_48, c11_49, c11_50, e11_52, w11_52, c11_53, c11_54, c11_55, c11_56, c11_57, c11_58]
    refine ifB (fun k5 => ?_) (fun k5 => ?_)
    rotate_left
    · simp -implicitDefEqProofs (disch := omega) only [go_sem, Nat.reduceAdd, Nat.reduceMul, Nat.reduceSub, Nat.reduceBEq, Nat.reduceLeDiff, Nat.reduceLT, fn_product_Check, e11_1, w11_1, e11_3, w11_3, c11_4, e11_6, w11_6, e11_8, w11_8, c11_9, e11_11, w11_11, e11_13, w11_13, e11_15, w11_15, e11_17, w11_17, c11_18, e11_20, w11_20, e11_22, w11_22, c11_23, e11_25, w11_25, e11_27, w11_27, c11_28, e11_30, w11_30, e11_32, w11_32, c11_33, e11_35, w11_35, e11_37, w11_37, c11_38, c11_39, c11_40, c11_41, c11_42, e11_44, w11_44, c11_45, c11_46, c11_47, c11_48, c11_49, c11_50, e11_52, w11_52, c11_53, c11_54, c11_55, c11_56, c11_57, c11_58]
      exact fin 2 (bad (by simp [Product.right, k5])) (by decide)
    simp -implicitDefEqProofs (disch := omega) only [go_sem, Nat.reduceAdd, Nat.reduceMul, Nat.reduceSub, Nat.reduceBEq, Nat.reduceLeDiff, Nat.reduceLT, fn_product_Check, e11_1, w11_1, e11_3, w11_3, c11_4, e11_6, w11_6, e11_8, w11_8, c11_9, e11_11, w11_11, e11_13, w11_13, e11_15, w11_15, e11_17, w11_17, c11_18, e11_20, w11_20, e11_22, w11_22, c11_23, e11_25, w11_25, e11_27, w11_27, c11_28, e11_30, w11_30, e11_32, w11_32, c11_33, e11_35, w11_35, e11_37, w11_37, c11_38, c11_39, c11_40, c11_41, c11_42, e11_44, w11_44, c11_45, c11_46, c11_47, c11_48, c11_49, c11_50, e11_52, w11_52, c11_53, c11_54, c11_55, c11_56, c11_57, c11_58, updE_strs g2]
    refine next_pop hi rfl ⟨fun k hk => ?_, rfl, ?_⟩
    · rcases Nat.lt_or_ge k i with hlt | hge
      · exact hall k hlt
      · have : k = i := by omega
        subst this
        rw [herr, if_neg g1', if_neg g2, if_neg (by simp [Product.right, k1, k2, k3, k4, k5])]
    · have e : (f.products.take (i + 1)).map Product.id = (f.products.take i).map Product.id ++ [p.id] := by rw [List.take_add_one, hp, List.map_append] <;> rfl
      rw [e]; rfl
  · rintro vs M ⟨hall, rfl, rfl⟩
    simp -implicitDefEqProofs (disch := omega) only [go_sem, Nat.reduceAdd, Nat.reduceMul, Nat.reduceSub, Nat.reduceBEq, Nat.reduceLeDiff, Nat.reduceLT, fn_product_Check, e11_1, w11_1, e11_3, w11_3, c11_4, e11_6, w11_6, e11_8, w11_8, c11_9, e11_11, w11_11, e11_13, w11_13, e11_15, w11_15, e11_17, w11_17, c11_18, e11_20, w11_20, e11_22, w11_22, c11_23, e11_25, w11_25, e11_27, w11_27, c11_28, e11_30, w11_30, e11_32, w11_32, c11_33, e11_35, w11_35, e11_37, w11_37, c11_38, c11_39, c11_40, c11_41, c11_42, e11_44, w11_44, c11_45, c11_46, c11_47, c11_48, c11_49, c11_50, e11_52, w11_52, c11_53, c11_54, c11_55, c11_56, c11_57, c11_58, dec_irrefl, firstErr_none hall, pairV]

theorem transitref21_Check_ok (f : Fares) (hf : f.wf) : PCalls PR i_transitref21_Check [.agg f.row] (fun v => v = pairV (checkRes f)) := by
  refine acalls_pop fn_transitref21_Check_ok (by simp [fn_transitref21_Check]) ?_
  simp -implicitDefEqProofs (disch := omega) only [go_sem, Nat.reduceAdd, Nat.reduceMul, Nat.reduceSub, Nat.reduceBEq, Nat.reduceLeDiff, Nat.reduceLT, fn_transitref21_Check, e12_1, w12_1, e12_3, w12_3, c12_4, e12_6, w12_6, e12_8, w12_8, e12_10, w12_10, c12_11, e12_13, w12_13, e12_15, w12_15, e12_17, w12_17, e12_19, w12_19, c12_20, e12_22, w12_22, e12_24, w12_24, e12_26, w12_26, e12_28, w12_28, c12_29, e12_31, w12_31, c12_32, e12_34, w12_34, c12_35, c12_36, c12_37, c12_38, c12_39, e12_41, w12_41, c12_42, e12_44, w12_44, c12_45, c12_46, c12_47, e12_49, w12_49, c12_50, c12_51, c12_52, c12_53, c12_54, e12_56, w12_56, c12_57, c12_58, c12_59, c12_60, c12_61, c12_62, Fares.row]
  first | refine callD (transitref21_within_ok _ _ _) ?_ | refine callQD (transitref21_within_ok _ _ _) ?_
  simp -implicitDefEqProofs (disch := omega) only [go_sem, Nat.reduceAdd, Nat.reduceMul, Nat.reduceSub, Nat.reduceBEq, Nat.reduceLeDiff, Nat.reduceLT, fn_transitref21_Check, e12_1, w12_1, e12_3, w12_3, c12_4, e12_6, w12_6, e12_8, w12_8, e12_10, w12_10, c12_11, e12_13, w12_13, e12_15, w12_15, e12_17, w12_17, e12_19, w12_19, c12_20, e12_22, w12_22, e12_24, w12_24, e12_26, w12_26, e12_28, w12_28, c12_29, e12_31, w12_31, c12_32, e12_34, w12_34, c12_35, c12_36, c12_37, c12_38, c12_39, e12_41, w12_41, c12_42, e12_44, w12_44, c12_45, c12_46, c12_47, e12_49, w12_49, c12_50, c12_51, c12_52, c12_53, c12_54, e12_56, w12_56, c12_57, c12_58, c12_59, c12_60, c12_61, c12_62]
  refine ifB (fun h1 => ?_) (fun h1 => ?_)
  rotate_left
  · simp -implicitDefEqProofs (disch := omega) only [go_sem, Nat.reduceAdd, Nat.reduceMul, Nat.reduceSub, Nat.reduceBEq, Nat.reduceLeDiff, Nat.reduceLT, fn_transitref21_Check, e12_1, w12_1, e12_3, w12_3, c12_4, e12_6, w12_6, e12_8, w12_8, e12_10, w12_10, c12_11, e12_13, w12_13, e12_15, w12_15, e12_17, w12_17, e12_19, w12_19, c12_20, e12_22, w12_22, e12_24, w12_24, e12_26, w12_26, e12_28, w12_28, c12_29, e12_31, w12_31, c12_32, e12_34, w12_34, c12_35, c12_36, c12_37, c12_38, c12_39, e12_41, w12_41, c12_42, e12_44, w12_44, c12_45, c12_46, c12_47, e12_49, w12_49, c12_50, c12_51, c12_52, c12_53, c12_54, e12_56, w12_56, c12_57, c12_58, c12_59, c12_60, c12_61, c12_62, pairV, checkRes, h1]
    rfl
  simp -implicitDefEqProofs (disch := omega) only [go_sem, Nat.reduceAdd, Nat.reduceMul, Nat.reduceSub, Nat.reduceBEq, Nat.reduceLeDiff, Nat.reduceLT, fn_transitref21_Check, e12_1, w12_1, e12_3, w12_3, c12_4, e12_6, w12_6, e12_8, w12_8, e12_10, w12_10, c12_11, e12_13, w12_13, e12_15, w12_15, e12_17, w12_17, e12_19, w12_19, c12_20, e12_22, w12_22, e12_24, w12_24, e12_26, w12_26, e12_28, w12_28, c12_29, e12_31, w12_31, c12_32, e12_34, w12_34, c12_35, c12_36, c12_37, c12_38, c12_39, e12_41, w12_41, c12_42, e12_44, w12_44, c12_45, c12_46, c12_47, e12_49, w12_49, c12_50, c12_51, c12_52, c12_53, c12_54, e12_56, w12_56, c12_57, c12_58, c12_59, c12_60, c12_61, c12_62]
  first | refine callD (transitref21_within_ok _ _ _) ?_ | refine callQD (transitref21_within_ok _ _ _) ?_
  simp -implicitDefEqProofs (disch := omega) only [go_sem, Nat.reduceAdd, Nat.reduceMul, Nat.reduceSub, Nat.reduceBEq, Nat.reduceLeDiff, Nat.reduceLT, fn_transitref21_Check, e12_1, w12_1, e12_3, w12_3, c12_4, e12_6, w12_6, e12_8, w12_8, e12_10, w12_10, c12_11, e12_13, w12_13, e12_15, w12_15, e12_17, w12_17, e12_19, w12_19, c12_20, e12_22, w12_22, e12_24, w12_24, e12_26, w12_26, e12_28, w12_28, c12_29, e12_31, w12_31, c12_32, e12_34, w12_34, c12_35, c12_36, c12_37, c12_38, c12_39, e12_41, w12_41, c12_42, e12_44, w12_44, c12_45, c12_46, c12_47, e12_49, w12_49, c12_50, c12_51, c12_52, c12_53, c12_54, e12_56, w12_56, c12_57, c12_58, c12_59, c12_60, c12_61, c12_62]
  refine ifB (fun h2 => ?_) (fun h2 => ?_)
  rotate_left
  · simp -implicitDefEqProofs (disch := omega) only [go_sem, Nat.reduceAdd, Nat.reduceMul, Nat.reduceSub, Nat.reduceBEq, Nat.reduceLeDiff, Nat.reduceLT, fn_transitref21_Check, e12_1, w12_1, e12_3, w12_3, c12_4, e12_6, w12_6, e12_8, w12_8, e12_10, w12_10, c12_11, e12_13, w12_13, e12_15, w12_15, e12_17, w12_17, e12_19, w12_19, c12_20, e12_22, w12_22, e12_24, w12_24, e12_26, w12_26, e12_28, w12_28, c12_29, e12_31, w12_31, c12_32, e12_34, w12_34, c12_35, c12_36, c12_37, c12_38, c12_39, e12_41, w12_41, c12_42, e12_44, w12_44, c12_45, c12_46, c12_47, e12_49, w12_49, c12_50, c12_51, c12_52, c12_53, c12_54, e12_56, w12_56, c12_57, c12_58, c12_59, c12_60, c12_61, c12_62, pairV, checkRes, h1, h2]
    rfl
  simp -implicitDefEqProofs (disch := omega) only [go_sem, Nat.reduceAdd, Nat.reduceMul, Nat.reduceSub, Nat.reduceBEq, Nat.reduceLeDiff, Nat.reduceLT, fn_transitref21_Check, e12_1, w12_1, e12_3, w12_3, c12_4, e12_6, w12_6, e12_8, w12_8, e12_10, w12_10, c12_11, e12_13, w12_13, e12_15, w12_15, e12_17, w12_17, e12_19, w12_19, c12_20, e12_22, w12_22, e12_24, w12_24, e12_26, w12_26, e12_28, w12_28, c12_29, e12_31, w12_31, c12_32, e12_34, w12_34, c12_35, c12_36, c12_37, c12_38, c12_39, e12_41, w12_41, c12_42, e12_44, w12_44, c12_45, c12_46, c12_47, e12_49, w12_49, c12_50, c12_51, c12_52, c12_53, c12_54, e12_56, w12_56, c12_57, c12_58, c12_59, c12_60, c12_61, c12_62]
  first | refine callD (transitref21_within_ok _ _ _) ?_ | refine callQD (transitref21_within_ok _ _ _) ?_
  simp -implicitDefEqProofs (disch := omega) only [go_sem, Nat.reduceAdd, Nat.reduceMul, Nat.reduceSub, Nat.reduceBEq, Nat.reduceLeDiff, Nat.reduceLT, fn_transitref21_Check, e12_1, w12_1, e12_3, w12_3, c12_4, e12_6, w12_6, e12_8, w12_8, e12_10, w12_10, c12_11, e12_13, w12_13, e12_15, w12_15, e12_17, w12_17, e12_19, w12_19, c12_20, e12_22, w12_22, e12_24, w12_24, e12_26, w12_26, e12_28, w12_28, c12_29, e12_31, w12_31, c12_32, e12_34, w12_34, c12_35, c12_36, c12_37, c12_38, c12_39, e12_41, w12_41, c12_42, e12_44, w12_44, c12_45, c12_46, c12_47, e12_49, w12_49, c12_50, c12_51, c12_52, c12_53, c12_54, e12_56, w12_56, c12_57, c12_58, c12_59, c12_60, c12_61, c12_62]
  refine ifB (fun h3 => ?_) (fun h3 => ?_)
  rotate_left
  · simp -implicitDefEqProofs (disch := omega) only [go_sem, Nat.reduceAdd, Nat.reduceMul, Nat.reduceSub, Nat.reduceBEq, Nat.reduceLeDiff, Nat.reduceLT, fn_transitref21_Check, e12_1, w12_1, e12_3, w12_3, c12_4, e12_6, w12_6, e12_8, w12_8, e12_10, w12_10, c12_11, e12_13, w12_13, e12_15, w12_15, e12_17, w12_17, e12_19, w12_19, c12_20, e12_22, w12_22, e12_24, w12_24, e12_26, w12_26, e12_28, w12_28, c12_29, e12_31, w12_31, c12_32, e12_34, w12_34, c12_35, c12_36, c12_37, c12_38, c12_39, e12_41, w12_41, c12_42, e12_44, w12_44, c12_45, c12_46, c12_47, e12_49, w12_49, c12_50, c12_51, c12_52, c12_53, c12_54, e12_56, w12_56, c12_57, c12_58, c12_59, c12_60, c12_61, c12_62, pairV, checkRes, h1, h2, h3]
    rfl
  simp -implicitDefEqProofs (disch := omega) only [go_sem, Nat.reduceAdd, Nat.reduceMul, Nat.reduceSub, Nat.reduceBEq, Nat.reduceLeDiff, Nat.reduceLT, fn_transitref21_Check, e12_1, w12_1, e12_3, w12_3, c12_4, e12_6, w12_6, e12_8, w12_8, e12_10, w12_10, c12_11, e12_13, w12_13, e12_15, w12_15, e12_17, w12_17, e12_19, w12_19, c12_20, e12_22, w12_22, e12_24, w12_24, e12_26, w12_26, e12_28, w12_28, c12_29, e12_31, w12_31, c12_32, e12_34, w12_34, c12_35, c12_36, c12_37, c12_38, c12_39, e12_41, w12_41, c12_42, e12_44, w12_44, c12_45, c12_46, c12_47, e12_49, w12_49, c12_50, c12_51, c12_52, c12_53, c12_54, e12_56, w12_56, c12_57, c12_58, c12_59, c12_60, c12_61, c12_62]
  refine ifD (fun h4 => ?_) (fun h4 => ?_)
  · have : 16 < f.products.length := by omega
    simp -implicitDefEqProofs (disch := omega) only [go_sem, Nat.reduceAdd, Nat.reduceMul, Nat.reduceSub, Nat.reduceBEq, Nat.reduceLeDiff, Nat.reduceLT, fn_transitref21_Check, e12_1, w12_1, e12_3, w12_3, c12_4, e12_6, w12_6, e12_8, w12_8, e12_10, w12_10, c12_11, e12_13, w12_13, e12_15, w12_15, e12_17, w12_17, e12_19, w12_19, c12_20, e12_22, w12_22, e12_24, w12_24, e12_26, w12_26, e12_28, w12_28, c12_29, e12_31, w12_31, c12_32, e12_34, w12_34, c12_35, c12_36, c12_37, c12_38, c12_39, e12_41, w12_41, c12_42, e12_44, w12_44, c12_45, c12_46, c12_47, e12_49, w12_49, c12_50, c12_51, c12_52, c12_53, c12_54, e12_56, w12_56, c12_57, c12_58, c12_59, c12_60, c12_61, c12_62, pairV, checkRes, h1, h2, h3, this]
    rfl
  have h4' : ¬ 16 < f.products.length := by omega
  have hres : checkRes f = firstErr (prodErr f.products) f.products.length := by simp [checkRes, h1, h2, h3, h4']
  simp -implicitDefEqProofs (disch := omega) only [go_sem, Nat.reduceAdd, Nat.reduceMul, Nat.reduceSub, Nat.reduceBEq, Nat.reduceLeDiff, Nat.reduceLT, fn_transitref21_Check, e12_1, w12_1, e12_3, w12_3, c12_4, e12_6, w12_6, e12_8, w12_8, e12_10, w12_10, c12_11, e12_13, w12_13, e12_15, w12_15, e12_17, w12_17, e12_19, w12_19, c12_20, e12_22, w12_22, e12_24, w12_24, e12_26, w12_26, e12_28, w12_28, c12_29, e12_31, w12_31, c12_32, e12_34, w12_34, c12_35, c12_36, c12_37, c12_38, c12_39, e12_41, w12_41, c12_42, e12_44, w12_44, c12_45, c12_46, c12_47, e12_49, w12_49, c12_50, c12_51, c12_52, c12_53, c12_54, e12_56, w12_56, c12_57, c12_58, c12_59, c12_60, c12_61, c12_62, hres]
  refine wpC_forL f.products (fun i vs M => (∀ k, k < i → prodErr f.products k = 0) ∧ vs = [.slice (f.products.map Product.row) f.tag, .int .i64 i] ∧ M = [.box f.row]) ⟨fun k hk => absurd hk (Nat.not_lt_zero k), rfl, rfl⟩ ?_ ?_
  · rintro i p vs M hp hi hd ⟨hall, rfl, rfl⟩
    have fin : ∀ e, prodErr f.products i = e → e ≠ 0 → V.tuple [.int .i64 i, .int .i64 e] = pairV (firstErr (prodErr f.products) f.products.length) := fun e h1 h2 => by
      rw [firstErr_at hi hall (by rw [h1]; exact h2), h1]; rfl
    have herr : prodErr f.products i = if okName p.id = false then 12 else if p.id ∈ (f.products.take i).map Product.id then 6 else if p.right = false then 2 else 0 := by simp only [prodErr, hp]
    simp -implicitDefEqProofs (disch := omega) only [go_sem, Nat.reduceAdd, Nat.reduceMul, Nat.reduceSub, Nat.reduceBEq, Nat.reduceLeDiff, Nat.reduceLT, fn_transitref21_Check, e12_1, w12_1, e12_3, w12_3, c12_4, e12_6, w12_6, e12_8, w12_8, e12_10, w12_10, c12_11, e12_13, w12_13, e12_15, w12_15, e12_17, w12_17, e12_19, w12_19, c12_20, e12_22, w12_22, e12_24, w12_24, e12_26, w12_26, e12_28, w12_28, c12_29, e12_31, w12_31, c12_32, e12_34, w12_34, c12_35, c12_36, c12_37, c12_38, c12_39, e12_41, w12_41, c12_42, e12_44, w12_44, c12_45, c12_46, c12_47, e12_49, w12_49, c12_50, c12_51, c12_52, c12_53, c12_54, e12_56, w12_56, c12_57, c12_58, c12_59, c12_60, c12_61, c12_62, hd, hp, Product.row]
    first | refine callD (transitref15_Name_ok _ (hf.1 p (List.mem_of_getElem? hp)).1) ?_ | refine callQD (transitref15_Name_ok _ (hf.1 p (List.mem_of_getElem? hp)).1) ?_
    simp -implicitDefEqProofs (disch := omega) only [go_sem, Nat.reduceAdd, Nat.reduceMul, Nat.reduceSub, Nat.reduceBEq, Nat.reduceLeDiff, Nat.reduceLT, fn_transitref21_Check, e12_1, w12_1, e12_3, w12_3, c12_4, e12_6, w12_6, e12_8, w12_8, e12_10, w12_10, c12_11, e12_13, w12_13, e12_15, w12_15, e12_17, w12_17, e12_19, w12_19, c12_20, e12_22, w12_22, e12_24, w12_24, e12_26, w12_26, e12_28, w12_28, c12_29, e12_31, w12_31, c12_32, e12_34, w12_34, c12_35, c12_36, c12_37, c12_38, c12_39, e12_41, w12_41, c12_42, e12_44, w12_44, c12_45, c12_46, c12_47, e12_49, w12_49, c12_50, c12_51, c12_52, c12_53, c12_54, e12_56, w12_56, c12_57, c12_58, c12_59, c12_60, c12_61, c12_62]
    refine ifB (fun g1 => ?_) (fun g1 => ?_)
    rotate_left
    · simp -implicitDefEqProofs (disch := omega) only [go_sem, Nat.reduceAdd, Nat.reduceMul, Nat.reduceSub, Nat.reduceBEq, Nat.reduceLeDiff, Nat.reduceLT, fn_transitref21_Check, e12_1, w12_1, e12_3, w12_3, c12_4, e12_6, w12_6, e12_8, w12_8, e12_10, w12_10, c12_11, e12_13, w12_13, e12_15, w12_15, e12_17, w12_17, e12_19, w12_19, c12_20, e12_22, w12_22, e12_24, w12_24, e12_26, w12_26, e12_28, w12_28, c12_29, e12_31, w12_31, c12_32, e12_34, w12_34, c12_35, c12_36, c12_37, c12_38, c12_39, e12_41, w12_41, c12_42, e12_44, w12_44, c12_45, c12_46, c12_47, e12_49, w12_49, c12_50, c12_51, c12_52, c12_53, c12_54, e12_56, w12_56, c12_57, c12_58, c12_59, c12_60, c12_61, c12_62]
      exact fin 12 (by rw [herr, if_pos g1]) (by decide)
    have g1' : ¬ okName p.id = false := by simp [g1]
    simp -implicitDefEqProofs (disch := omega) only [go_sem, Nat.reduceAdd, Nat.reduceMul, Nat.reduceSub, Nat.reduceBEq, Nat.reduceLeDiff, Nat.reduceLT, fn_transitref21_Check, e12_1, w12_1, e12_3, w12_3, c12_4, e12_6, w12_6, e12_8, w12_8, e12_10, w12_10, c12_11, e12_13, w12_13, e12_15, w12_15, e12_17, w12_17, e12_19, w12_19, c12_20, e12_22, w12_22, e12_24, w12_24, e12_26, w12_26, e12_28, w12_28, c12_29, e12_31, w12_31, c12_32, e12_34, w12_34, c12_35, c12_36, c12_37, c12_38, c12_39, e12_41, w12_41, c12_42, e12_44, w12_44, c12_45, c12_46, c12_47, e12_49, w12_49, c12_50, c12_51, c12_52, c12_53, c12_54, e12_56, w12_56, c12_57, c12_58, c12_59, c12_60, c12_61, c12_62]
    refine wpC_for i (fun k vs M => p.id ∉ (f.products.take k).map Product.id ∧ vs = [.slice (f.products.map Product.row) f.tag, .int .i64 i, .int .i64 k] ∧ M = [.box f.row]) ⟨by simp, rfl, rfl⟩ ?_ ?_
    · rintro k vs M hk hdk ⟨hno, rfl, rfl⟩
      obtain ⟨q, hq⟩ : ∃ q, f.products[k]? = some q := ⟨f.products[k], by simp⟩
      simp -implicitDefEqProofs (disch := omega) only [go_sem, Nat.reduceAdd, Nat.reduceMul, Nat.reduceSub, Nat.reduceBEq, Nat.reduceLeDiff, Nat.reduceLT, fn_transitref21_Check, e12_1, w12_1, e12_3, w12_3, c12_4, e12_6, w12_6, e12_8, w12_8, e12_10, w12_10, c12_11, e12_13, w12_13, e12_15, w12_15, e12_17, w12_17, e12_19, w12_19, c12_20, e12_22, w12_22, e12_24, w12_24, e12_26, w12_26, e12_28, w12_28, c12_29, e12_31, w12_31, c12_32, e12_34, w12_34, c12_35, c12_36, c12_37, c12_38, c12_39, e12_41, w12_41, c12_42, e12_44, w12_44, c12_45, c12_46, c12_47, e12_49, w12_49, c12_50, c12_51, c12_52, c12_53, c12_54, e12_56, w12_56, c12_57, c12_58, c12_59, c12_60, c12_61, c12_62, hdk, hp, hq, Product.row]
      refine ifD (fun g2 => ?_) (fun g2 => ?_)
      · simp -implicitDefEqProofs (disch := omega) only [go_sem, Nat.reduceAdd, Nat.reduceMul, Nat.reduceSub, Nat.reduceBEq, Nat.reduceLeDiff, Nat.reduceLT, fn_transitref21_Check, e12_1, w12_1, e12_3, w12_3, c12_4, e12_6, w12_6, e12_8, w12_8, e12_10, w12_10, c12_11, e12_13, w12_13, e12_15, w12_15, e12_17, w12_17, e12_19, w12_19, c12_20, e12_22, w12_22, e12_24, w12_24, e12_26, w12_26, e12_28, w12_28, c12_29, e12_31, w12_31, c12_32, e12_34, w12_34, c12_35, c12_36, c12_37, c12_38, c12_39, e12_41, w12_41, c12_42, e12_44, w12_44, c12_45, c12_46, c12_47, e12_49, w12_49, c12_50, c12_51, c12_52, c12_53, c12_54, e12_56, w12_56, c12_57, c12_58, c12_59, c12_60, c12_61, c12_62]
        refine fin 6 ?_ (by decide)
        rw [herr, if_neg g1', if_pos]
        rw [List.mem_map]
        exact ⟨q, List.mem_of_getElem? (i := k) (by rw [List.getElem?_take_of_lt hk]; exact hq), g2⟩
      · simp -implicitDefEqProofs (disch := omega) only [go_sem, Nat.reduceAdd, Nat.reduceMul, Nat.reduceSub, Nat.reduceBEq, Nat.reduceLeDiff, Nat.reduceLT, fn_transitref21_Check, e12_1, w12_1, e12_3, w12_3, c12_4, e12_6, w12_6, e12_8, w12_8, e12_10, w12_10, c12_11, e12_13, w12_13, e12_15, w12_15, e12_17, w12_17, e12_19, w12_19, c12_20, e12_22, w12_22, e12_24, w12_24, e12_26, w12_26, e12_28, w12_28, c12_29, e12_31, w12_31, c12_32, e12_34, w12_34, c12_35, c12_36, c12_37, c12_38, c12_39, e12_41, w12_41, c12_42, e12_44, w12_44, c12_45, c12_46, c12_47, e12_49, w12_49, c12_50, c12_51, c12_52, c12_53, c12_54, e12_56, w12_56, c12_57, c12_58, c12_59, c12_60, c12_61, c12_62]
        refine next_stay hk ⟨?_, rfl, rfl⟩
        rw [List.take_add_one, hq, List.map_append]
        simp only [List.mem_append, not_or]
        exact ⟨hno, by simpa using fun e => g2 e.symm⟩
    · rintro vs M ⟨g2, rfl, rfl⟩
      simp -implicitDefEqProofs (disch := omega) only [go_sem, Nat.reduceAdd, Nat.reduceMul, Nat.reduceSub, Nat.reduceBEq, Nat.reduceLeDiff, Nat.reduceLT, fn_transitref21_Check, e12_1, w12_1, e12_3, w12_3, c12_4, e12_6, w12_6, e12_8, w12_8, e12_10, w12_10, c12_11, e12_13, w12_13, e12_15, w12_15, e12_17, w12_17, e12_19, w12_19, c12_20, e12_22, w12_22, e12_24, w12_24, e12_26, w12_26, e12_28, w12_28, c12_29, e12_31, w12_31, c12_32, e12_34, w12_34, c12_35, c12_36, c12_37, c12_38, c12_39, e12_41, w12_41, c12_42, e12_44, w12_44, c12_45, c12_46, c12_47, e12_49, w12_49, c12_50, c12_51, c12_52, c12_53, c12_54, e12_56, w12_56, c12_57, c12_58, c12_59, c12_60, c12_61, c12_62, dec_irrefl, hp]
      first | refine callD (transitref21_Right_ok p) ?_ | refine callQD (transitref21_Right_ok p) ?_
      simp -implicitDefEqProofs (disch := omega) only [go_sem, Nat.reduceAdd, Nat.reduceMul, Nat.reduceSub, Nat.reduceBEq, Nat.reduceLeDiff, Nat.reduceLT, fn_transitref21_Check, e12_1, w12_1, e12_3, w12_3, c12_4, e12_6, w12_6, e12_8, w12_8, e12_10, w12_10, c12_11, e12_13, w12_13, e12_15, w12_15, e12_17, w12_17, e12_19, w12_19, c12_20, e12_22, w12_22, e12_24, w12_24, e12_26, w12_26, e12_28, w12_28, c12_29, e12_31, w12_31, c12_32, e12_34, w12_34, c12_35, c12_36, c12_37, c12_38, c12_39, e12_41, w12_41, c12_42, e12_44, w12_44, c12_45, c12_46, c12_47, e12_49, w12_49, c12_50, c12_51, c12_52, c12_53, c12_54, e12_56, w12_56, c12_57, c12_58, c12_59, c12_60, c12_61, c12_62]
      refine ifB (fun g3 => ?_) (fun g3 => ?_)
      rotate_left
      · simp -implicitDefEqProofs (disch := omega) only [go_sem, Nat.reduceAdd, Nat.reduceMul, Nat.reduceSub, Nat.reduceBEq, Nat.reduceLeDiff, Nat.reduceLT, fn_transitref21_Check, e12_1, w12_1, e12_3, w12_3, c12_4, e12_6, w12_6, e12_8, w12_8, e12_10, w12_10, c12_11, e12_13, w12_13, e12_15, w12_15, e12_17, w12_17, e12_19, w12_19, c12_20, e12_22, w12_22, e12_24, w12_24, e12_26, w12_26, e12_28, w12_28, c12_29, e12_31, w12_31, c12_32, e12_34, w12_34, c12_35, c12_36, c12_37, c12_38, c12_39, e12_41, w12_41, c12_42, e12_44, w12_44, c12_45, c12_46, c12_47, e12_49, w12_49, c12_50, c12_51, c12_52, c12_53, c12_54, e12_56, w12_56, c12_57, c12_58, c12_59, c12_60, c12_61, c12_62]
        exact fin 2 (by rw [herr, if_neg g1', if_neg g2, if_pos g3]) (by decide)
      simp -implicitDefEqProofs (disch := omega) only [go_sem, Nat.reduceAdd, Nat.reduceMul, Nat.reduceSub, Nat.reduceBEq, Nat.reduceLeDiff, Nat.reduceLT, fn_transitref21_Check, e12_1, w12_1, e12_3, w12_3, c12_4, e12_6, w12_6, e12_8, w12_8, e12_10, w12_10, c12_11, e12_13, w12_13, e12_15, w12_15, e12_17, w12_17, e12_19, w12_19, c12_20, e12_22, w12_22, e12_24, w12_24, e12_26, w12_26, e12_28, w12_28, c12_29, e12_31, w12_31, c12_32, e12_34, w12_34, c12_35, c12_36, c12_37, c12_38, c12_39, e12_41, w12_41, c12_42, e12_44, w12_44, c12_45, c12_46, c12_47, e12_49, w12_49, c12_50, c12_51, c12_52, c12_53, c12_54, e12_56, w12_56, c12_57, c12_58, c12_59, c12_60, c12_61, c12_62]
      refine next_stay hi ⟨fun k hk => ?_, rfl, rfl⟩
      rcases Nat.lt_or_ge k i with hlt | hge
      · exact hall k hlt
      · have : k = i := by omega
        subst this
        rw [herr, if_neg g1', if_neg g2, if_neg (by simp [g3])]
  · rintro vs M ⟨hall, rfl, rfl⟩
    simp -implicitDefEqProofs (disch := omega) only [go_sem, Nat.reduceAdd, Nat.reduceMul, Nat.reduceSub, Nat.reduceBEq, Nat.reduceLeDiff, Nat.reduceLT, fn_transitref21_Check, e12_1, w12_1, e12_3, w12_3, c12_4, e12_6, w12_6, e12_8, w12_8, e12_10, w12_10, c12_11, e12_13, w12_13, e12_15, w12_15, e12_17, w12_17, e12_19, w12_19, c12_20, e12_22, w12_22, e12_24, w12_24, e12_26, w12_26, e12_28, w12_28, c12_29, e12_31, w12_31, c12_32, e12_34, w12_34, c12_35, c12_36, c12_37, c12_38, c12_39, e12_41, w12_41, c12_42, e12_44, w12_44, c12_45, c12_46, c12_47, e12_49, w12_49, c12_50, c12_51, c12_52, c12_53, c12_54, e12_56, w12_56, c12_57, c12_58, c12_59, c12_60, c12_61, c12_62, dec_irrefl, firstErr_none hall, pairV]

end Go.Vm.C

