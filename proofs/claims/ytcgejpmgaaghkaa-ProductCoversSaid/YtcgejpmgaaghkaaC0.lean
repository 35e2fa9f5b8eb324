/- The abstract code of the functions that the statements reach, printed by a program, each with the equation that it is what the loaded program says. Part 0. -/
import Derived.Test.YtcgejpmgaaghkaaProg
import Derived.Test.YtcgejpmgaaghkaaVm2
import Derived.KernelRfl
namespace Go.Vm.C
open Go.Vm

abbrev i_main_main : Nat := 0
abbrev i_gosem_cut : Nat := 1
abbrev i_gosem_cut_init : Nat := 2
abbrev i_transitlaw21_ProductChecks : Nat := 3
abbrev i_transitlaw21_ProductSelects : Nat := 4
abbrev i_transitlaw21_ProductPrices : Nat := 5
abbrev i_transitlaw21_ProductCheapest : Nat := 6
abbrev i_transitlaw21_ProductCovers : Nat := 7
abbrev i_transitlaw21_ProductDiscounts : Nat := 8
abbrev i_transitlaw21_large : Nat := 9
abbrev i_transitlaw21_exampleHolds : Nat := 10
abbrev i_product_Check : Nat := 11
abbrev i_transitref21_Check : Nat := 12
abbrev i_product_Covers : Nat := 13
abbrev i_transitref21_Covers : Nat := 14
abbrev i_transitref03_SameInts : Nat := 15
abbrev i_product_Options : Nat := 16
abbrev i_transitref21_Options : Nat := 17
abbrev i_product_Price : Nat := 18
abbrev i_transitref21_Price : Nat := 19
abbrev i_product_Cheapest : Nat := 20
abbrev i_transitref21_Cheapest : Nat := 21
abbrev i_transitref21_Right : Nat := 22
abbrev i_product_within : Nat := 23
abbrev i_ident_Valid : Nat := 24
abbrev i_transitref21_within : Nat := 25
abbrev i_transitref15_Name : Nat := 26
abbrev i_product_later : Nat := 27
abbrev i_product_Covers_1 : Nat := 28
abbrev i_bitset_Set_Union : Nat := 29
abbrev i_bitset_Set_Len : Nat := 30
abbrev i_bitset_Set_Within : Nat := 31
abbrev i_transitref06_Union : Nat := 32
abbrev i_transitref06_List : Nat := 33
abbrev i_transitref06_Minus : Nat := 34
abbrev i_transitref21_soon : Nat := 35
abbrev i_product_Cheapest_1 : Nat := 36
abbrev i_transitref06_Has : Nat := 37
abbrev i_transitref06_With : Nat := 38
abbrev i_transitref06_Without : Nat := 39
abbrev i_transitref06_Power : Nat := 40
abbrev i_runtime_boundsError_Error : Nat := 41
abbrev i_runtime_boundsError_RuntimeError : Nat := 42
abbrev i_runtime_errorString_Error : Nat := 43
abbrev i_runtime_errorString_RuntimeError : Nat := 44
abbrev i_runtime_plainError_Error : Nat := 45
abbrev i_runtime_plainError_RuntimeError : Nat := 46
abbrev i_runtime_errorAddressString_Error : Nat := 47
abbrev i_runtime_errorAddressString_RuntimeError : Nat := 48
abbrev i_runtime_TypeAssertionError_Error : Nat := 49
abbrev i_runtime_TypeAssertionError_RuntimeError : Nat := 50
abbrev i_runtime_PanicNilError_Error : Nat := 51
abbrev i_runtime_PanicNilError_RuntimeError : Nat := 52
abbrev i_internal_abi_Type_Align : Nat := 53
abbrev i_internal_runtime_maps_unhashableTypeError_Error : Nat := 54
abbrev i_internal_runtime_maps_unhashableTypeError_RuntimeError : Nat := 55
abbrev i_internal_abi_Kind_String : Nat := 56
noncomputable abbrev PR : Program := Go.Proofs.Try.prog

def h_transitlaw21_ProductChecks : Hints := ⟨[(0, [1]), (1, [1, 8]), (2, [2]), (3, [1, 3, 4]), (4, [3, 4, 5, 6]), (5, [2])], [], []⟩
def o3_0 : List AOper := [⟨some 1, (.box 4 (.tmp 0)), false, none⟩,
  ⟨some 2, (.mov (.const (.bool false))), true, none⟩]
def c3_1 : ACode := (.region o3_0 [1])
def w3_1 (_P : Program) (Q : Exit → Slots → Mem → Prop) (M : Mem) (v0 : V) : Prop :=
  @OptMH (boxV 4 v0 M) ⟨fun t1_1 M1 =>
  Q .normal [(1, t1_1)] M1⟩
theorem e3_1 (P : Program) (Q : Exit → Slots → Mem → Prop) (s : Slots) (M : Mem) : wpC P c3_1 Q s M = w3_1 P Q M (sget s 0) := by kernel_rfl
def o3_2 : List AOper := [⟨some 9, (.call i_transitlaw21_exampleHolds []), true, none⟩,
  ⟨some 2, (.mov (.tmp 9)), true, none⟩]
def c3_3 : ACode := (.region o3_2 [2])
def w3_3 (P : Program) (Q : Exit → Slots → Mem → Prop) (M : Mem) : Prop :=
  @CallH P i_transitlaw21_exampleHolds [] M ⟨fun t9_1 M1 => @OptBH (some t9_1) ⟨fun b9_1 =>
  Q .normal [(2, (.bool b9_1))] M1⟩⟩
theorem e3_3 (P : Program) (Q : Exit → Slots → Mem → Prop) (s : Slots) (M : Mem) : wpC P c3_3 Q s M = w3_3 P Q M := by kernel_rfl
def c3_4 : ACode := (.seq c3_3 .ret)
def o3_5 : List AOper := [⟨some 7, (.load 4 true (.tmp 1)), false, none⟩,
  ⟨some 8, (.call i_transitlaw21_large [(.tmp 7), (.const (.slice [] .nil))]), true, none⟩]
def c3_6 : ACode := (.seq (.region o3_5 [1, 8]) (.cond (.tmp 8) c3_4 .skip))
def w3_6 (P : Program) (Q : Exit → Slots → Mem → Prop) (M : Mem) (v1 : V) : Prop :=
  @OptVH (loadV 4 true v1 M) ⟨fun t7_1 =>
  @CallH P i_transitlaw21_large [t7_1, (.slice [] .nil)] M ⟨fun t8_2 M2 => @OptBH (some t8_2) ⟨fun b8_2 =>
  @BIfH b8_2
  ⟨wpC P c3_4 Q [(1, v1), (8, (.bool b8_2))] M2⟩
  ⟨Q .normal [(1, v1), (8, (.bool b8_2))] M2⟩⟩⟩⟩
theorem e3_6 (P : Program) (Q : Exit → Slots → Mem → Prop) (s : Slots) (M : Mem) : wpC P c3_6 Q s M = w3_6 P Q M (sget s 1) := by kernel_rfl
def o3_7 : List AOper := [⟨some 11, (.load 4 true (.tmp 1)), false, none⟩,
  ⟨some 12, (.call i_product_Check [(.tmp 11)]), false, none⟩,
  ⟨some 10, (.mov (.tmp 12)), false, none⟩,
  ⟨some 13, (.extract (.tmp 10) 0), false, none⟩,
  ⟨some 14, (.extract (.tmp 10) 1), false, none⟩,
  ⟨some 3, (.mov (.tmp 13)), false, none⟩,
  ⟨some 4, (.mov (.tmp 14)), false, none⟩]
def c3_8 : ACode := (.region o3_7 [1, 3, 4])
def w3_8 (P : Program) (Q : Exit → Slots → Mem → Prop) (M : Mem) (v1 : V) : Prop :=
  @OptVH (loadV 4 true v1 M) ⟨fun t11_1 =>
  @CallH P i_product_Check [t11_1] M ⟨fun t12_2 M2 =>
  @OptVH (extractV t12_2 0) ⟨fun t13_4 =>
  @OptVH (extractV t12_2 1) ⟨fun t14_5 =>
  Q .normal [(1, v1), (3, t13_4), (4, t14_5)] M2⟩⟩⟩⟩
theorem e3_8 (P : Program) (Q : Exit → Slots → Mem → Prop) (s : Slots) (M : Mem) : wpC P c3_8 Q s M = w3_8 P Q M (sget s 1) := by kernel_rfl
def o3_9 : List AOper := [⟨some 16, (.load 4 true (.tmp 1)), false, none⟩,
  ⟨some 17, (.call i_transitref21_Check [(.tmp 16)]), false, none⟩,
  ⟨some 15, (.mov (.tmp 17)), false, none⟩,
  ⟨some 18, (.extract (.tmp 15) 0), false, none⟩,
  ⟨some 19, (.extract (.tmp 15) 1), false, none⟩,
  ⟨some 5, (.mov (.tmp 18)), false, none⟩,
  ⟨some 6, (.mov (.tmp 19)), false, none⟩]
def c3_10 : ACode := (.region o3_9 [3, 4, 5, 6])
def w3_10 (P : Program) (Q : Exit → Slots → Mem → Prop) (M : Mem) (v1 : V) (v3 : V) (v4 : V) : Prop :=
  @OptVH (loadV 4 true v1 M) ⟨fun t16_1 =>
  @CallH P i_transitref21_Check [t16_1] M ⟨fun t17_2 M2 =>
  @OptVH (extractV t17_2 0) ⟨fun t18_4 =>
  @OptVH (extractV t17_2 1) ⟨fun t19_5 =>
  Q .normal [(3, v3), (4, v4), (5, t18_4), (6, t19_5)] M2⟩⟩⟩⟩
theorem e3_10 (P : Program) (Q : Exit → Slots → Mem → Prop) (s : Slots) (M : Mem) : wpC P c3_10 Q s M = w3_10 P Q M (sget s 1) (sget s 3) (sget s 4) := by kernel_rfl
def o3_11 : List AOper := [⟨some 20, (.mov (.tmp 3)), false, none⟩,
  ⟨some 21, (.mov (.tmp 5)), false, none⟩,
  ⟨some 22, (.bin .eql .none (.tmp 20) (.tmp 21)), true, none⟩,
  ⟨some 23, (.mov (.tmp 22)), true, none⟩,
  ⟨some 24, (.mov (.tmp 4)), false, some (23, true)⟩,
  ⟨some 25, (.mov (.tmp 6)), false, some (23, true)⟩,
  ⟨some 26, (.bin .eql .none (.tmp 24) (.tmp 25)), true, some (23, true)⟩,
  ⟨some 27, (.pick (.tmp 23) (.tmp 26) (.const (.bool false))), true, none⟩,
  ⟨some 28, (.mov (.tmp 27)), true, none⟩,
  ⟨some 29, (.call i_transitlaw21_exampleHolds []), true, some (28, true)⟩,
  ⟨some 30, (.pick (.tmp 28) (.tmp 29) (.const (.bool false))), true, none⟩,
  ⟨some 2, (.mov (.tmp 30)), true, none⟩]
def c3_12 : ACode := (.region o3_11 [2])
def w3_12 (P : Program) (Q : Exit → Slots → Mem → Prop) (M : Mem) (v3 : V) (v4 : V) (v5 : V) (v6 : V) : Prop :=
  @OptBH (binV .eql .none v3 v5) ⟨fun b22_3 =>
  @BIfH b22_3
  ⟨@OptBH (binV .eql .none v4 v6) ⟨fun b26_7 =>
  @BIfH b26_7
  ⟨@CallH P i_transitlaw21_exampleHolds [] M ⟨fun t29_10 M10 => @OptBH (some t29_10) ⟨fun b29_10 =>
  Q .normal [(2, (.bool b29_10))] M10⟩⟩⟩
  ⟨Q .normal [(2, (.bool false))] M⟩⟩⟩
  ⟨Q .normal [(2, (.bool false))] M⟩⟩
theorem e3_12 (P : Program) (Q : Exit → Slots → Mem → Prop) (s : Slots) (M : Mem) : wpC P c3_12 Q s M = w3_12 P Q M (sget s 3) (sget s 4) (sget s 5) (sget s 6) := by kernel_rfl
def c3_13 : ACode := (.seq c3_12 .ret)
def c3_14 : ACode := (.seq c3_10 c3_13)
def c3_15 : ACode := (.seq c3_8 c3_14)
def c3_16 : ACode := (.seq c3_6 c3_15)
def c3_17 : ACode := (.seq c3_1 c3_16)
def fn_transitlaw21_ProductChecks : AFn := ⟨31, [(.tmp 2)], c3_17⟩
theorem fn_transitlaw21_ProductChecks_ok : resFn PR h_transitlaw21_ProductChecks i_transitlaw21_ProductChecks = some fn_transitlaw21_ProductChecks := by kernel_rfl

def h_transitlaw21_ProductSelects : Hints := ⟨[(0, [1, 2]), (1, [1, 2, 8]), (2, [4]), (3, [1, 2, 5]), (4, [1, 2, 5, 14]), (5, [1, 2, 5]), (6, [1, 2, 5, 31]), (7, [4]), (8, [4])], [(4, [1, 2, 5])], []⟩
def o4_0 : List AOper := [⟨some 2, (.box 4 (.tmp 0)), false, none⟩,
  ⟨some 4, (.mov (.const (.bool false))), true, none⟩]
def c4_1 : ACode := (.region o4_0 [1, 2])
def w4_1 (_P : Program) (Q : Exit → Slots → Mem → Prop) (M : Mem) (v0 : V) (v1 : V) : Prop :=
  @OptMH (boxV 4 v0 M) ⟨fun t2_1 M1 =>
  Q .normal [(1, v1), (2, t2_1)] M1⟩
theorem e4_1 (P : Program) (Q : Exit → Slots → Mem → Prop) (s : Slots) (M : Mem) : wpC P c4_1 Q s M = w4_1 P Q M (sget s 0) (sget s 1) := by kernel_rfl
def o4_2 : List AOper := [⟨some 9, (.call i_transitlaw21_exampleHolds []), true, none⟩,
  ⟨some 4, (.mov (.tmp 9)), true, none⟩]
def c4_3 : ACode := (.region o4_2 [4])
def w4_3 (P : Program) (Q : Exit → Slots → Mem → Prop) (M : Mem) : Prop :=
  @CallH P i_transitlaw21_exampleHolds [] M ⟨fun t9_1 M1 => @OptBH (some t9_1) ⟨fun b9_1 =>
  Q .normal [(4, (.bool b9_1))] M1⟩⟩
theorem e4_3 (P : Program) (Q : Exit → Slots → Mem → Prop) (s : Slots) (M : Mem) : wpC P c4_3 Q s M = w4_3 P Q M := by kernel_rfl
def c4_4 : ACode := (.seq c4_3 .ret)
def o4_5 : List AOper := [⟨some 6, (.load 4 true (.tmp 2)), false, none⟩,
  ⟨some 7, (.mov (.tmp 1)), false, none⟩,
  ⟨some 8, (.call i_transitlaw21_large [(.tmp 6), (.tmp 7)]), true, none⟩]
def c4_6 : ACode := (.seq (.region o4_5 [1, 2, 8]) (.cond (.tmp 8) c4_4 .skip))
def w4_6 (P : Program) (Q : Exit → Slots → Mem → Prop) (M : Mem) (v1 : V) (v2 : V) : Prop :=
  @OptVH (loadV 4 true v2 M) ⟨fun t6_1 =>
  @CallH P i_transitlaw21_large [t6_1, v1] M ⟨fun t8_3 M3 => @OptBH (some t8_3) ⟨fun b8_3 =>
  @BIfH b8_3
  ⟨wpC P c4_4 Q [(1, v1), (2, v2), (8, (.bool b8_3))] M3⟩
  ⟨Q .normal [(1, v1), (2, v2), (8, (.bool b8_3))] M3⟩⟩⟩⟩
theorem e4_6 (P : Program) (Q : Exit → Slots → Mem → Prop) (s : Slots) (M : Mem) : wpC P c4_6 Q s M = w4_6 P Q M (sget s 1) (sget s 2) := by kernel_rfl
def o4_7 : List AOper := [⟨some 5, (.mov (.const (.int .i64 0))), false, none⟩]
def c4_8 : ACode := (.region o4_7 [1, 2, 5])
def w4_8 (_P : Program) (Q : Exit → Slots → Mem → Prop) (M : Mem) (v1 : V) (v2 : V) : Prop :=
  Q .normal [(1, v1), (2, v2), (5, (.int .i64 0))] M
theorem e4_8 (P : Program) (Q : Exit → Slots → Mem → Prop) (s : Slots) (M : Mem) : wpC P c4_8 Q s M = w4_8 P Q M (sget s 1) (sget s 2) := by kernel_rfl
def o4_9 : List AOper := [⟨some 10, (.mov (.tmp 5)), false, none⟩,
  ⟨some 11, (.fieldAddr 0 (.tmp 2)), false, none⟩,
  ⟨some 12, (.load 1 false (.tmp 11)), false, none⟩,
  ⟨some 13, (.lenSl (.tmp 12)), false, none⟩,
  ⟨some 14, (.bin .lss .none (.tmp 10) (.tmp 13)), true, none⟩]
def c4_10 : ACode := (.seq (.region o4_9 [1, 2, 5, 14]) (.cond (.tmp 14) .skip (.exit 0)))
def w4_10 (_P : Program) (Q : Exit → Slots → Mem → Prop) (M : Mem) (v1 : V) (v2 : V) (v5 : V) : Prop :=
  @OptVH (moveV 0 v2) ⟨fun t11_2 =>
  @OptVH (loadV 1 false t11_2 M) ⟨fun t12_3 =>
  @OptVH (lenV t12_3 M) ⟨fun t13_4 =>
  @OptBH (binV .lss .none v5 t13_4) ⟨fun b14_5 =>
  @BIfH b14_5
  ⟨Q .normal [(1, v1), (2, v2), (5, v5), (14, (.bool b14_5))] M⟩
  ⟨Q (.exit 0) [(1, v1), (2, v2), (5, v5), (14, (.bool b14_5))] M⟩⟩⟩⟩⟩
theorem e4_10 (P : Program) (Q : Exit → Slots → Mem → Prop) (s : Slots) (M : Mem) : wpC P c4_10 Q s M = w4_10 P Q M (sget s 1) (sget s 2) (sget s 5) := by kernel_rfl
def o4_11 : List AOper := [⟨some 4, (.mov (.const (.bool false))), true, none⟩]
def c4_12 : ACode := (.region o4_11 [4])
def w4_12 (_P : Program) (Q : Exit → Slots → Mem → Prop) (M : Mem) : Prop :=
  Q .normal [(4, (.bool false))] M
theorem e4_12 (P : Program) (Q : Exit → Slots → Mem → Prop) (s : Slots) (M : Mem) : wpC P c4_12 Q s M = w4_12 P Q M := by kernel_rfl
def c4_13 : ACode := (.seq c4_12 .ret)
def o4_14 : List AOper := [⟨some 17, (.fieldAddr 0 (.tmp 2)), false, none⟩,
  ⟨some 18, (.load 1 false (.tmp 17)), false, none⟩,
  ⟨some 19, (.mov (.tmp 5)), false, none⟩,
  ⟨some 20, (.indexSl 6 (.tmp 18) (.tmp 19)), false, none⟩,
  ⟨some 21, (.load 6 true (.tmp 20)), false, none⟩,
  ⟨some 22, (.mov (.tmp 1)), false, none⟩,
  ⟨some 23, (.call i_product_Covers [(.tmp 21), (.tmp 22)]), true, none⟩,
  ⟨some 24, (.fieldAddr 0 (.tmp 2)), false, none⟩,
  ⟨some 25, (.load 1 false (.tmp 24)), false, none⟩,
  ⟨some 26, (.mov (.tmp 5)), false, none⟩,
  ⟨some 27, (.indexSl 6 (.tmp 25) (.tmp 26)), false, none⟩,
  ⟨some 28, (.load 6 true (.tmp 27)), false, none⟩,
  ⟨some 29, (.mov (.tmp 1)), false, none⟩,
  ⟨some 30, (.call i_transitref21_Covers [(.tmp 28), (.tmp 29)]), true, none⟩,
  ⟨some 31, (.bin .neq .bool (.tmp 23) (.tmp 30)), true, none⟩]
def c4_15 : ACode := (.seq (.mixed o4_14 [true, true, true, true, true, true, true, true, true, true, true, true, true, false, true] [1, 2, 5, 31]) (.cond (.tmp 31) c4_13 .skip))
def w4_15 (P : Program) (Q : Exit → Slots → Mem → Prop) (M : Mem) (v1 : V) (v2 : V) (v5 : V) : Prop :=
  @OptVH (moveV 0 v2) ⟨fun t17_1 =>
  @OptVH (loadV 1 false t17_1 M) ⟨fun t18_2 =>
  @OptVH (indexSlV 6 t18_2 v5 M) ⟨fun t20_4 =>
  @OptVH (loadV 6 true t20_4 M) ⟨fun t21_5 =>
  @CallQ P i_product_Covers [t21_5, v1] M ⟨fun t23_7 M7 => @OptBH (some t23_7) ⟨fun b23_7 =>
  @OptVH (moveV 0 v2) ⟨fun t24_8 =>
  @OptVH (loadV 1 false t24_8 M7) ⟨fun t25_9 =>
  @OptVH (indexSlV 6 t25_9 v5 M7) ⟨fun t27_11 =>
  @OptVH (loadV 6 true t27_11 M7) ⟨fun t28_12 =>
  @CallH P i_transitref21_Covers [t28_12, v1] M7 ⟨fun t30_14 M14 => @OptBH (some t30_14) ⟨fun b30_14 =>
  @OptBH (binV .neq .bool (.bool b23_7) (.bool b30_14)) ⟨fun b31_15 =>
  @BIfH b31_15
  ⟨wpC P c4_13 Q [(1, v1), (2, v2), (5, v5), (31, (.bool b31_15))] M14⟩
  ⟨Q .normal [(1, v1), (2, v2), (5, v5), (31, (.bool b31_15))] M14⟩⟩⟩⟩⟩⟩⟩⟩⟩⟩⟩⟩⟩⟩
theorem e4_15 (P : Program) (Q : Exit → Slots → Mem → Prop) (s : Slots) (M : Mem) : wpC P c4_15 Q s M = w4_15 P Q M (sget s 1) (sget s 2) (sget s 5) := by kernel_rfl
def c4_16 : ACode := (.block 1 c4_15)
def o4_17 : List AOper := [⟨some 15, (.mov (.tmp 5)), false, none⟩,
  ⟨some 16, (.bin .add .none (.tmp 15) (.const (.int .i64 1))), false, none⟩,
  ⟨some 5, (.mov (.tmp 16)), false, none⟩]
def c4_18 : ACode := (.region o4_17 [1, 2, 5])
def w4_18 (_P : Program) (Q : Exit → Slots → Mem → Prop) (M : Mem) (v1 : V) (v2 : V) (v5 : V) : Prop :=
  @OptVH (binV .add .none v5 (.int .i64 1)) ⟨fun t16_2 =>
  Q .normal [(1, v1), (2, v2), (5, t16_2)] M⟩
theorem e4_18 (P : Program) (Q : Exit → Slots → Mem → Prop) (s : Slots) (M : Mem) : wpC P c4_18 Q s M = w4_18 P Q M (sget s 1) (sget s 2) (sget s 5) := by kernel_rfl
def c4_19 : ACode := (.seq c4_16 c4_18)
def c4_20 : ACode := (.seq c4_10 c4_19)
def c4_21 : ACode := (.loop [1, 2, 5] c4_20)
def c4_22 : ACode := (.block 0 c4_21)
def c4_23 : ACode := (.seq c4_8 c4_22)
def o4_24 : List AOper := [⟨some 32, (.load 4 true (.tmp 2)), false, none⟩,
  ⟨some 33, (.mov (.tmp 1)), false, none⟩,
  ⟨some 34, (.call i_product_Options [(.tmp 32), (.tmp 33)]), false, none⟩,
  ⟨some 35, (.load 4 true (.tmp 2)), false, none⟩,
  ⟨some 36, (.mov (.tmp 1)), false, none⟩,
  ⟨some 37, (.call i_transitref21_Options [(.tmp 35), (.tmp 36)]), false, none⟩,
  ⟨some 38, (.call i_transitref03_SameInts [(.tmp 34), (.tmp 37)]), true, none⟩,
  ⟨some 39, (.mov (.tmp 38)), true, none⟩,
  ⟨some 40, (.call i_transitlaw21_exampleHolds []), true, some (39, true)⟩,
  ⟨some 41, (.pick (.tmp 39) (.tmp 40) (.const (.bool false))), true, none⟩,
  ⟨some 4, (.mov (.tmp 41)), true, none⟩]
def c4_25 : ACode := (.mixed o4_24 [true, true, true, true, true, false, false, true, false, true, true] [4])
def w4_25 (P : Program) (Q : Exit → Slots → Mem → Prop) (M : Mem) (v1 : V) (v2 : V) : Prop :=
  @OptVH (loadV 4 true v2 M) ⟨fun t32_1 =>
  @CallQ P i_product_Options [t32_1, v1] M ⟨fun t34_3 M3 =>
  @OptVH (loadV 4 true v2 M3) ⟨fun t35_4 =>
  @CallH P i_transitref21_Options [t35_4, v1] M3 ⟨fun t37_6 M6 =>
  @CallH P i_transitref03_SameInts [t34_3, t37_6] M6 ⟨fun t38_7 M7 => @OptBH (some t38_7) ⟨fun b38_7 =>
  @BIfH b38_7
  ⟨@CallH P i_transitlaw21_exampleHolds [] M7 ⟨fun t40_9 M9 => @OptBH (some t40_9) ⟨fun b40_9 =>
  Q .normal [(4, (.bool b40_9))] M9⟩⟩⟩
  ⟨Q .normal [(4, (.bool false))] M7⟩⟩⟩⟩⟩⟩⟩
theorem e4_25 (P : Program) (Q : Exit → Slots → Mem → Prop) (s : Slots) (M : Mem) : wpC P c4_25 Q s M = w4_25 P Q M (sget s 1) (sget s 2) := by kernel_rfl
def c4_26 : ACode := (.seq c4_25 .ret)
def c4_27 : ACode := (.seq c4_23 c4_26)
def c4_28 : ACode := (.seq c4_6 c4_27)
def c4_29 : ACode := (.seq c4_1 c4_28)
def fn_transitlaw21_ProductSelects : AFn := ⟨42, [(.tmp 4)], c4_29⟩
theorem fn_transitlaw21_ProductSelects_ok : resFn PR h_transitlaw21_ProductSelects i_transitlaw21_ProductSelects = some fn_transitlaw21_ProductSelects := by kernel_rfl

def h_transitlaw21_ProductPrices : Hints := ⟨[(0, [1, 2, 3]), (1, [1, 2, 3, 16]), (2, [6]), (3, [1, 2, 3, 7, 8]), (4, [1, 2, 3, 7, 8, 9, 10]), (5, [1, 2, 3, 7, 8, 9, 10, 11, 12]), (6, [7, 8, 9, 10, 11, 12, 13, 14]), (7, [6])], [], []⟩
def o5_0 : List AOper := [⟨some 3, (.box 4 (.tmp 0)), false, none⟩,
  ⟨some 6, (.mov (.const (.bool false))), true, none⟩]
def c5_1 : ACode := (.region o5_0 [1, 2, 3])
def w5_1 (_P : Program) (Q : Exit → Slots → Mem → Prop) (M : Mem) (v0 : V) (v1 : V) (v2 : V) : Prop :=
  @OptMH (boxV 4 v0 M) ⟨fun t3_1 M1 =>
  Q .normal [(1, v1), (2, v2), (3, t3_1)] M1⟩
theorem e5_1 (P : Program) (Q : Exit → Slots → Mem → Prop) (s : Slots) (M : Mem) : wpC P c5_1 Q s M = w5_1 P Q M (sget s 0) (sget s 1) (sget s 2) := by kernel_rfl
def o5_2 : List AOper := [⟨some 17, (.call i_transitlaw21_exampleHolds []), true, none⟩,
  ⟨some 6, (.mov (.tmp 17)), true, none⟩]
def c5_3 : ACode := (.region o5_2 [6])
def w5_3 (P : Program) (Q : Exit → Slots → Mem → Prop) (M : Mem) : Prop :=
  @CallH P i_transitlaw21_exampleHolds [] M ⟨fun t17_1 M1 => @OptBH (some t17_1) ⟨fun b17_1 =>
  Q .normal [(6, (.bool b17_1))] M1⟩⟩
theorem e5_3 (P : Program) (Q : Exit → Slots → Mem → Prop) (s : Slots) (M : Mem) : wpC P c5_3 Q s M = w5_3 P Q M := by kernel_rfl
def c5_4 : ACode := (.seq c5_3 .ret)
def o5_5 : List AOper := [⟨some 15, (.load 4 true (.tmp 3)), false, none⟩,
  ⟨some 16, (.call i_transitlaw21_large [(.tmp 15), (.const (.slice [] .nil))]), true, none⟩]
def c5_6 : ACode := (.seq (.region o5_5 [1, 2, 3, 16]) (.cond (.tmp 16) c5_4 .skip))
def w5_6 (P : Program) (Q : Exit → Slots → Mem → Prop) (M : Mem) (v1 : V) (v2 : V) (v3 : V) : Prop :=
  @OptVH (loadV 4 true v3 M) ⟨fun t15_1 =>
  @CallH P i_transitlaw21_large [t15_1, (.slice [] .nil)] M ⟨fun t16_2 M2 => @OptBH (some t16_2) ⟨fun b16_2 =>
  @BIfH b16_2
  ⟨wpC P c5_4 Q [(1, v1), (2, v2), (3, v3), (16, (.bool b16_2))] M2⟩
  ⟨Q .normal [(1, v1), (2, v2), (3, v3), (16, (.bool b16_2))] M2⟩⟩⟩⟩
theorem e5_6 (P : Program) (Q : Exit → Slots → Mem → Prop) (s : Slots) (M : Mem) : wpC P c5_6 Q s M = w5_6 P Q M (sget s 1) (sget s 2) (sget s 3) := by kernel_rfl
def o5_7 : List AOper := [⟨some 19, (.load 4 true (.tmp 3)), false, none⟩,
  ⟨some 20, (.mov (.tmp 1)), false, none⟩,
  ⟨some 21, (.mov (.tmp 2)), false, none⟩,
  ⟨some 22, (.call i_product_Price [(.tmp 19), (.tmp 20), (.const (.bool true)), (.tmp 21)]), false, none⟩,
  ⟨some 18, (.mov (.tmp 22)), false, none⟩,
  ⟨some 23, (.extract (.tmp 18) 0), false, none⟩,
  ⟨some 24, (.extract (.tmp 18) 1), true, none⟩,
  ⟨some 7, (.mov (.tmp 23)), false, none⟩,
  ⟨some 8, (.mov (.tmp 24)), true, none⟩]
def c5_8 : ACode := (.region o5_7 [1, 2, 3, 7, 8])
def w5_8 (P : Program) (Q : Exit → Slots → Mem → Prop) (M : Mem) (v1 : V) (v2 : V) (v3 : V) : Prop :=
  @OptVH (loadV 4 true v3 M) ⟨fun t19_1 =>
  @CallH P i_product_Price [t19_1, v1, (.bool true), v2] M ⟨fun t22_4 M4 =>
  @OptVH (extractV t22_4 0) ⟨fun t23_6 =>
  @OptBH (extractV t22_4 1) ⟨fun b24_7 =>
  Q .normal [(1, v1), (2, v2), (3, v3), (7, t23_6), (8, (.bool b24_7))] M4⟩⟩⟩⟩
theorem e5_8 (P : Program) (Q : Exit → Slots → Mem → Prop) (s : Slots) (M : Mem) : wpC P c5_8 Q s M = w5_8 P Q M (sget s 1) (sget s 2) (sget s 3) := by kernel_rfl
def o5_9 : List AOper := [⟨some 26, (.load 4 true (.tmp 3)), false, none⟩,
  ⟨some 27, (.mov (.tmp 1)), false, none⟩,
  ⟨some 28, (.mov (.tmp 2)), false, none⟩,
  ⟨some 29, (.call i_transitref21_Price [(.tmp 26), (.tmp 27), (.const (.bool true)), (.tmp 28)]), false, none⟩,
  ⟨some 25, (.mov (.tmp 29)), false, none⟩,
  ⟨some 30, (.extract (.tmp 25) 0), false, none⟩,
  ⟨some 31, (.extract (.tmp 25) 1), true, none⟩,
  ⟨some 9, (.mov (.tmp 30)), false, none⟩,
  ⟨some 10, (.mov (.tmp 31)), true, none⟩]
def c5_10 : ACode := (.region o5_9 [1, 2, 3, 7, 8, 9, 10])
def w5_10 (P : Program) (Q : Exit → Slots → Mem → Prop) (M : Mem) (v1 : V) (v2 : V) (v3 : V) (v7 : V) (v8 : V) : Prop :=
  @OptVH (loadV 4 true v3 M) ⟨fun t26_1 =>
  @CallH P i_transitref21_Price [t26_1, v1, (.bool true), v2] M ⟨fun t29_4 M4 =>
  @OptVH (extractV t29_4 0) ⟨fun t30_6 =>
  @OptBH (extractV t29_4 1) ⟨fun b31_7 =>
  Q .normal [(1, v1), (2, v2), (3, v3), (7, v7), (8, v8), (9, t30_6), (10, (.bool b31_7))] M4⟩⟩⟩⟩
theorem e5_10 (P : Program) (Q : Exit → Slots → Mem → Prop) (s : Slots) (M : Mem) : wpC P c5_10 Q s M = w5_10 P Q M (sget s 1) (sget s 2) (sget s 3) (sget s 7) (sget s 8) := by kernel_rfl
def o5_11 : List AOper := [⟨some 33, (.load 4 true (.tmp 3)), false, none⟩,
  ⟨some 34, (.mov (.tmp 1)), false, none⟩,
  ⟨some 35, (.mov (.tmp 2)), false, none⟩,
  ⟨some 36, (.call i_product_Price [(.tmp 33), (.tmp 34), (.const (.bool false)), (.tmp 35)]), false, none⟩,
  ⟨some 32, (.mov (.tmp 36)), false, none⟩,
  ⟨some 37, (.extract (.tmp 32) 0), false, none⟩,
  ⟨some 38, (.extract (.tmp 32) 1), true, none⟩,
  ⟨some 11, (.mov (.tmp 37)), false, none⟩,
  ⟨some 12, (.mov (.tmp 38)), true, none⟩]
def c5_12 : ACode := (.region o5_11 [1, 2, 3, 7, 8, 9, 10, 11, 12])
def w5_12 (P : Program) (Q : Exit → Slots → Mem → Prop) (M : Mem) (v1 : V) (v2 : V) (v3 : V) (v7 : V) (v8 : V) (v9 : V) (v10 : V) : Prop :=
  @OptVH (loadV 4 true v3 M) ⟨fun t33_1 =>
  @CallH P i_product_Price [t33_1, v1, (.bool false), v2] M ⟨fun t36_4 M4 =>
  @OptVH (extractV t36_4 0) ⟨fun t37_6 =>
  @OptBH (extractV t36_4 1) ⟨fun b38_7 =>
  Q .normal [(1, v1), (2, v2), (3, v3), (7, v7), (8, v8), (9, v9), (10, v10), (11, t37_6), (12, (.bool b38_7))] M4⟩⟩⟩⟩
theorem e5_12 (P : Program) (Q : Exit → Slots → Mem → Prop) (s : Slots) (M : Mem) : wpC P c5_12 Q s M = w5_12 P Q M (sget s 1) (sget s 2) (sget s 3) (sget s 7) (sget s 8) (sget s 9) (sget s 10) := by kernel_rfl
def o5_13 : List AOper := [⟨some 40, (.load 4 true (.tmp 3)), false, none⟩,
  ⟨some 41, (.mov (.tmp 1)), false, none⟩,
  ⟨some 42, (.mov (.tmp 2)), false, none⟩,
  ⟨some 43, (.call i_transitref21_Price [(.tmp 40), (.tmp 41), (.const (.bool false)), (.tmp 42)]), false, none⟩,
  ⟨some 39, (.mov (.tmp 43)), false, none⟩,
  ⟨some 44, (.extract (.tmp 39) 0), false, none⟩,
  ⟨some 45, (.extract (.tmp 39) 1), true, none⟩,
  ⟨some 13, (.mov (.tmp 44)), false, none⟩,
  ⟨some 14, (.mov (.tmp 45)), true, none⟩]
def c5_14 : ACode := (.region o5_13 [7, 8, 9, 10, 11, 12, 13, 14])
def w5_14 (P : Program) (Q : Exit → Slots → Mem → Prop) (M : Mem) (v1 : V) (v2 : V) (v3 : V) (v7 : V) (v8 : V) (v9 : V) (v10 : V) (v11 : V) (v12 : V) : Prop :=
  @OptVH (loadV 4 true v3 M) ⟨fun t40_1 =>
  @CallH P i_transitref21_Price [t40_1, v1, (.bool false), v2] M ⟨fun t43_4 M4 =>
  @OptVH (extractV t43_4 0) ⟨fun t44_6 =>
  @OptBH (extractV t43_4 1) ⟨fun b45_7 =>
  Q .normal [(7, v7), (8, v8), (9, v9), (10, v10), (11, v11), (12, v12), (13, t44_6), (14, (.bool b45_7))] M4⟩⟩⟩⟩
theorem e5_14 (P : Program) (Q : Exit → Slots → Mem → Prop) (s : Slots) (M : Mem) : wpC P c5_14 Q s M = w5_14 P Q M (sget s 1) (sget s 2) (sget s 3) (sget s 7) (sget s 8) (sget s 9) (sget s 10) (sget s 11) (sget s 12) := by kernel_rfl
def o5_15 : List AOper := [⟨some 46, (.mov (.tmp 7)), false, none⟩,
  ⟨some 47, (.mov (.tmp 9)), false, none⟩,
  ⟨some 48, (.bin .eql .none (.tmp 46) (.tmp 47)), true, none⟩,
  ⟨some 49, (.mov (.tmp 48)), true, none⟩,
  ⟨some 50, (.mov (.tmp 8)), true, some (49, true)⟩,
  ⟨some 51, (.mov (.tmp 10)), true, some (49, true)⟩,
  ⟨some 52, (.bin .eql .bool (.tmp 50) (.tmp 51)), true, some (49, true)⟩,
  ⟨some 53, (.pick (.tmp 49) (.tmp 52) (.const (.bool false))), true, none⟩,
  ⟨some 54, (.mov (.tmp 53)), true, none⟩,
  ⟨some 55, (.mov (.tmp 11)), false, some (54, true)⟩,
  ⟨some 56, (.mov (.tmp 13)), false, some (54, true)⟩,
  ⟨some 57, (.bin .eql .none (.tmp 55) (.tmp 56)), true, some (54, true)⟩,
  ⟨some 58, (.pick (.tmp 54) (.tmp 57) (.const (.bool false))), true, none⟩,
  ⟨some 59, (.mov (.tmp 58)), true, none⟩,
  ⟨some 60, (.mov (.tmp 12)), true, some (59, true)⟩,
  ⟨some 61, (.mov (.tmp 14)), true, some (59, true)⟩,
  ⟨some 62, (.bin .eql .bool (.tmp 60) (.tmp 61)), true, some (59, true)⟩,
  ⟨some 63, (.pick (.tmp 59) (.tmp 62) (.const (.bool false))), true, none⟩,
  ⟨some 64, (.mov (.tmp 63)), true, none⟩,
  ⟨some 65, (.call i_transitlaw21_exampleHolds []), true, some (64, true)⟩,
  ⟨some 66, (.pick (.tmp 64) (.tmp 65) (.const (.bool false))), true, none⟩,
  ⟨some 6, (.mov (.tmp 66)), true, none⟩]
def c5_16 : ACode := (.region o5_15 [6])
def w5_16 (P : Program) (Q : Exit → Slots → Mem → Prop) (M : Mem) (v7 : V) (v8 : V) (v9 : V) (v10 : V) (v11 : V) (v12 : V) (v13 : V) (v14 : V) : Prop :=
  @OptBH (binV .eql .none v7 v9) ⟨fun b48_3 =>
  @BIfH b48_3
  ⟨@OptBH (some v8) ⟨fun b50_5 =>
  @OptBH (some v10) ⟨fun b51_6 =>
  @OptBH (binV .eql .bool (.bool b50_5) (.bool b51_6)) ⟨fun b52_7 =>
  @BIfH b52_7
  ⟨@OptBH (binV .eql .none v11 v13) ⟨fun b57_12 =>
  @BIfH b57_12
  ⟨@OptBH (some v12) ⟨fun b60_15 =>
  @OptBH (some v14) ⟨fun b61_16 =>
  @OptBH (binV .eql .bool (.bool b60_15) (.bool b61_16)) ⟨fun b62_17 =>
  @BIfH b62_17
  ⟨@CallH P i_transitlaw21_exampleHolds [] M ⟨fun t65_20 M20 => @OptBH (some t65_20) ⟨fun b65_20 =>
  Q .normal [(6, (.bool b65_20))] M20⟩⟩⟩
  ⟨Q .normal [(6, (.bool false))] M⟩⟩⟩⟩⟩
  ⟨Q .normal [(6, (.bool false))] M⟩⟩⟩
  ⟨Q .normal [(6, (.bool false))] M⟩⟩⟩⟩⟩
  ⟨Q .normal [(6, (.bool false))] M⟩⟩
theorem e5_16 (P : Program) (Q : Exit → Slots → Mem → Prop) (s : Slots) (M : Mem) : wpC P c5_16 Q s M = w5_16 P Q M (sget s 7) (sget s 8) (sget s 9) (sget s 10) (sget s 11) (sget s 12) (sget s 13) (sget s 14) := by kernel_rfl
def c5_17 : ACode := (.seq c5_16 .ret)
def c5_18 : ACode := (.seq c5_14 c5_17)
def c5_19 : ACode := (.seq c5_12 c5_18)
def c5_20 : ACode := (.seq c5_10 c5_19)
def c5_21 : ACode := (.seq c5_8 c5_20)
def c5_22 : ACode := (.seq c5_6 c5_21)
def c5_23 : ACode := (.seq c5_1 c5_22)
def fn_transitlaw21_ProductPrices : AFn := ⟨67, [(.tmp 6)], c5_23⟩
theorem fn_transitlaw21_ProductPrices_ok : resFn PR h_transitlaw21_ProductPrices i_transitlaw21_ProductPrices = some fn_transitlaw21_ProductPrices := by kernel_rfl

def h_transitlaw21_ProductCheapest : Hints := ⟨[(0, [1, 2]), (1, [1, 2, 13]), (2, [4]), (3, [1, 2, 5, 6, 7]), (4, [5, 6, 7, 8, 9, 10]), (5, [4])], [], []⟩
def o6_0 : List AOper := [⟨some 2, (.box 4 (.tmp 0)), false, none⟩,
  ⟨some 4, (.mov (.const (.bool false))), true, none⟩]
def c6_1 : ACode := (.region o6_0 [1, 2])
def w6_1 (_P : Program) (Q : Exit → Slots → Mem → Prop) (M : Mem) (v0 : V) (v1 : V) : Prop :=
  @OptMH (boxV 4 v0 M) ⟨fun t2_1 M1 =>
  Q .normal [(1, v1), (2, t2_1)] M1⟩
theorem e6_1 (P : Program) (Q : Exit → Slots → Mem → Prop) (s : Slots) (M : Mem) : wpC P c6_1 Q s M = w6_1 P Q M (sget s 0) (sget s 1) := by kernel_rfl
def o6_2 : List AOper := [⟨some 14, (.call i_transitlaw21_exampleHolds []), true, none⟩,
  ⟨some 4, (.mov (.tmp 14)), true, none⟩]
def c6_3 : ACode := (.region o6_2 [4])
def w6_3 (P : Program) (Q : Exit → Slots → Mem → Prop) (M : Mem) : Prop :=
  @CallH P i_transitlaw21_exampleHolds [] M ⟨fun t14_1 M1 => @OptBH (some t14_1) ⟨fun b14_1 =>
  Q .normal [(4, (.bool b14_1))] M1⟩⟩
theorem e6_3 (P : Program) (Q : Exit → Slots → Mem → Prop) (s : Slots) (M : Mem) : wpC P c6_3 Q s M = w6_3 P Q M := by kernel_rfl
def c6_4 : ACode := (.seq c6_3 .ret)
def o6_5 : List AOper := [⟨some 11, (.load 4 true (.tmp 2)), false, none⟩,
  ⟨some 12, (.mov (.tmp 1)), false, none⟩,
  ⟨some 13, (.call i_transitlaw21_large [(.tmp 11), (.tmp 12)]), true, none⟩]
def c6_6 : ACode := (.seq (.region o6_5 [1, 2, 13]) (.cond (.tmp 13) c6_4 .skip))
def w6_6 (P : Program) (Q : Exit → Slots → Mem → Prop) (M : Mem) (v1 : V) (v2 : V) : Prop :=
  @OptVH (loadV 4 true v2 M) ⟨fun t11_1 =>
  @CallH P i_transitlaw21_large [t11_1, v1] M ⟨fun t13_3 M3 => @OptBH (some t13_3) ⟨fun b13_3 =>
  @BIfH b13_3
  ⟨wpC P c6_4 Q [(1, v1), (2, v2), (13, (.bool b13_3))] M3⟩
  ⟨Q .normal [(1, v1), (2, v2), (13, (.bool b13_3))] M3⟩⟩⟩⟩
theorem e6_6 (P : Program) (Q : Exit → Slots → Mem → Prop) (s : Slots) (M : Mem) : wpC P c6_6 Q s M = w6_6 P Q M (sget s 1) (sget s 2) := by kernel_rfl
def o6_7 : List AOper := [⟨some 16, (.load 4 true (.tmp 2)), false, none⟩,
  ⟨some 17, (.mov (.tmp 1)), false, none⟩,
  ⟨some 18, (.call i_product_Cheapest [(.tmp 16), (.tmp 17)]), false, none⟩,
  ⟨some 15, (.mov (.tmp 18)), false, none⟩,
  ⟨some 19, (.extract (.tmp 15) 0), false, none⟩,
  ⟨some 20, (.extract (.tmp 15) 1), false, none⟩,
  ⟨some 21, (.extract (.tmp 15) 2), true, none⟩,
  ⟨some 5, (.mov (.tmp 19)), false, none⟩,
  ⟨some 6, (.mov (.tmp 20)), false, none⟩,
  ⟨some 7, (.mov (.tmp 21)), true, none⟩]
def c6_8 : ACode := (.region o6_7 [1, 2, 5, 6, 7])
def w6_8 (P : Program) (Q : Exit → Slots → Mem → Prop) (M : Mem) (v1 : V) (v2 : V) : Prop :=
  @OptVH (loadV 4 true v2 M) ⟨fun t16_1 =>
  @CallH P i_product_Cheapest [t16_1, v1] M ⟨fun t18_3 M3 =>
  @OptVH (extractV t18_3 0) ⟨fun t19_5 =>
  @OptVH (extractV t18_3 1) ⟨fun t20_6 =>
  @OptBH (extractV t18_3 2) ⟨fun b21_7 =>
  Q .normal [(1, v1), (2, v2), (5, t19_5), (6, t20_6), (7, (.bool b21_7))] M3⟩⟩⟩⟩⟩
theorem e6_8 (P : Program) (Q : Exit → Slots → Mem → Prop) (s : Slots) (M : Mem) : wpC P c6_8 Q s M = w6_8 P Q M (sget s 1) (sget s 2) := by kernel_rfl
def o6_9 : List AOper := [⟨some 23, (.load 4 true (.tmp 2)), false, none⟩,
  ⟨some 24, (.mov (.tmp 1)), false, none⟩,
  ⟨some 25, (.call i_transitref21_Cheapest [(.tmp 23), (.tmp 24)]), false, none⟩,
  ⟨some 22, (.mov (.tmp 25)), false, none⟩,
  ⟨some 26, (.extract (.tmp 22) 0), false, none⟩,
  ⟨some 27, (.extract (.tmp 22) 1), false, none⟩,
  ⟨some 28, (.extract (.tmp 22) 2), true, none⟩,
  ⟨some 8, (.mov (.tmp 26)), false, none⟩,
  ⟨some 9, (.mov (.tmp 27)), false, none⟩,
  ⟨some 10, (.mov (.tmp 28)), true, none⟩]
def c6_10 : ACode := (.region o6_9 [5, 6, 7, 8, 9, 10])
def w6_10 (P : Program) (Q : Exit → Slots → Mem → Prop) (M : Mem) (v1 : V) (v2 : V) (v5 : V) (v6 : V) (v7 : V) : Prop :=
  @OptVH (loadV 4 true v2 M) ⟨fun t23_1 =>
  @CallH P i_transitref21_Cheapest [t23_1, v1] M ⟨fun t25_3 M3 =>
  @OptVH (extractV t25_3 0) ⟨fun t26_5 =>
  @OptVH (extractV t25_3 1) ⟨fun t27_6 =>
  @OptBH (extractV t25_3 2) ⟨fun b28_7 =>
  Q .normal [(5, v5), (6, v6), (7, v7), (8, t26_5), (9, t27_6), (10, (.bool b28_7))] M3⟩⟩⟩⟩⟩
theorem e6_10 (P : Program) (Q : Exit → Slots → Mem → Prop) (s : Slots) (M : Mem) : wpC P c6_10 Q s M = w6_10 P Q M (sget s 1) (sget s 2) (sget s 5) (sget s 6) (sget s 7) := by kernel_rfl
def o6_11 : List AOper := [⟨some 29, (.mov (.tmp 5)), false, none⟩,
  ⟨some 30, (.mov (.tmp 8)), false, none⟩,
  ⟨some 31, (.bin .eql .none (.tmp 29) (.tmp 30)), true, none⟩,
  ⟨some 32, (.mov (.tmp 31)), true, none⟩,
  ⟨some 33, (.mov (.tmp 6)), false, some (32, true)⟩,
  ⟨some 34, (.mov (.tmp 9)), false, some (32, true)⟩,
  ⟨some 35, (.bin .eql .none (.tmp 33) (.tmp 34)), true, some (32, true)⟩,
  ⟨some 36, (.pick (.tmp 32) (.tmp 35) (.const (.bool false))), true, none⟩,
  ⟨some 37, (.mov (.tmp 36)), true, none⟩,
  ⟨some 38, (.mov (.tmp 7)), true, some (37, true)⟩,
  ⟨some 39, (.mov (.tmp 10)), true, some (37, true)⟩,
  ⟨some 40, (.bin .eql .bool (.tmp 38) (.tmp 39)), true, some (37, true)⟩,
  ⟨some 41, (.pick (.tmp 37) (.tmp 40) (.const (.bool false))), true, none⟩,
  ⟨some 42, (.mov (.tmp 41)), true, none⟩,
  ⟨some 43, (.call i_transitlaw21_exampleHolds []), true, some (42, true)⟩,
  ⟨some 44, (.pick (.tmp 42) (.tmp 43) (.const (.bool false))), true, none⟩,
  ⟨some 4, (.mov (.tmp 44)), true, none⟩]
def c6_12 : ACode := (.region o6_11 [4])
def w6_12 (P : Program) (Q : Exit → Slots → Mem → Prop) (M : Mem) (v5 : V) (v6 : V) (v7 : V) (v8 : V) (v9 : V) (v10 : V) : Prop :=
  @OptBH (binV .eql .none v5 v8) ⟨fun b31_3 =>
  @BIfH b31_3
  ⟨@OptBH (binV .eql .none v6 v9) ⟨fun b35_7 =>
  @BIfH b35_7
  ⟨@OptBH (some v7) ⟨fun b38_10 =>
  @OptBH (some v10) ⟨fun b39_11 =>
  @OptBH (binV .eql .bool (.bool b38_10) (.bool b39_11)) ⟨fun b40_12 =>
  @BIfH b40_12
  ⟨@CallH P i_transitlaw21_exampleHolds [] M ⟨fun t43_15 M15 => @OptBH (some t43_15) ⟨fun b43_15 =>
  Q .normal [(4, (.bool b43_15))] M15⟩⟩⟩
  ⟨Q .normal [(4, (.bool false))] M⟩⟩⟩⟩⟩
  ⟨Q .normal [(4, (.bool false))] M⟩⟩⟩
  ⟨Q .normal [(4, (.bool false))] M⟩⟩
theorem e6_12 (P : Program) (Q : Exit → Slots → Mem → Prop) (s : Slots) (M : Mem) : wpC P c6_12 Q s M = w6_12 P Q M (sget s 5) (sget s 6) (sget s 7) (sget s 8) (sget s 9) (sget s 10) := by kernel_rfl
def c6_13 : ACode := (.seq c6_12 .ret)
def c6_14 : ACode := (.seq c6_10 c6_13)
def c6_15 : ACode := (.seq c6_8 c6_14)
def c6_16 : ACode := (.seq c6_6 c6_15)
def c6_17 : ACode := (.seq c6_1 c6_16)
def fn_transitlaw21_ProductCheapest : AFn := ⟨45, [(.tmp 4)], c6_17⟩
theorem fn_transitlaw21_ProductCheapest_ok : resFn PR h_transitlaw21_ProductCheapest i_transitlaw21_ProductCheapest = some fn_transitlaw21_ProductCheapest := by kernel_rfl

def h_transitlaw21_ProductCovers : Hints := ⟨[(0, [1, 2, 3]), (1, [1, 2, 3, 24]), (2, [6]), (3, [1, 2, 3, 7]), (4, [1, 2, 3, 7, 29]), (5, [1, 2, 3, 7]), (6, [1, 2, 3, 7, 43]), (7, [6]), (8, [1, 2, 3, 8]), (9, [1, 2, 3, 8, 51]), (10, [1, 3, 8]), (11, [1, 3, 8, 76]), (12, [6]), (13, [1, 3, 8, 9]), (14, [1, 3, 8, 9, 80]), (15, [1, 3, 8, 9]), (16, [1, 3, 8, 9, 10]), (17, [1, 3, 8, 9, 10, 88]), (18, [1, 3, 8, 9, 10]), (19, [1, 3, 8, 9, 10, 106]), (20, [6]), (21, [6])], [(4, [1, 2, 3, 7]), (14, [1, 3, 8, 9]), (17, [1, 3, 8, 9, 10])], []⟩
def o7_0 : List AOper := [⟨some 3, (.box 6 (.tmp 0)), false, none⟩,
  ⟨some 6, (.mov (.const (.bool false))), true, none⟩]
def c7_1 : ACode := (.region o7_0 [1, 2, 3])
def w7_1 (_P : Program) (Q : Exit → Slots → Mem → Prop) (M : Mem) (v0 : V) (v1 : V) (v2 : V) : Prop :=
  @OptMH (boxV 6 v0 M) ⟨fun t3_1 M1 =>
  Q .normal [(1, v1), (2, v2), (3, t3_1)] M1⟩
theorem e7_1 (P : Program) (Q : Exit → Slots → Mem → Prop) (s : Slots) (M : Mem) : wpC P c7_1 Q s M = w7_1 P Q M (sget s 0) (sget s 1) (sget s 2) := by kernel_rfl
def o7_2 : List AOper := [⟨some 25, (.call i_transitlaw21_exampleHolds []), true, none⟩,
  ⟨some 6, (.mov (.tmp 25)), true, none⟩]
def c7_3 : ACode := (.region o7_2 [6])
def w7_3 (P : Program) (Q : Exit → Slots → Mem → Prop) (M : Mem) : Prop :=
  @CallH P i_transitlaw21_exampleHolds [] M ⟨fun t25_1 M1 => @OptBH (some t25_1) ⟨fun b25_1 =>
  Q .normal [(6, (.bool b25_1))] M1⟩⟩
theorem e7_3 (P : Program) (Q : Exit → Slots → Mem → Prop) (s : Slots) (M : Mem) : wpC P c7_3 Q s M = w7_3 P Q M := by kernel_rfl
def c7_4 : ACode := (.seq c7_3 .ret)
def o7_5 : List AOper := [⟨some 11, (.build [(.slice [] .nil), (.int .i64 0), (.int .i64 0), (.int .i64 0)] []), false, none⟩,
  ⟨some 12, (.mov (.tmp 1)), false, none⟩,
  ⟨some 13, (.call i_transitlaw21_large [(.tmp 11), (.tmp 12)]), true, none⟩,
  ⟨some 14, (.mov (.tmp 13)), true, none⟩,
  ⟨some 15, (.load 6 true (.tmp 3)), false, some (14, false)⟩,
  ⟨some 16, (.call i_transitref21_Right [(.tmp 15)]), true, some (14, false)⟩,
  ⟨some 17, (.un .not (.tmp 16)), true, some (14, false)⟩,
  ⟨some 18, (.pick (.tmp 14) (.const (.bool true)) (.tmp 17)), true, none⟩,
  ⟨some 19, (.mov (.tmp 18)), true, none⟩,
  ⟨some 20, (.load 6 true (.tmp 3)), false, some (19, false)⟩,
  ⟨some 21, (.mov (.tmp 1)), false, some (19, false)⟩,
  ⟨some 22, (.call i_product_Covers [(.tmp 20), (.tmp 21)]), true, some (19, false)⟩,
  ⟨some 23, (.un .not (.tmp 22)), true, some (19, false)⟩,
  ⟨some 24, (.pick (.tmp 19) (.const (.bool true)) (.tmp 23)), true, none⟩]
def c7_6 : ACode := (.seq (.region o7_5 [1, 2, 3, 24]) (.cond (.tmp 24) c7_4 .skip))
def w7_6 (P : Program) (Q : Exit → Slots → Mem → Prop) (M : Mem) (v1 : V) (v2 : V) (v3 : V) : Prop :=
  @OptVH (buildV [(.slice [] .nil), (.int .i64 0), (.int .i64 0), (.int .i64 0)] []) ⟨fun t11_1 =>
  @CallH P i_transitlaw21_large [t11_1, v1] M ⟨fun t13_3 M3 => @OptBH (some t13_3) ⟨fun b13_3 =>
  @BIfH b13_3
  ⟨wpC P c7_4 Q [(1, v1), (2, v2), (3, v3), (24, (.bool true))] M3⟩
  ⟨@OptVH (loadV 6 true v3 M3) ⟨fun t15_8 =>
  @CallH P i_transitref21_Right [t15_8] M3 ⟨fun t16_9 M9 => @OptBH (some t16_9) ⟨fun b16_9 =>
  @OptBH (unV .not (.bool b16_9)) ⟨fun b17_10 =>
  @BIfH b17_10
  ⟨wpC P c7_4 Q [(1, v1), (2, v2), (3, v3), (24, (.bool true))] M9⟩
  ⟨@OptVH (loadV 6 true v3 M9) ⟨fun t20_14 =>
  @CallH P i_product_Covers [t20_14, v1] M9 ⟨fun t22_16 M16 => @OptBH (some t22_16) ⟨fun b22_16 =>
  @OptBH (unV .not (.bool b22_16)) ⟨fun b23_17 =>
  @BIfH b23_17
  ⟨wpC P c7_4 Q [(1, v1), (2, v2), (3, v3), (24, (.bool b23_17))] M16⟩
  ⟨Q .normal [(1, v1), (2, v2), (3, v3), (24, (.bool b23_17))] M16⟩⟩⟩⟩⟩⟩⟩⟩⟩⟩⟩⟩⟩⟩
theorem e7_6 (P : Program) (Q : Exit → Slots → Mem → Prop) (s : Slots) (M : Mem) : wpC P c7_6 Q s M = w7_6 P Q M (sget s 1) (sget s 2) (sget s 3) := by kernel_rfl
def o7_7 : List AOper := [⟨some 7, (.mov (.const (.int .i64 1))), false, none⟩]
def c7_8 : ACode := (.region o7_7 [1, 2, 3, 7])
def w7_8 (_P : Program) (Q : Exit → Slots → Mem → Prop) (M : Mem) (v1 : V) (v2 : V) (v3 : V) : Prop :=
  Q .normal [(1, v1), (2, v2), (3, v3), (7, (.int .i64 1))] M
theorem e7_8 (P : Program) (Q : Exit → Slots → Mem → Prop) (s : Slots) (M : Mem) : wpC P c7_8 Q s M = w7_8 P Q M (sget s 1) (sget s 2) (sget s 3) := by kernel_rfl
def o7_9 : List AOper := [⟨some 26, (.mov (.tmp 7)), false, none⟩,
  ⟨some 27, (.mov (.tmp 1)), false, none⟩,
  ⟨some 28, (.lenSl (.tmp 27)), false, none⟩,
  ⟨some 29, (.bin .lss .none (.tmp 26) (.tmp 28)), true, none⟩]
def c7_10 : ACode := (.seq (.region o7_9 [1, 2, 3, 7, 29]) (.cond (.tmp 29) .skip (.exit 0)))
def w7_10 (_P : Program) (Q : Exit → Slots → Mem → Prop) (M : Mem) (v1 : V) (v2 : V) (v3 : V) (v7 : V) : Prop :=
  @OptVH (lenV v1 M) ⟨fun t28_3 =>
  @OptBH (binV .lss .none v7 t28_3) ⟨fun b29_4 =>
  @BIfH b29_4
  ⟨Q .normal [(1, v1), (2, v2), (3, v3), (7, v7), (29, (.bool b29_4))] M⟩
  ⟨Q (.exit 0) [(1, v1), (2, v2), (3, v3), (7, v7), (29, (.bool b29_4))] M⟩⟩⟩
theorem e7_10 (P : Program) (Q : Exit → Slots → Mem → Prop) (s : Slots) (M : Mem) : wpC P c7_10 Q s M = w7_10 P Q M (sget s 1) (sget s 2) (sget s 3) (sget s 7) := by kernel_rfl
def o7_11 : List AOper := [⟨some 44, (.call i_transitlaw21_exampleHolds []), true, none⟩,
  ⟨some 6, (.mov (.tmp 44)), true, none⟩]
def c7_12 : ACode := (.region o7_11 [6])
def w7_12 (P : Program) (Q : Exit → Slots → Mem → Prop) (M : Mem) : Prop :=
  @CallH P i_transitlaw21_exampleHolds [] M ⟨fun t44_1 M1 => @OptBH (some t44_1) ⟨fun b44_1 =>
  Q .normal [(6, (.bool b44_1))] M1⟩⟩
theorem e7_12 (P : Program) (Q : Exit → Slots → Mem → Prop) (s : Slots) (M : Mem) : wpC P c7_12 Q s M = w7_12 P Q M := by kernel_rfl
def c7_13 : ACode := (.seq c7_12 .ret)
def o7_14 : List AOper := [⟨some 32, (.mov (.tmp 1)), false, none⟩,
  ⟨some 33, (.mov (.tmp 7)), false, none⟩,
  ⟨some 34, (.indexSl 4 (.tmp 32) (.tmp 33)), false, none⟩,
  ⟨some 35, (.fieldAddr 0 (.tmp 34)), false, none⟩,
  ⟨some 36, (.load 1 false (.tmp 35)), false, none⟩,
  ⟨some 37, (.mov (.tmp 1)), false, none⟩,
  ⟨some 38, (.mov (.tmp 7)), false, none⟩,
  ⟨some 39, (.bin .sub .none (.tmp 38) (.const (.int .i64 1))), false, none⟩,
  ⟨some 40, (.indexSl 4 (.tmp 37) (.tmp 39)), false, none⟩,
  ⟨some 41, (.fieldAddr 0 (.tmp 40)), false, none⟩,
  ⟨some 42, (.load 1 false (.tmp 41)), false, none⟩,
  ⟨some 43, (.bin .lss .none (.tmp 36) (.tmp 42)), true, none⟩]
def c7_15 : ACode := (.seq (.mixed o7_14 [true, true, true, true, true, true, true, true, true, true, true, true] [1, 2, 3, 7, 43]) (.cond (.tmp 43) c7_13 .skip))
def w7_15 (P : Program) (Q : Exit → Slots → Mem → Prop) (M : Mem) (v1 : V) (v2 : V) (v3 : V) (v7 : V) : Prop :=
  @OptVH (indexSlV 4 v1 v7 M) ⟨fun t34_3 =>
  @OptVH (moveV 0 t34_3) ⟨fun t35_4 =>
  @OptVH (loadV 1 false t35_4 M) ⟨fun t36_5 =>
  @OptVH (binV .sub .none v7 (.int .i64 1)) ⟨fun t39_8 =>
  @OptVH (indexSlV 4 v1 t39_8 M) ⟨fun t40_9 =>
  @OptVH (moveV 0 t40_9) ⟨fun t41_10 =>
  @OptVH (loadV 1 false t41_10 M) ⟨fun t42_11 =>
  @OptBH (binV .lss .none t36_5 t42_11) ⟨fun b43_12 =>
  @BIfH b43_12
  ⟨wpC P c7_13 Q [(1, v1), (2, v2), (3, v3), (7, v7), (43, (.bool b43_12))] M⟩
  ⟨Q .normal [(1, v1), (2, v2), (3, v3), (7, v7), (43, (.bool b43_12))] M⟩⟩⟩⟩⟩⟩⟩⟩⟩
theorem e7_15 (P : Program) (Q : Exit → Slots → Mem → Prop) (s : Slots) (M : Mem) : wpC P c7_15 Q s M = w7_15 P Q M (sget s 1) (sget s 2) (sget s 3) (sget s 7) := by kernel_rfl
def c7_16 : ACode := (.block 1 c7_15)
def o7_17 : List AOper := [⟨some 30, (.mov (.tmp 7)), false, none⟩,
  ⟨some 31, (.bin .add .none (.tmp 30) (.const (.int .i64 1))), false, none⟩,
  ⟨some 7, (.mov (.tmp 31)), false, none⟩]
def c7_18 : ACode := (.region o7_17 [1, 2, 3, 7])
def w7_18 (_P : Program) (Q : Exit → Slots → Mem → Prop) (M : Mem) (v1 : V) (v2 : V) (v3 : V) (v7 : V) : Prop :=
  @OptVH (binV .add .none v7 (.int .i64 1)) ⟨fun t31_2 =>
  Q .normal [(1, v1), (2, v2), (3, v3), (7, t31_2)] M⟩
theorem e7_18 (P : Program) (Q : Exit → Slots → Mem → Prop) (s : Slots) (M : Mem) : wpC P c7_18 Q s M = w7_18 P Q M (sget s 1) (sget s 2) (sget s 3) (sget s 7) := by kernel_rfl
def c7_19 : ACode := (.seq c7_16 c7_18)
def c7_20 : ACode := (.seq c7_10 c7_19)
def c7_21 : ACode := (.loop [1, 2, 3, 7] c7_20)
def c7_22 : ACode := (.block 0 c7_21)
def c7_23 : ACode := (.seq c7_8 c7_22)
def o7_24 : List AOper := [⟨some 45, (.load 6 true (.tmp 3)), false, none⟩,
  ⟨some 8, (.alloc [(.str []), (.int .i64 0), (.int .i64 0), (.int .i64 0), (.int .i64 0), (.int .i64 0)]), false, none⟩,
  ⟨none, (.store 6 (.tmp 8) (.tmp 45)), false, none⟩]
def c7_25 : ACode := (.region o7_24 [1, 2, 3, 8])
def w7_25 (_P : Program) (Q : Exit → Slots → Mem → Prop) (M : Mem) (v1 : V) (v2 : V) (v3 : V) : Prop :=
  @OptVH (loadV 6 true v3 M) ⟨fun t45_1 =>
  @OptMH (allocV [(.str []), (.int .i64 0), (.int .i64 0), (.int .i64 0), (.int .i64 0), (.int .i64 0)] M) ⟨fun t8_2 M2 =>
  @OptMH (storeVM 6 t8_2 t45_1 M2) ⟨fun _tx_3 M3 =>
  Q .normal [(1, v1), (2, v2), (3, v3), (8, t8_2)] M3⟩⟩⟩
theorem e7_25 (P : Program) (Q : Exit → Slots → Mem → Prop) (s : Slots) (M : Mem) : wpC P c7_25 Q s M = w7_25 P Q M (sget s 1) (sget s 2) (sget s 3) := by kernel_rfl
def o7_26 : List AOper := [⟨some 52, (.fieldAddr 2 (.tmp 3)), false, none⟩,
  ⟨some 53, (.load 1 false (.tmp 52)), false, none⟩,
  ⟨some 54, (.mov (.tmp 2)), false, none⟩,
  ⟨some 55, (.bin .add .none (.tmp 53) (.tmp 54)), false, none⟩,
  ⟨some 56, (.fieldAddr 3 (.tmp 3)), false, none⟩,
  ⟨some 57, (.load 1 false (.tmp 56)), false, none⟩,
  ⟨some 58, (.mov (.tmp 2)), false, none⟩,
  ⟨some 59, (.bin .add .none (.tmp 57) (.tmp 58)), false, none⟩,
  ⟨some 60, (.fieldAddr 4 (.tmp 3)), false, none⟩,
  ⟨some 61, (.load 1 false (.tmp 60)), false, none⟩,
  ⟨some 62, (.mov (.tmp 2)), false, none⟩,
  ⟨some 63, (.bin .add .none (.tmp 61) (.tmp 62)), false, none⟩,
  ⟨some 64, (.fieldAddr 2 (.tmp 8)), false, none⟩,
  ⟨none, (.store 1 (.tmp 64) (.tmp 55)), false, none⟩,
  ⟨some 65, (.fieldAddr 3 (.tmp 8)), false, none⟩,
  ⟨none, (.store 1 (.tmp 65) (.tmp 59)), false, none⟩,
  ⟨some 66, (.fieldAddr 4 (.tmp 8)), false, none⟩,
  ⟨none, (.store 1 (.tmp 66) (.tmp 63)), false, none⟩]
def c7_27 : ACode := (.float o7_26 [none, none, none, none, none, none, none, none, none, none, none, none, none, (some [4, 5, 6, 7, 8, 9, 10, 11]), none, (some [8, 9, 10, 11]), none, (some [])] [1, 3, 8])
def w7_27 (_P : Program) (Q : Exit → Slots → Mem → Prop) (M : Mem) (v1 : V) (v2 : V) (v3 : V) (v8 : V) : Prop :=
  @OptVH (moveV 2 v3) ⟨fun t52_1 =>
  @OptVH (loadV 1 false t52_1 M) ⟨fun t53_2 =>
  @OptVH (binV .add .none t53_2 v2) ⟨fun t55_4 =>
  @OptVH (moveV 3 v3) ⟨fun t56_5 =>
  @OptVH (loadV 1 false t56_5 M) ⟨fun t57_6 =>
  @OptVH (binV .add .none t57_6 v2) ⟨fun t59_8 =>
  @OptVH (moveV 4 v3) ⟨fun t60_9 =>
  @OptVH (loadV 1 false t60_9 M) ⟨fun t61_10 =>
  @OptVH (binV .add .none t61_10 v2) ⟨fun t63_12 =>
  @OptVH (moveV 2 v8) ⟨fun t64_13 =>
  @OptMH (storeVM 1 t64_13 t55_4 M) ⟨fun _tx_14 M14 =>
  (moveV 3 v3 = some t56_5 ∧ loadV 1 false t56_5 M14 = some t57_6 ∧ some v2 = some v2 ∧ binV .add .none t57_6 v2 = some t59_8 ∧ moveV 4 v3 = some t60_9 ∧ loadV 1 false t60_9 M14 = some t61_10 ∧ some v2 = some v2 ∧ binV .add .none t61_10 v2 = some t63_12 ∧ True) ∧ (@OptVH (moveV 3 v8) ⟨fun t65_15 =>
  @OptMH (storeVM 1 t65_15 t59_8 M14) ⟨fun _tx_16 M16 =>
  (moveV 4 v3 = some t60_9 ∧ loadV 1 false t60_9 M16 = some t61_10 ∧ some v2 = some v2 ∧ binV .add .none t61_10 v2 = some t63_12 ∧ True) ∧ (@OptVH (moveV 4 v8) ⟨fun t66_17 =>
  @OptMH (storeVM 1 t66_17 t63_12 M16) ⟨fun _tx_18 M18 =>
  (True) ∧ (Q .normal [(1, v1), (3, v3), (8, v8)] M18)⟩⟩)⟩⟩)⟩⟩⟩⟩⟩⟩⟩⟩⟩⟩⟩
theorem e7_27 (P : Program) (Q : Exit → Slots → Mem → Prop) (s : Slots) (M : Mem) : wpC P c7_27 Q s M = w7_27 P Q M (sget s 1) (sget s 2) (sget s 3) (sget s 8) := by kernel_rfl
def o7_28 : List AOper := [⟨some 46, (.mov (.tmp 2)), false, none⟩,
  ⟨some 47, (.bin .geq .none (.tmp 46) (.const (.int .i64 0))), true, none⟩,
  ⟨some 48, (.mov (.tmp 47)), true, none⟩,
  ⟨some 49, (.mov (.tmp 2)), false, some (48, true)⟩,
  ⟨some 50, (.bin .leq .none (.tmp 49) (.const (.int .i64 1000))), true, some (48, true)⟩,
  ⟨some 51, (.pick (.tmp 48) (.tmp 50) (.const (.bool false))), true, none⟩]
def c7_29 : ACode := (.seq (.region o7_28 [1, 2, 3, 8, 51]) (.cond (.tmp 51) c7_27 .skip))
def w7_29 (P : Program) (Q : Exit → Slots → Mem → Prop) (M : Mem) (v1 : V) (v2 : V) (v3 : V) (v8 : V) : Prop :=
  @OptBH (binV .geq .none v2 (.int .i64 0)) ⟨fun b47_2 =>
  @BIfH b47_2
  ⟨@OptBH (binV .leq .none v2 (.int .i64 1000)) ⟨fun b50_5 =>
  @BIfH b50_5
  ⟨wpC P c7_27 Q [(1, v1), (2, v2), (3, v3), (8, v8), (51, (.bool b50_5))] M⟩
  ⟨Q .normal [(1, v1), (2, v2), (3, v3), (8, v8), (51, (.bool b50_5))] M⟩⟩⟩
  ⟨Q .normal [(1, v1), (2, v2), (3, v3), (8, v8), (51, (.bool false))] M⟩⟩
theorem e7_29 (P : Program) (Q : Exit → Slots → Mem → Prop) (s : Slots) (M : Mem) : wpC P c7_29 Q s M = w7_29 P Q M (sget s 1) (sget s 2) (sget s 3) (sget s 8) := by kernel_rfl
def o7_30 : List AOper := [⟨some 6, (.mov (.const (.bool false))), true, none⟩]
def c7_31 : ACode := (.region o7_30 [6])
def w7_31 (_P : Program) (Q : Exit → Slots → Mem → Prop) (M : Mem) : Prop :=
  Q .normal [(6, (.bool false))] M
theorem e7_31 (P : Program) (Q : Exit → Slots → Mem → Prop) (s : Slots) (M : Mem) : wpC P c7_31 Q s M = w7_31 P Q M := by kernel_rfl
def c7_32 : ACode := (.seq c7_31 .ret)
def o7_33 : List AOper := [⟨some 67, (.mov (.tmp 1)), false, none⟩,
  ⟨some 68, (.lenSl (.tmp 67)), false, none⟩,
  ⟨some 69, (.bin .eql .none (.tmp 68) (.const (.int .i64 0))), true, none⟩,
  ⟨some 70, (.mov (.tmp 69)), true, none⟩,
  ⟨some 71, (.mov (.tmp 1)), false, some (70, false)⟩,
  ⟨some 72, (.lenSl (.tmp 71)), false, some (70, false)⟩,
  ⟨some 73, (.fieldAddr 2 (.tmp 3)), false, some (70, false)⟩,
  ⟨some 74, (.load 1 false (.tmp 73)), false, some (70, false)⟩,
  ⟨some 75, (.bin .gtr .none (.tmp 72) (.tmp 74)), true, some (70, false)⟩,
  ⟨some 76, (.pick (.tmp 70) (.const (.bool true)) (.tmp 75)), true, none⟩]
def c7_34 : ACode := (.seq (.region o7_33 [1, 3, 8, 76]) (.cond (.tmp 76) c7_32 .skip))
def w7_34 (P : Program) (Q : Exit → Slots → Mem → Prop) (M : Mem) (v1 : V) (v3 : V) (v8 : V) : Prop :=
  @OptVH (lenV v1 M) ⟨fun t68_2 =>
  @OptBH (binV .eql .none t68_2 (.int .i64 0)) ⟨fun b69_3 =>
  @BIfH b69_3
  ⟨wpC P c7_32 Q [(1, v1), (3, v3), (8, v8), (76, (.bool true))] M⟩
  ⟨@OptVH (lenV v1 M) ⟨fun t72_7 =>
  @OptVH (moveV 2 v3) ⟨fun t73_8 =>
  @OptVH (loadV 1 false t73_8 M) ⟨fun t74_9 =>
  @OptBH (binV .gtr .none t72_7 t74_9) ⟨fun b75_10 =>
  @BIfH b75_10
  ⟨wpC P c7_32 Q [(1, v1), (3, v3), (8, v8), (76, (.bool b75_10))] M⟩
  ⟨Q .normal [(1, v1), (3, v3), (8, v8), (76, (.bool b75_10))] M⟩⟩⟩⟩⟩⟩⟩⟩
theorem e7_34 (P : Program) (Q : Exit → Slots → Mem → Prop) (s : Slots) (M : Mem) : wpC P c7_34 Q s M = w7_34 P Q M (sget s 1) (sget s 3) (sget s 8) := by kernel_rfl
def o7_35 : List AOper := [⟨some 9, (.mov (.const (.int .i64 0))), false, none⟩]
def c7_36 : ACode := (.region o7_35 [1, 3, 8, 9])
def w7_36 (_P : Program) (Q : Exit → Slots → Mem → Prop) (M : Mem) (v1 : V) (v3 : V) (v8 : V) : Prop :=
  Q .normal [(1, v1), (3, v3), (8, v8), (9, (.int .i64 0))] M
theorem e7_36 (P : Program) (Q : Exit → Slots → Mem → Prop) (s : Slots) (M : Mem) : wpC P c7_36 Q s M = w7_36 P Q M (sget s 1) (sget s 3) (sget s 8) := by kernel_rfl
def o7_37 : List AOper := [⟨some 77, (.mov (.tmp 9)), false, none⟩,
  ⟨some 78, (.mov (.tmp 1)), false, none⟩,
  ⟨some 79, (.lenSl (.tmp 78)), false, none⟩,
  ⟨some 80, (.bin .lss .none (.tmp 77) (.tmp 79)), true, none⟩]
def c7_38 : ACode := (.seq (.region o7_37 [1, 3, 8, 9, 80]) (.cond (.tmp 80) .skip (.exit 2)))
def w7_38 (_P : Program) (Q : Exit → Slots → Mem → Prop) (M : Mem) (v1 : V) (v3 : V) (v8 : V) (v9 : V) : Prop :=
  @OptVH (lenV v1 M) ⟨fun t79_3 =>
  @OptBH (binV .lss .none v9 t79_3) ⟨fun b80_4 =>
  @BIfH b80_4
  ⟨Q .normal [(1, v1), (3, v3), (8, v8), (9, v9), (80, (.bool b80_4))] M⟩
  ⟨Q (.exit 2) [(1, v1), (3, v3), (8, v8), (9, v9), (80, (.bool b80_4))] M⟩⟩⟩
theorem e7_38 (P : Program) (Q : Exit → Slots → Mem → Prop) (s : Slots) (M : Mem) : wpC P c7_38 Q s M = w7_38 P Q M (sget s 1) (sget s 3) (sget s 8) (sget s 9) := by kernel_rfl
def o7_39 : List AOper := [⟨some 83, (.mov (.tmp 9)), false, none⟩,
  ⟨some 84, (.bin .add .none (.tmp 83) (.const (.int .i64 1))), false, none⟩,
  ⟨some 10, (.mov (.tmp 84)), false, none⟩]
def c7_40 : ACode := (.region o7_39 [1, 3, 8, 9, 10])
def w7_40 (_P : Program) (Q : Exit → Slots → Mem → Prop) (M : Mem) (v1 : V) (v3 : V) (v8 : V) (v9 : V) : Prop :=
  @OptVH (binV .add .none v9 (.int .i64 1)) ⟨fun t84_2 =>
  Q .normal [(1, v1), (3, v3), (8, v8), (9, v9), (10, t84_2)] M⟩
theorem e7_40 (P : Program) (Q : Exit → Slots → Mem → Prop) (s : Slots) (M : Mem) : wpC P c7_40 Q s M = w7_40 P Q M (sget s 1) (sget s 3) (sget s 8) (sget s 9) := by kernel_rfl
def o7_41 : List AOper := [⟨some 85, (.mov (.tmp 10)), false, none⟩,
  ⟨some 86, (.mov (.tmp 1)), false, none⟩,
  ⟨some 87, (.lenSl (.tmp 86)), false, none⟩,
  ⟨some 88, (.bin .leq .none (.tmp 85) (.tmp 87)), true, none⟩]
def c7_42 : ACode := (.seq (.region o7_41 [1, 3, 8, 9, 10, 88]) (.cond (.tmp 88) .skip (.exit 4)))
def w7_42 (_P : Program) (Q : Exit → Slots → Mem → Prop) (M : Mem) (v1 : V) (v3 : V) (v8 : V) (v9 : V) (v10 : V) : Prop :=
  @OptVH (lenV v1 M) ⟨fun t87_3 =>
  @OptBH (binV .leq .none v10 t87_3) ⟨fun b88_4 =>
  @BIfH b88_4
  ⟨Q .normal [(1, v1), (3, v3), (8, v8), (9, v9), (10, v10), (88, (.bool b88_4))] M⟩
  ⟨Q (.exit 4) [(1, v1), (3, v3), (8, v8), (9, v9), (10, v10), (88, (.bool b88_4))] M⟩⟩⟩
theorem e7_42 (P : Program) (Q : Exit → Slots → Mem → Prop) (s : Slots) (M : Mem) : wpC P c7_42 Q s M = w7_42 P Q M (sget s 1) (sget s 3) (sget s 8) (sget s 9) (sget s 10) := by kernel_rfl
def o7_43 : List AOper := [⟨some 6, (.mov (.const (.bool false))), true, none⟩]
def c7_44 : ACode := (.region o7_43 [6])
def w7_44 (_P : Program) (Q : Exit → Slots → Mem → Prop) (M : Mem) : Prop :=
  Q .normal [(6, (.bool false))] M
theorem e7_44 (P : Program) (Q : Exit → Slots → Mem → Prop) (s : Slots) (M : Mem) : wpC P c7_44 Q s M = w7_44 P Q M := by kernel_rfl
def c7_45 : ACode := (.seq c7_44 .ret)
def o7_46 : List AOper := [⟨some 91, (.load 6 true (.tmp 3)), false, none⟩,
  ⟨some 92, (.mov (.tmp 1)), false, none⟩,
  ⟨some 93, (.mov (.tmp 9)), false, none⟩,
  ⟨some 94, (.mov (.tmp 10)), false, none⟩,
  ⟨some 95, (.slice 4 (.tmp 92) (some (.tmp 93)) (some (.tmp 94)) none), false, none⟩,
  ⟨some 96, (.call i_product_Covers [(.tmp 91), (.tmp 95)]), true, none⟩,
  ⟨some 97, (.un .not (.tmp 96)), true, none⟩,
  ⟨some 98, (.mov (.tmp 97)), true, none⟩,
  ⟨some 99, (.load 6 true (.tmp 8)), false, some (98, false)⟩,
  ⟨some 100, (.mov (.tmp 1)), false, some (98, false)⟩,
  ⟨some 101, (.mov (.tmp 9)), false, some (98, false)⟩,
  ⟨some 102, (.mov (.tmp 10)), false, some (98, false)⟩,
  ⟨some 103, (.slice 4 (.tmp 100) (some (.tmp 101)) (some (.tmp 102)) none), false, some (98, false)⟩,
  ⟨some 104, (.call i_product_Covers [(.tmp 99), (.tmp 103)]), true, some (98, false)⟩,
  ⟨some 105, (.un .not (.tmp 104)), true, some (98, false)⟩,
  ⟨some 106, (.pick (.tmp 98) (.const (.bool true)) (.tmp 105)), true, none⟩]
def c7_47 : ACode := (.seq (.mixed o7_46 [true, true, true, true, true, false, true, true, true, true, true, true, true, false, true, true] [1, 3, 8, 9, 10, 106]) (.cond (.tmp 106) c7_45 .skip))
def w7_47 (P : Program) (Q : Exit → Slots → Mem → Prop) (M : Mem) (v1 : V) (v3 : V) (v8 : V) (v9 : V) (v10 : V) : Prop :=
  @OptVH (loadV 6 true v3 M) ⟨fun t91_1 =>
  @OptVH (sliceV 4 v1 (some v9) (some v10) none M) ⟨fun t95_5 =>
  @CallH P i_product_Covers [t91_1, t95_5] M ⟨fun t96_6 M6 => @OptBH (some t96_6) ⟨fun b96_6 =>
  @OptBH (unV .not (.bool b96_6)) ⟨fun b97_7 =>
  @BIfH b97_7
  ⟨wpC P c7_45 Q [(1, v1), (3, v3), (8, v8), (9, v9), (10, v10), (106, (.bool true))] M6⟩
  ⟨@OptVH (loadV 6 true v8 M6) ⟨fun t99_10 =>
  @OptVH (sliceV 4 v1 (some v9) (some v10) none M6) ⟨fun t103_14 =>
  @CallH P i_product_Covers [t99_10, t103_14] M6 ⟨fun t104_15 M15 => @OptBH (some t104_15) ⟨fun b104_15 =>
  @OptBH (unV .not (.bool b104_15)) ⟨fun b105_16 =>
  @BIfH b105_16
  ⟨wpC P c7_45 Q [(1, v1), (3, v3), (8, v8), (9, v9), (10, v10), (106, (.bool b105_16))] M15⟩
  ⟨Q .normal [(1, v1), (3, v3), (8, v8), (9, v9), (10, v10), (106, (.bool b105_16))] M15⟩⟩⟩⟩⟩⟩⟩⟩⟩⟩⟩⟩
theorem e7_47 (P : Program) (Q : Exit → Slots → Mem → Prop) (s : Slots) (M : Mem) : wpC P c7_47 Q s M = w7_47 P Q M (sget s 1) (sget s 3) (sget s 8) (sget s 9) (sget s 10) := by kernel_rfl
def c7_48 : ACode := (.block 5 c7_47)
def o7_49 : List AOper := [⟨some 89, (.mov (.tmp 10)), false, none⟩,
  ⟨some 90, (.bin .add .none (.tmp 89) (.const (.int .i64 1))), false, none⟩,
  ⟨some 10, (.mov (.tmp 90)), false, none⟩]
def c7_50 : ACode := (.region o7_49 [1, 3, 8, 9, 10])
def w7_50 (_P : Program) (Q : Exit → Slots → Mem → Prop) (M : Mem) (v1 : V) (v3 : V) (v8 : V) (v9 : V) (v10 : V) : Prop :=
  @OptVH (binV .add .none v10 (.int .i64 1)) ⟨fun t90_2 =>
  Q .normal [(1, v1), (3, v3), (8, v8), (9, v9), (10, t90_2)] M⟩
theorem e7_50 (P : Program) (Q : Exit → Slots → Mem → Prop) (s : Slots) (M : Mem) : wpC P c7_50 Q s M = w7_50 P Q M (sget s 1) (sget s 3) (sget s 8) (sget s 9) (sget s 10) := by kernel_rfl
def c7_51 : ACode := (.seq c7_48 c7_50)
def c7_52 : ACode := (.seq c7_42 c7_51)
def c7_53 : ACode := (.loop [1, 3, 8, 9, 10] c7_52)
def c7_54 : ACode := (.block 4 c7_53)
def c7_55 : ACode := (.seq c7_40 c7_54)
def c7_56 : ACode := (.block 3 c7_55)
def o7_57 : List AOper := [⟨some 81, (.mov (.tmp 9)), false, none⟩,
  ⟨some 82, (.bin .add .none (.tmp 81) (.const (.int .i64 1))), false, none⟩,
  ⟨some 9, (.mov (.tmp 82)), false, none⟩]
def c7_58 : ACode := (.region o7_57 [1, 3, 8, 9])
def w7_58 (_P : Program) (Q : Exit → Slots → Mem → Prop) (M : Mem) (v1 : V) (v3 : V) (v8 : V) (v9 : V) : Prop :=
  @OptVH (binV .add .none v9 (.int .i64 1)) ⟨fun t82_2 =>
  Q .normal [(1, v1), (3, v3), (8, v8), (9, t82_2)] M⟩
theorem e7_58 (P : Program) (Q : Exit → Slots → Mem → Prop) (s : Slots) (M : Mem) : wpC P c7_58 Q s M = w7_58 P Q M (sget s 1) (sget s 3) (sget s 8) (sget s 9) := by kernel_rfl
def c7_59 : ACode := (.seq c7_56 c7_58)
def c7_60 : ACode := (.seq c7_38 c7_59)
def c7_61 : ACode := (.loop [1, 3, 8, 9] c7_60)
def c7_62 : ACode := (.block 2 c7_61)
def c7_63 : ACode := (.seq c7_36 c7_62)
def o7_64 : List AOper := [⟨some 107, (.call i_transitlaw21_exampleHolds []), true, none⟩,
  ⟨some 6, (.mov (.tmp 107)), true, none⟩]
def c7_65 : ACode := (.region o7_64 [6])
def w7_65 (P : Program) (Q : Exit → Slots → Mem → Prop) (M : Mem) : Prop :=
  @CallH P i_transitlaw21_exampleHolds [] M ⟨fun t107_1 M1 => @OptBH (some t107_1) ⟨fun b107_1 =>
  Q .normal [(6, (.bool b107_1))] M1⟩⟩
theorem e7_65 (P : Program) (Q : Exit → Slots → Mem → Prop) (s : Slots) (M : Mem) : wpC P c7_65 Q s M = w7_65 P Q M := by kernel_rfl
def c7_66 : ACode := (.seq c7_65 .ret)
def c7_67 : ACode := (.seq c7_63 c7_66)
def c7_68 : ACode := (.seq c7_34 c7_67)
def c7_69 : ACode := (.seq c7_29 c7_68)
def c7_70 : ACode := (.seq c7_25 c7_69)
def c7_71 : ACode := (.seq c7_23 c7_70)
def c7_72 : ACode := (.seq c7_6 c7_71)
def c7_73 : ACode := (.seq c7_1 c7_72)
def fn_transitlaw21_ProductCovers : AFn := ⟨108, [(.tmp 6)], c7_73⟩
theorem fn_transitlaw21_ProductCovers_ok : resFn PR h_transitlaw21_ProductCovers i_transitlaw21_ProductCovers = some fn_transitlaw21_ProductCovers := by kernel_rfl

def h_transitlaw21_ProductDiscounts : Hints := ⟨[(0, [1, 2, 3]), (1, [1, 2, 3, 19]), (2, [6]), (3, [1, 2, 3, 8]), (4, [1, 2, 3, 27]), (5, [6]), (6, [1, 3, 9, 10]), (7, [1, 3, 9, 10, 11]), (8, [1, 3, 9, 10, 11, 39]), (9, [1, 3, 9, 10, 11]), (10, [1, 3, 9, 10, 11, 12, 13]), (11, [1, 3, 9, 10, 11, 12, 13, 14, 15]), (12, [1, 3, 9, 10, 11, 12, 13, 14, 15, 16, 17]), (13, [1, 3, 9, 10, 11, 104]), (14, [6]), (15, [6])], [(8, [1, 3, 9, 10, 11])], []⟩
def o8_0 : List AOper := [⟨some 3, (.box 4 (.tmp 0)), false, none⟩,
  ⟨some 6, (.mov (.const (.bool false))), true, none⟩]
def c8_1 : ACode := (.region o8_0 [1, 2, 3])
def w8_1 (_P : Program) (Q : Exit → Slots → Mem → Prop) (M : Mem) (v0 : V) (v1 : V) (v2 : V) : Prop :=
  @OptMH (boxV 4 v0 M) ⟨fun t3_1 M1 =>
  Q .normal [(1, v1), (2, v2), (3, t3_1)] M1⟩
theorem e8_1 (P : Program) (Q : Exit → Slots → Mem → Prop) (s : Slots) (M : Mem) : wpC P c8_1 Q s M = w8_1 P Q M (sget s 0) (sget s 1) (sget s 2) := by kernel_rfl
def o8_2 : List AOper := [⟨some 20, (.call i_transitlaw21_exampleHolds []), true, none⟩,
  ⟨some 6, (.mov (.tmp 20)), true, none⟩]
def c8_3 : ACode := (.region o8_2 [6])
def w8_3 (P : Program) (Q : Exit → Slots → Mem → Prop) (M : Mem) : Prop :=
  @CallH P i_transitlaw21_exampleHolds [] M ⟨fun t20_1 M1 => @OptBH (some t20_1) ⟨fun b20_1 =>
  Q .normal [(6, (.bool b20_1))] M1⟩⟩
theorem e8_3 (P : Program) (Q : Exit → Slots → Mem → Prop) (s : Slots) (M : Mem) : wpC P c8_3 Q s M = w8_3 P Q M := by kernel_rfl
def c8_4 : ACode := (.seq c8_3 .ret)
def o8_5 : List AOper := [⟨some 18, (.load 4 true (.tmp 3)), false, none⟩,
  ⟨some 19, (.call i_transitlaw21_large [(.tmp 18), (.const (.slice [] .nil))]), true, none⟩]
def c8_6 : ACode := (.seq (.region o8_5 [1, 2, 3, 19]) (.cond (.tmp 19) c8_4 .skip))
def w8_6 (P : Program) (Q : Exit → Slots → Mem → Prop) (M : Mem) (v1 : V) (v2 : V) (v3 : V) : Prop :=
  @OptVH (loadV 4 true v3 M) ⟨fun t18_1 =>
  @CallH P i_transitlaw21_large [t18_1, (.slice [] .nil)] M ⟨fun t19_2 M2 => @OptBH (some t19_2) ⟨fun b19_2 =>
  @BIfH b19_2
  ⟨wpC P c8_4 Q [(1, v1), (2, v2), (3, v3), (19, (.bool b19_2))] M2⟩
  ⟨Q .normal [(1, v1), (2, v2), (3, v3), (19, (.bool b19_2))] M2⟩⟩⟩⟩
theorem e8_6 (P : Program) (Q : Exit → Slots → Mem → Prop) (s : Slots) (M : Mem) : wpC P c8_6 Q s M = w8_6 P Q M (sget s 1) (sget s 2) (sget s 3) := by kernel_rfl
def o8_7 : List AOper := [⟨some 22, (.load 4 true (.tmp 3)), false, none⟩,
  ⟨some 23, (.call i_product_Check [(.tmp 22)]), false, none⟩,
  ⟨some 21, (.mov (.tmp 23)), false, none⟩,
  ⟨some 24, (.extract (.tmp 21) 0), false, none⟩,
  ⟨some 25, (.extract (.tmp 21) 1), false, none⟩,
  ⟨some 7, (.mov (.tmp 24)), false, none⟩,
  ⟨some 8, (.mov (.tmp 25)), false, none⟩]
def c8_8 : ACode := (.region o8_7 [1, 2, 3, 8])
def w8_8 (P : Program) (Q : Exit → Slots → Mem → Prop) (M : Mem) (v1 : V) (v2 : V) (v3 : V) : Prop :=
  @OptVH (loadV 4 true v3 M) ⟨fun t22_1 =>
  @CallH P i_product_Check [t22_1] M ⟨fun t23_2 M2 =>
  @OptVH (extractV t23_2 0) ⟨fun _t24_4 =>
  @OptVH (extractV t23_2 1) ⟨fun t25_5 =>
  Q .normal [(1, v1), (2, v2), (3, v3), (8, t25_5)] M2⟩⟩⟩⟩
theorem e8_8 (P : Program) (Q : Exit → Slots → Mem → Prop) (s : Slots) (M : Mem) : wpC P c8_8 Q s M = w8_8 P Q M (sget s 1) (sget s 2) (sget s 3) := by kernel_rfl
def o8_9 : List AOper := [⟨some 28, (.call i_transitlaw21_exampleHolds []), true, none⟩,
  ⟨some 6, (.mov (.tmp 28)), true, none⟩]
def c8_10 : ACode := (.region o8_9 [6])
def w8_10 (P : Program) (Q : Exit → Slots → Mem → Prop) (M : Mem) : Prop :=
  @CallH P i_transitlaw21_exampleHolds [] M ⟨fun t28_1 M1 => @OptBH (some t28_1) ⟨fun b28_1 =>
  Q .normal [(6, (.bool b28_1))] M1⟩⟩
theorem e8_10 (P : Program) (Q : Exit → Slots → Mem → Prop) (s : Slots) (M : Mem) : wpC P c8_10 Q s M = w8_10 P Q M := by kernel_rfl
def c8_11 : ACode := (.seq c8_10 .ret)
def o8_12 : List AOper := [⟨some 26, (.mov (.tmp 8)), false, none⟩,
  ⟨some 27, (.bin .neq .none (.tmp 26) (.const (.int .i64 0))), true, none⟩]
def c8_13 : ACode := (.seq (.region o8_12 [1, 2, 3, 27]) (.cond (.tmp 27) c8_11 .skip))
def w8_13 (P : Program) (Q : Exit → Slots → Mem → Prop) (M : Mem) (v1 : V) (v2 : V) (v3 : V) (v8 : V) : Prop :=
  @OptBH (binV .neq .none v8 (.int .i64 0)) ⟨fun b27_2 =>
  @BIfH b27_2
  ⟨wpC P c8_11 Q [(1, v1), (2, v2), (3, v3), (27, (.bool b27_2))] M⟩
  ⟨Q .normal [(1, v1), (2, v2), (3, v3), (27, (.bool b27_2))] M⟩⟩
theorem e8_13 (P : Program) (Q : Exit → Slots → Mem → Prop) (s : Slots) (M : Mem) : wpC P c8_13 Q s M = w8_13 P Q M (sget s 1) (sget s 2) (sget s 3) (sget s 8) := by kernel_rfl
def c8_14 : ACode := (.seq c8_8 c8_13)
def o8_15 : List AOper := [⟨some 29, (.mov (.tmp 1)), false, none⟩,
  ⟨some 30, (.mov (.tmp 2)), false, none⟩,
  ⟨some 31, (.minmax false (.tmp 29) (.tmp 30)), false, none⟩,
  ⟨some 32, (.mov (.tmp 1)), false, none⟩,
  ⟨some 33, (.mov (.tmp 2)), false, none⟩,
  ⟨some 34, (.minmax true (.tmp 32) (.tmp 33)), false, none⟩,
  ⟨some 9, (.mov (.tmp 31)), false, none⟩,
  ⟨some 10, (.mov (.tmp 34)), false, none⟩]
def c8_16 : ACode := (.region o8_15 [1, 3, 9, 10])
def w8_16 (_P : Program) (Q : Exit → Slots → Mem → Prop) (M : Mem) (v1 : V) (v2 : V) (v3 : V) : Prop :=
  @OptVH (minmaxV false v1 v2) ⟨fun t31_3 =>
  @OptVH (minmaxV true v1 v2) ⟨fun t34_6 =>
  Q .normal [(1, v1), (3, v3), (9, t31_3), (10, t34_6)] M⟩⟩
theorem e8_16 (P : Program) (Q : Exit → Slots → Mem → Prop) (s : Slots) (M : Mem) : wpC P c8_16 Q s M = w8_16 P Q M (sget s 1) (sget s 2) (sget s 3) := by kernel_rfl
def o8_17 : List AOper := [⟨some 11, (.mov (.const (.int .i64 0))), false, none⟩]
def c8_18 : ACode := (.region o8_17 [1, 3, 9, 10, 11])
def w8_18 (_P : Program) (Q : Exit → Slots → Mem → Prop) (M : Mem) (v1 : V) (v3 : V) (v9 : V) (v10 : V) : Prop :=
  Q .normal [(1, v1), (3, v3), (9, v9), (10, v10), (11, (.int .i64 0))] M
theorem e8_18 (P : Program) (Q : Exit → Slots → Mem → Prop) (s : Slots) (M : Mem) : wpC P c8_18 Q s M = w8_18 P Q M (sget s 1) (sget s 3) (sget s 9) (sget s 10) := by kernel_rfl
def o8_19 : List AOper := [⟨some 35, (.mov (.tmp 11)), false, none⟩,
  ⟨some 36, (.fieldAddr 0 (.tmp 3)), false, none⟩,
  ⟨some 37, (.load 1 false (.tmp 36)), false, none⟩,
  ⟨some 38, (.lenSl (.tmp 37)), false, none⟩,
  ⟨some 39, (.bin .lss .none (.tmp 35) (.tmp 38)), true, none⟩]
def c8_20 : ACode := (.seq (.region o8_19 [1, 3, 9, 10, 11, 39]) (.cond (.tmp 39) .skip (.exit 0)))
def w8_20 (_P : Program) (Q : Exit → Slots → Mem → Prop) (M : Mem) (v1 : V) (v3 : V) (v9 : V) (v10 : V) (v11 : V) : Prop :=
  @OptVH (moveV 0 v3) ⟨fun t36_2 =>
  @OptVH (loadV 1 false t36_2 M) ⟨fun t37_3 =>
  @OptVH (lenV t37_3 M) ⟨fun t38_4 =>
  @OptBH (binV .lss .none v11 t38_4) ⟨fun b39_5 =>
  @BIfH b39_5
  ⟨Q .normal [(1, v1), (3, v3), (9, v9), (10, v10), (11, v11), (39, (.bool b39_5))] M⟩
  ⟨Q (.exit 0) [(1, v1), (3, v3), (9, v9), (10, v10), (11, v11), (39, (.bool b39_5))] M⟩⟩⟩⟩⟩
theorem e8_20 (P : Program) (Q : Exit → Slots → Mem → Prop) (s : Slots) (M : Mem) : wpC P c8_20 Q s M = w8_20 P Q M (sget s 1) (sget s 3) (sget s 9) (sget s 10) (sget s 11) := by kernel_rfl
def o8_21 : List AOper := [⟨some 43, (.load 4 true (.tmp 3)), false, none⟩,
  ⟨some 44, (.mov (.tmp 11)), false, none⟩,
  ⟨some 45, (.mov (.tmp 1)), false, none⟩,
  ⟨some 46, (.call i_product_Price [(.tmp 43), (.tmp 44), (.const (.bool true)), (.tmp 45)]), false, none⟩,
  ⟨some 42, (.mov (.tmp 46)), false, none⟩,
  ⟨some 47, (.extract (.tmp 42) 0), false, none⟩,
  ⟨some 48, (.extract (.tmp 42) 1), true, none⟩,
  ⟨some 12, (.mov (.tmp 47)), false, none⟩,
  ⟨some 13, (.mov (.tmp 48)), true, none⟩]
def c8_22 : ACode := (.region o8_21 [1, 3, 9, 10, 11, 12, 13])
def w8_22 (P : Program) (Q : Exit → Slots → Mem → Prop) (M : Mem) (v1 : V) (v3 : V) (v9 : V) (v10 : V) (v11 : V) : Prop :=
  @OptVH (loadV 4 true v3 M) ⟨fun t43_1 =>
  @CallH P i_product_Price [t43_1, v11, (.bool true), v1] M ⟨fun t46_4 M4 =>
  @OptVH (extractV t46_4 0) ⟨fun t47_6 =>
  @OptBH (extractV t46_4 1) ⟨fun b48_7 =>
  Q .normal [(1, v1), (3, v3), (9, v9), (10, v10), (11, v11), (12, t47_6), (13, (.bool b48_7))] M4⟩⟩⟩⟩
theorem e8_22 (P : Program) (Q : Exit → Slots → Mem → Prop) (s : Slots) (M : Mem) : wpC P c8_22 Q s M = w8_22 P Q M (sget s 1) (sget s 3) (sget s 9) (sget s 10) (sget s 11) := by kernel_rfl
def o8_23 : List AOper := [⟨some 50, (.load 4 true (.tmp 3)), false, none⟩,
  ⟨some 51, (.mov (.tmp 11)), false, none⟩,
  ⟨some 52, (.mov (.tmp 9)), false, none⟩,
  ⟨some 53, (.call i_product_Price [(.tmp 50), (.tmp 51), (.const (.bool false)), (.tmp 52)]), false, none⟩,
  ⟨some 49, (.mov (.tmp 53)), false, none⟩,
  ⟨some 54, (.extract (.tmp 49) 0), false, none⟩,
  ⟨some 55, (.extract (.tmp 49) 1), true, none⟩,
  ⟨some 14, (.mov (.tmp 54)), false, none⟩,
  ⟨some 15, (.mov (.tmp 55)), true, none⟩]
def c8_24 : ACode := (.region o8_23 [1, 3, 9, 10, 11, 12, 13, 14, 15])
def w8_24 (P : Program) (Q : Exit → Slots → Mem → Prop) (M : Mem) (v1 : V) (v3 : V) (v9 : V) (v10 : V) (v11 : V) (v12 : V) (v13 : V) : Prop :=
  @OptVH (loadV 4 true v3 M) ⟨fun t50_1 =>
  @CallH P i_product_Price [t50_1, v11, (.bool false), v9] M ⟨fun t53_4 M4 =>
  @OptVH (extractV t53_4 0) ⟨fun t54_6 =>
  @OptBH (extractV t53_4 1) ⟨fun b55_7 =>
  Q .normal [(1, v1), (3, v3), (9, v9), (10, v10), (11, v11), (12, v12), (13, v13), (14, t54_6), (15, (.bool b55_7))] M4⟩⟩⟩⟩
theorem e8_24 (P : Program) (Q : Exit → Slots → Mem → Prop) (s : Slots) (M : Mem) : wpC P c8_24 Q s M = w8_24 P Q M (sget s 1) (sget s 3) (sget s 9) (sget s 10) (sget s 11) (sget s 12) (sget s 13) := by kernel_rfl
def o8_25 : List AOper := [⟨some 57, (.load 4 true (.tmp 3)), false, none⟩,
  ⟨some 58, (.mov (.tmp 11)), false, none⟩,
  ⟨some 59, (.mov (.tmp 10)), false, none⟩,
  ⟨some 60, (.call i_product_Price [(.tmp 57), (.tmp 58), (.const (.bool false)), (.tmp 59)]), false, none⟩,
  ⟨some 56, (.mov (.tmp 60)), false, none⟩,
  ⟨some 61, (.extract (.tmp 56) 0), false, none⟩,
  ⟨some 62, (.extract (.tmp 56) 1), true, none⟩,
  ⟨some 16, (.mov (.tmp 61)), false, none⟩,
  ⟨some 17, (.mov (.tmp 62)), true, none⟩]
def c8_26 : ACode := (.region o8_25 [1, 3, 9, 10, 11, 12, 13, 14, 15, 16, 17])
def w8_26 (P : Program) (Q : Exit → Slots → Mem → Prop) (M : Mem) (v1 : V) (v3 : V) (v9 : V) (v10 : V) (v11 : V) (v12 : V) (v13 : V) (v14 : V) (v15 : V) : Prop :=
  @OptVH (loadV 4 true v3 M) ⟨fun t57_1 =>
  @CallH P i_product_Price [t57_1, v11, (.bool false), v10] M ⟨fun t60_4 M4 =>
  @OptVH (extractV t60_4 0) ⟨fun t61_6 =>
  @OptBH (extractV t60_4 1) ⟨fun b62_7 =>
  Q .normal [(1, v1), (3, v3), (9, v9), (10, v10), (11, v11), (12, v12), (13, v13), (14, v14), (15, v15), (16, t61_6), (17, (.bool b62_7))] M4⟩⟩⟩⟩
theorem e8_26 (P : Program) (Q : Exit → Slots → Mem → Prop) (s : Slots) (M : Mem) : wpC P c8_26 Q s M = w8_26 P Q M (sget s 1) (sget s 3) (sget s 9) (sget s 10) (sget s 11) (sget s 12) (sget s 13) (sget s 14) (sget s 15) := by kernel_rfl
def o8_27 : List AOper := [⟨some 6, (.mov (.const (.bool false))), true, none⟩]
def c8_28 : ACode := (.region o8_27 [6])
def w8_28 (_P : Program) (Q : Exit → Slots → Mem → Prop) (M : Mem) : Prop :=
  Q .normal [(6, (.bool false))] M
theorem e8_28 (P : Program) (Q : Exit → Slots → Mem → Prop) (s : Slots) (M : Mem) : wpC P c8_28 Q s M = w8_28 P Q M := by kernel_rfl
def c8_29 : ACode := (.seq c8_28 .ret)
def o8_30 : List AOper := [⟨some 63, (.mov (.tmp 13)), true, none⟩,
  ⟨some 64, (.un .not (.tmp 63)), true, none⟩,
  ⟨some 65, (.mov (.tmp 64)), true, none⟩,
  ⟨some 66, (.mov (.tmp 15)), true, some (65, false)⟩,
  ⟨some 67, (.un .not (.tmp 66)), true, some (65, false)⟩,
  ⟨some 68, (.pick (.tmp 65) (.const (.bool true)) (.tmp 67)), true, none⟩,
  ⟨some 69, (.mov (.tmp 68)), true, none⟩,
  ⟨some 70, (.mov (.tmp 17)), true, some (69, false)⟩,
  ⟨some 71, (.un .not (.tmp 70)), true, some (69, false)⟩,
  ⟨some 72, (.pick (.tmp 69) (.const (.bool true)) (.tmp 71)), true, none⟩,
  ⟨some 73, (.mov (.tmp 72)), true, none⟩,
  ⟨some 74, (.mov (.tmp 12)), false, some (73, false)⟩,
  ⟨some 75, (.fieldAddr 0 (.tmp 3)), false, some (73, false)⟩,
  ⟨some 76, (.load 1 false (.tmp 75)), false, some (73, false)⟩,
  ⟨some 77, (.mov (.tmp 11)), false, some (73, false)⟩,
  ⟨some 78, (.indexSl 6 (.tmp 76) (.tmp 77)), false, some (73, false)⟩,
  ⟨some 79, (.fieldAddr 1 (.tmp 78)), false, some (73, false)⟩,
  ⟨some 80, (.load 1 false (.tmp 79)), false, some (73, false)⟩,
  ⟨some 81, (.bin .neq .none (.tmp 74) (.tmp 80)), true, some (73, false)⟩,
  ⟨some 82, (.pick (.tmp 73) (.const (.bool true)) (.tmp 81)), true, none⟩,
  ⟨some 83, (.mov (.tmp 82)), true, none⟩,
  ⟨some 84, (.mov (.tmp 14)), false, some (83, false)⟩,
  ⟨some 85, (.mov (.tmp 16)), false, some (83, false)⟩,
  ⟨some 86, (.bin .gtr .none (.tmp 84) (.tmp 85)), true, some (83, false)⟩,
  ⟨some 87, (.pick (.tmp 83) (.const (.bool true)) (.tmp 86)), true, none⟩,
  ⟨some 88, (.mov (.tmp 87)), true, none⟩,
  ⟨some 89, (.mov (.tmp 16)), false, some (88, false)⟩,
  ⟨some 90, (.mov (.tmp 12)), false, some (88, false)⟩,
  ⟨some 91, (.bin .gtr .none (.tmp 89) (.tmp 90)), true, some (88, false)⟩,
  ⟨some 92, (.pick (.tmp 88) (.const (.bool true)) (.tmp 91)), true, none⟩,
  ⟨some 93, (.mov (.tmp 92)), true, none⟩,
  ⟨some 94, (.mov (.tmp 14)), false, some (93, false)⟩,
  ⟨some 95, (.bin .lss .none (.tmp 94) (.const (.int .i64 0))), true, some (93, false)⟩,
  ⟨some 96, (.pick (.tmp 93) (.const (.bool true)) (.tmp 95)), true, none⟩,
  ⟨some 97, (.mov (.tmp 96)), true, none⟩,
  ⟨some 98, (.mov (.tmp 12)), false, some (97, false)⟩,
  ⟨some 99, (.mov (.tmp 14)), false, some (97, false)⟩,
  ⟨some 100, (.bin .sub .none (.tmp 98) (.tmp 99)), false, some (97, false)⟩,
  ⟨some 101, (.fieldAddr 1 (.tmp 3)), false, some (97, false)⟩,
  ⟨some 102, (.load 1 false (.tmp 101)), false, some (97, false)⟩,
  ⟨some 103, (.bin .gtr .none (.tmp 100) (.tmp 102)), true, some (97, false)⟩,
  ⟨some 104, (.pick (.tmp 97) (.const (.bool true)) (.tmp 103)), true, none⟩]
def c8_31 : ACode := (.seq (.region o8_30 [1, 3, 9, 10, 11, 104]) (.cond (.tmp 104) c8_29 .skip))
def w8_31 (P : Program) (Q : Exit → Slots → Mem → Prop) (M : Mem) (v1 : V) (v3 : V) (v9 : V) (v10 : V) (v11 : V) (v12 : V) (v13 : V) (v14 : V) (v15 : V) (v16 : V) (v17 : V) : Prop :=
  @OptBH (some v13) ⟨fun b63_1 =>
  @OptBH (unV .not (.bool b63_1)) ⟨fun b64_2 =>
  @BIfH b64_2
  ⟨wpC P c8_29 Q [(1, v1), (3, v3), (9, v9), (10, v10), (11, v11), (104, (.bool true))] M⟩
  ⟨@OptBH (some v15) ⟨fun b66_17 =>
  @OptBH (unV .not (.bool b66_17)) ⟨fun b67_18 =>
  @BIfH b67_18
  ⟨wpC P c8_29 Q [(1, v1), (3, v3), (9, v9), (10, v10), (11, v11), (104, (.bool true))] M⟩
  ⟨@OptBH (some v17) ⟨fun b70_32 =>
  @OptBH (unV .not (.bool b70_32)) ⟨fun b71_33 =>
  @BIfH b71_33
  ⟨wpC P c8_29 Q [(1, v1), (3, v3), (9, v9), (10, v10), (11, v11), (104, (.bool true))] M⟩
  ⟨@OptVH (moveV 0 v3) ⟨fun t75_46 =>
  @OptVH (loadV 1 false t75_46 M) ⟨fun t76_47 =>
  @OptVH (indexSlV 6 t76_47 v11 M) ⟨fun t78_49 =>
  @OptVH (moveV 1 t78_49) ⟨fun t79_50 =>
  @OptVH (loadV 1 false t79_50 M) ⟨fun t80_51 =>
  @OptBH (binV .neq .none v12 t80_51) ⟨fun b81_52 =>
  @BIfH b81_52
  ⟨wpC P c8_29 Q [(1, v1), (3, v3), (9, v9), (10, v10), (11, v11), (104, (.bool true))] M⟩
  ⟨@OptBH (binV .gtr .none v14 v16) ⟨fun b86_64 =>
  @BIfH b86_64
  ⟨wpC P c8_29 Q [(1, v1), (3, v3), (9, v9), (10, v10), (11, v11), (104, (.bool true))] M⟩
  ⟨@OptBH (binV .gtr .none v16 v12) ⟨fun b91_74 =>
  @BIfH b91_74
  ⟨wpC P c8_29 Q [(1, v1), (3, v3), (9, v9), (10, v10), (11, v11), (104, (.bool true))] M⟩
  ⟨@OptBH (binV .lss .none v14 (.int .i64 0)) ⟨fun b95_81 =>
  @BIfH b95_81
  ⟨wpC P c8_29 Q [(1, v1), (3, v3), (9, v9), (10, v10), (11, v11), (104, (.bool true))] M⟩
  ⟨@OptVH (binV .sub .none v12 v14) ⟨fun t100_87 =>
  @OptVH (moveV 1 v3) ⟨fun t101_88 =>
  @OptVH (loadV 1 false t101_88 M) ⟨fun t102_89 =>
  @OptBH (binV .gtr .none t100_87 t102_89) ⟨fun b103_90 =>
  @BIfH b103_90
  ⟨wpC P c8_29 Q [(1, v1), (3, v3), (9, v9), (10, v10), (11, v11), (104, (.bool b103_90))] M⟩
  ⟨Q .normal [(1, v1), (3, v3), (9, v9), (10, v10), (11, v11), (104, (.bool b103_90))] M⟩⟩⟩⟩⟩⟩⟩⟩⟩⟩⟩⟩⟩⟩⟩⟩⟩⟩⟩⟩⟩⟩⟩⟩⟩⟩⟩
theorem e8_31 (P : Program) (Q : Exit → Slots → Mem → Prop) (s : Slots) (M : Mem) : wpC P c8_31 Q s M = w8_31 P Q M (sget s 1) (sget s 3) (sget s 9) (sget s 10) (sget s 11) (sget s 12) (sget s 13) (sget s 14) (sget s 15) (sget s 16) (sget s 17) := by kernel_rfl
def c8_32 : ACode := (.seq c8_26 c8_31)
def c8_33 : ACode := (.seq c8_24 c8_32)
def c8_34 : ACode := (.seq c8_22 c8_33)
def c8_35 : ACode := (.block 1 c8_34)
def o8_36 : List AOper := [⟨some 40, (.mov (.tmp 11)), false, none⟩,
  ⟨some 41, (.bin .add .none (.tmp 40) (.const (.int .i64 1))), false, none⟩,
  ⟨some 11, (.mov (.tmp 41)), false, none⟩]
def c8_37 : ACode := (.region o8_36 [1, 3, 9, 10, 11])
def w8_37 (_P : Program) (Q : Exit → Slots → Mem → Prop) (M : Mem) (v1 : V) (v3 : V) (v9 : V) (v10 : V) (v11 : V) : Prop :=
  @OptVH (binV .add .none v11 (.int .i64 1)) ⟨fun t41_2 =>
  Q .normal [(1, v1), (3, v3), (9, v9), (10, v10), (11, t41_2)] M⟩
theorem e8_37 (P : Program) (Q : Exit → Slots → Mem → Prop) (s : Slots) (M : Mem) : wpC P c8_37 Q s M = w8_37 P Q M (sget s 1) (sget s 3) (sget s 9) (sget s 10) (sget s 11) := by kernel_rfl
def c8_38 : ACode := (.seq c8_35 c8_37)
def c8_39 : ACode := (.seq c8_20 c8_38)
def c8_40 : ACode := (.loop [1, 3, 9, 10, 11] c8_39)
def c8_41 : ACode := (.block 0 c8_40)
def c8_42 : ACode := (.seq c8_18 c8_41)
def o8_43 : List AOper := [⟨some 105, (.call i_transitlaw21_exampleHolds []), true, none⟩,
  ⟨some 6, (.mov (.tmp 105)), true, none⟩]
def c8_44 : ACode := (.region o8_43 [6])
def w8_44 (P : Program) (Q : Exit → Slots → Mem → Prop) (M : Mem) : Prop :=
  @CallH P i_transitlaw21_exampleHolds [] M ⟨fun t105_1 M1 => @OptBH (some t105_1) ⟨fun b105_1 =>
  Q .normal [(6, (.bool b105_1))] M1⟩⟩
theorem e8_44 (P : Program) (Q : Exit → Slots → Mem → Prop) (s : Slots) (M : Mem) : wpC P c8_44 Q s M = w8_44 P Q M := by kernel_rfl
def c8_45 : ACode := (.seq c8_44 .ret)
def c8_46 : ACode := (.seq c8_42 c8_45)
def c8_47 : ACode := (.seq c8_16 c8_46)
def c8_48 : ACode := (.seq c8_14 c8_47)
def c8_49 : ACode := (.seq c8_6 c8_48)
def c8_50 : ACode := (.seq c8_1 c8_49)
def fn_transitlaw21_ProductDiscounts : AFn := ⟨106, [(.tmp 6)], c8_50⟩
theorem fn_transitlaw21_ProductDiscounts_ok : resFn PR h_transitlaw21_ProductDiscounts i_transitlaw21_ProductDiscounts = some fn_transitlaw21_ProductDiscounts := by kernel_rfl

def h_transitlaw21_large : Hints := ⟨[(0, [1, 2]), (1, [4])], [], []⟩
def o9_0 : List AOper := [⟨some 2, (.box 4 (.tmp 0)), false, none⟩,
  ⟨some 4, (.mov (.const (.bool false))), true, none⟩]
def c9_1 : ACode := (.region o9_0 [1, 2])
def w9_1 (_P : Program) (Q : Exit → Slots → Mem → Prop) (M : Mem) (v0 : V) (v1 : V) : Prop :=
  @OptMH (boxV 4 v0 M) ⟨fun t2_1 M1 =>
  Q .normal [(1, v1), (2, t2_1)] M1⟩
theorem e9_1 (P : Program) (Q : Exit → Slots → Mem → Prop) (s : Slots) (M : Mem) : wpC P c9_1 Q s M = w9_1 P Q M (sget s 0) (sget s 1) := by kernel_rfl
def o9_2 : List AOper := [⟨some 5, (.fieldAddr 0 (.tmp 2)), false, none⟩,
  ⟨some 6, (.load 1 false (.tmp 5)), false, none⟩,
  ⟨some 7, (.lenSl (.tmp 6)), false, none⟩,
  ⟨some 8, (.bin .gtr .none (.tmp 7) (.const (.int .i64 40))), true, none⟩,
  ⟨some 9, (.mov (.tmp 8)), true, none⟩,
  ⟨some 10, (.mov (.tmp 1)), false, some (9, false)⟩,
  ⟨some 11, (.lenSl (.tmp 10)), false, some (9, false)⟩,
  ⟨some 12, (.bin .gtr .none (.tmp 11) (.const (.int .i64 40))), true, some (9, false)⟩,
  ⟨some 13, (.pick (.tmp 9) (.const (.bool true)) (.tmp 12)), true, none⟩,
  ⟨some 4, (.mov (.tmp 13)), true, none⟩]
def c9_3 : ACode := (.region o9_2 [4])
def w9_3 (_P : Program) (Q : Exit → Slots → Mem → Prop) (M : Mem) (v1 : V) (v2 : V) : Prop :=
  @OptVH (moveV 0 v2) ⟨fun t5_1 =>
  @OptVH (loadV 1 false t5_1 M) ⟨fun t6_2 =>
  @OptVH (lenV t6_2 M) ⟨fun t7_3 =>
  @OptBH (binV .gtr .none t7_3 (.int .i64 40)) ⟨fun b8_4 =>
  @BIfH b8_4
  ⟨Q .normal [(4, (.bool true))] M⟩
  ⟨@OptVH (lenV v1 M) ⟨fun t11_9 =>
  @OptBH (binV .gtr .none t11_9 (.int .i64 40)) ⟨fun b12_10 =>
  Q .normal [(4, (.bool b12_10))] M⟩⟩⟩⟩⟩⟩⟩
theorem e9_3 (P : Program) (Q : Exit → Slots → Mem → Prop) (s : Slots) (M : Mem) : wpC P c9_3 Q s M = w9_3 P Q M (sget s 1) (sget s 2) := by kernel_rfl
def c9_4 : ACode := (.seq c9_3 .ret)
def c9_5 : ACode := (.seq c9_1 c9_4)
def fn_transitlaw21_large : AFn := ⟨14, [(.tmp 4)], c9_5⟩
theorem fn_transitlaw21_large_ok : resFn PR h_transitlaw21_large i_transitlaw21_large = some fn_transitlaw21_large := by kernel_rfl

def h_transitlaw21_exampleHolds : Hints := ⟨[(0, []), (1, [1]), (2, [1, 2, 3]), (3, [1, 2, 3, 4]), (4, [1, 2, 3, 4, 6]), (5, [1, 2, 3, 4, 6, 7, 8]), (6, [1, 2, 3, 4, 6, 7, 8, 9, 10]), (7, [1, 2, 3, 4, 6, 7, 8, 9, 10, 11, 12]), (8, [1, 2, 3, 4, 6, 7, 8, 9, 10, 11, 12, 13, 14, 15]), (9, [1, 2, 3, 4, 6, 7, 8, 9, 10, 11, 12, 13, 14, 15]), (10, [1, 2, 3, 4, 6, 7, 8, 9, 10, 11, 12, 13, 14, 15, 16]), (11, [1, 2, 3, 4, 6, 7, 8, 9, 10, 11, 12, 13, 14, 15, 16]), (12, [0])], [], []⟩
def o10_0 : List AOper := [⟨some 0, (.mov (.const (.bool false))), true, none⟩]
def c10_1 : ACode := (.region o10_0 [])
def w10_1 (_P : Program) (Q : Exit → Slots → Mem → Prop) (M : Mem) : Prop :=
  Q .normal [] M
theorem e10_1 (P : Program) (Q : Exit → Slots → Mem → Prop) (s : Slots) (M : Mem) : wpC P c10_1 Q s M = w10_1 P Q M := by kernel_rfl
def o10_2 : List AOper := [⟨some 17, (.build [(.str []), (.int .i64 0), (.int .i64 0), (.int .i64 0), (.int .i64 0), (.int .i64 0)] [(0, (1, (.const (.str [97])))), (1, (1, (.const (.int .i64 120)))), (2, (1, (.const (.int .i64 2)))), (3, (1, (.const (.int .i64 2)))), (4, (1, (.const (.int .i64 600)))), (5, (1, (.const (.int .i64 255))))]), false, none⟩,
  ⟨some 1, (.alloc [(.str []), (.int .i64 0), (.int .i64 0), (.int .i64 0), (.int .i64 0), (.int .i64 0)]), false, none⟩,
  ⟨none, (.store 6 (.tmp 1) (.tmp 17)), false, none⟩]
def c10_3 : ACode := (.region o10_2 [1])
def w10_3 (_P : Program) (Q : Exit → Slots → Mem → Prop) (M : Mem) : Prop :=
  @OptVH (buildV [(.str []), (.int .i64 0), (.int .i64 0), (.int .i64 0), (.int .i64 0), (.int .i64 0)] [(0, 1, (.str [97])), (1, 1, (.int .i64 120)), (2, 1, (.int .i64 2)), (3, 1, (.int .i64 2)), (4, 1, (.int .i64 600)), (5, 1, (.int .i64 255))]) ⟨fun t17_1 =>
  @OptMH (allocV [(.str []), (.int .i64 0), (.int .i64 0), (.int .i64 0), (.int .i64 0), (.int .i64 0)] M) ⟨fun t1_2 M2 =>
  @OptMH (storeVM 6 t1_2 t17_1 M2) ⟨fun _tx_3 M3 =>
  Q .normal [(1, t1_2)] M3⟩⟩⟩
theorem e10_3 (P : Program) (Q : Exit → Slots → Mem → Prop) (s : Slots) (M : Mem) : wpC P c10_3 Q s M = w10_3 P Q M := by kernel_rfl
def o10_4 : List AOper := [⟨some 18, (.build [(.int .i64 0), (.int .i64 0), (.int .i64 0), (.int .i64 0)] [(2, (1, (.const (.int .i64 1)))), (3, (1, (.const (.int .i64 1))))]), false, none⟩,
  ⟨some 19, (.build [(.int .i64 0), (.int .i64 0), (.int .i64 0), (.int .i64 0)] [(0, (1, (.const (.int .i64 600)))), (2, (1, (.const (.int .i64 3)))), (3, (1, (.const (.int .i64 2))))]), false, none⟩,
  ⟨some 2, (.alloc [(.int .i64 0), (.int .i64 0), (.int .i64 0), (.int .i64 0)]), false, none⟩,
  ⟨some 3, (.alloc [(.int .i64 0), (.int .i64 0), (.int .i64 0), (.int .i64 0)]), false, none⟩,
  ⟨none, (.store 4 (.tmp 2) (.tmp 18)), false, none⟩,
  ⟨none, (.store 4 (.tmp 3) (.tmp 19)), false, none⟩]
def c10_5 : ACode := (.region o10_4 [1, 2, 3])
def w10_5 (_P : Program) (Q : Exit → Slots → Mem → Prop) (M : Mem) (v1 : V) : Prop :=
  @OptVH (buildV [(.int .i64 0), (.int .i64 0), (.int .i64 0), (.int .i64 0)] [(2, 1, (.int .i64 1)), (3, 1, (.int .i64 1))]) ⟨fun t18_1 =>
  @OptVH (buildV [(.int .i64 0), (.int .i64 0), (.int .i64 0), (.int .i64 0)] [(0, 1, (.int .i64 600)), (2, 1, (.int .i64 3)), (3, 1, (.int .i64 2))]) ⟨fun t19_2 =>
  @OptMH (allocV [(.int .i64 0), (.int .i64 0), (.int .i64 0), (.int .i64 0)] M) ⟨fun t2_3 M3 =>
  @OptMH (allocV [(.int .i64 0), (.int .i64 0), (.int .i64 0), (.int .i64 0)] M3) ⟨fun t3_4 M4 =>
  @OptMH (storeVM 4 t2_3 t18_1 M4) ⟨fun _tx_5 M5 =>
  @OptMH (storeVM 4 t3_4 t19_2 M5) ⟨fun _tx_6 M6 =>
  Q .normal [(1, v1), (2, t2_3), (3, t3_4)] M6⟩⟩⟩⟩⟩⟩
theorem e10_5 (P : Program) (Q : Exit → Slots → Mem → Prop) (s : Slots) (M : Mem) : wpC P c10_5 Q s M = w10_5 P Q M (sget s 1) := by kernel_rfl
def o10_6 : List AOper := [⟨some 20, (.load 6 true (.tmp 1)), false, none⟩,
  ⟨some 21, (.build [(.str []), (.int .i64 0), (.int .i64 0), (.int .i64 0), (.int .i64 0), (.int .i64 0)] [(0, (1, (.const (.str [98])))), (1, (1, (.const (.int .i64 30)))), (2, (1, (.const (.int .i64 1)))), (3, (1, (.const (.int .i64 1)))), (5, (1, (.const (.int .i64 1))))]), false, none⟩,
  ⟨some 22, (.buildSlice [(.str []), (.int .i64 0), (.int .i64 0), (.int .i64 0), (.int .i64 0), (.int .i64 0), (.str []), (.int .i64 0), (.int .i64 0), (.int .i64 0), (.int .i64 0), (.int .i64 0)] 6 2 [(0, (6, (.tmp 20))), (6, (6, (.tmp 21)))]), false, none⟩,
  ⟨some 23, (.build [(.slice [] .nil), (.int .i64 0), (.int .i64 0), (.int .i64 0)] [(0, (1, (.tmp 22))), (1, (1, (.const (.int .i64 50)))), (2, (1, (.const (.int .i64 300))))]), false, none⟩,
  ⟨some 4, (.alloc [(.slice [] .nil), (.int .i64 0), (.int .i64 0), (.int .i64 0)]), false, none⟩,
  ⟨none, (.store 4 (.tmp 4) (.tmp 23)), false, none⟩]
def c10_7 : ACode := (.region o10_6 [1, 2, 3, 4])
def w10_7 (_P : Program) (Q : Exit → Slots → Mem → Prop) (M : Mem) (v1 : V) (v2 : V) (v3 : V) : Prop :=
  @OptVH (loadV 6 true v1 M) ⟨fun t20_1 =>
  @OptVH (buildV [(.str []), (.int .i64 0), (.int .i64 0), (.int .i64 0), (.int .i64 0), (.int .i64 0)] [(0, 1, (.str [98])), (1, 1, (.int .i64 30)), (2, 1, (.int .i64 1)), (3, 1, (.int .i64 1)), (5, 1, (.int .i64 1))]) ⟨fun t21_2 =>
  @OptVH (buildSliceV [(.str []), (.int .i64 0), (.int .i64 0), (.int .i64 0), (.int .i64 0), (.int .i64 0), (.str []), (.int .i64 0), (.int .i64 0), (.int .i64 0), (.int .i64 0), (.int .i64 0)] 6 2 [(0, 6, t20_1), (6, 6, t21_2)]) ⟨fun t22_3 =>
  @OptVH (buildV [(.slice [] .nil), (.int .i64 0), (.int .i64 0), (.int .i64 0)] [(0, 1, t22_3), (1, 1, (.int .i64 50)), (2, 1, (.int .i64 300))]) ⟨fun t23_4 =>
  @OptMH (allocV [(.slice [] .nil), (.int .i64 0), (.int .i64 0), (.int .i64 0)] M) ⟨fun t4_5 M5 =>
  @OptMH (storeVM 4 t4_5 t23_4 M5) ⟨fun _tx_6 M6 =>
  Q .normal [(1, v1), (2, v2), (3, v3), (4, t4_5)] M6⟩⟩⟩⟩⟩⟩
theorem e10_7 (P : Program) (Q : Exit → Slots → Mem → Prop) (s : Slots) (M : Mem) : wpC P c10_7 Q s M = w10_7 P Q M (sget s 1) (sget s 2) (sget s 3) := by kernel_rfl
def o10_8 : List AOper := [⟨some 25, (.load 4 true (.tmp 4)), false, none⟩,
  ⟨some 26, (.call i_product_Check [(.tmp 25)]), false, none⟩,
  ⟨some 24, (.mov (.tmp 26)), false, none⟩,
  ⟨some 27, (.extract (.tmp 24) 0), false, none⟩,
  ⟨some 28, (.extract (.tmp 24) 1), false, none⟩,
  ⟨some 5, (.mov (.tmp 27)), false, none⟩,
  ⟨some 6, (.mov (.tmp 28)), false, none⟩]
def c10_9 : ACode := (.region o10_8 [1, 2, 3, 4, 6])
def w10_9 (P : Program) (Q : Exit → Slots → Mem → Prop) (M : Mem) (v1 : V) (v2 : V) (v3 : V) (v4 : V) : Prop :=
  @OptVH (loadV 4 true v4 M) ⟨fun t25_1 =>
  @CallH P i_product_Check [t25_1] M ⟨fun t26_2 M2 =>
  @OptVH (extractV t26_2 0) ⟨fun _t27_4 =>
  @OptVH (extractV t26_2 1) ⟨fun t28_5 =>
  Q .normal [(1, v1), (2, v2), (3, v3), (4, v4), (6, t28_5)] M2⟩⟩⟩⟩
theorem e10_9 (P : Program) (Q : Exit → Slots → Mem → Prop) (s : Slots) (M : Mem) : wpC P c10_9 Q s M = w10_9 P Q M (sget s 1) (sget s 2) (sget s 3) (sget s 4) := by kernel_rfl
def o10_10 : List AOper := [⟨some 30, (.load 4 true (.tmp 4)), false, none⟩,
  ⟨some 31, (.call i_product_Price [(.tmp 30), (.const (.int .i64 0)), (.const (.bool false)), (.const (.int .i64 300))]), false, none⟩,
  ⟨some 29, (.mov (.tmp 31)), false, none⟩,
  ⟨some 32, (.extract (.tmp 29) 0), false, none⟩,
  ⟨some 33, (.extract (.tmp 29) 1), true, none⟩,
  ⟨some 7, (.mov (.tmp 32)), false, none⟩,
  ⟨some 8, (.mov (.tmp 33)), true, none⟩]
def c10_11 : ACode := (.region o10_10 [1, 2, 3, 4, 6, 7, 8])
def w10_11 (P : Program) (Q : Exit → Slots → Mem → Prop) (M : Mem) (v1 : V) (v2 : V) (v3 : V) (v4 : V) (v6 : V) : Prop :=
  @OptVH (loadV 4 true v4 M) ⟨fun t30_1 =>
  @CallH P i_product_Price [t30_1, (.int .i64 0), (.bool false), (.int .i64 300)] M ⟨fun t31_2 M2 =>
  @OptVH (extractV t31_2 0) ⟨fun t32_4 =>
  @OptBH (extractV t31_2 1) ⟨fun b33_5 =>
  Q .normal [(1, v1), (2, v2), (3, v3), (4, v4), (6, v6), (7, t32_4), (8, (.bool b33_5))] M2⟩⟩⟩⟩
theorem e10_11 (P : Program) (Q : Exit → Slots → Mem → Prop) (s : Slots) (M : Mem) : wpC P c10_11 Q s M = w10_11 P Q M (sget s 1) (sget s 2) (sget s 3) (sget s 4) (sget s 6) := by kernel_rfl
def o10_12 : List AOper := [⟨some 35, (.load 4 true (.tmp 4)), false, none⟩,
  ⟨some 36, (.call i_product_Price [(.tmp 35), (.const (.int .i64 0)), (.const (.bool false)), (.const (.int .i64 301))]), false, none⟩,
  ⟨some 34, (.mov (.tmp 36)), false, none⟩,
  ⟨some 37, (.extract (.tmp 34) 0), false, none⟩,
  ⟨some 38, (.extract (.tmp 34) 1), true, none⟩,
  ⟨some 9, (.mov (.tmp 37)), false, none⟩,
  ⟨some 10, (.mov (.tmp 38)), true, none⟩]
def c10_13 : ACode := (.region o10_12 [1, 2, 3, 4, 6, 7, 8, 9, 10])
def w10_13 (P : Program) (Q : Exit → Slots → Mem → Prop) (M : Mem) (v1 : V) (v2 : V) (v3 : V) (v4 : V) (v6 : V) (v7 : V) (v8 : V) : Prop :=
  @OptVH (loadV 4 true v4 M) ⟨fun t35_1 =>
  @CallH P i_product_Price [t35_1, (.int .i64 0), (.bool false), (.int .i64 301)] M ⟨fun t36_2 M2 =>
  @OptVH (extractV t36_2 0) ⟨fun t37_4 =>
  @OptBH (extractV t36_2 1) ⟨fun b38_5 =>
  Q .normal [(1, v1), (2, v2), (3, v3), (4, v4), (6, v6), (7, v7), (8, v8), (9, t37_4), (10, (.bool b38_5))] M2⟩⟩⟩⟩
theorem e10_13 (P : Program) (Q : Exit → Slots → Mem → Prop) (s : Slots) (M : Mem) : wpC P c10_13 Q s M = w10_13 P Q M (sget s 1) (sget s 2) (sget s 3) (sget s 4) (sget s 6) (sget s 7) (sget s 8) := by kernel_rfl
def o10_14 : List AOper := [⟨some 40, (.load 4 true (.tmp 4)), false, none⟩,
  ⟨some 41, (.call i_product_Price [(.tmp 40), (.const (.int .i64 1)), (.const (.bool false)), (.const (.int .i64 0))]), false, none⟩,
  ⟨some 39, (.mov (.tmp 41)), false, none⟩,
  ⟨some 42, (.extract (.tmp 39) 0), false, none⟩,
  ⟨some 43, (.extract (.tmp 39) 1), true, none⟩,
  ⟨some 11, (.mov (.tmp 42)), false, none⟩,
  ⟨some 12, (.mov (.tmp 43)), true, none⟩]
def c10_15 : ACode := (.region o10_14 [1, 2, 3, 4, 6, 7, 8, 9, 10, 11, 12])
def w10_15 (P : Program) (Q : Exit → Slots → Mem → Prop) (M : Mem) (v1 : V) (v2 : V) (v3 : V) (v4 : V) (v6 : V) (v7 : V) (v8 : V) (v9 : V) (v10 : V) : Prop :=
  @OptVH (loadV 4 true v4 M) ⟨fun t40_1 =>
  @CallH P i_product_Price [t40_1, (.int .i64 1), (.bool false), (.int .i64 0)] M ⟨fun t41_2 M2 =>
  @OptVH (extractV t41_2 0) ⟨fun t42_4 =>
  @OptBH (extractV t41_2 1) ⟨fun b43_5 =>
  Q .normal [(1, v1), (2, v2), (3, v3), (4, v4), (6, v6), (7, v7), (8, v8), (9, v9), (10, v10), (11, t42_4), (12, (.bool b43_5))] M2⟩⟩⟩⟩
theorem e10_15 (P : Program) (Q : Exit → Slots → Mem → Prop) (s : Slots) (M : Mem) : wpC P c10_15 Q s M = w10_15 P Q M (sget s 1) (sget s 2) (sget s 3) (sget s 4) (sget s 6) (sget s 7) (sget s 8) (sget s 9) (sget s 10) := by kernel_rfl
def o10_16 : List AOper := [⟨some 45, (.load 4 true (.tmp 4)), false, none⟩,
  ⟨some 46, (.load 4 true (.tmp 2)), false, none⟩,
  ⟨some 47, (.buildSlice [(.int .i64 0), (.int .i64 0), (.int .i64 0), (.int .i64 0)] 4 1 [(0, (4, (.tmp 46)))]), false, none⟩,
  ⟨some 48, (.call i_product_Cheapest [(.tmp 45), (.tmp 47)]), false, none⟩,
  ⟨some 44, (.mov (.tmp 48)), false, none⟩,
  ⟨some 49, (.extract (.tmp 44) 0), false, none⟩,
  ⟨some 50, (.extract (.tmp 44) 1), false, none⟩,
  ⟨some 51, (.extract (.tmp 44) 2), true, none⟩,
  ⟨some 13, (.mov (.tmp 49)), false, none⟩,
  ⟨some 14, (.mov (.tmp 50)), false, none⟩,
  ⟨some 15, (.mov (.tmp 51)), true, none⟩]
def c10_17 : ACode := (.region o10_16 [1, 2, 3, 4, 6, 7, 8, 9, 10, 11, 12, 13, 14, 15])
def w10_17 (P : Program) (Q : Exit → Slots → Mem → Prop) (M : Mem) (v1 : V) (v2 : V) (v3 : V) (v4 : V) (v6 : V) (v7 : V) (v8 : V) (v9 : V) (v10 : V) (v11 : V) (v12 : V) : Prop :=
  @OptVH (loadV 4 true v4 M) ⟨fun t45_1 =>
  @OptVH (loadV 4 true v2 M) ⟨fun t46_2 =>
  @OptVH (buildSliceV [(.int .i64 0), (.int .i64 0), (.int .i64 0), (.int .i64 0)] 4 1 [(0, 4, t46_2)]) ⟨fun t47_3 =>
  @CallH P i_product_Cheapest [t45_1, t47_3] M ⟨fun t48_4 M4 =>
  @OptVH (extractV t48_4 0) ⟨fun t49_6 =>
  @OptVH (extractV t48_4 1) ⟨fun t50_7 =>
  @OptBH (extractV t48_4 2) ⟨fun b51_8 =>
  Q .normal [(1, v1), (2, v2), (3, v3), (4, v4), (6, v6), (7, v7), (8, v8), (9, v9), (10, v10), (11, v11), (12, v12), (13, t49_6), (14, t50_7), (15, (.bool b51_8))] M4⟩⟩⟩⟩⟩⟩⟩
theorem e10_17 (P : Program) (Q : Exit → Slots → Mem → Prop) (s : Slots) (M : Mem) : wpC P c10_17 Q s M = w10_17 P Q M (sget s 1) (sget s 2) (sget s 3) (sget s 4) (sget s 6) (sget s 7) (sget s 8) (sget s 9) (sget s 10) (sget s 11) (sget s 12) := by kernel_rfl
def o10_18 : List AOper := [⟨some 52, (.fieldAddr 0 (.tmp 3)), false, none⟩,
  ⟨none, (.store 1 (.tmp 52) (.const (.int .i64 601))), false, none⟩]
def c10_19 : ACode := (.region o10_18 [1, 2, 3, 4, 6, 7, 8, 9, 10, 11, 12, 13, 14, 15])
def w10_19 (_P : Program) (Q : Exit → Slots → Mem → Prop) (M : Mem) (v1 : V) (v2 : V) (v3 : V) (v4 : V) (v6 : V) (v7 : V) (v8 : V) (v9 : V) (v10 : V) (v11 : V) (v12 : V) (v13 : V) (v14 : V) (v15 : V) : Prop :=
  @OptVH (moveV 0 v3) ⟨fun t52_1 =>
  @OptMH (storeVM 1 t52_1 (.int .i64 601) M) ⟨fun _tx_2 M2 =>
  Q .normal [(1, v1), (2, v2), (3, v3), (4, v4), (6, v6), (7, v7), (8, v8), (9, v9), (10, v10), (11, v11), (12, v12), (13, v13), (14, v14), (15, v15)] M2⟩⟩
theorem e10_19 (P : Program) (Q : Exit → Slots → Mem → Prop) (s : Slots) (M : Mem) : wpC P c10_19 Q s M = w10_19 P Q M (sget s 1) (sget s 2) (sget s 3) (sget s 4) (sget s 6) (sget s 7) (sget s 8) (sget s 9) (sget s 10) (sget s 11) (sget s 12) (sget s 13) (sget s 14) (sget s 15) := by kernel_rfl
def o10_20 : List AOper := [⟨some 53, (.load 6 true (.tmp 1)), false, none⟩,
  ⟨some 54, (.load 4 true (.tmp 2)), false, none⟩,
  ⟨some 55, (.load 4 true (.tmp 3)), false, none⟩,
  ⟨some 56, (.buildSlice [(.int .i64 0), (.int .i64 0), (.int .i64 0), (.int .i64 0), (.int .i64 0), (.int .i64 0), (.int .i64 0), (.int .i64 0)] 4 2 [(0, (4, (.tmp 54))), (4, (4, (.tmp 55)))]), false, none⟩,
  ⟨some 57, (.call i_product_Covers [(.tmp 53), (.tmp 56)]), true, none⟩,
  ⟨some 16, (.mov (.tmp 57)), true, none⟩]
def c10_21 : ACode := (.region o10_20 [1, 2, 3, 4, 6, 7, 8, 9, 10, 11, 12, 13, 14, 15, 16])
def w10_21 (P : Program) (Q : Exit → Slots → Mem → Prop) (M : Mem) (v1 : V) (v2 : V) (v3 : V) (v4 : V) (v6 : V) (v7 : V) (v8 : V) (v9 : V) (v10 : V) (v11 : V) (v12 : V) (v13 : V) (v14 : V) (v15 : V) : Prop :=
  @OptVH (loadV 6 true v1 M) ⟨fun t53_1 =>
  @OptVH (loadV 4 true v2 M) ⟨fun t54_2 =>
  @OptVH (loadV 4 true v3 M) ⟨fun t55_3 =>
  @OptVH (buildSliceV [(.int .i64 0), (.int .i64 0), (.int .i64 0), (.int .i64 0), (.int .i64 0), (.int .i64 0), (.int .i64 0), (.int .i64 0)] 4 2 [(0, 4, t54_2), (4, 4, t55_3)]) ⟨fun t56_4 =>
  @CallH P i_product_Covers [t53_1, t56_4] M ⟨fun t57_5 M5 => @OptBH (some t57_5) ⟨fun b57_5 =>
  Q .normal [(1, v1), (2, v2), (3, v3), (4, v4), (6, v6), (7, v7), (8, v8), (9, v9), (10, v10), (11, v11), (12, v12), (13, v13), (14, v14), (15, v15), (16, (.bool b57_5))] M5⟩⟩⟩⟩⟩⟩
theorem e10_21 (P : Program) (Q : Exit → Slots → Mem → Prop) (s : Slots) (M : Mem) : wpC P c10_21 Q s M = w10_21 P Q M (sget s 1) (sget s 2) (sget s 3) (sget s 4) (sget s 6) (sget s 7) (sget s 8) (sget s 9) (sget s 10) (sget s 11) (sget s 12) (sget s 13) (sget s 14) (sget s 15) := by kernel_rfl
def o10_22 : List AOper := [⟨some 58, (.fieldAddr 0 (.tmp 3)), false, none⟩,
  ⟨none, (.store 1 (.tmp 58) (.const (.int .i64 600))), false, none⟩]
def c10_23 : ACode := (.region o10_22 [1, 2, 3, 4, 6, 7, 8, 9, 10, 11, 12, 13, 14, 15, 16])
def w10_23 (_P : Program) (Q : Exit → Slots → Mem → Prop) (M : Mem) (v1 : V) (v2 : V) (v3 : V) (v4 : V) (v6 : V) (v7 : V) (v8 : V) (v9 : V) (v10 : V) (v11 : V) (v12 : V) (v13 : V) (v14 : V) (v15 : V) (v16 : V) : Prop :=
  @OptVH (moveV 0 v3) ⟨fun t58_1 =>
  @OptMH (storeVM 1 t58_1 (.int .i64 600) M) ⟨fun _tx_2 M2 =>
  Q .normal [(1, v1), (2, v2), (3, v3), (4, v4), (6, v6), (7, v7), (8, v8), (9, v9), (10, v10), (11, v11), (12, v12), (13, v13), (14, v14), (15, v15), (16, v16)] M2⟩⟩
theorem e10_23 (P : Program) (Q : Exit → Slots → Mem → Prop) (s : Slots) (M : Mem) : wpC P c10_23 Q s M = w10_23 P Q M (sget s 1) (sget s 2) (sget s 3) (sget s 4) (sget s 6) (sget s 7) (sget s 8) (sget s 9) (sget s 10) (sget s 11) (sget s 12) (sget s 13) (sget s 14) (sget s 15) (sget s 16) := by kernel_rfl
def o10_24 : List AOper := [⟨some 59, (.mov (.tmp 6)), false, none⟩,
  ⟨some 60, (.bin .eql .none (.tmp 59) (.const (.int .i64 0))), true, none⟩,
  ⟨some 61, (.mov (.tmp 60)), true, none⟩,
  ⟨some 62, (.mov (.tmp 7)), false, some (61, true)⟩,
  ⟨some 63, (.bin .eql .none (.tmp 62) (.const (.int .i64 70))), true, some (61, true)⟩,
  ⟨some 64, (.pick (.tmp 61) (.tmp 63) (.const (.bool false))), true, none⟩,
  ⟨some 65, (.mov (.tmp 64)), true, none⟩,
  ⟨some 66, (.mov (.tmp 8)), true, some (65, true)⟩,
  ⟨some 67, (.pick (.tmp 65) (.tmp 66) (.const (.bool false))), true, none⟩,
  ⟨some 68, (.mov (.tmp 67)), true, none⟩,
  ⟨some 69, (.mov (.tmp 9)), false, some (68, true)⟩,
  ⟨some 70, (.bin .eql .none (.tmp 69) (.const (.int .i64 120))), true, some (68, true)⟩,
  ⟨some 71, (.pick (.tmp 68) (.tmp 70) (.const (.bool false))), true, none⟩,
  ⟨some 72, (.mov (.tmp 71)), true, none⟩,
  ⟨some 73, (.mov (.tmp 10)), true, some (72, true)⟩,
  ⟨some 74, (.pick (.tmp 72) (.tmp 73) (.const (.bool false))), true, none⟩,
  ⟨some 75, (.mov (.tmp 74)), true, none⟩,
  ⟨some 76, (.mov (.tmp 11)), false, some (75, true)⟩,
  ⟨some 77, (.bin .eql .none (.tmp 76) (.const (.int .i64 0))), true, some (75, true)⟩,
  ⟨some 78, (.pick (.tmp 75) (.tmp 77) (.const (.bool false))), true, none⟩,
  ⟨some 79, (.mov (.tmp 78)), true, none⟩,
  ⟨some 80, (.mov (.tmp 12)), true, some (79, true)⟩,
  ⟨some 81, (.pick (.tmp 79) (.tmp 80) (.const (.bool false))), true, none⟩,
  ⟨some 82, (.mov (.tmp 81)), true, none⟩,
  ⟨some 83, (.mov (.tmp 13)), false, some (82, true)⟩,
  ⟨some 84, (.bin .eql .none (.tmp 83) (.const (.int .i64 1))), true, some (82, true)⟩,
  ⟨some 85, (.pick (.tmp 82) (.tmp 84) (.const (.bool false))), true, none⟩,
  ⟨some 86, (.mov (.tmp 85)), true, none⟩,
  ⟨some 87, (.mov (.tmp 14)), false, some (86, true)⟩,
  ⟨some 88, (.bin .eql .none (.tmp 87) (.const (.int .i64 30))), true, some (86, true)⟩,
  ⟨some 89, (.pick (.tmp 86) (.tmp 88) (.const (.bool false))), true, none⟩,
  ⟨some 90, (.mov (.tmp 89)), true, none⟩,
  ⟨some 91, (.mov (.tmp 15)), true, some (90, true)⟩,
  ⟨some 92, (.pick (.tmp 90) (.tmp 91) (.const (.bool false))), true, none⟩,
  ⟨some 93, (.mov (.tmp 92)), true, none⟩,
  ⟨some 94, (.mov (.tmp 16)), true, some (93, true)⟩,
  ⟨some 95, (.un .not (.tmp 94)), true, some (93, true)⟩,
  ⟨some 96, (.pick (.tmp 93) (.tmp 95) (.const (.bool false))), true, none⟩,
  ⟨some 97, (.mov (.tmp 96)), true, none⟩,
  ⟨some 98, (.load 6 true (.tmp 1)), false, some (97, true)⟩,
  ⟨some 99, (.load 4 true (.tmp 2)), false, some (97, true)⟩,
  ⟨some 100, (.load 4 true (.tmp 3)), false, some (97, true)⟩,
  ⟨some 101, (.buildSlice [(.int .i64 0), (.int .i64 0), (.int .i64 0), (.int .i64 0), (.int .i64 0), (.int .i64 0), (.int .i64 0), (.int .i64 0)] 4 2 [(0, (4, (.tmp 99))), (4, (4, (.tmp 100)))]), false, some (97, true)⟩,
  ⟨some 102, (.call i_product_Covers [(.tmp 98), (.tmp 101)]), true, some (97, true)⟩,
  ⟨some 103, (.pick (.tmp 97) (.tmp 102) (.const (.bool false))), true, none⟩,
  ⟨some 104, (.mov (.tmp 103)), true, none⟩,
  ⟨some 105, (.load 6 true (.tmp 1)), false, some (104, true)⟩,
  ⟨some 106, (.load 4 true (.tmp 2)), false, some (104, true)⟩,
  ⟨some 107, (.load 4 true (.tmp 3)), false, some (104, true)⟩,
  ⟨some 108, (.load 4 true (.tmp 3)), false, some (104, true)⟩,
  ⟨some 109, (.buildSlice [(.int .i64 0), (.int .i64 0), (.int .i64 0), (.int .i64 0), (.int .i64 0), (.int .i64 0), (.int .i64 0), (.int .i64 0), (.int .i64 0), (.int .i64 0), (.int .i64 0), (.int .i64 0)] 4 3 [(0, (4, (.tmp 106))), (4, (4, (.tmp 107))), (8, (4, (.tmp 108)))]), false, some (104, true)⟩,
  ⟨some 110, (.call i_product_Covers [(.tmp 105), (.tmp 109)]), true, some (104, true)⟩,
  ⟨some 111, (.un .not (.tmp 110)), true, some (104, true)⟩,
  ⟨some 112, (.pick (.tmp 104) (.tmp 111) (.const (.bool false))), true, none⟩,
  ⟨some 113, (.mov (.tmp 112)), true, none⟩,
  ⟨some 114, (.load 4 true (.tmp 4)), false, some (113, true)⟩,
  ⟨some 115, (.load 4 true (.tmp 2)), false, some (113, true)⟩,
  ⟨some 116, (.buildSlice [(.int .i64 0), (.int .i64 0), (.int .i64 0), (.int .i64 0)] 4 1 [(0, (4, (.tmp 115)))]), false, some (113, true)⟩,
  ⟨some 117, (.call i_product_Options [(.tmp 114), (.tmp 116)]), false, some (113, true)⟩,
  ⟨some 118, (.buildSlice [(.int .i64 0), (.int .i64 0)] 1 2 [(0, (1, (.const (.int .i64 0)))), (1, (1, (.const (.int .i64 1))))]), false, some (113, true)⟩,
  ⟨some 119, (.call i_transitref03_SameInts [(.tmp 117), (.tmp 118)]), true, some (113, true)⟩,
  ⟨some 120, (.pick (.tmp 113) (.tmp 119) (.const (.bool false))), true, none⟩,
  ⟨some 0, (.mov (.tmp 120)), true, none⟩]
def c10_25 : ACode := (.region o10_24 [0])
def w10_25 (P : Program) (Q : Exit → Slots → Mem → Prop) (M : Mem) (v1 : V) (v2 : V) (v3 : V) (v4 : V) (v6 : V) (v7 : V) (v8 : V) (v9 : V) (v10 : V) (v11 : V) (v12 : V) (v13 : V) (v14 : V) (v15 : V) (v16 : V) : Prop :=
  @OptBH (binV .eql .none v6 (.int .i64 0)) ⟨fun b60_2 =>
  @BIfH b60_2
  ⟨@OptBH (binV .eql .none v7 (.int .i64 70)) ⟨fun b63_5 =>
  @BIfH b63_5
  ⟨@OptBH (some v8) ⟨fun b66_8 =>
  @BIfH b66_8
  ⟨@OptBH (binV .eql .none v9 (.int .i64 120)) ⟨fun b70_12 =>
  @BIfH b70_12
  ⟨@OptBH (some v10) ⟨fun b73_15 =>
  @BIfH b73_15
  ⟨@OptBH (binV .eql .none v11 (.int .i64 0)) ⟨fun b77_19 =>
  @BIfH b77_19
  ⟨@OptBH (some v12) ⟨fun b80_22 =>
  @BIfH b80_22
  ⟨@OptBH (binV .eql .none v13 (.int .i64 1)) ⟨fun b84_26 =>
  @BIfH b84_26
  ⟨@OptBH (binV .eql .none v14 (.int .i64 30)) ⟨fun b88_30 =>
  @BIfH b88_30
  ⟨@OptBH (some v15) ⟨fun b91_33 =>
  @BIfH b91_33
  ⟨@OptBH (some v16) ⟨fun b94_36 =>
  @OptBH (unV .not (.bool b94_36)) ⟨fun b95_37 =>
  @BIfH b95_37
  ⟨@OptVH (loadV 6 true v1 M) ⟨fun t98_40 =>
  @OptVH (loadV 4 true v2 M) ⟨fun t99_41 =>
  @OptVH (loadV 4 true v3 M) ⟨fun t100_42 =>
  @OptVH (buildSliceV [(.int .i64 0), (.int .i64 0), (.int .i64 0), (.int .i64 0), (.int .i64 0), (.int .i64 0), (.int .i64 0), (.int .i64 0)] 4 2 [(0, 4, t99_41), (4, 4, t100_42)]) ⟨fun t101_43 =>
  @CallH P i_product_Covers [t98_40, t101_43] M ⟨fun t102_44 M44 => @OptBH (some t102_44) ⟨fun b102_44 =>
  @BIfH b102_44
  ⟨@OptVH (loadV 6 true v1 M44) ⟨fun t105_47 =>
  @OptVH (loadV 4 true v2 M44) ⟨fun t106_48 =>
  @OptVH (loadV 4 true v3 M44) ⟨fun t107_49 =>
  @OptVH (loadV 4 true v3 M44) ⟨fun t108_50 =>
  @OptVH (buildSliceV [(.int .i64 0), (.int .i64 0), (.int .i64 0), (.int .i64 0), (.int .i64 0), (.int .i64 0), (.int .i64 0), (.int .i64 0), (.int .i64 0), (.int .i64 0), (.int .i64 0), (.int .i64 0)] 4 3 [(0, 4, t106_48), (4, 4, t107_49), (8, 4, t108_50)]) ⟨fun t109_51 =>
  @CallH P i_product_Covers [t105_47, t109_51] M44 ⟨fun t110_52 M52 => @OptBH (some t110_52) ⟨fun b110_52 =>
  @OptBH (unV .not (.bool b110_52)) ⟨fun b111_53 =>
  @BIfH b111_53
  ⟨@OptVH (loadV 4 true v4 M52) ⟨fun t114_56 =>
  @OptVH (loadV 4 true v2 M52) ⟨fun t115_57 =>
  @OptVH (buildSliceV [(.int .i64 0), (.int .i64 0), (.int .i64 0), (.int .i64 0)] 4 1 [(0, 4, t115_57)]) ⟨fun t116_58 =>
  @CallH P i_product_Options [t114_56, t116_58] M52 ⟨fun t117_59 M59 =>
  @OptVH (buildSliceV [(.int .i64 0), (.int .i64 0)] 1 2 [(0, 1, (.int .i64 0)), (1, 1, (.int .i64 1))]) ⟨fun t118_60 =>
  @CallH P i_transitref03_SameInts [t117_59, t118_60] M59 ⟨fun t119_61 M61 => @OptBH (some t119_61) ⟨fun b119_61 =>
  Q .normal [(0, (.bool b119_61))] M61⟩⟩⟩⟩⟩⟩⟩⟩
  ⟨Q .normal [(0, (.bool false))] M52⟩⟩⟩⟩⟩⟩⟩⟩⟩⟩
  ⟨Q .normal [(0, (.bool false))] M44⟩⟩⟩⟩⟩⟩⟩⟩
  ⟨Q .normal [(0, (.bool false))] M⟩⟩⟩⟩
  ⟨Q .normal [(0, (.bool false))] M⟩⟩⟩
  ⟨Q .normal [(0, (.bool false))] M⟩⟩⟩
  ⟨Q .normal [(0, (.bool false))] M⟩⟩⟩
  ⟨Q .normal [(0, (.bool false))] M⟩⟩⟩
  ⟨Q .normal [(0, (.bool false))] M⟩⟩⟩
  ⟨Q .normal [(0, (.bool false))] M⟩⟩⟩
  ⟨Q .normal [(0, (.bool false))] M⟩⟩⟩
  ⟨Q .normal [(0, (.bool false))] M⟩⟩⟩
  ⟨Q .normal [(0, (.bool false))] M⟩⟩⟩
  ⟨Q .normal [(0, (.bool false))] M⟩⟩
theorem e10_25 (P : Program) (Q : Exit → Slots → Mem → Prop) (s : Slots) (M : Mem) : wpC P c10_25 Q s M = w10_25 P Q M (sget s 1) (sget s 2) (sget s 3) (sget s 4) (sget s 6) (sget s 7) (sget s 8) (sget s 9) (sget s 10) (sget s 11) (sget s 12) (sget s 13) (sget s 14) (sget s 15) (sget s 16) := by kernel_rfl
def c10_26 : ACode := (.seq c10_25 .ret)
def c10_27 : ACode := (.seq c10_23 c10_26)
def c10_28 : ACode := (.seq c10_21 c10_27)
def c10_29 : ACode := (.seq c10_19 c10_28)
def c10_30 : ACode := (.seq c10_17 c10_29)
def c10_31 : ACode := (.seq c10_15 c10_30)
def c10_32 : ACode := (.seq c10_13 c10_31)
def c10_33 : ACode := (.seq c10_11 c10_32)
def c10_34 : ACode := (.seq c10_9 c10_33)
def c10_35 : ACode := (.seq c10_7 c10_34)
def c10_36 : ACode := (.seq c10_5 c10_35)
def c10_37 : ACode := (.seq c10_3 c10_36)
def c10_38 : ACode := (.seq c10_1 c10_37)
def fn_transitlaw21_exampleHolds : AFn := ⟨121, [(.tmp 0)], c10_38⟩
theorem fn_transitlaw21_exampleHolds_ok : resFn PR h_transitlaw21_exampleHolds i_transitlaw21_exampleHolds = some fn_transitlaw21_exampleHolds := by kernel_rfl

def h_product_Check : Hints := ⟨[(0, [1]), (1, [1, 22]), (2, [2, 3]), (3, [1, 26]), (4, [2, 3]), (5, [1, 4]), (6, [4, 29, 30, 31]), (7, [4, 29, 30, 31, 32]), (8, [4, 5, 6, 29, 30, 31]), (9, [4, 5, 6, 29, 30, 31, 39]), (10, [2, 3]), (11, [4, 5, 6, 29, 30, 31, 44]), (12, [2, 3]), (13, [4, 5, 6, 29, 30, 31, 73]), (14, [2, 3]), (15, [4, 29, 30, 31]), (16, [4, 29, 30, 31]), (17, [2, 3])], [(7, [4, 29, 30, 31])], []⟩
def o11_0 : List AOper := [⟨some 1, (.box 4 (.tmp 0)), false, none⟩,
  ⟨some 2, (.mov (.const (.int .i64 0))), false, none⟩,
  ⟨some 3, (.mov (.const (.int .i64 0))), false, none⟩]
def c11_1 : ACode := (.region o11_0 [1])
def w11_1 (_P : Program) (Q : Exit → Slots → Mem → Prop) (M : Mem) (v0 : V) : Prop :=
  @OptMH (boxV 4 v0 M) ⟨fun t1_1 M1 =>
  Q .normal [(1, t1_1)] M1⟩
theorem e11_1 (P : Program) (Q : Exit → Slots → Mem → Prop) (s : Slots) (M : Mem) : wpC P c11_1 Q s M = w11_1 P Q M (sget s 0) := by kernel_rfl
def o11_2 : List AOper := [⟨some 2, (.mov (.const (.int .i64 (-1)))), false, none⟩,
  ⟨some 3, (.mov (.const (.int .i64 2))), false, none⟩]
def c11_3 : ACode := (.region o11_2 [2, 3])
def w11_3 (_P : Program) (Q : Exit → Slots → Mem → Prop) (M : Mem) : Prop :=
  Q .normal [(2, (.int .i64 (-1))), (3, (.int .i64 2))] M
theorem e11_3 (P : Program) (Q : Exit → Slots → Mem → Prop) (s : Slots) (M : Mem) : wpC P c11_3 Q s M = w11_3 P Q M := by kernel_rfl
def c11_4 : ACode := (.seq c11_3 .ret)
def o11_5 : List AOper := [⟨some 7, (.fieldAddr 1 (.tmp 1)), false, none⟩,
  ⟨some 8, (.load 1 false (.tmp 7)), false, none⟩,
  ⟨some 9, (.call i_product_within [(.tmp 8), (.const (.int .i64 0)), (.const (.int .i64 1000000))]), true, none⟩,
  ⟨some 10, (.un .not (.tmp 9)), true, none⟩,
  ⟨some 11, (.mov (.tmp 10)), true, none⟩,
  ⟨some 12, (.fieldAddr 2 (.tmp 1)), false, some (11, false)⟩,
  ⟨some 13, (.load 1 false (.tmp 12)), false, some (11, false)⟩,
  ⟨some 14, (.call i_product_within [(.tmp 13), (.const (.int .i64 0)), (.const (.int .i64 86400))]), true, some (11, false)⟩,
  ⟨some 15, (.un .not (.tmp 14)), true, some (11, false)⟩,
  ⟨some 16, (.pick (.tmp 11) (.const (.bool true)) (.tmp 15)), true, none⟩,
  ⟨some 17, (.mov (.tmp 16)), true, none⟩,
  ⟨some 18, (.fieldAddr 3 (.tmp 1)), false, some (17, false)⟩,
  ⟨some 19, (.load 1 false (.tmp 18)), false, some (17, false)⟩,
  ⟨some 20, (.call i_product_within [(.tmp 19), (.const (.int .i64 0)), (.const (.int .i64 1000000))]), true, some (17, false)⟩,
  ⟨some 21, (.un .not (.tmp 20)), true, some (17, false)⟩,
  ⟨some 22, (.pick (.tmp 17) (.const (.bool true)) (.tmp 21)), true, none⟩]
def c11_6 : ACode := (.seq (.region o11_5 [1, 22]) (.cond (.tmp 22) c11_4 .skip))
def w11_6 (P : Program) (Q : Exit → Slots → Mem → Prop) (M : Mem) (v1 : V) : Prop :=
  @OptVH (moveV 1 v1) ⟨fun t7_1 =>
  @OptVH (loadV 1 false t7_1 M) ⟨fun t8_2 =>
  @CallH P i_product_within [t8_2, (.int .i64 0), (.int .i64 1000000)] M ⟨fun t9_3 M3 => @OptBH (some t9_3) ⟨fun b9_3 =>
  @OptBH (unV .not (.bool b9_3)) ⟨fun b10_4 =>
  @BIfH b10_4
  ⟨wpC P c11_4 Q [(1, v1), (22, (.bool true))] M3⟩
  ⟨@OptVH (moveV 2 v1) ⟨fun t12_9 =>
  @OptVH (loadV 1 false t12_9 M3) ⟨fun t13_10 =>
  @CallH P i_product_within [t13_10, (.int .i64 0), (.int .i64 86400)] M3 ⟨fun t14_11 M11 => @OptBH (some t14_11) ⟨fun b14_11 =>
  @OptBH (unV .not (.bool b14_11)) ⟨fun b15_12 =>
  @BIfH b15_12
  ⟨wpC P c11_4 Q [(1, v1), (22, (.bool true))] M11⟩
  ⟨@OptVH (moveV 3 v1) ⟨fun t18_16 =>
  @OptVH (loadV 1 false t18_16 M11) ⟨fun t19_17 =>
  @CallH P i_product_within [t19_17, (.int .i64 0), (.int .i64 1000000)] M11 ⟨fun t20_18 M18 => @OptBH (some t20_18) ⟨fun b20_18 =>
  @OptBH (unV .not (.bool b20_18)) ⟨fun b21_19 =>
  @BIfH b21_19
  ⟨wpC P c11_4 Q [(1, v1), (22, (.bool b21_19))] M18⟩
  ⟨Q .normal [(1, v1), (22, (.bool b21_19))] M18⟩⟩⟩⟩⟩⟩⟩⟩⟩⟩⟩⟩⟩⟩⟩⟩⟩⟩
theorem e11_6 (P : Program) (Q : Exit → Slots → Mem → Prop) (s : Slots) (M : Mem) : wpC P c11_6 Q s M = w11_6 P Q M (sget s 1) := by kernel_rfl
def o11_7 : List AOper := [⟨some 2, (.mov (.const (.int .i64 0))), false, none⟩,
  ⟨some 3, (.mov (.const (.int .i64 5))), false, none⟩]
def c11_8 : ACode := (.region o11_7 [2, 3])
def w11_8 (_P : Program) (Q : Exit → Slots → Mem → Prop) (M : Mem) : Prop :=
  Q .normal [(2, (.int .i64 0)), (3, (.int .i64 5))] M
theorem e11_8 (P : Program) (Q : Exit → Slots → Mem → Prop) (s : Slots) (M : Mem) : wpC P c11_8 Q s M = w11_8 P Q M := by kernel_rfl
def c11_9 : ACode := (.seq c11_8 .ret)
def o11_10 : List AOper := [⟨some 23, (.fieldAddr 0 (.tmp 1)), false, none⟩,
  ⟨some 24, (.load 1 false (.tmp 23)), false, none⟩,
  ⟨some 25, (.lenSl (.tmp 24)), false, none⟩,
  ⟨some 26, (.bin .gtr .none (.tmp 25) (.const (.int .i64 16))), true, none⟩]
def c11_11 : ACode := (.seq (.region o11_10 [1, 26]) (.cond (.tmp 26) c11_9 .skip))
def w11_11 (P : Program) (Q : Exit → Slots → Mem → Prop) (M : Mem) (v1 : V) : Prop :=
  @OptVH (moveV 0 v1) ⟨fun t23_1 =>
  @OptVH (loadV 1 false t23_1 M) ⟨fun t24_2 =>
  @OptVH (lenV t24_2 M) ⟨fun t25_3 =>
  @OptBH (binV .gtr .none t25_3 (.int .i64 16)) ⟨fun b26_4 =>
  @BIfH b26_4
  ⟨wpC P c11_9 Q [(1, v1), (26, (.bool b26_4))] M⟩
  ⟨Q .normal [(1, v1), (26, (.bool b26_4))] M⟩⟩⟩⟩⟩
theorem e11_11 (P : Program) (Q : Exit → Slots → Mem → Prop) (s : Slots) (M : Mem) : wpC P c11_11 Q s M = w11_11 P Q M (sget s 1) := by kernel_rfl
def o11_12 : List AOper := [⟨some 27, (.makeMap none), false, none⟩,
  ⟨some 4, (.mov (.tmp 27)), false, none⟩]
def c11_13 : ACode := (.region o11_12 [1, 4])
def w11_13 (_P : Program) (Q : Exit → Slots → Mem → Prop) (M : Mem) (v1 : V) : Prop :=
  @OptMH (makeMapV none M) ⟨fun t27_1 M1 =>
  Q .normal [(1, v1), (4, t27_1)] M1⟩
theorem e11_13 (P : Program) (Q : Exit → Slots → Mem → Prop) (s : Slots) (M : Mem) : wpC P c11_13 Q s M = w11_13 P Q M (sget s 1) := by kernel_rfl
def o11_14 : List AOper := [⟨some 28, (.fieldAddr 0 (.tmp 1)), false, none⟩,
  ⟨some 29, (.load 1 false (.tmp 28)), false, none⟩,
  ⟨some 30, (.lenSl (.tmp 29)), false, none⟩,
  ⟨some 31, (.mov (.const (.int .i64 0))), false, none⟩]
def c11_15 : ACode := (.region o11_14 [4, 29, 30, 31])
def w11_15 (_P : Program) (Q : Exit → Slots → Mem → Prop) (M : Mem) (v1 : V) (v4 : V) : Prop :=
  @OptVH (moveV 0 v1) ⟨fun t28_1 =>
  @OptVH (loadV 1 false t28_1 M) ⟨fun t29_2 =>
  @OptVH (lenV t29_2 M) ⟨fun t30_3 =>
  Q .normal [(4, v4), (29, t29_2), (30, t30_3), (31, (.int .i64 0))] M⟩⟩⟩
theorem e11_15 (P : Program) (Q : Exit → Slots → Mem → Prop) (s : Slots) (M : Mem) : wpC P c11_15 Q s M = w11_15 P Q M (sget s 1) (sget s 4) := by kernel_rfl
def o11_16 : List AOper := [⟨some 32, (.bin .lss .none (.tmp 31) (.tmp 30)), false, none⟩]
def c11_17 : ACode := (.region o11_16 [4, 29, 30, 31, 32])
def w11_17 (_P : Program) (Q : Exit → Slots → Mem → Prop) (M : Mem) (v4 : V) (v29 : V) (v30 : V) (v31 : V) : Prop :=
  @OptVH (binV .lss .none v31 v30) ⟨fun t32_1 =>
  Q .normal [(4, v4), (29, v29), (30, v30), (31, v31), (32, t32_1)] M⟩
theorem e11_17 (P : Program) (Q : Exit → Slots → Mem → Prop) (s : Slots) (M : Mem) : wpC P c11_17 Q s M = w11_17 P Q M (sget s 4) (sget s 29) (sget s 30) (sget s 31) := by kernel_rfl
def c11_18 : ACode := (.cond (.tmp 32) .skip (.exit 0))
def o11_19 : List AOper := [⟨some 33, (.mov (.tmp 31)), false, none⟩,
  ⟨some 34, (.indexSl 6 (.tmp 29) (.tmp 31)), false, none⟩,
  ⟨some 35, (.load 6 true (.tmp 34)), false, none⟩,
  ⟨some 6, (.alloc [(.str []), (.int .i64 0), (.int .i64 0), (.int .i64 0), (.int .i64 0), (.int .i64 0)]), false, none⟩,
  ⟨some 5, (.mov (.tmp 33)), false, none⟩,
  ⟨none, (.store 6 (.tmp 6) (.tmp 35)), false, none⟩]
def c11_20 : ACode := (.region o11_19 [4, 5, 6, 29, 30, 31])
def w11_20 (_P : Program) (Q : Exit → Slots → Mem → Prop) (M : Mem) (v4 : V) (v29 : V) (v30 : V) (v31 : V) : Prop :=
  @OptVH (indexSlV 6 v29 v31 M) ⟨fun t34_2 =>
  @OptVH (loadV 6 true t34_2 M) ⟨fun t35_3 =>
  @OptMH (allocV [(.str []), (.int .i64 0), (.int .i64 0), (.int .i64 0), (.int .i64 0), (.int .i64 0)] M) ⟨fun t6_4 M4 =>
  @OptMH (storeVM 6 t6_4 t35_3 M4) ⟨fun _tx_6 M6 =>
  Q .normal [(4, v4), (5, v31), (6, t6_4), (29, v29), (30, v30), (31, v31)] M6⟩⟩⟩⟩
theorem e11_20 (P : Program) (Q : Exit → Slots → Mem → Prop) (s : Slots) (M : Mem) : wpC P c11_20 Q s M = w11_20 P Q M (sget s 4) (sget s 29) (sget s 30) (sget s 31) := by kernel_rfl
def o11_21 : List AOper := [⟨some 40, (.mov (.tmp 5)), false, none⟩,
  ⟨some 2, (.mov (.tmp 40)), false, none⟩,
  ⟨some 3, (.mov (.const (.int .i64 12))), false, none⟩]
def c11_22 : ACode := (.region o11_21 [2, 3])
def w11_22 (_P : Program) (Q : Exit → Slots → Mem → Prop) (M : Mem) (v5 : V) : Prop :=
  Q .normal [(2, v5), (3, (.int .i64 12))] M
theorem e11_22 (P : Program) (Q : Exit → Slots → Mem → Prop) (s : Slots) (M : Mem) : wpC P c11_22 Q s M = w11_22 P Q M (sget s 5) := by kernel_rfl
def c11_23 : ACode := (.seq c11_22 .ret)
def o11_24 : List AOper := [⟨some 36, (.fieldAddr 0 (.tmp 6)), false, none⟩,
  ⟨some 37, (.load 1 false (.tmp 36)), false, none⟩,
  ⟨some 38, (.call i_ident_Valid [(.tmp 37)]), true, none⟩,
  ⟨some 39, (.un .not (.tmp 38)), true, none⟩]
def c11_25 : ACode := (.seq (.region o11_24 [4, 5, 6, 29, 30, 31, 39]) (.cond (.tmp 39) c11_23 .skip))
def w11_25 (P : Program) (Q : Exit → Slots → Mem → Prop) (M : Mem) (v4 : V) (v5 : V) (v6 : V) (v29 : V) (v30 : V) (v31 : V) : Prop :=
  @OptVH (moveV 0 v6) ⟨fun t36_1 =>
  @OptVH (loadV 1 false t36_1 M) ⟨fun t37_2 =>
  @CallH P i_ident_Valid [t37_2] M ⟨fun t38_3 M3 => @OptBH (some t38_3) ⟨fun b38_3 =>
  @OptBH (unV .not (.bool b38_3)) ⟨fun b39_4 =>
  @BIfH b39_4
  ⟨wpC P c11_23 Q [(4, v4), (5, v5), (6, v6), (29, v29), (30, v30), (31, v31), (39, (.bool b39_4))] M3⟩
  ⟨Q .normal [(4, v4), (5, v5), (6, v6), (29, v29), (30, v30), (31, v31), (39, (.bool b39_4))] M3⟩⟩⟩⟩⟩⟩
theorem e11_25 (P : Program) (Q : Exit → Slots → Mem → Prop) (s : Slots) (M : Mem) : wpC P c11_25 Q s M = w11_25 P Q M (sget s 4) (sget s 5) (sget s 6) (sget s 29) (sget s 30) (sget s 31) := by kernel_rfl
def o11_26 : List AOper := [⟨some 45, (.mov (.tmp 5)), false, none⟩,
  ⟨some 2, (.mov (.tmp 45)), false, none⟩,
  ⟨some 3, (.mov (.const (.int .i64 6))), false, none⟩]
def c11_27 : ACode := (.region o11_26 [2, 3])
def w11_27 (_P : Program) (Q : Exit → Slots → Mem → Prop) (M : Mem) (v5 : V) : Prop :=
  Q .normal [(2, v5), (3, (.int .i64 6))] M
theorem e11_27 (P : Program) (Q : Exit → Slots → Mem → Prop) (s : Slots) (M : Mem) : wpC P c11_27 Q s M = w11_27 P Q M (sget s 5) := by kernel_rfl
def c11_28 : ACode := (.seq c11_27 .ret)
def o11_29 : List AOper := [⟨some 41, (.mov (.tmp 4)), false, none⟩,
  ⟨some 42, (.fieldAddr 0 (.tmp 6)), false, none⟩,
  ⟨some 43, (.load 1 false (.tmp 42)), false, none⟩,
  ⟨some 44, (.lookup .str [(.bool false)] false false (.tmp 41) (.tmp 43)), true, none⟩]
def c11_30 : ACode := (.seq (.region o11_29 [4, 5, 6, 29, 30, 31, 44]) (.cond (.tmp 44) c11_28 .skip))
def w11_30 (P : Program) (Q : Exit → Slots → Mem → Prop) (M : Mem) (v4 : V) (v5 : V) (v6 : V) (v29 : V) (v30 : V) (v31 : V) : Prop :=
  @OptVH (moveV 0 v6) ⟨fun t42_2 =>
  @OptVH (loadV 1 false t42_2 M) ⟨fun t43_3 =>
  @OptBH (lookupV .str [(.bool false)] false false v4 t43_3 M) ⟨fun b44_4 =>
  @BIfH b44_4
  ⟨wpC P c11_28 Q [(4, v4), (5, v5), (6, v6), (29, v29), (30, v30), (31, v31), (44, (.bool b44_4))] M⟩
  ⟨Q .normal [(4, v4), (5, v5), (6, v6), (29, v29), (30, v30), (31, v31), (44, (.bool b44_4))] M⟩⟩⟩⟩
theorem e11_30 (P : Program) (Q : Exit → Slots → Mem → Prop) (s : Slots) (M : Mem) : wpC P c11_30 Q s M = w11_30 P Q M (sget s 4) (sget s 5) (sget s 6) (sget s 29) (sget s 30) (sget s 31) := by kernel_rfl
def o11_31 : List AOper := [⟨some 74, (.mov (.tmp 5)), false, none⟩,
  ⟨some 2, (.mov (.tmp 74)), false, none⟩,
  ⟨some 3, (.mov (.const (.int .i64 2))), false, none⟩]
def c11_32 : ACode := (.region o11_31 [2, 3])
def w11_32 (_P : Program) (Q : Exit → Slots → Mem → Prop) (M : Mem) (v5 : V) : Prop :=
  Q .normal [(2, v5), (3, (.int .i64 2))] M
theorem e11_32 (P : Program) (Q : Exit → Slots → Mem → Prop) (s : Slots) (M : Mem) : wpC P c11_32 Q s M = w11_32 P Q M (sget s 5) := by kernel_rfl
def c11_33 : ACode := (.seq c11_32 .ret)
def o11_34 : List AOper := [⟨some 46, (.fieldAddr 1 (.tmp 6)), false, none⟩,
  ⟨some 47, (.load 1 false (.tmp 46)), false, none⟩,
  ⟨some 48, (.call i_product_within [(.tmp 47), (.const (.int .i64 0)), (.const (.int .i64 1000000))]), true, none⟩,
  ⟨some 49, (.un .not (.tmp 48)), true, none⟩,
  ⟨some 50, (.mov (.tmp 49)), true, none⟩,
  ⟨some 51, (.fieldAddr 2 (.tmp 6)), false, some (50, false)⟩,
  ⟨some 52, (.load 1 false (.tmp 51)), false, some (50, false)⟩,
  ⟨some 53, (.call i_product_within [(.tmp 52), (.const (.int .i64 1)), (.const (.int .i64 8))]), true, some (50, false)⟩,
  ⟨some 54, (.un .not (.tmp 53)), true, some (50, false)⟩,
  ⟨some 55, (.pick (.tmp 50) (.const (.bool true)) (.tmp 54)), true, none⟩,
  ⟨some 56, (.mov (.tmp 55)), true, none⟩,
  ⟨some 57, (.fieldAddr 3 (.tmp 6)), false, some (56, false)⟩,
  ⟨some 58, (.load 1 false (.tmp 57)), false, some (56, false)⟩,
  ⟨some 59, (.call i_product_within [(.tmp 58), (.const (.int .i64 1)), (.const (.int .i64 16))]), true, some (56, false)⟩,
  ⟨some 60, (.un .not (.tmp 59)), true, some (56, false)⟩,
  ⟨some 61, (.pick (.tmp 56) (.const (.bool true)) (.tmp 60)), true, none⟩,
  ⟨some 62, (.mov (.tmp 61)), true, none⟩,
  ⟨some 63, (.fieldAddr 4 (.tmp 6)), false, some (62, false)⟩,
  ⟨some 64, (.load 1 false (.tmp 63)), false, some (62, false)⟩,
  ⟨some 65, (.call i_product_within [(.tmp 64), (.const (.int .i64 0)), (.const (.int .i64 86400))]), true, some (62, false)⟩,
  ⟨some 66, (.un .not (.tmp 65)), true, some (62, false)⟩,
  ⟨some 67, (.pick (.tmp 62) (.const (.bool true)) (.tmp 66)), true, none⟩,
  ⟨some 68, (.mov (.tmp 67)), true, none⟩,
  ⟨some 69, (.fieldAddr 5 (.tmp 6)), false, some (68, false)⟩,
  ⟨some 70, (.load 1 false (.tmp 69)), false, some (68, false)⟩,
  ⟨some 71, (.call i_product_within [(.tmp 70), (.const (.int .i64 1)), (.const (.int .i64 255))]), true, some (68, false)⟩,
  ⟨some 72, (.un .not (.tmp 71)), true, some (68, false)⟩,
  ⟨some 73, (.pick (.tmp 68) (.const (.bool true)) (.tmp 72)), true, none⟩]
def c11_35 : ACode := (.seq (.region o11_34 [4, 5, 6, 29, 30, 31, 73]) (.cond (.tmp 73) c11_33 .skip))
def w11_35 (P : Program) (Q : Exit → Slots → Mem → Prop) (M : Mem) (v4 : V) (v5 : V) (v6 : V) (v29 : V) (v30 : V) (v31 : V) : Prop :=
  @OptVH (moveV 1 v6) ⟨fun t46_1 =>
  @OptVH (loadV 1 false t46_1 M) ⟨fun t47_2 =>
  @CallH P i_product_within [t47_2, (.int .i64 0), (.int .i64 1000000)] M ⟨fun t48_3 M3 => @OptBH (some t48_3) ⟨fun b48_3 =>
  @OptBH (unV .not (.bool b48_3)) ⟨fun b49_4 =>
  @BIfH b49_4
  ⟨wpC P c11_33 Q [(4, v4), (5, v5), (6, v6), (29, v29), (30, v30), (31, v31), (73, (.bool true))] M3⟩
  ⟨@OptVH (moveV 2 v6) ⟨fun t51_13 =>
  @OptVH (loadV 1 false t51_13 M3) ⟨fun t52_14 =>
  @CallH P i_product_within [t52_14, (.int .i64 1), (.int .i64 8)] M3 ⟨fun t53_15 M15 => @OptBH (some t53_15) ⟨fun b53_15 =>
  @OptBH (unV .not (.bool b53_15)) ⟨fun b54_16 =>
  @BIfH b54_16
  ⟨wpC P c11_33 Q [(4, v4), (5, v5), (6, v6), (29, v29), (30, v30), (31, v31), (73, (.bool true))] M15⟩
  ⟨@OptVH (moveV 3 v6) ⟨fun t57_24 =>
  @OptVH (loadV 1 false t57_24 M15) ⟨fun t58_25 =>
  @CallH P i_product_within [t58_25, (.int .i64 1), (.int .i64 16)] M15 ⟨fun t59_26 M26 => @OptBH (some t59_26) ⟨fun b59_26 =>
  @OptBH (unV .not (.bool b59_26)) ⟨fun b60_27 =>
  @BIfH b60_27
  ⟨wpC P c11_33 Q [(4, v4), (5, v5), (6, v6), (29, v29), (30, v30), (31, v31), (73, (.bool true))] M26⟩
  ⟨@OptVH (moveV 4 v6) ⟨fun t63_33 =>
  @OptVH (loadV 1 false t63_33 M26) ⟨fun t64_34 =>
  @CallH P i_product_within [t64_34, (.int .i64 0), (.int .i64 86400)] M26 ⟨fun t65_35 M35 => @OptBH (some t65_35) ⟨fun b65_35 =>
  @OptBH (unV .not (.bool b65_35)) ⟨fun b66_36 =>
  @BIfH b66_36
  ⟨wpC P c11_33 Q [(4, v4), (5, v5), (6, v6), (29, v29), (30, v30), (31, v31), (73, (.bool true))] M35⟩
  ⟨@OptVH (moveV 5 v6) ⟨fun t69_40 =>
  @OptVH (loadV 1 false t69_40 M35) ⟨fun t70_41 =>
  @CallH P i_product_within [t70_41, (.int .i64 1), (.int .i64 255)] M35 ⟨fun t71_42 M42 => @OptBH (some t71_42) ⟨fun b71_42 =>
  @OptBH (unV .not (.bool b71_42)) ⟨fun b72_43 =>
  @BIfH b72_43
  ⟨wpC P c11_33 Q [(4, v4), (5, v5), (6, v6), (29, v29), (30, v30), (31, v31), (73, (.bool b72_43))] M42⟩
  ⟨Q .normal [(4, v4), (5, v5), (6, v6), (29, v29), (30, v30), (31, v31), (73, (.bool b72_43))] M42⟩⟩⟩⟩⟩⟩⟩⟩⟩⟩⟩⟩⟩⟩⟩⟩⟩⟩⟩⟩⟩⟩⟩⟩⟩⟩⟩⟩⟩⟩
theorem e11_35 (P : Program) (Q : Exit → Slots → Mem → Prop) (s : Slots) (M : Mem) : wpC P c11_35 Q s M = w11_35 P Q M (sget s 4) (sget s 5) (sget s 6) (sget s 29) (sget s 30) (sget s 31) := by kernel_rfl
def o11_36 : List AOper := [⟨some 75, (.mov (.tmp 4)), false, none⟩,
  ⟨some 76, (.fieldAddr 0 (.tmp 6)), false, none⟩,
  ⟨some 77, (.load 1 false (.tmp 76)), false, none⟩,
  ⟨none, (.mapUpdate .str (.tmp 75) (.tmp 77) (.const (.bool true))), false, none⟩]
def c11_37 : ACode := (.region o11_36 [4, 29, 30, 31])
def w11_37 (_P : Program) (Q : Exit → Slots → Mem → Prop) (M : Mem) (v4 : V) (v6 : V) (v29 : V) (v30 : V) (v31 : V) : Prop :=
  @OptVH (moveV 0 v6) ⟨fun t76_2 =>
  @OptVH (loadV 1 false t76_2 M) ⟨fun t77_3 =>
  @OptMH (mapUpdateVM .str v4 t77_3 (.bool true) M) ⟨fun _tx_4 M4 =>
  Q .normal [(4, v4), (29, v29), (30, v30), (31, v31)] M4⟩⟩⟩
theorem e11_37 (P : Program) (Q : Exit → Slots → Mem → Prop) (s : Slots) (M : Mem) : wpC P c11_37 Q s M = w11_37 P Q M (sget s 4) (sget s 6) (sget s 29) (sget s 30) (sget s 31) := by kernel_rfl
def c11_38 : ACode := (.seq c11_35 c11_37)
def c11_39 : ACode := (.seq c11_30 c11_38)
def c11_40 : ACode := (.seq c11_25 c11_39)
def c11_41 : ACode := (.seq c11_20 c11_40)
def c11_42 : ACode := (.block 1 c11_41)
def o11_43 : List AOper := [⟨some 78, (.bin .add .none (.tmp 31) (.const (.int .i64 1))), false, none⟩,
  ⟨some 31, (.mov (.tmp 78)), false, none⟩]
def c11_44 : ACode := (.region o11_43 [4, 29, 30, 31])
def w11_44 (_P : Program) (Q : Exit → Slots → Mem → Prop) (M : Mem) (v4 : V) (v29 : V) (v30 : V) (v31 : V) : Prop :=
  @OptVH (binV .add .none v31 (.int .i64 1)) ⟨fun t78_1 =>
  Q .normal [(4, v4), (29, v29), (30, v30), (31, t78_1)] M⟩
theorem e11_44 (P : Program) (Q : Exit → Slots → Mem → Prop) (s : Slots) (M : Mem) : wpC P c11_44 Q s M = w11_44 P Q M (sget s 4) (sget s 29) (sget s 30) (sget s 31) := by kernel_rfl
def c11_45 : ACode := (.seq c11_42 c11_44)
def c11_46 : ACode := (.seq c11_18 c11_45)
def c11_47 : ACode := (.seq c11_17 c11_46)
def c11_48 : ACode := (.loop [4, 29, 30, 31] c11_47)
def c11_49 : ACode := (.block 0 c11_48)
def c11_50 : ACode := (.seq c11_15 c11_49)
def o11_51 : List AOper := [⟨some 2, (.mov (.const (.int .i64 0))), false, none⟩,
  ⟨some 3, (.mov (.const (.int .i64 0))), false, none⟩]
def c11_52 : ACode := (.region o11_51 [2, 3])
def w11_52 (_P : Program) (Q : Exit → Slots → Mem → Prop) (M : Mem) : Prop :=
  Q .normal [(2, (.int .i64 0)), (3, (.int .i64 0))] M
theorem e11_52 (P : Program) (Q : Exit → Slots → Mem → Prop) (s : Slots) (M : Mem) : wpC P c11_52 Q s M = w11_52 P Q M := by kernel_rfl
def c11_53 : ACode := (.seq c11_52 .ret)
def c11_54 : ACode := (.seq c11_50 c11_53)
def c11_55 : ACode := (.seq c11_13 c11_54)
def c11_56 : ACode := (.seq c11_11 c11_55)
def c11_57 : ACode := (.seq c11_6 c11_56)
def c11_58 : ACode := (.seq c11_1 c11_57)
def fn_product_Check : AFn := ⟨79, [(.tmp 2), (.tmp 3)], c11_58⟩
theorem fn_product_Check_ok : resFn PR h_product_Check i_product_Check = some fn_product_Check := by kernel_rfl

def h_transitref21_Check : Hints := ⟨[(0, [1]), (1, [1, 22]), (2, [2, 3]), (3, [4]), (4, [4, 27]), (5, [2, 3]), (6, [4, 5]), (7, [4, 5, 31]), (8, [4, 5]), (9, [4, 5, 40]), (10, [2, 3]), (11, [4, 5, 6]), (12, [4, 5, 6, 44]), (13, [4, 5, 6]), (14, [4, 5, 6, 57]), (15, [2, 3]), (16, [4, 5, 64]), (17, [2, 3]), (18, [2, 3])], [(7, [4, 5]), (12, [4, 5, 6])], []⟩
def o12_0 : List AOper := [⟨some 1, (.box 4 (.tmp 0)), false, none⟩,
  ⟨some 2, (.mov (.const (.int .i64 0))), false, none⟩,
  ⟨some 3, (.mov (.const (.int .i64 0))), false, none⟩]
def c12_1 : ACode := (.region o12_0 [1])
def w12_1 (_P : Program) (Q : Exit → Slots → Mem → Prop) (M : Mem) (v0 : V) : Prop :=
  @OptMH (boxV 4 v0 M) ⟨fun t1_1 M1 =>
  Q .normal [(1, t1_1)] M1⟩
theorem e12_1 (P : Program) (Q : Exit → Slots → Mem → Prop) (s : Slots) (M : Mem) : wpC P c12_1 Q s M = w12_1 P Q M (sget s 0) := by kernel_rfl
def o12_2 : List AOper := [⟨some 2, (.mov (.const (.int .i64 (-1)))), false, none⟩,
  ⟨some 3, (.mov (.const (.int .i64 2))), false, none⟩]
def c12_3 : ACode := (.region o12_2 [2, 3])
def w12_3 (_P : Program) (Q : Exit → Slots → Mem → Prop) (M : Mem) : Prop :=
  Q .normal [(2, (.int .i64 (-1))), (3, (.int .i64 2))] M
theorem e12_3 (P : Program) (Q : Exit → Slots → Mem → Prop) (s : Slots) (M : Mem) : wpC P c12_3 Q s M = w12_3 P Q M := by kernel_rfl
def c12_4 : ACode := (.seq c12_3 .ret)
def o12_5 : List AOper := [⟨some 7, (.fieldAddr 1 (.tmp 1)), false, none⟩,
  ⟨some 8, (.load 1 false (.tmp 7)), false, none⟩,
  ⟨some 9, (.call i_transitref21_within [(.tmp 8), (.const (.int .i64 0)), (.const (.int .i64 1000000))]), true, none⟩,
  ⟨some 10, (.un .not (.tmp 9)), true, none⟩,
  ⟨some 11, (.mov (.tmp 10)), true, none⟩,
  ⟨some 12, (.fieldAddr 2 (.tmp 1)), false, some (11, false)⟩,
  ⟨some 13, (.load 1 false (.tmp 12)), false, some (11, false)⟩,
  ⟨some 14, (.call i_transitref21_within [(.tmp 13), (.const (.int .i64 0)), (.const (.int .i64 86400))]), true, some (11, false)⟩,
  ⟨some 15, (.un .not (.tmp 14)), true, some (11, false)⟩,
  ⟨some 16, (.pick (.tmp 11) (.const (.bool true)) (.tmp 15)), true, none⟩,
  ⟨some 17, (.mov (.tmp 16)), true, none⟩,
  ⟨some 18, (.fieldAddr 3 (.tmp 1)), false, some (17, false)⟩,
  ⟨some 19, (.load 1 false (.tmp 18)), false, some (17, false)⟩,
  ⟨some 20, (.call i_transitref21_within [(.tmp 19), (.const (.int .i64 0)), (.const (.int .i64 1000000))]), true, some (17, false)⟩,
  ⟨some 21, (.un .not (.tmp 20)), true, some (17, false)⟩,
  ⟨some 22, (.pick (.tmp 17) (.const (.bool true)) (.tmp 21)), true, none⟩]
def c12_6 : ACode := (.seq (.region o12_5 [1, 22]) (.cond (.tmp 22) c12_4 .skip))
def w12_6 (P : Program) (Q : Exit → Slots → Mem → Prop) (M : Mem) (v1 : V) : Prop :=
  @OptVH (moveV 1 v1) ⟨fun t7_1 =>
  @OptVH (loadV 1 false t7_1 M) ⟨fun t8_2 =>
  @CallH P i_transitref21_within [t8_2, (.int .i64 0), (.int .i64 1000000)] M ⟨fun t9_3 M3 => @OptBH (some t9_3) ⟨fun b9_3 =>
  @OptBH (unV .not (.bool b9_3)) ⟨fun b10_4 =>
  @BIfH b10_4
  ⟨wpC P c12_4 Q [(1, v1), (22, (.bool true))] M3⟩
  ⟨@OptVH (moveV 2 v1) ⟨fun t12_9 =>
  @OptVH (loadV 1 false t12_9 M3) ⟨fun t13_10 =>
  @CallH P i_transitref21_within [t13_10, (.int .i64 0), (.int .i64 86400)] M3 ⟨fun t14_11 M11 => @OptBH (some t14_11) ⟨fun b14_11 =>
  @OptBH (unV .not (.bool b14_11)) ⟨fun b15_12 =>
  @BIfH b15_12
  ⟨wpC P c12_4 Q [(1, v1), (22, (.bool true))] M11⟩
  ⟨@OptVH (moveV 3 v1) ⟨fun t18_16 =>
  @OptVH (loadV 1 false t18_16 M11) ⟨fun t19_17 =>
  @CallH P i_transitref21_within [t19_17, (.int .i64 0), (.int .i64 1000000)] M11 ⟨fun t20_18 M18 => @OptBH (some t20_18) ⟨fun b20_18 =>
  @OptBH (unV .not (.bool b20_18)) ⟨fun b21_19 =>
  @BIfH b21_19
  ⟨wpC P c12_4 Q [(1, v1), (22, (.bool b21_19))] M18⟩
  ⟨Q .normal [(1, v1), (22, (.bool b21_19))] M18⟩⟩⟩⟩⟩⟩⟩⟩⟩⟩⟩⟩⟩⟩⟩⟩⟩⟩
theorem e12_6 (P : Program) (Q : Exit → Slots → Mem → Prop) (s : Slots) (M : Mem) : wpC P c12_6 Q s M = w12_6 P Q M (sget s 1) := by kernel_rfl
def o12_7 : List AOper := [⟨some 23, (.fieldAddr 0 (.tmp 1)), false, none⟩,
  ⟨some 24, (.load 1 false (.tmp 23)), false, none⟩,
  ⟨some 4, (.mov (.tmp 24)), false, none⟩]
def c12_8 : ACode := (.region o12_7 [4])
def w12_8 (_P : Program) (Q : Exit → Slots → Mem → Prop) (M : Mem) (v1 : V) : Prop :=
  @OptVH (moveV 0 v1) ⟨fun t23_1 =>
  @OptVH (loadV 1 false t23_1 M) ⟨fun t24_2 =>
  Q .normal [(4, t24_2)] M⟩⟩
theorem e12_8 (P : Program) (Q : Exit → Slots → Mem → Prop) (s : Slots) (M : Mem) : wpC P c12_8 Q s M = w12_8 P Q M (sget s 1) := by kernel_rfl
def o12_9 : List AOper := [⟨some 2, (.mov (.const (.int .i64 0))), false, none⟩,
  ⟨some 3, (.mov (.const (.int .i64 5))), false, none⟩]
def c12_10 : ACode := (.region o12_9 [2, 3])
def w12_10 (_P : Program) (Q : Exit → Slots → Mem → Prop) (M : Mem) : Prop :=
  Q .normal [(2, (.int .i64 0)), (3, (.int .i64 5))] M
theorem e12_10 (P : Program) (Q : Exit → Slots → Mem → Prop) (s : Slots) (M : Mem) : wpC P c12_10 Q s M = w12_10 P Q M := by kernel_rfl
def c12_11 : ACode := (.seq c12_10 .ret)
def o12_12 : List AOper := [⟨some 25, (.mov (.tmp 4)), false, none⟩,
  ⟨some 26, (.lenSl (.tmp 25)), false, none⟩,
  ⟨some 27, (.bin .gtr .none (.tmp 26) (.const (.int .i64 16))), true, none⟩]
def c12_13 : ACode := (.seq (.region o12_12 [4, 27]) (.cond (.tmp 27) c12_11 .skip))
def w12_13 (P : Program) (Q : Exit → Slots → Mem → Prop) (M : Mem) (v4 : V) : Prop :=
  @OptVH (lenV v4 M) ⟨fun t26_2 =>
  @OptBH (binV .gtr .none t26_2 (.int .i64 16)) ⟨fun b27_3 =>
  @BIfH b27_3
  ⟨wpC P c12_11 Q [(4, v4), (27, (.bool b27_3))] M⟩
  ⟨Q .normal [(4, v4), (27, (.bool b27_3))] M⟩⟩⟩
theorem e12_13 (P : Program) (Q : Exit → Slots → Mem → Prop) (s : Slots) (M : Mem) : wpC P c12_13 Q s M = w12_13 P Q M (sget s 4) := by kernel_rfl
def o12_14 : List AOper := [⟨some 5, (.mov (.const (.int .i64 0))), false, none⟩]
def c12_15 : ACode := (.region o12_14 [4, 5])
def w12_15 (_P : Program) (Q : Exit → Slots → Mem → Prop) (M : Mem) (v4 : V) : Prop :=
  Q .normal [(4, v4), (5, (.int .i64 0))] M
theorem e12_15 (P : Program) (Q : Exit → Slots → Mem → Prop) (s : Slots) (M : Mem) : wpC P c12_15 Q s M = w12_15 P Q M (sget s 4) := by kernel_rfl
def o12_16 : List AOper := [⟨some 28, (.mov (.tmp 5)), false, none⟩,
  ⟨some 29, (.mov (.tmp 4)), false, none⟩,
  ⟨some 30, (.lenSl (.tmp 29)), false, none⟩,
  ⟨some 31, (.bin .lss .none (.tmp 28) (.tmp 30)), true, none⟩]
def c12_17 : ACode := (.seq (.region o12_16 [4, 5, 31]) (.cond (.tmp 31) .skip (.exit 0)))
def w12_17 (_P : Program) (Q : Exit → Slots → Mem → Prop) (M : Mem) (v4 : V) (v5 : V) : Prop :=
  @OptVH (lenV v4 M) ⟨fun t30_3 =>
  @OptBH (binV .lss .none v5 t30_3) ⟨fun b31_4 =>
  @BIfH b31_4
  ⟨Q .normal [(4, v4), (5, v5), (31, (.bool b31_4))] M⟩
  ⟨Q (.exit 0) [(4, v4), (5, v5), (31, (.bool b31_4))] M⟩⟩⟩
theorem e12_17 (P : Program) (Q : Exit → Slots → Mem → Prop) (s : Slots) (M : Mem) : wpC P c12_17 Q s M = w12_17 P Q M (sget s 4) (sget s 5) := by kernel_rfl
def o12_18 : List AOper := [⟨some 41, (.mov (.tmp 5)), false, none⟩,
  ⟨some 2, (.mov (.tmp 41)), false, none⟩,
  ⟨some 3, (.mov (.const (.int .i64 12))), false, none⟩]
def c12_19 : ACode := (.region o12_18 [2, 3])
def w12_19 (_P : Program) (Q : Exit → Slots → Mem → Prop) (M : Mem) (v5 : V) : Prop :=
  Q .normal [(2, v5), (3, (.int .i64 12))] M
theorem e12_19 (P : Program) (Q : Exit → Slots → Mem → Prop) (s : Slots) (M : Mem) : wpC P c12_19 Q s M = w12_19 P Q M (sget s 5) := by kernel_rfl
def c12_20 : ACode := (.seq c12_19 .ret)
def o12_21 : List AOper := [⟨some 34, (.mov (.tmp 4)), false, none⟩,
  ⟨some 35, (.mov (.tmp 5)), false, none⟩,
  ⟨some 36, (.indexSl 6 (.tmp 34) (.tmp 35)), false, none⟩,
  ⟨some 37, (.fieldAddr 0 (.tmp 36)), false, none⟩,
  ⟨some 38, (.load 1 false (.tmp 37)), false, none⟩,
  ⟨some 39, (.call i_transitref15_Name [(.tmp 38)]), true, none⟩,
  ⟨some 40, (.un .not (.tmp 39)), true, none⟩]
def c12_22 : ACode := (.seq (.region o12_21 [4, 5, 40]) (.cond (.tmp 40) c12_20 .skip))
def w12_22 (P : Program) (Q : Exit → Slots → Mem → Prop) (M : Mem) (v4 : V) (v5 : V) : Prop :=
  @OptVH (indexSlV 6 v4 v5 M) ⟨fun t36_3 =>
  @OptVH (moveV 0 t36_3) ⟨fun t37_4 =>
  @OptVH (loadV 1 false t37_4 M) ⟨fun t38_5 =>
  @CallH P i_transitref15_Name [t38_5] M ⟨fun t39_6 M6 => @OptBH (some t39_6) ⟨fun b39_6 =>
  @OptBH (unV .not (.bool b39_6)) ⟨fun b40_7 =>
  @BIfH b40_7
  ⟨wpC P c12_20 Q [(4, v4), (5, v5), (40, (.bool b40_7))] M6⟩
  ⟨Q .normal [(4, v4), (5, v5), (40, (.bool b40_7))] M6⟩⟩⟩⟩⟩⟩⟩
theorem e12_22 (P : Program) (Q : Exit → Slots → Mem → Prop) (s : Slots) (M : Mem) : wpC P c12_22 Q s M = w12_22 P Q M (sget s 4) (sget s 5) := by kernel_rfl
def o12_23 : List AOper := [⟨some 6, (.mov (.const (.int .i64 0))), false, none⟩]
def c12_24 : ACode := (.region o12_23 [4, 5, 6])
def w12_24 (_P : Program) (Q : Exit → Slots → Mem → Prop) (M : Mem) (v4 : V) (v5 : V) : Prop :=
  Q .normal [(4, v4), (5, v5), (6, (.int .i64 0))] M
theorem e12_24 (P : Program) (Q : Exit → Slots → Mem → Prop) (s : Slots) (M : Mem) : wpC P c12_24 Q s M = w12_24 P Q M (sget s 4) (sget s 5) := by kernel_rfl
def o12_25 : List AOper := [⟨some 42, (.mov (.tmp 6)), false, none⟩,
  ⟨some 43, (.mov (.tmp 5)), false, none⟩,
  ⟨some 44, (.bin .lss .none (.tmp 42) (.tmp 43)), true, none⟩]
def c12_26 : ACode := (.seq (.region o12_25 [4, 5, 6, 44]) (.cond (.tmp 44) .skip (.exit 2)))
def w12_26 (_P : Program) (Q : Exit → Slots → Mem → Prop) (M : Mem) (v4 : V) (v5 : V) (v6 : V) : Prop :=
  @OptBH (binV .lss .none v6 v5) ⟨fun b44_3 =>
  @BIfH b44_3
  ⟨Q .normal [(4, v4), (5, v5), (6, v6), (44, (.bool b44_3))] M⟩
  ⟨Q (.exit 2) [(4, v4), (5, v5), (6, v6), (44, (.bool b44_3))] M⟩⟩
theorem e12_26 (P : Program) (Q : Exit → Slots → Mem → Prop) (s : Slots) (M : Mem) : wpC P c12_26 Q s M = w12_26 P Q M (sget s 4) (sget s 5) (sget s 6) := by kernel_rfl
def o12_27 : List AOper := [⟨some 58, (.mov (.tmp 5)), false, none⟩,
  ⟨some 2, (.mov (.tmp 58)), false, none⟩,
  ⟨some 3, (.mov (.const (.int .i64 6))), false, none⟩]
def c12_28 : ACode := (.region o12_27 [2, 3])
def w12_28 (_P : Program) (Q : Exit → Slots → Mem → Prop) (M : Mem) (v5 : V) : Prop :=
  Q .normal [(2, v5), (3, (.int .i64 6))] M
theorem e12_28 (P : Program) (Q : Exit → Slots → Mem → Prop) (s : Slots) (M : Mem) : wpC P c12_28 Q s M = w12_28 P Q M (sget s 5) := by kernel_rfl
def c12_29 : ACode := (.seq c12_28 .ret)
def o12_30 : List AOper := [⟨some 47, (.mov (.tmp 4)), false, none⟩,
  ⟨some 48, (.mov (.tmp 6)), false, none⟩,
  ⟨some 49, (.indexSl 6 (.tmp 47) (.tmp 48)), false, none⟩,
  ⟨some 50, (.fieldAddr 0 (.tmp 49)), false, none⟩,
  ⟨some 51, (.load 1 false (.tmp 50)), false, none⟩,
  ⟨some 52, (.mov (.tmp 4)), false, none⟩,
  ⟨some 53, (.mov (.tmp 5)), false, none⟩,
  ⟨some 54, (.indexSl 6 (.tmp 52) (.tmp 53)), false, none⟩,
  ⟨some 55, (.fieldAddr 0 (.tmp 54)), false, none⟩,
  ⟨some 56, (.load 1 false (.tmp 55)), false, none⟩,
  ⟨some 57, (.bin .eql .none (.tmp 51) (.tmp 56)), true, none⟩]
def c12_31 : ACode := (.seq (.mixed o12_30 [true, true, true, true, true, true, true, true, true, true, true] [4, 5, 6, 57]) (.cond (.tmp 57) c12_29 .skip))
def w12_31 (P : Program) (Q : Exit → Slots → Mem → Prop) (M : Mem) (v4 : V) (v5 : V) (v6 : V) : Prop :=
  @OptVH (indexSlV 6 v4 v6 M) ⟨fun t49_3 =>
  @OptVH (moveV 0 t49_3) ⟨fun t50_4 =>
  @OptVH (loadV 1 false t50_4 M) ⟨fun t51_5 =>
  @OptVH (indexSlV 6 v4 v5 M) ⟨fun t54_8 =>
  @OptVH (moveV 0 t54_8) ⟨fun t55_9 =>
  @OptVH (loadV 1 false t55_9 M) ⟨fun t56_10 =>
  @OptBH (binV .eql .none t51_5 t56_10) ⟨fun b57_11 =>
  @BIfH b57_11
  ⟨wpC P c12_29 Q [(4, v4), (5, v5), (6, v6), (57, (.bool b57_11))] M⟩
  ⟨Q .normal [(4, v4), (5, v5), (6, v6), (57, (.bool b57_11))] M⟩⟩⟩⟩⟩⟩⟩⟩
theorem e12_31 (P : Program) (Q : Exit → Slots → Mem → Prop) (s : Slots) (M : Mem) : wpC P c12_31 Q s M = w12_31 P Q M (sget s 4) (sget s 5) (sget s 6) := by kernel_rfl
def c12_32 : ACode := (.block 3 c12_31)
def o12_33 : List AOper := [⟨some 45, (.mov (.tmp 6)), false, none⟩,
  ⟨some 46, (.bin .add .none (.tmp 45) (.const (.int .i64 1))), false, none⟩,
  ⟨some 6, (.mov (.tmp 46)), false, none⟩]
def c12_34 : ACode := (.region o12_33 [4, 5, 6])
def w12_34 (_P : Program) (Q : Exit → Slots → Mem → Prop) (M : Mem) (v4 : V) (v5 : V) (v6 : V) : Prop :=
  @OptVH (binV .add .none v6 (.int .i64 1)) ⟨fun t46_2 =>
  Q .normal [(4, v4), (5, v5), (6, t46_2)] M⟩
theorem e12_34 (P : Program) (Q : Exit → Slots → Mem → Prop) (s : Slots) (M : Mem) : wpC P c12_34 Q s M = w12_34 P Q M (sget s 4) (sget s 5) (sget s 6) := by kernel_rfl
def c12_35 : ACode := (.seq c12_32 c12_34)
def c12_36 : ACode := (.seq c12_26 c12_35)
def c12_37 : ACode := (.loop [4, 5, 6] c12_36)
def c12_38 : ACode := (.block 2 c12_37)
def c12_39 : ACode := (.seq c12_24 c12_38)
def o12_40 : List AOper := [⟨some 65, (.mov (.tmp 5)), false, none⟩,
  ⟨some 2, (.mov (.tmp 65)), false, none⟩,
  ⟨some 3, (.mov (.const (.int .i64 2))), false, none⟩]
def c12_41 : ACode := (.region o12_40 [2, 3])
def w12_41 (_P : Program) (Q : Exit → Slots → Mem → Prop) (M : Mem) (v5 : V) : Prop :=
  Q .normal [(2, v5), (3, (.int .i64 2))] M
theorem e12_41 (P : Program) (Q : Exit → Slots → Mem → Prop) (s : Slots) (M : Mem) : wpC P c12_41 Q s M = w12_41 P Q M (sget s 5) := by kernel_rfl
def c12_42 : ACode := (.seq c12_41 .ret)
def o12_43 : List AOper := [⟨some 59, (.mov (.tmp 4)), false, none⟩,
  ⟨some 60, (.mov (.tmp 5)), false, none⟩,
  ⟨some 61, (.indexSl 6 (.tmp 59) (.tmp 60)), false, none⟩,
  ⟨some 62, (.load 6 true (.tmp 61)), false, none⟩,
  ⟨some 63, (.call i_transitref21_Right [(.tmp 62)]), true, none⟩,
  ⟨some 64, (.un .not (.tmp 63)), true, none⟩]
def c12_44 : ACode := (.seq (.region o12_43 [4, 5, 64]) (.cond (.tmp 64) c12_42 .skip))
def w12_44 (P : Program) (Q : Exit → Slots → Mem → Prop) (M : Mem) (v4 : V) (v5 : V) : Prop :=
  @OptVH (indexSlV 6 v4 v5 M) ⟨fun t61_3 =>
  @OptVH (loadV 6 true t61_3 M) ⟨fun t62_4 =>
  @CallH P i_transitref21_Right [t62_4] M ⟨fun t63_5 M5 => @OptBH (some t63_5) ⟨fun b63_5 =>
  @OptBH (unV .not (.bool b63_5)) ⟨fun b64_6 =>
  @BIfH b64_6
  ⟨wpC P c12_42 Q [(4, v4), (5, v5), (64, (.bool b64_6))] M5⟩
  ⟨Q .normal [(4, v4), (5, v5), (64, (.bool b64_6))] M5⟩⟩⟩⟩⟩⟩
theorem e12_44 (P : Program) (Q : Exit → Slots → Mem → Prop) (s : Slots) (M : Mem) : wpC P c12_44 Q s M = w12_44 P Q M (sget s 4) (sget s 5) := by kernel_rfl
def c12_45 : ACode := (.seq c12_39 c12_44)
def c12_46 : ACode := (.seq c12_22 c12_45)
def c12_47 : ACode := (.block 1 c12_46)
def o12_48 : List AOper := [⟨some 32, (.mov (.tmp 5)), false, none⟩,
  ⟨some 33, (.bin .add .none (.tmp 32) (.const (.int .i64 1))), false, none⟩,
  ⟨some 5, (.mov (.tmp 33)), false, none⟩]
def c12_49 : ACode := (.region o12_48 [4, 5])
def w12_49 (_P : Program) (Q : Exit → Slots → Mem → Prop) (M : Mem) (v4 : V) (v5 : V) : Prop :=
  @OptVH (binV .add .none v5 (.int .i64 1)) ⟨fun t33_2 =>
  Q .normal [(4, v4), (5, t33_2)] M⟩
theorem e12_49 (P : Program) (Q : Exit → Slots → Mem → Prop) (s : Slots) (M : Mem) : wpC P c12_49 Q s M = w12_49 P Q M (sget s 4) (sget s 5) := by kernel_rfl
def c12_50 : ACode := (.seq c12_47 c12_49)
def c12_51 : ACode := (.seq c12_17 c12_50)
def c12_52 : ACode := (.loop [4, 5] c12_51)
def c12_53 : ACode := (.block 0 c12_52)
def c12_54 : ACode := (.seq c12_15 c12_53)
def o12_55 : List AOper := [⟨some 2, (.mov (.const (.int .i64 0))), false, none⟩,
  ⟨some 3, (.mov (.const (.int .i64 0))), false, none⟩]
def c12_56 : ACode := (.region o12_55 [2, 3])
def w12_56 (_P : Program) (Q : Exit → Slots → Mem → Prop) (M : Mem) : Prop :=
  Q .normal [(2, (.int .i64 0)), (3, (.int .i64 0))] M
theorem e12_56 (P : Program) (Q : Exit → Slots → Mem → Prop) (s : Slots) (M : Mem) : wpC P c12_56 Q s M = w12_56 P Q M := by kernel_rfl
def c12_57 : ACode := (.seq c12_56 .ret)
def c12_58 : ACode := (.seq c12_54 c12_57)
def c12_59 : ACode := (.seq c12_13 c12_58)
def c12_60 : ACode := (.seq c12_8 c12_59)
def c12_61 : ACode := (.seq c12_6 c12_60)
def c12_62 : ACode := (.seq c12_1 c12_61)
def fn_transitref21_Check : AFn := ⟨66, [(.tmp 2), (.tmp 3)], c12_62⟩
theorem fn_transitref21_Check_ok : resFn PR h_transitref21_Check i_transitref21_Check = some fn_transitref21_Check := by kernel_rfl

def h_product_Covers : Hints := ⟨[(0, [1, 2]), (1, [1, 2, 5]), (2, [1, 2, 35]), (3, [4]), (4, [1, 2, 6, 7]), (5, [1, 2, 6, 7, 8]), (6, [2, 6, 7, 8, 37, 38, 39]), (7, [2, 6, 7, 8, 37, 38, 39, 40]), (8, [2, 6, 7, 8, 10, 37, 38, 39]), (9, [2, 6, 7, 8, 37, 38, 39]), (10, [2, 6, 7, 8, 37, 38, 39]), (11, [4])], [(7, [2, 6, 7, 8, 37, 38, 39])], []⟩
def o13_0 : List AOper := [⟨some 2, (.box 6 (.tmp 0)), false, none⟩,
  ⟨some 4, (.mov (.const (.bool false))), true, none⟩]
def c13_1 : ACode := (.region o13_0 [1, 2])
def w13_1 (_P : Program) (Q : Exit → Slots → Mem → Prop) (M : Mem) (v0 : V) (v1 : V) : Prop :=
  @OptMH (boxV 6 v0 M) ⟨fun t2_1 M1 =>
  Q .normal [(1, v1), (2, t2_1)] M1⟩
theorem e13_1 (P : Program) (Q : Exit → Slots → Mem → Prop) (s : Slots) (M : Mem) : wpC P c13_1 Q s M = w13_1 P Q M (sget s 0) (sget s 1) := by kernel_rfl
def o13_2 : List AOper := [⟨some 11, (.mov (.tmp 1)), false, none⟩,
  ⟨some 12, (.lenSl (.tmp 11)), false, none⟩,
  ⟨some 5, (.mov (.tmp 12)), false, none⟩]
def c13_3 : ACode := (.region o13_2 [1, 2, 5])
def w13_3 (_P : Program) (Q : Exit → Slots → Mem → Prop) (M : Mem) (v1 : V) (v2 : V) : Prop :=
  @OptVH (lenV v1 M) ⟨fun t12_2 =>
  Q .normal [(1, v1), (2, v2), (5, t12_2)] M⟩
theorem e13_3 (P : Program) (Q : Exit → Slots → Mem → Prop) (s : Slots) (M : Mem) : wpC P c13_3 Q s M = w13_3 P Q M (sget s 1) (sget s 2) := by kernel_rfl
def o13_4 : List AOper := [⟨some 4, (.mov (.const (.bool false))), true, none⟩]
def c13_5 : ACode := (.region o13_4 [4])
def w13_5 (_P : Program) (Q : Exit → Slots → Mem → Prop) (M : Mem) : Prop :=
  Q .normal [(4, (.bool false))] M
theorem e13_5 (P : Program) (Q : Exit → Slots → Mem → Prop) (s : Slots) (M : Mem) : wpC P c13_5 Q s M = w13_5 P Q M := by kernel_rfl
def c13_6 : ACode := (.seq c13_5 .ret)
def o13_7 : List AOper := [⟨some 13, (.mov (.tmp 5)), false, none⟩,
  ⟨some 14, (.bin .eql .none (.tmp 13) (.const (.int .i64 0))), true, none⟩,
  ⟨some 15, (.mov (.tmp 14)), true, none⟩,
  ⟨some 16, (.mov (.tmp 5)), false, some (15, false)⟩,
  ⟨some 17, (.fieldAddr 2 (.tmp 2)), false, some (15, false)⟩,
  ⟨some 18, (.load 1 false (.tmp 17)), false, some (15, false)⟩,
  ⟨some 19, (.bin .gtr .none (.tmp 16) (.tmp 18)), true, some (15, false)⟩,
  ⟨some 20, (.pick (.tmp 15) (.const (.bool true)) (.tmp 19)), true, none⟩,
  ⟨some 21, (.mov (.tmp 20)), true, none⟩,
  ⟨some 22, (.mov (.tmp 1)), false, some (21, false)⟩,
  ⟨some 23, (.indexSl 4 (.tmp 22) (.const (.int .i64 0))), false, some (21, false)⟩,
  ⟨some 24, (.fieldAddr 0 (.tmp 23)), false, some (21, false)⟩,
  ⟨some 25, (.load 1 false (.tmp 24)), false, some (21, false)⟩,
  ⟨some 26, (.mov (.tmp 1)), false, some (21, false)⟩,
  ⟨some 27, (.mov (.tmp 5)), false, some (21, false)⟩,
  ⟨some 28, (.bin .sub .none (.tmp 27) (.const (.int .i64 1))), false, some (21, false)⟩,
  ⟨some 29, (.indexSl 4 (.tmp 26) (.tmp 28)), false, some (21, false)⟩,
  ⟨some 30, (.fieldAddr 0 (.tmp 29)), false, some (21, false)⟩,
  ⟨some 31, (.load 1 false (.tmp 30)), false, some (21, false)⟩,
  ⟨some 32, (.fieldAddr 4 (.tmp 2)), false, some (21, false)⟩,
  ⟨some 33, (.load 1 false (.tmp 32)), false, some (21, false)⟩,
  ⟨some 34, (.call i_product_later [(.tmp 25), (.tmp 31), (.tmp 33)]), true, some (21, false)⟩,
  ⟨some 35, (.pick (.tmp 21) (.const (.bool true)) (.tmp 34)), true, none⟩]
def c13_8 : ACode := (.seq (.mixed o13_7 [true, true, true, true, true, true, true, true, true, true, true, true, true, true, true, true, true, true, true, true, true, false, true] [1, 2, 35]) (.cond (.tmp 35) c13_6 .skip))
def w13_8 (P : Program) (Q : Exit → Slots → Mem → Prop) (M : Mem) (v1 : V) (v2 : V) (v5 : V) : Prop :=
  @OptBH (binV .eql .none v5 (.int .i64 0)) ⟨fun b14_2 =>
  @BIfH b14_2
  ⟨wpC P c13_6 Q [(1, v1), (2, v2), (35, (.bool true))] M⟩
  ⟨@OptVH (moveV 2 v2) ⟨fun t17_8 =>
  @OptVH (loadV 1 false t17_8 M) ⟨fun t18_9 =>
  @OptBH (binV .gtr .none v5 t18_9) ⟨fun b19_10 =>
  @BIfH b19_10
  ⟨wpC P c13_6 Q [(1, v1), (2, v2), (35, (.bool true))] M⟩
  ⟨@OptVH (indexSlV 4 v1 (.int .i64 0) M) ⟨fun t23_15 =>
  @OptVH (moveV 0 t23_15) ⟨fun t24_16 =>
  @OptVH (loadV 1 false t24_16 M) ⟨fun t25_17 =>
  @OptVH (binV .sub .none v5 (.int .i64 1)) ⟨fun t28_20 =>
  @OptVH (indexSlV 4 v1 t28_20 M) ⟨fun t29_21 =>
  @OptVH (moveV 0 t29_21) ⟨fun t30_22 =>
  @OptVH (loadV 1 false t30_22 M) ⟨fun t31_23 =>
  @OptVH (moveV 4 v2) ⟨fun t32_24 =>
  @OptVH (loadV 1 false t32_24 M) ⟨fun t33_25 =>
  @CallH P i_product_later [t25_17, t31_23, t33_25] M ⟨fun t34_26 M26 => @OptBH (some t34_26) ⟨fun b34_26 =>
  @BIfH b34_26
  ⟨wpC P c13_6 Q [(1, v1), (2, v2), (35, (.bool b34_26))] M26⟩
  ⟨Q .normal [(1, v1), (2, v2), (35, (.bool b34_26))] M26⟩⟩⟩⟩⟩⟩⟩⟩⟩⟩⟩⟩⟩⟩⟩⟩⟩⟩
theorem e13_8 (P : Program) (Q : Exit → Slots → Mem → Prop) (s : Slots) (M : Mem) : wpC P c13_8 Q s M = w13_8 P Q M (sget s 1) (sget s 2) (sget s 5) := by kernel_rfl
def o13_9 : List AOper := [⟨some 6, (.alloc [(.int .u64 0)]), false, none⟩,
  ⟨some 7, (.alloc [(.int .u64 0)]), false, none⟩]
def c13_10 : ACode := (.region o13_9 [1, 2, 6, 7])
def w13_10 (_P : Program) (Q : Exit → Slots → Mem → Prop) (M : Mem) (v1 : V) (v2 : V) : Prop :=
  @OptMH (allocV [(.int .u64 0)] M) ⟨fun t6_1 M1 =>
  @OptMH (allocV [(.int .u64 0)] M1) ⟨fun t7_2 M2 =>
  Q .normal [(1, v1), (2, v2), (6, t6_1), (7, t7_2)] M2⟩⟩
theorem e13_10 (P : Program) (Q : Exit → Slots → Mem → Prop) (s : Slots) (M : Mem) : wpC P c13_10 Q s M = w13_10 P Q M (sget s 1) (sget s 2) := by kernel_rfl
def o13_11 : List AOper := [⟨some 36, (.mkfn i_product_Covers_1 [(.tmp 6), (.tmp 7)]), false, none⟩,
  ⟨some 8, (.mov (.tmp 36)), false, none⟩]
def c13_12 : ACode := (.region o13_11 [1, 2, 6, 7, 8])
def w13_12 (_P : Program) (Q : Exit → Slots → Mem → Prop) (M : Mem) (v1 : V) (v2 : V) (v6 : V) (v7 : V) : Prop :=
  Q .normal [(1, v1), (2, v2), (6, v6), (7, v7), (8, (mkfnV i_product_Covers_1 [v6, v7]))] M
theorem e13_12 (P : Program) (Q : Exit → Slots → Mem → Prop) (s : Slots) (M : Mem) : wpC P c13_12 Q s M = w13_12 P Q M (sget s 1) (sget s 2) (sget s 6) (sget s 7) := by kernel_rfl
def o13_13 : List AOper := [⟨some 37, (.mov (.tmp 1)), false, none⟩,
  ⟨some 38, (.lenSl (.tmp 37)), false, none⟩,
  ⟨some 39, (.mov (.const (.int .i64 0))), false, none⟩]
def c13_14 : ACode := (.region o13_13 [2, 6, 7, 8, 37, 38, 39])
def w13_14 (_P : Program) (Q : Exit → Slots → Mem → Prop) (M : Mem) (v1 : V) (v2 : V) (v6 : V) (v7 : V) (v8 : V) : Prop :=
  @OptVH (lenV v1 M) ⟨fun t38_2 =>
  Q .normal [(2, v2), (6, v6), (7, v7), (8, v8), (37, v1), (38, t38_2), (39, (.int .i64 0))] M⟩
theorem e13_14 (P : Program) (Q : Exit → Slots → Mem → Prop) (s : Slots) (M : Mem) : wpC P c13_14 Q s M = w13_14 P Q M (sget s 1) (sget s 2) (sget s 6) (sget s 7) (sget s 8) := by kernel_rfl
def o13_15 : List AOper := [⟨some 40, (.bin .lss .none (.tmp 39) (.tmp 38)), false, none⟩]
def c13_16 : ACode := (.region o13_15 [2, 6, 7, 8, 37, 38, 39, 40])
def w13_16 (_P : Program) (Q : Exit → Slots → Mem → Prop) (M : Mem) (v2 : V) (v6 : V) (v7 : V) (v8 : V) (v37 : V) (v38 : V) (v39 : V) : Prop :=
  @OptVH (binV .lss .none v39 v38) ⟨fun t40_1 =>
  Q .normal [(2, v2), (6, v6), (7, v7), (8, v8), (37, v37), (38, v38), (39, v39), (40, t40_1)] M⟩
theorem e13_16 (P : Program) (Q : Exit → Slots → Mem → Prop) (s : Slots) (M : Mem) : wpC P c13_16 Q s M = w13_16 P Q M (sget s 2) (sget s 6) (sget s 7) (sget s 8) (sget s 37) (sget s 38) (sget s 39) := by kernel_rfl
def c13_17 : ACode := (.cond (.tmp 40) .skip (.exit 0))
def o13_18 : List AOper := [⟨some 41, (.indexSl 4 (.tmp 37) (.tmp 39)), false, none⟩,
  ⟨some 42, (.load 4 true (.tmp 41)), false, none⟩,
  ⟨some 10, (.alloc [(.int .i64 0), (.int .i64 0), (.int .i64 0), (.int .i64 0)]), false, none⟩,
  ⟨none, (.store 4 (.tmp 10) (.tmp 42)), false, none⟩]
def c13_19 : ACode := (.region o13_18 [2, 6, 7, 8, 10, 37, 38, 39])
def w13_19 (_P : Program) (Q : Exit → Slots → Mem → Prop) (M : Mem) (v2 : V) (v6 : V) (v7 : V) (v8 : V) (v37 : V) (v38 : V) (v39 : V) : Prop :=
  @OptVH (indexSlV 4 v37 v39 M) ⟨fun t41_1 =>
  @OptVH (loadV 4 true t41_1 M) ⟨fun t42_2 =>
  @OptMH (allocV [(.int .i64 0), (.int .i64 0), (.int .i64 0), (.int .i64 0)] M) ⟨fun t10_3 M3 =>
  @OptMH (storeVM 4 t10_3 t42_2 M3) ⟨fun _tx_4 M4 =>
  Q .normal [(2, v2), (6, v6), (7, v7), (8, v8), (10, t10_3), (37, v37), (38, v38), (39, v39)] M4⟩⟩⟩⟩
theorem e13_19 (P : Program) (Q : Exit → Slots → Mem → Prop) (s : Slots) (M : Mem) : wpC P c13_19 Q s M = w13_19 P Q M (sget s 2) (sget s 6) (sget s 7) (sget s 8) (sget s 37) (sget s 38) (sget s 39) := by kernel_rfl
def o13_20 : List AOper := [⟨some 43, (.mov (.tmp 8)), false, none⟩,
  ⟨some 44, (.load 4 true (.tmp 10)), false, none⟩,
  ⟨some 45, (.callv (.tmp 43) [(.tmp 44)]), false, none⟩]
def c13_21 : ACode := (.region o13_20 [2, 6, 7, 8, 37, 38, 39])
def w13_21 (P : Program) (Q : Exit → Slots → Mem → Prop) (M : Mem) (v2 : V) (v6 : V) (v7 : V) (v8 : V) (v10 : V) (v37 : V) (v38 : V) (v39 : V) : Prop :=
  @OptVH (loadV 4 true v10 M) ⟨fun t44_2 =>
  @CallV P false v8 [t44_2] M ⟨fun _t45_3 M3 =>
  Q .normal [(2, v2), (6, v6), (7, v7), (8, v8), (37, v37), (38, v38), (39, v39)] M3⟩⟩
theorem e13_21 (P : Program) (Q : Exit → Slots → Mem → Prop) (s : Slots) (M : Mem) : wpC P c13_21 Q s M = w13_21 P Q M (sget s 2) (sget s 6) (sget s 7) (sget s 8) (sget s 10) (sget s 37) (sget s 38) (sget s 39) := by kernel_rfl
def c13_22 : ACode := (.seq c13_19 c13_21)
def c13_23 : ACode := (.block 1 c13_22)
def o13_24 : List AOper := [⟨some 46, (.bin .add .none (.tmp 39) (.const (.int .i64 1))), false, none⟩,
  ⟨some 39, (.mov (.tmp 46)), false, none⟩]
def c13_25 : ACode := (.region o13_24 [2, 6, 7, 8, 37, 38, 39])
def w13_25 (_P : Program) (Q : Exit → Slots → Mem → Prop) (M : Mem) (v2 : V) (v6 : V) (v7 : V) (v8 : V) (v37 : V) (v38 : V) (v39 : V) : Prop :=
  @OptVH (binV .add .none v39 (.int .i64 1)) ⟨fun t46_1 =>
  Q .normal [(2, v2), (6, v6), (7, v7), (8, v8), (37, v37), (38, v38), (39, t46_1)] M⟩
theorem e13_25 (P : Program) (Q : Exit → Slots → Mem → Prop) (s : Slots) (M : Mem) : wpC P c13_25 Q s M = w13_25 P Q M (sget s 2) (sget s 6) (sget s 7) (sget s 8) (sget s 37) (sget s 38) (sget s 39) := by kernel_rfl
def c13_26 : ACode := (.seq c13_23 c13_25)
def c13_27 : ACode := (.seq c13_17 c13_26)
def c13_28 : ACode := (.seq c13_16 c13_27)
def c13_29 : ACode := (.loop [2, 6, 7, 8, 37, 38, 39] c13_28)
def c13_30 : ACode := (.block 0 c13_29)
def c13_31 : ACode := (.seq c13_14 c13_30)
def o13_32 : List AOper := [⟨some 47, (.load 1 false (.tmp 6)), false, none⟩,
  ⟨some 48, (.call i_bitset_Set_Len [(.tmp 47)]), false, none⟩,
  ⟨some 49, (.fieldAddr 3 (.tmp 2)), false, none⟩,
  ⟨some 50, (.load 1 false (.tmp 49)), false, none⟩,
  ⟨some 51, (.bin .leq .none (.tmp 48) (.tmp 50)), true, none⟩,
  ⟨some 52, (.mov (.tmp 51)), true, none⟩,
  ⟨some 53, (.load 1 false (.tmp 7)), false, some (52, true)⟩,
  ⟨some 54, (.fieldAddr 5 (.tmp 2)), false, some (52, true)⟩,
  ⟨some 55, (.load 1 false (.tmp 54)), false, some (52, true)⟩,
  ⟨some 56, (.conv .u64 (.tmp 55)), false, some (52, true)⟩,
  ⟨some 57, (.call i_bitset_Set_Within [(.tmp 53), (.tmp 56)]), true, some (52, true)⟩,
  ⟨some 58, (.pick (.tmp 52) (.tmp 57) (.const (.bool false))), true, none⟩,
  ⟨some 4, (.mov (.tmp 58)), true, none⟩]
def c13_33 : ACode := (.mixed o13_32 [true, true, true, true, true, true, true, true, true, true, false, true, true] [4])
def w13_33 (P : Program) (Q : Exit → Slots → Mem → Prop) (M : Mem) (v2 : V) (v6 : V) (v7 : V) : Prop :=
  @OptVH (loadV 1 false v6 M) ⟨fun t47_1 =>
  @CallQ P i_bitset_Set_Len [t47_1] M ⟨fun t48_2 M2 =>
  @OptVH (moveV 3 v2) ⟨fun t49_3 =>
  @OptVH (loadV 1 false t49_3 M2) ⟨fun t50_4 =>
  @OptBH (binV .leq .none t48_2 t50_4) ⟨fun b51_5 =>
  @BIfH b51_5
  ⟨@OptVH (loadV 1 false v7 M2) ⟨fun t53_7 =>
  @OptVH (moveV 5 v2) ⟨fun t54_8 =>
  @OptVH (loadV 1 false t54_8 M2) ⟨fun t55_9 =>
  @OptVH (convV .u64 t55_9) ⟨fun t56_10 =>
  @CallH P i_bitset_Set_Within [t53_7, t56_10] M2 ⟨fun t57_11 M11 => @OptBH (some t57_11) ⟨fun b57_11 =>
  Q .normal [(4, (.bool b57_11))] M11⟩⟩⟩⟩⟩⟩⟩
  ⟨Q .normal [(4, (.bool false))] M2⟩⟩⟩⟩⟩⟩
theorem e13_33 (P : Program) (Q : Exit → Slots → Mem → Prop) (s : Slots) (M : Mem) : wpC P c13_33 Q s M = w13_33 P Q M (sget s 2) (sget s 6) (sget s 7) := by kernel_rfl
def c13_34 : ACode := (.seq c13_33 .ret)
def c13_35 : ACode := (.seq c13_31 c13_34)
def c13_36 : ACode := (.seq c13_12 c13_35)
def c13_37 : ACode := (.seq c13_10 c13_36)
def c13_38 : ACode := (.seq c13_8 c13_37)
def c13_39 : ACode := (.seq c13_3 c13_38)
def c13_40 : ACode := (.seq c13_1 c13_39)
def fn_product_Covers : AFn := ⟨59, [(.tmp 4)], c13_40⟩
theorem fn_product_Covers_ok : resFn PR h_product_Covers i_product_Covers = some fn_product_Covers := by kernel_rfl

def h_transitref21_Covers : Hints := ⟨[(0, [1, 2]), (1, [1, 2, 17]), (2, [4]), (3, [1, 2, 5, 6]), (4, [1, 2, 5, 6, 7]), (5, [1, 2, 5, 6, 7, 21]), (6, [1, 2, 5, 6, 7]), (7, [1, 2, 5, 6, 7]), (8, [1, 2, 5, 6, 7]), (9, [4])], [(5, [1, 2, 5, 6, 7])], []⟩
def o14_0 : List AOper := [⟨some 2, (.box 6 (.tmp 0)), false, none⟩,
  ⟨some 4, (.mov (.const (.bool false))), true, none⟩]
def c14_1 : ACode := (.region o14_0 [1, 2])
def w14_1 (_P : Program) (Q : Exit → Slots → Mem → Prop) (M : Mem) (v0 : V) (v1 : V) : Prop :=
  @OptMH (boxV 6 v0 M) ⟨fun t2_1 M1 =>
  Q .normal [(1, v1), (2, t2_1)] M1⟩
theorem e14_1 (P : Program) (Q : Exit → Slots → Mem → Prop) (s : Slots) (M : Mem) : wpC P c14_1 Q s M = w14_1 P Q M (sget s 0) (sget s 1) := by kernel_rfl
def o14_2 : List AOper := [⟨some 4, (.mov (.const (.bool false))), true, none⟩]
def c14_3 : ACode := (.region o14_2 [4])
def w14_3 (_P : Program) (Q : Exit → Slots → Mem → Prop) (M : Mem) : Prop :=
  Q .normal [(4, (.bool false))] M
theorem e14_3 (P : Program) (Q : Exit → Slots → Mem → Prop) (s : Slots) (M : Mem) : wpC P c14_3 Q s M = w14_3 P Q M := by kernel_rfl
def c14_4 : ACode := (.seq c14_3 .ret)
def o14_5 : List AOper := [⟨some 8, (.mov (.tmp 1)), false, none⟩,
  ⟨some 9, (.lenSl (.tmp 8)), false, none⟩,
  ⟨some 10, (.bin .eql .none (.tmp 9) (.const (.int .i64 0))), true, none⟩,
  ⟨some 11, (.mov (.tmp 10)), true, none⟩,
  ⟨some 12, (.mov (.tmp 1)), false, some (11, false)⟩,
  ⟨some 13, (.lenSl (.tmp 12)), false, some (11, false)⟩,
  ⟨some 14, (.fieldAddr 2 (.tmp 2)), false, some (11, false)⟩,
  ⟨some 15, (.load 1 false (.tmp 14)), false, some (11, false)⟩,
  ⟨some 16, (.bin .gtr .none (.tmp 13) (.tmp 15)), true, some (11, false)⟩,
  ⟨some 17, (.pick (.tmp 11) (.const (.bool true)) (.tmp 16)), true, none⟩]
def c14_6 : ACode := (.seq (.region o14_5 [1, 2, 17]) (.cond (.tmp 17) c14_4 .skip))
def w14_6 (P : Program) (Q : Exit → Slots → Mem → Prop) (M : Mem) (v1 : V) (v2 : V) : Prop :=
  @OptVH (lenV v1 M) ⟨fun t9_2 =>
  @OptBH (binV .eql .none t9_2 (.int .i64 0)) ⟨fun b10_3 =>
  @BIfH b10_3
  ⟨wpC P c14_4 Q [(1, v1), (2, v2), (17, (.bool true))] M⟩
  ⟨@OptVH (lenV v1 M) ⟨fun t13_7 =>
  @OptVH (moveV 2 v2) ⟨fun t14_8 =>
  @OptVH (loadV 1 false t14_8 M) ⟨fun t15_9 =>
  @OptBH (binV .gtr .none t13_7 t15_9) ⟨fun b16_10 =>
  @BIfH b16_10
  ⟨wpC P c14_4 Q [(1, v1), (2, v2), (17, (.bool b16_10))] M⟩
  ⟨Q .normal [(1, v1), (2, v2), (17, (.bool b16_10))] M⟩⟩⟩⟩⟩⟩⟩⟩
theorem e14_6 (P : Program) (Q : Exit → Slots → Mem → Prop) (s : Slots) (M : Mem) : wpC P c14_6 Q s M = w14_6 P Q M (sget s 1) (sget s 2) := by kernel_rfl
def o14_7 : List AOper := [⟨some 5, (.mov (.const (.int .u64 0))), false, none⟩,
  ⟨some 6, (.mov (.const (.int .u64 0))), false, none⟩]
def c14_8 : ACode := (.region o14_7 [1, 2, 5, 6])
def w14_8 (_P : Program) (Q : Exit → Slots → Mem → Prop) (M : Mem) (v1 : V) (v2 : V) : Prop :=
  Q .normal [(1, v1), (2, v2), (5, (.int .u64 0)), (6, (.int .u64 0))] M
theorem e14_8 (P : Program) (Q : Exit → Slots → Mem → Prop) (s : Slots) (M : Mem) : wpC P c14_8 Q s M = w14_8 P Q M (sget s 1) (sget s 2) := by kernel_rfl
def o14_9 : List AOper := [⟨some 7, (.mov (.const (.int .i64 0))), false, none⟩]
def c14_10 : ACode := (.region o14_9 [1, 2, 5, 6, 7])
def w14_10 (_P : Program) (Q : Exit → Slots → Mem → Prop) (M : Mem) (v1 : V) (v2 : V) (v5 : V) (v6 : V) : Prop :=
  Q .normal [(1, v1), (2, v2), (5, v5), (6, v6), (7, (.int .i64 0))] M
theorem e14_10 (P : Program) (Q : Exit → Slots → Mem → Prop) (s : Slots) (M : Mem) : wpC P c14_10 Q s M = w14_10 P Q M (sget s 1) (sget s 2) (sget s 5) (sget s 6) := by kernel_rfl
def o14_11 : List AOper := [⟨some 18, (.mov (.tmp 7)), false, none⟩,
  ⟨some 19, (.mov (.tmp 1)), false, none⟩,
  ⟨some 20, (.lenSl (.tmp 19)), false, none⟩,
  ⟨some 21, (.bin .lss .none (.tmp 18) (.tmp 20)), true, none⟩]
def c14_12 : ACode := (.seq (.region o14_11 [1, 2, 5, 6, 7, 21]) (.cond (.tmp 21) .skip (.exit 0)))
def w14_12 (_P : Program) (Q : Exit → Slots → Mem → Prop) (M : Mem) (v1 : V) (v2 : V) (v5 : V) (v6 : V) (v7 : V) : Prop :=
  @OptVH (lenV v1 M) ⟨fun t20_3 =>
  @OptBH (binV .lss .none v7 t20_3) ⟨fun b21_4 =>
  @BIfH b21_4
  ⟨Q .normal [(1, v1), (2, v2), (5, v5), (6, v6), (7, v7), (21, (.bool b21_4))] M⟩
  ⟨Q (.exit 0) [(1, v1), (2, v2), (5, v5), (6, v6), (7, v7), (21, (.bool b21_4))] M⟩⟩⟩
theorem e14_12 (P : Program) (Q : Exit → Slots → Mem → Prop) (s : Slots) (M : Mem) : wpC P c14_12 Q s M = w14_12 P Q M (sget s 1) (sget s 2) (sget s 5) (sget s 6) (sget s 7) := by kernel_rfl
def o14_13 : List AOper := [⟨some 24, (.mov (.tmp 5)), false, none⟩,
  ⟨some 25, (.mov (.tmp 1)), false, none⟩,
  ⟨some 26, (.mov (.tmp 7)), false, none⟩,
  ⟨some 27, (.indexSl 4 (.tmp 25) (.tmp 26)), false, none⟩,
  ⟨some 28, (.fieldAddr 2 (.tmp 27)), false, none⟩,
  ⟨some 29, (.load 1 false (.tmp 28)), false, none⟩,
  ⟨some 30, (.conv .u64 (.tmp 29)), false, none⟩,
  ⟨some 31, (.call i_transitref06_Union [(.tmp 24), (.tmp 30)]), false, none⟩,
  ⟨some 5, (.mov (.tmp 31)), false, none⟩]
def c14_14 : ACode := (.region o14_13 [1, 2, 5, 6, 7])
def w14_14 (P : Program) (Q : Exit → Slots → Mem → Prop) (M : Mem) (v1 : V) (v2 : V) (v5 : V) (v6 : V) (v7 : V) : Prop :=
  @OptVH (indexSlV 4 v1 v7 M) ⟨fun t27_4 =>
  @OptVH (moveV 2 t27_4) ⟨fun t28_5 =>
  @OptVH (loadV 1 false t28_5 M) ⟨fun t29_6 =>
  @OptVH (convV .u64 t29_6) ⟨fun t30_7 =>
  @CallH P i_transitref06_Union [v5, t30_7] M ⟨fun t31_8 M8 =>
  Q .normal [(1, v1), (2, v2), (5, t31_8), (6, v6), (7, v7)] M8⟩⟩⟩⟩⟩
theorem e14_14 (P : Program) (Q : Exit → Slots → Mem → Prop) (s : Slots) (M : Mem) : wpC P c14_14 Q s M = w14_14 P Q M (sget s 1) (sget s 2) (sget s 5) (sget s 6) (sget s 7) := by kernel_rfl
def o14_15 : List AOper := [⟨some 32, (.mov (.tmp 6)), false, none⟩,
  ⟨some 33, (.mov (.tmp 1)), false, none⟩,
  ⟨some 34, (.mov (.tmp 7)), false, none⟩,
  ⟨some 35, (.indexSl 4 (.tmp 33) (.tmp 34)), false, none⟩,
  ⟨some 36, (.fieldAddr 3 (.tmp 35)), false, none⟩,
  ⟨some 37, (.load 1 false (.tmp 36)), false, none⟩,
  ⟨some 38, (.conv .u64 (.tmp 37)), false, none⟩,
  ⟨some 39, (.call i_transitref06_Union [(.tmp 32), (.tmp 38)]), false, none⟩,
  ⟨some 6, (.mov (.tmp 39)), false, none⟩]
def c14_16 : ACode := (.region o14_15 [1, 2, 5, 6, 7])
def w14_16 (P : Program) (Q : Exit → Slots → Mem → Prop) (M : Mem) (v1 : V) (v2 : V) (v5 : V) (v6 : V) (v7 : V) : Prop :=
  @OptVH (indexSlV 4 v1 v7 M) ⟨fun t35_4 =>
  @OptVH (moveV 3 t35_4) ⟨fun t36_5 =>
  @OptVH (loadV 1 false t36_5 M) ⟨fun t37_6 =>
  @OptVH (convV .u64 t37_6) ⟨fun t38_7 =>
  @CallH P i_transitref06_Union [v6, t38_7] M ⟨fun t39_8 M8 =>
  Q .normal [(1, v1), (2, v2), (5, v5), (6, t39_8), (7, v7)] M8⟩⟩⟩⟩⟩
theorem e14_16 (P : Program) (Q : Exit → Slots → Mem → Prop) (s : Slots) (M : Mem) : wpC P c14_16 Q s M = w14_16 P Q M (sget s 1) (sget s 2) (sget s 5) (sget s 6) (sget s 7) := by kernel_rfl
def c14_17 : ACode := (.seq c14_14 c14_16)
def c14_18 : ACode := (.block 1 c14_17)
def o14_19 : List AOper := [⟨some 22, (.mov (.tmp 7)), false, none⟩,
  ⟨some 23, (.bin .add .none (.tmp 22) (.const (.int .i64 1))), false, none⟩,
  ⟨some 7, (.mov (.tmp 23)), false, none⟩]
def c14_20 : ACode := (.region o14_19 [1, 2, 5, 6, 7])
def w14_20 (_P : Program) (Q : Exit → Slots → Mem → Prop) (M : Mem) (v1 : V) (v2 : V) (v5 : V) (v6 : V) (v7 : V) : Prop :=
  @OptVH (binV .add .none v7 (.int .i64 1)) ⟨fun t23_2 =>
  Q .normal [(1, v1), (2, v2), (5, v5), (6, v6), (7, t23_2)] M⟩
theorem e14_20 (P : Program) (Q : Exit → Slots → Mem → Prop) (s : Slots) (M : Mem) : wpC P c14_20 Q s M = w14_20 P Q M (sget s 1) (sget s 2) (sget s 5) (sget s 6) (sget s 7) := by kernel_rfl
def c14_21 : ACode := (.seq c14_18 c14_20)
def c14_22 : ACode := (.seq c14_12 c14_21)
def c14_23 : ACode := (.loop [1, 2, 5, 6, 7] c14_22)
def c14_24 : ACode := (.block 0 c14_23)
def c14_25 : ACode := (.seq c14_10 c14_24)
def o14_26 : List AOper := [⟨some 40, (.mov (.tmp 5)), false, none⟩,
  ⟨some 41, (.call i_transitref06_List [(.tmp 40)]), false, none⟩,
  ⟨some 42, (.lenSl (.tmp 41)), false, none⟩,
  ⟨some 43, (.fieldAddr 3 (.tmp 2)), false, none⟩,
  ⟨some 44, (.load 1 false (.tmp 43)), false, none⟩,
  ⟨some 45, (.bin .leq .none (.tmp 42) (.tmp 44)), true, none⟩,
  ⟨some 46, (.mov (.tmp 45)), true, none⟩,
  ⟨some 47, (.mov (.tmp 6)), false, some (46, true)⟩,
  ⟨some 48, (.fieldAddr 5 (.tmp 2)), false, some (46, true)⟩,
  ⟨some 49, (.load 1 false (.tmp 48)), false, some (46, true)⟩,
  ⟨some 50, (.conv .u64 (.tmp 49)), false, some (46, true)⟩,
  ⟨some 51, (.call i_transitref06_Minus [(.tmp 47), (.tmp 50)]), false, some (46, true)⟩,
  ⟨some 52, (.bin .eql .none (.tmp 51) (.const (.int .u64 0))), true, some (46, true)⟩,
  ⟨some 53, (.pick (.tmp 46) (.tmp 52) (.const (.bool false))), true, none⟩,
  ⟨some 54, (.mov (.tmp 53)), true, none⟩,
  ⟨some 55, (.mov (.tmp 1)), false, some (54, true)⟩,
  ⟨some 56, (.indexSl 4 (.tmp 55) (.const (.int .i64 0))), false, some (54, true)⟩,
  ⟨some 57, (.fieldAddr 0 (.tmp 56)), false, some (54, true)⟩,
  ⟨some 58, (.load 1 false (.tmp 57)), false, some (54, true)⟩,
  ⟨some 59, (.mov (.tmp 1)), false, some (54, true)⟩,
  ⟨some 60, (.mov (.tmp 1)), false, some (54, true)⟩,
  ⟨some 61, (.lenSl (.tmp 60)), false, some (54, true)⟩,
  ⟨some 62, (.bin .sub .none (.tmp 61) (.const (.int .i64 1))), false, some (54, true)⟩,
  ⟨some 63, (.indexSl 4 (.tmp 59) (.tmp 62)), false, some (54, true)⟩,
  ⟨some 64, (.fieldAddr 0 (.tmp 63)), false, some (54, true)⟩,
  ⟨some 65, (.load 1 false (.tmp 64)), false, some (54, true)⟩,
  ⟨some 66, (.fieldAddr 4 (.tmp 2)), false, some (54, true)⟩,
  ⟨some 67, (.load 1 false (.tmp 66)), false, some (54, true)⟩,
  ⟨some 68, (.call i_transitref21_soon [(.tmp 58), (.tmp 65), (.tmp 67)]), true, some (54, true)⟩,
  ⟨some 69, (.pick (.tmp 54) (.tmp 68) (.const (.bool false))), true, none⟩,
  ⟨some 4, (.mov (.tmp 69)), true, none⟩]
def c14_27 : ACode := (.mixed o14_26 [true, true, true, true, true, true, true, true, true, true, true, false, true, true, true, true, true, true, true, true, true, true, true, true, true, true, true, true, false, true, true] [4])
def w14_27 (P : Program) (Q : Exit → Slots → Mem → Prop) (M : Mem) (v1 : V) (v2 : V) (v5 : V) (v6 : V) : Prop :=
  @CallQ P i_transitref06_List [v5] M ⟨fun t41_2 M2 =>
  @OptVH (lenV t41_2 M2) ⟨fun t42_3 =>
  @OptVH (moveV 3 v2) ⟨fun t43_4 =>
  @OptVH (loadV 1 false t43_4 M2) ⟨fun t44_5 =>
  @OptBH (binV .leq .none t42_3 t44_5) ⟨fun b45_6 =>
  @BIfH b45_6
  ⟨@OptVH (moveV 5 v2) ⟨fun t48_9 =>
  @OptVH (loadV 1 false t48_9 M2) ⟨fun t49_10 =>
  @OptVH (convV .u64 t49_10) ⟨fun t50_11 =>
  @CallH P i_transitref06_Minus [v6, t50_11] M2 ⟨fun t51_12 M12 =>
  @OptBH (binV .eql .none t51_12 (.int .u64 0)) ⟨fun b52_13 =>
  @BIfH b52_13
  ⟨@OptVH (indexSlV 4 v1 (.int .i64 0) M12) ⟨fun t56_17 =>
  @OptVH (moveV 0 t56_17) ⟨fun t57_18 =>
  @OptVH (loadV 1 false t57_18 M12) ⟨fun t58_19 =>
  @OptVH (lenV v1 M12) ⟨fun t61_22 =>
  @OptVH (binV .sub .none t61_22 (.int .i64 1)) ⟨fun t62_23 =>
  @OptVH (indexSlV 4 v1 t62_23 M12) ⟨fun t63_24 =>
  @OptVH (moveV 0 t63_24) ⟨fun t64_25 =>
  @OptVH (loadV 1 false t64_25 M12) ⟨fun t65_26 =>
  @OptVH (moveV 4 v2) ⟨fun t66_27 =>
  @OptVH (loadV 1 false t66_27 M12) ⟨fun t67_28 =>
  @CallH P i_transitref21_soon [t58_19, t65_26, t67_28] M12 ⟨fun t68_29 M29 => @OptBH (some t68_29) ⟨fun b68_29 =>
  Q .normal [(4, (.bool b68_29))] M29⟩⟩⟩⟩⟩⟩⟩⟩⟩⟩⟩⟩⟩
  ⟨Q .normal [(4, (.bool false))] M12⟩⟩⟩⟩⟩⟩⟩
  ⟨Q .normal [(4, (.bool false))] M2⟩⟩⟩⟩⟩⟩
theorem e14_27 (P : Program) (Q : Exit → Slots → Mem → Prop) (s : Slots) (M : Mem) : wpC P c14_27 Q s M = w14_27 P Q M (sget s 1) (sget s 2) (sget s 5) (sget s 6) := by kernel_rfl
def c14_28 : ACode := (.seq c14_27 .ret)
def c14_29 : ACode := (.seq c14_25 c14_28)
def c14_30 : ACode := (.seq c14_8 c14_29)
def c14_31 : ACode := (.seq c14_6 c14_30)
def c14_32 : ACode := (.seq c14_1 c14_31)
def fn_transitref21_Covers : AFn := ⟨70, [(.tmp 4)], c14_32⟩
theorem fn_transitref21_Covers_ok : resFn PR h_transitref21_Covers i_transitref21_Covers = some fn_transitref21_Covers := by kernel_rfl

def h_transitref03_SameInts : Hints := ⟨[(0, [0, 1]), (1, [0, 1, 10]), (2, [4]), (3, [0, 1, 5]), (4, [0, 1, 5, 14]), (5, [0, 1, 5]), (6, [0, 1, 5, 25]), (7, [4]), (8, [4])], [(4, [0, 1, 5])], []⟩
def o15_0 : List AOper := [⟨some 4, (.mov (.const (.bool false))), true, none⟩]
def c15_1 : ACode := (.region o15_0 [0, 1])
def w15_1 (_P : Program) (Q : Exit → Slots → Mem → Prop) (M : Mem) (v0 : V) (v1 : V) : Prop :=
  Q .normal [(0, v0), (1, v1)] M
theorem e15_1 (P : Program) (Q : Exit → Slots → Mem → Prop) (s : Slots) (M : Mem) : wpC P c15_1 Q s M = w15_1 P Q M (sget s 0) (sget s 1) := by kernel_rfl
def o15_2 : List AOper := [⟨some 4, (.mov (.const (.bool false))), true, none⟩]
def c15_3 : ACode := (.region o15_2 [4])
def w15_3 (_P : Program) (Q : Exit → Slots → Mem → Prop) (M : Mem) : Prop :=
  Q .normal [(4, (.bool false))] M
theorem e15_3 (P : Program) (Q : Exit → Slots → Mem → Prop) (s : Slots) (M : Mem) : wpC P c15_3 Q s M = w15_3 P Q M := by kernel_rfl
def c15_4 : ACode := (.seq c15_3 .ret)
def o15_5 : List AOper := [⟨some 6, (.mov (.tmp 0)), false, none⟩,
  ⟨some 7, (.lenSl (.tmp 6)), false, none⟩,
  ⟨some 8, (.mov (.tmp 1)), false, none⟩,
  ⟨some 9, (.lenSl (.tmp 8)), false, none⟩,
  ⟨some 10, (.bin .neq .none (.tmp 7) (.tmp 9)), true, none⟩]
def c15_6 : ACode := (.seq (.region o15_5 [0, 1, 10]) (.cond (.tmp 10) c15_4 .skip))
def w15_6 (P : Program) (Q : Exit → Slots → Mem → Prop) (M : Mem) (v0 : V) (v1 : V) : Prop :=
  @OptVH (lenV v0 M) ⟨fun t7_2 =>
  @OptVH (lenV v1 M) ⟨fun t9_4 =>
  @OptBH (binV .neq .none t7_2 t9_4) ⟨fun b10_5 =>
  @BIfH b10_5
  ⟨wpC P c15_4 Q [(0, v0), (1, v1), (10, (.bool b10_5))] M⟩
  ⟨Q .normal [(0, v0), (1, v1), (10, (.bool b10_5))] M⟩⟩⟩⟩
theorem e15_6 (P : Program) (Q : Exit → Slots → Mem → Prop) (s : Slots) (M : Mem) : wpC P c15_6 Q s M = w15_6 P Q M (sget s 0) (sget s 1) := by kernel_rfl
def o15_7 : List AOper := [⟨some 5, (.mov (.const (.int .i64 0))), false, none⟩]
def c15_8 : ACode := (.region o15_7 [0, 1, 5])
def w15_8 (_P : Program) (Q : Exit → Slots → Mem → Prop) (M : Mem) (v0 : V) (v1 : V) : Prop :=
  Q .normal [(0, v0), (1, v1), (5, (.int .i64 0))] M
theorem e15_8 (P : Program) (Q : Exit → Slots → Mem → Prop) (s : Slots) (M : Mem) : wpC P c15_8 Q s M = w15_8 P Q M (sget s 0) (sget s 1) := by kernel_rfl
def o15_9 : List AOper := [⟨some 11, (.mov (.tmp 5)), false, none⟩,
  ⟨some 12, (.mov (.tmp 0)), false, none⟩,
  ⟨some 13, (.lenSl (.tmp 12)), false, none⟩,
  ⟨some 14, (.bin .lss .none (.tmp 11) (.tmp 13)), true, none⟩]
def c15_10 : ACode := (.seq (.region o15_9 [0, 1, 5, 14]) (.cond (.tmp 14) .skip (.exit 0)))
def w15_10 (_P : Program) (Q : Exit → Slots → Mem → Prop) (M : Mem) (v0 : V) (v1 : V) (v5 : V) : Prop :=
  @OptVH (lenV v0 M) ⟨fun t13_3 =>
  @OptBH (binV .lss .none v5 t13_3) ⟨fun b14_4 =>
  @BIfH b14_4
  ⟨Q .normal [(0, v0), (1, v1), (5, v5), (14, (.bool b14_4))] M⟩
  ⟨Q (.exit 0) [(0, v0), (1, v1), (5, v5), (14, (.bool b14_4))] M⟩⟩⟩
theorem e15_10 (P : Program) (Q : Exit → Slots → Mem → Prop) (s : Slots) (M : Mem) : wpC P c15_10 Q s M = w15_10 P Q M (sget s 0) (sget s 1) (sget s 5) := by kernel_rfl
def o15_11 : List AOper := [⟨some 4, (.mov (.const (.bool false))), true, none⟩]
def c15_12 : ACode := (.region o15_11 [4])
def w15_12 (_P : Program) (Q : Exit → Slots → Mem → Prop) (M : Mem) : Prop :=
  Q .normal [(4, (.bool false))] M
theorem e15_12 (P : Program) (Q : Exit → Slots → Mem → Prop) (s : Slots) (M : Mem) : wpC P c15_12 Q s M = w15_12 P Q M := by kernel_rfl
def c15_13 : ACode := (.seq c15_12 .ret)
def o15_14 : List AOper := [⟨some 17, (.mov (.tmp 0)), false, none⟩,
  ⟨some 18, (.mov (.tmp 5)), false, none⟩,
  ⟨some 19, (.indexSl 1 (.tmp 17) (.tmp 18)), false, none⟩,
  ⟨some 20, (.load 1 false (.tmp 19)), false, none⟩,
  ⟨some 21, (.mov (.tmp 1)), false, none⟩,
  ⟨some 22, (.mov (.tmp 5)), false, none⟩,
  ⟨some 23, (.indexSl 1 (.tmp 21) (.tmp 22)), false, none⟩,
  ⟨some 24, (.load 1 false (.tmp 23)), false, none⟩,
  ⟨some 25, (.bin .neq .none (.tmp 20) (.tmp 24)), true, none⟩]
def c15_15 : ACode := (.seq (.mixed o15_14 [true, true, true, true, true, true, true, true, true] [0, 1, 5, 25]) (.cond (.tmp 25) c15_13 .skip))
def w15_15 (P : Program) (Q : Exit → Slots → Mem → Prop) (M : Mem) (v0 : V) (v1 : V) (v5 : V) : Prop :=
  @OptVH (indexSlV 1 v0 v5 M) ⟨fun t19_3 =>
  @OptVH (loadV 1 false t19_3 M) ⟨fun t20_4 =>
  @OptVH (indexSlV 1 v1 v5 M) ⟨fun t23_7 =>
  @OptVH (loadV 1 false t23_7 M) ⟨fun t24_8 =>
  @OptBH (binV .neq .none t20_4 t24_8) ⟨fun b25_9 =>
  @BIfH b25_9
  ⟨wpC P c15_13 Q [(0, v0), (1, v1), (5, v5), (25, (.bool b25_9))] M⟩
  ⟨Q .normal [(0, v0), (1, v1), (5, v5), (25, (.bool b25_9))] M⟩⟩⟩⟩⟩⟩
theorem e15_15 (P : Program) (Q : Exit → Slots → Mem → Prop) (s : Slots) (M : Mem) : wpC P c15_15 Q s M = w15_15 P Q M (sget s 0) (sget s 1) (sget s 5) := by kernel_rfl
def c15_16 : ACode := (.block 1 c15_15)
def o15_17 : List AOper := [⟨some 15, (.mov (.tmp 5)), false, none⟩,
  ⟨some 16, (.bin .add .none (.tmp 15) (.const (.int .i64 1))), false, none⟩,
  ⟨some 5, (.mov (.tmp 16)), false, none⟩]
def c15_18 : ACode := (.region o15_17 [0, 1, 5])
def w15_18 (_P : Program) (Q : Exit → Slots → Mem → Prop) (M : Mem) (v0 : V) (v1 : V) (v5 : V) : Prop :=
  @OptVH (binV .add .none v5 (.int .i64 1)) ⟨fun t16_2 =>
  Q .normal [(0, v0), (1, v1), (5, t16_2)] M⟩
theorem e15_18 (P : Program) (Q : Exit → Slots → Mem → Prop) (s : Slots) (M : Mem) : wpC P c15_18 Q s M = w15_18 P Q M (sget s 0) (sget s 1) (sget s 5) := by kernel_rfl
def c15_19 : ACode := (.seq c15_16 c15_18)
def c15_20 : ACode := (.seq c15_10 c15_19)
def c15_21 : ACode := (.loop [0, 1, 5] c15_20)
def c15_22 : ACode := (.block 0 c15_21)
def c15_23 : ACode := (.seq c15_8 c15_22)
def o15_24 : List AOper := [⟨some 4, (.mov (.const (.bool true))), true, none⟩]
def c15_25 : ACode := (.region o15_24 [4])
def w15_25 (_P : Program) (Q : Exit → Slots → Mem → Prop) (M : Mem) : Prop :=
  Q .normal [(4, (.bool true))] M
theorem e15_25 (P : Program) (Q : Exit → Slots → Mem → Prop) (s : Slots) (M : Mem) : wpC P c15_25 Q s M = w15_25 P Q M := by kernel_rfl
def c15_26 : ACode := (.seq c15_25 .ret)
def c15_27 : ACode := (.seq c15_23 c15_26)
def c15_28 : ACode := (.seq c15_6 c15_27)
def c15_29 : ACode := (.seq c15_1 c15_28)
def fn_transitref03_SameInts : AFn := ⟨26, [(.tmp 4)], c15_29⟩
theorem fn_transitref03_SameInts_ok : resFn PR h_transitref03_SameInts i_transitref03_SameInts = some fn_transitref03_SameInts := by kernel_rfl

def h_product_Options : Hints := ⟨[(0, [1, 2]), (1, [1, 2, 5]), (2, [1, 5, 9, 10, 11]), (3, [1, 5, 9, 10, 11, 12]), (4, [1, 5, 6, 7, 9, 10, 11]), (5, [1, 5, 6, 9, 10, 11, 18]), (6, [1, 5, 9, 10, 11]), (7, [1, 5, 9, 10, 11]), (8, [4])], [(3, [1, 5, 9, 10, 11])], [(1, [0])]⟩
def o16_0 : List AOper := [⟨some 2, (.box 4 (.tmp 0)), false, none⟩,
  ⟨some 4, (.mov (.const (.slice [] .nil))), false, none⟩]
def c16_1 : ACode := (.region o16_0 [1, 2])
def w16_1 (_P : Program) (Q : Exit → Slots → Mem → Prop) (M : Mem) (v0 : V) (v1 : V) : Prop :=
  @OptMH (boxV 4 v0 M) ⟨fun t2_1 M1 =>
  Q .normal [(1, v1), (2, t2_1)] M1⟩
theorem e16_1 (P : Program) (Q : Exit → Slots → Mem → Prop) (s : Slots) (M : Mem) : wpC P c16_1 Q s M = w16_1 P Q M (sget s 0) (sget s 1) := by kernel_rfl
def o16_2 : List AOper := [⟨some 5, (.newarr 1), false, none⟩]
def c16_3 : ACode := (.region o16_2 [1, 2, 5])
def w16_3 (_P : Program) (Q : Exit → Slots → Mem → Prop) (M : Mem) (v1 : V) (v2 : V) : Prop :=
  @OptMH (newarrV 1 M) ⟨fun t5_1 M1 =>
  Q .normal [(1, v1), (2, v2), (5, t5_1)] M1⟩
theorem e16_3 (P : Program) (Q : Exit → Slots → Mem → Prop) (s : Slots) (M : Mem) : wpC P c16_3 Q s M = w16_3 P Q M (sget s 1) (sget s 2) := by kernel_rfl
def o16_4 : List AOper := [⟨some 8, (.fieldAddr 0 (.tmp 2)), false, none⟩,
  ⟨some 9, (.load 1 false (.tmp 8)), false, none⟩,
  ⟨some 10, (.lenSl (.tmp 9)), false, none⟩,
  ⟨some 11, (.mov (.const (.int .i64 0))), false, none⟩]
def c16_5 : ACode := (.region o16_4 [1, 5, 9, 10, 11])
def w16_5 (_P : Program) (Q : Exit → Slots → Mem → Prop) (M : Mem) (v1 : V) (v2 : V) (v5 : V) : Prop :=
  @OptVH (moveV 0 v2) ⟨fun t8_1 =>
  @OptVH (loadV 1 false t8_1 M) ⟨fun t9_2 =>
  @OptVH (lenV t9_2 M) ⟨fun t10_3 =>
  Q .normal [(1, v1), (5, v5), (9, t9_2), (10, t10_3), (11, (.int .i64 0))] M⟩⟩⟩
theorem e16_5 (P : Program) (Q : Exit → Slots → Mem → Prop) (s : Slots) (M : Mem) : wpC P c16_5 Q s M = w16_5 P Q M (sget s 1) (sget s 2) (sget s 5) := by kernel_rfl
def o16_6 : List AOper := [⟨some 12, (.bin .lss .none (.tmp 11) (.tmp 10)), false, none⟩]
def c16_7 : ACode := (.region o16_6 [1, 5, 9, 10, 11, 12])
def w16_7 (_P : Program) (Q : Exit → Slots → Mem → Prop) (M : Mem) (v1 : V) (v5 : V) (v9 : V) (v10 : V) (v11 : V) : Prop :=
  @OptVH (binV .lss .none v11 v10) ⟨fun t12_1 =>
  Q .normal [(1, v1), (5, v5), (9, v9), (10, v10), (11, v11), (12, t12_1)] M⟩
theorem e16_7 (P : Program) (Q : Exit → Slots → Mem → Prop) (s : Slots) (M : Mem) : wpC P c16_7 Q s M = w16_7 P Q M (sget s 1) (sget s 5) (sget s 9) (sget s 10) (sget s 11) := by kernel_rfl
def c16_8 : ACode := (.cond (.tmp 12) .skip (.exit 0))
def o16_9 : List AOper := [⟨some 13, (.mov (.tmp 11)), false, none⟩,
  ⟨some 14, (.indexSl 6 (.tmp 9) (.tmp 11)), false, none⟩,
  ⟨some 15, (.load 6 true (.tmp 14)), false, none⟩,
  ⟨some 7, (.alloc [(.str []), (.int .i64 0), (.int .i64 0), (.int .i64 0), (.int .i64 0), (.int .i64 0)]), false, none⟩,
  ⟨some 6, (.mov (.tmp 13)), false, none⟩,
  ⟨none, (.store 6 (.tmp 7) (.tmp 15)), false, none⟩]
def c16_10 : ACode := (.region o16_9 [1, 5, 6, 7, 9, 10, 11])
def w16_10 (_P : Program) (Q : Exit → Slots → Mem → Prop) (M : Mem) (v1 : V) (v5 : V) (v9 : V) (v10 : V) (v11 : V) : Prop :=
  @OptVH (indexSlV 6 v9 v11 M) ⟨fun t14_2 =>
  @OptVH (loadV 6 true t14_2 M) ⟨fun t15_3 =>
  @OptMH (allocV [(.str []), (.int .i64 0), (.int .i64 0), (.int .i64 0), (.int .i64 0), (.int .i64 0)] M) ⟨fun t7_4 M4 =>
  @OptMH (storeVM 6 t7_4 t15_3 M4) ⟨fun _tx_6 M6 =>
  Q .normal [(1, v1), (5, v5), (6, v11), (7, t7_4), (9, v9), (10, v10), (11, v11)] M6⟩⟩⟩⟩
theorem e16_10 (P : Program) (Q : Exit → Slots → Mem → Prop) (s : Slots) (M : Mem) : wpC P c16_10 Q s M = w16_10 P Q M (sget s 1) (sget s 5) (sget s 9) (sget s 10) (sget s 11) := by kernel_rfl
def o16_11 : List AOper := [⟨some 19, (.mov (.tmp 5)), false, none⟩,
  ⟨some 20, (.mov (.tmp 6)), false, none⟩,
  ⟨some 21, (.buildSlice [(.int .i64 0)] 1 1 [(0, (1, (.tmp 20)))]), false, none⟩,
  ⟨some 22, (.append false 1 8 (.tmp 19) (.tmp 21)), false, none⟩,
  ⟨some 5, (.mov (.tmp 22)), false, none⟩]
def c16_12 : ACode := (.region o16_11 [1, 5, 9, 10, 11])
def w16_12 (_P : Program) (Q : Exit → Slots → Mem → Prop) (M : Mem) (v1 : V) (v5 : V) (v6 : V) (v9 : V) (v10 : V) (v11 : V) : Prop :=
  @OptVH (buildSliceV [(.int .i64 0)] 1 1 [(0, 1, v6)]) ⟨fun t21_3 =>
  @OptMH (appV false 1 8 v5 t21_3 M) ⟨fun t22_4 M4 =>
  Q .normal [(1, v1), (5, t22_4), (9, v9), (10, v10), (11, v11)] M4⟩⟩
theorem e16_12 (P : Program) (Q : Exit → Slots → Mem → Prop) (s : Slots) (M : Mem) : wpC P c16_12 Q s M = w16_12 P Q M (sget s 1) (sget s 5) (sget s 6) (sget s 9) (sget s 10) (sget s 11) := by kernel_rfl
def o16_13 : List AOper := [⟨some 16, (.load 6 true (.tmp 7)), false, none⟩,
  ⟨some 17, (.mov (.tmp 1)), false, none⟩,
  ⟨some 18, (.call i_product_Covers [(.tmp 16), (.tmp 17)]), true, none⟩]
def c16_14 : ACode := (.seq (.region o16_13 [1, 5, 6, 9, 10, 11, 18]) (.cond (.tmp 18) c16_12 .skip))
def w16_14 (P : Program) (Q : Exit → Slots → Mem → Prop) (M : Mem) (v1 : V) (v5 : V) (v6 : V) (v7 : V) (v9 : V) (v10 : V) (v11 : V) : Prop :=
  @OptVH (loadV 6 true v7 M) ⟨fun t16_1 =>
  @CallH P i_product_Covers [t16_1, v1] M ⟨fun t18_3 M3 => @OptBH (some t18_3) ⟨fun b18_3 =>
  @BIfH b18_3
  ⟨wpC P c16_12 Q [(1, v1), (5, v5), (6, v6), (9, v9), (10, v10), (11, v11), (18, (.bool b18_3))] M3⟩
  ⟨Q .normal [(1, v1), (5, v5), (6, v6), (9, v9), (10, v10), (11, v11), (18, (.bool b18_3))] M3⟩⟩⟩⟩
theorem e16_14 (P : Program) (Q : Exit → Slots → Mem → Prop) (s : Slots) (M : Mem) : wpC P c16_14 Q s M = w16_14 P Q M (sget s 1) (sget s 5) (sget s 6) (sget s 7) (sget s 9) (sget s 10) (sget s 11) := by kernel_rfl
def c16_15 : ACode := (.seq c16_10 c16_14)
def c16_16 : ACode := (.block 1 c16_15)
def o16_17 : List AOper := [⟨some 23, (.bin .add .none (.tmp 11) (.const (.int .i64 1))), false, none⟩,
  ⟨some 11, (.mov (.tmp 23)), false, none⟩]
def c16_18 : ACode := (.region o16_17 [1, 5, 9, 10, 11])
def w16_18 (_P : Program) (Q : Exit → Slots → Mem → Prop) (M : Mem) (v1 : V) (v5 : V) (v9 : V) (v10 : V) (v11 : V) : Prop :=
  @OptVH (binV .add .none v11 (.int .i64 1)) ⟨fun t23_1 =>
  Q .normal [(1, v1), (5, v5), (9, v9), (10, v10), (11, t23_1)] M⟩
theorem e16_18 (P : Program) (Q : Exit → Slots → Mem → Prop) (s : Slots) (M : Mem) : wpC P c16_18 Q s M = w16_18 P Q M (sget s 1) (sget s 5) (sget s 9) (sget s 10) (sget s 11) := by kernel_rfl
def c16_19 : ACode := (.seq c16_16 c16_18)
def c16_20 : ACode := (.seq c16_8 c16_19)
def c16_21 : ACode := (.seq c16_7 c16_20)
def c16_22 : ACode := (.loop [1, 5, 9, 10, 11] c16_21)
def c16_23 : ACode := (.block 0 c16_22)
def c16_24 : ACode := (.seq c16_5 c16_23)
def o16_25 : List AOper := [⟨some 24, (.mov (.tmp 5)), false, none⟩,
  ⟨some 4, (.mov (.tmp 24)), false, none⟩]
def c16_26 : ACode := (.region o16_25 [4])
def w16_26 (_P : Program) (Q : Exit → Slots → Mem → Prop) (M : Mem) (v5 : V) : Prop :=
  Q .normal [(4, v5)] M
theorem e16_26 (P : Program) (Q : Exit → Slots → Mem → Prop) (s : Slots) (M : Mem) : wpC P c16_26 Q s M = w16_26 P Q M (sget s 5) := by kernel_rfl
def c16_27 : ACode := (.seq c16_26 .ret)
def c16_28 : ACode := (.seq c16_24 c16_27)
def c16_29 : ACode := (.seq c16_3 c16_28)
def c16_30 : ACode := (.seq c16_1 c16_29)
def fn_product_Options : AFn := ⟨25, [(.tmp 4)], c16_30⟩
theorem fn_product_Options_ok : resFn PR h_product_Options i_product_Options = some fn_product_Options := by kernel_rfl

def h_transitref21_Options : Hints := ⟨[(0, [1, 2]), (1, [1, 2, 5]), (2, [1, 2, 5, 6]), (3, [1, 2, 5, 6, 11]), (4, [1, 2, 5, 6]), (5, [1, 2, 5, 6, 20]), (6, [1, 2, 5, 6]), (7, [4])], [(3, [1, 2, 5, 6])], [(1, [0])]⟩
def o17_0 : List AOper := [⟨some 2, (.box 4 (.tmp 0)), false, none⟩,
  ⟨some 4, (.mov (.const (.slice [] .nil))), false, none⟩]
def c17_1 : ACode := (.region o17_0 [1, 2])
def w17_1 (_P : Program) (Q : Exit → Slots → Mem → Prop) (M : Mem) (v0 : V) (v1 : V) : Prop :=
  @OptMH (boxV 4 v0 M) ⟨fun t2_1 M1 =>
  Q .normal [(1, v1), (2, t2_1)] M1⟩
theorem e17_1 (P : Program) (Q : Exit → Slots → Mem → Prop) (s : Slots) (M : Mem) : wpC P c17_1 Q s M = w17_1 P Q M (sget s 0) (sget s 1) := by kernel_rfl
def o17_2 : List AOper := [⟨some 5, (.newarr 1), false, none⟩]
def c17_3 : ACode := (.region o17_2 [1, 2, 5])
def w17_3 (_P : Program) (Q : Exit → Slots → Mem → Prop) (M : Mem) (v1 : V) (v2 : V) : Prop :=
  @OptMH (newarrV 1 M) ⟨fun t5_1 M1 =>
  Q .normal [(1, v1), (2, v2), (5, t5_1)] M1⟩
theorem e17_3 (P : Program) (Q : Exit → Slots → Mem → Prop) (s : Slots) (M : Mem) : wpC P c17_3 Q s M = w17_3 P Q M (sget s 1) (sget s 2) := by kernel_rfl
def o17_4 : List AOper := [⟨some 6, (.mov (.const (.int .i64 0))), false, none⟩]
def c17_5 : ACode := (.region o17_4 [1, 2, 5, 6])
def w17_5 (_P : Program) (Q : Exit → Slots → Mem → Prop) (M : Mem) (v1 : V) (v2 : V) (v5 : V) : Prop :=
  Q .normal [(1, v1), (2, v2), (5, v5), (6, (.int .i64 0))] M
theorem e17_5 (P : Program) (Q : Exit → Slots → Mem → Prop) (s : Slots) (M : Mem) : wpC P c17_5 Q s M = w17_5 P Q M (sget s 1) (sget s 2) (sget s 5) := by kernel_rfl
def o17_6 : List AOper := [⟨some 7, (.mov (.tmp 6)), false, none⟩,
  ⟨some 8, (.fieldAddr 0 (.tmp 2)), false, none⟩,
  ⟨some 9, (.load 1 false (.tmp 8)), false, none⟩,
  ⟨some 10, (.lenSl (.tmp 9)), false, none⟩,
  ⟨some 11, (.bin .lss .none (.tmp 7) (.tmp 10)), true, none⟩]
def c17_7 : ACode := (.seq (.region o17_6 [1, 2, 5, 6, 11]) (.cond (.tmp 11) .skip (.exit 0)))
def w17_7 (_P : Program) (Q : Exit → Slots → Mem → Prop) (M : Mem) (v1 : V) (v2 : V) (v5 : V) (v6 : V) : Prop :=
  @OptVH (moveV 0 v2) ⟨fun t8_2 =>
  @OptVH (loadV 1 false t8_2 M) ⟨fun t9_3 =>
  @OptVH (lenV t9_3 M) ⟨fun t10_4 =>
  @OptBH (binV .lss .none v6 t10_4) ⟨fun b11_5 =>
  @BIfH b11_5
  ⟨Q .normal [(1, v1), (2, v2), (5, v5), (6, v6), (11, (.bool b11_5))] M⟩
  ⟨Q (.exit 0) [(1, v1), (2, v2), (5, v5), (6, v6), (11, (.bool b11_5))] M⟩⟩⟩⟩⟩
theorem e17_7 (P : Program) (Q : Exit → Slots → Mem → Prop) (s : Slots) (M : Mem) : wpC P c17_7 Q s M = w17_7 P Q M (sget s 1) (sget s 2) (sget s 5) (sget s 6) := by kernel_rfl
def o17_8 : List AOper := [⟨some 21, (.mov (.tmp 5)), false, none⟩,
  ⟨some 22, (.mov (.tmp 6)), false, none⟩,
  ⟨some 23, (.buildSlice [(.int .i64 0)] 1 1 [(0, (1, (.tmp 22)))]), false, none⟩,
  ⟨some 24, (.append false 1 8 (.tmp 21) (.tmp 23)), false, none⟩,
  ⟨some 5, (.mov (.tmp 24)), false, none⟩]
def c17_9 : ACode := (.region o17_8 [1, 2, 5, 6])
def w17_9 (_P : Program) (Q : Exit → Slots → Mem → Prop) (M : Mem) (v1 : V) (v2 : V) (v5 : V) (v6 : V) : Prop :=
  @OptVH (buildSliceV [(.int .i64 0)] 1 1 [(0, 1, v6)]) ⟨fun t23_3 =>
  @OptMH (appV false 1 8 v5 t23_3 M) ⟨fun t24_4 M4 =>
  Q .normal [(1, v1), (2, v2), (5, t24_4), (6, v6)] M4⟩⟩
theorem e17_9 (P : Program) (Q : Exit → Slots → Mem → Prop) (s : Slots) (M : Mem) : wpC P c17_9 Q s M = w17_9 P Q M (sget s 1) (sget s 2) (sget s 5) (sget s 6) := by kernel_rfl
def o17_10 : List AOper := [⟨some 14, (.fieldAddr 0 (.tmp 2)), false, none⟩,
  ⟨some 15, (.load 1 false (.tmp 14)), false, none⟩,
  ⟨some 16, (.mov (.tmp 6)), false, none⟩,
  ⟨some 17, (.indexSl 6 (.tmp 15) (.tmp 16)), false, none⟩,
  ⟨some 18, (.load 6 true (.tmp 17)), false, none⟩,
  ⟨some 19, (.mov (.tmp 1)), false, none⟩,
  ⟨some 20, (.call i_transitref21_Covers [(.tmp 18), (.tmp 19)]), true, none⟩]
def c17_11 : ACode := (.seq (.region o17_10 [1, 2, 5, 6, 20]) (.cond (.tmp 20) c17_9 .skip))
def w17_11 (P : Program) (Q : Exit → Slots → Mem → Prop) (M : Mem) (v1 : V) (v2 : V) (v5 : V) (v6 : V) : Prop :=
  @OptVH (moveV 0 v2) ⟨fun t14_1 =>
  @OptVH (loadV 1 false t14_1 M) ⟨fun t15_2 =>
  @OptVH (indexSlV 6 t15_2 v6 M) ⟨fun t17_4 =>
  @OptVH (loadV 6 true t17_4 M) ⟨fun t18_5 =>
  @CallH P i_transitref21_Covers [t18_5, v1] M ⟨fun t20_7 M7 => @OptBH (some t20_7) ⟨fun b20_7 =>
  @BIfH b20_7
  ⟨wpC P c17_9 Q [(1, v1), (2, v2), (5, v5), (6, v6), (20, (.bool b20_7))] M7⟩
  ⟨Q .normal [(1, v1), (2, v2), (5, v5), (6, v6), (20, (.bool b20_7))] M7⟩⟩⟩⟩⟩⟩⟩
theorem e17_11 (P : Program) (Q : Exit → Slots → Mem → Prop) (s : Slots) (M : Mem) : wpC P c17_11 Q s M = w17_11 P Q M (sget s 1) (sget s 2) (sget s 5) (sget s 6) := by kernel_rfl
def c17_12 : ACode := (.block 1 c17_11)
def o17_13 : List AOper := [⟨some 12, (.mov (.tmp 6)), false, none⟩,
  ⟨some 13, (.bin .add .none (.tmp 12) (.const (.int .i64 1))), false, none⟩,
  ⟨some 6, (.mov (.tmp 13)), false, none⟩]
def c17_14 : ACode := (.region o17_13 [1, 2, 5, 6])
def w17_14 (_P : Program) (Q : Exit → Slots → Mem → Prop) (M : Mem) (v1 : V) (v2 : V) (v5 : V) (v6 : V) : Prop :=
  @OptVH (binV .add .none v6 (.int .i64 1)) ⟨fun t13_2 =>
  Q .normal [(1, v1), (2, v2), (5, v5), (6, t13_2)] M⟩
theorem e17_14 (P : Program) (Q : Exit → Slots → Mem → Prop) (s : Slots) (M : Mem) : wpC P c17_14 Q s M = w17_14 P Q M (sget s 1) (sget s 2) (sget s 5) (sget s 6) := by kernel_rfl
def c17_15 : ACode := (.seq c17_12 c17_14)
def c17_16 : ACode := (.seq c17_7 c17_15)
def c17_17 : ACode := (.loop [1, 2, 5, 6] c17_16)
def c17_18 : ACode := (.block 0 c17_17)
def c17_19 : ACode := (.seq c17_5 c17_18)
def o17_20 : List AOper := [⟨some 25, (.mov (.tmp 5)), false, none⟩,
  ⟨some 4, (.mov (.tmp 25)), false, none⟩]
def c17_21 : ACode := (.region o17_20 [4])
def w17_21 (_P : Program) (Q : Exit → Slots → Mem → Prop) (M : Mem) (v5 : V) : Prop :=
  Q .normal [(4, v5)] M
theorem e17_21 (P : Program) (Q : Exit → Slots → Mem → Prop) (s : Slots) (M : Mem) : wpC P c17_21 Q s M = w17_21 P Q M (sget s 5) := by kernel_rfl
def c17_22 : ACode := (.seq c17_21 .ret)
def c17_23 : ACode := (.seq c17_19 c17_22)
def c17_24 : ACode := (.seq c17_3 c17_23)
def c17_25 : ACode := (.seq c17_1 c17_24)
def fn_transitref21_Options : AFn := ⟨26, [(.tmp 4)], c17_25⟩
theorem fn_transitref21_Options_ok : resFn PR h_transitref21_Options i_transitref21_Options = some fn_transitref21_Options := by kernel_rfl

def h_product_Price : Hints := ⟨[(0, [1, 2, 3, 4]), (1, [1, 2, 3, 4, 11]), (2, [1, 2, 3, 4, 30]), (3, [8, 9]), (4, [2, 3, 4, 12]), (5, [4, 12, 43]), (6, [8, 9]), (7, [8, 9])], [], []⟩
def o18_0 : List AOper := [⟨some 4, (.box 4 (.tmp 0)), false, none⟩,
  ⟨some 8, (.mov (.const (.int .i64 0))), false, none⟩,
  ⟨some 9, (.mov (.const (.bool false))), true, none⟩]
def c18_1 : ACode := (.region o18_0 [1, 2, 3, 4])
def w18_1 (_P : Program) (Q : Exit → Slots → Mem → Prop) (M : Mem) (v0 : V) (v1 : V) (v2 : V) (v3 : V) : Prop :=
  @OptMH (boxV 4 v0 M) ⟨fun t4_1 M1 =>
  Q .normal [(1, v1), (2, v2), (3, v3), (4, t4_1)] M1⟩
theorem e18_1 (P : Program) (Q : Exit → Slots → Mem → Prop) (s : Slots) (M : Mem) : wpC P c18_1 Q s M = w18_1 P Q M (sget s 0) (sget s 1) (sget s 2) (sget s 3) := by kernel_rfl
def o18_2 : List AOper := [⟨some 14, (.load 4 true (.tmp 4)), false, none⟩,
  ⟨some 15, (.call i_product_Check [(.tmp 14)]), false, none⟩,
  ⟨some 13, (.mov (.tmp 15)), false, none⟩,
  ⟨some 16, (.extract (.tmp 13) 0), false, none⟩,
  ⟨some 17, (.extract (.tmp 13) 1), false, none⟩,
  ⟨some 10, (.mov (.tmp 16)), false, none⟩,
  ⟨some 11, (.mov (.tmp 17)), false, none⟩]
def c18_3 : ACode := (.region o18_2 [1, 2, 3, 4, 11])
def w18_3 (P : Program) (Q : Exit → Slots → Mem → Prop) (M : Mem) (v1 : V) (v2 : V) (v3 : V) (v4 : V) : Prop :=
  @OptVH (loadV 4 true v4 M) ⟨fun t14_1 =>
  @CallH P i_product_Check [t14_1] M ⟨fun t15_2 M2 =>
  @OptVH (extractV t15_2 0) ⟨fun _t16_4 =>
  @OptVH (extractV t15_2 1) ⟨fun t17_5 =>
  Q .normal [(1, v1), (2, v2), (3, v3), (4, v4), (11, t17_5)] M2⟩⟩⟩⟩
theorem e18_3 (P : Program) (Q : Exit → Slots → Mem → Prop) (s : Slots) (M : Mem) : wpC P c18_3 Q s M = w18_3 P Q M (sget s 1) (sget s 2) (sget s 3) (sget s 4) := by kernel_rfl
def o18_4 : List AOper := [⟨some 8, (.mov (.const (.int .i64 0))), false, none⟩,
  ⟨some 9, (.mov (.const (.bool false))), true, none⟩]
def c18_5 : ACode := (.region o18_4 [8, 9])
def w18_5 (_P : Program) (Q : Exit → Slots → Mem → Prop) (M : Mem) : Prop :=
  Q .normal [(8, (.int .i64 0)), (9, (.bool false))] M
theorem e18_5 (P : Program) (Q : Exit → Slots → Mem → Prop) (s : Slots) (M : Mem) : wpC P c18_5 Q s M = w18_5 P Q M := by kernel_rfl
def c18_6 : ACode := (.seq c18_5 .ret)
def o18_7 : List AOper := [⟨some 18, (.mov (.tmp 11)), false, none⟩,
  ⟨some 19, (.bin .neq .none (.tmp 18) (.const (.int .i64 0))), true, none⟩,
  ⟨some 20, (.mov (.tmp 19)), true, none⟩,
  ⟨some 21, (.mov (.tmp 1)), false, some (20, false)⟩,
  ⟨some 22, (.bin .lss .none (.tmp 21) (.const (.int .i64 0))), true, some (20, false)⟩,
  ⟨some 23, (.pick (.tmp 20) (.const (.bool true)) (.tmp 22)), true, none⟩,
  ⟨some 24, (.mov (.tmp 23)), true, none⟩,
  ⟨some 25, (.mov (.tmp 1)), false, some (24, false)⟩,
  ⟨some 26, (.fieldAddr 0 (.tmp 4)), false, some (24, false)⟩,
  ⟨some 27, (.load 1 false (.tmp 26)), false, some (24, false)⟩,
  ⟨some 28, (.lenSl (.tmp 27)), false, some (24, false)⟩,
  ⟨some 29, (.bin .geq .none (.tmp 25) (.tmp 28)), true, some (24, false)⟩,
  ⟨some 30, (.pick (.tmp 24) (.const (.bool true)) (.tmp 29)), true, none⟩]
def c18_8 : ACode := (.seq (.region o18_7 [1, 2, 3, 4, 30]) (.cond (.tmp 30) c18_6 .skip))
def w18_8 (P : Program) (Q : Exit → Slots → Mem → Prop) (M : Mem) (v1 : V) (v2 : V) (v3 : V) (v4 : V) (v11 : V) : Prop :=
  @OptBH (binV .neq .none v11 (.int .i64 0)) ⟨fun b19_2 =>
  @BIfH b19_2
  ⟨wpC P c18_6 Q [(1, v1), (2, v2), (3, v3), (4, v4), (30, (.bool true))] M⟩
  ⟨@OptBH (binV .lss .none v1 (.int .i64 0)) ⟨fun b22_8 =>
  @BIfH b22_8
  ⟨wpC P c18_6 Q [(1, v1), (2, v2), (3, v3), (4, v4), (30, (.bool true))] M⟩
  ⟨@OptVH (moveV 0 v4) ⟨fun t26_13 =>
  @OptVH (loadV 1 false t26_13 M) ⟨fun t27_14 =>
  @OptVH (lenV t27_14 M) ⟨fun t28_15 =>
  @OptBH (binV .geq .none v1 t28_15) ⟨fun b29_16 =>
  @BIfH b29_16
  ⟨wpC P c18_6 Q [(1, v1), (2, v2), (3, v3), (4, v4), (30, (.bool b29_16))] M⟩
  ⟨Q .normal [(1, v1), (2, v2), (3, v3), (4, v4), (30, (.bool b29_16))] M⟩⟩⟩⟩⟩⟩⟩⟩⟩
theorem e18_8 (P : Program) (Q : Exit → Slots → Mem → Prop) (s : Slots) (M : Mem) : wpC P c18_8 Q s M = w18_8 P Q M (sget s 1) (sget s 2) (sget s 3) (sget s 4) (sget s 11) := by kernel_rfl
def o18_9 : List AOper := [⟨some 31, (.fieldAddr 0 (.tmp 4)), false, none⟩,
  ⟨some 32, (.load 1 false (.tmp 31)), false, none⟩,
  ⟨some 33, (.mov (.tmp 1)), false, none⟩,
  ⟨some 34, (.indexSl 6 (.tmp 32) (.tmp 33)), false, none⟩,
  ⟨some 35, (.fieldAddr 1 (.tmp 34)), false, none⟩,
  ⟨some 36, (.load 1 false (.tmp 35)), false, none⟩,
  ⟨some 12, (.mov (.tmp 36)), false, none⟩]
def c18_10 : ACode := (.region o18_9 [2, 3, 4, 12])
def w18_10 (_P : Program) (Q : Exit → Slots → Mem → Prop) (M : Mem) (v1 : V) (v2 : V) (v3 : V) (v4 : V) : Prop :=
  @OptVH (moveV 0 v4) ⟨fun t31_1 =>
  @OptVH (loadV 1 false t31_1 M) ⟨fun t32_2 =>
  @OptVH (indexSlV 6 t32_2 v1 M) ⟨fun t34_4 =>
  @OptVH (moveV 1 t34_4) ⟨fun t35_5 =>
  @OptVH (loadV 1 false t35_5 M) ⟨fun t36_6 =>
  Q .normal [(2, v2), (3, v3), (4, v4), (12, t36_6)] M⟩⟩⟩⟩⟩
theorem e18_10 (P : Program) (Q : Exit → Slots → Mem → Prop) (s : Slots) (M : Mem) : wpC P c18_10 Q s M = w18_10 P Q M (sget s 1) (sget s 2) (sget s 3) (sget s 4) := by kernel_rfl
def o18_11 : List AOper := [⟨some 44, (.mov (.tmp 12)), false, none⟩,
  ⟨some 8, (.mov (.tmp 44)), false, none⟩,
  ⟨some 9, (.mov (.const (.bool true))), true, none⟩]
def c18_12 : ACode := (.region o18_11 [8, 9])
def w18_12 (_P : Program) (Q : Exit → Slots → Mem → Prop) (M : Mem) (v12 : V) : Prop :=
  Q .normal [(8, v12), (9, (.bool true))] M
theorem e18_12 (P : Program) (Q : Exit → Slots → Mem → Prop) (s : Slots) (M : Mem) : wpC P c18_12 Q s M = w18_12 P Q M (sget s 12) := by kernel_rfl
def c18_13 : ACode := (.seq c18_12 .ret)
def o18_14 : List AOper := [⟨some 37, (.mov (.tmp 2)), true, none⟩,
  ⟨some 38, (.mov (.tmp 37)), true, none⟩,
  ⟨some 39, (.mov (.tmp 3)), false, some (38, false)⟩,
  ⟨some 40, (.fieldAddr 2 (.tmp 4)), false, some (38, false)⟩,
  ⟨some 41, (.load 1 false (.tmp 40)), false, some (38, false)⟩,
  ⟨some 42, (.bin .gtr .none (.tmp 39) (.tmp 41)), true, some (38, false)⟩,
  ⟨some 43, (.pick (.tmp 38) (.const (.bool true)) (.tmp 42)), true, none⟩]
def c18_15 : ACode := (.seq (.region o18_14 [4, 12, 43]) (.cond (.tmp 43) c18_13 .skip))
def w18_15 (P : Program) (Q : Exit → Slots → Mem → Prop) (M : Mem) (v2 : V) (v3 : V) (v4 : V) (v12 : V) : Prop :=
  @OptBH (some v2) ⟨fun b37_1 =>
  @BIfH b37_1
  ⟨wpC P c18_13 Q [(4, v4), (12, v12), (43, (.bool true))] M⟩
  ⟨@OptVH (moveV 2 v4) ⟨fun t40_5 =>
  @OptVH (loadV 1 false t40_5 M) ⟨fun t41_6 =>
  @OptBH (binV .gtr .none v3 t41_6) ⟨fun b42_7 =>
  @BIfH b42_7
  ⟨wpC P c18_13 Q [(4, v4), (12, v12), (43, (.bool b42_7))] M⟩
  ⟨Q .normal [(4, v4), (12, v12), (43, (.bool b42_7))] M⟩⟩⟩⟩⟩⟩
theorem e18_15 (P : Program) (Q : Exit → Slots → Mem → Prop) (s : Slots) (M : Mem) : wpC P c18_15 Q s M = w18_15 P Q M (sget s 2) (sget s 3) (sget s 4) (sget s 12) := by kernel_rfl
def o18_16 : List AOper := [⟨some 45, (.mov (.tmp 12)), false, none⟩,
  ⟨some 46, (.fieldAddr 1 (.tmp 4)), false, none⟩,
  ⟨some 47, (.load 1 false (.tmp 46)), false, none⟩,
  ⟨some 48, (.bin .sub .none (.tmp 45) (.tmp 47)), false, none⟩,
  ⟨some 49, (.minmax true (.const (.int .i64 0)) (.tmp 48)), false, none⟩,
  ⟨some 8, (.mov (.tmp 49)), false, none⟩,
  ⟨some 9, (.mov (.const (.bool true))), true, none⟩]
def c18_17 : ACode := (.region o18_16 [8, 9])
def w18_17 (_P : Program) (Q : Exit → Slots → Mem → Prop) (M : Mem) (v4 : V) (v12 : V) : Prop :=
  @OptVH (moveV 1 v4) ⟨fun t46_2 =>
  @OptVH (loadV 1 false t46_2 M) ⟨fun t47_3 =>
  @OptVH (binV .sub .none v12 t47_3) ⟨fun t48_4 =>
  @OptVH (minmaxV true (.int .i64 0) t48_4) ⟨fun t49_5 =>
  Q .normal [(8, t49_5), (9, (.bool true))] M⟩⟩⟩⟩
theorem e18_17 (P : Program) (Q : Exit → Slots → Mem → Prop) (s : Slots) (M : Mem) : wpC P c18_17 Q s M = w18_17 P Q M (sget s 4) (sget s 12) := by kernel_rfl
def c18_18 : ACode := (.seq c18_17 .ret)
def c18_19 : ACode := (.seq c18_15 c18_18)
def c18_20 : ACode := (.seq c18_10 c18_19)
def c18_21 : ACode := (.seq c18_8 c18_20)
def c18_22 : ACode := (.seq c18_3 c18_21)
def c18_23 : ACode := (.seq c18_1 c18_22)
def fn_product_Price : AFn := ⟨50, [(.tmp 8), (.tmp 9)], c18_23⟩
theorem fn_product_Price_ok : resFn PR h_product_Price i_product_Price = some fn_product_Price := by kernel_rfl

def h_transitref21_Price : Hints := ⟨[(0, [1, 2, 3, 4]), (1, [1, 2, 3, 4, 11]), (2, [1, 2, 3, 4, 30]), (3, [8, 9]), (4, [2, 3, 4, 12]), (5, [4, 12, 43]), (6, [8, 9]), (7, [4, 12, 48]), (8, [8, 9]), (9, [8, 9])], [], []⟩
def o19_0 : List AOper := [⟨some 4, (.box 4 (.tmp 0)), false, none⟩,
  ⟨some 8, (.mov (.const (.int .i64 0))), false, none⟩,
  ⟨some 9, (.mov (.const (.bool false))), true, none⟩]
def c19_1 : ACode := (.region o19_0 [1, 2, 3, 4])
def w19_1 (_P : Program) (Q : Exit → Slots → Mem → Prop) (M : Mem) (v0 : V) (v1 : V) (v2 : V) (v3 : V) : Prop :=
  @OptMH (boxV 4 v0 M) ⟨fun t4_1 M1 =>
  Q .normal [(1, v1), (2, v2), (3, v3), (4, t4_1)] M1⟩
theorem e19_1 (P : Program) (Q : Exit → Slots → Mem → Prop) (s : Slots) (M : Mem) : wpC P c19_1 Q s M = w19_1 P Q M (sget s 0) (sget s 1) (sget s 2) (sget s 3) := by kernel_rfl
def o19_2 : List AOper := [⟨some 14, (.load 4 true (.tmp 4)), false, none⟩,
  ⟨some 15, (.call i_transitref21_Check [(.tmp 14)]), false, none⟩,
  ⟨some 13, (.mov (.tmp 15)), false, none⟩,
  ⟨some 16, (.extract (.tmp 13) 0), false, none⟩,
  ⟨some 17, (.extract (.tmp 13) 1), false, none⟩,
  ⟨some 10, (.mov (.tmp 16)), false, none⟩,
  ⟨some 11, (.mov (.tmp 17)), false, none⟩]
def c19_3 : ACode := (.region o19_2 [1, 2, 3, 4, 11])
def w19_3 (P : Program) (Q : Exit → Slots → Mem → Prop) (M : Mem) (v1 : V) (v2 : V) (v3 : V) (v4 : V) : Prop :=
  @OptVH (loadV 4 true v4 M) ⟨fun t14_1 =>
  @CallH P i_transitref21_Check [t14_1] M ⟨fun t15_2 M2 =>
  @OptVH (extractV t15_2 0) ⟨fun _t16_4 =>
  @OptVH (extractV t15_2 1) ⟨fun t17_5 =>
  Q .normal [(1, v1), (2, v2), (3, v3), (4, v4), (11, t17_5)] M2⟩⟩⟩⟩
theorem e19_3 (P : Program) (Q : Exit → Slots → Mem → Prop) (s : Slots) (M : Mem) : wpC P c19_3 Q s M = w19_3 P Q M (sget s 1) (sget s 2) (sget s 3) (sget s 4) := by kernel_rfl
def o19_4 : List AOper := [⟨some 8, (.mov (.const (.int .i64 0))), false, none⟩,
  ⟨some 9, (.mov (.const (.bool false))), true, none⟩]
def c19_5 : ACode := (.region o19_4 [8, 9])
def w19_5 (_P : Program) (Q : Exit → Slots → Mem → Prop) (M : Mem) : Prop :=
  Q .normal [(8, (.int .i64 0)), (9, (.bool false))] M
theorem e19_5 (P : Program) (Q : Exit → Slots → Mem → Prop) (s : Slots) (M : Mem) : wpC P c19_5 Q s M = w19_5 P Q M := by kernel_rfl
def c19_6 : ACode := (.seq c19_5 .ret)
def o19_7 : List AOper := [⟨some 18, (.mov (.tmp 11)), false, none⟩,
  ⟨some 19, (.bin .neq .none (.tmp 18) (.const (.int .i64 0))), true, none⟩,
  ⟨some 20, (.mov (.tmp 19)), true, none⟩,
  ⟨some 21, (.mov (.tmp 1)), false, some (20, false)⟩,
  ⟨some 22, (.bin .lss .none (.tmp 21) (.const (.int .i64 0))), true, some (20, false)⟩,
  ⟨some 23, (.pick (.tmp 20) (.const (.bool true)) (.tmp 22)), true, none⟩,
  ⟨some 24, (.mov (.tmp 23)), true, none⟩,
  ⟨some 25, (.mov (.tmp 1)), false, some (24, false)⟩,
  ⟨some 26, (.fieldAddr 0 (.tmp 4)), false, some (24, false)⟩,
  ⟨some 27, (.load 1 false (.tmp 26)), false, some (24, false)⟩,
  ⟨some 28, (.lenSl (.tmp 27)), false, some (24, false)⟩,
  ⟨some 29, (.bin .geq .none (.tmp 25) (.tmp 28)), true, some (24, false)⟩,
  ⟨some 30, (.pick (.tmp 24) (.const (.bool true)) (.tmp 29)), true, none⟩]
def c19_8 : ACode := (.seq (.region o19_7 [1, 2, 3, 4, 30]) (.cond (.tmp 30) c19_6 .skip))
def w19_8 (P : Program) (Q : Exit → Slots → Mem → Prop) (M : Mem) (v1 : V) (v2 : V) (v3 : V) (v4 : V) (v11 : V) : Prop :=
  @OptBH (binV .neq .none v11 (.int .i64 0)) ⟨fun b19_2 =>
  @BIfH b19_2
  ⟨wpC P c19_6 Q [(1, v1), (2, v2), (3, v3), (4, v4), (30, (.bool true))] M⟩
  ⟨@OptBH (binV .lss .none v1 (.int .i64 0)) ⟨fun b22_8 =>
  @BIfH b22_8
  ⟨wpC P c19_6 Q [(1, v1), (2, v2), (3, v3), (4, v4), (30, (.bool true))] M⟩
  ⟨@OptVH (moveV 0 v4) ⟨fun t26_13 =>
  @OptVH (loadV 1 false t26_13 M) ⟨fun t27_14 =>
  @OptVH (lenV t27_14 M) ⟨fun t28_15 =>
  @OptBH (binV .geq .none v1 t28_15) ⟨fun b29_16 =>
  @BIfH b29_16
  ⟨wpC P c19_6 Q [(1, v1), (2, v2), (3, v3), (4, v4), (30, (.bool b29_16))] M⟩
  ⟨Q .normal [(1, v1), (2, v2), (3, v3), (4, v4), (30, (.bool b29_16))] M⟩⟩⟩⟩⟩⟩⟩⟩⟩
theorem e19_8 (P : Program) (Q : Exit → Slots → Mem → Prop) (s : Slots) (M : Mem) : wpC P c19_8 Q s M = w19_8 P Q M (sget s 1) (sget s 2) (sget s 3) (sget s 4) (sget s 11) := by kernel_rfl
def c19_9 : ACode := (.seq c19_3 c19_8)
def o19_10 : List AOper := [⟨some 31, (.fieldAddr 0 (.tmp 4)), false, none⟩,
  ⟨some 32, (.load 1 false (.tmp 31)), false, none⟩,
  ⟨some 33, (.mov (.tmp 1)), false, none⟩,
  ⟨some 34, (.indexSl 6 (.tmp 32) (.tmp 33)), false, none⟩,
  ⟨some 35, (.fieldAddr 1 (.tmp 34)), false, none⟩,
  ⟨some 36, (.load 1 false (.tmp 35)), false, none⟩,
  ⟨some 12, (.mov (.tmp 36)), false, none⟩]
def c19_11 : ACode := (.region o19_10 [2, 3, 4, 12])
def w19_11 (_P : Program) (Q : Exit → Slots → Mem → Prop) (M : Mem) (v1 : V) (v2 : V) (v3 : V) (v4 : V) : Prop :=
  @OptVH (moveV 0 v4) ⟨fun t31_1 =>
  @OptVH (loadV 1 false t31_1 M) ⟨fun t32_2 =>
  @OptVH (indexSlV 6 t32_2 v1 M) ⟨fun t34_4 =>
  @OptVH (moveV 1 t34_4) ⟨fun t35_5 =>
  @OptVH (loadV 1 false t35_5 M) ⟨fun t36_6 =>
  Q .normal [(2, v2), (3, v3), (4, v4), (12, t36_6)] M⟩⟩⟩⟩⟩
theorem e19_11 (P : Program) (Q : Exit → Slots → Mem → Prop) (s : Slots) (M : Mem) : wpC P c19_11 Q s M = w19_11 P Q M (sget s 1) (sget s 2) (sget s 3) (sget s 4) := by kernel_rfl
def o19_12 : List AOper := [⟨some 44, (.mov (.tmp 12)), false, none⟩,
  ⟨some 8, (.mov (.tmp 44)), false, none⟩,
  ⟨some 9, (.mov (.const (.bool true))), true, none⟩]
def c19_13 : ACode := (.region o19_12 [8, 9])
def w19_13 (_P : Program) (Q : Exit → Slots → Mem → Prop) (M : Mem) (v12 : V) : Prop :=
  Q .normal [(8, v12), (9, (.bool true))] M
theorem e19_13 (P : Program) (Q : Exit → Slots → Mem → Prop) (s : Slots) (M : Mem) : wpC P c19_13 Q s M = w19_13 P Q M (sget s 12) := by kernel_rfl
def c19_14 : ACode := (.seq c19_13 .ret)
def o19_15 : List AOper := [⟨some 37, (.mov (.tmp 2)), true, none⟩,
  ⟨some 38, (.mov (.tmp 37)), true, none⟩,
  ⟨some 39, (.mov (.tmp 3)), false, some (38, false)⟩,
  ⟨some 40, (.fieldAddr 2 (.tmp 4)), false, some (38, false)⟩,
  ⟨some 41, (.load 1 false (.tmp 40)), false, some (38, false)⟩,
  ⟨some 42, (.bin .gtr .none (.tmp 39) (.tmp 41)), true, some (38, false)⟩,
  ⟨some 43, (.pick (.tmp 38) (.const (.bool true)) (.tmp 42)), true, none⟩]
def c19_16 : ACode := (.seq (.region o19_15 [4, 12, 43]) (.cond (.tmp 43) c19_14 .skip))
def w19_16 (P : Program) (Q : Exit → Slots → Mem → Prop) (M : Mem) (v2 : V) (v3 : V) (v4 : V) (v12 : V) : Prop :=
  @OptBH (some v2) ⟨fun b37_1 =>
  @BIfH b37_1
  ⟨wpC P c19_14 Q [(4, v4), (12, v12), (43, (.bool true))] M⟩
  ⟨@OptVH (moveV 2 v4) ⟨fun t40_5 =>
  @OptVH (loadV 1 false t40_5 M) ⟨fun t41_6 =>
  @OptBH (binV .gtr .none v3 t41_6) ⟨fun b42_7 =>
  @BIfH b42_7
  ⟨wpC P c19_14 Q [(4, v4), (12, v12), (43, (.bool b42_7))] M⟩
  ⟨Q .normal [(4, v4), (12, v12), (43, (.bool b42_7))] M⟩⟩⟩⟩⟩⟩
theorem e19_16 (P : Program) (Q : Exit → Slots → Mem → Prop) (s : Slots) (M : Mem) : wpC P c19_16 Q s M = w19_16 P Q M (sget s 2) (sget s 3) (sget s 4) (sget s 12) := by kernel_rfl
def o19_17 : List AOper := [⟨some 8, (.mov (.const (.int .i64 0))), false, none⟩,
  ⟨some 9, (.mov (.const (.bool true))), true, none⟩]
def c19_18 : ACode := (.region o19_17 [8, 9])
def w19_18 (_P : Program) (Q : Exit → Slots → Mem → Prop) (M : Mem) : Prop :=
  Q .normal [(8, (.int .i64 0)), (9, (.bool true))] M
theorem e19_18 (P : Program) (Q : Exit → Slots → Mem → Prop) (s : Slots) (M : Mem) : wpC P c19_18 Q s M = w19_18 P Q M := by kernel_rfl
def c19_19 : ACode := (.seq c19_18 .ret)
def o19_20 : List AOper := [⟨some 45, (.mov (.tmp 12)), false, none⟩,
  ⟨some 46, (.fieldAddr 1 (.tmp 4)), false, none⟩,
  ⟨some 47, (.load 1 false (.tmp 46)), false, none⟩,
  ⟨some 48, (.bin .lss .none (.tmp 45) (.tmp 47)), true, none⟩]
def c19_21 : ACode := (.seq (.region o19_20 [4, 12, 48]) (.cond (.tmp 48) c19_19 .skip))
def w19_21 (P : Program) (Q : Exit → Slots → Mem → Prop) (M : Mem) (v4 : V) (v12 : V) : Prop :=
  @OptVH (moveV 1 v4) ⟨fun t46_2 =>
  @OptVH (loadV 1 false t46_2 M) ⟨fun t47_3 =>
  @OptBH (binV .lss .none v12 t47_3) ⟨fun b48_4 =>
  @BIfH b48_4
  ⟨wpC P c19_19 Q [(4, v4), (12, v12), (48, (.bool b48_4))] M⟩
  ⟨Q .normal [(4, v4), (12, v12), (48, (.bool b48_4))] M⟩⟩⟩⟩
theorem e19_21 (P : Program) (Q : Exit → Slots → Mem → Prop) (s : Slots) (M : Mem) : wpC P c19_21 Q s M = w19_21 P Q M (sget s 4) (sget s 12) := by kernel_rfl
def o19_22 : List AOper := [⟨some 49, (.mov (.tmp 12)), false, none⟩,
  ⟨some 50, (.fieldAddr 1 (.tmp 4)), false, none⟩,
  ⟨some 51, (.load 1 false (.tmp 50)), false, none⟩,
  ⟨some 52, (.bin .sub .none (.tmp 49) (.tmp 51)), false, none⟩,
  ⟨some 8, (.mov (.tmp 52)), false, none⟩,
  ⟨some 9, (.mov (.const (.bool true))), true, none⟩]
def c19_23 : ACode := (.region o19_22 [8, 9])
def w19_23 (_P : Program) (Q : Exit → Slots → Mem → Prop) (M : Mem) (v4 : V) (v12 : V) : Prop :=
  @OptVH (moveV 1 v4) ⟨fun t50_2 =>
  @OptVH (loadV 1 false t50_2 M) ⟨fun t51_3 =>
  @OptVH (binV .sub .none v12 t51_3) ⟨fun t52_4 =>
  Q .normal [(8, t52_4), (9, (.bool true))] M⟩⟩⟩
theorem e19_23 (P : Program) (Q : Exit → Slots → Mem → Prop) (s : Slots) (M : Mem) : wpC P c19_23 Q s M = w19_23 P Q M (sget s 4) (sget s 12) := by kernel_rfl
def c19_24 : ACode := (.seq c19_23 .ret)
def c19_25 : ACode := (.seq c19_21 c19_24)
def c19_26 : ACode := (.seq c19_16 c19_25)
def c19_27 : ACode := (.seq c19_11 c19_26)
def c19_28 : ACode := (.seq c19_9 c19_27)
def c19_29 : ACode := (.seq c19_1 c19_28)
def fn_transitref21_Price : AFn := ⟨53, [(.tmp 8), (.tmp 9)], c19_29⟩
theorem fn_transitref21_Price_ok : resFn PR h_transitref21_Price i_transitref21_Price = some fn_transitref21_Price := by kernel_rfl

def h_product_Cheapest : Hints := ⟨[(0, [1, 2]), (1, [1, 2, 8]), (2, [1, 2, 21]), (3, [4, 5, 6]), (4, [1, 2, 9, 10, 11]), (5, [1, 2, 9, 10, 11, 12]), (6, [9, 10, 11, 12, 25, 26, 27]), (7, [9, 10, 11, 12, 25, 26, 27, 28]), (8, [9, 10, 11, 12, 14, 25, 26, 27]), (9, [9, 10, 11, 12, 25, 26, 27]), (10, [9, 10, 11, 12, 25, 26, 27]), (11, [4, 5, 6])], [(7, [9, 10, 11, 12, 25, 26, 27])], []⟩
def o20_0 : List AOper := [⟨some 2, (.box 4 (.tmp 0)), false, none⟩,
  ⟨some 4, (.mov (.const (.int .i64 0))), false, none⟩,
  ⟨some 5, (.mov (.const (.int .i64 0))), false, none⟩,
  ⟨some 6, (.mov (.const (.bool false))), true, none⟩]
def c20_1 : ACode := (.region o20_0 [1, 2])
def w20_1 (_P : Program) (Q : Exit → Slots → Mem → Prop) (M : Mem) (v0 : V) (v1 : V) : Prop :=
  @OptMH (boxV 4 v0 M) ⟨fun t2_1 M1 =>
  Q .normal [(1, v1), (2, t2_1)] M1⟩
theorem e20_1 (P : Program) (Q : Exit → Slots → Mem → Prop) (s : Slots) (M : Mem) : wpC P c20_1 Q s M = w20_1 P Q M (sget s 0) (sget s 1) := by kernel_rfl
def o20_2 : List AOper := [⟨some 16, (.load 4 true (.tmp 2)), false, none⟩,
  ⟨some 17, (.call i_product_Check [(.tmp 16)]), false, none⟩,
  ⟨some 15, (.mov (.tmp 17)), false, none⟩,
  ⟨some 18, (.extract (.tmp 15) 0), false, none⟩,
  ⟨some 19, (.extract (.tmp 15) 1), false, none⟩,
  ⟨some 7, (.mov (.tmp 18)), false, none⟩,
  ⟨some 8, (.mov (.tmp 19)), false, none⟩]
def c20_3 : ACode := (.region o20_2 [1, 2, 8])
def w20_3 (P : Program) (Q : Exit → Slots → Mem → Prop) (M : Mem) (v1 : V) (v2 : V) : Prop :=
  @OptVH (loadV 4 true v2 M) ⟨fun t16_1 =>
  @CallH P i_product_Check [t16_1] M ⟨fun t17_2 M2 =>
  @OptVH (extractV t17_2 0) ⟨fun _t18_4 =>
  @OptVH (extractV t17_2 1) ⟨fun t19_5 =>
  Q .normal [(1, v1), (2, v2), (8, t19_5)] M2⟩⟩⟩⟩
theorem e20_3 (P : Program) (Q : Exit → Slots → Mem → Prop) (s : Slots) (M : Mem) : wpC P c20_3 Q s M = w20_3 P Q M (sget s 1) (sget s 2) := by kernel_rfl
def o20_4 : List AOper := [⟨some 4, (.mov (.const (.int .i64 0))), false, none⟩,
  ⟨some 5, (.mov (.const (.int .i64 0))), false, none⟩,
  ⟨some 6, (.mov (.const (.bool false))), true, none⟩]
def c20_5 : ACode := (.region o20_4 [4, 5, 6])
def w20_5 (_P : Program) (Q : Exit → Slots → Mem → Prop) (M : Mem) : Prop :=
  Q .normal [(4, (.int .i64 0)), (5, (.int .i64 0)), (6, (.bool false))] M
theorem e20_5 (P : Program) (Q : Exit → Slots → Mem → Prop) (s : Slots) (M : Mem) : wpC P c20_5 Q s M = w20_5 P Q M := by kernel_rfl
def c20_6 : ACode := (.seq c20_5 .ret)
def o20_7 : List AOper := [⟨some 20, (.mov (.tmp 8)), false, none⟩,
  ⟨some 21, (.bin .neq .none (.tmp 20) (.const (.int .i64 0))), true, none⟩]
def c20_8 : ACode := (.seq (.region o20_7 [1, 2, 21]) (.cond (.tmp 21) c20_6 .skip))
def w20_8 (P : Program) (Q : Exit → Slots → Mem → Prop) (M : Mem) (v1 : V) (v2 : V) (v8 : V) : Prop :=
  @OptBH (binV .neq .none v8 (.int .i64 0)) ⟨fun b21_2 =>
  @BIfH b21_2
  ⟨wpC P c20_6 Q [(1, v1), (2, v2), (21, (.bool b21_2))] M⟩
  ⟨Q .normal [(1, v1), (2, v2), (21, (.bool b21_2))] M⟩⟩
theorem e20_8 (P : Program) (Q : Exit → Slots → Mem → Prop) (s : Slots) (M : Mem) : wpC P c20_8 Q s M = w20_8 P Q M (sget s 1) (sget s 2) (sget s 8) := by kernel_rfl
def o20_9 : List AOper := [⟨some 9, (.alloc [(.int .i64 0)]), false, none⟩,
  ⟨some 10, (.alloc [(.int .i64 0)]), false, none⟩,
  ⟨some 11, (.alloc [(.bool false)]), false, none⟩,
  ⟨none, (.store 1 (.tmp 9) (.const (.int .i64 0))), false, none⟩,
  ⟨none, (.store 1 (.tmp 10) (.const (.int .i64 0))), false, none⟩,
  ⟨none, (.store 1 (.tmp 11) (.const (.bool false))), false, none⟩]
def c20_10 : ACode := (.region o20_9 [1, 2, 9, 10, 11])
def w20_10 (_P : Program) (Q : Exit → Slots → Mem → Prop) (M : Mem) (v1 : V) (v2 : V) : Prop :=
  @OptMH (allocV [(.int .i64 0)] M) ⟨fun t9_1 M1 =>
  @OptMH (allocV [(.int .i64 0)] M1) ⟨fun t10_2 M2 =>
  @OptMH (allocV [(.bool false)] M2) ⟨fun t11_3 M3 =>
  @OptMH (storeVM 1 t9_1 (.int .i64 0) M3) ⟨fun _tx_4 M4 =>
  @OptMH (storeVM 1 t10_2 (.int .i64 0) M4) ⟨fun _tx_5 M5 =>
  @OptMH (storeVM 1 t11_3 (.bool false) M5) ⟨fun _tx_6 M6 =>
  Q .normal [(1, v1), (2, v2), (9, t9_1), (10, t10_2), (11, t11_3)] M6⟩⟩⟩⟩⟩⟩
theorem e20_10 (P : Program) (Q : Exit → Slots → Mem → Prop) (s : Slots) (M : Mem) : wpC P c20_10 Q s M = w20_10 P Q M (sget s 1) (sget s 2) := by kernel_rfl
def o20_11 : List AOper := [⟨some 22, (.mkfn i_product_Cheapest_1 [(.tmp 2), (.tmp 11), (.tmp 10), (.tmp 9)]), false, none⟩,
  ⟨some 12, (.mov (.tmp 22)), false, none⟩]
def c20_12 : ACode := (.region o20_11 [1, 2, 9, 10, 11, 12])
def w20_12 (_P : Program) (Q : Exit → Slots → Mem → Prop) (M : Mem) (v1 : V) (v2 : V) (v9 : V) (v10 : V) (v11 : V) : Prop :=
  Q .normal [(1, v1), (2, v2), (9, v9), (10, v10), (11, v11), (12, (mkfnV i_product_Cheapest_1 [v2, v11, v10, v9]))] M
theorem e20_12 (P : Program) (Q : Exit → Slots → Mem → Prop) (s : Slots) (M : Mem) : wpC P c20_12 Q s M = w20_12 P Q M (sget s 1) (sget s 2) (sget s 9) (sget s 10) (sget s 11) := by kernel_rfl
def o20_13 : List AOper := [⟨some 23, (.load 4 true (.tmp 2)), false, none⟩,
  ⟨some 24, (.mov (.tmp 1)), false, none⟩,
  ⟨some 25, (.call i_product_Options [(.tmp 23), (.tmp 24)]), false, none⟩,
  ⟨some 26, (.lenSl (.tmp 25)), false, none⟩,
  ⟨some 27, (.mov (.const (.int .i64 0))), false, none⟩]
def c20_14 : ACode := (.region o20_13 [9, 10, 11, 12, 25, 26, 27])
def w20_14 (P : Program) (Q : Exit → Slots → Mem → Prop) (M : Mem) (v1 : V) (v2 : V) (v9 : V) (v10 : V) (v11 : V) (v12 : V) : Prop :=
  @OptVH (loadV 4 true v2 M) ⟨fun t23_1 =>
  @CallH P i_product_Options [t23_1, v1] M ⟨fun t25_3 M3 =>
  @OptVH (lenV t25_3 M3) ⟨fun t26_4 =>
  Q .normal [(9, v9), (10, v10), (11, v11), (12, v12), (25, t25_3), (26, t26_4), (27, (.int .i64 0))] M3⟩⟩⟩
theorem e20_14 (P : Program) (Q : Exit → Slots → Mem → Prop) (s : Slots) (M : Mem) : wpC P c20_14 Q s M = w20_14 P Q M (sget s 1) (sget s 2) (sget s 9) (sget s 10) (sget s 11) (sget s 12) := by kernel_rfl
def o20_15 : List AOper := [⟨some 28, (.bin .lss .none (.tmp 27) (.tmp 26)), false, none⟩]
def c20_16 : ACode := (.region o20_15 [9, 10, 11, 12, 25, 26, 27, 28])
def w20_16 (_P : Program) (Q : Exit → Slots → Mem → Prop) (M : Mem) (v9 : V) (v10 : V) (v11 : V) (v12 : V) (v25 : V) (v26 : V) (v27 : V) : Prop :=
  @OptVH (binV .lss .none v27 v26) ⟨fun t28_1 =>
  Q .normal [(9, v9), (10, v10), (11, v11), (12, v12), (25, v25), (26, v26), (27, v27), (28, t28_1)] M⟩
theorem e20_16 (P : Program) (Q : Exit → Slots → Mem → Prop) (s : Slots) (M : Mem) : wpC P c20_16 Q s M = w20_16 P Q M (sget s 9) (sget s 10) (sget s 11) (sget s 12) (sget s 25) (sget s 26) (sget s 27) := by kernel_rfl
def c20_17 : ACode := (.cond (.tmp 28) .skip (.exit 0))
def o20_18 : List AOper := [⟨some 29, (.indexSl 1 (.tmp 25) (.tmp 27)), false, none⟩,
  ⟨some 30, (.load 1 false (.tmp 29)), false, none⟩,
  ⟨some 14, (.mov (.tmp 30)), false, none⟩]
def c20_19 : ACode := (.region o20_18 [9, 10, 11, 12, 14, 25, 26, 27])
def w20_19 (_P : Program) (Q : Exit → Slots → Mem → Prop) (M : Mem) (v9 : V) (v10 : V) (v11 : V) (v12 : V) (v25 : V) (v26 : V) (v27 : V) : Prop :=
  @OptVH (indexSlV 1 v25 v27 M) ⟨fun t29_1 =>
  @OptVH (loadV 1 false t29_1 M) ⟨fun t30_2 =>
  Q .normal [(9, v9), (10, v10), (11, v11), (12, v12), (14, t30_2), (25, v25), (26, v26), (27, v27)] M⟩⟩
theorem e20_19 (P : Program) (Q : Exit → Slots → Mem → Prop) (s : Slots) (M : Mem) : wpC P c20_19 Q s M = w20_19 P Q M (sget s 9) (sget s 10) (sget s 11) (sget s 12) (sget s 25) (sget s 26) (sget s 27) := by kernel_rfl
def o20_20 : List AOper := [⟨some 31, (.mov (.tmp 12)), false, none⟩,
  ⟨some 32, (.mov (.tmp 14)), false, none⟩,
  ⟨some 33, (.callv (.tmp 31) [(.tmp 32)]), false, none⟩]
def c20_21 : ACode := (.region o20_20 [9, 10, 11, 12, 25, 26, 27])
def w20_21 (P : Program) (Q : Exit → Slots → Mem → Prop) (M : Mem) (v9 : V) (v10 : V) (v11 : V) (v12 : V) (v14 : V) (v25 : V) (v26 : V) (v27 : V) : Prop :=
  @CallV P false v12 [v14] M ⟨fun _t33_3 M3 =>
  Q .normal [(9, v9), (10, v10), (11, v11), (12, v12), (25, v25), (26, v26), (27, v27)] M3⟩
theorem e20_21 (P : Program) (Q : Exit → Slots → Mem → Prop) (s : Slots) (M : Mem) : wpC P c20_21 Q s M = w20_21 P Q M (sget s 9) (sget s 10) (sget s 11) (sget s 12) (sget s 14) (sget s 25) (sget s 26) (sget s 27) := by kernel_rfl
def c20_22 : ACode := (.seq c20_19 c20_21)
def c20_23 : ACode := (.block 1 c20_22)
def o20_24 : List AOper := [⟨some 34, (.bin .add .none (.tmp 27) (.const (.int .i64 1))), false, none⟩,
  ⟨some 27, (.mov (.tmp 34)), false, none⟩]
def c20_25 : ACode := (.region o20_24 [9, 10, 11, 12, 25, 26, 27])
def w20_25 (_P : Program) (Q : Exit → Slots → Mem → Prop) (M : Mem) (v9 : V) (v10 : V) (v11 : V) (v12 : V) (v25 : V) (v26 : V) (v27 : V) : Prop :=
  @OptVH (binV .add .none v27 (.int .i64 1)) ⟨fun t34_1 =>
  Q .normal [(9, v9), (10, v10), (11, v11), (12, v12), (25, v25), (26, v26), (27, t34_1)] M⟩
theorem e20_25 (P : Program) (Q : Exit → Slots → Mem → Prop) (s : Slots) (M : Mem) : wpC P c20_25 Q s M = w20_25 P Q M (sget s 9) (sget s 10) (sget s 11) (sget s 12) (sget s 25) (sget s 26) (sget s 27) := by kernel_rfl
def c20_26 : ACode := (.seq c20_23 c20_25)
def c20_27 : ACode := (.seq c20_17 c20_26)
def c20_28 : ACode := (.seq c20_16 c20_27)
def c20_29 : ACode := (.loop [9, 10, 11, 12, 25, 26, 27] c20_28)
def c20_30 : ACode := (.block 0 c20_29)
def c20_31 : ACode := (.seq c20_14 c20_30)
def o20_32 : List AOper := [⟨some 35, (.load 1 false (.tmp 9)), false, none⟩,
  ⟨some 36, (.load 1 false (.tmp 10)), false, none⟩,
  ⟨some 37, (.load 1 false (.tmp 11)), true, none⟩,
  ⟨some 4, (.mov (.tmp 35)), false, none⟩,
  ⟨some 5, (.mov (.tmp 36)), false, none⟩,
  ⟨some 6, (.mov (.tmp 37)), true, none⟩]
def c20_33 : ACode := (.mixed o20_32 [true, true, true, true, true, true] [4, 5, 6])
def w20_33 (_P : Program) (Q : Exit → Slots → Mem → Prop) (M : Mem) (v9 : V) (v10 : V) (v11 : V) : Prop :=
  @OptVH (loadV 1 false v9 M) ⟨fun t35_1 =>
  @OptVH (loadV 1 false v10 M) ⟨fun t36_2 =>
  @OptBH (loadV 1 false v11 M) ⟨fun b37_3 =>
  Q .normal [(4, t35_1), (5, t36_2), (6, (.bool b37_3))] M⟩⟩⟩
theorem e20_33 (P : Program) (Q : Exit → Slots → Mem → Prop) (s : Slots) (M : Mem) : wpC P c20_33 Q s M = w20_33 P Q M (sget s 9) (sget s 10) (sget s 11) := by kernel_rfl
def c20_34 : ACode := (.seq c20_33 .ret)
def c20_35 : ACode := (.seq c20_31 c20_34)
def c20_36 : ACode := (.seq c20_12 c20_35)
def c20_37 : ACode := (.seq c20_10 c20_36)
def c20_38 : ACode := (.seq c20_8 c20_37)
def c20_39 : ACode := (.seq c20_3 c20_38)
def c20_40 : ACode := (.seq c20_1 c20_39)
def fn_product_Cheapest : AFn := ⟨38, [(.tmp 4), (.tmp 5), (.tmp 6)], c20_40⟩
theorem fn_product_Cheapest_ok : resFn PR h_product_Cheapest i_product_Cheapest = some fn_product_Cheapest := by kernel_rfl

def h_transitref21_Cheapest : Hints := ⟨[(0, [1, 2]), (1, [2, 7]), (2, [2, 7, 9]), (3, [2, 7, 26]), (4, [4, 5, 6]), (5, [2, 7, 10]), (6, [2, 7, 10, 11]), (7, [2, 7, 10, 11, 33]), (8, [2, 7, 10, 11]), (9, [2, 7, 10, 11, 51]), (10, [2, 7, 10, 11]), (11, [4, 5, 6])], [(7, [2, 7, 10, 11])], []⟩
def o21_0 : List AOper := [⟨some 2, (.box 4 (.tmp 0)), false, none⟩,
  ⟨some 4, (.mov (.const (.int .i64 0))), false, none⟩,
  ⟨some 5, (.mov (.const (.int .i64 0))), false, none⟩,
  ⟨some 6, (.mov (.const (.bool false))), true, none⟩]
def c21_1 : ACode := (.region o21_0 [1, 2])
def w21_1 (_P : Program) (Q : Exit → Slots → Mem → Prop) (M : Mem) (v0 : V) (v1 : V) : Prop :=
  @OptMH (boxV 4 v0 M) ⟨fun t2_1 M1 =>
  Q .normal [(1, v1), (2, t2_1)] M1⟩
theorem e21_1 (P : Program) (Q : Exit → Slots → Mem → Prop) (s : Slots) (M : Mem) : wpC P c21_1 Q s M = w21_1 P Q M (sget s 0) (sget s 1) := by kernel_rfl
def o21_2 : List AOper := [⟨some 12, (.load 4 true (.tmp 2)), false, none⟩,
  ⟨some 13, (.mov (.tmp 1)), false, none⟩,
  ⟨some 14, (.call i_transitref21_Options [(.tmp 12), (.tmp 13)]), false, none⟩,
  ⟨some 7, (.mov (.tmp 14)), false, none⟩]
def c21_3 : ACode := (.region o21_2 [2, 7])
def w21_3 (P : Program) (Q : Exit → Slots → Mem → Prop) (M : Mem) (v1 : V) (v2 : V) : Prop :=
  @OptVH (loadV 4 true v2 M) ⟨fun t12_1 =>
  @CallH P i_transitref21_Options [t12_1, v1] M ⟨fun t14_3 M3 =>
  Q .normal [(2, v2), (7, t14_3)] M3⟩⟩
theorem e21_3 (P : Program) (Q : Exit → Slots → Mem → Prop) (s : Slots) (M : Mem) : wpC P c21_3 Q s M = w21_3 P Q M (sget s 1) (sget s 2) := by kernel_rfl
def o21_4 : List AOper := [⟨some 16, (.load 4 true (.tmp 2)), false, none⟩,
  ⟨some 17, (.call i_transitref21_Check [(.tmp 16)]), false, none⟩,
  ⟨some 15, (.mov (.tmp 17)), false, none⟩,
  ⟨some 18, (.extract (.tmp 15) 0), false, none⟩,
  ⟨some 19, (.extract (.tmp 15) 1), false, none⟩,
  ⟨some 8, (.mov (.tmp 18)), false, none⟩,
  ⟨some 9, (.mov (.tmp 19)), false, none⟩]
def c21_5 : ACode := (.region o21_4 [2, 7, 9])
def w21_5 (P : Program) (Q : Exit → Slots → Mem → Prop) (M : Mem) (v2 : V) (v7 : V) : Prop :=
  @OptVH (loadV 4 true v2 M) ⟨fun t16_1 =>
  @CallH P i_transitref21_Check [t16_1] M ⟨fun t17_2 M2 =>
  @OptVH (extractV t17_2 0) ⟨fun _t18_4 =>
  @OptVH (extractV t17_2 1) ⟨fun t19_5 =>
  Q .normal [(2, v2), (7, v7), (9, t19_5)] M2⟩⟩⟩⟩
theorem e21_5 (P : Program) (Q : Exit → Slots → Mem → Prop) (s : Slots) (M : Mem) : wpC P c21_5 Q s M = w21_5 P Q M (sget s 2) (sget s 7) := by kernel_rfl
def o21_6 : List AOper := [⟨some 4, (.mov (.const (.int .i64 0))), false, none⟩,
  ⟨some 5, (.mov (.const (.int .i64 0))), false, none⟩,
  ⟨some 6, (.mov (.const (.bool false))), true, none⟩]
def c21_7 : ACode := (.region o21_6 [4, 5, 6])
def w21_7 (_P : Program) (Q : Exit → Slots → Mem → Prop) (M : Mem) : Prop :=
  Q .normal [(4, (.int .i64 0)), (5, (.int .i64 0)), (6, (.bool false))] M
theorem e21_7 (P : Program) (Q : Exit → Slots → Mem → Prop) (s : Slots) (M : Mem) : wpC P c21_7 Q s M = w21_7 P Q M := by kernel_rfl
def c21_8 : ACode := (.seq c21_7 .ret)
def o21_9 : List AOper := [⟨some 20, (.mov (.tmp 9)), false, none⟩,
  ⟨some 21, (.bin .neq .none (.tmp 20) (.const (.int .i64 0))), true, none⟩,
  ⟨some 22, (.mov (.tmp 21)), true, none⟩,
  ⟨some 23, (.mov (.tmp 7)), false, some (22, false)⟩,
  ⟨some 24, (.lenSl (.tmp 23)), false, some (22, false)⟩,
  ⟨some 25, (.bin .eql .none (.tmp 24) (.const (.int .i64 0))), true, some (22, false)⟩,
  ⟨some 26, (.pick (.tmp 22) (.const (.bool true)) (.tmp 25)), true, none⟩]
def c21_10 : ACode := (.seq (.region o21_9 [2, 7, 26]) (.cond (.tmp 26) c21_8 .skip))
def w21_10 (P : Program) (Q : Exit → Slots → Mem → Prop) (M : Mem) (v2 : V) (v7 : V) (v9 : V) : Prop :=
  @OptBH (binV .neq .none v9 (.int .i64 0)) ⟨fun b21_2 =>
  @BIfH b21_2
  ⟨wpC P c21_8 Q [(2, v2), (7, v7), (26, (.bool true))] M⟩
  ⟨@OptVH (lenV v7 M) ⟨fun t24_6 =>
  @OptBH (binV .eql .none t24_6 (.int .i64 0)) ⟨fun b25_7 =>
  @BIfH b25_7
  ⟨wpC P c21_8 Q [(2, v2), (7, v7), (26, (.bool b25_7))] M⟩
  ⟨Q .normal [(2, v2), (7, v7), (26, (.bool b25_7))] M⟩⟩⟩⟩⟩
theorem e21_10 (P : Program) (Q : Exit → Slots → Mem → Prop) (s : Slots) (M : Mem) : wpC P c21_10 Q s M = w21_10 P Q M (sget s 2) (sget s 7) (sget s 9) := by kernel_rfl
def c21_11 : ACode := (.seq c21_5 c21_10)
def o21_12 : List AOper := [⟨some 27, (.mov (.tmp 7)), false, none⟩,
  ⟨some 28, (.indexSl 1 (.tmp 27) (.const (.int .i64 0))), false, none⟩,
  ⟨some 29, (.load 1 false (.tmp 28)), false, none⟩,
  ⟨some 10, (.mov (.tmp 29)), false, none⟩]
def c21_13 : ACode := (.region o21_12 [2, 7, 10])
def w21_13 (_P : Program) (Q : Exit → Slots → Mem → Prop) (M : Mem) (v2 : V) (v7 : V) : Prop :=
  @OptVH (indexSlV 1 v7 (.int .i64 0) M) ⟨fun t28_2 =>
  @OptVH (loadV 1 false t28_2 M) ⟨fun t29_3 =>
  Q .normal [(2, v2), (7, v7), (10, t29_3)] M⟩⟩
theorem e21_13 (P : Program) (Q : Exit → Slots → Mem → Prop) (s : Slots) (M : Mem) : wpC P c21_13 Q s M = w21_13 P Q M (sget s 2) (sget s 7) := by kernel_rfl
def o21_14 : List AOper := [⟨some 11, (.mov (.const (.int .i64 0))), false, none⟩]
def c21_15 : ACode := (.region o21_14 [2, 7, 10, 11])
def w21_15 (_P : Program) (Q : Exit → Slots → Mem → Prop) (M : Mem) (v2 : V) (v7 : V) (v10 : V) : Prop :=
  Q .normal [(2, v2), (7, v7), (10, v10), (11, (.int .i64 0))] M
theorem e21_15 (P : Program) (Q : Exit → Slots → Mem → Prop) (s : Slots) (M : Mem) : wpC P c21_15 Q s M = w21_15 P Q M (sget s 2) (sget s 7) (sget s 10) := by kernel_rfl
def o21_16 : List AOper := [⟨some 30, (.mov (.tmp 11)), false, none⟩,
  ⟨some 31, (.mov (.tmp 7)), false, none⟩,
  ⟨some 32, (.lenSl (.tmp 31)), false, none⟩,
  ⟨some 33, (.bin .lss .none (.tmp 30) (.tmp 32)), true, none⟩]
def c21_17 : ACode := (.seq (.region o21_16 [2, 7, 10, 11, 33]) (.cond (.tmp 33) .skip (.exit 0)))
def w21_17 (_P : Program) (Q : Exit → Slots → Mem → Prop) (M : Mem) (v2 : V) (v7 : V) (v10 : V) (v11 : V) : Prop :=
  @OptVH (lenV v7 M) ⟨fun t32_3 =>
  @OptBH (binV .lss .none v11 t32_3) ⟨fun b33_4 =>
  @BIfH b33_4
  ⟨Q .normal [(2, v2), (7, v7), (10, v10), (11, v11), (33, (.bool b33_4))] M⟩
  ⟨Q (.exit 0) [(2, v2), (7, v7), (10, v10), (11, v11), (33, (.bool b33_4))] M⟩⟩⟩
theorem e21_17 (P : Program) (Q : Exit → Slots → Mem → Prop) (s : Slots) (M : Mem) : wpC P c21_17 Q s M = w21_17 P Q M (sget s 2) (sget s 7) (sget s 10) (sget s 11) := by kernel_rfl
def o21_18 : List AOper := [⟨some 52, (.mov (.tmp 7)), false, none⟩,
  ⟨some 53, (.mov (.tmp 11)), false, none⟩,
  ⟨some 54, (.indexSl 1 (.tmp 52) (.tmp 53)), false, none⟩,
  ⟨some 55, (.load 1 false (.tmp 54)), false, none⟩,
  ⟨some 10, (.mov (.tmp 55)), false, none⟩]
def c21_19 : ACode := (.region o21_18 [2, 7, 10, 11])
def w21_19 (_P : Program) (Q : Exit → Slots → Mem → Prop) (M : Mem) (v2 : V) (v7 : V) (v11 : V) : Prop :=
  @OptVH (indexSlV 1 v7 v11 M) ⟨fun t54_3 =>
  @OptVH (loadV 1 false t54_3 M) ⟨fun t55_4 =>
  Q .normal [(2, v2), (7, v7), (10, t55_4), (11, v11)] M⟩⟩
theorem e21_19 (P : Program) (Q : Exit → Slots → Mem → Prop) (s : Slots) (M : Mem) : wpC P c21_19 Q s M = w21_19 P Q M (sget s 2) (sget s 7) (sget s 11) := by kernel_rfl
def o21_20 : List AOper := [⟨some 36, (.fieldAddr 0 (.tmp 2)), false, none⟩,
  ⟨some 37, (.load 1 false (.tmp 36)), false, none⟩,
  ⟨some 38, (.mov (.tmp 7)), false, none⟩,
  ⟨some 39, (.mov (.tmp 11)), false, none⟩,
  ⟨some 40, (.indexSl 1 (.tmp 38) (.tmp 39)), false, none⟩,
  ⟨some 41, (.load 1 false (.tmp 40)), false, none⟩,
  ⟨some 42, (.indexSl 6 (.tmp 37) (.tmp 41)), false, none⟩,
  ⟨some 43, (.fieldAddr 1 (.tmp 42)), false, none⟩,
  ⟨some 44, (.load 1 false (.tmp 43)), false, none⟩,
  ⟨some 45, (.fieldAddr 0 (.tmp 2)), false, none⟩,
  ⟨some 46, (.load 1 false (.tmp 45)), false, none⟩,
  ⟨some 47, (.mov (.tmp 10)), false, none⟩,
  ⟨some 48, (.indexSl 6 (.tmp 46) (.tmp 47)), false, none⟩,
  ⟨some 49, (.fieldAddr 1 (.tmp 48)), false, none⟩,
  ⟨some 50, (.load 1 false (.tmp 49)), false, none⟩,
  ⟨some 51, (.bin .lss .none (.tmp 44) (.tmp 50)), true, none⟩]
def c21_21 : ACode := (.seq (.mixed o21_20 [true, true, true, true, true, true, true, true, true, true, true, true, true, true, true, true] [2, 7, 10, 11, 51]) (.cond (.tmp 51) c21_19 .skip))
def w21_21 (P : Program) (Q : Exit → Slots → Mem → Prop) (M : Mem) (v2 : V) (v7 : V) (v10 : V) (v11 : V) : Prop :=
  @OptVH (moveV 0 v2) ⟨fun t36_1 =>
  @OptVH (loadV 1 false t36_1 M) ⟨fun t37_2 =>
  @OptVH (indexSlV 1 v7 v11 M) ⟨fun t40_5 =>
  @OptVH (loadV 1 false t40_5 M) ⟨fun t41_6 =>
  @OptVH (indexSlV 6 t37_2 t41_6 M) ⟨fun t42_7 =>
  @OptVH (moveV 1 t42_7) ⟨fun t43_8 =>
  @OptVH (loadV 1 false t43_8 M) ⟨fun t44_9 =>
  @OptVH (moveV 0 v2) ⟨fun t45_10 =>
  @OptVH (loadV 1 false t45_10 M) ⟨fun t46_11 =>
  @OptVH (indexSlV 6 t46_11 v10 M) ⟨fun t48_13 =>
  @OptVH (moveV 1 t48_13) ⟨fun t49_14 =>
  @OptVH (loadV 1 false t49_14 M) ⟨fun t50_15 =>
  @OptBH (binV .lss .none t44_9 t50_15) ⟨fun b51_16 =>
  @BIfH b51_16
  ⟨wpC P c21_19 Q [(2, v2), (7, v7), (10, v10), (11, v11), (51, (.bool b51_16))] M⟩
  ⟨Q .normal [(2, v2), (7, v7), (10, v10), (11, v11), (51, (.bool b51_16))] M⟩⟩⟩⟩⟩⟩⟩⟩⟩⟩⟩⟩⟩⟩
theorem e21_21 (P : Program) (Q : Exit → Slots → Mem → Prop) (s : Slots) (M : Mem) : wpC P c21_21 Q s M = w21_21 P Q M (sget s 2) (sget s 7) (sget s 10) (sget s 11) := by kernel_rfl
def c21_22 : ACode := (.block 1 c21_21)
def o21_23 : List AOper := [⟨some 34, (.mov (.tmp 11)), false, none⟩,
  ⟨some 35, (.bin .add .none (.tmp 34) (.const (.int .i64 1))), false, none⟩,
  ⟨some 11, (.mov (.tmp 35)), false, none⟩]
def c21_24 : ACode := (.region o21_23 [2, 7, 10, 11])
def w21_24 (_P : Program) (Q : Exit → Slots → Mem → Prop) (M : Mem) (v2 : V) (v7 : V) (v10 : V) (v11 : V) : Prop :=
  @OptVH (binV .add .none v11 (.int .i64 1)) ⟨fun t35_2 =>
  Q .normal [(2, v2), (7, v7), (10, v10), (11, t35_2)] M⟩
theorem e21_24 (P : Program) (Q : Exit → Slots → Mem → Prop) (s : Slots) (M : Mem) : wpC P c21_24 Q s M = w21_24 P Q M (sget s 2) (sget s 7) (sget s 10) (sget s 11) := by kernel_rfl
def c21_25 : ACode := (.seq c21_22 c21_24)
def c21_26 : ACode := (.seq c21_17 c21_25)
def c21_27 : ACode := (.loop [2, 7, 10, 11] c21_26)
def c21_28 : ACode := (.block 0 c21_27)
def c21_29 : ACode := (.seq c21_15 c21_28)
def o21_30 : List AOper := [⟨some 56, (.mov (.tmp 10)), false, none⟩,
  ⟨some 57, (.fieldAddr 0 (.tmp 2)), false, none⟩,
  ⟨some 58, (.load 1 false (.tmp 57)), false, none⟩,
  ⟨some 59, (.mov (.tmp 10)), false, none⟩,
  ⟨some 60, (.indexSl 6 (.tmp 58) (.tmp 59)), false, none⟩,
  ⟨some 61, (.fieldAddr 1 (.tmp 60)), false, none⟩,
  ⟨some 62, (.load 1 false (.tmp 61)), false, none⟩,
  ⟨some 4, (.mov (.tmp 56)), false, none⟩,
  ⟨some 5, (.mov (.tmp 62)), false, none⟩,
  ⟨some 6, (.mov (.const (.bool true))), true, none⟩]
def c21_31 : ACode := (.mixed o21_30 [true, true, true, true, true, true, true, true, true, true] [4, 5, 6])
def w21_31 (_P : Program) (Q : Exit → Slots → Mem → Prop) (M : Mem) (v2 : V) (v10 : V) : Prop :=
  @OptVH (moveV 0 v2) ⟨fun t57_2 =>
  @OptVH (loadV 1 false t57_2 M) ⟨fun t58_3 =>
  @OptVH (indexSlV 6 t58_3 v10 M) ⟨fun t60_5 =>
  @OptVH (moveV 1 t60_5) ⟨fun t61_6 =>
  @OptVH (loadV 1 false t61_6 M) ⟨fun t62_7 =>
  Q .normal [(4, v10), (5, t62_7), (6, (.bool true))] M⟩⟩⟩⟩⟩
theorem e21_31 (P : Program) (Q : Exit → Slots → Mem → Prop) (s : Slots) (M : Mem) : wpC P c21_31 Q s M = w21_31 P Q M (sget s 2) (sget s 10) := by kernel_rfl
def c21_32 : ACode := (.seq c21_31 .ret)
def c21_33 : ACode := (.seq c21_29 c21_32)
def c21_34 : ACode := (.seq c21_13 c21_33)
def c21_35 : ACode := (.seq c21_11 c21_34)
def c21_36 : ACode := (.seq c21_3 c21_35)
def c21_37 : ACode := (.seq c21_1 c21_36)
def fn_transitref21_Cheapest : AFn := ⟨63, [(.tmp 4), (.tmp 5), (.tmp 6)], c21_37⟩
theorem fn_transitref21_Cheapest_ok : resFn PR h_transitref21_Cheapest i_transitref21_Cheapest = some fn_transitref21_Cheapest := by kernel_rfl

def h_transitref21_Right : Hints := ⟨[(0, [1]), (1, [2])], [], []⟩
def o22_0 : List AOper := [⟨some 1, (.box 6 (.tmp 0)), false, none⟩,
  ⟨some 2, (.mov (.const (.bool false))), true, none⟩]
def c22_1 : ACode := (.region o22_0 [1])
def w22_1 (_P : Program) (Q : Exit → Slots → Mem → Prop) (M : Mem) (v0 : V) : Prop :=
  @OptMH (boxV 6 v0 M) ⟨fun t1_1 M1 =>
  Q .normal [(1, t1_1)] M1⟩
theorem e22_1 (P : Program) (Q : Exit → Slots → Mem → Prop) (s : Slots) (M : Mem) : wpC P c22_1 Q s M = w22_1 P Q M (sget s 0) := by kernel_rfl
def o22_2 : List AOper := [⟨some 3, (.fieldAddr 1 (.tmp 1)), false, none⟩,
  ⟨some 4, (.load 1 false (.tmp 3)), false, none⟩,
  ⟨some 5, (.call i_transitref21_within [(.tmp 4), (.const (.int .i64 0)), (.const (.int .i64 1000000))]), true, none⟩,
  ⟨some 6, (.mov (.tmp 5)), true, none⟩,
  ⟨some 7, (.fieldAddr 2 (.tmp 1)), false, some (6, true)⟩,
  ⟨some 8, (.load 1 false (.tmp 7)), false, some (6, true)⟩,
  ⟨some 9, (.call i_transitref21_within [(.tmp 8), (.const (.int .i64 1)), (.const (.int .i64 8))]), true, some (6, true)⟩,
  ⟨some 10, (.pick (.tmp 6) (.tmp 9) (.const (.bool false))), true, none⟩,
  ⟨some 11, (.mov (.tmp 10)), true, none⟩,
  ⟨some 12, (.fieldAddr 3 (.tmp 1)), false, some (11, true)⟩,
  ⟨some 13, (.load 1 false (.tmp 12)), false, some (11, true)⟩,
  ⟨some 14, (.call i_transitref21_within [(.tmp 13), (.const (.int .i64 1)), (.const (.int .i64 16))]), true, some (11, true)⟩,
  ⟨some 15, (.pick (.tmp 11) (.tmp 14) (.const (.bool false))), true, none⟩,
  ⟨some 16, (.mov (.tmp 15)), true, none⟩,
  ⟨some 17, (.fieldAddr 4 (.tmp 1)), false, some (16, true)⟩,
  ⟨some 18, (.load 1 false (.tmp 17)), false, some (16, true)⟩,
  ⟨some 19, (.call i_transitref21_within [(.tmp 18), (.const (.int .i64 0)), (.const (.int .i64 86400))]), true, some (16, true)⟩,
  ⟨some 20, (.pick (.tmp 16) (.tmp 19) (.const (.bool false))), true, none⟩,
  ⟨some 21, (.mov (.tmp 20)), true, none⟩,
  ⟨some 22, (.fieldAddr 5 (.tmp 1)), false, some (21, true)⟩,
  ⟨some 23, (.load 1 false (.tmp 22)), false, some (21, true)⟩,
  ⟨some 24, (.call i_transitref21_within [(.tmp 23), (.const (.int .i64 1)), (.const (.int .i64 255))]), true, some (21, true)⟩,
  ⟨some 25, (.pick (.tmp 21) (.tmp 24) (.const (.bool false))), true, none⟩,
  ⟨some 2, (.mov (.tmp 25)), true, none⟩]
def c22_3 : ACode := (.region o22_2 [2])
def w22_3 (P : Program) (Q : Exit → Slots → Mem → Prop) (M : Mem) (v1 : V) : Prop :=
  @OptVH (moveV 1 v1) ⟨fun t3_1 =>
  @OptVH (loadV 1 false t3_1 M) ⟨fun t4_2 =>
  @CallH P i_transitref21_within [t4_2, (.int .i64 0), (.int .i64 1000000)] M ⟨fun t5_3 M3 => @OptBH (some t5_3) ⟨fun b5_3 =>
  @BIfH b5_3
  ⟨@OptVH (moveV 2 v1) ⟨fun t7_5 =>
  @OptVH (loadV 1 false t7_5 M3) ⟨fun t8_6 =>
  @CallH P i_transitref21_within [t8_6, (.int .i64 1), (.int .i64 8)] M3 ⟨fun t9_7 M7 => @OptBH (some t9_7) ⟨fun b9_7 =>
  @BIfH b9_7
  ⟨@OptVH (moveV 3 v1) ⟨fun t12_10 =>
  @OptVH (loadV 1 false t12_10 M7) ⟨fun t13_11 =>
  @CallH P i_transitref21_within [t13_11, (.int .i64 1), (.int .i64 16)] M7 ⟨fun t14_12 M12 => @OptBH (some t14_12) ⟨fun b14_12 =>
  @BIfH b14_12
  ⟨@OptVH (moveV 4 v1) ⟨fun t17_15 =>
  @OptVH (loadV 1 false t17_15 M12) ⟨fun t18_16 =>
  @CallH P i_transitref21_within [t18_16, (.int .i64 0), (.int .i64 86400)] M12 ⟨fun t19_17 M17 => @OptBH (some t19_17) ⟨fun b19_17 =>
  @BIfH b19_17
  ⟨@OptVH (moveV 5 v1) ⟨fun t22_20 =>
  @OptVH (loadV 1 false t22_20 M17) ⟨fun t23_21 =>
  @CallH P i_transitref21_within [t23_21, (.int .i64 1), (.int .i64 255)] M17 ⟨fun t24_22 M22 => @OptBH (some t24_22) ⟨fun b24_22 =>
  Q .normal [(2, (.bool b24_22))] M22⟩⟩⟩⟩⟩
  ⟨Q .normal [(2, (.bool false))] M17⟩⟩⟩⟩⟩⟩
  ⟨Q .normal [(2, (.bool false))] M12⟩⟩⟩⟩⟩⟩
  ⟨Q .normal [(2, (.bool false))] M7⟩⟩⟩⟩⟩⟩
  ⟨Q .normal [(2, (.bool false))] M3⟩⟩⟩⟩⟩
theorem e22_3 (P : Program) (Q : Exit → Slots → Mem → Prop) (s : Slots) (M : Mem) : wpC P c22_3 Q s M = w22_3 P Q M (sget s 1) := by kernel_rfl
def c22_4 : ACode := (.seq c22_3 .ret)
def c22_5 : ACode := (.seq c22_1 c22_4)
def fn_transitref21_Right : AFn := ⟨26, [(.tmp 2)], c22_5⟩
theorem fn_transitref21_Right_ok : resFn PR h_transitref21_Right i_transitref21_Right = some fn_transitref21_Right := by kernel_rfl

def h_product_within : Hints := ⟨[(0, [0, 1, 2]), (1, [6])], [], []⟩
def o23_0 : List AOper := [⟨some 6, (.mov (.const (.bool false))), true, none⟩]
def c23_1 : ACode := (.region o23_0 [0, 1, 2])
def w23_1 (_P : Program) (Q : Exit → Slots → Mem → Prop) (M : Mem) (v0 : V) (v1 : V) (v2 : V) : Prop :=
  Q .normal [(0, v0), (1, v1), (2, v2)] M
theorem e23_1 (P : Program) (Q : Exit → Slots → Mem → Prop) (s : Slots) (M : Mem) : wpC P c23_1 Q s M = w23_1 P Q M (sget s 0) (sget s 1) (sget s 2) := by kernel_rfl
def o23_2 : List AOper := [⟨some 7, (.mov (.tmp 0)), false, none⟩,
  ⟨some 8, (.mov (.tmp 1)), false, none⟩,
  ⟨some 9, (.bin .geq .none (.tmp 7) (.tmp 8)), true, none⟩,
  ⟨some 10, (.mov (.tmp 9)), true, none⟩,
  ⟨some 11, (.mov (.tmp 0)), false, some (10, true)⟩,
  ⟨some 12, (.mov (.tmp 2)), false, some (10, true)⟩,
  ⟨some 13, (.bin .leq .none (.tmp 11) (.tmp 12)), true, some (10, true)⟩,
  ⟨some 14, (.pick (.tmp 10) (.tmp 13) (.const (.bool false))), true, none⟩,
  ⟨some 6, (.mov (.tmp 14)), true, none⟩]
def c23_3 : ACode := (.region o23_2 [6])
def w23_3 (_P : Program) (Q : Exit → Slots → Mem → Prop) (M : Mem) (v0 : V) (v1 : V) (v2 : V) : Prop :=
  @OptBH (binV .geq .none v0 v1) ⟨fun b9_3 =>
  @BIfH b9_3
  ⟨@OptBH (binV .leq .none v0 v2) ⟨fun b13_7 =>
  Q .normal [(6, (.bool b13_7))] M⟩⟩
  ⟨Q .normal [(6, (.bool false))] M⟩⟩
theorem e23_3 (P : Program) (Q : Exit → Slots → Mem → Prop) (s : Slots) (M : Mem) : wpC P c23_3 Q s M = w23_3 P Q M (sget s 0) (sget s 1) (sget s 2) := by kernel_rfl
def c23_4 : ACode := (.seq c23_3 .ret)
def c23_5 : ACode := (.seq c23_1 c23_4)
def fn_product_within : AFn := ⟨15, [(.tmp 6)], c23_5⟩
theorem fn_product_within_ok : resFn PR h_product_within i_product_within = some fn_product_within := by kernel_rfl

def h_ident_Valid : Hints := ⟨[(0, [0]), (1, [0, 3]), (2, [0, 3, 8]), (3, [0, 3]), (4, [0, 3, 4]), (5, [2]), (6, [0, 3, 4, 14]), (7, [0, 3, 4, 14]), (8, [0, 3, 4, 14]), (9, [0, 3, 4, 33]), (10, [0, 3, 4, 33]), (11, [0, 3, 33]), (12, [2])], [(2, [0, 3])], []⟩
def o24_0 : List AOper := [⟨some 2, (.mov (.const (.bool false))), true, none⟩]
def c24_1 : ACode := (.region o24_0 [0])
def w24_1 (_P : Program) (Q : Exit → Slots → Mem → Prop) (M : Mem) (v0 : V) : Prop :=
  Q .normal [(0, v0)] M
theorem e24_1 (P : Program) (Q : Exit → Slots → Mem → Prop) (s : Slots) (M : Mem) : wpC P c24_1 Q s M = w24_1 P Q M (sget s 0) := by kernel_rfl
def o24_2 : List AOper := [⟨some 3, (.mov (.const (.int .i64 0))), false, none⟩]
def c24_3 : ACode := (.region o24_2 [0, 3])
def w24_3 (_P : Program) (Q : Exit → Slots → Mem → Prop) (M : Mem) (v0 : V) : Prop :=
  Q .normal [(0, v0), (3, (.int .i64 0))] M
theorem e24_3 (P : Program) (Q : Exit → Slots → Mem → Prop) (s : Slots) (M : Mem) : wpC P c24_3 Q s M = w24_3 P Q M (sget s 0) := by kernel_rfl
def o24_4 : List AOper := [⟨some 5, (.mov (.tmp 3)), false, none⟩,
  ⟨some 6, (.mov (.tmp 0)), false, none⟩,
  ⟨some 7, (.lenStr (.tmp 6)), false, none⟩,
  ⟨some 8, (.bin .lss .none (.tmp 5) (.tmp 7)), true, none⟩]
def c24_5 : ACode := (.seq (.region o24_4 [0, 3, 8]) (.cond (.tmp 8) .skip (.exit 0)))
def w24_5 (_P : Program) (Q : Exit → Slots → Mem → Prop) (M : Mem) (v0 : V) (v3 : V) : Prop :=
  @OptVH (lenStrV v0) ⟨fun t7_3 =>
  @OptBH (binV .lss .none v3 t7_3) ⟨fun b8_4 =>
  @BIfH b8_4
  ⟨Q .normal [(0, v0), (3, v3), (8, (.bool b8_4))] M⟩
  ⟨Q (.exit 0) [(0, v0), (3, v3), (8, (.bool b8_4))] M⟩⟩⟩
theorem e24_5 (P : Program) (Q : Exit → Slots → Mem → Prop) (s : Slots) (M : Mem) : wpC P c24_5 Q s M = w24_5 P Q M (sget s 0) (sget s 3) := by kernel_rfl
def o24_6 : List AOper := [⟨some 11, (.mov (.tmp 0)), false, none⟩,
  ⟨some 12, (.mov (.tmp 3)), false, none⟩,
  ⟨some 13, (.indexStr (.tmp 11) (.tmp 12)), false, none⟩,
  ⟨some 4, (.mov (.tmp 13)), false, none⟩]
def c24_7 : ACode := (.region o24_6 [0, 3, 4])
def w24_7 (_P : Program) (Q : Exit → Slots → Mem → Prop) (M : Mem) (v0 : V) (v3 : V) : Prop :=
  @OptVH (indexStrV v0 v3) ⟨fun t13_3 =>
  Q .normal [(0, v0), (3, v3), (4, t13_3)] M⟩
theorem e24_7 (P : Program) (Q : Exit → Slots → Mem → Prop) (s : Slots) (M : Mem) : wpC P c24_7 Q s M = w24_7 P Q M (sget s 0) (sget s 3) := by kernel_rfl
def o24_8 : List AOper := [⟨some 27, (.mov (.tmp 4)), false, none⟩,
  ⟨some 28, (.bin .leq .none (.const (.int .u8 48)) (.tmp 27)), true, none⟩,
  ⟨some 29, (.mov (.tmp 28)), true, none⟩,
  ⟨some 30, (.mov (.tmp 4)), false, some (29, true)⟩,
  ⟨some 31, (.bin .leq .none (.tmp 30) (.const (.int .u8 57))), true, some (29, true)⟩,
  ⟨some 32, (.pick (.tmp 29) (.tmp 31) (.const (.bool false))), true, none⟩,
  ⟨some 14, (.mov (.tmp 32)), true, none⟩]
def c24_9 : ACode := (.region o24_8 [0, 3, 4, 14])
def w24_9 (_P : Program) (Q : Exit → Slots → Mem → Prop) (M : Mem) (v0 : V) (v3 : V) (v4 : V) : Prop :=
  @OptBH (binV .leq .none (.int .u8 48) v4) ⟨fun b28_2 =>
  @BIfH b28_2
  ⟨@OptBH (binV .leq .none v4 (.int .u8 57)) ⟨fun b31_5 =>
  Q .normal [(0, v0), (3, v3), (4, v4), (14, (.bool b31_5))] M⟩⟩
  ⟨Q .normal [(0, v0), (3, v3), (4, v4), (14, (.bool false))] M⟩⟩
theorem e24_9 (P : Program) (Q : Exit → Slots → Mem → Prop) (s : Slots) (M : Mem) : wpC P c24_9 Q s M = w24_9 P Q M (sget s 0) (sget s 3) (sget s 4) := by kernel_rfl
def o24_10 : List AOper := [⟨some 21, (.mov (.tmp 4)), false, none⟩,
  ⟨some 22, (.bin .leq .none (.const (.int .u8 65)) (.tmp 21)), true, none⟩,
  ⟨some 23, (.mov (.tmp 22)), true, none⟩,
  ⟨some 24, (.mov (.tmp 4)), false, some (23, true)⟩,
  ⟨some 25, (.bin .leq .none (.tmp 24) (.const (.int .u8 90))), true, some (23, true)⟩,
  ⟨some 26, (.pick (.tmp 23) (.tmp 25) (.const (.bool false))), true, none⟩,
  ⟨some 14, (.mov (.tmp 26)), true, none⟩]
def c24_11 : ACode := (.seq (.region o24_10 [0, 3, 4, 14]) (.cond (.tmp 14) .skip c24_9))
def w24_11 (P : Program) (Q : Exit → Slots → Mem → Prop) (M : Mem) (v0 : V) (v3 : V) (v4 : V) : Prop :=
  @OptBH (binV .leq .none (.int .u8 65) v4) ⟨fun b22_2 =>
  @BIfH b22_2
  ⟨@OptBH (binV .leq .none v4 (.int .u8 90)) ⟨fun b25_5 =>
  @BIfH b25_5
  ⟨Q .normal [(0, v0), (3, v3), (4, v4), (14, (.bool b25_5))] M⟩
  ⟨wpC P c24_9 Q [(0, v0), (3, v3), (4, v4), (14, (.bool b25_5))] M⟩⟩⟩
  ⟨wpC P c24_9 Q [(0, v0), (3, v3), (4, v4), (14, (.bool false))] M⟩⟩
theorem e24_11 (P : Program) (Q : Exit → Slots → Mem → Prop) (s : Slots) (M : Mem) : wpC P c24_11 Q s M = w24_11 P Q M (sget s 0) (sget s 3) (sget s 4) := by kernel_rfl
def o24_12 : List AOper := [⟨some 15, (.mov (.tmp 4)), false, none⟩,
  ⟨some 16, (.bin .leq .none (.const (.int .u8 97)) (.tmp 15)), true, none⟩,
  ⟨some 17, (.mov (.tmp 16)), true, none⟩,
  ⟨some 18, (.mov (.tmp 4)), false, some (17, true)⟩,
  ⟨some 19, (.bin .leq .none (.tmp 18) (.const (.int .u8 122))), true, some (17, true)⟩,
  ⟨some 20, (.pick (.tmp 17) (.tmp 19) (.const (.bool false))), true, none⟩,
  ⟨some 14, (.mov (.tmp 20)), true, none⟩]
def c24_13 : ACode := (.seq (.region o24_12 [0, 3, 4, 14]) (.cond (.tmp 14) .skip c24_11))
def w24_13 (P : Program) (Q : Exit → Slots → Mem → Prop) (M : Mem) (v0 : V) (v3 : V) (v4 : V) : Prop :=
  @OptBH (binV .leq .none (.int .u8 97) v4) ⟨fun b16_2 =>
  @BIfH b16_2
  ⟨@OptBH (binV .leq .none v4 (.int .u8 122)) ⟨fun b19_5 =>
  @BIfH b19_5
  ⟨Q .normal [(0, v0), (3, v3), (4, v4), (14, (.bool b19_5))] M⟩
  ⟨wpC P c24_11 Q [(0, v0), (3, v3), (4, v4), (14, (.bool b19_5))] M⟩⟩⟩
  ⟨wpC P c24_11 Q [(0, v0), (3, v3), (4, v4), (14, (.bool false))] M⟩⟩
theorem e24_13 (P : Program) (Q : Exit → Slots → Mem → Prop) (s : Slots) (M : Mem) : wpC P c24_13 Q s M = w24_13 P Q M (sget s 0) (sget s 3) (sget s 4) := by kernel_rfl
def o24_14 : List AOper := [⟨some 38, (.mov (.tmp 4)), false, none⟩,
  ⟨some 39, (.bin .eql .none (.tmp 38) (.const (.int .u8 46))), true, none⟩,
  ⟨some 33, (.mov (.tmp 39)), true, none⟩]
def c24_15 : ACode := (.region o24_14 [0, 3, 33])
def w24_15 (_P : Program) (Q : Exit → Slots → Mem → Prop) (M : Mem) (v0 : V) (v3 : V) (v4 : V) : Prop :=
  @OptBH (binV .eql .none v4 (.int .u8 46)) ⟨fun b39_2 =>
  Q .normal [(0, v0), (3, v3), (33, (.bool b39_2))] M⟩
theorem e24_15 (P : Program) (Q : Exit → Slots → Mem → Prop) (s : Slots) (M : Mem) : wpC P c24_15 Q s M = w24_15 P Q M (sget s 0) (sget s 3) (sget s 4) := by kernel_rfl
def o24_16 : List AOper := [⟨some 36, (.mov (.tmp 4)), false, none⟩,
  ⟨some 37, (.bin .eql .none (.tmp 36) (.const (.int .u8 95))), true, none⟩,
  ⟨some 33, (.mov (.tmp 37)), true, none⟩]
def c24_17 : ACode := (.seq (.region o24_16 [0, 3, 4, 33]) (.cond (.tmp 33) .skip c24_15))
def w24_17 (P : Program) (Q : Exit → Slots → Mem → Prop) (M : Mem) (v0 : V) (v3 : V) (v4 : V) : Prop :=
  @OptBH (binV .eql .none v4 (.int .u8 95)) ⟨fun b37_2 =>
  @BIfH b37_2
  ⟨Q .normal [(0, v0), (3, v3), (4, v4), (33, (.bool b37_2))] M⟩
  ⟨wpC P c24_15 Q [(0, v0), (3, v3), (4, v4), (33, (.bool b37_2))] M⟩⟩
theorem e24_17 (P : Program) (Q : Exit → Slots → Mem → Prop) (s : Slots) (M : Mem) : wpC P c24_17 Q s M = w24_17 P Q M (sget s 0) (sget s 3) (sget s 4) := by kernel_rfl
def o24_18 : List AOper := [⟨some 34, (.mov (.tmp 4)), false, none⟩,
  ⟨some 35, (.bin .eql .none (.tmp 34) (.const (.int .u8 45))), true, none⟩,
  ⟨some 33, (.mov (.tmp 35)), true, none⟩]
def c24_19 : ACode := (.seq (.region o24_18 [0, 3, 4, 33]) (.cond (.tmp 33) .skip c24_17))
def w24_19 (P : Program) (Q : Exit → Slots → Mem → Prop) (M : Mem) (v0 : V) (v3 : V) (v4 : V) : Prop :=
  @OptBH (binV .eql .none v4 (.int .u8 45)) ⟨fun b35_2 =>
  @BIfH b35_2
  ⟨Q .normal [(0, v0), (3, v3), (4, v4), (33, (.bool b35_2))] M⟩
  ⟨wpC P c24_17 Q [(0, v0), (3, v3), (4, v4), (33, (.bool b35_2))] M⟩⟩
theorem e24_19 (P : Program) (Q : Exit → Slots → Mem → Prop) (s : Slots) (M : Mem) : wpC P c24_19 Q s M = w24_19 P Q M (sget s 0) (sget s 3) (sget s 4) := by kernel_rfl
def o24_20 : List AOper := [⟨some 2, (.mov (.const (.bool false))), true, none⟩]
def c24_21 : ACode := (.region o24_20 [2])
def w24_21 (_P : Program) (Q : Exit → Slots → Mem → Prop) (M : Mem) : Prop :=
  Q .normal [(2, (.bool false))] M
theorem e24_21 (P : Program) (Q : Exit → Slots → Mem → Prop) (s : Slots) (M : Mem) : wpC P c24_21 Q s M = w24_21 P Q M := by kernel_rfl
def c24_22 : ACode := (.seq c24_21 .ret)
def c24_23 : ACode := (.cond (.tmp 33) .skip c24_22)
def c24_24 : ACode := (.seq c24_19 c24_23)
def c24_25 : ACode := (.cond (.tmp 14) .skip c24_24)
def c24_26 : ACode := (.seq c24_13 c24_25)
def c24_27 : ACode := (.block 2 c24_26)
def c24_28 : ACode := (.seq c24_7 c24_27)
def c24_29 : ACode := (.block 1 c24_28)
def o24_30 : List AOper := [⟨some 9, (.mov (.tmp 3)), false, none⟩,
  ⟨some 10, (.bin .add .none (.tmp 9) (.const (.int .i64 1))), false, none⟩,
  ⟨some 3, (.mov (.tmp 10)), false, none⟩]
def c24_31 : ACode := (.region o24_30 [0, 3])
def w24_31 (_P : Program) (Q : Exit → Slots → Mem → Prop) (M : Mem) (v0 : V) (v3 : V) : Prop :=
  @OptVH (binV .add .none v3 (.int .i64 1)) ⟨fun t10_2 =>
  Q .normal [(0, v0), (3, t10_2)] M⟩
theorem e24_31 (P : Program) (Q : Exit → Slots → Mem → Prop) (s : Slots) (M : Mem) : wpC P c24_31 Q s M = w24_31 P Q M (sget s 0) (sget s 3) := by kernel_rfl
def c24_32 : ACode := (.seq c24_29 c24_31)
def c24_33 : ACode := (.seq c24_5 c24_32)
def c24_34 : ACode := (.loop [0, 3] c24_33)
def c24_35 : ACode := (.block 0 c24_34)
def c24_36 : ACode := (.seq c24_3 c24_35)
def o24_37 : List AOper := [⟨some 40, (.mov (.tmp 0)), false, none⟩,
  ⟨some 41, (.lenStr (.tmp 40)), false, none⟩,
  ⟨some 42, (.bin .gtr .none (.tmp 41) (.const (.int .i64 0))), true, none⟩,
  ⟨some 43, (.mov (.tmp 42)), true, none⟩,
  ⟨some 44, (.mov (.tmp 0)), false, some (43, true)⟩,
  ⟨some 45, (.lenStr (.tmp 44)), false, some (43, true)⟩,
  ⟨some 46, (.bin .leq .none (.tmp 45) (.const (.int .i64 32))), true, some (43, true)⟩,
  ⟨some 47, (.pick (.tmp 43) (.tmp 46) (.const (.bool false))), true, none⟩,
  ⟨some 2, (.mov (.tmp 47)), true, none⟩]
def c24_38 : ACode := (.region o24_37 [2])
def w24_38 (_P : Program) (Q : Exit → Slots → Mem → Prop) (M : Mem) (v0 : V) : Prop :=
  @OptVH (lenStrV v0) ⟨fun t41_2 =>
  @OptBH (binV .gtr .none t41_2 (.int .i64 0)) ⟨fun b42_3 =>
  @BIfH b42_3
  ⟨@OptVH (lenStrV v0) ⟨fun t45_6 =>
  @OptBH (binV .leq .none t45_6 (.int .i64 32)) ⟨fun b46_7 =>
  Q .normal [(2, (.bool b46_7))] M⟩⟩⟩
  ⟨Q .normal [(2, (.bool false))] M⟩⟩⟩
theorem e24_38 (P : Program) (Q : Exit → Slots → Mem → Prop) (s : Slots) (M : Mem) : wpC P c24_38 Q s M = w24_38 P Q M (sget s 0) := by kernel_rfl
def c24_39 : ACode := (.seq c24_38 .ret)
def c24_40 : ACode := (.seq c24_36 c24_39)
def c24_41 : ACode := (.seq c24_1 c24_40)
def fn_ident_Valid : AFn := ⟨48, [(.tmp 2)], c24_41⟩
theorem fn_ident_Valid_ok : resFn PR h_ident_Valid i_ident_Valid = some fn_ident_Valid := by kernel_rfl

def h_transitref21_within : Hints := ⟨[(0, [0, 1, 2]), (1, [6])], [], []⟩
def o25_0 : List AOper := [⟨some 6, (.mov (.const (.bool false))), true, none⟩]
def c25_1 : ACode := (.region o25_0 [0, 1, 2])
def w25_1 (_P : Program) (Q : Exit → Slots → Mem → Prop) (M : Mem) (v0 : V) (v1 : V) (v2 : V) : Prop :=
  Q .normal [(0, v0), (1, v1), (2, v2)] M
theorem e25_1 (P : Program) (Q : Exit → Slots → Mem → Prop) (s : Slots) (M : Mem) : wpC P c25_1 Q s M = w25_1 P Q M (sget s 0) (sget s 1) (sget s 2) := by kernel_rfl
def o25_2 : List AOper := [⟨some 7, (.mov (.tmp 0)), false, none⟩,
  ⟨some 8, (.mov (.tmp 1)), false, none⟩,
  ⟨some 9, (.bin .geq .none (.tmp 7) (.tmp 8)), true, none⟩,
  ⟨some 10, (.mov (.tmp 9)), true, none⟩,
  ⟨some 11, (.mov (.tmp 0)), false, some (10, true)⟩,
  ⟨some 12, (.mov (.tmp 2)), false, some (10, true)⟩,
  ⟨some 13, (.bin .leq .none (.tmp 11) (.tmp 12)), true, some (10, true)⟩,
  ⟨some 14, (.pick (.tmp 10) (.tmp 13) (.const (.bool false))), true, none⟩,
  ⟨some 6, (.mov (.tmp 14)), true, none⟩]
def c25_3 : ACode := (.region o25_2 [6])
def w25_3 (_P : Program) (Q : Exit → Slots → Mem → Prop) (M : Mem) (v0 : V) (v1 : V) (v2 : V) : Prop :=
  @OptBH (binV .geq .none v0 v1) ⟨fun b9_3 =>
  @BIfH b9_3
  ⟨@OptBH (binV .leq .none v0 v2) ⟨fun b13_7 =>
  Q .normal [(6, (.bool b13_7))] M⟩⟩
  ⟨Q .normal [(6, (.bool false))] M⟩⟩
theorem e25_3 (P : Program) (Q : Exit → Slots → Mem → Prop) (s : Slots) (M : Mem) : wpC P c25_3 Q s M = w25_3 P Q M (sget s 0) (sget s 1) (sget s 2) := by kernel_rfl
def c25_4 : ACode := (.seq c25_3 .ret)
def c25_5 : ACode := (.seq c25_1 c25_4)
def fn_transitref21_within : AFn := ⟨15, [(.tmp 6)], c25_5⟩
theorem fn_transitref21_within_ok : resFn PR h_transitref21_within i_transitref21_within = some fn_transitref21_within := by kernel_rfl

end Go.Vm.C
