/- The abstract code of the functions that the statements reach, printed by a program, each with the equation that it is what the loaded program says. Part 0. -/
import Derived.Test.YtoikggblbknapaaProg
import Derived.Test.YtoikggblbknapaaVm2
import Derived.KernelRfl
namespace Go.Vm.C
open Go.Vm

abbrev i_main_main : Nat := 0
abbrev i_gosem_cut : Nat := 1
abbrev i_gosem_cut_init : Nat := 2
abbrev i_transitlaw08_IntervalContains : Nat := 3
abbrev i_transitlaw08_IntervalNormalizes : Nat := 4
abbrev i_transitlaw08_IntervalCombines : Nat := 5
abbrev i_transitlaw08_IntervalLengths : Nat := 6
abbrev i_transitlaw08_IntervalGaps : Nat := 7
abbrev i_transitlaw08_IntervalAlgebra : Nat := 8
abbrev i_transitlaw08_IntervalCanonical : Nat := 9
abbrev i_transitlaw08_IntervalMeasures : Nat := 10
abbrev i_transitlaw08_exampleHolds : Nat := 11
abbrev i_interval_Valid : Nat := 12
abbrev i_interval_Contains : Nat := 13
abbrev i_transitlaw08_spans : Nat := 14
abbrev i_transitref08_Contains : Nat := 15
abbrev i_transitlaw08_equal : Nat := 16
abbrev i_interval_Normalize : Nat := 17
abbrev i_transitref08_Combine : Nat := 18
abbrev i_interval_Union : Nat := 19
abbrev i_interval_Intersect : Nat := 20
abbrev i_interval_Subtract : Nat := 21
abbrev i_interval_Length : Nat := 22
abbrev i_transitref08_Length : Nat := 23
abbrev i_interval_Gaps : Nat := 24
abbrev i_transitlaw08_normal : Nat := 25
abbrev i_transitlaw08_same : Nat := 26
abbrev i_transitlaw08_bounded : Nat := 27
abbrev i_interval_build : Nat := 28
abbrev i_interval_bounds : Nat := 29
abbrev i_interval_Normalize_1 : Nat := 30
abbrev i_transitref08_ends : Nat := 31
abbrev i_transitref08_kept : Nat := 32
abbrev i_interval_Union_1 : Nat := 33
abbrev i_interval_Intersect_1 : Nat := 34
abbrev i_interval_Subtract_1 : Nat := 35
abbrev i_slices_Sort_int_int : Nat := 36
abbrev i_slices_Compact_int_int : Nat := 37
abbrev i_transitref08_insert : Nat := 38
abbrev i_slices_pdqsortOrdered_int : Nat := 39
abbrev i_math_bits_Len : Nat := 40
abbrev i_slices_insertionSortOrdered_int : Nat := 41
abbrev i_slices_heapSortOrdered_int : Nat := 42
abbrev i_slices_breakPatternsOrdered_int : Nat := 43
abbrev i_slices_choosePivotOrdered_int : Nat := 44
abbrev i_slices_reverseRangeOrdered_int : Nat := 45
abbrev i_slices_partialInsertionSortOrdered_int : Nat := 46
abbrev i_cmp_Less_int : Nat := 47
abbrev i_slices_partitionEqualOrdered_int : Nat := 48
abbrev i_slices_partitionOrdered_int : Nat := 49
abbrev i_math_bits_Len32 : Nat := 50
abbrev i_math_bits_Len64 : Nat := 51
abbrev i_slices_siftDownOrdered_int : Nat := 52
abbrev i_slices_nextPowerOfTwo : Nat := 53
abbrev i_slices_xorshift_Next : Nat := 54
abbrev i_slices_medianAdjacentOrdered_int : Nat := 55
abbrev i_slices_medianOrdered_int : Nat := 56
abbrev i_cmp_isNaN_int : Nat := 57
abbrev i_slices_order2Ordered_int : Nat := 58
abbrev i_runtime_boundsError_Error : Nat := 59
abbrev i_runtime_boundsError_RuntimeError : Nat := 60
abbrev i_runtime_errorString_Error : Nat := 61
abbrev i_runtime_errorString_RuntimeError : Nat := 62
abbrev i_runtime_plainError_Error : Nat := 63
abbrev i_runtime_plainError_RuntimeError : Nat := 64
abbrev i_runtime_errorAddressString_Error : Nat := 65
abbrev i_runtime_errorAddressString_RuntimeError : Nat := 66
abbrev i_runtime_TypeAssertionError_Error : Nat := 67
abbrev i_runtime_TypeAssertionError_RuntimeError : Nat := 68
abbrev i_runtime_PanicNilError_Error : Nat := 69
abbrev i_runtime_PanicNilError_RuntimeError : Nat := 70
abbrev i_internal_abi_Type_Align : Nat := 71
abbrev i_internal_runtime_maps_unhashableTypeError_Error : Nat := 72
abbrev i_internal_runtime_maps_unhashableTypeError_RuntimeError : Nat := 73
abbrev i_internal_abi_Kind_String : Nat := 74
noncomputable abbrev PR : Program := Go.Proofs.Try.prog

def h_transitlaw08_IntervalContains : Hints := ⟨[(0, [0, 2, 4]), (1, [0, 2, 4, 9]), (2, [6]), (3, [6])], [], []⟩
def o3_0 : List AOper := [⟨some 4, (.box 2 (.tmp 1)), false, none⟩,
  ⟨some 6, (.mov (.const (.bool false))), true, none⟩]
def c3_1 : ACode := (.region o3_0 [0, 2, 4])
def w3_1 (_P : Program) (Q : Exit → Slots → Mem → Prop) (M : Mem) (v0 : V) (v1 : V) (v2 : V) : Prop :=
  @OptMH (boxV 2 v1 M) ⟨fun t4_1 M1 =>
  Q .normal [(0, v0), (2, v2), (4, t4_1)] M1⟩
theorem e3_1 (P : Program) (Q : Exit → Slots → Mem → Prop) (s : Slots) (M : Mem) : wpC P c3_1 Q s M = w3_1 P Q M (sget s 0) (sget s 1) (sget s 2) := by kernel_rfl
def o3_2 : List AOper := [⟨some 10, (.call i_transitlaw08_exampleHolds []), true, none⟩,
  ⟨some 6, (.mov (.tmp 10)), true, none⟩]
def c3_3 : ACode := (.region o3_2 [6])
def w3_3 (P : Program) (Q : Exit → Slots → Mem → Prop) (M : Mem) : Prop :=
  @CallH P i_transitlaw08_exampleHolds [] M ⟨fun t10_1 M1 => @OptBH (some t10_1) ⟨fun b10_1 =>
  Q .normal [(6, (.bool b10_1))] M1⟩⟩
theorem e3_3 (P : Program) (Q : Exit → Slots → Mem → Prop) (s : Slots) (M : Mem) : wpC P c3_3 Q s M = w3_3 P Q M := by kernel_rfl
def c3_4 : ACode := (.seq c3_3 .ret)
def o3_5 : List AOper := [⟨some 7, (.mov (.tmp 0)), false, none⟩,
  ⟨some 8, (.lenSl (.tmp 7)), false, none⟩,
  ⟨some 9, (.bin .gtr .none (.tmp 8) (.const (.int .i64 30))), true, none⟩]
def c3_6 : ACode := (.seq (.region o3_5 [0, 2, 4, 9]) (.cond (.tmp 9) c3_4 .skip))
def w3_6 (P : Program) (Q : Exit → Slots → Mem → Prop) (M : Mem) (v0 : V) (v2 : V) (v4 : V) : Prop :=
  @OptVH (lenV v0 M) ⟨fun t8_2 =>
  @OptBH (binV .gtr .none t8_2 (.int .i64 30)) ⟨fun b9_3 =>
  @BIfH b9_3
  ⟨wpC P c3_4 Q [(0, v0), (2, v2), (4, v4), (9, (.bool b9_3))] M⟩
  ⟨Q .normal [(0, v0), (2, v2), (4, v4), (9, (.bool b9_3))] M⟩⟩⟩
theorem e3_6 (P : Program) (Q : Exit → Slots → Mem → Prop) (s : Slots) (M : Mem) : wpC P c3_6 Q s M = w3_6 P Q M (sget s 0) (sget s 2) (sget s 4) := by kernel_rfl
def o3_7 : List AOper := [⟨some 11, (.fieldAddr 0 (.tmp 4)), false, none⟩,
  ⟨some 12, (.load 1 false (.tmp 11)), false, none⟩,
  ⟨some 13, (.fieldAddr 1 (.tmp 4)), false, none⟩,
  ⟨some 14, (.load 1 false (.tmp 13)), false, none⟩,
  ⟨some 15, (.build [(.int .i64 0), (.int .i64 0)] [(0, (1, (.tmp 12))), (1, (1, (.tmp 14)))]), false, none⟩,
  ⟨some 16, (.call i_interval_Valid [(.tmp 15)]), true, none⟩,
  ⟨some 17, (.fieldAddr 0 (.tmp 4)), false, none⟩,
  ⟨some 18, (.load 1 false (.tmp 17)), false, none⟩,
  ⟨some 19, (.fieldAddr 1 (.tmp 4)), false, none⟩,
  ⟨some 20, (.load 1 false (.tmp 19)), false, none⟩,
  ⟨some 21, (.bin .lss .none (.tmp 18) (.tmp 20)), true, none⟩,
  ⟨some 22, (.bin .eql .bool (.tmp 16) (.tmp 21)), true, none⟩,
  ⟨some 23, (.mov (.tmp 22)), true, none⟩,
  ⟨some 24, (.mov (.tmp 0)), false, some (23, true)⟩,
  ⟨some 25, (.call i_transitlaw08_spans [(.tmp 24)]), false, some (23, true)⟩,
  ⟨some 26, (.mov (.tmp 2)), false, some (23, true)⟩,
  ⟨some 27, (.call i_interval_Contains [(.tmp 25), (.tmp 26)]), true, some (23, true)⟩,
  ⟨some 28, (.mov (.tmp 0)), false, some (23, true)⟩,
  ⟨some 29, (.mov (.tmp 2)), false, some (23, true)⟩,
  ⟨some 30, (.call i_transitref08_Contains [(.tmp 28), (.tmp 29)]), true, some (23, true)⟩,
  ⟨some 31, (.bin .eql .bool (.tmp 27) (.tmp 30)), true, some (23, true)⟩,
  ⟨some 32, (.pick (.tmp 23) (.tmp 31) (.const (.bool false))), true, none⟩,
  ⟨some 33, (.mov (.tmp 32)), true, none⟩,
  ⟨some 34, (.call i_transitlaw08_exampleHolds []), true, some (33, true)⟩,
  ⟨some 35, (.pick (.tmp 33) (.tmp 34) (.const (.bool false))), true, none⟩,
  ⟨some 6, (.mov (.tmp 35)), true, none⟩]
def c3_8 : ACode := (.mixed o3_7 [true, true, true, true, true, true, true, true, true, true, true, true, true, true, true, true, true, true, true, false, true, true, true, false, true, true] [6])
def w3_8 (P : Program) (Q : Exit → Slots → Mem → Prop) (M : Mem) (v0 : V) (v2 : V) (v4 : V) : Prop :=
  @OptVH (moveV 0 v4) ⟨fun t11_1 =>
  @OptVH (loadV 1 false t11_1 M) ⟨fun t12_2 =>
  @OptVH (moveV 1 v4) ⟨fun t13_3 =>
  @OptVH (loadV 1 false t13_3 M) ⟨fun t14_4 =>
  @OptVH (buildV [(.int .i64 0), (.int .i64 0)] [(0, 1, t12_2), (1, 1, t14_4)]) ⟨fun t15_5 =>
  @CallQ P i_interval_Valid [t15_5] M ⟨fun t16_6 M6 => @OptBH (some t16_6) ⟨fun b16_6 =>
  @OptVH (moveV 0 v4) ⟨fun t17_7 =>
  @OptVH (loadV 1 false t17_7 M6) ⟨fun t18_8 =>
  @OptVH (moveV 1 v4) ⟨fun t19_9 =>
  @OptVH (loadV 1 false t19_9 M6) ⟨fun t20_10 =>
  @OptBH (binV .lss .none t18_8 t20_10) ⟨fun b21_11 =>
  @OptBH (binV .eql .bool (.bool b16_6) (.bool b21_11)) ⟨fun b22_12 =>
  @BIfH b22_12
  ⟨@CallQ P i_transitlaw08_spans [v0] M6 ⟨fun t25_15 M15 =>
  @CallQ P i_interval_Contains [t25_15, v2] M15 ⟨fun t27_17 M17 => @OptBH (some t27_17) ⟨fun b27_17 =>
  @CallH P i_transitref08_Contains [v0, v2] M17 ⟨fun t30_20 M20 => @OptBH (some t30_20) ⟨fun b30_20 =>
  @OptBH (binV .eql .bool (.bool b27_17) (.bool b30_20)) ⟨fun b31_21 =>
  @BIfH b31_21
  ⟨@CallH P i_transitlaw08_exampleHolds [] M20 ⟨fun t34_24 M24 => @OptBH (some t34_24) ⟨fun b34_24 =>
  Q .normal [(6, (.bool b34_24))] M24⟩⟩⟩
  ⟨Q .normal [(6, (.bool false))] M20⟩⟩⟩⟩⟩⟩⟩⟩
  ⟨Q .normal [(6, (.bool false))] M6⟩⟩⟩⟩⟩⟩⟩⟩⟩⟩⟩⟩⟩⟩
theorem e3_8 (P : Program) (Q : Exit → Slots → Mem → Prop) (s : Slots) (M : Mem) : wpC P c3_8 Q s M = w3_8 P Q M (sget s 0) (sget s 2) (sget s 4) := by kernel_rfl
def c3_9 : ACode := (.seq c3_8 .ret)
def c3_10 : ACode := (.seq c3_6 c3_9)
def c3_11 : ACode := (.seq c3_1 c3_10)
def fn_transitlaw08_IntervalContains : AFn := ⟨36, [(.tmp 6)], c3_11⟩
theorem fn_transitlaw08_IntervalContains_ok : resFn PR h_transitlaw08_IntervalContains i_transitlaw08_IntervalContains = some fn_transitlaw08_IntervalContains := by kernel_rfl

def h_transitlaw08_IntervalNormalizes : Hints := ⟨[(0, [0]), (1, [0, 5]), (2, [2]), (3, [2])], [], []⟩
def o4_0 : List AOper := [⟨some 2, (.mov (.const (.bool false))), true, none⟩]
def c4_1 : ACode := (.region o4_0 [0])
def w4_1 (_P : Program) (Q : Exit → Slots → Mem → Prop) (M : Mem) (v0 : V) : Prop :=
  Q .normal [(0, v0)] M
theorem e4_1 (P : Program) (Q : Exit → Slots → Mem → Prop) (s : Slots) (M : Mem) : wpC P c4_1 Q s M = w4_1 P Q M (sget s 0) := by kernel_rfl
def o4_2 : List AOper := [⟨some 6, (.call i_transitlaw08_exampleHolds []), true, none⟩,
  ⟨some 2, (.mov (.tmp 6)), true, none⟩]
def c4_3 : ACode := (.region o4_2 [2])
def w4_3 (P : Program) (Q : Exit → Slots → Mem → Prop) (M : Mem) : Prop :=
  @CallH P i_transitlaw08_exampleHolds [] M ⟨fun t6_1 M1 => @OptBH (some t6_1) ⟨fun b6_1 =>
  Q .normal [(2, (.bool b6_1))] M1⟩⟩
theorem e4_3 (P : Program) (Q : Exit → Slots → Mem → Prop) (s : Slots) (M : Mem) : wpC P c4_3 Q s M = w4_3 P Q M := by kernel_rfl
def c4_4 : ACode := (.seq c4_3 .ret)
def o4_5 : List AOper := [⟨some 3, (.mov (.tmp 0)), false, none⟩,
  ⟨some 4, (.lenSl (.tmp 3)), false, none⟩,
  ⟨some 5, (.bin .gtr .none (.tmp 4) (.const (.int .i64 30))), true, none⟩]
def c4_6 : ACode := (.seq (.region o4_5 [0, 5]) (.cond (.tmp 5) c4_4 .skip))
def w4_6 (P : Program) (Q : Exit → Slots → Mem → Prop) (M : Mem) (v0 : V) : Prop :=
  @OptVH (lenV v0 M) ⟨fun t4_2 =>
  @OptBH (binV .gtr .none t4_2 (.int .i64 30)) ⟨fun b5_3 =>
  @BIfH b5_3
  ⟨wpC P c4_4 Q [(0, v0), (5, (.bool b5_3))] M⟩
  ⟨Q .normal [(0, v0), (5, (.bool b5_3))] M⟩⟩⟩
theorem e4_6 (P : Program) (Q : Exit → Slots → Mem → Prop) (s : Slots) (M : Mem) : wpC P c4_6 Q s M = w4_6 P Q M (sget s 0) := by kernel_rfl
def o4_7 : List AOper := [⟨some 7, (.mov (.tmp 0)), false, none⟩,
  ⟨some 8, (.call i_transitlaw08_spans [(.tmp 7)]), false, none⟩,
  ⟨some 9, (.call i_interval_Normalize [(.tmp 8)]), false, none⟩,
  ⟨some 10, (.mov (.tmp 0)), false, none⟩,
  ⟨some 11, (.call i_transitref08_Combine [(.tmp 10), (.const (.slice [] .nil)), (.const (.int .i64 0))]), false, none⟩,
  ⟨some 12, (.call i_transitlaw08_equal [(.tmp 9), (.tmp 11)]), true, none⟩,
  ⟨some 13, (.mov (.tmp 12)), true, none⟩,
  ⟨some 14, (.call i_transitlaw08_exampleHolds []), true, some (13, true)⟩,
  ⟨some 15, (.pick (.tmp 13) (.tmp 14) (.const (.bool false))), true, none⟩,
  ⟨some 2, (.mov (.tmp 15)), true, none⟩]
def c4_8 : ACode := (.region o4_7 [2])
def w4_8 (P : Program) (Q : Exit → Slots → Mem → Prop) (M : Mem) (v0 : V) : Prop :=
  @CallH P i_transitlaw08_spans [v0] M ⟨fun t8_2 M2 =>
  @CallH P i_interval_Normalize [t8_2] M2 ⟨fun t9_3 M3 =>
  @CallH P i_transitref08_Combine [v0, (.slice [] .nil), (.int .i64 0)] M3 ⟨fun t11_5 M5 =>
  @CallH P i_transitlaw08_equal [t9_3, t11_5] M5 ⟨fun t12_6 M6 => @OptBH (some t12_6) ⟨fun b12_6 =>
  @BIfH b12_6
  ⟨@CallH P i_transitlaw08_exampleHolds [] M6 ⟨fun t14_8 M8 => @OptBH (some t14_8) ⟨fun b14_8 =>
  Q .normal [(2, (.bool b14_8))] M8⟩⟩⟩
  ⟨Q .normal [(2, (.bool false))] M6⟩⟩⟩⟩⟩⟩
theorem e4_8 (P : Program) (Q : Exit → Slots → Mem → Prop) (s : Slots) (M : Mem) : wpC P c4_8 Q s M = w4_8 P Q M (sget s 0) := by kernel_rfl
def c4_9 : ACode := (.seq c4_8 .ret)
def c4_10 : ACode := (.seq c4_6 c4_9)
def c4_11 : ACode := (.seq c4_1 c4_10)
def fn_transitlaw08_IntervalNormalizes : AFn := ⟨16, [(.tmp 2)], c4_11⟩
theorem fn_transitlaw08_IntervalNormalizes_ok : resFn PR h_transitlaw08_IntervalNormalizes i_transitlaw08_IntervalNormalizes = some fn_transitlaw08_IntervalNormalizes := by kernel_rfl

def h_transitlaw08_IntervalCombines : Hints := ⟨[(0, [0, 1]), (1, [0, 1, 12]), (2, [4]), (3, [4])], [], []⟩
def o5_0 : List AOper := [⟨some 4, (.mov (.const (.bool false))), true, none⟩]
def c5_1 : ACode := (.region o5_0 [0, 1])
def w5_1 (_P : Program) (Q : Exit → Slots → Mem → Prop) (M : Mem) (v0 : V) (v1 : V) : Prop :=
  Q .normal [(0, v0), (1, v1)] M
theorem e5_1 (P : Program) (Q : Exit → Slots → Mem → Prop) (s : Slots) (M : Mem) : wpC P c5_1 Q s M = w5_1 P Q M (sget s 0) (sget s 1) := by kernel_rfl
def o5_2 : List AOper := [⟨some 13, (.call i_transitlaw08_exampleHolds []), true, none⟩,
  ⟨some 4, (.mov (.tmp 13)), true, none⟩]
def c5_3 : ACode := (.region o5_2 [4])
def w5_3 (P : Program) (Q : Exit → Slots → Mem → Prop) (M : Mem) : Prop :=
  @CallH P i_transitlaw08_exampleHolds [] M ⟨fun t13_1 M1 => @OptBH (some t13_1) ⟨fun b13_1 =>
  Q .normal [(4, (.bool b13_1))] M1⟩⟩
theorem e5_3 (P : Program) (Q : Exit → Slots → Mem → Prop) (s : Slots) (M : Mem) : wpC P c5_3 Q s M = w5_3 P Q M := by kernel_rfl
def c5_4 : ACode := (.seq c5_3 .ret)
def o5_5 : List AOper := [⟨some 5, (.mov (.tmp 0)), false, none⟩,
  ⟨some 6, (.lenSl (.tmp 5)), false, none⟩,
  ⟨some 7, (.bin .gtr .none (.tmp 6) (.const (.int .i64 30))), true, none⟩,
  ⟨some 8, (.mov (.tmp 7)), true, none⟩,
  ⟨some 9, (.mov (.tmp 1)), false, some (8, false)⟩,
  ⟨some 10, (.lenSl (.tmp 9)), false, some (8, false)⟩,
  ⟨some 11, (.bin .gtr .none (.tmp 10) (.const (.int .i64 30))), true, some (8, false)⟩,
  ⟨some 12, (.pick (.tmp 8) (.const (.bool true)) (.tmp 11)), true, none⟩]
def c5_6 : ACode := (.seq (.region o5_5 [0, 1, 12]) (.cond (.tmp 12) c5_4 .skip))
def w5_6 (P : Program) (Q : Exit → Slots → Mem → Prop) (M : Mem) (v0 : V) (v1 : V) : Prop :=
  @OptVH (lenV v0 M) ⟨fun t6_2 =>
  @OptBH (binV .gtr .none t6_2 (.int .i64 30)) ⟨fun b7_3 =>
  @BIfH b7_3
  ⟨wpC P c5_4 Q [(0, v0), (1, v1), (12, (.bool true))] M⟩
  ⟨@OptVH (lenV v1 M) ⟨fun t10_7 =>
  @OptBH (binV .gtr .none t10_7 (.int .i64 30)) ⟨fun b11_8 =>
  @BIfH b11_8
  ⟨wpC P c5_4 Q [(0, v0), (1, v1), (12, (.bool b11_8))] M⟩
  ⟨Q .normal [(0, v0), (1, v1), (12, (.bool b11_8))] M⟩⟩⟩⟩⟩⟩
theorem e5_6 (P : Program) (Q : Exit → Slots → Mem → Prop) (s : Slots) (M : Mem) : wpC P c5_6 Q s M = w5_6 P Q M (sget s 0) (sget s 1) := by kernel_rfl
def o5_7 : List AOper := [⟨some 14, (.mov (.tmp 0)), false, none⟩,
  ⟨some 15, (.call i_transitlaw08_spans [(.tmp 14)]), false, none⟩,
  ⟨some 16, (.mov (.tmp 1)), false, none⟩,
  ⟨some 17, (.call i_transitlaw08_spans [(.tmp 16)]), false, none⟩,
  ⟨some 18, (.call i_interval_Union [(.tmp 15), (.tmp 17)]), false, none⟩,
  ⟨some 19, (.mov (.tmp 0)), false, none⟩,
  ⟨some 20, (.mov (.tmp 1)), false, none⟩,
  ⟨some 21, (.call i_transitref08_Combine [(.tmp 19), (.tmp 20), (.const (.int .i64 0))]), false, none⟩,
  ⟨some 22, (.call i_transitlaw08_equal [(.tmp 18), (.tmp 21)]), true, none⟩,
  ⟨some 23, (.mov (.tmp 22)), true, none⟩,
  ⟨some 24, (.mov (.tmp 0)), false, some (23, true)⟩,
  ⟨some 25, (.call i_transitlaw08_spans [(.tmp 24)]), false, some (23, true)⟩,
  ⟨some 26, (.mov (.tmp 1)), false, some (23, true)⟩,
  ⟨some 27, (.call i_transitlaw08_spans [(.tmp 26)]), false, some (23, true)⟩,
  ⟨some 28, (.call i_interval_Intersect [(.tmp 25), (.tmp 27)]), false, some (23, true)⟩,
  ⟨some 29, (.mov (.tmp 0)), false, some (23, true)⟩,
  ⟨some 30, (.mov (.tmp 1)), false, some (23, true)⟩,
  ⟨some 31, (.call i_transitref08_Combine [(.tmp 29), (.tmp 30), (.const (.int .i64 1))]), false, some (23, true)⟩,
  ⟨some 32, (.call i_transitlaw08_equal [(.tmp 28), (.tmp 31)]), true, some (23, true)⟩,
  ⟨some 33, (.pick (.tmp 23) (.tmp 32) (.const (.bool false))), true, none⟩,
  ⟨some 34, (.mov (.tmp 33)), true, none⟩,
  ⟨some 35, (.mov (.tmp 0)), false, some (34, true)⟩,
  ⟨some 36, (.call i_transitlaw08_spans [(.tmp 35)]), false, some (34, true)⟩,
  ⟨some 37, (.mov (.tmp 1)), false, some (34, true)⟩,
  ⟨some 38, (.call i_transitlaw08_spans [(.tmp 37)]), false, some (34, true)⟩,
  ⟨some 39, (.call i_interval_Subtract [(.tmp 36), (.tmp 38)]), false, some (34, true)⟩,
  ⟨some 40, (.mov (.tmp 0)), false, some (34, true)⟩,
  ⟨some 41, (.mov (.tmp 1)), false, some (34, true)⟩,
  ⟨some 42, (.call i_transitref08_Combine [(.tmp 40), (.tmp 41), (.const (.int .i64 2))]), false, some (34, true)⟩,
  ⟨some 43, (.call i_transitlaw08_equal [(.tmp 39), (.tmp 42)]), true, some (34, true)⟩,
  ⟨some 44, (.pick (.tmp 34) (.tmp 43) (.const (.bool false))), true, none⟩,
  ⟨some 45, (.mov (.tmp 44)), true, none⟩,
  ⟨some 46, (.call i_transitlaw08_exampleHolds []), true, some (45, true)⟩,
  ⟨some 47, (.pick (.tmp 45) (.tmp 46) (.const (.bool false))), true, none⟩,
  ⟨some 4, (.mov (.tmp 47)), true, none⟩]
def c5_8 : ACode := (.region o5_7 [4])
def w5_8 (P : Program) (Q : Exit → Slots → Mem → Prop) (M : Mem) (v0 : V) (v1 : V) : Prop :=
  @CallH P i_transitlaw08_spans [v0] M ⟨fun t15_2 M2 =>
  @CallH P i_transitlaw08_spans [v1] M2 ⟨fun t17_4 M4 =>
  @CallH P i_interval_Union [t15_2, t17_4] M4 ⟨fun t18_5 M5 =>
  @CallH P i_transitref08_Combine [v0, v1, (.int .i64 0)] M5 ⟨fun t21_8 M8 =>
  @CallH P i_transitlaw08_equal [t18_5, t21_8] M8 ⟨fun t22_9 M9 => @OptBH (some t22_9) ⟨fun b22_9 =>
  @BIfH b22_9
  ⟨@CallH P i_transitlaw08_spans [v0] M9 ⟨fun t25_12 M12 =>
  @CallH P i_transitlaw08_spans [v1] M12 ⟨fun t27_14 M14 =>
  @CallH P i_interval_Intersect [t25_12, t27_14] M14 ⟨fun t28_15 M15 =>
  @CallH P i_transitref08_Combine [v0, v1, (.int .i64 1)] M15 ⟨fun t31_18 M18 =>
  @CallH P i_transitlaw08_equal [t28_15, t31_18] M18 ⟨fun t32_19 M19 => @OptBH (some t32_19) ⟨fun b32_19 =>
  @BIfH b32_19
  ⟨@CallH P i_transitlaw08_spans [v0] M19 ⟨fun t36_23 M23 =>
  @CallH P i_transitlaw08_spans [v1] M23 ⟨fun t38_25 M25 =>
  @CallH P i_interval_Subtract [t36_23, t38_25] M25 ⟨fun t39_26 M26 =>
  @CallH P i_transitref08_Combine [v0, v1, (.int .i64 2)] M26 ⟨fun t42_29 M29 =>
  @CallH P i_transitlaw08_equal [t39_26, t42_29] M29 ⟨fun t43_30 M30 => @OptBH (some t43_30) ⟨fun b43_30 =>
  @BIfH b43_30
  ⟨@CallH P i_transitlaw08_exampleHolds [] M30 ⟨fun t46_33 M33 => @OptBH (some t46_33) ⟨fun b46_33 =>
  Q .normal [(4, (.bool b46_33))] M33⟩⟩⟩
  ⟨Q .normal [(4, (.bool false))] M30⟩⟩⟩⟩⟩⟩⟩⟩
  ⟨Q .normal [(4, (.bool false))] M19⟩⟩⟩⟩⟩⟩⟩⟩
  ⟨Q .normal [(4, (.bool false))] M9⟩⟩⟩⟩⟩⟩⟩
theorem e5_8 (P : Program) (Q : Exit → Slots → Mem → Prop) (s : Slots) (M : Mem) : wpC P c5_8 Q s M = w5_8 P Q M (sget s 0) (sget s 1) := by kernel_rfl
def c5_9 : ACode := (.seq c5_8 .ret)
def c5_10 : ACode := (.seq c5_6 c5_9)
def c5_11 : ACode := (.seq c5_1 c5_10)
def fn_transitlaw08_IntervalCombines : AFn := ⟨48, [(.tmp 4)], c5_11⟩
theorem fn_transitlaw08_IntervalCombines_ok : resFn PR h_transitlaw08_IntervalCombines i_transitlaw08_IntervalCombines = some fn_transitlaw08_IntervalCombines := by kernel_rfl

def h_transitlaw08_IntervalLengths : Hints := ⟨[(0, [0]), (1, [0, 9]), (2, [2]), (3, [0, 3, 4]), (4, [3, 4, 5, 6]), (5, [2])], [], []⟩
def o6_0 : List AOper := [⟨some 2, (.mov (.const (.bool false))), true, none⟩]
def c6_1 : ACode := (.region o6_0 [0])
def w6_1 (_P : Program) (Q : Exit → Slots → Mem → Prop) (M : Mem) (v0 : V) : Prop :=
  Q .normal [(0, v0)] M
theorem e6_1 (P : Program) (Q : Exit → Slots → Mem → Prop) (s : Slots) (M : Mem) : wpC P c6_1 Q s M = w6_1 P Q M (sget s 0) := by kernel_rfl
def o6_2 : List AOper := [⟨some 10, (.call i_transitlaw08_exampleHolds []), true, none⟩,
  ⟨some 2, (.mov (.tmp 10)), true, none⟩]
def c6_3 : ACode := (.region o6_2 [2])
def w6_3 (P : Program) (Q : Exit → Slots → Mem → Prop) (M : Mem) : Prop :=
  @CallH P i_transitlaw08_exampleHolds [] M ⟨fun t10_1 M1 => @OptBH (some t10_1) ⟨fun b10_1 =>
  Q .normal [(2, (.bool b10_1))] M1⟩⟩
theorem e6_3 (P : Program) (Q : Exit → Slots → Mem → Prop) (s : Slots) (M : Mem) : wpC P c6_3 Q s M = w6_3 P Q M := by kernel_rfl
def c6_4 : ACode := (.seq c6_3 .ret)
def o6_5 : List AOper := [⟨some 7, (.mov (.tmp 0)), false, none⟩,
  ⟨some 8, (.lenSl (.tmp 7)), false, none⟩,
  ⟨some 9, (.bin .gtr .none (.tmp 8) (.const (.int .i64 30))), true, none⟩]
def c6_6 : ACode := (.seq (.region o6_5 [0, 9]) (.cond (.tmp 9) c6_4 .skip))
def w6_6 (P : Program) (Q : Exit → Slots → Mem → Prop) (M : Mem) (v0 : V) : Prop :=
  @OptVH (lenV v0 M) ⟨fun t8_2 =>
  @OptBH (binV .gtr .none t8_2 (.int .i64 30)) ⟨fun b9_3 =>
  @BIfH b9_3
  ⟨wpC P c6_4 Q [(0, v0), (9, (.bool b9_3))] M⟩
  ⟨Q .normal [(0, v0), (9, (.bool b9_3))] M⟩⟩⟩
theorem e6_6 (P : Program) (Q : Exit → Slots → Mem → Prop) (s : Slots) (M : Mem) : wpC P c6_6 Q s M = w6_6 P Q M (sget s 0) := by kernel_rfl
def o6_7 : List AOper := [⟨some 12, (.mov (.tmp 0)), false, none⟩,
  ⟨some 13, (.call i_transitlaw08_spans [(.tmp 12)]), false, none⟩,
  ⟨some 14, (.call i_interval_Length [(.tmp 13)]), false, none⟩,
  ⟨some 11, (.mov (.tmp 14)), false, none⟩,
  ⟨some 15, (.extract (.tmp 11) 0), false, none⟩,
  ⟨some 16, (.extract (.tmp 11) 1), true, none⟩,
  ⟨some 3, (.mov (.tmp 15)), false, none⟩,
  ⟨some 4, (.mov (.tmp 16)), true, none⟩]
def c6_8 : ACode := (.region o6_7 [0, 3, 4])
def w6_8 (P : Program) (Q : Exit → Slots → Mem → Prop) (M : Mem) (v0 : V) : Prop :=
  @CallH P i_transitlaw08_spans [v0] M ⟨fun t13_2 M2 =>
  @CallH P i_interval_Length [t13_2] M2 ⟨fun t14_3 M3 =>
  @OptVH (extractV t14_3 0) ⟨fun t15_5 =>
  @OptBH (extractV t14_3 1) ⟨fun b16_6 =>
  Q .normal [(0, v0), (3, t15_5), (4, (.bool b16_6))] M3⟩⟩⟩⟩
theorem e6_8 (P : Program) (Q : Exit → Slots → Mem → Prop) (s : Slots) (M : Mem) : wpC P c6_8 Q s M = w6_8 P Q M (sget s 0) := by kernel_rfl
def o6_9 : List AOper := [⟨some 18, (.mov (.tmp 0)), false, none⟩,
  ⟨some 19, (.call i_transitref08_Length [(.tmp 18)]), false, none⟩,
  ⟨some 17, (.mov (.tmp 19)), false, none⟩,
  ⟨some 20, (.extract (.tmp 17) 0), false, none⟩,
  ⟨some 21, (.extract (.tmp 17) 1), true, none⟩,
  ⟨some 5, (.mov (.tmp 20)), false, none⟩,
  ⟨some 6, (.mov (.tmp 21)), true, none⟩]
def c6_10 : ACode := (.region o6_9 [3, 4, 5, 6])
def w6_10 (P : Program) (Q : Exit → Slots → Mem → Prop) (M : Mem) (v0 : V) (v3 : V) (v4 : V) : Prop :=
  @CallH P i_transitref08_Length [v0] M ⟨fun t19_2 M2 =>
  @OptVH (extractV t19_2 0) ⟨fun t20_4 =>
  @OptBH (extractV t19_2 1) ⟨fun b21_5 =>
  Q .normal [(3, v3), (4, v4), (5, t20_4), (6, (.bool b21_5))] M2⟩⟩⟩
theorem e6_10 (P : Program) (Q : Exit → Slots → Mem → Prop) (s : Slots) (M : Mem) : wpC P c6_10 Q s M = w6_10 P Q M (sget s 0) (sget s 3) (sget s 4) := by kernel_rfl
def o6_11 : List AOper := [⟨some 22, (.mov (.tmp 3)), false, none⟩,
  ⟨some 23, (.mov (.tmp 5)), false, none⟩,
  ⟨some 24, (.bin .eql .none (.tmp 22) (.tmp 23)), true, none⟩,
  ⟨some 25, (.mov (.tmp 24)), true, none⟩,
  ⟨some 26, (.mov (.tmp 4)), true, some (25, true)⟩,
  ⟨some 27, (.mov (.tmp 6)), true, some (25, true)⟩,
  ⟨some 28, (.bin .eql .bool (.tmp 26) (.tmp 27)), true, some (25, true)⟩,
  ⟨some 29, (.pick (.tmp 25) (.tmp 28) (.const (.bool false))), true, none⟩,
  ⟨some 30, (.mov (.tmp 29)), true, none⟩,
  ⟨some 31, (.call i_transitlaw08_exampleHolds []), true, some (30, true)⟩,
  ⟨some 32, (.pick (.tmp 30) (.tmp 31) (.const (.bool false))), true, none⟩,
  ⟨some 2, (.mov (.tmp 32)), true, none⟩]
def c6_12 : ACode := (.region o6_11 [2])
def w6_12 (P : Program) (Q : Exit → Slots → Mem → Prop) (M : Mem) (v3 : V) (v4 : V) (v5 : V) (v6 : V) : Prop :=
  @OptBH (binV .eql .none v3 v5) ⟨fun b24_3 =>
  @BIfH b24_3
  ⟨@OptBH (some v4) ⟨fun b26_5 =>
  @OptBH (some v6) ⟨fun b27_6 =>
  @OptBH (binV .eql .bool (.bool b26_5) (.bool b27_6)) ⟨fun b28_7 =>
  @BIfH b28_7
  ⟨@CallH P i_transitlaw08_exampleHolds [] M ⟨fun t31_10 M10 => @OptBH (some t31_10) ⟨fun b31_10 =>
  Q .normal [(2, (.bool b31_10))] M10⟩⟩⟩
  ⟨Q .normal [(2, (.bool false))] M⟩⟩⟩⟩⟩
  ⟨Q .normal [(2, (.bool false))] M⟩⟩
theorem e6_12 (P : Program) (Q : Exit → Slots → Mem → Prop) (s : Slots) (M : Mem) : wpC P c6_12 Q s M = w6_12 P Q M (sget s 3) (sget s 4) (sget s 5) (sget s 6) := by kernel_rfl
def c6_13 : ACode := (.seq c6_12 .ret)
def c6_14 : ACode := (.seq c6_10 c6_13)
def c6_15 : ACode := (.seq c6_8 c6_14)
def c6_16 : ACode := (.seq c6_6 c6_15)
def c6_17 : ACode := (.seq c6_1 c6_16)
def fn_transitlaw08_IntervalLengths : AFn := ⟨33, [(.tmp 2)], c6_17⟩
theorem fn_transitlaw08_IntervalLengths_ok : resFn PR h_transitlaw08_IntervalLengths i_transitlaw08_IntervalLengths = some fn_transitlaw08_IntervalLengths := by kernel_rfl

def h_transitlaw08_IntervalGaps : Hints := ⟨[(0, [0, 3]), (1, [0, 3, 7]), (2, [4]), (3, [4])], [], []⟩
def o7_0 : List AOper := [⟨some 3, (.box 2 (.tmp 1)), false, none⟩,
  ⟨some 4, (.mov (.const (.bool false))), true, none⟩]
def c7_1 : ACode := (.region o7_0 [0, 3])
def w7_1 (_P : Program) (Q : Exit → Slots → Mem → Prop) (M : Mem) (v0 : V) (v1 : V) : Prop :=
  @OptMH (boxV 2 v1 M) ⟨fun t3_1 M1 =>
  Q .normal [(0, v0), (3, t3_1)] M1⟩
theorem e7_1 (P : Program) (Q : Exit → Slots → Mem → Prop) (s : Slots) (M : Mem) : wpC P c7_1 Q s M = w7_1 P Q M (sget s 0) (sget s 1) := by kernel_rfl
def o7_2 : List AOper := [⟨some 8, (.call i_transitlaw08_exampleHolds []), true, none⟩,
  ⟨some 4, (.mov (.tmp 8)), true, none⟩]
def c7_3 : ACode := (.region o7_2 [4])
def w7_3 (P : Program) (Q : Exit → Slots → Mem → Prop) (M : Mem) : Prop :=
  @CallH P i_transitlaw08_exampleHolds [] M ⟨fun t8_1 M1 => @OptBH (some t8_1) ⟨fun b8_1 =>
  Q .normal [(4, (.bool b8_1))] M1⟩⟩
theorem e7_3 (P : Program) (Q : Exit → Slots → Mem → Prop) (s : Slots) (M : Mem) : wpC P c7_3 Q s M = w7_3 P Q M := by kernel_rfl
def c7_4 : ACode := (.seq c7_3 .ret)
def o7_5 : List AOper := [⟨some 5, (.mov (.tmp 0)), false, none⟩,
  ⟨some 6, (.lenSl (.tmp 5)), false, none⟩,
  ⟨some 7, (.bin .gtr .none (.tmp 6) (.const (.int .i64 30))), true, none⟩]
def c7_6 : ACode := (.seq (.region o7_5 [0, 3, 7]) (.cond (.tmp 7) c7_4 .skip))
def w7_6 (P : Program) (Q : Exit → Slots → Mem → Prop) (M : Mem) (v0 : V) (v3 : V) : Prop :=
  @OptVH (lenV v0 M) ⟨fun t6_2 =>
  @OptBH (binV .gtr .none t6_2 (.int .i64 30)) ⟨fun b7_3 =>
  @BIfH b7_3
  ⟨wpC P c7_4 Q [(0, v0), (3, v3), (7, (.bool b7_3))] M⟩
  ⟨Q .normal [(0, v0), (3, v3), (7, (.bool b7_3))] M⟩⟩⟩
theorem e7_6 (P : Program) (Q : Exit → Slots → Mem → Prop) (s : Slots) (M : Mem) : wpC P c7_6 Q s M = w7_6 P Q M (sget s 0) (sget s 3) := by kernel_rfl
def o7_7 : List AOper := [⟨some 9, (.mov (.tmp 0)), false, none⟩,
  ⟨some 10, (.call i_transitlaw08_spans [(.tmp 9)]), false, none⟩,
  ⟨some 11, (.fieldAddr 0 (.tmp 3)), false, none⟩,
  ⟨some 12, (.load 1 false (.tmp 11)), false, none⟩,
  ⟨some 13, (.fieldAddr 1 (.tmp 3)), false, none⟩,
  ⟨some 14, (.load 1 false (.tmp 13)), false, none⟩,
  ⟨some 15, (.build [(.int .i64 0), (.int .i64 0)] [(0, (1, (.tmp 12))), (1, (1, (.tmp 14)))]), false, none⟩,
  ⟨some 16, (.call i_interval_Gaps [(.tmp 10), (.tmp 15)]), false, none⟩,
  ⟨some 17, (.load 2 true (.tmp 3)), false, none⟩,
  ⟨some 18, (.buildSlice [(.int .i64 0), (.int .i64 0)] 2 1 [(0, (2, (.tmp 17)))]), false, none⟩,
  ⟨some 19, (.mov (.tmp 0)), false, none⟩,
  ⟨some 20, (.call i_transitref08_Combine [(.tmp 18), (.tmp 19), (.const (.int .i64 2))]), false, none⟩,
  ⟨some 21, (.call i_transitlaw08_equal [(.tmp 16), (.tmp 20)]), true, none⟩,
  ⟨some 22, (.mov (.tmp 21)), true, none⟩,
  ⟨some 23, (.call i_transitlaw08_exampleHolds []), true, some (22, true)⟩,
  ⟨some 24, (.pick (.tmp 22) (.tmp 23) (.const (.bool false))), true, none⟩,
  ⟨some 4, (.mov (.tmp 24)), true, none⟩]
def c7_8 : ACode := (.mixed o7_7 [true, true, true, true, true, true, true, true, true, true, true, false, false, true, false, true, true] [4])
def w7_8 (P : Program) (Q : Exit → Slots → Mem → Prop) (M : Mem) (v0 : V) (v3 : V) : Prop :=
  @CallQ P i_transitlaw08_spans [v0] M ⟨fun t10_2 M2 =>
  @OptVH (moveV 0 v3) ⟨fun t11_3 =>
  @OptVH (loadV 1 false t11_3 M2) ⟨fun t12_4 =>
  @OptVH (moveV 1 v3) ⟨fun t13_5 =>
  @OptVH (loadV 1 false t13_5 M2) ⟨fun t14_6 =>
  @OptVH (buildV [(.int .i64 0), (.int .i64 0)] [(0, 1, t12_4), (1, 1, t14_6)]) ⟨fun t15_7 =>
  @CallQ P i_interval_Gaps [t10_2, t15_7] M2 ⟨fun t16_8 M8 =>
  @OptVH (loadV 2 true v3 M8) ⟨fun t17_9 =>
  @OptVH (buildSliceV [(.int .i64 0), (.int .i64 0)] 2 1 [(0, 2, t17_9)]) ⟨fun t18_10 =>
  @CallH P i_transitref08_Combine [t18_10, v0, (.int .i64 2)] M8 ⟨fun t20_12 M12 =>
  @CallH P i_transitlaw08_equal [t16_8, t20_12] M12 ⟨fun t21_13 M13 => @OptBH (some t21_13) ⟨fun b21_13 =>
  @BIfH b21_13
  ⟨@CallH P i_transitlaw08_exampleHolds [] M13 ⟨fun t23_15 M15 => @OptBH (some t23_15) ⟨fun b23_15 =>
  Q .normal [(4, (.bool b23_15))] M15⟩⟩⟩
  ⟨Q .normal [(4, (.bool false))] M13⟩⟩⟩⟩⟩⟩⟩⟩⟩⟩⟩⟩⟩
theorem e7_8 (P : Program) (Q : Exit → Slots → Mem → Prop) (s : Slots) (M : Mem) : wpC P c7_8 Q s M = w7_8 P Q M (sget s 0) (sget s 3) := by kernel_rfl
def c7_9 : ACode := (.seq c7_8 .ret)
def c7_10 : ACode := (.seq c7_6 c7_9)
def c7_11 : ACode := (.seq c7_1 c7_10)
def fn_transitlaw08_IntervalGaps : AFn := ⟨25, [(.tmp 4)], c7_11⟩
theorem fn_transitlaw08_IntervalGaps_ok : resFn PR h_transitlaw08_IntervalGaps i_transitlaw08_IntervalGaps = some fn_transitlaw08_IntervalGaps := by kernel_rfl

def h_transitlaw08_IntervalAlgebra : Hints := ⟨[(0, [0, 1, 2]), (1, [0, 1, 2, 18]), (2, [6]), (3, [2, 7, 8]), (4, [2, 7, 8, 9, 10]), (5, [6])], [], []⟩
def o8_0 : List AOper := [⟨some 6, (.mov (.const (.bool false))), true, none⟩]
def c8_1 : ACode := (.region o8_0 [0, 1, 2])
def w8_1 (_P : Program) (Q : Exit → Slots → Mem → Prop) (M : Mem) (v0 : V) (v1 : V) (v2 : V) : Prop :=
  Q .normal [(0, v0), (1, v1), (2, v2)] M
theorem e8_1 (P : Program) (Q : Exit → Slots → Mem → Prop) (s : Slots) (M : Mem) : wpC P c8_1 Q s M = w8_1 P Q M (sget s 0) (sget s 1) (sget s 2) := by kernel_rfl
def o8_2 : List AOper := [⟨some 19, (.call i_transitlaw08_exampleHolds []), true, none⟩,
  ⟨some 6, (.mov (.tmp 19)), true, none⟩]
def c8_3 : ACode := (.region o8_2 [6])
def w8_3 (P : Program) (Q : Exit → Slots → Mem → Prop) (M : Mem) : Prop :=
  @CallH P i_transitlaw08_exampleHolds [] M ⟨fun t19_1 M1 => @OptBH (some t19_1) ⟨fun b19_1 =>
  Q .normal [(6, (.bool b19_1))] M1⟩⟩
theorem e8_3 (P : Program) (Q : Exit → Slots → Mem → Prop) (s : Slots) (M : Mem) : wpC P c8_3 Q s M = w8_3 P Q M := by kernel_rfl
def c8_4 : ACode := (.seq c8_3 .ret)
def o8_5 : List AOper := [⟨some 11, (.mov (.tmp 0)), false, none⟩,
  ⟨some 12, (.lenSl (.tmp 11)), false, none⟩,
  ⟨some 13, (.bin .gtr .none (.tmp 12) (.const (.int .i64 60))), true, none⟩,
  ⟨some 14, (.mov (.tmp 13)), true, none⟩,
  ⟨some 15, (.mov (.tmp 1)), false, some (14, false)⟩,
  ⟨some 16, (.lenSl (.tmp 15)), false, some (14, false)⟩,
  ⟨some 17, (.bin .gtr .none (.tmp 16) (.const (.int .i64 60))), true, some (14, false)⟩,
  ⟨some 18, (.pick (.tmp 14) (.const (.bool true)) (.tmp 17)), true, none⟩]
def c8_6 : ACode := (.seq (.region o8_5 [0, 1, 2, 18]) (.cond (.tmp 18) c8_4 .skip))
def w8_6 (P : Program) (Q : Exit → Slots → Mem → Prop) (M : Mem) (v0 : V) (v1 : V) (v2 : V) : Prop :=
  @OptVH (lenV v0 M) ⟨fun t12_2 =>
  @OptBH (binV .gtr .none t12_2 (.int .i64 60)) ⟨fun b13_3 =>
  @BIfH b13_3
  ⟨wpC P c8_4 Q [(0, v0), (1, v1), (2, v2), (18, (.bool true))] M⟩
  ⟨@OptVH (lenV v1 M) ⟨fun t16_7 =>
  @OptBH (binV .gtr .none t16_7 (.int .i64 60)) ⟨fun b17_8 =>
  @BIfH b17_8
  ⟨wpC P c8_4 Q [(0, v0), (1, v1), (2, v2), (18, (.bool b17_8))] M⟩
  ⟨Q .normal [(0, v0), (1, v1), (2, v2), (18, (.bool b17_8))] M⟩⟩⟩⟩⟩⟩
theorem e8_6 (P : Program) (Q : Exit → Slots → Mem → Prop) (s : Slots) (M : Mem) : wpC P c8_6 Q s M = w8_6 P Q M (sget s 0) (sget s 1) (sget s 2) := by kernel_rfl
def o8_7 : List AOper := [⟨some 20, (.mov (.tmp 0)), false, none⟩,
  ⟨some 21, (.call i_transitlaw08_spans [(.tmp 20)]), false, none⟩,
  ⟨some 22, (.mov (.tmp 1)), false, none⟩,
  ⟨some 23, (.call i_transitlaw08_spans [(.tmp 22)]), false, none⟩,
  ⟨some 7, (.mov (.tmp 21)), false, none⟩,
  ⟨some 8, (.mov (.tmp 23)), false, none⟩]
def c8_8 : ACode := (.region o8_7 [2, 7, 8])
def w8_8 (P : Program) (Q : Exit → Slots → Mem → Prop) (M : Mem) (v0 : V) (v1 : V) (v2 : V) : Prop :=
  @CallH P i_transitlaw08_spans [v0] M ⟨fun t21_2 M2 =>
  @CallH P i_transitlaw08_spans [v1] M2 ⟨fun t23_4 M4 =>
  Q .normal [(2, v2), (7, t21_2), (8, t23_4)] M4⟩⟩
theorem e8_8 (P : Program) (Q : Exit → Slots → Mem → Prop) (s : Slots) (M : Mem) : wpC P c8_8 Q s M = w8_8 P Q M (sget s 0) (sget s 1) (sget s 2) := by kernel_rfl
def o8_9 : List AOper := [⟨some 24, (.mov (.tmp 7)), false, none⟩,
  ⟨some 25, (.mov (.tmp 2)), false, none⟩,
  ⟨some 26, (.call i_interval_Contains [(.tmp 24), (.tmp 25)]), true, none⟩,
  ⟨some 27, (.mov (.tmp 8)), false, none⟩,
  ⟨some 28, (.mov (.tmp 2)), false, none⟩,
  ⟨some 29, (.call i_interval_Contains [(.tmp 27), (.tmp 28)]), true, none⟩,
  ⟨some 9, (.mov (.tmp 26)), true, none⟩,
  ⟨some 10, (.mov (.tmp 29)), true, none⟩]
def c8_10 : ACode := (.region o8_9 [2, 7, 8, 9, 10])
def w8_10 (P : Program) (Q : Exit → Slots → Mem → Prop) (M : Mem) (v2 : V) (v7 : V) (v8 : V) : Prop :=
  @CallH P i_interval_Contains [v7, v2] M ⟨fun t26_3 M3 => @OptBH (some t26_3) ⟨fun b26_3 =>
  @CallH P i_interval_Contains [v8, v2] M3 ⟨fun t29_6 M6 => @OptBH (some t29_6) ⟨fun b29_6 =>
  Q .normal [(2, v2), (7, v7), (8, v8), (9, (.bool b26_3)), (10, (.bool b29_6))] M6⟩⟩⟩⟩
theorem e8_10 (P : Program) (Q : Exit → Slots → Mem → Prop) (s : Slots) (M : Mem) : wpC P c8_10 Q s M = w8_10 P Q M (sget s 2) (sget s 7) (sget s 8) := by kernel_rfl
def o8_11 : List AOper := [⟨some 30, (.mov (.tmp 7)), false, none⟩,
  ⟨some 31, (.mov (.tmp 8)), false, none⟩,
  ⟨some 32, (.call i_interval_Union [(.tmp 30), (.tmp 31)]), false, none⟩,
  ⟨some 33, (.mov (.tmp 2)), false, none⟩,
  ⟨some 34, (.call i_interval_Contains [(.tmp 32), (.tmp 33)]), true, none⟩,
  ⟨some 35, (.mov (.tmp 9)), true, none⟩,
  ⟨some 36, (.mov (.tmp 35)), true, none⟩,
  ⟨some 37, (.mov (.tmp 10)), true, some (36, false)⟩,
  ⟨some 38, (.pick (.tmp 36) (.const (.bool true)) (.tmp 37)), true, none⟩,
  ⟨some 39, (.bin .eql .bool (.tmp 34) (.tmp 38)), true, none⟩,
  ⟨some 40, (.mov (.tmp 39)), true, none⟩,
  ⟨some 41, (.mov (.tmp 7)), false, some (40, true)⟩,
  ⟨some 42, (.mov (.tmp 8)), false, some (40, true)⟩,
  ⟨some 43, (.call i_interval_Intersect [(.tmp 41), (.tmp 42)]), false, some (40, true)⟩,
  ⟨some 44, (.mov (.tmp 2)), false, some (40, true)⟩,
  ⟨some 45, (.call i_interval_Contains [(.tmp 43), (.tmp 44)]), true, some (40, true)⟩,
  ⟨some 46, (.mov (.tmp 9)), true, some (40, true)⟩,
  ⟨some 47, (.mov (.tmp 46)), true, some (40, true)⟩,
  ⟨some 48, (.mov (.tmp 10)), true, some (47, true)⟩,
  ⟨some 49, (.pick (.tmp 47) (.tmp 48) (.const (.bool false))), true, some (40, true)⟩,
  ⟨some 50, (.bin .eql .bool (.tmp 45) (.tmp 49)), true, some (40, true)⟩,
  ⟨some 51, (.pick (.tmp 40) (.tmp 50) (.const (.bool false))), true, none⟩,
  ⟨some 52, (.mov (.tmp 51)), true, none⟩,
  ⟨some 53, (.mov (.tmp 7)), false, some (52, true)⟩,
  ⟨some 54, (.mov (.tmp 8)), false, some (52, true)⟩,
  ⟨some 55, (.call i_interval_Subtract [(.tmp 53), (.tmp 54)]), false, some (52, true)⟩,
  ⟨some 56, (.mov (.tmp 2)), false, some (52, true)⟩,
  ⟨some 57, (.call i_interval_Contains [(.tmp 55), (.tmp 56)]), true, some (52, true)⟩,
  ⟨some 58, (.mov (.tmp 9)), true, some (52, true)⟩,
  ⟨some 59, (.mov (.tmp 58)), true, some (52, true)⟩,
  ⟨some 60, (.mov (.tmp 10)), true, some (59, true)⟩,
  ⟨some 61, (.un .not (.tmp 60)), true, some (59, true)⟩,
  ⟨some 62, (.pick (.tmp 59) (.tmp 61) (.const (.bool false))), true, some (52, true)⟩,
  ⟨some 63, (.bin .eql .bool (.tmp 57) (.tmp 62)), true, some (52, true)⟩,
  ⟨some 64, (.pick (.tmp 52) (.tmp 63) (.const (.bool false))), true, none⟩,
  ⟨some 65, (.mov (.tmp 64)), true, none⟩,
  ⟨some 66, (.mov (.tmp 7)), false, some (65, true)⟩,
  ⟨some 67, (.call i_interval_Normalize [(.tmp 66)]), false, some (65, true)⟩,
  ⟨some 68, (.mov (.tmp 2)), false, some (65, true)⟩,
  ⟨some 69, (.call i_interval_Contains [(.tmp 67), (.tmp 68)]), true, some (65, true)⟩,
  ⟨some 70, (.mov (.tmp 9)), true, some (65, true)⟩,
  ⟨some 71, (.bin .eql .bool (.tmp 69) (.tmp 70)), true, some (65, true)⟩,
  ⟨some 72, (.pick (.tmp 65) (.tmp 71) (.const (.bool false))), true, none⟩,
  ⟨some 73, (.mov (.tmp 72)), true, none⟩,
  ⟨some 74, (.call i_transitlaw08_exampleHolds []), true, some (73, true)⟩,
  ⟨some 75, (.pick (.tmp 73) (.tmp 74) (.const (.bool false))), true, none⟩,
  ⟨some 6, (.mov (.tmp 75)), true, none⟩]
def c8_12 : ACode := (.region o8_11 [6])
def w8_12 (P : Program) (Q : Exit → Slots → Mem → Prop) (M : Mem) (v2 : V) (v7 : V) (v8 : V) (v9 : V) (v10 : V) : Prop :=
  @CallH P i_interval_Union [v7, v8] M ⟨fun t32_3 M3 =>
  @CallH P i_interval_Contains [t32_3, v2] M3 ⟨fun t34_5 M5 => @OptBH (some t34_5) ⟨fun b34_5 =>
  @OptBH (some v9) ⟨fun b35_6 =>
  @BIfH b35_6
  ⟨@OptBH (binV .eql .bool (.bool b34_5) (.bool true)) ⟨fun b39_9 =>
  @BIfH b39_9
  ⟨@CallH P i_interval_Intersect [v7, v8] M5 ⟨fun t43_13 M13 =>
  @CallH P i_interval_Contains [t43_13, v2] M13 ⟨fun t45_15 M15 => @OptBH (some t45_15) ⟨fun b45_15 =>
  @OptBH (some v9) ⟨fun b46_16 =>
  @BIfH b46_16
  ⟨@OptBH (some v10) ⟨fun b48_18 =>
  @OptBH (binV .eql .bool (.bool b45_15) (.bool b48_18)) ⟨fun b50_20 =>
  @BIfH b50_20
  ⟨@CallH P i_interval_Subtract [v7, v8] M15 ⟨fun t55_25 M25 =>
  @CallH P i_interval_Contains [t55_25, v2] M25 ⟨fun t57_27 M27 => @OptBH (some t57_27) ⟨fun b57_27 =>
  @OptBH (some v9) ⟨fun b58_28 =>
  @BIfH b58_28
  ⟨@OptBH (some v10) ⟨fun b60_30 =>
  @OptBH (unV .not (.bool b60_30)) ⟨fun b61_31 =>
  @OptBH (binV .eql .bool (.bool b57_27) (.bool b61_31)) ⟨fun b63_33 =>
  @BIfH b63_33
  ⟨@CallH P i_interval_Normalize [v7] M27 ⟨fun t67_37 M37 =>
  @CallH P i_interval_Contains [t67_37, v2] M37 ⟨fun t69_39 M39 => @OptBH (some t69_39) ⟨fun b69_39 =>
  @OptBH (some v9) ⟨fun b70_40 =>
  @OptBH (binV .eql .bool (.bool b69_39) (.bool b70_40)) ⟨fun b71_41 =>
  @BIfH b71_41
  ⟨@CallH P i_transitlaw08_exampleHolds [] M39 ⟨fun t74_44 M44 => @OptBH (some t74_44) ⟨fun b74_44 =>
  Q .normal [(6, (.bool b74_44))] M44⟩⟩⟩
  ⟨Q .normal [(6, (.bool false))] M39⟩⟩⟩⟩⟩⟩⟩
  ⟨Q .normal [(6, (.bool false))] M27⟩⟩⟩⟩⟩
  ⟨@OptBH (binV .eql .bool (.bool b57_27) (.bool false)) ⟨fun b63_54 =>
  @BIfH b63_54
  ⟨@CallH P i_interval_Normalize [v7] M27 ⟨fun t67_58 M58 =>
  @CallH P i_interval_Contains [t67_58, v2] M58 ⟨fun t69_60 M60 => @OptBH (some t69_60) ⟨fun b69_60 =>
  @OptBH (some v9) ⟨fun b70_61 =>
  @OptBH (binV .eql .bool (.bool b69_60) (.bool b70_61)) ⟨fun b71_62 =>
  @BIfH b71_62
  ⟨@CallH P i_transitlaw08_exampleHolds [] M60 ⟨fun t74_65 M65 => @OptBH (some t74_65) ⟨fun b74_65 =>
  Q .normal [(6, (.bool b74_65))] M65⟩⟩⟩
  ⟨Q .normal [(6, (.bool false))] M60⟩⟩⟩⟩⟩⟩⟩
  ⟨Q .normal [(6, (.bool false))] M27⟩⟩⟩⟩⟩⟩⟩⟩
  ⟨Q .normal [(6, (.bool false))] M15⟩⟩⟩⟩
  ⟨@OptBH (binV .eql .bool (.bool b45_15) (.bool false)) ⟨fun b50_81 =>
  @BIfH b50_81
  ⟨@CallH P i_interval_Subtract [v7, v8] M15 ⟨fun t55_86 M86 =>
  @CallH P i_interval_Contains [t55_86, v2] M86 ⟨fun t57_88 M88 => @OptBH (some t57_88) ⟨fun b57_88 =>
  @OptBH (some v9) ⟨fun b58_89 =>
  @BIfH b58_89
  ⟨@OptBH (some v10) ⟨fun b60_91 =>
  @OptBH (unV .not (.bool b60_91)) ⟨fun b61_92 =>
  @OptBH (binV .eql .bool (.bool b57_88) (.bool b61_92)) ⟨fun b63_94 =>
  @BIfH b63_94
  ⟨@CallH P i_interval_Normalize [v7] M88 ⟨fun t67_98 M98 =>
  @CallH P i_interval_Contains [t67_98, v2] M98 ⟨fun t69_100 M100 => @OptBH (some t69_100) ⟨fun b69_100 =>
  @OptBH (some v9) ⟨fun b70_101 =>
  @OptBH (binV .eql .bool (.bool b69_100) (.bool b70_101)) ⟨fun b71_102 =>
  @BIfH b71_102
  ⟨@CallH P i_transitlaw08_exampleHolds [] M100 ⟨fun t74_105 M105 => @OptBH (some t74_105) ⟨fun b74_105 =>
  Q .normal [(6, (.bool b74_105))] M105⟩⟩⟩
  ⟨Q .normal [(6, (.bool false))] M100⟩⟩⟩⟩⟩⟩⟩
  ⟨Q .normal [(6, (.bool false))] M88⟩⟩⟩⟩⟩
  ⟨@OptBH (binV .eql .bool (.bool b57_88) (.bool false)) ⟨fun b63_115 =>
  @BIfH b63_115
  ⟨@CallH P i_interval_Normalize [v7] M88 ⟨fun t67_119 M119 =>
  @CallH P i_interval_Contains [t67_119, v2] M119 ⟨fun t69_121 M121 => @OptBH (some t69_121) ⟨fun b69_121 =>
  @OptBH (some v9) ⟨fun b70_122 =>
  @OptBH (binV .eql .bool (.bool b69_121) (.bool b70_122)) ⟨fun b71_123 =>
  @BIfH b71_123
  ⟨@CallH P i_transitlaw08_exampleHolds [] M121 ⟨fun t74_126 M126 => @OptBH (some t74_126) ⟨fun b74_126 =>
  Q .normal [(6, (.bool b74_126))] M126⟩⟩⟩
  ⟨Q .normal [(6, (.bool false))] M121⟩⟩⟩⟩⟩⟩⟩
  ⟨Q .normal [(6, (.bool false))] M88⟩⟩⟩⟩⟩⟩⟩⟩
  ⟨Q .normal [(6, (.bool false))] M15⟩⟩⟩⟩⟩⟩⟩⟩
  ⟨Q .normal [(6, (.bool false))] M5⟩⟩⟩
  ⟨@OptBH (some v10) ⟨fun b37_149 =>
  @OptBH (binV .eql .bool (.bool b34_5) (.bool b37_149)) ⟨fun b39_151 =>
  @BIfH b39_151
  ⟨@CallH P i_interval_Intersect [v7, v8] M5 ⟨fun t43_155 M155 =>
  @CallH P i_interval_Contains [t43_155, v2] M155 ⟨fun t45_157 M157 => @OptBH (some t45_157) ⟨fun b45_157 =>
  @OptBH (some v9) ⟨fun b46_158 =>
  @BIfH b46_158
  ⟨@OptBH (some v10) ⟨fun b48_160 =>
  @OptBH (binV .eql .bool (.bool b45_157) (.bool b48_160)) ⟨fun b50_162 =>
  @BIfH b50_162
  ⟨@CallH P i_interval_Subtract [v7, v8] M157 ⟨fun t55_167 M167 =>
  @CallH P i_interval_Contains [t55_167, v2] M167 ⟨fun t57_169 M169 => @OptBH (some t57_169) ⟨fun b57_169 =>
  @OptBH (some v9) ⟨fun b58_170 =>
  @BIfH b58_170
  ⟨@OptBH (some v10) ⟨fun b60_172 =>
  @OptBH (unV .not (.bool b60_172)) ⟨fun b61_173 =>
  @OptBH (binV .eql .bool (.bool b57_169) (.bool b61_173)) ⟨fun b63_175 =>
  @BIfH b63_175
  ⟨@CallH P i_interval_Normalize [v7] M169 ⟨fun t67_179 M179 =>
  @CallH P i_interval_Contains [t67_179, v2] M179 ⟨fun t69_181 M181 => @OptBH (some t69_181) ⟨fun b69_181 =>
  @OptBH (some v9) ⟨fun b70_182 =>
  @OptBH (binV .eql .bool (.bool b69_181) (.bool b70_182)) ⟨fun b71_183 =>
  @BIfH b71_183
  ⟨@CallH P i_transitlaw08_exampleHolds [] M181 ⟨fun t74_186 M186 => @OptBH (some t74_186) ⟨fun b74_186 =>
  Q .normal [(6, (.bool b74_186))] M186⟩⟩⟩
  ⟨Q .normal [(6, (.bool false))] M181⟩⟩⟩⟩⟩⟩⟩
  ⟨Q .normal [(6, (.bool false))] M169⟩⟩⟩⟩⟩
  ⟨@OptBH (binV .eql .bool (.bool b57_169) (.bool false)) ⟨fun b63_196 =>
  @BIfH b63_196
  ⟨@CallH P i_interval_Normalize [v7] M169 ⟨fun t67_200 M200 =>
  @CallH P i_interval_Contains [t67_200, v2] M200 ⟨fun t69_202 M202 => @OptBH (some t69_202) ⟨fun b69_202 =>
  @OptBH (some v9) ⟨fun b70_203 =>
  @OptBH (binV .eql .bool (.bool b69_202) (.bool b70_203)) ⟨fun b71_204 =>
  @BIfH b71_204
  ⟨@CallH P i_transitlaw08_exampleHolds [] M202 ⟨fun t74_207 M207 => @OptBH (some t74_207) ⟨fun b74_207 =>
  Q .normal [(6, (.bool b74_207))] M207⟩⟩⟩
  ⟨Q .normal [(6, (.bool false))] M202⟩⟩⟩⟩⟩⟩⟩
  ⟨Q .normal [(6, (.bool false))] M169⟩⟩⟩⟩⟩⟩⟩⟩
  ⟨Q .normal [(6, (.bool false))] M157⟩⟩⟩⟩
  ⟨@OptBH (binV .eql .bool (.bool b45_157) (.bool false)) ⟨fun b50_223 =>
  @BIfH b50_223
  ⟨@CallH P i_interval_Subtract [v7, v8] M157 ⟨fun t55_228 M228 =>
  @CallH P i_interval_Contains [t55_228, v2] M228 ⟨fun t57_230 M230 => @OptBH (some t57_230) ⟨fun b57_230 =>
  @OptBH (some v9) ⟨fun b58_231 =>
  @BIfH b58_231
  ⟨@OptBH (some v10) ⟨fun b60_233 =>
  @OptBH (unV .not (.bool b60_233)) ⟨fun b61_234 =>
  @OptBH (binV .eql .bool (.bool b57_230) (.bool b61_234)) ⟨fun b63_236 =>
  @BIfH b63_236
  ⟨@CallH P i_interval_Normalize [v7] M230 ⟨fun t67_240 M240 =>
  @CallH P i_interval_Contains [t67_240, v2] M240 ⟨fun t69_242 M242 => @OptBH (some t69_242) ⟨fun b69_242 =>
  @OptBH (some v9) ⟨fun b70_243 =>
  @OptBH (binV .eql .bool (.bool b69_242) (.bool b70_243)) ⟨fun b71_244 =>
  @BIfH b71_244
  ⟨@CallH P i_transitlaw08_exampleHolds [] M242 ⟨fun t74_247 M247 => @OptBH (some t74_247) ⟨fun b74_247 =>
  Q .normal [(6, (.bool b74_247))] M247⟩⟩⟩
  ⟨Q .normal [(6, (.bool false))] M242⟩⟩⟩⟩⟩⟩⟩
  ⟨Q .normal [(6, (.bool false))] M230⟩⟩⟩⟩⟩
  ⟨@OptBH (binV .eql .bool (.bool b57_230) (.bool false)) ⟨fun b63_257 =>
  @BIfH b63_257
  ⟨@CallH P i_interval_Normalize [v7] M230 ⟨fun t67_261 M261 =>
  @CallH P i_interval_Contains [t67_261, v2] M261 ⟨fun t69_263 M263 => @OptBH (some t69_263) ⟨fun b69_263 =>
  @OptBH (some v9) ⟨fun b70_264 =>
  @OptBH (binV .eql .bool (.bool b69_263) (.bool b70_264)) ⟨fun b71_265 =>
  @BIfH b71_265
  ⟨@CallH P i_transitlaw08_exampleHolds [] M263 ⟨fun t74_268 M268 => @OptBH (some t74_268) ⟨fun b74_268 =>
  Q .normal [(6, (.bool b74_268))] M268⟩⟩⟩
  ⟨Q .normal [(6, (.bool false))] M263⟩⟩⟩⟩⟩⟩⟩
  ⟨Q .normal [(6, (.bool false))] M230⟩⟩⟩⟩⟩⟩⟩⟩
  ⟨Q .normal [(6, (.bool false))] M157⟩⟩⟩⟩⟩⟩⟩⟩
  ⟨Q .normal [(6, (.bool false))] M5⟩⟩⟩⟩⟩⟩⟩⟩
theorem e8_12 (P : Program) (Q : Exit → Slots → Mem → Prop) (s : Slots) (M : Mem) : wpC P c8_12 Q s M = w8_12 P Q M (sget s 2) (sget s 7) (sget s 8) (sget s 9) (sget s 10) := by kernel_rfl
def c8_13 : ACode := (.seq c8_12 .ret)
def c8_14 : ACode := (.seq c8_10 c8_13)
def c8_15 : ACode := (.seq c8_8 c8_14)
def c8_16 : ACode := (.seq c8_6 c8_15)
def c8_17 : ACode := (.seq c8_1 c8_16)
def fn_transitlaw08_IntervalAlgebra : AFn := ⟨76, [(.tmp 6)], c8_17⟩
theorem fn_transitlaw08_IntervalAlgebra_ok : resFn PR h_transitlaw08_IntervalAlgebra i_transitlaw08_IntervalAlgebra = some fn_transitlaw08_IntervalAlgebra := by kernel_rfl

def h_transitlaw08_IntervalCanonical : Hints := ⟨[(0, [0, 1]), (1, [0, 1, 17]), (2, [4]), (3, [5, 6]), (4, [5, 6, 7]), (5, [5, 6, 7, 8, 9]), (6, [4])], [], []⟩
def o9_0 : List AOper := [⟨some 4, (.mov (.const (.bool false))), true, none⟩]
def c9_1 : ACode := (.region o9_0 [0, 1])
def w9_1 (_P : Program) (Q : Exit → Slots → Mem → Prop) (M : Mem) (v0 : V) (v1 : V) : Prop :=
  Q .normal [(0, v0), (1, v1)] M
theorem e9_1 (P : Program) (Q : Exit → Slots → Mem → Prop) (s : Slots) (M : Mem) : wpC P c9_1 Q s M = w9_1 P Q M (sget s 0) (sget s 1) := by kernel_rfl
def o9_2 : List AOper := [⟨some 18, (.call i_transitlaw08_exampleHolds []), true, none⟩,
  ⟨some 4, (.mov (.tmp 18)), true, none⟩]
def c9_3 : ACode := (.region o9_2 [4])
def w9_3 (P : Program) (Q : Exit → Slots → Mem → Prop) (M : Mem) : Prop :=
  @CallH P i_transitlaw08_exampleHolds [] M ⟨fun t18_1 M1 => @OptBH (some t18_1) ⟨fun b18_1 =>
  Q .normal [(4, (.bool b18_1))] M1⟩⟩
theorem e9_3 (P : Program) (Q : Exit → Slots → Mem → Prop) (s : Slots) (M : Mem) : wpC P c9_3 Q s M = w9_3 P Q M := by kernel_rfl
def c9_4 : ACode := (.seq c9_3 .ret)
def o9_5 : List AOper := [⟨some 10, (.mov (.tmp 0)), false, none⟩,
  ⟨some 11, (.lenSl (.tmp 10)), false, none⟩,
  ⟨some 12, (.bin .gtr .none (.tmp 11) (.const (.int .i64 60))), true, none⟩,
  ⟨some 13, (.mov (.tmp 12)), true, none⟩,
  ⟨some 14, (.mov (.tmp 1)), false, some (13, false)⟩,
  ⟨some 15, (.lenSl (.tmp 14)), false, some (13, false)⟩,
  ⟨some 16, (.bin .gtr .none (.tmp 15) (.const (.int .i64 60))), true, some (13, false)⟩,
  ⟨some 17, (.pick (.tmp 13) (.const (.bool true)) (.tmp 16)), true, none⟩]
def c9_6 : ACode := (.seq (.region o9_5 [0, 1, 17]) (.cond (.tmp 17) c9_4 .skip))
def w9_6 (P : Program) (Q : Exit → Slots → Mem → Prop) (M : Mem) (v0 : V) (v1 : V) : Prop :=
  @OptVH (lenV v0 M) ⟨fun t11_2 =>
  @OptBH (binV .gtr .none t11_2 (.int .i64 60)) ⟨fun b12_3 =>
  @BIfH b12_3
  ⟨wpC P c9_4 Q [(0, v0), (1, v1), (17, (.bool true))] M⟩
  ⟨@OptVH (lenV v1 M) ⟨fun t15_7 =>
  @OptBH (binV .gtr .none t15_7 (.int .i64 60)) ⟨fun b16_8 =>
  @BIfH b16_8
  ⟨wpC P c9_4 Q [(0, v0), (1, v1), (17, (.bool b16_8))] M⟩
  ⟨Q .normal [(0, v0), (1, v1), (17, (.bool b16_8))] M⟩⟩⟩⟩⟩⟩
theorem e9_6 (P : Program) (Q : Exit → Slots → Mem → Prop) (s : Slots) (M : Mem) : wpC P c9_6 Q s M = w9_6 P Q M (sget s 0) (sget s 1) := by kernel_rfl
def o9_7 : List AOper := [⟨some 19, (.mov (.tmp 0)), false, none⟩,
  ⟨some 20, (.call i_transitlaw08_spans [(.tmp 19)]), false, none⟩,
  ⟨some 21, (.mov (.tmp 1)), false, none⟩,
  ⟨some 22, (.call i_transitlaw08_spans [(.tmp 21)]), false, none⟩,
  ⟨some 5, (.mov (.tmp 20)), false, none⟩,
  ⟨some 6, (.mov (.tmp 22)), false, none⟩]
def c9_8 : ACode := (.region o9_7 [5, 6])
def w9_8 (P : Program) (Q : Exit → Slots → Mem → Prop) (M : Mem) (v0 : V) (v1 : V) : Prop :=
  @CallH P i_transitlaw08_spans [v0] M ⟨fun t20_2 M2 =>
  @CallH P i_transitlaw08_spans [v1] M2 ⟨fun t22_4 M4 =>
  Q .normal [(5, t20_2), (6, t22_4)] M4⟩⟩
theorem e9_8 (P : Program) (Q : Exit → Slots → Mem → Prop) (s : Slots) (M : Mem) : wpC P c9_8 Q s M = w9_8 P Q M (sget s 0) (sget s 1) := by kernel_rfl
def o9_9 : List AOper := [⟨some 23, (.mov (.tmp 5)), false, none⟩,
  ⟨some 24, (.call i_interval_Normalize [(.tmp 23)]), false, none⟩,
  ⟨some 7, (.mov (.tmp 24)), false, none⟩]
def c9_10 : ACode := (.region o9_9 [5, 6, 7])
def w9_10 (P : Program) (Q : Exit → Slots → Mem → Prop) (M : Mem) (v5 : V) (v6 : V) : Prop :=
  @CallH P i_interval_Normalize [v5] M ⟨fun t24_2 M2 =>
  Q .normal [(5, v5), (6, v6), (7, t24_2)] M2⟩
theorem e9_10 (P : Program) (Q : Exit → Slots → Mem → Prop) (s : Slots) (M : Mem) : wpC P c9_10 Q s M = w9_10 P Q M (sget s 5) (sget s 6) := by kernel_rfl
def o9_11 : List AOper := [⟨some 25, (.mov (.tmp 5)), false, none⟩,
  ⟨some 26, (.mov (.tmp 6)), false, none⟩,
  ⟨some 27, (.call i_interval_Union [(.tmp 25), (.tmp 26)]), false, none⟩,
  ⟨some 28, (.mov (.tmp 5)), false, none⟩,
  ⟨some 29, (.mov (.tmp 6)), false, none⟩,
  ⟨some 30, (.call i_interval_Intersect [(.tmp 28), (.tmp 29)]), false, none⟩,
  ⟨some 8, (.mov (.tmp 27)), false, none⟩,
  ⟨some 9, (.mov (.tmp 30)), false, none⟩]
def c9_12 : ACode := (.region o9_11 [5, 6, 7, 8, 9])
def w9_12 (P : Program) (Q : Exit → Slots → Mem → Prop) (M : Mem) (v5 : V) (v6 : V) (v7 : V) : Prop :=
  @CallH P i_interval_Union [v5, v6] M ⟨fun t27_3 M3 =>
  @CallH P i_interval_Intersect [v5, v6] M3 ⟨fun t30_6 M6 =>
  Q .normal [(5, v5), (6, v6), (7, v7), (8, t27_3), (9, t30_6)] M6⟩⟩
theorem e9_12 (P : Program) (Q : Exit → Slots → Mem → Prop) (s : Slots) (M : Mem) : wpC P c9_12 Q s M = w9_12 P Q M (sget s 5) (sget s 6) (sget s 7) := by kernel_rfl
def o9_13 : List AOper := [⟨some 31, (.mov (.tmp 7)), false, none⟩,
  ⟨some 32, (.call i_transitlaw08_normal [(.tmp 31)]), true, none⟩,
  ⟨some 33, (.mov (.tmp 32)), true, none⟩,
  ⟨some 34, (.mov (.tmp 8)), false, some (33, true)⟩,
  ⟨some 35, (.call i_transitlaw08_normal [(.tmp 34)]), true, some (33, true)⟩,
  ⟨some 36, (.pick (.tmp 33) (.tmp 35) (.const (.bool false))), true, none⟩,
  ⟨some 37, (.mov (.tmp 36)), true, none⟩,
  ⟨some 38, (.mov (.tmp 9)), false, some (37, true)⟩,
  ⟨some 39, (.call i_transitlaw08_normal [(.tmp 38)]), true, some (37, true)⟩,
  ⟨some 40, (.pick (.tmp 37) (.tmp 39) (.const (.bool false))), true, none⟩,
  ⟨some 41, (.mov (.tmp 40)), true, none⟩,
  ⟨some 42, (.mov (.tmp 5)), false, some (41, true)⟩,
  ⟨some 43, (.mov (.tmp 6)), false, some (41, true)⟩,
  ⟨some 44, (.call i_interval_Subtract [(.tmp 42), (.tmp 43)]), false, some (41, true)⟩,
  ⟨some 45, (.call i_transitlaw08_normal [(.tmp 44)]), true, some (41, true)⟩,
  ⟨some 46, (.pick (.tmp 41) (.tmp 45) (.const (.bool false))), true, none⟩,
  ⟨some 47, (.mov (.tmp 46)), true, none⟩,
  ⟨some 48, (.mov (.tmp 7)), false, some (47, true)⟩,
  ⟨some 49, (.call i_interval_Normalize [(.tmp 48)]), false, some (47, true)⟩,
  ⟨some 50, (.mov (.tmp 7)), false, some (47, true)⟩,
  ⟨some 51, (.call i_transitlaw08_same [(.tmp 49), (.tmp 50)]), true, some (47, true)⟩,
  ⟨some 52, (.pick (.tmp 47) (.tmp 51) (.const (.bool false))), true, none⟩,
  ⟨some 53, (.mov (.tmp 52)), true, none⟩,
  ⟨some 54, (.mov (.tmp 6)), false, some (53, true)⟩,
  ⟨some 55, (.mov (.tmp 5)), false, some (53, true)⟩,
  ⟨some 56, (.call i_interval_Union [(.tmp 54), (.tmp 55)]), false, some (53, true)⟩,
  ⟨some 57, (.mov (.tmp 8)), false, some (53, true)⟩,
  ⟨some 58, (.call i_transitlaw08_same [(.tmp 56), (.tmp 57)]), true, some (53, true)⟩,
  ⟨some 59, (.pick (.tmp 53) (.tmp 58) (.const (.bool false))), true, none⟩,
  ⟨some 60, (.mov (.tmp 59)), true, none⟩,
  ⟨some 61, (.mov (.tmp 6)), false, some (60, true)⟩,
  ⟨some 62, (.mov (.tmp 5)), false, some (60, true)⟩,
  ⟨some 63, (.call i_interval_Intersect [(.tmp 61), (.tmp 62)]), false, some (60, true)⟩,
  ⟨some 64, (.mov (.tmp 9)), false, some (60, true)⟩,
  ⟨some 65, (.call i_transitlaw08_same [(.tmp 63), (.tmp 64)]), true, some (60, true)⟩,
  ⟨some 66, (.pick (.tmp 60) (.tmp 65) (.const (.bool false))), true, none⟩,
  ⟨some 67, (.mov (.tmp 66)), true, none⟩,
  ⟨some 68, (.call i_transitlaw08_exampleHolds []), true, some (67, true)⟩,
  ⟨some 69, (.pick (.tmp 67) (.tmp 68) (.const (.bool false))), true, none⟩,
  ⟨some 4, (.mov (.tmp 69)), true, none⟩]
def c9_14 : ACode := (.region o9_13 [4])
def w9_14 (P : Program) (Q : Exit → Slots → Mem → Prop) (M : Mem) (v5 : V) (v6 : V) (v7 : V) (v8 : V) (v9 : V) : Prop :=
  @CallH P i_transitlaw08_normal [v7] M ⟨fun t32_2 M2 => @OptBH (some t32_2) ⟨fun b32_2 =>
  @BIfH b32_2
  ⟨@CallH P i_transitlaw08_normal [v8] M2 ⟨fun t35_5 M5 => @OptBH (some t35_5) ⟨fun b35_5 =>
  @BIfH b35_5
  ⟨@CallH P i_transitlaw08_normal [v9] M5 ⟨fun t39_9 M9 => @OptBH (some t39_9) ⟨fun b39_9 =>
  @BIfH b39_9
  ⟨@CallH P i_interval_Subtract [v5, v6] M9 ⟨fun t44_14 M14 =>
  @CallH P i_transitlaw08_normal [t44_14] M14 ⟨fun t45_15 M15 => @OptBH (some t45_15) ⟨fun b45_15 =>
  @BIfH b45_15
  ⟨@CallH P i_interval_Normalize [v7] M15 ⟨fun t49_19 M19 =>
  @CallH P i_transitlaw08_same [t49_19, v7] M19 ⟨fun t51_21 M21 => @OptBH (some t51_21) ⟨fun b51_21 =>
  @BIfH b51_21
  ⟨@CallH P i_interval_Union [v6, v5] M21 ⟨fun t56_26 M26 =>
  @CallH P i_transitlaw08_same [t56_26, v8] M26 ⟨fun t58_28 M28 => @OptBH (some t58_28) ⟨fun b58_28 =>
  @BIfH b58_28
  ⟨@CallH P i_interval_Intersect [v6, v5] M28 ⟨fun t63_33 M33 =>
  @CallH P i_transitlaw08_same [t63_33, v9] M33 ⟨fun t65_35 M35 => @OptBH (some t65_35) ⟨fun b65_35 =>
  @BIfH b65_35
  ⟨@CallH P i_transitlaw08_exampleHolds [] M35 ⟨fun t68_38 M38 => @OptBH (some t68_38) ⟨fun b68_38 =>
  Q .normal [(4, (.bool b68_38))] M38⟩⟩⟩
  ⟨Q .normal [(4, (.bool false))] M35⟩⟩⟩⟩⟩
  ⟨Q .normal [(4, (.bool false))] M28⟩⟩⟩⟩⟩
  ⟨Q .normal [(4, (.bool false))] M21⟩⟩⟩⟩⟩
  ⟨Q .normal [(4, (.bool false))] M15⟩⟩⟩⟩⟩
  ⟨Q .normal [(4, (.bool false))] M9⟩⟩⟩⟩
  ⟨Q .normal [(4, (.bool false))] M5⟩⟩⟩⟩
  ⟨Q .normal [(4, (.bool false))] M2⟩⟩⟩
theorem e9_14 (P : Program) (Q : Exit → Slots → Mem → Prop) (s : Slots) (M : Mem) : wpC P c9_14 Q s M = w9_14 P Q M (sget s 5) (sget s 6) (sget s 7) (sget s 8) (sget s 9) := by kernel_rfl
def c9_15 : ACode := (.seq c9_14 .ret)
def c9_16 : ACode := (.seq c9_12 c9_15)
def c9_17 : ACode := (.seq c9_10 c9_16)
def c9_18 : ACode := (.seq c9_8 c9_17)
def c9_19 : ACode := (.seq c9_6 c9_18)
def c9_20 : ACode := (.seq c9_1 c9_19)
def fn_transitlaw08_IntervalCanonical : AFn := ⟨70, [(.tmp 4)], c9_20⟩
theorem fn_transitlaw08_IntervalCanonical_ok : resFn PR h_transitlaw08_IntervalCanonical i_transitlaw08_IntervalCanonical = some fn_transitlaw08_IntervalCanonical := by kernel_rfl

def h_transitlaw08_IntervalMeasures : Hints := ⟨[(0, [0, 1]), (1, [0, 1, 34]), (2, [4]), (3, [5, 6]), (4, [5, 6, 7, 8]), (5, [5, 6, 7, 8, 9, 10]), (6, [5, 6, 7, 8, 9, 10, 11, 12]), (7, [5, 6, 7, 8, 9, 10, 11, 12, 13, 14]), (8, [7, 8, 9, 10, 11, 12, 13, 14, 15, 16]), (9, [4])], [], []⟩
def o10_0 : List AOper := [⟨some 4, (.mov (.const (.bool false))), true, none⟩]
def c10_1 : ACode := (.region o10_0 [0, 1])
def w10_1 (_P : Program) (Q : Exit → Slots → Mem → Prop) (M : Mem) (v0 : V) (v1 : V) : Prop :=
  Q .normal [(0, v0), (1, v1)] M
theorem e10_1 (P : Program) (Q : Exit → Slots → Mem → Prop) (s : Slots) (M : Mem) : wpC P c10_1 Q s M = w10_1 P Q M (sget s 0) (sget s 1) := by kernel_rfl
def o10_2 : List AOper := [⟨some 35, (.call i_transitlaw08_exampleHolds []), true, none⟩,
  ⟨some 4, (.mov (.tmp 35)), true, none⟩]
def c10_3 : ACode := (.region o10_2 [4])
def w10_3 (P : Program) (Q : Exit → Slots → Mem → Prop) (M : Mem) : Prop :=
  @CallH P i_transitlaw08_exampleHolds [] M ⟨fun t35_1 M1 => @OptBH (some t35_1) ⟨fun b35_1 =>
  Q .normal [(4, (.bool b35_1))] M1⟩⟩
theorem e10_3 (P : Program) (Q : Exit → Slots → Mem → Prop) (s : Slots) (M : Mem) : wpC P c10_3 Q s M = w10_3 P Q M := by kernel_rfl
def c10_4 : ACode := (.seq c10_3 .ret)
def o10_5 : List AOper := [⟨some 17, (.mov (.tmp 0)), false, none⟩,
  ⟨some 18, (.lenSl (.tmp 17)), false, none⟩,
  ⟨some 19, (.bin .gtr .none (.tmp 18) (.const (.int .i64 60))), true, none⟩,
  ⟨some 20, (.mov (.tmp 19)), true, none⟩,
  ⟨some 21, (.mov (.tmp 1)), false, some (20, false)⟩,
  ⟨some 22, (.lenSl (.tmp 21)), false, some (20, false)⟩,
  ⟨some 23, (.bin .gtr .none (.tmp 22) (.const (.int .i64 60))), true, some (20, false)⟩,
  ⟨some 24, (.pick (.tmp 20) (.const (.bool true)) (.tmp 23)), true, none⟩,
  ⟨some 25, (.mov (.tmp 24)), true, none⟩,
  ⟨some 26, (.mov (.tmp 0)), false, some (25, false)⟩,
  ⟨some 27, (.call i_transitlaw08_bounded [(.tmp 26)]), true, some (25, false)⟩,
  ⟨some 28, (.un .not (.tmp 27)), true, some (25, false)⟩,
  ⟨some 29, (.pick (.tmp 25) (.const (.bool true)) (.tmp 28)), true, none⟩,
  ⟨some 30, (.mov (.tmp 29)), true, none⟩,
  ⟨some 31, (.mov (.tmp 1)), false, some (30, false)⟩,
  ⟨some 32, (.call i_transitlaw08_bounded [(.tmp 31)]), true, some (30, false)⟩,
  ⟨some 33, (.un .not (.tmp 32)), true, some (30, false)⟩,
  ⟨some 34, (.pick (.tmp 30) (.const (.bool true)) (.tmp 33)), true, none⟩]
def c10_6 : ACode := (.seq (.region o10_5 [0, 1, 34]) (.cond (.tmp 34) c10_4 .skip))
def w10_6 (P : Program) (Q : Exit → Slots → Mem → Prop) (M : Mem) (v0 : V) (v1 : V) : Prop :=
  @OptVH (lenV v0 M) ⟨fun t18_2 =>
  @OptBH (binV .gtr .none t18_2 (.int .i64 60)) ⟨fun b19_3 =>
  @BIfH b19_3
  ⟨wpC P c10_4 Q [(0, v0), (1, v1), (34, (.bool true))] M⟩
  ⟨@OptVH (lenV v1 M) ⟨fun t22_11 =>
  @OptBH (binV .gtr .none t22_11 (.int .i64 60)) ⟨fun b23_12 =>
  @BIfH b23_12
  ⟨wpC P c10_4 Q [(0, v0), (1, v1), (34, (.bool true))] M⟩
  ⟨@CallH P i_transitlaw08_bounded [v0] M ⟨fun t27_19 M19 => @OptBH (some t27_19) ⟨fun b27_19 =>
  @OptBH (unV .not (.bool b27_19)) ⟨fun b28_20 =>
  @BIfH b28_20
  ⟨wpC P c10_4 Q [(0, v0), (1, v1), (34, (.bool true))] M19⟩
  ⟨@CallH P i_transitlaw08_bounded [v1] M19 ⟨fun t32_25 M25 => @OptBH (some t32_25) ⟨fun b32_25 =>
  @OptBH (unV .not (.bool b32_25)) ⟨fun b33_26 =>
  @BIfH b33_26
  ⟨wpC P c10_4 Q [(0, v0), (1, v1), (34, (.bool b33_26))] M25⟩
  ⟨Q .normal [(0, v0), (1, v1), (34, (.bool b33_26))] M25⟩⟩⟩⟩⟩⟩⟩⟩⟩⟩⟩⟩⟩⟩
theorem e10_6 (P : Program) (Q : Exit → Slots → Mem → Prop) (s : Slots) (M : Mem) : wpC P c10_6 Q s M = w10_6 P Q M (sget s 0) (sget s 1) := by kernel_rfl
def o10_7 : List AOper := [⟨some 36, (.mov (.tmp 0)), false, none⟩,
  ⟨some 37, (.call i_transitlaw08_spans [(.tmp 36)]), false, none⟩,
  ⟨some 38, (.mov (.tmp 1)), false, none⟩,
  ⟨some 39, (.call i_transitlaw08_spans [(.tmp 38)]), false, none⟩,
  ⟨some 5, (.mov (.tmp 37)), false, none⟩,
  ⟨some 6, (.mov (.tmp 39)), false, none⟩]
def c10_8 : ACode := (.region o10_7 [5, 6])
def w10_8 (P : Program) (Q : Exit → Slots → Mem → Prop) (M : Mem) (v0 : V) (v1 : V) : Prop :=
  @CallH P i_transitlaw08_spans [v0] M ⟨fun t37_2 M2 =>
  @CallH P i_transitlaw08_spans [v1] M2 ⟨fun t39_4 M4 =>
  Q .normal [(5, t37_2), (6, t39_4)] M4⟩⟩
theorem e10_8 (P : Program) (Q : Exit → Slots → Mem → Prop) (s : Slots) (M : Mem) : wpC P c10_8 Q s M = w10_8 P Q M (sget s 0) (sget s 1) := by kernel_rfl
def o10_9 : List AOper := [⟨some 41, (.mov (.tmp 5)), false, none⟩,
  ⟨some 42, (.call i_interval_Length [(.tmp 41)]), false, none⟩,
  ⟨some 40, (.mov (.tmp 42)), false, none⟩,
  ⟨some 43, (.extract (.tmp 40) 0), false, none⟩,
  ⟨some 44, (.extract (.tmp 40) 1), true, none⟩,
  ⟨some 7, (.mov (.tmp 43)), false, none⟩,
  ⟨some 8, (.mov (.tmp 44)), true, none⟩]
def c10_10 : ACode := (.region o10_9 [5, 6, 7, 8])
def w10_10 (P : Program) (Q : Exit → Slots → Mem → Prop) (M : Mem) (v5 : V) (v6 : V) : Prop :=
  @CallH P i_interval_Length [v5] M ⟨fun t42_2 M2 =>
  @OptVH (extractV t42_2 0) ⟨fun t43_4 =>
  @OptBH (extractV t42_2 1) ⟨fun b44_5 =>
  Q .normal [(5, v5), (6, v6), (7, t43_4), (8, (.bool b44_5))] M2⟩⟩⟩
theorem e10_10 (P : Program) (Q : Exit → Slots → Mem → Prop) (s : Slots) (M : Mem) : wpC P c10_10 Q s M = w10_10 P Q M (sget s 5) (sget s 6) := by kernel_rfl
def o10_11 : List AOper := [⟨some 46, (.mov (.tmp 6)), false, none⟩,
  ⟨some 47, (.call i_interval_Length [(.tmp 46)]), false, none⟩,
  ⟨some 45, (.mov (.tmp 47)), false, none⟩,
  ⟨some 48, (.extract (.tmp 45) 0), false, none⟩,
  ⟨some 49, (.extract (.tmp 45) 1), true, none⟩,
  ⟨some 9, (.mov (.tmp 48)), false, none⟩,
  ⟨some 10, (.mov (.tmp 49)), true, none⟩]
def c10_12 : ACode := (.region o10_11 [5, 6, 7, 8, 9, 10])
def w10_12 (P : Program) (Q : Exit → Slots → Mem → Prop) (M : Mem) (v5 : V) (v6 : V) (v7 : V) (v8 : V) : Prop :=
  @CallH P i_interval_Length [v6] M ⟨fun t47_2 M2 =>
  @OptVH (extractV t47_2 0) ⟨fun t48_4 =>
  @OptBH (extractV t47_2 1) ⟨fun b49_5 =>
  Q .normal [(5, v5), (6, v6), (7, v7), (8, v8), (9, t48_4), (10, (.bool b49_5))] M2⟩⟩⟩
theorem e10_12 (P : Program) (Q : Exit → Slots → Mem → Prop) (s : Slots) (M : Mem) : wpC P c10_12 Q s M = w10_12 P Q M (sget s 5) (sget s 6) (sget s 7) (sget s 8) := by kernel_rfl
def o10_13 : List AOper := [⟨some 51, (.mov (.tmp 5)), false, none⟩,
  ⟨some 52, (.mov (.tmp 6)), false, none⟩,
  ⟨some 53, (.call i_interval_Union [(.tmp 51), (.tmp 52)]), false, none⟩,
  ⟨some 54, (.call i_interval_Length [(.tmp 53)]), false, none⟩,
  ⟨some 50, (.mov (.tmp 54)), false, none⟩,
  ⟨some 55, (.extract (.tmp 50) 0), false, none⟩,
  ⟨some 56, (.extract (.tmp 50) 1), true, none⟩,
  ⟨some 11, (.mov (.tmp 55)), false, none⟩,
  ⟨some 12, (.mov (.tmp 56)), true, none⟩]
def c10_14 : ACode := (.region o10_13 [5, 6, 7, 8, 9, 10, 11, 12])
def w10_14 (P : Program) (Q : Exit → Slots → Mem → Prop) (M : Mem) (v5 : V) (v6 : V) (v7 : V) (v8 : V) (v9 : V) (v10 : V) : Prop :=
  @CallH P i_interval_Union [v5, v6] M ⟨fun t53_3 M3 =>
  @CallH P i_interval_Length [t53_3] M3 ⟨fun t54_4 M4 =>
  @OptVH (extractV t54_4 0) ⟨fun t55_6 =>
  @OptBH (extractV t54_4 1) ⟨fun b56_7 =>
  Q .normal [(5, v5), (6, v6), (7, v7), (8, v8), (9, v9), (10, v10), (11, t55_6), (12, (.bool b56_7))] M4⟩⟩⟩⟩
theorem e10_14 (P : Program) (Q : Exit → Slots → Mem → Prop) (s : Slots) (M : Mem) : wpC P c10_14 Q s M = w10_14 P Q M (sget s 5) (sget s 6) (sget s 7) (sget s 8) (sget s 9) (sget s 10) := by kernel_rfl
def o10_15 : List AOper := [⟨some 58, (.mov (.tmp 5)), false, none⟩,
  ⟨some 59, (.mov (.tmp 6)), false, none⟩,
  ⟨some 60, (.call i_interval_Intersect [(.tmp 58), (.tmp 59)]), false, none⟩,
  ⟨some 61, (.call i_interval_Length [(.tmp 60)]), false, none⟩,
  ⟨some 57, (.mov (.tmp 61)), false, none⟩,
  ⟨some 62, (.extract (.tmp 57) 0), false, none⟩,
  ⟨some 63, (.extract (.tmp 57) 1), true, none⟩,
  ⟨some 13, (.mov (.tmp 62)), false, none⟩,
  ⟨some 14, (.mov (.tmp 63)), true, none⟩]
def c10_16 : ACode := (.region o10_15 [5, 6, 7, 8, 9, 10, 11, 12, 13, 14])
def w10_16 (P : Program) (Q : Exit → Slots → Mem → Prop) (M : Mem) (v5 : V) (v6 : V) (v7 : V) (v8 : V) (v9 : V) (v10 : V) (v11 : V) (v12 : V) : Prop :=
  @CallH P i_interval_Intersect [v5, v6] M ⟨fun t60_3 M3 =>
  @CallH P i_interval_Length [t60_3] M3 ⟨fun t61_4 M4 =>
  @OptVH (extractV t61_4 0) ⟨fun t62_6 =>
  @OptBH (extractV t61_4 1) ⟨fun b63_7 =>
  Q .normal [(5, v5), (6, v6), (7, v7), (8, v8), (9, v9), (10, v10), (11, v11), (12, v12), (13, t62_6), (14, (.bool b63_7))] M4⟩⟩⟩⟩
theorem e10_16 (P : Program) (Q : Exit → Slots → Mem → Prop) (s : Slots) (M : Mem) : wpC P c10_16 Q s M = w10_16 P Q M (sget s 5) (sget s 6) (sget s 7) (sget s 8) (sget s 9) (sget s 10) (sget s 11) (sget s 12) := by kernel_rfl
def o10_17 : List AOper := [⟨some 65, (.mov (.tmp 5)), false, none⟩,
  ⟨some 66, (.mov (.tmp 6)), false, none⟩,
  ⟨some 67, (.call i_interval_Subtract [(.tmp 65), (.tmp 66)]), false, none⟩,
  ⟨some 68, (.call i_interval_Length [(.tmp 67)]), false, none⟩,
  ⟨some 64, (.mov (.tmp 68)), false, none⟩,
  ⟨some 69, (.extract (.tmp 64) 0), false, none⟩,
  ⟨some 70, (.extract (.tmp 64) 1), true, none⟩,
  ⟨some 15, (.mov (.tmp 69)), false, none⟩,
  ⟨some 16, (.mov (.tmp 70)), true, none⟩]
def c10_18 : ACode := (.region o10_17 [7, 8, 9, 10, 11, 12, 13, 14, 15, 16])
def w10_18 (P : Program) (Q : Exit → Slots → Mem → Prop) (M : Mem) (v5 : V) (v6 : V) (v7 : V) (v8 : V) (v9 : V) (v10 : V) (v11 : V) (v12 : V) (v13 : V) (v14 : V) : Prop :=
  @CallH P i_interval_Subtract [v5, v6] M ⟨fun t67_3 M3 =>
  @CallH P i_interval_Length [t67_3] M3 ⟨fun t68_4 M4 =>
  @OptVH (extractV t68_4 0) ⟨fun t69_6 =>
  @OptBH (extractV t68_4 1) ⟨fun b70_7 =>
  Q .normal [(7, v7), (8, v8), (9, v9), (10, v10), (11, v11), (12, v12), (13, v13), (14, v14), (15, t69_6), (16, (.bool b70_7))] M4⟩⟩⟩⟩
theorem e10_18 (P : Program) (Q : Exit → Slots → Mem → Prop) (s : Slots) (M : Mem) : wpC P c10_18 Q s M = w10_18 P Q M (sget s 5) (sget s 6) (sget s 7) (sget s 8) (sget s 9) (sget s 10) (sget s 11) (sget s 12) (sget s 13) (sget s 14) := by kernel_rfl
def o10_19 : List AOper := [⟨some 71, (.mov (.tmp 8)), true, none⟩,
  ⟨some 72, (.mov (.tmp 71)), true, none⟩,
  ⟨some 73, (.mov (.tmp 10)), true, some (72, true)⟩,
  ⟨some 74, (.pick (.tmp 72) (.tmp 73) (.const (.bool false))), true, none⟩,
  ⟨some 75, (.mov (.tmp 74)), true, none⟩,
  ⟨some 76, (.mov (.tmp 12)), true, some (75, true)⟩,
  ⟨some 77, (.pick (.tmp 75) (.tmp 76) (.const (.bool false))), true, none⟩,
  ⟨some 78, (.mov (.tmp 77)), true, none⟩,
  ⟨some 79, (.mov (.tmp 14)), true, some (78, true)⟩,
  ⟨some 80, (.pick (.tmp 78) (.tmp 79) (.const (.bool false))), true, none⟩,
  ⟨some 81, (.mov (.tmp 80)), true, none⟩,
  ⟨some 82, (.mov (.tmp 16)), true, some (81, true)⟩,
  ⟨some 83, (.pick (.tmp 81) (.tmp 82) (.const (.bool false))), true, none⟩,
  ⟨some 84, (.mov (.tmp 83)), true, none⟩,
  ⟨some 85, (.mov (.tmp 11)), false, some (84, true)⟩,
  ⟨some 86, (.mov (.tmp 13)), false, some (84, true)⟩,
  ⟨some 87, (.bin .add .none (.tmp 85) (.tmp 86)), false, some (84, true)⟩,
  ⟨some 88, (.mov (.tmp 7)), false, some (84, true)⟩,
  ⟨some 89, (.mov (.tmp 9)), false, some (84, true)⟩,
  ⟨some 90, (.bin .add .none (.tmp 88) (.tmp 89)), false, some (84, true)⟩,
  ⟨some 91, (.bin .eql .none (.tmp 87) (.tmp 90)), true, some (84, true)⟩,
  ⟨some 92, (.pick (.tmp 84) (.tmp 91) (.const (.bool false))), true, none⟩,
  ⟨some 93, (.mov (.tmp 92)), true, none⟩,
  ⟨some 94, (.mov (.tmp 13)), false, some (93, true)⟩,
  ⟨some 95, (.mov (.tmp 15)), false, some (93, true)⟩,
  ⟨some 96, (.bin .add .none (.tmp 94) (.tmp 95)), false, some (93, true)⟩,
  ⟨some 97, (.mov (.tmp 7)), false, some (93, true)⟩,
  ⟨some 98, (.bin .eql .none (.tmp 96) (.tmp 97)), true, some (93, true)⟩,
  ⟨some 99, (.pick (.tmp 93) (.tmp 98) (.const (.bool false))), true, none⟩,
  ⟨some 100, (.mov (.tmp 99)), true, none⟩,
  ⟨some 101, (.call i_transitlaw08_exampleHolds []), true, some (100, true)⟩,
  ⟨some 102, (.pick (.tmp 100) (.tmp 101) (.const (.bool false))), true, none⟩,
  ⟨some 4, (.mov (.tmp 102)), true, none⟩]
def c10_20 : ACode := (.region o10_19 [4])
def w10_20 (P : Program) (Q : Exit → Slots → Mem → Prop) (M : Mem) (v7 : V) (v8 : V) (v9 : V) (v10 : V) (v11 : V) (v12 : V) (v13 : V) (v14 : V) (v15 : V) (v16 : V) : Prop :=
  @OptBH (some v8) ⟨fun b71_1 =>
  @BIfH b71_1
  ⟨@OptBH (some v10) ⟨fun b73_3 =>
  @BIfH b73_3
  ⟨@OptBH (some v12) ⟨fun b76_6 =>
  @BIfH b76_6
  ⟨@OptBH (some v14) ⟨fun b79_9 =>
  @BIfH b79_9
  ⟨@OptBH (some v16) ⟨fun b82_12 =>
  @BIfH b82_12
  ⟨@OptVH (binV .add .none v11 v13) ⟨fun t87_17 =>
  @OptVH (binV .add .none v7 v9) ⟨fun t90_20 =>
  @OptBH (binV .eql .none t87_17 t90_20) ⟨fun b91_21 =>
  @BIfH b91_21
  ⟨@OptVH (binV .add .none v13 v15) ⟨fun t96_26 =>
  @OptBH (binV .eql .none t96_26 v7) ⟨fun b98_28 =>
  @BIfH b98_28
  ⟨@CallH P i_transitlaw08_exampleHolds [] M ⟨fun t101_31 M31 => @OptBH (some t101_31) ⟨fun b101_31 =>
  Q .normal [(4, (.bool b101_31))] M31⟩⟩⟩
  ⟨Q .normal [(4, (.bool false))] M⟩⟩⟩⟩
  ⟨Q .normal [(4, (.bool false))] M⟩⟩⟩⟩⟩
  ⟨Q .normal [(4, (.bool false))] M⟩⟩⟩
  ⟨Q .normal [(4, (.bool false))] M⟩⟩⟩
  ⟨Q .normal [(4, (.bool false))] M⟩⟩⟩
  ⟨Q .normal [(4, (.bool false))] M⟩⟩⟩
  ⟨Q .normal [(4, (.bool false))] M⟩⟩
theorem e10_20 (P : Program) (Q : Exit → Slots → Mem → Prop) (s : Slots) (M : Mem) : wpC P c10_20 Q s M = w10_20 P Q M (sget s 7) (sget s 8) (sget s 9) (sget s 10) (sget s 11) (sget s 12) (sget s 13) (sget s 14) (sget s 15) (sget s 16) := by kernel_rfl
def c10_21 : ACode := (.seq c10_20 .ret)
def c10_22 : ACode := (.seq c10_18 c10_21)
def c10_23 : ACode := (.seq c10_16 c10_22)
def c10_24 : ACode := (.seq c10_14 c10_23)
def c10_25 : ACode := (.seq c10_12 c10_24)
def c10_26 : ACode := (.seq c10_10 c10_25)
def c10_27 : ACode := (.seq c10_8 c10_26)
def c10_28 : ACode := (.seq c10_6 c10_27)
def c10_29 : ACode := (.seq c10_1 c10_28)
def fn_transitlaw08_IntervalMeasures : AFn := ⟨103, [(.tmp 4)], c10_29⟩
theorem fn_transitlaw08_IntervalMeasures_ok : resFn PR h_transitlaw08_IntervalMeasures i_transitlaw08_IntervalMeasures = some fn_transitlaw08_IntervalMeasures := by kernel_rfl

def h_transitlaw08_exampleHolds : Hints := ⟨[(0, []), (1, [1]), (2, [1, 2]), (3, [1, 2, 3]), (4, [1, 2, 3, 4, 5]), (5, [1, 2, 3, 4, 5, 6]), (6, [1, 2, 3, 4, 5, 6, 7]), (7, [0])], [], []⟩
def o11_0 : List AOper := [⟨some 0, (.mov (.const (.bool false))), true, none⟩]
def c11_1 : ACode := (.region o11_0 [])
def w11_1 (_P : Program) (Q : Exit → Slots → Mem → Prop) (M : Mem) : Prop :=
  Q .normal [] M
theorem e11_1 (P : Program) (Q : Exit → Slots → Mem → Prop) (s : Slots) (M : Mem) : wpC P c11_1 Q s M = w11_1 P Q M := by kernel_rfl
def o11_2 : List AOper := [⟨some 8, (.build [(.int .i64 0), (.int .i64 0)] [(0, (1, (.const (.int .i64 5)))), (1, (1, (.const (.int .i64 7))))]), false, none⟩,
  ⟨some 9, (.build [(.int .i64 0), (.int .i64 0)] [(0, (1, (.const (.int .i64 1)))), (1, (1, (.const (.int .i64 3))))]), false, none⟩,
  ⟨some 10, (.build [(.int .i64 0), (.int .i64 0)] [(0, (1, (.const (.int .i64 3)))), (1, (1, (.const (.int .i64 4))))]), false, none⟩,
  ⟨some 11, (.build [(.int .i64 0), (.int .i64 0)] [(0, (1, (.const (.int .i64 6)))), (1, (1, (.const (.int .i64 6))))]), false, none⟩,
  ⟨some 12, (.buildSlice [(.int .i64 0), (.int .i64 0), (.int .i64 0), (.int .i64 0), (.int .i64 0), (.int .i64 0), (.int .i64 0), (.int .i64 0)] 2 4 [(0, (2, (.tmp 8))), (2, (2, (.tmp 9))), (4, (2, (.tmp 10))), (6, (2, (.tmp 11)))]), false, none⟩,
  ⟨some 13, (.call i_interval_Normalize [(.tmp 12)]), false, none⟩,
  ⟨some 1, (.mov (.tmp 13)), false, none⟩]
def c11_3 : ACode := (.region o11_2 [1])
def w11_3 (P : Program) (Q : Exit → Slots → Mem → Prop) (M : Mem) : Prop :=
  @OptVH (buildV [(.int .i64 0), (.int .i64 0)] [(0, 1, (.int .i64 5)), (1, 1, (.int .i64 7))]) ⟨fun t8_1 =>
  @OptVH (buildV [(.int .i64 0), (.int .i64 0)] [(0, 1, (.int .i64 1)), (1, 1, (.int .i64 3))]) ⟨fun t9_2 =>
  @OptVH (buildV [(.int .i64 0), (.int .i64 0)] [(0, 1, (.int .i64 3)), (1, 1, (.int .i64 4))]) ⟨fun t10_3 =>
  @OptVH (buildV [(.int .i64 0), (.int .i64 0)] [(0, 1, (.int .i64 6)), (1, 1, (.int .i64 6))]) ⟨fun t11_4 =>
  @OptVH (buildSliceV [(.int .i64 0), (.int .i64 0), (.int .i64 0), (.int .i64 0), (.int .i64 0), (.int .i64 0), (.int .i64 0), (.int .i64 0)] 2 4 [(0, 2, t8_1), (2, 2, t9_2), (4, 2, t10_3), (6, 2, t11_4)]) ⟨fun t12_5 =>
  @CallH P i_interval_Normalize [t12_5] M ⟨fun t13_6 M6 =>
  Q .normal [(1, t13_6)] M6⟩⟩⟩⟩⟩⟩
theorem e11_3 (P : Program) (Q : Exit → Slots → Mem → Prop) (s : Slots) (M : Mem) : wpC P c11_3 Q s M = w11_3 P Q M := by kernel_rfl
def o11_4 : List AOper := [⟨some 14, (.build [(.int .i64 0), (.int .i64 0)] [(0, (1, (.const (.int .i64 1)))), (1, (1, (.const (.int .i64 10))))]), false, none⟩,
  ⟨some 15, (.buildSlice [(.int .i64 0), (.int .i64 0)] 2 1 [(0, (2, (.tmp 14)))]), false, none⟩,
  ⟨some 16, (.build [(.int .i64 0), (.int .i64 0)] [(0, (1, (.const (.int .i64 3)))), (1, (1, (.const (.int .i64 5))))]), false, none⟩,
  ⟨some 17, (.buildSlice [(.int .i64 0), (.int .i64 0)] 2 1 [(0, (2, (.tmp 16)))]), false, none⟩,
  ⟨some 18, (.call i_interval_Subtract [(.tmp 15), (.tmp 17)]), false, none⟩,
  ⟨some 2, (.mov (.tmp 18)), false, none⟩]
def c11_5 : ACode := (.region o11_4 [1, 2])
def w11_5 (P : Program) (Q : Exit → Slots → Mem → Prop) (M : Mem) (v1 : V) : Prop :=
  @OptVH (buildV [(.int .i64 0), (.int .i64 0)] [(0, 1, (.int .i64 1)), (1, 1, (.int .i64 10))]) ⟨fun t14_1 =>
  @OptVH (buildSliceV [(.int .i64 0), (.int .i64 0)] 2 1 [(0, 2, t14_1)]) ⟨fun t15_2 =>
  @OptVH (buildV [(.int .i64 0), (.int .i64 0)] [(0, 1, (.int .i64 3)), (1, 1, (.int .i64 5))]) ⟨fun t16_3 =>
  @OptVH (buildSliceV [(.int .i64 0), (.int .i64 0)] 2 1 [(0, 2, t16_3)]) ⟨fun t17_4 =>
  @CallH P i_interval_Subtract [t15_2, t17_4] M ⟨fun t18_5 M5 =>
  Q .normal [(1, v1), (2, t18_5)] M5⟩⟩⟩⟩⟩
theorem e11_5 (P : Program) (Q : Exit → Slots → Mem → Prop) (s : Slots) (M : Mem) : wpC P c11_5 Q s M = w11_5 P Q M (sget s 1) := by kernel_rfl
def o11_6 : List AOper := [⟨some 19, (.build [(.int .i64 0), (.int .i64 0)] [(0, (1, (.const (.int .i64 1)))), (1, (1, (.const (.int .i64 10))))]), false, none⟩,
  ⟨some 20, (.buildSlice [(.int .i64 0), (.int .i64 0)] 2 1 [(0, (2, (.tmp 19)))]), false, none⟩,
  ⟨some 21, (.build [(.int .i64 0), (.int .i64 0)] [(0, (1, (.const (.int .i64 0)))), (1, (1, (.const (.int .i64 2))))]), false, none⟩,
  ⟨some 22, (.build [(.int .i64 0), (.int .i64 0)] [(0, (1, (.const (.int .i64 9)))), (1, (1, (.const (.int .i64 12))))]), false, none⟩,
  ⟨some 23, (.buildSlice [(.int .i64 0), (.int .i64 0), (.int .i64 0), (.int .i64 0)] 2 2 [(0, (2, (.tmp 21))), (2, (2, (.tmp 22)))]), false, none⟩,
  ⟨some 24, (.call i_interval_Intersect [(.tmp 20), (.tmp 23)]), false, none⟩,
  ⟨some 3, (.mov (.tmp 24)), false, none⟩]
def c11_7 : ACode := (.region o11_6 [1, 2, 3])
def w11_7 (P : Program) (Q : Exit → Slots → Mem → Prop) (M : Mem) (v1 : V) (v2 : V) : Prop :=
  @OptVH (buildV [(.int .i64 0), (.int .i64 0)] [(0, 1, (.int .i64 1)), (1, 1, (.int .i64 10))]) ⟨fun t19_1 =>
  @OptVH (buildSliceV [(.int .i64 0), (.int .i64 0)] 2 1 [(0, 2, t19_1)]) ⟨fun t20_2 =>
  @OptVH (buildV [(.int .i64 0), (.int .i64 0)] [(0, 1, (.int .i64 0)), (1, 1, (.int .i64 2))]) ⟨fun t21_3 =>
  @OptVH (buildV [(.int .i64 0), (.int .i64 0)] [(0, 1, (.int .i64 9)), (1, 1, (.int .i64 12))]) ⟨fun t22_4 =>
  @OptVH (buildSliceV [(.int .i64 0), (.int .i64 0), (.int .i64 0), (.int .i64 0)] 2 2 [(0, 2, t21_3), (2, 2, t22_4)]) ⟨fun t23_5 =>
  @CallH P i_interval_Intersect [t20_2, t23_5] M ⟨fun t24_6 M6 =>
  Q .normal [(1, v1), (2, v2), (3, t24_6)] M6⟩⟩⟩⟩⟩⟩
theorem e11_7 (P : Program) (Q : Exit → Slots → Mem → Prop) (s : Slots) (M : Mem) : wpC P c11_7 Q s M = w11_7 P Q M (sget s 1) (sget s 2) := by kernel_rfl
def o11_8 : List AOper := [⟨some 26, (.build [(.int .i64 0), (.int .i64 0)] [(0, (1, (.const (.int .i64 1)))), (1, (1, (.const (.int .i64 4))))]), false, none⟩,
  ⟨some 27, (.build [(.int .i64 0), (.int .i64 0)] [(0, (1, (.const (.int .i64 2)))), (1, (1, (.const (.int .i64 6))))]), false, none⟩,
  ⟨some 28, (.buildSlice [(.int .i64 0), (.int .i64 0), (.int .i64 0), (.int .i64 0)] 2 2 [(0, (2, (.tmp 26))), (2, (2, (.tmp 27)))]), false, none⟩,
  ⟨some 29, (.call i_interval_Length [(.tmp 28)]), false, none⟩,
  ⟨some 25, (.mov (.tmp 29)), false, none⟩,
  ⟨some 30, (.extract (.tmp 25) 0), false, none⟩,
  ⟨some 31, (.extract (.tmp 25) 1), true, none⟩,
  ⟨some 4, (.mov (.tmp 30)), false, none⟩,
  ⟨some 5, (.mov (.tmp 31)), true, none⟩]
def c11_9 : ACode := (.region o11_8 [1, 2, 3, 4, 5])
def w11_9 (P : Program) (Q : Exit → Slots → Mem → Prop) (M : Mem) (v1 : V) (v2 : V) (v3 : V) : Prop :=
  @OptVH (buildV [(.int .i64 0), (.int .i64 0)] [(0, 1, (.int .i64 1)), (1, 1, (.int .i64 4))]) ⟨fun t26_1 =>
  @OptVH (buildV [(.int .i64 0), (.int .i64 0)] [(0, 1, (.int .i64 2)), (1, 1, (.int .i64 6))]) ⟨fun t27_2 =>
  @OptVH (buildSliceV [(.int .i64 0), (.int .i64 0), (.int .i64 0), (.int .i64 0)] 2 2 [(0, 2, t26_1), (2, 2, t27_2)]) ⟨fun t28_3 =>
  @CallH P i_interval_Length [t28_3] M ⟨fun t29_4 M4 =>
  @OptVH (extractV t29_4 0) ⟨fun t30_6 =>
  @OptBH (extractV t29_4 1) ⟨fun b31_7 =>
  Q .normal [(1, v1), (2, v2), (3, v3), (4, t30_6), (5, (.bool b31_7))] M4⟩⟩⟩⟩⟩⟩
theorem e11_9 (P : Program) (Q : Exit → Slots → Mem → Prop) (s : Slots) (M : Mem) : wpC P c11_9 Q s M = w11_9 P Q M (sget s 1) (sget s 2) (sget s 3) := by kernel_rfl
def o11_10 : List AOper := [⟨some 32, (.build [(.int .i64 0), (.int .i64 0)] [(0, (1, (.const (.int .i64 1)))), (1, (1, (.const (.int .i64 3))))]), false, none⟩,
  ⟨some 33, (.build [(.int .i64 0), (.int .i64 0)] [(0, (1, (.const (.int .i64 5)))), (1, (1, (.const (.int .i64 6))))]), false, none⟩,
  ⟨some 34, (.buildSlice [(.int .i64 0), (.int .i64 0), (.int .i64 0), (.int .i64 0)] 2 2 [(0, (2, (.tmp 32))), (2, (2, (.tmp 33)))]), false, none⟩,
  ⟨some 35, (.build [(.int .i64 0), (.int .i64 0)] [(0, (1, (.const (.int .i64 0)))), (1, (1, (.const (.int .i64 8))))]), false, none⟩,
  ⟨some 36, (.call i_interval_Gaps [(.tmp 34), (.tmp 35)]), false, none⟩,
  ⟨some 6, (.mov (.tmp 36)), false, none⟩]
def c11_11 : ACode := (.region o11_10 [1, 2, 3, 4, 5, 6])
def w11_11 (P : Program) (Q : Exit → Slots → Mem → Prop) (M : Mem) (v1 : V) (v2 : V) (v3 : V) (v4 : V) (v5 : V) : Prop :=
  @OptVH (buildV [(.int .i64 0), (.int .i64 0)] [(0, 1, (.int .i64 1)), (1, 1, (.int .i64 3))]) ⟨fun t32_1 =>
  @OptVH (buildV [(.int .i64 0), (.int .i64 0)] [(0, 1, (.int .i64 5)), (1, 1, (.int .i64 6))]) ⟨fun t33_2 =>
  @OptVH (buildSliceV [(.int .i64 0), (.int .i64 0), (.int .i64 0), (.int .i64 0)] 2 2 [(0, 2, t32_1), (2, 2, t33_2)]) ⟨fun t34_3 =>
  @OptVH (buildV [(.int .i64 0), (.int .i64 0)] [(0, 1, (.int .i64 0)), (1, 1, (.int .i64 8))]) ⟨fun t35_4 =>
  @CallH P i_interval_Gaps [t34_3, t35_4] M ⟨fun t36_5 M5 =>
  Q .normal [(1, v1), (2, v2), (3, v3), (4, v4), (5, v5), (6, t36_5)] M5⟩⟩⟩⟩⟩
theorem e11_11 (P : Program) (Q : Exit → Slots → Mem → Prop) (s : Slots) (M : Mem) : wpC P c11_11 Q s M = w11_11 P Q M (sget s 1) (sget s 2) (sget s 3) (sget s 4) (sget s 5) := by kernel_rfl
def o11_12 : List AOper := [⟨some 37, (.build [(.int .i64 0), (.int .i64 0)] [(0, (1, (.const (.int .i64 1)))), (1, (1, (.const (.int .i64 2))))]), false, none⟩,
  ⟨some 38, (.buildSlice [(.int .i64 0), (.int .i64 0)] 2 1 [(0, (2, (.tmp 37)))]), false, none⟩,
  ⟨some 39, (.build [(.int .i64 0), (.int .i64 0)] [(0, (1, (.const (.int .i64 2)))), (1, (1, (.const (.int .i64 3))))]), false, none⟩,
  ⟨some 40, (.buildSlice [(.int .i64 0), (.int .i64 0)] 2 1 [(0, (2, (.tmp 39)))]), false, none⟩,
  ⟨some 41, (.call i_interval_Union [(.tmp 38), (.tmp 40)]), false, none⟩,
  ⟨some 7, (.mov (.tmp 41)), false, none⟩]
def c11_13 : ACode := (.region o11_12 [1, 2, 3, 4, 5, 6, 7])
def w11_13 (P : Program) (Q : Exit → Slots → Mem → Prop) (M : Mem) (v1 : V) (v2 : V) (v3 : V) (v4 : V) (v5 : V) (v6 : V) : Prop :=
  @OptVH (buildV [(.int .i64 0), (.int .i64 0)] [(0, 1, (.int .i64 1)), (1, 1, (.int .i64 2))]) ⟨fun t37_1 =>
  @OptVH (buildSliceV [(.int .i64 0), (.int .i64 0)] 2 1 [(0, 2, t37_1)]) ⟨fun t38_2 =>
  @OptVH (buildV [(.int .i64 0), (.int .i64 0)] [(0, 1, (.int .i64 2)), (1, 1, (.int .i64 3))]) ⟨fun t39_3 =>
  @OptVH (buildSliceV [(.int .i64 0), (.int .i64 0)] 2 1 [(0, 2, t39_3)]) ⟨fun t40_4 =>
  @CallH P i_interval_Union [t38_2, t40_4] M ⟨fun t41_5 M5 =>
  Q .normal [(1, v1), (2, v2), (3, v3), (4, v4), (5, v5), (6, v6), (7, t41_5)] M5⟩⟩⟩⟩⟩
theorem e11_13 (P : Program) (Q : Exit → Slots → Mem → Prop) (s : Slots) (M : Mem) : wpC P c11_13 Q s M = w11_13 P Q M (sget s 1) (sget s 2) (sget s 3) (sget s 4) (sget s 5) (sget s 6) := by kernel_rfl
def o11_14 : List AOper := [⟨some 42, (.mov (.tmp 1)), false, none⟩,
  ⟨some 43, (.build [(.int .i64 0), (.int .i64 0)] [(0, (1, (.const (.int .i64 1)))), (1, (1, (.const (.int .i64 4))))]), false, none⟩,
  ⟨some 44, (.build [(.int .i64 0), (.int .i64 0)] [(0, (1, (.const (.int .i64 5)))), (1, (1, (.const (.int .i64 7))))]), false, none⟩,
  ⟨some 45, (.buildSlice [(.int .i64 0), (.int .i64 0), (.int .i64 0), (.int .i64 0)] 2 2 [(0, (2, (.tmp 43))), (2, (2, (.tmp 44)))]), false, none⟩,
  ⟨some 46, (.call i_transitlaw08_equal [(.tmp 42), (.tmp 45)]), true, none⟩,
  ⟨some 47, (.mov (.tmp 46)), true, none⟩,
  ⟨some 48, (.mov (.tmp 2)), false, some (47, true)⟩,
  ⟨some 49, (.build [(.int .i64 0), (.int .i64 0)] [(0, (1, (.const (.int .i64 1)))), (1, (1, (.const (.int .i64 3))))]), false, some (47, true)⟩,
  ⟨some 50, (.build [(.int .i64 0), (.int .i64 0)] [(0, (1, (.const (.int .i64 5)))), (1, (1, (.const (.int .i64 10))))]), false, some (47, true)⟩,
  ⟨some 51, (.buildSlice [(.int .i64 0), (.int .i64 0), (.int .i64 0), (.int .i64 0)] 2 2 [(0, (2, (.tmp 49))), (2, (2, (.tmp 50)))]), false, some (47, true)⟩,
  ⟨some 52, (.call i_transitlaw08_equal [(.tmp 48), (.tmp 51)]), true, some (47, true)⟩,
  ⟨some 53, (.pick (.tmp 47) (.tmp 52) (.const (.bool false))), true, none⟩,
  ⟨some 54, (.mov (.tmp 53)), true, none⟩,
  ⟨some 55, (.mov (.tmp 3)), false, some (54, true)⟩,
  ⟨some 56, (.build [(.int .i64 0), (.int .i64 0)] [(0, (1, (.const (.int .i64 1)))), (1, (1, (.const (.int .i64 2))))]), false, some (54, true)⟩,
  ⟨some 57, (.build [(.int .i64 0), (.int .i64 0)] [(0, (1, (.const (.int .i64 9)))), (1, (1, (.const (.int .i64 10))))]), false, some (54, true)⟩,
  ⟨some 58, (.buildSlice [(.int .i64 0), (.int .i64 0), (.int .i64 0), (.int .i64 0)] 2 2 [(0, (2, (.tmp 56))), (2, (2, (.tmp 57)))]), false, some (54, true)⟩,
  ⟨some 59, (.call i_transitlaw08_equal [(.tmp 55), (.tmp 58)]), true, some (54, true)⟩,
  ⟨some 60, (.pick (.tmp 54) (.tmp 59) (.const (.bool false))), true, none⟩,
  ⟨some 61, (.mov (.tmp 60)), true, none⟩,
  ⟨some 62, (.mov (.tmp 4)), false, some (61, true)⟩,
  ⟨some 63, (.bin .eql .none (.tmp 62) (.const (.int .i64 5))), true, some (61, true)⟩,
  ⟨some 64, (.pick (.tmp 61) (.tmp 63) (.const (.bool false))), true, none⟩,
  ⟨some 65, (.mov (.tmp 64)), true, none⟩,
  ⟨some 66, (.mov (.tmp 5)), true, some (65, true)⟩,
  ⟨some 67, (.pick (.tmp 65) (.tmp 66) (.const (.bool false))), true, none⟩,
  ⟨some 68, (.mov (.tmp 67)), true, none⟩,
  ⟨some 69, (.mov (.tmp 6)), false, some (68, true)⟩,
  ⟨some 70, (.build [(.int .i64 0), (.int .i64 0)] [(0, (1, (.const (.int .i64 0)))), (1, (1, (.const (.int .i64 1))))]), false, some (68, true)⟩,
  ⟨some 71, (.build [(.int .i64 0), (.int .i64 0)] [(0, (1, (.const (.int .i64 3)))), (1, (1, (.const (.int .i64 5))))]), false, some (68, true)⟩,
  ⟨some 72, (.build [(.int .i64 0), (.int .i64 0)] [(0, (1, (.const (.int .i64 6)))), (1, (1, (.const (.int .i64 8))))]), false, some (68, true)⟩,
  ⟨some 73, (.buildSlice [(.int .i64 0), (.int .i64 0), (.int .i64 0), (.int .i64 0), (.int .i64 0), (.int .i64 0)] 2 3 [(0, (2, (.tmp 70))), (2, (2, (.tmp 71))), (4, (2, (.tmp 72)))]), false, some (68, true)⟩,
  ⟨some 74, (.call i_transitlaw08_equal [(.tmp 69), (.tmp 73)]), true, some (68, true)⟩,
  ⟨some 75, (.pick (.tmp 68) (.tmp 74) (.const (.bool false))), true, none⟩,
  ⟨some 76, (.mov (.tmp 75)), true, none⟩,
  ⟨some 77, (.mov (.tmp 7)), false, some (76, true)⟩,
  ⟨some 78, (.build [(.int .i64 0), (.int .i64 0)] [(0, (1, (.const (.int .i64 1)))), (1, (1, (.const (.int .i64 3))))]), false, some (76, true)⟩,
  ⟨some 79, (.buildSlice [(.int .i64 0), (.int .i64 0)] 2 1 [(0, (2, (.tmp 78)))]), false, some (76, true)⟩,
  ⟨some 80, (.call i_transitlaw08_equal [(.tmp 77), (.tmp 79)]), true, some (76, true)⟩,
  ⟨some 81, (.pick (.tmp 76) (.tmp 80) (.const (.bool false))), true, none⟩,
  ⟨some 82, (.mov (.tmp 81)), true, none⟩,
  ⟨some 83, (.build [(.int .i64 0), (.int .i64 0)] [(1, (1, (.const (.int .i64 1))))]), false, some (82, true)⟩,
  ⟨some 84, (.call i_interval_Valid [(.tmp 83)]), true, some (82, true)⟩,
  ⟨some 85, (.pick (.tmp 82) (.tmp 84) (.const (.bool false))), true, none⟩,
  ⟨some 86, (.mov (.tmp 85)), true, none⟩,
  ⟨some 87, (.build [(.int .i64 0), (.int .i64 0)] []), false, some (86, true)⟩,
  ⟨some 88, (.call i_interval_Valid [(.tmp 87)]), true, some (86, true)⟩,
  ⟨some 89, (.un .not (.tmp 88)), true, some (86, true)⟩,
  ⟨some 90, (.pick (.tmp 86) (.tmp 89) (.const (.bool false))), true, none⟩,
  ⟨some 91, (.mov (.tmp 90)), true, none⟩,
  ⟨some 92, (.build [(.int .i64 0), (.int .i64 0)] [(0, (1, (.const (.int .i64 2)))), (1, (1, (.const (.int .i64 3))))]), false, some (91, true)⟩,
  ⟨some 93, (.buildSlice [(.int .i64 0), (.int .i64 0)] 2 1 [(0, (2, (.tmp 92)))]), false, some (91, true)⟩,
  ⟨some 94, (.call i_interval_Contains [(.tmp 93), (.const (.int .i64 2))]), true, some (91, true)⟩,
  ⟨some 95, (.pick (.tmp 91) (.tmp 94) (.const (.bool false))), true, none⟩,
  ⟨some 0, (.mov (.tmp 95)), true, none⟩]
def c11_15 : ACode := (.region o11_14 [0])
def w11_15 (P : Program) (Q : Exit → Slots → Mem → Prop) (M : Mem) (v1 : V) (v2 : V) (v3 : V) (v4 : V) (v5 : V) (v6 : V) (v7 : V) : Prop :=
  @OptVH (buildV [(.int .i64 0), (.int .i64 0)] [(0, 1, (.int .i64 1)), (1, 1, (.int .i64 4))]) ⟨fun t43_2 =>
  @OptVH (buildV [(.int .i64 0), (.int .i64 0)] [(0, 1, (.int .i64 5)), (1, 1, (.int .i64 7))]) ⟨fun t44_3 =>
  @OptVH (buildSliceV [(.int .i64 0), (.int .i64 0), (.int .i64 0), (.int .i64 0)] 2 2 [(0, 2, t43_2), (2, 2, t44_3)]) ⟨fun t45_4 =>
  @CallH P i_transitlaw08_equal [v1, t45_4] M ⟨fun t46_5 M5 => @OptBH (some t46_5) ⟨fun b46_5 =>
  @BIfH b46_5
  ⟨@OptVH (buildV [(.int .i64 0), (.int .i64 0)] [(0, 1, (.int .i64 1)), (1, 1, (.int .i64 3))]) ⟨fun t49_8 =>
  @OptVH (buildV [(.int .i64 0), (.int .i64 0)] [(0, 1, (.int .i64 5)), (1, 1, (.int .i64 10))]) ⟨fun t50_9 =>
  @OptVH (buildSliceV [(.int .i64 0), (.int .i64 0), (.int .i64 0), (.int .i64 0)] 2 2 [(0, 2, t49_8), (2, 2, t50_9)]) ⟨fun t51_10 =>
  @CallH P i_transitlaw08_equal [v2, t51_10] M5 ⟨fun t52_11 M11 => @OptBH (some t52_11) ⟨fun b52_11 =>
  @BIfH b52_11
  ⟨@OptVH (buildV [(.int .i64 0), (.int .i64 0)] [(0, 1, (.int .i64 1)), (1, 1, (.int .i64 2))]) ⟨fun t56_15 =>
  @OptVH (buildV [(.int .i64 0), (.int .i64 0)] [(0, 1, (.int .i64 9)), (1, 1, (.int .i64 10))]) ⟨fun t57_16 =>
  @OptVH (buildSliceV [(.int .i64 0), (.int .i64 0), (.int .i64 0), (.int .i64 0)] 2 2 [(0, 2, t56_15), (2, 2, t57_16)]) ⟨fun t58_17 =>
  @CallH P i_transitlaw08_equal [v3, t58_17] M11 ⟨fun t59_18 M18 => @OptBH (some t59_18) ⟨fun b59_18 =>
  @BIfH b59_18
  ⟨@OptBH (binV .eql .none v4 (.int .i64 5)) ⟨fun b63_22 =>
  @BIfH b63_22
  ⟨@OptBH (some v5) ⟨fun b66_25 =>
  @BIfH b66_25
  ⟨@OptVH (buildV [(.int .i64 0), (.int .i64 0)] [(0, 1, (.int .i64 0)), (1, 1, (.int .i64 1))]) ⟨fun t70_29 =>
  @OptVH (buildV [(.int .i64 0), (.int .i64 0)] [(0, 1, (.int .i64 3)), (1, 1, (.int .i64 5))]) ⟨fun t71_30 =>
  @OptVH (buildV [(.int .i64 0), (.int .i64 0)] [(0, 1, (.int .i64 6)), (1, 1, (.int .i64 8))]) ⟨fun t72_31 =>
  @OptVH (buildSliceV [(.int .i64 0), (.int .i64 0), (.int .i64 0), (.int .i64 0), (.int .i64 0), (.int .i64 0)] 2 3 [(0, 2, t70_29), (2, 2, t71_30), (4, 2, t72_31)]) ⟨fun t73_32 =>
  @CallH P i_transitlaw08_equal [v6, t73_32] M18 ⟨fun t74_33 M33 => @OptBH (some t74_33) ⟨fun b74_33 =>
  @BIfH b74_33
  ⟨@OptVH (buildV [(.int .i64 0), (.int .i64 0)] [(0, 1, (.int .i64 1)), (1, 1, (.int .i64 3))]) ⟨fun t78_37 =>
  @OptVH (buildSliceV [(.int .i64 0), (.int .i64 0)] 2 1 [(0, 2, t78_37)]) ⟨fun t79_38 =>
  @CallH P i_transitlaw08_equal [v7, t79_38] M33 ⟨fun t80_39 M39 => @OptBH (some t80_39) ⟨fun b80_39 =>
  @BIfH b80_39
  ⟨@OptVH (buildV [(.int .i64 0), (.int .i64 0)] [(1, 1, (.int .i64 1))]) ⟨fun t83_42 =>
  @CallH P i_interval_Valid [t83_42] M39 ⟨fun t84_43 M43 => @OptBH (some t84_43) ⟨fun b84_43 =>
  @BIfH b84_43
  ⟨@OptVH (buildV [(.int .i64 0), (.int .i64 0)] []) ⟨fun t87_46 =>
  @CallH P i_interval_Valid [t87_46] M43 ⟨fun t88_47 M47 => @OptBH (some t88_47) ⟨fun b88_47 =>
  @OptBH (unV .not (.bool b88_47)) ⟨fun b89_48 =>
  @BIfH b89_48
  ⟨@OptVH (buildV [(.int .i64 0), (.int .i64 0)] [(0, 1, (.int .i64 2)), (1, 1, (.int .i64 3))]) ⟨fun t92_51 =>
  @OptVH (buildSliceV [(.int .i64 0), (.int .i64 0)] 2 1 [(0, 2, t92_51)]) ⟨fun t93_52 =>
  @CallH P i_interval_Contains [t93_52, (.int .i64 2)] M47 ⟨fun t94_53 M53 => @OptBH (some t94_53) ⟨fun b94_53 =>
  Q .normal [(0, (.bool b94_53))] M53⟩⟩⟩⟩⟩
  ⟨Q .normal [(0, (.bool false))] M47⟩⟩⟩⟩⟩⟩
  ⟨Q .normal [(0, (.bool false))] M43⟩⟩⟩⟩⟩
  ⟨Q .normal [(0, (.bool false))] M39⟩⟩⟩⟩⟩⟩
  ⟨Q .normal [(0, (.bool false))] M33⟩⟩⟩⟩⟩⟩⟩⟩
  ⟨Q .normal [(0, (.bool false))] M18⟩⟩⟩
  ⟨Q .normal [(0, (.bool false))] M18⟩⟩⟩
  ⟨Q .normal [(0, (.bool false))] M18⟩⟩⟩⟩⟩⟩⟩
  ⟨Q .normal [(0, (.bool false))] M11⟩⟩⟩⟩⟩⟩⟩
  ⟨Q .normal [(0, (.bool false))] M5⟩⟩⟩⟩⟩⟩
theorem e11_15 (P : Program) (Q : Exit → Slots → Mem → Prop) (s : Slots) (M : Mem) : wpC P c11_15 Q s M = w11_15 P Q M (sget s 1) (sget s 2) (sget s 3) (sget s 4) (sget s 5) (sget s 6) (sget s 7) := by kernel_rfl
def c11_16 : ACode := (.seq c11_15 .ret)
def c11_17 : ACode := (.seq c11_13 c11_16)
def c11_18 : ACode := (.seq c11_11 c11_17)
def c11_19 : ACode := (.seq c11_9 c11_18)
def c11_20 : ACode := (.seq c11_7 c11_19)
def c11_21 : ACode := (.seq c11_5 c11_20)
def c11_22 : ACode := (.seq c11_3 c11_21)
def c11_23 : ACode := (.seq c11_1 c11_22)
def fn_transitlaw08_exampleHolds : AFn := ⟨96, [(.tmp 0)], c11_23⟩
theorem fn_transitlaw08_exampleHolds_ok : resFn PR h_transitlaw08_exampleHolds i_transitlaw08_exampleHolds = some fn_transitlaw08_exampleHolds := by kernel_rfl

def h_interval_Valid : Hints := ⟨[(0, [1]), (1, [2])], [], []⟩
def o12_0 : List AOper := [⟨some 1, (.box 2 (.tmp 0)), false, none⟩,
  ⟨some 2, (.mov (.const (.bool false))), true, none⟩]
def c12_1 : ACode := (.region o12_0 [1])
def w12_1 (_P : Program) (Q : Exit → Slots → Mem → Prop) (M : Mem) (v0 : V) : Prop :=
  @OptMH (boxV 2 v0 M) ⟨fun t1_1 M1 =>
  Q .normal [(1, t1_1)] M1⟩
theorem e12_1 (P : Program) (Q : Exit → Slots → Mem → Prop) (s : Slots) (M : Mem) : wpC P c12_1 Q s M = w12_1 P Q M (sget s 0) := by kernel_rfl
def o12_2 : List AOper := [⟨some 3, (.fieldAddr 0 (.tmp 1)), false, none⟩,
  ⟨some 4, (.load 1 false (.tmp 3)), false, none⟩,
  ⟨some 5, (.fieldAddr 1 (.tmp 1)), false, none⟩,
  ⟨some 6, (.load 1 false (.tmp 5)), false, none⟩,
  ⟨some 7, (.bin .lss .none (.tmp 4) (.tmp 6)), true, none⟩,
  ⟨some 2, (.mov (.tmp 7)), true, none⟩]
def c12_3 : ACode := (.region o12_2 [2])
def w12_3 (_P : Program) (Q : Exit → Slots → Mem → Prop) (M : Mem) (v1 : V) : Prop :=
  @OptVH (moveV 0 v1) ⟨fun t3_1 =>
  @OptVH (loadV 1 false t3_1 M) ⟨fun t4_2 =>
  @OptVH (moveV 1 v1) ⟨fun t5_3 =>
  @OptVH (loadV 1 false t5_3 M) ⟨fun t6_4 =>
  @OptBH (binV .lss .none t4_2 t6_4) ⟨fun b7_5 =>
  Q .normal [(2, (.bool b7_5))] M⟩⟩⟩⟩⟩
theorem e12_3 (P : Program) (Q : Exit → Slots → Mem → Prop) (s : Slots) (M : Mem) : wpC P c12_3 Q s M = w12_3 P Q M (sget s 1) := by kernel_rfl
def c12_4 : ACode := (.seq c12_3 .ret)
def c12_5 : ACode := (.seq c12_1 c12_4)
def fn_interval_Valid : AFn := ⟨8, [(.tmp 2)], c12_5⟩
theorem fn_interval_Valid_ok : resFn PR h_interval_Valid i_interval_Valid = some fn_interval_Valid := by kernel_rfl

def h_interval_Contains : Hints := ⟨[(0, [0, 1]), (1, [1, 7, 8, 9]), (2, [1, 7, 8, 9, 10]), (3, [1, 6, 7, 8, 9]), (4, [1, 7, 8, 9, 22]), (5, [4]), (6, [1, 7, 8, 9]), (7, [4])], [(2, [1, 7, 8, 9])], []⟩
def o13_0 : List AOper := [⟨some 4, (.mov (.const (.bool false))), true, none⟩]
def c13_1 : ACode := (.region o13_0 [0, 1])
def w13_1 (_P : Program) (Q : Exit → Slots → Mem → Prop) (M : Mem) (v0 : V) (v1 : V) : Prop :=
  Q .normal [(0, v0), (1, v1)] M
theorem e13_1 (P : Program) (Q : Exit → Slots → Mem → Prop) (s : Slots) (M : Mem) : wpC P c13_1 Q s M = w13_1 P Q M (sget s 0) (sget s 1) := by kernel_rfl
def o13_2 : List AOper := [⟨some 7, (.mov (.tmp 0)), false, none⟩,
  ⟨some 8, (.lenSl (.tmp 7)), false, none⟩,
  ⟨some 9, (.mov (.const (.int .i64 0))), false, none⟩]
def c13_3 : ACode := (.region o13_2 [1, 7, 8, 9])
def w13_3 (_P : Program) (Q : Exit → Slots → Mem → Prop) (M : Mem) (v0 : V) (v1 : V) : Prop :=
  @OptVH (lenV v0 M) ⟨fun t8_2 =>
  Q .normal [(1, v1), (7, v0), (8, t8_2), (9, (.int .i64 0))] M⟩
theorem e13_3 (P : Program) (Q : Exit → Slots → Mem → Prop) (s : Slots) (M : Mem) : wpC P c13_3 Q s M = w13_3 P Q M (sget s 0) (sget s 1) := by kernel_rfl
def o13_4 : List AOper := [⟨some 10, (.bin .lss .none (.tmp 9) (.tmp 8)), false, none⟩]
def c13_5 : ACode := (.region o13_4 [1, 7, 8, 9, 10])
def w13_5 (_P : Program) (Q : Exit → Slots → Mem → Prop) (M : Mem) (v1 : V) (v7 : V) (v8 : V) (v9 : V) : Prop :=
  @OptVH (binV .lss .none v9 v8) ⟨fun t10_1 =>
  Q .normal [(1, v1), (7, v7), (8, v8), (9, v9), (10, t10_1)] M⟩
theorem e13_5 (P : Program) (Q : Exit → Slots → Mem → Prop) (s : Slots) (M : Mem) : wpC P c13_5 Q s M = w13_5 P Q M (sget s 1) (sget s 7) (sget s 8) (sget s 9) := by kernel_rfl
def c13_6 : ACode := (.cond (.tmp 10) .skip (.exit 0))
def o13_7 : List AOper := [⟨some 11, (.indexSl 2 (.tmp 7) (.tmp 9)), false, none⟩,
  ⟨some 12, (.load 2 true (.tmp 11)), false, none⟩,
  ⟨some 6, (.alloc [(.int .i64 0), (.int .i64 0)]), false, none⟩,
  ⟨none, (.store 2 (.tmp 6) (.tmp 12)), false, none⟩]
def c13_8 : ACode := (.region o13_7 [1, 6, 7, 8, 9])
def w13_8 (_P : Program) (Q : Exit → Slots → Mem → Prop) (M : Mem) (v1 : V) (v7 : V) (v8 : V) (v9 : V) : Prop :=
  @OptVH (indexSlV 2 v7 v9 M) ⟨fun t11_1 =>
  @OptVH (loadV 2 true t11_1 M) ⟨fun t12_2 =>
  @OptMH (allocV [(.int .i64 0), (.int .i64 0)] M) ⟨fun t6_3 M3 =>
  @OptMH (storeVM 2 t6_3 t12_2 M3) ⟨fun _tx_4 M4 =>
  Q .normal [(1, v1), (6, t6_3), (7, v7), (8, v8), (9, v9)] M4⟩⟩⟩⟩
theorem e13_8 (P : Program) (Q : Exit → Slots → Mem → Prop) (s : Slots) (M : Mem) : wpC P c13_8 Q s M = w13_8 P Q M (sget s 1) (sget s 7) (sget s 8) (sget s 9) := by kernel_rfl
def o13_9 : List AOper := [⟨some 4, (.mov (.const (.bool true))), true, none⟩]
def c13_10 : ACode := (.region o13_9 [4])
def w13_10 (_P : Program) (Q : Exit → Slots → Mem → Prop) (M : Mem) : Prop :=
  Q .normal [(4, (.bool true))] M
theorem e13_10 (P : Program) (Q : Exit → Slots → Mem → Prop) (s : Slots) (M : Mem) : wpC P c13_10 Q s M = w13_10 P Q M := by kernel_rfl
def c13_11 : ACode := (.seq c13_10 .ret)
def o13_12 : List AOper := [⟨some 13, (.fieldAddr 0 (.tmp 6)), false, none⟩,
  ⟨some 14, (.load 1 false (.tmp 13)), false, none⟩,
  ⟨some 15, (.mov (.tmp 1)), false, none⟩,
  ⟨some 16, (.bin .leq .none (.tmp 14) (.tmp 15)), true, none⟩,
  ⟨some 17, (.mov (.tmp 16)), true, none⟩,
  ⟨some 18, (.mov (.tmp 1)), false, some (17, true)⟩,
  ⟨some 19, (.fieldAddr 1 (.tmp 6)), false, some (17, true)⟩,
  ⟨some 20, (.load 1 false (.tmp 19)), false, some (17, true)⟩,
  ⟨some 21, (.bin .lss .none (.tmp 18) (.tmp 20)), true, some (17, true)⟩,
  ⟨some 22, (.pick (.tmp 17) (.tmp 21) (.const (.bool false))), true, none⟩]
def c13_13 : ACode := (.seq (.region o13_12 [1, 7, 8, 9, 22]) (.cond (.tmp 22) c13_11 .skip))
def w13_13 (P : Program) (Q : Exit → Slots → Mem → Prop) (M : Mem) (v1 : V) (v6 : V) (v7 : V) (v8 : V) (v9 : V) : Prop :=
  @OptVH (moveV 0 v6) ⟨fun t13_1 =>
  @OptVH (loadV 1 false t13_1 M) ⟨fun t14_2 =>
  @OptBH (binV .leq .none t14_2 v1) ⟨fun b16_4 =>
  @BIfH b16_4
  ⟨@OptVH (moveV 1 v6) ⟨fun t19_7 =>
  @OptVH (loadV 1 false t19_7 M) ⟨fun t20_8 =>
  @OptBH (binV .lss .none v1 t20_8) ⟨fun b21_9 =>
  @BIfH b21_9
  ⟨wpC P c13_11 Q [(1, v1), (7, v7), (8, v8), (9, v9), (22, (.bool b21_9))] M⟩
  ⟨Q .normal [(1, v1), (7, v7), (8, v8), (9, v9), (22, (.bool b21_9))] M⟩⟩⟩⟩⟩
  ⟨Q .normal [(1, v1), (7, v7), (8, v8), (9, v9), (22, (.bool false))] M⟩⟩⟩⟩
theorem e13_13 (P : Program) (Q : Exit → Slots → Mem → Prop) (s : Slots) (M : Mem) : wpC P c13_13 Q s M = w13_13 P Q M (sget s 1) (sget s 6) (sget s 7) (sget s 8) (sget s 9) := by kernel_rfl
def c13_14 : ACode := (.seq c13_8 c13_13)
def c13_15 : ACode := (.block 1 c13_14)
def o13_16 : List AOper := [⟨some 23, (.bin .add .none (.tmp 9) (.const (.int .i64 1))), false, none⟩,
  ⟨some 9, (.mov (.tmp 23)), false, none⟩]
def c13_17 : ACode := (.region o13_16 [1, 7, 8, 9])
def w13_17 (_P : Program) (Q : Exit → Slots → Mem → Prop) (M : Mem) (v1 : V) (v7 : V) (v8 : V) (v9 : V) : Prop :=
  @OptVH (binV .add .none v9 (.int .i64 1)) ⟨fun t23_1 =>
  Q .normal [(1, v1), (7, v7), (8, v8), (9, t23_1)] M⟩
theorem e13_17 (P : Program) (Q : Exit → Slots → Mem → Prop) (s : Slots) (M : Mem) : wpC P c13_17 Q s M = w13_17 P Q M (sget s 1) (sget s 7) (sget s 8) (sget s 9) := by kernel_rfl
def c13_18 : ACode := (.seq c13_15 c13_17)
def c13_19 : ACode := (.seq c13_6 c13_18)
def c13_20 : ACode := (.seq c13_5 c13_19)
def c13_21 : ACode := (.loop [1, 7, 8, 9] c13_20)
def c13_22 : ACode := (.block 0 c13_21)
def c13_23 : ACode := (.seq c13_3 c13_22)
def o13_24 : List AOper := [⟨some 4, (.mov (.const (.bool false))), true, none⟩]
def c13_25 : ACode := (.region o13_24 [4])
def w13_25 (_P : Program) (Q : Exit → Slots → Mem → Prop) (M : Mem) : Prop :=
  Q .normal [(4, (.bool false))] M
theorem e13_25 (P : Program) (Q : Exit → Slots → Mem → Prop) (s : Slots) (M : Mem) : wpC P c13_25 Q s M = w13_25 P Q M := by kernel_rfl
def c13_26 : ACode := (.seq c13_25 .ret)
def c13_27 : ACode := (.seq c13_23 c13_26)
def c13_28 : ACode := (.seq c13_1 c13_27)
def fn_interval_Contains : AFn := ⟨24, [(.tmp 4)], c13_28⟩
theorem fn_interval_Contains_ok : resFn PR h_interval_Contains i_interval_Contains = some fn_interval_Contains := by kernel_rfl

def h_transitlaw08_spans : Hints := ⟨[(0, [0]), (1, [0, 3]), (2, [0, 3, 4]), (3, [0, 3, 4, 8]), (4, [0, 3, 4]), (5, [0, 3, 4]), (6, [2])], [(3, [0, 3, 4])], [(1, [0])]⟩
def o14_0 : List AOper := [⟨some 2, (.mov (.const (.slice [] .nil))), false, none⟩]
def c14_1 : ACode := (.region o14_0 [0])
def w14_1 (_P : Program) (Q : Exit → Slots → Mem → Prop) (M : Mem) (v0 : V) : Prop :=
  Q .normal [(0, v0)] M
theorem e14_1 (P : Program) (Q : Exit → Slots → Mem → Prop) (s : Slots) (M : Mem) : wpC P c14_1 Q s M = w14_1 P Q M (sget s 0) := by kernel_rfl
def o14_2 : List AOper := [⟨some 3, (.newarr 2), false, none⟩]
def c14_3 : ACode := (.region o14_2 [0, 3])
def w14_3 (_P : Program) (Q : Exit → Slots → Mem → Prop) (M : Mem) (v0 : V) : Prop :=
  @OptMH (newarrV 2 M) ⟨fun t3_1 M1 =>
  Q .normal [(0, v0), (3, t3_1)] M1⟩
theorem e14_3 (P : Program) (Q : Exit → Slots → Mem → Prop) (s : Slots) (M : Mem) : wpC P c14_3 Q s M = w14_3 P Q M (sget s 0) := by kernel_rfl
def o14_4 : List AOper := [⟨some 4, (.mov (.const (.int .i64 0))), false, none⟩]
def c14_5 : ACode := (.region o14_4 [0, 3, 4])
def w14_5 (_P : Program) (Q : Exit → Slots → Mem → Prop) (M : Mem) (v0 : V) (v3 : V) : Prop :=
  Q .normal [(0, v0), (3, v3), (4, (.int .i64 0))] M
theorem e14_5 (P : Program) (Q : Exit → Slots → Mem → Prop) (s : Slots) (M : Mem) : wpC P c14_5 Q s M = w14_5 P Q M (sget s 0) (sget s 3) := by kernel_rfl
def o14_6 : List AOper := [⟨some 5, (.mov (.tmp 4)), false, none⟩,
  ⟨some 6, (.mov (.tmp 0)), false, none⟩,
  ⟨some 7, (.lenSl (.tmp 6)), false, none⟩,
  ⟨some 8, (.bin .lss .none (.tmp 5) (.tmp 7)), true, none⟩]
def c14_7 : ACode := (.seq (.region o14_6 [0, 3, 4, 8]) (.cond (.tmp 8) .skip (.exit 0)))
def w14_7 (_P : Program) (Q : Exit → Slots → Mem → Prop) (M : Mem) (v0 : V) (v3 : V) (v4 : V) : Prop :=
  @OptVH (lenV v0 M) ⟨fun t7_3 =>
  @OptBH (binV .lss .none v4 t7_3) ⟨fun b8_4 =>
  @BIfH b8_4
  ⟨Q .normal [(0, v0), (3, v3), (4, v4), (8, (.bool b8_4))] M⟩
  ⟨Q (.exit 0) [(0, v0), (3, v3), (4, v4), (8, (.bool b8_4))] M⟩⟩⟩
theorem e14_7 (P : Program) (Q : Exit → Slots → Mem → Prop) (s : Slots) (M : Mem) : wpC P c14_7 Q s M = w14_7 P Q M (sget s 0) (sget s 3) (sget s 4) := by kernel_rfl
def o14_8 : List AOper := [⟨some 11, (.mov (.tmp 3)), false, none⟩,
  ⟨some 12, (.mov (.tmp 0)), false, none⟩,
  ⟨some 13, (.mov (.tmp 4)), false, none⟩,
  ⟨some 14, (.indexSl 2 (.tmp 12) (.tmp 13)), false, none⟩,
  ⟨some 15, (.fieldAddr 0 (.tmp 14)), false, none⟩,
  ⟨some 16, (.load 1 false (.tmp 15)), false, none⟩,
  ⟨some 17, (.mov (.tmp 0)), false, none⟩,
  ⟨some 18, (.mov (.tmp 4)), false, none⟩,
  ⟨some 19, (.indexSl 2 (.tmp 17) (.tmp 18)), false, none⟩,
  ⟨some 20, (.fieldAddr 1 (.tmp 19)), false, none⟩,
  ⟨some 21, (.load 1 false (.tmp 20)), false, none⟩,
  ⟨some 22, (.build [(.int .i64 0), (.int .i64 0)] [(0, (1, (.tmp 16))), (1, (1, (.tmp 21)))]), false, none⟩,
  ⟨some 23, (.buildSlice [(.int .i64 0), (.int .i64 0)] 2 1 [(0, (2, (.tmp 22)))]), false, none⟩,
  ⟨some 24, (.append false 2 16 (.tmp 11) (.tmp 23)), false, none⟩,
  ⟨some 3, (.mov (.tmp 24)), false, none⟩]
def c14_9 : ACode := (.mixed o14_8 [true, true, true, true, true, true, true, true, true, true, true, true, true, false, true] [0, 3, 4])
def w14_9 (_P : Program) (Q : Exit → Slots → Mem → Prop) (M : Mem) (v0 : V) (v3 : V) (v4 : V) : Prop :=
  @OptVH (indexSlV 2 v0 v4 M) ⟨fun t14_4 =>
  @OptVH (moveV 0 t14_4) ⟨fun t15_5 =>
  @OptVH (loadV 1 false t15_5 M) ⟨fun t16_6 =>
  @OptVH (indexSlV 2 v0 v4 M) ⟨fun t19_9 =>
  @OptVH (moveV 1 t19_9) ⟨fun t20_10 =>
  @OptVH (loadV 1 false t20_10 M) ⟨fun t21_11 =>
  @OptVH (buildV [(.int .i64 0), (.int .i64 0)] [(0, 1, t16_6), (1, 1, t21_11)]) ⟨fun t22_12 =>
  @OptVH (buildSliceV [(.int .i64 0), (.int .i64 0)] 2 1 [(0, 2, t22_12)]) ⟨fun t23_13 =>
  @OptMH (appV false 2 16 v3 t23_13 M) ⟨fun t24_14 M14 =>
  Q .normal [(0, v0), (3, t24_14), (4, v4)] M14⟩⟩⟩⟩⟩⟩⟩⟩⟩
theorem e14_9 (P : Program) (Q : Exit → Slots → Mem → Prop) (s : Slots) (M : Mem) : wpC P c14_9 Q s M = w14_9 P Q M (sget s 0) (sget s 3) (sget s 4) := by kernel_rfl
def c14_10 : ACode := (.block 1 c14_9)
def o14_11 : List AOper := [⟨some 9, (.mov (.tmp 4)), false, none⟩,
  ⟨some 10, (.bin .add .none (.tmp 9) (.const (.int .i64 1))), false, none⟩,
  ⟨some 4, (.mov (.tmp 10)), false, none⟩]
def c14_12 : ACode := (.region o14_11 [0, 3, 4])
def w14_12 (_P : Program) (Q : Exit → Slots → Mem → Prop) (M : Mem) (v0 : V) (v3 : V) (v4 : V) : Prop :=
  @OptVH (binV .add .none v4 (.int .i64 1)) ⟨fun t10_2 =>
  Q .normal [(0, v0), (3, v3), (4, t10_2)] M⟩
theorem e14_12 (P : Program) (Q : Exit → Slots → Mem → Prop) (s : Slots) (M : Mem) : wpC P c14_12 Q s M = w14_12 P Q M (sget s 0) (sget s 3) (sget s 4) := by kernel_rfl
def c14_13 : ACode := (.seq c14_10 c14_12)
def c14_14 : ACode := (.seq c14_7 c14_13)
def c14_15 : ACode := (.loop [0, 3, 4] c14_14)
def c14_16 : ACode := (.block 0 c14_15)
def c14_17 : ACode := (.seq c14_5 c14_16)
def o14_18 : List AOper := [⟨some 25, (.mov (.tmp 3)), false, none⟩,
  ⟨some 2, (.mov (.tmp 25)), false, none⟩]
def c14_19 : ACode := (.region o14_18 [2])
def w14_19 (_P : Program) (Q : Exit → Slots → Mem → Prop) (M : Mem) (v3 : V) : Prop :=
  Q .normal [(2, v3)] M
theorem e14_19 (P : Program) (Q : Exit → Slots → Mem → Prop) (s : Slots) (M : Mem) : wpC P c14_19 Q s M = w14_19 P Q M (sget s 3) := by kernel_rfl
def c14_20 : ACode := (.seq c14_19 .ret)
def c14_21 : ACode := (.seq c14_17 c14_20)
def c14_22 : ACode := (.seq c14_3 c14_21)
def c14_23 : ACode := (.seq c14_1 c14_22)
def fn_transitlaw08_spans : AFn := ⟨26, [(.tmp 2)], c14_23⟩
theorem fn_transitlaw08_spans_ok : resFn PR h_transitlaw08_spans i_transitlaw08_spans = some fn_transitlaw08_spans := by kernel_rfl

def h_transitref08_Contains : Hints := ⟨[(0, [0, 1]), (1, [0, 1, 5]), (2, [0, 1, 5, 9]), (3, [0, 1, 5]), (4, [0, 1, 5, 27]), (5, [4]), (6, [4])], [(2, [0, 1, 5])], []⟩
def o15_0 : List AOper := [⟨some 4, (.mov (.const (.bool false))), true, none⟩]
def c15_1 : ACode := (.region o15_0 [0, 1])
def w15_1 (_P : Program) (Q : Exit → Slots → Mem → Prop) (M : Mem) (v0 : V) (v1 : V) : Prop :=
  Q .normal [(0, v0), (1, v1)] M
theorem e15_1 (P : Program) (Q : Exit → Slots → Mem → Prop) (s : Slots) (M : Mem) : wpC P c15_1 Q s M = w15_1 P Q M (sget s 0) (sget s 1) := by kernel_rfl
def o15_2 : List AOper := [⟨some 5, (.mov (.const (.int .i64 0))), false, none⟩]
def c15_3 : ACode := (.region o15_2 [0, 1, 5])
def w15_3 (_P : Program) (Q : Exit → Slots → Mem → Prop) (M : Mem) (v0 : V) (v1 : V) : Prop :=
  Q .normal [(0, v0), (1, v1), (5, (.int .i64 0))] M
theorem e15_3 (P : Program) (Q : Exit → Slots → Mem → Prop) (s : Slots) (M : Mem) : wpC P c15_3 Q s M = w15_3 P Q M (sget s 0) (sget s 1) := by kernel_rfl
def o15_4 : List AOper := [⟨some 6, (.mov (.tmp 5)), false, none⟩,
  ⟨some 7, (.mov (.tmp 0)), false, none⟩,
  ⟨some 8, (.lenSl (.tmp 7)), false, none⟩,
  ⟨some 9, (.bin .lss .none (.tmp 6) (.tmp 8)), true, none⟩]
def c15_5 : ACode := (.seq (.region o15_4 [0, 1, 5, 9]) (.cond (.tmp 9) .skip (.exit 0)))
def w15_5 (_P : Program) (Q : Exit → Slots → Mem → Prop) (M : Mem) (v0 : V) (v1 : V) (v5 : V) : Prop :=
  @OptVH (lenV v0 M) ⟨fun t8_3 =>
  @OptBH (binV .lss .none v5 t8_3) ⟨fun b9_4 =>
  @BIfH b9_4
  ⟨Q .normal [(0, v0), (1, v1), (5, v5), (9, (.bool b9_4))] M⟩
  ⟨Q (.exit 0) [(0, v0), (1, v1), (5, v5), (9, (.bool b9_4))] M⟩⟩⟩
theorem e15_5 (P : Program) (Q : Exit → Slots → Mem → Prop) (s : Slots) (M : Mem) : wpC P c15_5 Q s M = w15_5 P Q M (sget s 0) (sget s 1) (sget s 5) := by kernel_rfl
def o15_6 : List AOper := [⟨some 4, (.mov (.const (.bool true))), true, none⟩]
def c15_7 : ACode := (.region o15_6 [4])
def w15_7 (_P : Program) (Q : Exit → Slots → Mem → Prop) (M : Mem) : Prop :=
  Q .normal [(4, (.bool true))] M
theorem e15_7 (P : Program) (Q : Exit → Slots → Mem → Prop) (s : Slots) (M : Mem) : wpC P c15_7 Q s M = w15_7 P Q M := by kernel_rfl
def c15_8 : ACode := (.seq c15_7 .ret)
def o15_9 : List AOper := [⟨some 12, (.mov (.tmp 0)), false, none⟩,
  ⟨some 13, (.mov (.tmp 5)), false, none⟩,
  ⟨some 14, (.indexSl 2 (.tmp 12) (.tmp 13)), false, none⟩,
  ⟨some 15, (.fieldAddr 0 (.tmp 14)), false, none⟩,
  ⟨some 16, (.load 1 false (.tmp 15)), false, none⟩,
  ⟨some 17, (.mov (.tmp 1)), false, none⟩,
  ⟨some 18, (.bin .leq .none (.tmp 16) (.tmp 17)), true, none⟩,
  ⟨some 19, (.mov (.tmp 18)), true, none⟩,
  ⟨some 20, (.mov (.tmp 1)), false, some (19, true)⟩,
  ⟨some 21, (.mov (.tmp 0)), false, some (19, true)⟩,
  ⟨some 22, (.mov (.tmp 5)), false, some (19, true)⟩,
  ⟨some 23, (.indexSl 2 (.tmp 21) (.tmp 22)), false, some (19, true)⟩,
  ⟨some 24, (.fieldAddr 1 (.tmp 23)), false, some (19, true)⟩,
  ⟨some 25, (.load 1 false (.tmp 24)), false, some (19, true)⟩,
  ⟨some 26, (.bin .lss .none (.tmp 20) (.tmp 25)), true, some (19, true)⟩,
  ⟨some 27, (.pick (.tmp 19) (.tmp 26) (.const (.bool false))), true, none⟩]
def c15_10 : ACode := (.seq (.region o15_9 [0, 1, 5, 27]) (.cond (.tmp 27) c15_8 .skip))
def w15_10 (P : Program) (Q : Exit → Slots → Mem → Prop) (M : Mem) (v0 : V) (v1 : V) (v5 : V) : Prop :=
  @OptVH (indexSlV 2 v0 v5 M) ⟨fun t14_3 =>
  @OptVH (moveV 0 t14_3) ⟨fun t15_4 =>
  @OptVH (loadV 1 false t15_4 M) ⟨fun t16_5 =>
  @OptBH (binV .leq .none t16_5 v1) ⟨fun b18_7 =>
  @BIfH b18_7
  ⟨@OptVH (indexSlV 2 v0 v5 M) ⟨fun t23_12 =>
  @OptVH (moveV 1 t23_12) ⟨fun t24_13 =>
  @OptVH (loadV 1 false t24_13 M) ⟨fun t25_14 =>
  @OptBH (binV .lss .none v1 t25_14) ⟨fun b26_15 =>
  @BIfH b26_15
  ⟨wpC P c15_8 Q [(0, v0), (1, v1), (5, v5), (27, (.bool b26_15))] M⟩
  ⟨Q .normal [(0, v0), (1, v1), (5, v5), (27, (.bool b26_15))] M⟩⟩⟩⟩⟩⟩
  ⟨Q .normal [(0, v0), (1, v1), (5, v5), (27, (.bool false))] M⟩⟩⟩⟩⟩
theorem e15_10 (P : Program) (Q : Exit → Slots → Mem → Prop) (s : Slots) (M : Mem) : wpC P c15_10 Q s M = w15_10 P Q M (sget s 0) (sget s 1) (sget s 5) := by kernel_rfl
def c15_11 : ACode := (.block 1 c15_10)
def o15_12 : List AOper := [⟨some 10, (.mov (.tmp 5)), false, none⟩,
  ⟨some 11, (.bin .add .none (.tmp 10) (.const (.int .i64 1))), false, none⟩,
  ⟨some 5, (.mov (.tmp 11)), false, none⟩]
def c15_13 : ACode := (.region o15_12 [0, 1, 5])
def w15_13 (_P : Program) (Q : Exit → Slots → Mem → Prop) (M : Mem) (v0 : V) (v1 : V) (v5 : V) : Prop :=
  @OptVH (binV .add .none v5 (.int .i64 1)) ⟨fun t11_2 =>
  Q .normal [(0, v0), (1, v1), (5, t11_2)] M⟩
theorem e15_13 (P : Program) (Q : Exit → Slots → Mem → Prop) (s : Slots) (M : Mem) : wpC P c15_13 Q s M = w15_13 P Q M (sget s 0) (sget s 1) (sget s 5) := by kernel_rfl
def c15_14 : ACode := (.seq c15_11 c15_13)
def c15_15 : ACode := (.seq c15_5 c15_14)
def c15_16 : ACode := (.loop [0, 1, 5] c15_15)
def c15_17 : ACode := (.block 0 c15_16)
def c15_18 : ACode := (.seq c15_3 c15_17)
def o15_19 : List AOper := [⟨some 4, (.mov (.const (.bool false))), true, none⟩]
def c15_20 : ACode := (.region o15_19 [4])
def w15_20 (_P : Program) (Q : Exit → Slots → Mem → Prop) (M : Mem) : Prop :=
  Q .normal [(4, (.bool false))] M
theorem e15_20 (P : Program) (Q : Exit → Slots → Mem → Prop) (s : Slots) (M : Mem) : wpC P c15_20 Q s M = w15_20 P Q M := by kernel_rfl
def c15_21 : ACode := (.seq c15_20 .ret)
def c15_22 : ACode := (.seq c15_18 c15_21)
def c15_23 : ACode := (.seq c15_1 c15_22)
def fn_transitref08_Contains : AFn := ⟨28, [(.tmp 4)], c15_23⟩
theorem fn_transitref08_Contains_ok : resFn PR h_transitref08_Contains i_transitref08_Contains = some fn_transitref08_Contains := by kernel_rfl

def h_transitlaw08_equal : Hints := ⟨[(0, [0, 1]), (1, [0, 1, 10]), (2, [4]), (3, [0, 1, 5]), (4, [0, 1, 5, 14]), (5, [0, 1, 5]), (6, [0, 1, 5, 40]), (7, [4]), (8, [4])], [(4, [0, 1, 5])], []⟩
def o16_0 : List AOper := [⟨some 4, (.mov (.const (.bool false))), true, none⟩]
def c16_1 : ACode := (.region o16_0 [0, 1])
def w16_1 (_P : Program) (Q : Exit → Slots → Mem → Prop) (M : Mem) (v0 : V) (v1 : V) : Prop :=
  Q .normal [(0, v0), (1, v1)] M
theorem e16_1 (P : Program) (Q : Exit → Slots → Mem → Prop) (s : Slots) (M : Mem) : wpC P c16_1 Q s M = w16_1 P Q M (sget s 0) (sget s 1) := by kernel_rfl
def o16_2 : List AOper := [⟨some 4, (.mov (.const (.bool false))), true, none⟩]
def c16_3 : ACode := (.region o16_2 [4])
def w16_3 (_P : Program) (Q : Exit → Slots → Mem → Prop) (M : Mem) : Prop :=
  Q .normal [(4, (.bool false))] M
theorem e16_3 (P : Program) (Q : Exit → Slots → Mem → Prop) (s : Slots) (M : Mem) : wpC P c16_3 Q s M = w16_3 P Q M := by kernel_rfl
def c16_4 : ACode := (.seq c16_3 .ret)
def o16_5 : List AOper := [⟨some 6, (.mov (.tmp 0)), false, none⟩,
  ⟨some 7, (.lenSl (.tmp 6)), false, none⟩,
  ⟨some 8, (.mov (.tmp 1)), false, none⟩,
  ⟨some 9, (.lenSl (.tmp 8)), false, none⟩,
  ⟨some 10, (.bin .neq .none (.tmp 7) (.tmp 9)), true, none⟩]
def c16_6 : ACode := (.seq (.region o16_5 [0, 1, 10]) (.cond (.tmp 10) c16_4 .skip))
def w16_6 (P : Program) (Q : Exit → Slots → Mem → Prop) (M : Mem) (v0 : V) (v1 : V) : Prop :=
  @OptVH (lenV v0 M) ⟨fun t7_2 =>
  @OptVH (lenV v1 M) ⟨fun t9_4 =>
  @OptBH (binV .neq .none t7_2 t9_4) ⟨fun b10_5 =>
  @BIfH b10_5
  ⟨wpC P c16_4 Q [(0, v0), (1, v1), (10, (.bool b10_5))] M⟩
  ⟨Q .normal [(0, v0), (1, v1), (10, (.bool b10_5))] M⟩⟩⟩⟩
theorem e16_6 (P : Program) (Q : Exit → Slots → Mem → Prop) (s : Slots) (M : Mem) : wpC P c16_6 Q s M = w16_6 P Q M (sget s 0) (sget s 1) := by kernel_rfl
def o16_7 : List AOper := [⟨some 5, (.mov (.const (.int .i64 0))), false, none⟩]
def c16_8 : ACode := (.region o16_7 [0, 1, 5])
def w16_8 (_P : Program) (Q : Exit → Slots → Mem → Prop) (M : Mem) (v0 : V) (v1 : V) : Prop :=
  Q .normal [(0, v0), (1, v1), (5, (.int .i64 0))] M
theorem e16_8 (P : Program) (Q : Exit → Slots → Mem → Prop) (s : Slots) (M : Mem) : wpC P c16_8 Q s M = w16_8 P Q M (sget s 0) (sget s 1) := by kernel_rfl
def o16_9 : List AOper := [⟨some 11, (.mov (.tmp 5)), false, none⟩,
  ⟨some 12, (.mov (.tmp 0)), false, none⟩,
  ⟨some 13, (.lenSl (.tmp 12)), false, none⟩,
  ⟨some 14, (.bin .lss .none (.tmp 11) (.tmp 13)), true, none⟩]
def c16_10 : ACode := (.seq (.region o16_9 [0, 1, 5, 14]) (.cond (.tmp 14) .skip (.exit 0)))
def w16_10 (_P : Program) (Q : Exit → Slots → Mem → Prop) (M : Mem) (v0 : V) (v1 : V) (v5 : V) : Prop :=
  @OptVH (lenV v0 M) ⟨fun t13_3 =>
  @OptBH (binV .lss .none v5 t13_3) ⟨fun b14_4 =>
  @BIfH b14_4
  ⟨Q .normal [(0, v0), (1, v1), (5, v5), (14, (.bool b14_4))] M⟩
  ⟨Q (.exit 0) [(0, v0), (1, v1), (5, v5), (14, (.bool b14_4))] M⟩⟩⟩
theorem e16_10 (P : Program) (Q : Exit → Slots → Mem → Prop) (s : Slots) (M : Mem) : wpC P c16_10 Q s M = w16_10 P Q M (sget s 0) (sget s 1) (sget s 5) := by kernel_rfl
def o16_11 : List AOper := [⟨some 4, (.mov (.const (.bool false))), true, none⟩]
def c16_12 : ACode := (.region o16_11 [4])
def w16_12 (_P : Program) (Q : Exit → Slots → Mem → Prop) (M : Mem) : Prop :=
  Q .normal [(4, (.bool false))] M
theorem e16_12 (P : Program) (Q : Exit → Slots → Mem → Prop) (s : Slots) (M : Mem) : wpC P c16_12 Q s M = w16_12 P Q M := by kernel_rfl
def c16_13 : ACode := (.seq c16_12 .ret)
def o16_14 : List AOper := [⟨some 17, (.mov (.tmp 0)), false, none⟩,
  ⟨some 18, (.mov (.tmp 5)), false, none⟩,
  ⟨some 19, (.indexSl 2 (.tmp 17) (.tmp 18)), false, none⟩,
  ⟨some 20, (.fieldAddr 0 (.tmp 19)), false, none⟩,
  ⟨some 21, (.load 1 false (.tmp 20)), false, none⟩,
  ⟨some 22, (.mov (.tmp 1)), false, none⟩,
  ⟨some 23, (.mov (.tmp 5)), false, none⟩,
  ⟨some 24, (.indexSl 2 (.tmp 22) (.tmp 23)), false, none⟩,
  ⟨some 25, (.fieldAddr 0 (.tmp 24)), false, none⟩,
  ⟨some 26, (.load 1 false (.tmp 25)), false, none⟩,
  ⟨some 27, (.bin .neq .none (.tmp 21) (.tmp 26)), true, none⟩,
  ⟨some 28, (.mov (.tmp 27)), true, none⟩,
  ⟨some 29, (.mov (.tmp 0)), false, some (28, false)⟩,
  ⟨some 30, (.mov (.tmp 5)), false, some (28, false)⟩,
  ⟨some 31, (.indexSl 2 (.tmp 29) (.tmp 30)), false, some (28, false)⟩,
  ⟨some 32, (.fieldAddr 1 (.tmp 31)), false, some (28, false)⟩,
  ⟨some 33, (.load 1 false (.tmp 32)), false, some (28, false)⟩,
  ⟨some 34, (.mov (.tmp 1)), false, some (28, false)⟩,
  ⟨some 35, (.mov (.tmp 5)), false, some (28, false)⟩,
  ⟨some 36, (.indexSl 2 (.tmp 34) (.tmp 35)), false, some (28, false)⟩,
  ⟨some 37, (.fieldAddr 1 (.tmp 36)), false, some (28, false)⟩,
  ⟨some 38, (.load 1 false (.tmp 37)), false, some (28, false)⟩,
  ⟨some 39, (.bin .neq .none (.tmp 33) (.tmp 38)), true, some (28, false)⟩,
  ⟨some 40, (.pick (.tmp 28) (.const (.bool true)) (.tmp 39)), true, none⟩]
def c16_15 : ACode := (.seq (.mixed o16_14 [true, true, true, true, true, true, true, true, true, true, true, true, true, true, true, true, true, true, true, true, true, true, true, true] [0, 1, 5, 40]) (.cond (.tmp 40) c16_13 .skip))
def w16_15 (P : Program) (Q : Exit → Slots → Mem → Prop) (M : Mem) (v0 : V) (v1 : V) (v5 : V) : Prop :=
  @OptVH (indexSlV 2 v0 v5 M) ⟨fun t19_3 =>
  @OptVH (moveV 0 t19_3) ⟨fun t20_4 =>
  @OptVH (loadV 1 false t20_4 M) ⟨fun t21_5 =>
  @OptVH (indexSlV 2 v1 v5 M) ⟨fun t24_8 =>
  @OptVH (moveV 0 t24_8) ⟨fun t25_9 =>
  @OptVH (loadV 1 false t25_9 M) ⟨fun t26_10 =>
  @OptBH (binV .neq .none t21_5 t26_10) ⟨fun b27_11 =>
  @BIfH b27_11
  ⟨wpC P c16_13 Q [(0, v0), (1, v1), (5, v5), (40, (.bool true))] M⟩
  ⟨@OptVH (indexSlV 2 v0 v5 M) ⟨fun t31_16 =>
  @OptVH (moveV 1 t31_16) ⟨fun t32_17 =>
  @OptVH (loadV 1 false t32_17 M) ⟨fun t33_18 =>
  @OptVH (indexSlV 2 v1 v5 M) ⟨fun t36_21 =>
  @OptVH (moveV 1 t36_21) ⟨fun t37_22 =>
  @OptVH (loadV 1 false t37_22 M) ⟨fun t38_23 =>
  @OptBH (binV .neq .none t33_18 t38_23) ⟨fun b39_24 =>
  @BIfH b39_24
  ⟨wpC P c16_13 Q [(0, v0), (1, v1), (5, v5), (40, (.bool b39_24))] M⟩
  ⟨Q .normal [(0, v0), (1, v1), (5, v5), (40, (.bool b39_24))] M⟩⟩⟩⟩⟩⟩⟩⟩⟩⟩⟩⟩⟩⟩⟩⟩
theorem e16_15 (P : Program) (Q : Exit → Slots → Mem → Prop) (s : Slots) (M : Mem) : wpC P c16_15 Q s M = w16_15 P Q M (sget s 0) (sget s 1) (sget s 5) := by kernel_rfl
def c16_16 : ACode := (.block 1 c16_15)
def o16_17 : List AOper := [⟨some 15, (.mov (.tmp 5)), false, none⟩,
  ⟨some 16, (.bin .add .none (.tmp 15) (.const (.int .i64 1))), false, none⟩,
  ⟨some 5, (.mov (.tmp 16)), false, none⟩]
def c16_18 : ACode := (.region o16_17 [0, 1, 5])
def w16_18 (_P : Program) (Q : Exit → Slots → Mem → Prop) (M : Mem) (v0 : V) (v1 : V) (v5 : V) : Prop :=
  @OptVH (binV .add .none v5 (.int .i64 1)) ⟨fun t16_2 =>
  Q .normal [(0, v0), (1, v1), (5, t16_2)] M⟩
theorem e16_18 (P : Program) (Q : Exit → Slots → Mem → Prop) (s : Slots) (M : Mem) : wpC P c16_18 Q s M = w16_18 P Q M (sget s 0) (sget s 1) (sget s 5) := by kernel_rfl
def c16_19 : ACode := (.seq c16_16 c16_18)
def c16_20 : ACode := (.seq c16_10 c16_19)
def c16_21 : ACode := (.loop [0, 1, 5] c16_20)
def c16_22 : ACode := (.block 0 c16_21)
def c16_23 : ACode := (.seq c16_8 c16_22)
def o16_24 : List AOper := [⟨some 4, (.mov (.const (.bool true))), true, none⟩]
def c16_25 : ACode := (.region o16_24 [4])
def w16_25 (_P : Program) (Q : Exit → Slots → Mem → Prop) (M : Mem) : Prop :=
  Q .normal [(4, (.bool true))] M
theorem e16_25 (P : Program) (Q : Exit → Slots → Mem → Prop) (s : Slots) (M : Mem) : wpC P c16_25 Q s M = w16_25 P Q M := by kernel_rfl
def c16_26 : ACode := (.seq c16_25 .ret)
def c16_27 : ACode := (.seq c16_23 c16_26)
def c16_28 : ACode := (.seq c16_6 c16_27)
def c16_29 : ACode := (.seq c16_1 c16_28)
def fn_transitlaw08_equal : AFn := ⟨41, [(.tmp 4)], c16_29⟩
theorem fn_transitlaw08_equal_ok : resFn PR h_transitlaw08_equal i_transitlaw08_equal = some fn_transitlaw08_equal := by kernel_rfl

def h_interval_Normalize : Hints := ⟨[(0, [1]), (1, [2])], [], []⟩
def o17_0 : List AOper := [⟨some 1, (.box 1 (.tmp 0)), false, none⟩,
  ⟨some 2, (.mov (.const (.slice [] .nil))), false, none⟩]
def c17_1 : ACode := (.region o17_0 [1])
def w17_1 (_P : Program) (Q : Exit → Slots → Mem → Prop) (M : Mem) (v0 : V) : Prop :=
  @OptMH (boxV 1 v0 M) ⟨fun t1_1 M1 =>
  Q .normal [(1, t1_1)] M1⟩
theorem e17_1 (P : Program) (Q : Exit → Slots → Mem → Prop) (s : Slots) (M : Mem) : wpC P c17_1 Q s M = w17_1 P Q M (sget s 0) := by kernel_rfl
def o17_2 : List AOper := [⟨some 3, (.load 1 false (.tmp 1)), false, none⟩,
  ⟨some 4, (.buildSlice [(.slice [] .nil)] 1 1 [(0, (1, (.tmp 3)))]), false, none⟩,
  ⟨some 5, (.call i_interval_bounds [(.tmp 4)]), false, none⟩,
  ⟨some 6, (.mkfn i_interval_Normalize_1 [(.tmp 1)]), false, none⟩,
  ⟨some 7, (.call i_interval_build [(.tmp 5), (.tmp 6)]), false, none⟩,
  ⟨some 2, (.mov (.tmp 7)), false, none⟩]
def c17_3 : ACode := (.region o17_2 [2])
def w17_3 (P : Program) (Q : Exit → Slots → Mem → Prop) (M : Mem) (v1 : V) : Prop :=
  @OptVH (loadV 1 false v1 M) ⟨fun t3_1 =>
  @OptVH (buildSliceV [(.slice [] .nil)] 1 1 [(0, 1, t3_1)]) ⟨fun t4_2 =>
  @CallH P i_interval_bounds [t4_2] M ⟨fun t5_3 M3 =>
  @CallH P i_interval_build [t5_3, (mkfnV i_interval_Normalize_1 [v1])] M3 ⟨fun t7_5 M5 =>
  Q .normal [(2, t7_5)] M5⟩⟩⟩⟩
theorem e17_3 (P : Program) (Q : Exit → Slots → Mem → Prop) (s : Slots) (M : Mem) : wpC P c17_3 Q s M = w17_3 P Q M (sget s 1) := by kernel_rfl
def c17_4 : ACode := (.seq c17_3 .ret)
def c17_5 : ACode := (.seq c17_1 c17_4)
def fn_interval_Normalize : AFn := ⟨8, [(.tmp 2)], c17_5⟩
theorem fn_interval_Normalize_ok : resFn PR h_interval_Normalize i_interval_Normalize = some fn_interval_Normalize := by kernel_rfl

def h_transitref08_Combine : Hints := ⟨[(0, [0, 1, 2]), (1, [0, 1, 2, 7]), (2, [0, 1, 2, 7, 8]), (3, [0, 1, 2, 7, 8, 9]), (4, [0, 1, 2, 7, 8, 9, 17]), (5, [0, 1, 2, 7, 8, 9]), (6, [0, 1, 2, 7, 8, 9, 28]), (7, [0, 1, 2, 7, 8, 9, 45]), (8, [0, 1, 2, 7, 8, 9]), (9, [0, 1, 2, 7, 8, 9]), (10, [6])], [(4, [0, 1, 2, 7, 8, 9])], [(2, [0])]⟩
def o18_0 : List AOper := [⟨some 6, (.mov (.const (.slice [] .nil))), false, none⟩]
def c18_1 : ACode := (.region o18_0 [0, 1, 2])
def w18_1 (_P : Program) (Q : Exit → Slots → Mem → Prop) (M : Mem) (v0 : V) (v1 : V) (v2 : V) : Prop :=
  Q .normal [(0, v0), (1, v1), (2, v2)] M
theorem e18_1 (P : Program) (Q : Exit → Slots → Mem → Prop) (s : Slots) (M : Mem) : wpC P c18_1 Q s M = w18_1 P Q M (sget s 0) (sget s 1) (sget s 2) := by kernel_rfl
def o18_2 : List AOper := [⟨some 10, (.mov (.tmp 0)), false, none⟩,
  ⟨some 11, (.mov (.tmp 1)), false, none⟩,
  ⟨some 12, (.call i_transitref08_ends [(.tmp 10), (.tmp 11)]), false, none⟩,
  ⟨some 7, (.mov (.tmp 12)), false, none⟩]
def c18_3 : ACode := (.region o18_2 [0, 1, 2, 7])
def w18_3 (P : Program) (Q : Exit → Slots → Mem → Prop) (M : Mem) (v0 : V) (v1 : V) (v2 : V) : Prop :=
  @CallH P i_transitref08_ends [v0, v1] M ⟨fun t12_3 M3 =>
  Q .normal [(0, v0), (1, v1), (2, v2), (7, t12_3)] M3⟩
theorem e18_3 (P : Program) (Q : Exit → Slots → Mem → Prop) (s : Slots) (M : Mem) : wpC P c18_3 Q s M = w18_3 P Q M (sget s 0) (sget s 1) (sget s 2) := by kernel_rfl
def o18_4 : List AOper := [⟨some 8, (.newarr 2), false, none⟩]
def c18_5 : ACode := (.region o18_4 [0, 1, 2, 7, 8])
def w18_5 (_P : Program) (Q : Exit → Slots → Mem → Prop) (M : Mem) (v0 : V) (v1 : V) (v2 : V) (v7 : V) : Prop :=
  @OptMH (newarrV 2 M) ⟨fun t8_1 M1 =>
  Q .normal [(0, v0), (1, v1), (2, v2), (7, v7), (8, t8_1)] M1⟩
theorem e18_5 (P : Program) (Q : Exit → Slots → Mem → Prop) (s : Slots) (M : Mem) : wpC P c18_5 Q s M = w18_5 P Q M (sget s 0) (sget s 1) (sget s 2) (sget s 7) := by kernel_rfl
def o18_6 : List AOper := [⟨some 9, (.mov (.const (.int .i64 0))), false, none⟩]
def c18_7 : ACode := (.region o18_6 [0, 1, 2, 7, 8, 9])
def w18_7 (_P : Program) (Q : Exit → Slots → Mem → Prop) (M : Mem) (v0 : V) (v1 : V) (v2 : V) (v7 : V) (v8 : V) : Prop :=
  Q .normal [(0, v0), (1, v1), (2, v2), (7, v7), (8, v8), (9, (.int .i64 0))] M
theorem e18_7 (P : Program) (Q : Exit → Slots → Mem → Prop) (s : Slots) (M : Mem) : wpC P c18_7 Q s M = w18_7 P Q M (sget s 0) (sget s 1) (sget s 2) (sget s 7) (sget s 8) := by kernel_rfl
def o18_8 : List AOper := [⟨some 13, (.mov (.tmp 9)), false, none⟩,
  ⟨some 14, (.bin .add .none (.tmp 13) (.const (.int .i64 1))), false, none⟩,
  ⟨some 15, (.mov (.tmp 7)), false, none⟩,
  ⟨some 16, (.lenSl (.tmp 15)), false, none⟩,
  ⟨some 17, (.bin .lss .none (.tmp 14) (.tmp 16)), true, none⟩]
def c18_9 : ACode := (.seq (.region o18_8 [0, 1, 2, 7, 8, 9, 17]) (.cond (.tmp 17) .skip (.exit 0)))
def w18_9 (_P : Program) (Q : Exit → Slots → Mem → Prop) (M : Mem) (v0 : V) (v1 : V) (v2 : V) (v7 : V) (v8 : V) (v9 : V) : Prop :=
  @OptVH (binV .add .none v9 (.int .i64 1)) ⟨fun t14_2 =>
  @OptVH (lenV v7 M) ⟨fun t16_4 =>
  @OptBH (binV .lss .none t14_2 t16_4) ⟨fun b17_5 =>
  @BIfH b17_5
  ⟨Q .normal [(0, v0), (1, v1), (2, v2), (7, v7), (8, v8), (9, v9), (17, (.bool b17_5))] M⟩
  ⟨Q (.exit 0) [(0, v0), (1, v1), (2, v2), (7, v7), (8, v8), (9, v9), (17, (.bool b17_5))] M⟩⟩⟩⟩
theorem e18_9 (P : Program) (Q : Exit → Slots → Mem → Prop) (s : Slots) (M : Mem) : wpC P c18_9 Q s M = w18_9 P Q M (sget s 0) (sget s 1) (sget s 2) (sget s 7) (sget s 8) (sget s 9) := by kernel_rfl
def o18_10 : List AOper := [⟨some 20, (.mov (.tmp 0)), false, none⟩,
  ⟨some 21, (.mov (.tmp 1)), false, none⟩,
  ⟨some 22, (.mov (.tmp 2)), false, none⟩,
  ⟨some 23, (.mov (.tmp 7)), false, none⟩,
  ⟨some 24, (.mov (.tmp 9)), false, none⟩,
  ⟨some 25, (.indexSl 1 (.tmp 23) (.tmp 24)), false, none⟩,
  ⟨some 26, (.load 1 false (.tmp 25)), false, none⟩,
  ⟨some 27, (.call i_transitref08_kept [(.tmp 20), (.tmp 21), (.tmp 22), (.tmp 26)]), true, none⟩,
  ⟨some 28, (.un .not (.tmp 27)), true, none⟩]
def c18_11 : ACode := (.seq (.region o18_10 [0, 1, 2, 7, 8, 9, 28]) (.cond (.tmp 28) (.exit 1) .skip))
def w18_11 (P : Program) (Q : Exit → Slots → Mem → Prop) (M : Mem) (v0 : V) (v1 : V) (v2 : V) (v7 : V) (v8 : V) (v9 : V) : Prop :=
  @OptVH (indexSlV 1 v7 v9 M) ⟨fun t25_6 =>
  @OptVH (loadV 1 false t25_6 M) ⟨fun t26_7 =>
  @CallH P i_transitref08_kept [v0, v1, v2, t26_7] M ⟨fun t27_8 M8 => @OptBH (some t27_8) ⟨fun b27_8 =>
  @OptBH (unV .not (.bool b27_8)) ⟨fun b28_9 =>
  @BIfH b28_9
  ⟨Q (.exit 1) [(0, v0), (1, v1), (2, v2), (7, v7), (8, v8), (9, v9), (28, (.bool b28_9))] M8⟩
  ⟨Q .normal [(0, v0), (1, v1), (2, v2), (7, v7), (8, v8), (9, v9), (28, (.bool b28_9))] M8⟩⟩⟩⟩⟩⟩
theorem e18_11 (P : Program) (Q : Exit → Slots → Mem → Prop) (s : Slots) (M : Mem) : wpC P c18_11 Q s M = w18_11 P Q M (sget s 0) (sget s 1) (sget s 2) (sget s 7) (sget s 8) (sget s 9) := by kernel_rfl
def o18_12 : List AOper := [⟨some 46, (.mov (.tmp 8)), false, none⟩,
  ⟨some 47, (.mov (.tmp 8)), false, none⟩,
  ⟨some 48, (.lenSl (.tmp 47)), false, none⟩,
  ⟨some 49, (.bin .sub .none (.tmp 48) (.const (.int .i64 1))), false, none⟩,
  ⟨some 50, (.mov (.tmp 7)), false, none⟩,
  ⟨some 51, (.mov (.tmp 9)), false, none⟩,
  ⟨some 52, (.bin .add .none (.tmp 51) (.const (.int .i64 1))), false, none⟩,
  ⟨some 53, (.indexSl 1 (.tmp 50) (.tmp 52)), false, none⟩,
  ⟨some 54, (.load 1 false (.tmp 53)), false, none⟩,
  ⟨some 55, (.indexSl 2 (.tmp 46) (.tmp 49)), false, none⟩,
  ⟨some 56, (.fieldAddr 1 (.tmp 55)), false, none⟩,
  ⟨none, (.store 1 (.tmp 56) (.tmp 54)), false, none⟩]
def c18_13 : ACode := (.region o18_12 [0, 1, 2, 7, 8, 9])
def w18_13 (_P : Program) (Q : Exit → Slots → Mem → Prop) (M : Mem) (v0 : V) (v1 : V) (v2 : V) (v7 : V) (v8 : V) (v9 : V) : Prop :=
  @OptVH (lenV v8 M) ⟨fun t48_3 =>
  @OptVH (binV .sub .none t48_3 (.int .i64 1)) ⟨fun t49_4 =>
  @OptVH (binV .add .none v9 (.int .i64 1)) ⟨fun t52_7 =>
  @OptVH (indexSlV 1 v7 t52_7 M) ⟨fun t53_8 =>
  @OptVH (loadV 1 false t53_8 M) ⟨fun t54_9 =>
  @OptVH (indexSlV 2 v8 t49_4 M) ⟨fun t55_10 =>
  @OptVH (moveV 1 t55_10) ⟨fun t56_11 =>
  @OptMH (storeVM 1 t56_11 t54_9 M) ⟨fun _tx_12 M12 =>
  Q .normal [(0, v0), (1, v1), (2, v2), (7, v7), (8, v8), (9, v9)] M12⟩⟩⟩⟩⟩⟩⟩⟩
theorem e18_13 (P : Program) (Q : Exit → Slots → Mem → Prop) (s : Slots) (M : Mem) : wpC P c18_13 Q s M = w18_13 P Q M (sget s 0) (sget s 1) (sget s 2) (sget s 7) (sget s 8) (sget s 9) := by kernel_rfl
def o18_14 : List AOper := [⟨some 57, (.mov (.tmp 8)), false, none⟩,
  ⟨some 58, (.mov (.tmp 7)), false, none⟩,
  ⟨some 59, (.mov (.tmp 9)), false, none⟩,
  ⟨some 60, (.indexSl 1 (.tmp 58) (.tmp 59)), false, none⟩,
  ⟨some 61, (.load 1 false (.tmp 60)), false, none⟩,
  ⟨some 62, (.mov (.tmp 7)), false, none⟩,
  ⟨some 63, (.mov (.tmp 9)), false, none⟩,
  ⟨some 64, (.bin .add .none (.tmp 63) (.const (.int .i64 1))), false, none⟩,
  ⟨some 65, (.indexSl 1 (.tmp 62) (.tmp 64)), false, none⟩,
  ⟨some 66, (.load 1 false (.tmp 65)), false, none⟩,
  ⟨some 67, (.build [(.int .i64 0), (.int .i64 0)] [(0, (1, (.tmp 61))), (1, (1, (.tmp 66)))]), false, none⟩,
  ⟨some 68, (.buildSlice [(.int .i64 0), (.int .i64 0)] 2 1 [(0, (2, (.tmp 67)))]), false, none⟩,
  ⟨some 69, (.append false 2 16 (.tmp 57) (.tmp 68)), false, none⟩,
  ⟨some 8, (.mov (.tmp 69)), false, none⟩]
def c18_15 : ACode := (.mixed o18_14 [true, true, true, true, true, true, true, true, true, true, true, true, false, true] [0, 1, 2, 7, 8, 9])
def w18_15 (_P : Program) (Q : Exit → Slots → Mem → Prop) (M : Mem) (v0 : V) (v1 : V) (v2 : V) (v7 : V) (v8 : V) (v9 : V) : Prop :=
  @OptVH (indexSlV 1 v7 v9 M) ⟨fun t60_4 =>
  @OptVH (loadV 1 false t60_4 M) ⟨fun t61_5 =>
  @OptVH (binV .add .none v9 (.int .i64 1)) ⟨fun t64_8 =>
  @OptVH (indexSlV 1 v7 t64_8 M) ⟨fun t65_9 =>
  @OptVH (loadV 1 false t65_9 M) ⟨fun t66_10 =>
  @OptVH (buildV [(.int .i64 0), (.int .i64 0)] [(0, 1, t61_5), (1, 1, t66_10)]) ⟨fun t67_11 =>
  @OptVH (buildSliceV [(.int .i64 0), (.int .i64 0)] 2 1 [(0, 2, t67_11)]) ⟨fun t68_12 =>
  @OptMH (appV false 2 16 v8 t68_12 M) ⟨fun t69_13 M13 =>
  Q .normal [(0, v0), (1, v1), (2, v2), (7, v7), (8, t69_13), (9, v9)] M13⟩⟩⟩⟩⟩⟩⟩⟩
theorem e18_15 (P : Program) (Q : Exit → Slots → Mem → Prop) (s : Slots) (M : Mem) : wpC P c18_15 Q s M = w18_15 P Q M (sget s 0) (sget s 1) (sget s 2) (sget s 7) (sget s 8) (sget s 9) := by kernel_rfl
def o18_16 : List AOper := [⟨some 29, (.mov (.tmp 8)), false, none⟩,
  ⟨some 30, (.lenSl (.tmp 29)), false, none⟩,
  ⟨some 31, (.bin .gtr .none (.tmp 30) (.const (.int .i64 0))), true, none⟩,
  ⟨some 32, (.mov (.tmp 31)), true, none⟩,
  ⟨some 33, (.mov (.tmp 8)), false, some (32, true)⟩,
  ⟨some 34, (.mov (.tmp 8)), false, some (32, true)⟩,
  ⟨some 35, (.lenSl (.tmp 34)), false, some (32, true)⟩,
  ⟨some 36, (.bin .sub .none (.tmp 35) (.const (.int .i64 1))), false, some (32, true)⟩,
  ⟨some 37, (.indexSl 2 (.tmp 33) (.tmp 36)), false, some (32, true)⟩,
  ⟨some 38, (.fieldAddr 1 (.tmp 37)), false, some (32, true)⟩,
  ⟨some 39, (.load 1 false (.tmp 38)), false, some (32, true)⟩,
  ⟨some 40, (.mov (.tmp 7)), false, some (32, true)⟩,
  ⟨some 41, (.mov (.tmp 9)), false, some (32, true)⟩,
  ⟨some 42, (.indexSl 1 (.tmp 40) (.tmp 41)), false, some (32, true)⟩,
  ⟨some 43, (.load 1 false (.tmp 42)), false, some (32, true)⟩,
  ⟨some 44, (.bin .eql .none (.tmp 39) (.tmp 43)), true, some (32, true)⟩,
  ⟨some 45, (.pick (.tmp 32) (.tmp 44) (.const (.bool false))), true, none⟩]
def c18_17 : ACode := (.seq (.mixed o18_16 [true, true, true, true, true, true, true, true, true, true, true, true, true, true, true, true, true] [0, 1, 2, 7, 8, 9, 45]) (.cond (.tmp 45) c18_13 c18_15))
def w18_17 (P : Program) (Q : Exit → Slots → Mem → Prop) (M : Mem) (v0 : V) (v1 : V) (v2 : V) (v7 : V) (v8 : V) (v9 : V) : Prop :=
  @OptVH (lenV v8 M) ⟨fun t30_2 =>
  @OptBH (binV .gtr .none t30_2 (.int .i64 0)) ⟨fun b31_3 =>
  @BIfH b31_3
  ⟨@OptVH (lenV v8 M) ⟨fun t35_7 =>
  @OptVH (binV .sub .none t35_7 (.int .i64 1)) ⟨fun t36_8 =>
  @OptVH (indexSlV 2 v8 t36_8 M) ⟨fun t37_9 =>
  @OptVH (moveV 1 t37_9) ⟨fun t38_10 =>
  @OptVH (loadV 1 false t38_10 M) ⟨fun t39_11 =>
  @OptVH (indexSlV 1 v7 v9 M) ⟨fun t42_14 =>
  @OptVH (loadV 1 false t42_14 M) ⟨fun t43_15 =>
  @OptBH (binV .eql .none t39_11 t43_15) ⟨fun b44_16 =>
  @BIfH b44_16
  ⟨wpC P c18_13 Q [(0, v0), (1, v1), (2, v2), (7, v7), (8, v8), (9, v9), (45, (.bool b44_16))] M⟩
  ⟨wpC P c18_15 Q [(0, v0), (1, v1), (2, v2), (7, v7), (8, v8), (9, v9), (45, (.bool b44_16))] M⟩⟩⟩⟩⟩⟩⟩⟩⟩⟩
  ⟨wpC P c18_15 Q [(0, v0), (1, v1), (2, v2), (7, v7), (8, v8), (9, v9), (45, (.bool false))] M⟩⟩⟩
theorem e18_17 (P : Program) (Q : Exit → Slots → Mem → Prop) (s : Slots) (M : Mem) : wpC P c18_17 Q s M = w18_17 P Q M (sget s 0) (sget s 1) (sget s 2) (sget s 7) (sget s 8) (sget s 9) := by kernel_rfl
def c18_18 : ACode := (.seq c18_11 c18_17)
def c18_19 : ACode := (.block 1 c18_18)
def o18_20 : List AOper := [⟨some 18, (.mov (.tmp 9)), false, none⟩,
  ⟨some 19, (.bin .add .none (.tmp 18) (.const (.int .i64 1))), false, none⟩,
  ⟨some 9, (.mov (.tmp 19)), false, none⟩]
def c18_21 : ACode := (.region o18_20 [0, 1, 2, 7, 8, 9])
def w18_21 (_P : Program) (Q : Exit → Slots → Mem → Prop) (M : Mem) (v0 : V) (v1 : V) (v2 : V) (v7 : V) (v8 : V) (v9 : V) : Prop :=
  @OptVH (binV .add .none v9 (.int .i64 1)) ⟨fun t19_2 =>
  Q .normal [(0, v0), (1, v1), (2, v2), (7, v7), (8, v8), (9, t19_2)] M⟩
theorem e18_21 (P : Program) (Q : Exit → Slots → Mem → Prop) (s : Slots) (M : Mem) : wpC P c18_21 Q s M = w18_21 P Q M (sget s 0) (sget s 1) (sget s 2) (sget s 7) (sget s 8) (sget s 9) := by kernel_rfl
def c18_22 : ACode := (.seq c18_19 c18_21)
def c18_23 : ACode := (.seq c18_9 c18_22)
def c18_24 : ACode := (.loop [0, 1, 2, 7, 8, 9] c18_23)
def c18_25 : ACode := (.block 0 c18_24)
def c18_26 : ACode := (.seq c18_7 c18_25)
def o18_27 : List AOper := [⟨some 70, (.mov (.tmp 8)), false, none⟩,
  ⟨some 6, (.mov (.tmp 70)), false, none⟩]
def c18_28 : ACode := (.region o18_27 [6])
def w18_28 (_P : Program) (Q : Exit → Slots → Mem → Prop) (M : Mem) (v8 : V) : Prop :=
  Q .normal [(6, v8)] M
theorem e18_28 (P : Program) (Q : Exit → Slots → Mem → Prop) (s : Slots) (M : Mem) : wpC P c18_28 Q s M = w18_28 P Q M (sget s 8) := by kernel_rfl
def c18_29 : ACode := (.seq c18_28 .ret)
def c18_30 : ACode := (.seq c18_26 c18_29)
def c18_31 : ACode := (.seq c18_5 c18_30)
def c18_32 : ACode := (.seq c18_3 c18_31)
def c18_33 : ACode := (.seq c18_1 c18_32)
def fn_transitref08_Combine : AFn := ⟨71, [(.tmp 6)], c18_33⟩
theorem fn_transitref08_Combine_ok : resFn PR h_transitref08_Combine i_transitref08_Combine = some fn_transitref08_Combine := by kernel_rfl

def h_interval_Union : Hints := ⟨[(0, [2, 3]), (1, [4])], [], []⟩
def o19_0 : List AOper := [⟨some 2, (.box 1 (.tmp 0)), false, none⟩,
  ⟨some 3, (.box 1 (.tmp 1)), false, none⟩,
  ⟨some 4, (.mov (.const (.slice [] .nil))), false, none⟩]
def c19_1 : ACode := (.region o19_0 [2, 3])
def w19_1 (_P : Program) (Q : Exit → Slots → Mem → Prop) (M : Mem) (v0 : V) (v1 : V) : Prop :=
  @OptMH (boxV 1 v0 M) ⟨fun t2_1 M1 =>
  @OptMH (boxV 1 v1 M1) ⟨fun t3_2 M2 =>
  Q .normal [(2, t2_1), (3, t3_2)] M2⟩⟩
theorem e19_1 (P : Program) (Q : Exit → Slots → Mem → Prop) (s : Slots) (M : Mem) : wpC P c19_1 Q s M = w19_1 P Q M (sget s 0) (sget s 1) := by kernel_rfl
def o19_2 : List AOper := [⟨some 5, (.load 1 false (.tmp 2)), false, none⟩,
  ⟨some 6, (.load 1 false (.tmp 3)), false, none⟩,
  ⟨some 7, (.buildSlice [(.slice [] .nil), (.slice [] .nil)] 1 2 [(0, (1, (.tmp 5))), (1, (1, (.tmp 6)))]), false, none⟩,
  ⟨some 8, (.call i_interval_bounds [(.tmp 7)]), false, none⟩,
  ⟨some 9, (.mkfn i_interval_Union_1 [(.tmp 2), (.tmp 3)]), false, none⟩,
  ⟨some 10, (.call i_interval_build [(.tmp 8), (.tmp 9)]), false, none⟩,
  ⟨some 4, (.mov (.tmp 10)), false, none⟩]
def c19_3 : ACode := (.region o19_2 [4])
def w19_3 (P : Program) (Q : Exit → Slots → Mem → Prop) (M : Mem) (v2 : V) (v3 : V) : Prop :=
  @OptVH (loadV 1 false v2 M) ⟨fun t5_1 =>
  @OptVH (loadV 1 false v3 M) ⟨fun t6_2 =>
  @OptVH (buildSliceV [(.slice [] .nil), (.slice [] .nil)] 1 2 [(0, 1, t5_1), (1, 1, t6_2)]) ⟨fun t7_3 =>
  @CallH P i_interval_bounds [t7_3] M ⟨fun t8_4 M4 =>
  @CallH P i_interval_build [t8_4, (mkfnV i_interval_Union_1 [v2, v3])] M4 ⟨fun t10_6 M6 =>
  Q .normal [(4, t10_6)] M6⟩⟩⟩⟩⟩
theorem e19_3 (P : Program) (Q : Exit → Slots → Mem → Prop) (s : Slots) (M : Mem) : wpC P c19_3 Q s M = w19_3 P Q M (sget s 2) (sget s 3) := by kernel_rfl
def c19_4 : ACode := (.seq c19_3 .ret)
def c19_5 : ACode := (.seq c19_1 c19_4)
def fn_interval_Union : AFn := ⟨11, [(.tmp 4)], c19_5⟩
theorem fn_interval_Union_ok : resFn PR h_interval_Union i_interval_Union = some fn_interval_Union := by kernel_rfl

def h_interval_Intersect : Hints := ⟨[(0, [2, 3]), (1, [4])], [], []⟩
def o20_0 : List AOper := [⟨some 2, (.box 1 (.tmp 0)), false, none⟩,
  ⟨some 3, (.box 1 (.tmp 1)), false, none⟩,
  ⟨some 4, (.mov (.const (.slice [] .nil))), false, none⟩]
def c20_1 : ACode := (.region o20_0 [2, 3])
def w20_1 (_P : Program) (Q : Exit → Slots → Mem → Prop) (M : Mem) (v0 : V) (v1 : V) : Prop :=
  @OptMH (boxV 1 v0 M) ⟨fun t2_1 M1 =>
  @OptMH (boxV 1 v1 M1) ⟨fun t3_2 M2 =>
  Q .normal [(2, t2_1), (3, t3_2)] M2⟩⟩
theorem e20_1 (P : Program) (Q : Exit → Slots → Mem → Prop) (s : Slots) (M : Mem) : wpC P c20_1 Q s M = w20_1 P Q M (sget s 0) (sget s 1) := by kernel_rfl
def o20_2 : List AOper := [⟨some 5, (.load 1 false (.tmp 2)), false, none⟩,
  ⟨some 6, (.load 1 false (.tmp 3)), false, none⟩,
  ⟨some 7, (.buildSlice [(.slice [] .nil), (.slice [] .nil)] 1 2 [(0, (1, (.tmp 5))), (1, (1, (.tmp 6)))]), false, none⟩,
  ⟨some 8, (.call i_interval_bounds [(.tmp 7)]), false, none⟩,
  ⟨some 9, (.mkfn i_interval_Intersect_1 [(.tmp 2), (.tmp 3)]), false, none⟩,
  ⟨some 10, (.call i_interval_build [(.tmp 8), (.tmp 9)]), false, none⟩,
  ⟨some 4, (.mov (.tmp 10)), false, none⟩]
def c20_3 : ACode := (.region o20_2 [4])
def w20_3 (P : Program) (Q : Exit → Slots → Mem → Prop) (M : Mem) (v2 : V) (v3 : V) : Prop :=
  @OptVH (loadV 1 false v2 M) ⟨fun t5_1 =>
  @OptVH (loadV 1 false v3 M) ⟨fun t6_2 =>
  @OptVH (buildSliceV [(.slice [] .nil), (.slice [] .nil)] 1 2 [(0, 1, t5_1), (1, 1, t6_2)]) ⟨fun t7_3 =>
  @CallH P i_interval_bounds [t7_3] M ⟨fun t8_4 M4 =>
  @CallH P i_interval_build [t8_4, (mkfnV i_interval_Intersect_1 [v2, v3])] M4 ⟨fun t10_6 M6 =>
  Q .normal [(4, t10_6)] M6⟩⟩⟩⟩⟩
theorem e20_3 (P : Program) (Q : Exit → Slots → Mem → Prop) (s : Slots) (M : Mem) : wpC P c20_3 Q s M = w20_3 P Q M (sget s 2) (sget s 3) := by kernel_rfl
def c20_4 : ACode := (.seq c20_3 .ret)
def c20_5 : ACode := (.seq c20_1 c20_4)
def fn_interval_Intersect : AFn := ⟨11, [(.tmp 4)], c20_5⟩
theorem fn_interval_Intersect_ok : resFn PR h_interval_Intersect i_interval_Intersect = some fn_interval_Intersect := by kernel_rfl

def h_interval_Subtract : Hints := ⟨[(0, [2, 3]), (1, [4])], [], []⟩
def o21_0 : List AOper := [⟨some 2, (.box 1 (.tmp 0)), false, none⟩,
  ⟨some 3, (.box 1 (.tmp 1)), false, none⟩,
  ⟨some 4, (.mov (.const (.slice [] .nil))), false, none⟩]
def c21_1 : ACode := (.region o21_0 [2, 3])
def w21_1 (_P : Program) (Q : Exit → Slots → Mem → Prop) (M : Mem) (v0 : V) (v1 : V) : Prop :=
  @OptMH (boxV 1 v0 M) ⟨fun t2_1 M1 =>
  @OptMH (boxV 1 v1 M1) ⟨fun t3_2 M2 =>
  Q .normal [(2, t2_1), (3, t3_2)] M2⟩⟩
theorem e21_1 (P : Program) (Q : Exit → Slots → Mem → Prop) (s : Slots) (M : Mem) : wpC P c21_1 Q s M = w21_1 P Q M (sget s 0) (sget s 1) := by kernel_rfl
def o21_2 : List AOper := [⟨some 5, (.load 1 false (.tmp 2)), false, none⟩,
  ⟨some 6, (.load 1 false (.tmp 3)), false, none⟩,
  ⟨some 7, (.buildSlice [(.slice [] .nil), (.slice [] .nil)] 1 2 [(0, (1, (.tmp 5))), (1, (1, (.tmp 6)))]), false, none⟩,
  ⟨some 8, (.call i_interval_bounds [(.tmp 7)]), false, none⟩,
  ⟨some 9, (.mkfn i_interval_Subtract_1 [(.tmp 2), (.tmp 3)]), false, none⟩,
  ⟨some 10, (.call i_interval_build [(.tmp 8), (.tmp 9)]), false, none⟩,
  ⟨some 4, (.mov (.tmp 10)), false, none⟩]
def c21_3 : ACode := (.region o21_2 [4])
def w21_3 (P : Program) (Q : Exit → Slots → Mem → Prop) (M : Mem) (v2 : V) (v3 : V) : Prop :=
  @OptVH (loadV 1 false v2 M) ⟨fun t5_1 =>
  @OptVH (loadV 1 false v3 M) ⟨fun t6_2 =>
  @OptVH (buildSliceV [(.slice [] .nil), (.slice [] .nil)] 1 2 [(0, 1, t5_1), (1, 1, t6_2)]) ⟨fun t7_3 =>
  @CallH P i_interval_bounds [t7_3] M ⟨fun t8_4 M4 =>
  @CallH P i_interval_build [t8_4, (mkfnV i_interval_Subtract_1 [v2, v3])] M4 ⟨fun t10_6 M6 =>
  Q .normal [(4, t10_6)] M6⟩⟩⟩⟩⟩
theorem e21_3 (P : Program) (Q : Exit → Slots → Mem → Prop) (s : Slots) (M : Mem) : wpC P c21_3 Q s M = w21_3 P Q M (sget s 2) (sget s 3) := by kernel_rfl
def c21_4 : ACode := (.seq c21_3 .ret)
def c21_5 : ACode := (.seq c21_1 c21_4)
def fn_interval_Subtract : AFn := ⟨11, [(.tmp 4)], c21_5⟩
theorem fn_interval_Subtract_ok : resFn PR h_interval_Subtract i_interval_Subtract = some fn_interval_Subtract := by kernel_rfl

def h_interval_Length : Hints := ⟨[(0, [0]), (1, [0, 4]), (2, [4, 9, 10, 11]), (3, [4, 9, 10, 11, 12]), (4, [4, 6, 9, 10, 11]), (5, [4, 7, 9, 10, 11]), (6, [4, 7, 9, 10, 11, 29]), (7, [2, 3]), (8, [4, 9, 10, 11]), (9, [4, 9, 10, 11]), (10, [2, 3])], [(3, [4, 9, 10, 11])], []⟩
def o22_0 : List AOper := [⟨some 2, (.mov (.const (.int .i64 0))), false, none⟩,
  ⟨some 3, (.mov (.const (.bool false))), true, none⟩]
def c22_1 : ACode := (.region o22_0 [0])
def w22_1 (_P : Program) (Q : Exit → Slots → Mem → Prop) (M : Mem) (v0 : V) : Prop :=
  Q .normal [(0, v0)] M
theorem e22_1 (P : Program) (Q : Exit → Slots → Mem → Prop) (s : Slots) (M : Mem) : wpC P c22_1 Q s M = w22_1 P Q M (sget s 0) := by kernel_rfl
def o22_2 : List AOper := [⟨some 4, (.mov (.const (.int .u64 0))), false, none⟩]
def c22_3 : ACode := (.region o22_2 [0, 4])
def w22_3 (_P : Program) (Q : Exit → Slots → Mem → Prop) (M : Mem) (v0 : V) : Prop :=
  Q .normal [(0, v0), (4, (.int .u64 0))] M
theorem e22_3 (P : Program) (Q : Exit → Slots → Mem → Prop) (s : Slots) (M : Mem) : wpC P c22_3 Q s M = w22_3 P Q M (sget s 0) := by kernel_rfl
def o22_4 : List AOper := [⟨some 8, (.mov (.tmp 0)), false, none⟩,
  ⟨some 9, (.call i_interval_Normalize [(.tmp 8)]), false, none⟩,
  ⟨some 10, (.lenSl (.tmp 9)), false, none⟩,
  ⟨some 11, (.mov (.const (.int .i64 0))), false, none⟩]
def c22_5 : ACode := (.region o22_4 [4, 9, 10, 11])
def w22_5 (P : Program) (Q : Exit → Slots → Mem → Prop) (M : Mem) (v0 : V) (v4 : V) : Prop :=
  @CallH P i_interval_Normalize [v0] M ⟨fun t9_2 M2 =>
  @OptVH (lenV t9_2 M2) ⟨fun t10_3 =>
  Q .normal [(4, v4), (9, t9_2), (10, t10_3), (11, (.int .i64 0))] M2⟩⟩
theorem e22_5 (P : Program) (Q : Exit → Slots → Mem → Prop) (s : Slots) (M : Mem) : wpC P c22_5 Q s M = w22_5 P Q M (sget s 0) (sget s 4) := by kernel_rfl
def o22_6 : List AOper := [⟨some 12, (.bin .lss .none (.tmp 11) (.tmp 10)), false, none⟩]
def c22_7 : ACode := (.region o22_6 [4, 9, 10, 11, 12])
def w22_7 (_P : Program) (Q : Exit → Slots → Mem → Prop) (M : Mem) (v4 : V) (v9 : V) (v10 : V) (v11 : V) : Prop :=
  @OptVH (binV .lss .none v11 v10) ⟨fun t12_1 =>
  Q .normal [(4, v4), (9, v9), (10, v10), (11, v11), (12, t12_1)] M⟩
theorem e22_7 (P : Program) (Q : Exit → Slots → Mem → Prop) (s : Slots) (M : Mem) : wpC P c22_7 Q s M = w22_7 P Q M (sget s 4) (sget s 9) (sget s 10) (sget s 11) := by kernel_rfl
def c22_8 : ACode := (.cond (.tmp 12) .skip (.exit 0))
def o22_9 : List AOper := [⟨some 13, (.indexSl 2 (.tmp 9) (.tmp 11)), false, none⟩,
  ⟨some 14, (.load 2 true (.tmp 13)), false, none⟩,
  ⟨some 6, (.alloc [(.int .i64 0), (.int .i64 0)]), false, none⟩,
  ⟨none, (.store 2 (.tmp 6) (.tmp 14)), false, none⟩]
def c22_10 : ACode := (.region o22_9 [4, 6, 9, 10, 11])
def w22_10 (_P : Program) (Q : Exit → Slots → Mem → Prop) (M : Mem) (v4 : V) (v9 : V) (v10 : V) (v11 : V) : Prop :=
  @OptVH (indexSlV 2 v9 v11 M) ⟨fun t13_1 =>
  @OptVH (loadV 2 true t13_1 M) ⟨fun t14_2 =>
  @OptMH (allocV [(.int .i64 0), (.int .i64 0)] M) ⟨fun t6_3 M3 =>
  @OptMH (storeVM 2 t6_3 t14_2 M3) ⟨fun _tx_4 M4 =>
  Q .normal [(4, v4), (6, t6_3), (9, v9), (10, v10), (11, v11)] M4⟩⟩⟩⟩
theorem e22_10 (P : Program) (Q : Exit → Slots → Mem → Prop) (s : Slots) (M : Mem) : wpC P c22_10 Q s M = w22_10 P Q M (sget s 4) (sget s 9) (sget s 10) (sget s 11) := by kernel_rfl
def o22_11 : List AOper := [⟨some 15, (.fieldAddr 1 (.tmp 6)), false, none⟩,
  ⟨some 16, (.load 1 false (.tmp 15)), false, none⟩,
  ⟨some 17, (.conv .u64 (.tmp 16)), false, none⟩,
  ⟨some 18, (.fieldAddr 0 (.tmp 6)), false, none⟩,
  ⟨some 19, (.load 1 false (.tmp 18)), false, none⟩,
  ⟨some 20, (.conv .u64 (.tmp 19)), false, none⟩,
  ⟨some 21, (.bin .sub .none (.tmp 17) (.tmp 20)), false, none⟩,
  ⟨some 7, (.mov (.tmp 21)), false, none⟩]
def c22_12 : ACode := (.region o22_11 [4, 7, 9, 10, 11])
def w22_12 (_P : Program) (Q : Exit → Slots → Mem → Prop) (M : Mem) (v4 : V) (v6 : V) (v9 : V) (v10 : V) (v11 : V) : Prop :=
  @OptVH (moveV 1 v6) ⟨fun t15_1 =>
  @OptVH (loadV 1 false t15_1 M) ⟨fun t16_2 =>
  @OptVH (convV .u64 t16_2) ⟨fun t17_3 =>
  @OptVH (moveV 0 v6) ⟨fun t18_4 =>
  @OptVH (loadV 1 false t18_4 M) ⟨fun t19_5 =>
  @OptVH (convV .u64 t19_5) ⟨fun t20_6 =>
  @OptVH (binV .sub .none t17_3 t20_6) ⟨fun t21_7 =>
  Q .normal [(4, v4), (7, t21_7), (9, v9), (10, v10), (11, v11)] M⟩⟩⟩⟩⟩⟩⟩
theorem e22_12 (P : Program) (Q : Exit → Slots → Mem → Prop) (s : Slots) (M : Mem) : wpC P c22_12 Q s M = w22_12 P Q M (sget s 4) (sget s 6) (sget s 9) (sget s 10) (sget s 11) := by kernel_rfl
def o22_13 : List AOper := [⟨some 2, (.mov (.const (.int .i64 0))), false, none⟩,
  ⟨some 3, (.mov (.const (.bool false))), true, none⟩]
def c22_14 : ACode := (.region o22_13 [2, 3])
def w22_14 (_P : Program) (Q : Exit → Slots → Mem → Prop) (M : Mem) : Prop :=
  Q .normal [(2, (.int .i64 0)), (3, (.bool false))] M
theorem e22_14 (P : Program) (Q : Exit → Slots → Mem → Prop) (s : Slots) (M : Mem) : wpC P c22_14 Q s M = w22_14 P Q M := by kernel_rfl
def c22_15 : ACode := (.seq c22_14 .ret)
def o22_16 : List AOper := [⟨some 22, (.mov (.tmp 7)), false, none⟩,
  ⟨some 23, (.bin .gtr .none (.tmp 22) (.const (.int .u64 9223372036854775807))), true, none⟩,
  ⟨some 24, (.mov (.tmp 23)), true, none⟩,
  ⟨some 25, (.mov (.tmp 4)), false, some (24, false)⟩,
  ⟨some 26, (.mov (.tmp 7)), false, some (24, false)⟩,
  ⟨some 27, (.bin .add .none (.tmp 25) (.tmp 26)), false, some (24, false)⟩,
  ⟨some 28, (.bin .gtr .none (.tmp 27) (.const (.int .u64 9223372036854775807))), true, some (24, false)⟩,
  ⟨some 29, (.pick (.tmp 24) (.const (.bool true)) (.tmp 28)), true, none⟩]
def c22_17 : ACode := (.seq (.region o22_16 [4, 7, 9, 10, 11, 29]) (.cond (.tmp 29) c22_15 .skip))
def w22_17 (P : Program) (Q : Exit → Slots → Mem → Prop) (M : Mem) (v4 : V) (v7 : V) (v9 : V) (v10 : V) (v11 : V) : Prop :=
  @OptBH (binV .gtr .none v7 (.int .u64 9223372036854775807)) ⟨fun b23_2 =>
  @BIfH b23_2
  ⟨wpC P c22_15 Q [(4, v4), (7, v7), (9, v9), (10, v10), (11, v11), (29, (.bool true))] M⟩
  ⟨@OptVH (binV .add .none v4 v7) ⟨fun t27_7 =>
  @OptBH (binV .gtr .none t27_7 (.int .u64 9223372036854775807)) ⟨fun b28_8 =>
  @BIfH b28_8
  ⟨wpC P c22_15 Q [(4, v4), (7, v7), (9, v9), (10, v10), (11, v11), (29, (.bool b28_8))] M⟩
  ⟨Q .normal [(4, v4), (7, v7), (9, v9), (10, v10), (11, v11), (29, (.bool b28_8))] M⟩⟩⟩⟩⟩
theorem e22_17 (P : Program) (Q : Exit → Slots → Mem → Prop) (s : Slots) (M : Mem) : wpC P c22_17 Q s M = w22_17 P Q M (sget s 4) (sget s 7) (sget s 9) (sget s 10) (sget s 11) := by kernel_rfl
def o22_18 : List AOper := [⟨some 30, (.mov (.tmp 4)), false, none⟩,
  ⟨some 31, (.mov (.tmp 7)), false, none⟩,
  ⟨some 32, (.bin .add .none (.tmp 30) (.tmp 31)), false, none⟩,
  ⟨some 4, (.mov (.tmp 32)), false, none⟩]
def c22_19 : ACode := (.region o22_18 [4, 9, 10, 11])
def w22_19 (_P : Program) (Q : Exit → Slots → Mem → Prop) (M : Mem) (v4 : V) (v7 : V) (v9 : V) (v10 : V) (v11 : V) : Prop :=
  @OptVH (binV .add .none v4 v7) ⟨fun t32_3 =>
  Q .normal [(4, t32_3), (9, v9), (10, v10), (11, v11)] M⟩
theorem e22_19 (P : Program) (Q : Exit → Slots → Mem → Prop) (s : Slots) (M : Mem) : wpC P c22_19 Q s M = w22_19 P Q M (sget s 4) (sget s 7) (sget s 9) (sget s 10) (sget s 11) := by kernel_rfl
def c22_20 : ACode := (.seq c22_17 c22_19)
def c22_21 : ACode := (.seq c22_12 c22_20)
def c22_22 : ACode := (.seq c22_10 c22_21)
def c22_23 : ACode := (.block 1 c22_22)
def o22_24 : List AOper := [⟨some 33, (.bin .add .none (.tmp 11) (.const (.int .i64 1))), false, none⟩,
  ⟨some 11, (.mov (.tmp 33)), false, none⟩]
def c22_25 : ACode := (.region o22_24 [4, 9, 10, 11])
def w22_25 (_P : Program) (Q : Exit → Slots → Mem → Prop) (M : Mem) (v4 : V) (v9 : V) (v10 : V) (v11 : V) : Prop :=
  @OptVH (binV .add .none v11 (.int .i64 1)) ⟨fun t33_1 =>
  Q .normal [(4, v4), (9, v9), (10, v10), (11, t33_1)] M⟩
theorem e22_25 (P : Program) (Q : Exit → Slots → Mem → Prop) (s : Slots) (M : Mem) : wpC P c22_25 Q s M = w22_25 P Q M (sget s 4) (sget s 9) (sget s 10) (sget s 11) := by kernel_rfl
def c22_26 : ACode := (.seq c22_23 c22_25)
def c22_27 : ACode := (.seq c22_8 c22_26)
def c22_28 : ACode := (.seq c22_7 c22_27)
def c22_29 : ACode := (.loop [4, 9, 10, 11] c22_28)
def c22_30 : ACode := (.block 0 c22_29)
def c22_31 : ACode := (.seq c22_5 c22_30)
def o22_32 : List AOper := [⟨some 34, (.mov (.tmp 4)), false, none⟩,
  ⟨some 35, (.conv .i64 (.tmp 34)), false, none⟩,
  ⟨some 2, (.mov (.tmp 35)), false, none⟩,
  ⟨some 3, (.mov (.const (.bool true))), true, none⟩]
def c22_33 : ACode := (.region o22_32 [2, 3])
def w22_33 (_P : Program) (Q : Exit → Slots → Mem → Prop) (M : Mem) (v4 : V) : Prop :=
  @OptVH (convV .i64 v4) ⟨fun t35_2 =>
  Q .normal [(2, t35_2), (3, (.bool true))] M⟩
theorem e22_33 (P : Program) (Q : Exit → Slots → Mem → Prop) (s : Slots) (M : Mem) : wpC P c22_33 Q s M = w22_33 P Q M (sget s 4) := by kernel_rfl
def c22_34 : ACode := (.seq c22_33 .ret)
def c22_35 : ACode := (.seq c22_31 c22_34)
def c22_36 : ACode := (.seq c22_3 c22_35)
def c22_37 : ACode := (.seq c22_1 c22_36)
def fn_interval_Length : AFn := ⟨36, [(.tmp 2), (.tmp 3)], c22_37⟩
theorem fn_interval_Length_ok : resFn PR h_interval_Length i_interval_Length = some fn_interval_Length := by kernel_rfl

def h_transitref08_Length : Hints := ⟨[(0, [0]), (1, [4]), (2, [4, 5]), (3, [4, 5, 6]), (4, [4, 5, 6, 12]), (5, [4, 5, 6]), (6, [4, 5, 6]), (7, [5, 31]), (8, [2, 3]), (9, [2, 3])], [(4, [4, 5, 6])], []⟩
def o23_0 : List AOper := [⟨some 2, (.mov (.const (.int .i64 0))), false, none⟩,
  ⟨some 3, (.mov (.const (.bool false))), true, none⟩]
def c23_1 : ACode := (.region o23_0 [0])
def w23_1 (_P : Program) (Q : Exit → Slots → Mem → Prop) (M : Mem) (v0 : V) : Prop :=
  Q .normal [(0, v0)] M
theorem e23_1 (P : Program) (Q : Exit → Slots → Mem → Prop) (s : Slots) (M : Mem) : wpC P c23_1 Q s M = w23_1 P Q M (sget s 0) := by kernel_rfl
def o23_2 : List AOper := [⟨some 7, (.mov (.tmp 0)), false, none⟩,
  ⟨some 8, (.call i_transitref08_Combine [(.tmp 7), (.const (.slice [] .nil)), (.const (.int .i64 0))]), false, none⟩,
  ⟨some 4, (.mov (.tmp 8)), false, none⟩]
def c23_3 : ACode := (.region o23_2 [4])
def w23_3 (P : Program) (Q : Exit → Slots → Mem → Prop) (M : Mem) (v0 : V) : Prop :=
  @CallH P i_transitref08_Combine [v0, (.slice [] .nil), (.int .i64 0)] M ⟨fun t8_2 M2 =>
  Q .normal [(4, t8_2)] M2⟩
theorem e23_3 (P : Program) (Q : Exit → Slots → Mem → Prop) (s : Slots) (M : Mem) : wpC P c23_3 Q s M = w23_3 P Q M (sget s 0) := by kernel_rfl
def o23_4 : List AOper := [⟨some 5, (.mov (.const (.int .u64 0))), false, none⟩]
def c23_5 : ACode := (.region o23_4 [4, 5])
def w23_5 (_P : Program) (Q : Exit → Slots → Mem → Prop) (M : Mem) (v4 : V) : Prop :=
  Q .normal [(4, v4), (5, (.int .u64 0))] M
theorem e23_5 (P : Program) (Q : Exit → Slots → Mem → Prop) (s : Slots) (M : Mem) : wpC P c23_5 Q s M = w23_5 P Q M (sget s 4) := by kernel_rfl
def o23_6 : List AOper := [⟨some 6, (.mov (.const (.int .i64 0))), false, none⟩]
def c23_7 : ACode := (.region o23_6 [4, 5, 6])
def w23_7 (_P : Program) (Q : Exit → Slots → Mem → Prop) (M : Mem) (v4 : V) (v5 : V) : Prop :=
  Q .normal [(4, v4), (5, v5), (6, (.int .i64 0))] M
theorem e23_7 (P : Program) (Q : Exit → Slots → Mem → Prop) (s : Slots) (M : Mem) : wpC P c23_7 Q s M = w23_7 P Q M (sget s 4) (sget s 5) := by kernel_rfl
def o23_8 : List AOper := [⟨some 9, (.mov (.tmp 6)), false, none⟩,
  ⟨some 10, (.mov (.tmp 4)), false, none⟩,
  ⟨some 11, (.lenSl (.tmp 10)), false, none⟩,
  ⟨some 12, (.bin .lss .none (.tmp 9) (.tmp 11)), true, none⟩]
def c23_9 : ACode := (.seq (.region o23_8 [4, 5, 6, 12]) (.cond (.tmp 12) .skip (.exit 0)))
def w23_9 (_P : Program) (Q : Exit → Slots → Mem → Prop) (M : Mem) (v4 : V) (v5 : V) (v6 : V) : Prop :=
  @OptVH (lenV v4 M) ⟨fun t11_3 =>
  @OptBH (binV .lss .none v6 t11_3) ⟨fun b12_4 =>
  @BIfH b12_4
  ⟨Q .normal [(4, v4), (5, v5), (6, v6), (12, (.bool b12_4))] M⟩
  ⟨Q (.exit 0) [(4, v4), (5, v5), (6, v6), (12, (.bool b12_4))] M⟩⟩⟩
theorem e23_9 (P : Program) (Q : Exit → Slots → Mem → Prop) (s : Slots) (M : Mem) : wpC P c23_9 Q s M = w23_9 P Q M (sget s 4) (sget s 5) (sget s 6) := by kernel_rfl
def o23_10 : List AOper := [⟨some 15, (.mov (.tmp 5)), false, none⟩,
  ⟨some 16, (.mov (.tmp 4)), false, none⟩,
  ⟨some 17, (.mov (.tmp 6)), false, none⟩,
  ⟨some 18, (.indexSl 2 (.tmp 16) (.tmp 17)), false, none⟩,
  ⟨some 19, (.fieldAddr 1 (.tmp 18)), false, none⟩,
  ⟨some 20, (.load 1 false (.tmp 19)), false, none⟩,
  ⟨some 21, (.conv .u64 (.tmp 20)), false, none⟩,
  ⟨some 22, (.mov (.tmp 4)), false, none⟩,
  ⟨some 23, (.mov (.tmp 6)), false, none⟩,
  ⟨some 24, (.indexSl 2 (.tmp 22) (.tmp 23)), false, none⟩,
  ⟨some 25, (.fieldAddr 0 (.tmp 24)), false, none⟩,
  ⟨some 26, (.load 1 false (.tmp 25)), false, none⟩,
  ⟨some 27, (.conv .u64 (.tmp 26)), false, none⟩,
  ⟨some 28, (.bin .sub .none (.tmp 21) (.tmp 27)), false, none⟩,
  ⟨some 29, (.bin .add .none (.tmp 15) (.tmp 28)), false, none⟩,
  ⟨some 5, (.mov (.tmp 29)), false, none⟩]
def c23_11 : ACode := (.mixed o23_10 [true, true, true, true, true, true, true, true, true, true, true, true, true, true, true, true] [4, 5, 6])
def w23_11 (_P : Program) (Q : Exit → Slots → Mem → Prop) (M : Mem) (v4 : V) (v5 : V) (v6 : V) : Prop :=
  @OptVH (indexSlV 2 v4 v6 M) ⟨fun t18_4 =>
  @OptVH (moveV 1 t18_4) ⟨fun t19_5 =>
  @OptVH (loadV 1 false t19_5 M) ⟨fun t20_6 =>
  @OptVH (convV .u64 t20_6) ⟨fun t21_7 =>
  @OptVH (indexSlV 2 v4 v6 M) ⟨fun t24_10 =>
  @OptVH (moveV 0 t24_10) ⟨fun t25_11 =>
  @OptVH (loadV 1 false t25_11 M) ⟨fun t26_12 =>
  @OptVH (convV .u64 t26_12) ⟨fun t27_13 =>
  @OptVH (binV .sub .none t21_7 t27_13) ⟨fun t28_14 =>
  @OptVH (binV .add .none v5 t28_14) ⟨fun t29_15 =>
  Q .normal [(4, v4), (5, t29_15), (6, v6)] M⟩⟩⟩⟩⟩⟩⟩⟩⟩⟩
theorem e23_11 (P : Program) (Q : Exit → Slots → Mem → Prop) (s : Slots) (M : Mem) : wpC P c23_11 Q s M = w23_11 P Q M (sget s 4) (sget s 5) (sget s 6) := by kernel_rfl
def c23_12 : ACode := (.block 1 c23_11)
def o23_13 : List AOper := [⟨some 13, (.mov (.tmp 6)), false, none⟩,
  ⟨some 14, (.bin .add .none (.tmp 13) (.const (.int .i64 1))), false, none⟩,
  ⟨some 6, (.mov (.tmp 14)), false, none⟩]
def c23_14 : ACode := (.region o23_13 [4, 5, 6])
def w23_14 (_P : Program) (Q : Exit → Slots → Mem → Prop) (M : Mem) (v4 : V) (v5 : V) (v6 : V) : Prop :=
  @OptVH (binV .add .none v6 (.int .i64 1)) ⟨fun t14_2 =>
  Q .normal [(4, v4), (5, v5), (6, t14_2)] M⟩
theorem e23_14 (P : Program) (Q : Exit → Slots → Mem → Prop) (s : Slots) (M : Mem) : wpC P c23_14 Q s M = w23_14 P Q M (sget s 4) (sget s 5) (sget s 6) := by kernel_rfl
def c23_15 : ACode := (.seq c23_12 c23_14)
def c23_16 : ACode := (.seq c23_9 c23_15)
def c23_17 : ACode := (.loop [4, 5, 6] c23_16)
def c23_18 : ACode := (.block 0 c23_17)
def c23_19 : ACode := (.seq c23_7 c23_18)
def o23_20 : List AOper := [⟨some 2, (.mov (.const (.int .i64 0))), false, none⟩,
  ⟨some 3, (.mov (.const (.bool false))), true, none⟩]
def c23_21 : ACode := (.region o23_20 [2, 3])
def w23_21 (_P : Program) (Q : Exit → Slots → Mem → Prop) (M : Mem) : Prop :=
  Q .normal [(2, (.int .i64 0)), (3, (.bool false))] M
theorem e23_21 (P : Program) (Q : Exit → Slots → Mem → Prop) (s : Slots) (M : Mem) : wpC P c23_21 Q s M = w23_21 P Q M := by kernel_rfl
def c23_22 : ACode := (.seq c23_21 .ret)
def o23_23 : List AOper := [⟨some 30, (.mov (.tmp 5)), false, none⟩,
  ⟨some 31, (.bin .gtr .none (.tmp 30) (.const (.int .u64 9223372036854775807))), true, none⟩]
def c23_24 : ACode := (.seq (.region o23_23 [5, 31]) (.cond (.tmp 31) c23_22 .skip))
def w23_24 (P : Program) (Q : Exit → Slots → Mem → Prop) (M : Mem) (v5 : V) : Prop :=
  @OptBH (binV .gtr .none v5 (.int .u64 9223372036854775807)) ⟨fun b31_2 =>
  @BIfH b31_2
  ⟨wpC P c23_22 Q [(5, v5), (31, (.bool b31_2))] M⟩
  ⟨Q .normal [(5, v5), (31, (.bool b31_2))] M⟩⟩
theorem e23_24 (P : Program) (Q : Exit → Slots → Mem → Prop) (s : Slots) (M : Mem) : wpC P c23_24 Q s M = w23_24 P Q M (sget s 5) := by kernel_rfl
def o23_25 : List AOper := [⟨some 32, (.mov (.tmp 5)), false, none⟩,
  ⟨some 33, (.conv .i64 (.tmp 32)), false, none⟩,
  ⟨some 2, (.mov (.tmp 33)), false, none⟩,
  ⟨some 3, (.mov (.const (.bool true))), true, none⟩]
def c23_26 : ACode := (.region o23_25 [2, 3])
def w23_26 (_P : Program) (Q : Exit → Slots → Mem → Prop) (M : Mem) (v5 : V) : Prop :=
  @OptVH (convV .i64 v5) ⟨fun t33_2 =>
  Q .normal [(2, t33_2), (3, (.bool true))] M⟩
theorem e23_26 (P : Program) (Q : Exit → Slots → Mem → Prop) (s : Slots) (M : Mem) : wpC P c23_26 Q s M = w23_26 P Q M (sget s 5) := by kernel_rfl
def c23_27 : ACode := (.seq c23_26 .ret)
def c23_28 : ACode := (.seq c23_24 c23_27)
def c23_29 : ACode := (.seq c23_19 c23_28)
def c23_30 : ACode := (.seq c23_5 c23_29)
def c23_31 : ACode := (.seq c23_3 c23_30)
def c23_32 : ACode := (.seq c23_1 c23_31)
def fn_transitref08_Length : AFn := ⟨34, [(.tmp 2), (.tmp 3)], c23_32⟩
theorem fn_transitref08_Length_ok : resFn PR h_transitref08_Length i_transitref08_Length = some fn_transitref08_Length := by kernel_rfl

def h_interval_Gaps : Hints := ⟨[(0, [0, 3]), (1, [4])], [], []⟩
def o24_0 : List AOper := [⟨some 3, (.box 2 (.tmp 1)), false, none⟩,
  ⟨some 4, (.mov (.const (.slice [] .nil))), false, none⟩]
def c24_1 : ACode := (.region o24_0 [0, 3])
def w24_1 (_P : Program) (Q : Exit → Slots → Mem → Prop) (M : Mem) (v0 : V) (v1 : V) : Prop :=
  @OptMH (boxV 2 v1 M) ⟨fun t3_1 M1 =>
  Q .normal [(0, v0), (3, t3_1)] M1⟩
theorem e24_1 (P : Program) (Q : Exit → Slots → Mem → Prop) (s : Slots) (M : Mem) : wpC P c24_1 Q s M = w24_1 P Q M (sget s 0) (sget s 1) := by kernel_rfl
def o24_2 : List AOper := [⟨some 5, (.load 2 true (.tmp 3)), false, none⟩,
  ⟨some 6, (.buildSlice [(.int .i64 0), (.int .i64 0)] 2 1 [(0, (2, (.tmp 5)))]), false, none⟩,
  ⟨some 7, (.mov (.tmp 0)), false, none⟩,
  ⟨some 8, (.call i_interval_Subtract [(.tmp 6), (.tmp 7)]), false, none⟩,
  ⟨some 4, (.mov (.tmp 8)), false, none⟩]
def c24_3 : ACode := (.region o24_2 [4])
def w24_3 (P : Program) (Q : Exit → Slots → Mem → Prop) (M : Mem) (v0 : V) (v3 : V) : Prop :=
  @OptVH (loadV 2 true v3 M) ⟨fun t5_1 =>
  @OptVH (buildSliceV [(.int .i64 0), (.int .i64 0)] 2 1 [(0, 2, t5_1)]) ⟨fun t6_2 =>
  @CallH P i_interval_Subtract [t6_2, v0] M ⟨fun t8_4 M4 =>
  Q .normal [(4, t8_4)] M4⟩⟩⟩
theorem e24_3 (P : Program) (Q : Exit → Slots → Mem → Prop) (s : Slots) (M : Mem) : wpC P c24_3 Q s M = w24_3 P Q M (sget s 0) (sget s 3) := by kernel_rfl
def c24_4 : ACode := (.seq c24_3 .ret)
def c24_5 : ACode := (.seq c24_1 c24_4)
def fn_interval_Gaps : AFn := ⟨9, [(.tmp 4)], c24_5⟩
theorem fn_interval_Gaps_ok : resFn PR h_interval_Gaps i_interval_Gaps = some fn_interval_Gaps := by kernel_rfl

def h_transitlaw08_normal : Hints := ⟨[(0, [0]), (1, [0, 3]), (2, [0, 3, 7]), (3, [0, 3]), (4, [0, 3, 38]), (5, [2]), (6, [2])], [(2, [0, 3])], []⟩
def o25_0 : List AOper := [⟨some 2, (.mov (.const (.bool false))), true, none⟩]
def c25_1 : ACode := (.region o25_0 [0])
def w25_1 (_P : Program) (Q : Exit → Slots → Mem → Prop) (M : Mem) (v0 : V) : Prop :=
  Q .normal [(0, v0)] M
theorem e25_1 (P : Program) (Q : Exit → Slots → Mem → Prop) (s : Slots) (M : Mem) : wpC P c25_1 Q s M = w25_1 P Q M (sget s 0) := by kernel_rfl
def o25_2 : List AOper := [⟨some 3, (.mov (.const (.int .i64 0))), false, none⟩]
def c25_3 : ACode := (.region o25_2 [0, 3])
def w25_3 (_P : Program) (Q : Exit → Slots → Mem → Prop) (M : Mem) (v0 : V) : Prop :=
  Q .normal [(0, v0), (3, (.int .i64 0))] M
theorem e25_3 (P : Program) (Q : Exit → Slots → Mem → Prop) (s : Slots) (M : Mem) : wpC P c25_3 Q s M = w25_3 P Q M (sget s 0) := by kernel_rfl
def o25_4 : List AOper := [⟨some 4, (.mov (.tmp 3)), false, none⟩,
  ⟨some 5, (.mov (.tmp 0)), false, none⟩,
  ⟨some 6, (.lenSl (.tmp 5)), false, none⟩,
  ⟨some 7, (.bin .lss .none (.tmp 4) (.tmp 6)), true, none⟩]
def c25_5 : ACode := (.seq (.region o25_4 [0, 3, 7]) (.cond (.tmp 7) .skip (.exit 0)))
def w25_5 (_P : Program) (Q : Exit → Slots → Mem → Prop) (M : Mem) (v0 : V) (v3 : V) : Prop :=
  @OptVH (lenV v0 M) ⟨fun t6_3 =>
  @OptBH (binV .lss .none v3 t6_3) ⟨fun b7_4 =>
  @BIfH b7_4
  ⟨Q .normal [(0, v0), (3, v3), (7, (.bool b7_4))] M⟩
  ⟨Q (.exit 0) [(0, v0), (3, v3), (7, (.bool b7_4))] M⟩⟩⟩
theorem e25_5 (P : Program) (Q : Exit → Slots → Mem → Prop) (s : Slots) (M : Mem) : wpC P c25_5 Q s M = w25_5 P Q M (sget s 0) (sget s 3) := by kernel_rfl
def o25_6 : List AOper := [⟨some 2, (.mov (.const (.bool false))), true, none⟩]
def c25_7 : ACode := (.region o25_6 [2])
def w25_7 (_P : Program) (Q : Exit → Slots → Mem → Prop) (M : Mem) : Prop :=
  Q .normal [(2, (.bool false))] M
theorem e25_7 (P : Program) (Q : Exit → Slots → Mem → Prop) (s : Slots) (M : Mem) : wpC P c25_7 Q s M = w25_7 P Q M := by kernel_rfl
def c25_8 : ACode := (.seq c25_7 .ret)
def o25_9 : List AOper := [⟨some 10, (.mov (.tmp 0)), false, none⟩,
  ⟨some 11, (.mov (.tmp 3)), false, none⟩,
  ⟨some 12, (.indexSl 2 (.tmp 10) (.tmp 11)), false, none⟩,
  ⟨some 13, (.fieldAddr 0 (.tmp 12)), false, none⟩,
  ⟨some 14, (.load 1 false (.tmp 13)), false, none⟩,
  ⟨some 15, (.mov (.tmp 0)), false, none⟩,
  ⟨some 16, (.mov (.tmp 3)), false, none⟩,
  ⟨some 17, (.indexSl 2 (.tmp 15) (.tmp 16)), false, none⟩,
  ⟨some 18, (.fieldAddr 1 (.tmp 17)), false, none⟩,
  ⟨some 19, (.load 1 false (.tmp 18)), false, none⟩,
  ⟨some 20, (.bin .geq .none (.tmp 14) (.tmp 19)), true, none⟩,
  ⟨some 21, (.mov (.tmp 20)), true, none⟩,
  ⟨some 22, (.mov (.tmp 3)), false, some (21, false)⟩,
  ⟨some 23, (.bin .gtr .none (.tmp 22) (.const (.int .i64 0))), true, some (21, false)⟩,
  ⟨some 24, (.mov (.tmp 23)), true, some (21, false)⟩,
  ⟨some 25, (.mov (.tmp 0)), false, some (24, true)⟩,
  ⟨some 26, (.mov (.tmp 3)), false, some (24, true)⟩,
  ⟨some 27, (.indexSl 2 (.tmp 25) (.tmp 26)), false, some (24, true)⟩,
  ⟨some 28, (.fieldAddr 0 (.tmp 27)), false, some (24, true)⟩,
  ⟨some 29, (.load 1 false (.tmp 28)), false, some (24, true)⟩,
  ⟨some 30, (.mov (.tmp 0)), false, some (24, true)⟩,
  ⟨some 31, (.mov (.tmp 3)), false, some (24, true)⟩,
  ⟨some 32, (.bin .sub .none (.tmp 31) (.const (.int .i64 1))), false, some (24, true)⟩,
  ⟨some 33, (.indexSl 2 (.tmp 30) (.tmp 32)), false, some (24, true)⟩,
  ⟨some 34, (.fieldAddr 1 (.tmp 33)), false, some (24, true)⟩,
  ⟨some 35, (.load 1 false (.tmp 34)), false, some (24, true)⟩,
  ⟨some 36, (.bin .leq .none (.tmp 29) (.tmp 35)), true, some (24, true)⟩,
  ⟨some 37, (.pick (.tmp 24) (.tmp 36) (.const (.bool false))), true, some (21, false)⟩,
  ⟨some 38, (.pick (.tmp 21) (.const (.bool true)) (.tmp 37)), true, none⟩]
def c25_10 : ACode := (.seq (.mixed o25_9 [true, true, true, true, true, true, true, true, true, true, true, true, true, true, true, true, true, true, true, true, true, true, true, true, true, true, true, true, true] [0, 3, 38]) (.cond (.tmp 38) c25_8 .skip))
def w25_10 (P : Program) (Q : Exit → Slots → Mem → Prop) (M : Mem) (v0 : V) (v3 : V) : Prop :=
  @OptVH (indexSlV 2 v0 v3 M) ⟨fun t12_3 =>
  @OptVH (moveV 0 t12_3) ⟨fun t13_4 =>
  @OptVH (loadV 1 false t13_4 M) ⟨fun t14_5 =>
  @OptVH (indexSlV 2 v0 v3 M) ⟨fun t17_8 =>
  @OptVH (moveV 1 t17_8) ⟨fun t18_9 =>
  @OptVH (loadV 1 false t18_9 M) ⟨fun t19_10 =>
  @OptBH (binV .geq .none t14_5 t19_10) ⟨fun b20_11 =>
  @BIfH b20_11
  ⟨wpC P c25_8 Q [(0, v0), (3, v3), (38, (.bool true))] M⟩
  ⟨@OptBH (binV .gtr .none v3 (.int .i64 0)) ⟨fun b23_15 =>
  @BIfH b23_15
  ⟨@OptVH (indexSlV 2 v0 v3 M) ⟨fun t27_19 =>
  @OptVH (moveV 0 t27_19) ⟨fun t28_20 =>
  @OptVH (loadV 1 false t28_20 M) ⟨fun t29_21 =>
  @OptVH (binV .sub .none v3 (.int .i64 1)) ⟨fun t32_24 =>
  @OptVH (indexSlV 2 v0 t32_24 M) ⟨fun t33_25 =>
  @OptVH (moveV 1 t33_25) ⟨fun t34_26 =>
  @OptVH (loadV 1 false t34_26 M) ⟨fun t35_27 =>
  @OptBH (binV .leq .none t29_21 t35_27) ⟨fun b36_28 =>
  @BIfH b36_28
  ⟨wpC P c25_8 Q [(0, v0), (3, v3), (38, (.bool b36_28))] M⟩
  ⟨Q .normal [(0, v0), (3, v3), (38, (.bool b36_28))] M⟩⟩⟩⟩⟩⟩⟩⟩⟩⟩
  ⟨Q .normal [(0, v0), (3, v3), (38, (.bool false))] M⟩⟩⟩⟩⟩⟩⟩⟩⟩⟩
theorem e25_10 (P : Program) (Q : Exit → Slots → Mem → Prop) (s : Slots) (M : Mem) : wpC P c25_10 Q s M = w25_10 P Q M (sget s 0) (sget s 3) := by kernel_rfl
def c25_11 : ACode := (.block 1 c25_10)
def o25_12 : List AOper := [⟨some 8, (.mov (.tmp 3)), false, none⟩,
  ⟨some 9, (.bin .add .none (.tmp 8) (.const (.int .i64 1))), false, none⟩,
  ⟨some 3, (.mov (.tmp 9)), false, none⟩]
def c25_13 : ACode := (.region o25_12 [0, 3])
def w25_13 (_P : Program) (Q : Exit → Slots → Mem → Prop) (M : Mem) (v0 : V) (v3 : V) : Prop :=
  @OptVH (binV .add .none v3 (.int .i64 1)) ⟨fun t9_2 =>
  Q .normal [(0, v0), (3, t9_2)] M⟩
theorem e25_13 (P : Program) (Q : Exit → Slots → Mem → Prop) (s : Slots) (M : Mem) : wpC P c25_13 Q s M = w25_13 P Q M (sget s 0) (sget s 3) := by kernel_rfl
def c25_14 : ACode := (.seq c25_11 c25_13)
def c25_15 : ACode := (.seq c25_5 c25_14)
def c25_16 : ACode := (.loop [0, 3] c25_15)
def c25_17 : ACode := (.block 0 c25_16)
def c25_18 : ACode := (.seq c25_3 c25_17)
def o25_19 : List AOper := [⟨some 2, (.mov (.const (.bool true))), true, none⟩]
def c25_20 : ACode := (.region o25_19 [2])
def w25_20 (_P : Program) (Q : Exit → Slots → Mem → Prop) (M : Mem) : Prop :=
  Q .normal [(2, (.bool true))] M
theorem e25_20 (P : Program) (Q : Exit → Slots → Mem → Prop) (s : Slots) (M : Mem) : wpC P c25_20 Q s M = w25_20 P Q M := by kernel_rfl
def c25_21 : ACode := (.seq c25_20 .ret)
def c25_22 : ACode := (.seq c25_18 c25_21)
def c25_23 : ACode := (.seq c25_1 c25_22)
def fn_transitlaw08_normal : AFn := ⟨39, [(.tmp 2)], c25_23⟩
theorem fn_transitlaw08_normal_ok : resFn PR h_transitlaw08_normal i_transitlaw08_normal = some fn_transitlaw08_normal := by kernel_rfl

def h_transitlaw08_same : Hints := ⟨[(0, [0, 1]), (1, [0, 1, 10]), (2, [4]), (3, [0, 1, 5]), (4, [0, 1, 5, 14]), (5, [0, 1, 5]), (6, [0, 1, 5, 25]), (7, [4]), (8, [4])], [(4, [0, 1, 5])], []⟩
def o26_0 : List AOper := [⟨some 4, (.mov (.const (.bool false))), true, none⟩]
def c26_1 : ACode := (.region o26_0 [0, 1])
def w26_1 (_P : Program) (Q : Exit → Slots → Mem → Prop) (M : Mem) (v0 : V) (v1 : V) : Prop :=
  Q .normal [(0, v0), (1, v1)] M
theorem e26_1 (P : Program) (Q : Exit → Slots → Mem → Prop) (s : Slots) (M : Mem) : wpC P c26_1 Q s M = w26_1 P Q M (sget s 0) (sget s 1) := by kernel_rfl
def o26_2 : List AOper := [⟨some 4, (.mov (.const (.bool false))), true, none⟩]
def c26_3 : ACode := (.region o26_2 [4])
def w26_3 (_P : Program) (Q : Exit → Slots → Mem → Prop) (M : Mem) : Prop :=
  Q .normal [(4, (.bool false))] M
theorem e26_3 (P : Program) (Q : Exit → Slots → Mem → Prop) (s : Slots) (M : Mem) : wpC P c26_3 Q s M = w26_3 P Q M := by kernel_rfl
def c26_4 : ACode := (.seq c26_3 .ret)
def o26_5 : List AOper := [⟨some 6, (.mov (.tmp 0)), false, none⟩,
  ⟨some 7, (.lenSl (.tmp 6)), false, none⟩,
  ⟨some 8, (.mov (.tmp 1)), false, none⟩,
  ⟨some 9, (.lenSl (.tmp 8)), false, none⟩,
  ⟨some 10, (.bin .neq .none (.tmp 7) (.tmp 9)), true, none⟩]
def c26_6 : ACode := (.seq (.region o26_5 [0, 1, 10]) (.cond (.tmp 10) c26_4 .skip))
def w26_6 (P : Program) (Q : Exit → Slots → Mem → Prop) (M : Mem) (v0 : V) (v1 : V) : Prop :=
  @OptVH (lenV v0 M) ⟨fun t7_2 =>
  @OptVH (lenV v1 M) ⟨fun t9_4 =>
  @OptBH (binV .neq .none t7_2 t9_4) ⟨fun b10_5 =>
  @BIfH b10_5
  ⟨wpC P c26_4 Q [(0, v0), (1, v1), (10, (.bool b10_5))] M⟩
  ⟨Q .normal [(0, v0), (1, v1), (10, (.bool b10_5))] M⟩⟩⟩⟩
theorem e26_6 (P : Program) (Q : Exit → Slots → Mem → Prop) (s : Slots) (M : Mem) : wpC P c26_6 Q s M = w26_6 P Q M (sget s 0) (sget s 1) := by kernel_rfl
def o26_7 : List AOper := [⟨some 5, (.mov (.const (.int .i64 0))), false, none⟩]
def c26_8 : ACode := (.region o26_7 [0, 1, 5])
def w26_8 (_P : Program) (Q : Exit → Slots → Mem → Prop) (M : Mem) (v0 : V) (v1 : V) : Prop :=
  Q .normal [(0, v0), (1, v1), (5, (.int .i64 0))] M
theorem e26_8 (P : Program) (Q : Exit → Slots → Mem → Prop) (s : Slots) (M : Mem) : wpC P c26_8 Q s M = w26_8 P Q M (sget s 0) (sget s 1) := by kernel_rfl
def o26_9 : List AOper := [⟨some 11, (.mov (.tmp 5)), false, none⟩,
  ⟨some 12, (.mov (.tmp 0)), false, none⟩,
  ⟨some 13, (.lenSl (.tmp 12)), false, none⟩,
  ⟨some 14, (.bin .lss .none (.tmp 11) (.tmp 13)), true, none⟩]
def c26_10 : ACode := (.seq (.region o26_9 [0, 1, 5, 14]) (.cond (.tmp 14) .skip (.exit 0)))
def w26_10 (_P : Program) (Q : Exit → Slots → Mem → Prop) (M : Mem) (v0 : V) (v1 : V) (v5 : V) : Prop :=
  @OptVH (lenV v0 M) ⟨fun t13_3 =>
  @OptBH (binV .lss .none v5 t13_3) ⟨fun b14_4 =>
  @BIfH b14_4
  ⟨Q .normal [(0, v0), (1, v1), (5, v5), (14, (.bool b14_4))] M⟩
  ⟨Q (.exit 0) [(0, v0), (1, v1), (5, v5), (14, (.bool b14_4))] M⟩⟩⟩
theorem e26_10 (P : Program) (Q : Exit → Slots → Mem → Prop) (s : Slots) (M : Mem) : wpC P c26_10 Q s M = w26_10 P Q M (sget s 0) (sget s 1) (sget s 5) := by kernel_rfl
def o26_11 : List AOper := [⟨some 4, (.mov (.const (.bool false))), true, none⟩]
def c26_12 : ACode := (.region o26_11 [4])
def w26_12 (_P : Program) (Q : Exit → Slots → Mem → Prop) (M : Mem) : Prop :=
  Q .normal [(4, (.bool false))] M
theorem e26_12 (P : Program) (Q : Exit → Slots → Mem → Prop) (s : Slots) (M : Mem) : wpC P c26_12 Q s M = w26_12 P Q M := by kernel_rfl
def c26_13 : ACode := (.seq c26_12 .ret)
def o26_14 : List AOper := [⟨some 17, (.mov (.tmp 0)), false, none⟩,
  ⟨some 18, (.mov (.tmp 5)), false, none⟩,
  ⟨some 19, (.indexSl 2 (.tmp 17) (.tmp 18)), false, none⟩,
  ⟨some 20, (.load 2 true (.tmp 19)), false, none⟩,
  ⟨some 21, (.mov (.tmp 1)), false, none⟩,
  ⟨some 22, (.mov (.tmp 5)), false, none⟩,
  ⟨some 23, (.indexSl 2 (.tmp 21) (.tmp 22)), false, none⟩,
  ⟨some 24, (.load 2 true (.tmp 23)), false, none⟩,
  ⟨some 25, (.bin .neq (.cells [.int, .int]) (.tmp 20) (.tmp 24)), true, none⟩]
def c26_15 : ACode := (.seq (.mixed o26_14 [true, true, true, true, true, true, true, true, true] [0, 1, 5, 25]) (.cond (.tmp 25) c26_13 .skip))
def w26_15 (P : Program) (Q : Exit → Slots → Mem → Prop) (M : Mem) (v0 : V) (v1 : V) (v5 : V) : Prop :=
  @OptVH (indexSlV 2 v0 v5 M) ⟨fun t19_3 =>
  @OptVH (loadV 2 true t19_3 M) ⟨fun t20_4 =>
  @OptVH (indexSlV 2 v1 v5 M) ⟨fun t23_7 =>
  @OptVH (loadV 2 true t23_7 M) ⟨fun t24_8 =>
  @OptBH (binV .neq (.cells [.int, .int]) t20_4 t24_8) ⟨fun b25_9 =>
  @BIfH b25_9
  ⟨wpC P c26_13 Q [(0, v0), (1, v1), (5, v5), (25, (.bool b25_9))] M⟩
  ⟨Q .normal [(0, v0), (1, v1), (5, v5), (25, (.bool b25_9))] M⟩⟩⟩⟩⟩⟩
theorem e26_15 (P : Program) (Q : Exit → Slots → Mem → Prop) (s : Slots) (M : Mem) : wpC P c26_15 Q s M = w26_15 P Q M (sget s 0) (sget s 1) (sget s 5) := by kernel_rfl
def c26_16 : ACode := (.block 1 c26_15)
def o26_17 : List AOper := [⟨some 15, (.mov (.tmp 5)), false, none⟩,
  ⟨some 16, (.bin .add .none (.tmp 15) (.const (.int .i64 1))), false, none⟩,
  ⟨some 5, (.mov (.tmp 16)), false, none⟩]
def c26_18 : ACode := (.region o26_17 [0, 1, 5])
def w26_18 (_P : Program) (Q : Exit → Slots → Mem → Prop) (M : Mem) (v0 : V) (v1 : V) (v5 : V) : Prop :=
  @OptVH (binV .add .none v5 (.int .i64 1)) ⟨fun t16_2 =>
  Q .normal [(0, v0), (1, v1), (5, t16_2)] M⟩
theorem e26_18 (P : Program) (Q : Exit → Slots → Mem → Prop) (s : Slots) (M : Mem) : wpC P c26_18 Q s M = w26_18 P Q M (sget s 0) (sget s 1) (sget s 5) := by kernel_rfl
def c26_19 : ACode := (.seq c26_16 c26_18)
def c26_20 : ACode := (.seq c26_10 c26_19)
def c26_21 : ACode := (.loop [0, 1, 5] c26_20)
def c26_22 : ACode := (.block 0 c26_21)
def c26_23 : ACode := (.seq c26_8 c26_22)
def o26_24 : List AOper := [⟨some 4, (.mov (.const (.bool true))), true, none⟩]
def c26_25 : ACode := (.region o26_24 [4])
def w26_25 (_P : Program) (Q : Exit → Slots → Mem → Prop) (M : Mem) : Prop :=
  Q .normal [(4, (.bool true))] M
theorem e26_25 (P : Program) (Q : Exit → Slots → Mem → Prop) (s : Slots) (M : Mem) : wpC P c26_25 Q s M = w26_25 P Q M := by kernel_rfl
def c26_26 : ACode := (.seq c26_25 .ret)
def c26_27 : ACode := (.seq c26_23 c26_26)
def c26_28 : ACode := (.seq c26_6 c26_27)
def c26_29 : ACode := (.seq c26_1 c26_28)
def fn_transitlaw08_same : AFn := ⟨26, [(.tmp 4)], c26_29⟩
theorem fn_transitlaw08_same_ok : resFn PR h_transitlaw08_same i_transitlaw08_same = some fn_transitlaw08_same := by kernel_rfl

def h_transitlaw08_bounded : Hints := ⟨[(0, [0]), (1, [0, 3]), (2, [0, 3, 7]), (3, [0, 3]), (4, [0, 3, 39]), (5, [2]), (6, [2])], [(2, [0, 3])], []⟩
def o27_0 : List AOper := [⟨some 2, (.mov (.const (.bool false))), true, none⟩]
def c27_1 : ACode := (.region o27_0 [0])
def w27_1 (_P : Program) (Q : Exit → Slots → Mem → Prop) (M : Mem) (v0 : V) : Prop :=
  Q .normal [(0, v0)] M
theorem e27_1 (P : Program) (Q : Exit → Slots → Mem → Prop) (s : Slots) (M : Mem) : wpC P c27_1 Q s M = w27_1 P Q M (sget s 0) := by kernel_rfl
def o27_2 : List AOper := [⟨some 3, (.mov (.const (.int .i64 0))), false, none⟩]
def c27_3 : ACode := (.region o27_2 [0, 3])
def w27_3 (_P : Program) (Q : Exit → Slots → Mem → Prop) (M : Mem) (v0 : V) : Prop :=
  Q .normal [(0, v0), (3, (.int .i64 0))] M
theorem e27_3 (P : Program) (Q : Exit → Slots → Mem → Prop) (s : Slots) (M : Mem) : wpC P c27_3 Q s M = w27_3 P Q M (sget s 0) := by kernel_rfl
def o27_4 : List AOper := [⟨some 4, (.mov (.tmp 3)), false, none⟩,
  ⟨some 5, (.mov (.tmp 0)), false, none⟩,
  ⟨some 6, (.lenSl (.tmp 5)), false, none⟩,
  ⟨some 7, (.bin .lss .none (.tmp 4) (.tmp 6)), true, none⟩]
def c27_5 : ACode := (.seq (.region o27_4 [0, 3, 7]) (.cond (.tmp 7) .skip (.exit 0)))
def w27_5 (_P : Program) (Q : Exit → Slots → Mem → Prop) (M : Mem) (v0 : V) (v3 : V) : Prop :=
  @OptVH (lenV v0 M) ⟨fun t6_3 =>
  @OptBH (binV .lss .none v3 t6_3) ⟨fun b7_4 =>
  @BIfH b7_4
  ⟨Q .normal [(0, v0), (3, v3), (7, (.bool b7_4))] M⟩
  ⟨Q (.exit 0) [(0, v0), (3, v3), (7, (.bool b7_4))] M⟩⟩⟩
theorem e27_5 (P : Program) (Q : Exit → Slots → Mem → Prop) (s : Slots) (M : Mem) : wpC P c27_5 Q s M = w27_5 P Q M (sget s 0) (sget s 3) := by kernel_rfl
def o27_6 : List AOper := [⟨some 2, (.mov (.const (.bool false))), true, none⟩]
def c27_7 : ACode := (.region o27_6 [2])
def w27_7 (_P : Program) (Q : Exit → Slots → Mem → Prop) (M : Mem) : Prop :=
  Q .normal [(2, (.bool false))] M
theorem e27_7 (P : Program) (Q : Exit → Slots → Mem → Prop) (s : Slots) (M : Mem) : wpC P c27_7 Q s M = w27_7 P Q M := by kernel_rfl
def c27_8 : ACode := (.seq c27_7 .ret)
def o27_9 : List AOper := [⟨some 10, (.mov (.tmp 0)), false, none⟩,
  ⟨some 11, (.mov (.tmp 3)), false, none⟩,
  ⟨some 12, (.indexSl 2 (.tmp 10) (.tmp 11)), false, none⟩,
  ⟨some 13, (.fieldAddr 0 (.tmp 12)), false, none⟩,
  ⟨some 14, (.load 1 false (.tmp 13)), false, none⟩,
  ⟨some 15, (.bin .lss .none (.tmp 14) (.const (.int .i64 (-1099511627776)))), true, none⟩,
  ⟨some 16, (.mov (.tmp 15)), true, none⟩,
  ⟨some 17, (.mov (.tmp 0)), false, some (16, false)⟩,
  ⟨some 18, (.mov (.tmp 3)), false, some (16, false)⟩,
  ⟨some 19, (.indexSl 2 (.tmp 17) (.tmp 18)), false, some (16, false)⟩,
  ⟨some 20, (.fieldAddr 0 (.tmp 19)), false, some (16, false)⟩,
  ⟨some 21, (.load 1 false (.tmp 20)), false, some (16, false)⟩,
  ⟨some 22, (.bin .gtr .none (.tmp 21) (.const (.int .i64 1099511627776))), true, some (16, false)⟩,
  ⟨some 23, (.pick (.tmp 16) (.const (.bool true)) (.tmp 22)), true, none⟩,
  ⟨some 24, (.mov (.tmp 23)), true, none⟩,
  ⟨some 25, (.mov (.tmp 0)), false, some (24, false)⟩,
  ⟨some 26, (.mov (.tmp 3)), false, some (24, false)⟩,
  ⟨some 27, (.indexSl 2 (.tmp 25) (.tmp 26)), false, some (24, false)⟩,
  ⟨some 28, (.fieldAddr 1 (.tmp 27)), false, some (24, false)⟩,
  ⟨some 29, (.load 1 false (.tmp 28)), false, some (24, false)⟩,
  ⟨some 30, (.bin .lss .none (.tmp 29) (.const (.int .i64 (-1099511627776)))), true, some (24, false)⟩,
  ⟨some 31, (.pick (.tmp 24) (.const (.bool true)) (.tmp 30)), true, none⟩,
  ⟨some 32, (.mov (.tmp 31)), true, none⟩,
  ⟨some 33, (.mov (.tmp 0)), false, some (32, false)⟩,
  ⟨some 34, (.mov (.tmp 3)), false, some (32, false)⟩,
  ⟨some 35, (.indexSl 2 (.tmp 33) (.tmp 34)), false, some (32, false)⟩,
  ⟨some 36, (.fieldAddr 1 (.tmp 35)), false, some (32, false)⟩,
  ⟨some 37, (.load 1 false (.tmp 36)), false, some (32, false)⟩,
  ⟨some 38, (.bin .gtr .none (.tmp 37) (.const (.int .i64 1099511627776))), true, some (32, false)⟩,
  ⟨some 39, (.pick (.tmp 32) (.const (.bool true)) (.tmp 38)), true, none⟩]
def c27_10 : ACode := (.seq (.region o27_9 [0, 3, 39]) (.cond (.tmp 39) c27_8 .skip))
def w27_10 (P : Program) (Q : Exit → Slots → Mem → Prop) (M : Mem) (v0 : V) (v3 : V) : Prop :=
  @OptVH (indexSlV 2 v0 v3 M) ⟨fun t12_3 =>
  @OptVH (moveV 0 t12_3) ⟨fun t13_4 =>
  @OptVH (loadV 1 false t13_4 M) ⟨fun t14_5 =>
  @OptBH (binV .lss .none t14_5 (.int .i64 (-1099511627776))) ⟨fun b15_6 =>
  @BIfH b15_6
  ⟨wpC P c27_8 Q [(0, v0), (3, v3), (39, (.bool true))] M⟩
  ⟨@OptVH (indexSlV 2 v0 v3 M) ⟨fun t19_15 =>
  @OptVH (moveV 0 t19_15) ⟨fun t20_16 =>
  @OptVH (loadV 1 false t20_16 M) ⟨fun t21_17 =>
  @OptBH (binV .gtr .none t21_17 (.int .i64 1099511627776)) ⟨fun b22_18 =>
  @BIfH b22_18
  ⟨wpC P c27_8 Q [(0, v0), (3, v3), (39, (.bool true))] M⟩
  ⟨@OptVH (indexSlV 2 v0 v3 M) ⟨fun t27_26 =>
  @OptVH (moveV 1 t27_26) ⟨fun t28_27 =>
  @OptVH (loadV 1 false t28_27 M) ⟨fun t29_28 =>
  @OptBH (binV .lss .none t29_28 (.int .i64 (-1099511627776))) ⟨fun b30_29 =>
  @BIfH b30_29
  ⟨wpC P c27_8 Q [(0, v0), (3, v3), (39, (.bool true))] M⟩
  ⟨@OptVH (indexSlV 2 v0 v3 M) ⟨fun t35_35 =>
  @OptVH (moveV 1 t35_35) ⟨fun t36_36 =>
  @OptVH (loadV 1 false t36_36 M) ⟨fun t37_37 =>
  @OptBH (binV .gtr .none t37_37 (.int .i64 1099511627776)) ⟨fun b38_38 =>
  @BIfH b38_38
  ⟨wpC P c27_8 Q [(0, v0), (3, v3), (39, (.bool b38_38))] M⟩
  ⟨Q .normal [(0, v0), (3, v3), (39, (.bool b38_38))] M⟩⟩⟩⟩⟩⟩⟩⟩⟩⟩⟩⟩⟩⟩⟩⟩⟩⟩⟩⟩
theorem e27_10 (P : Program) (Q : Exit → Slots → Mem → Prop) (s : Slots) (M : Mem) : wpC P c27_10 Q s M = w27_10 P Q M (sget s 0) (sget s 3) := by kernel_rfl
def c27_11 : ACode := (.block 1 c27_10)
def o27_12 : List AOper := [⟨some 8, (.mov (.tmp 3)), false, none⟩,
  ⟨some 9, (.bin .add .none (.tmp 8) (.const (.int .i64 1))), false, none⟩,
  ⟨some 3, (.mov (.tmp 9)), false, none⟩]
def c27_13 : ACode := (.region o27_12 [0, 3])
def w27_13 (_P : Program) (Q : Exit → Slots → Mem → Prop) (M : Mem) (v0 : V) (v3 : V) : Prop :=
  @OptVH (binV .add .none v3 (.int .i64 1)) ⟨fun t9_2 =>
  Q .normal [(0, v0), (3, t9_2)] M⟩
theorem e27_13 (P : Program) (Q : Exit → Slots → Mem → Prop) (s : Slots) (M : Mem) : wpC P c27_13 Q s M = w27_13 P Q M (sget s 0) (sget s 3) := by kernel_rfl
def c27_14 : ACode := (.seq c27_11 c27_13)
def c27_15 : ACode := (.seq c27_5 c27_14)
def c27_16 : ACode := (.loop [0, 3] c27_15)
def c27_17 : ACode := (.block 0 c27_16)
def c27_18 : ACode := (.seq c27_3 c27_17)
def o27_19 : List AOper := [⟨some 2, (.mov (.const (.bool true))), true, none⟩]
def c27_20 : ACode := (.region o27_19 [2])
def w27_20 (_P : Program) (Q : Exit → Slots → Mem → Prop) (M : Mem) : Prop :=
  Q .normal [(2, (.bool true))] M
theorem e27_20 (P : Program) (Q : Exit → Slots → Mem → Prop) (s : Slots) (M : Mem) : wpC P c27_20 Q s M = w27_20 P Q M := by kernel_rfl
def c27_21 : ACode := (.seq c27_20 .ret)
def c27_22 : ACode := (.seq c27_18 c27_21)
def c27_23 : ACode := (.seq c27_1 c27_22)
def fn_transitlaw08_bounded : AFn := ⟨40, [(.tmp 2)], c27_23⟩
theorem fn_transitlaw08_bounded_ok : resFn PR h_transitlaw08_bounded i_transitlaw08_bounded = some fn_transitlaw08_bounded := by kernel_rfl

def h_interval_build : Hints := ⟨[(0, [0, 1]), (1, [0, 1, 5]), (2, [0, 1, 5, 6]), (3, [0, 1, 5, 6, 12]), (4, [0, 1, 5, 6]), (5, [0, 1, 5, 6, 21]), (6, [0, 1, 5, 6, 7]), (7, [0, 1, 5, 6, 7, 38]), (8, [0, 1, 5, 6]), (9, [0, 1, 5, 6]), (10, [4])], [(3, [0, 1, 5, 6])], [(1, [0])]⟩
def o28_0 : List AOper := [⟨some 4, (.mov (.const (.slice [] .nil))), false, none⟩]
def c28_1 : ACode := (.region o28_0 [0, 1])
def w28_1 (_P : Program) (Q : Exit → Slots → Mem → Prop) (M : Mem) (v0 : V) (v1 : V) : Prop :=
  Q .normal [(0, v0), (1, v1)] M
theorem e28_1 (P : Program) (Q : Exit → Slots → Mem → Prop) (s : Slots) (M : Mem) : wpC P c28_1 Q s M = w28_1 P Q M (sget s 0) (sget s 1) := by kernel_rfl
def o28_2 : List AOper := [⟨some 5, (.newarr 2), false, none⟩]
def c28_3 : ACode := (.region o28_2 [0, 1, 5])
def w28_3 (_P : Program) (Q : Exit → Slots → Mem → Prop) (M : Mem) (v0 : V) (v1 : V) : Prop :=
  @OptMH (newarrV 2 M) ⟨fun t5_1 M1 =>
  Q .normal [(0, v0), (1, v1), (5, t5_1)] M1⟩
theorem e28_3 (P : Program) (Q : Exit → Slots → Mem → Prop) (s : Slots) (M : Mem) : wpC P c28_3 Q s M = w28_3 P Q M (sget s 0) (sget s 1) := by kernel_rfl
def o28_4 : List AOper := [⟨some 6, (.mov (.const (.int .i64 0))), false, none⟩]
def c28_5 : ACode := (.region o28_4 [0, 1, 5, 6])
def w28_5 (_P : Program) (Q : Exit → Slots → Mem → Prop) (M : Mem) (v0 : V) (v1 : V) (v5 : V) : Prop :=
  Q .normal [(0, v0), (1, v1), (5, v5), (6, (.int .i64 0))] M
theorem e28_5 (P : Program) (Q : Exit → Slots → Mem → Prop) (s : Slots) (M : Mem) : wpC P c28_5 Q s M = w28_5 P Q M (sget s 0) (sget s 1) (sget s 5) := by kernel_rfl
def o28_6 : List AOper := [⟨some 8, (.mov (.tmp 6)), false, none⟩,
  ⟨some 9, (.bin .add .none (.tmp 8) (.const (.int .i64 1))), false, none⟩,
  ⟨some 10, (.mov (.tmp 0)), false, none⟩,
  ⟨some 11, (.lenSl (.tmp 10)), false, none⟩,
  ⟨some 12, (.bin .lss .none (.tmp 9) (.tmp 11)), true, none⟩]
def c28_7 : ACode := (.seq (.region o28_6 [0, 1, 5, 6, 12]) (.cond (.tmp 12) .skip (.exit 0)))
def w28_7 (_P : Program) (Q : Exit → Slots → Mem → Prop) (M : Mem) (v0 : V) (v1 : V) (v5 : V) (v6 : V) : Prop :=
  @OptVH (binV .add .none v6 (.int .i64 1)) ⟨fun t9_2 =>
  @OptVH (lenV v0 M) ⟨fun t11_4 =>
  @OptBH (binV .lss .none t9_2 t11_4) ⟨fun b12_5 =>
  @BIfH b12_5
  ⟨Q .normal [(0, v0), (1, v1), (5, v5), (6, v6), (12, (.bool b12_5))] M⟩
  ⟨Q (.exit 0) [(0, v0), (1, v1), (5, v5), (6, v6), (12, (.bool b12_5))] M⟩⟩⟩⟩
theorem e28_7 (P : Program) (Q : Exit → Slots → Mem → Prop) (s : Slots) (M : Mem) : wpC P c28_7 Q s M = w28_7 P Q M (sget s 0) (sget s 1) (sget s 5) (sget s 6) := by kernel_rfl
def o28_8 : List AOper := [⟨some 15, (.mov (.tmp 1)), false, none⟩,
  ⟨some 16, (.mov (.tmp 0)), false, none⟩,
  ⟨some 17, (.mov (.tmp 6)), false, none⟩,
  ⟨some 18, (.indexSl 1 (.tmp 16) (.tmp 17)), false, none⟩,
  ⟨some 19, (.load 1 false (.tmp 18)), false, none⟩,
  ⟨some 20, (.callv (.tmp 15) [(.tmp 19)]), true, none⟩,
  ⟨some 21, (.un .not (.tmp 20)), true, none⟩]
def c28_9 : ACode := (.seq (.region o28_8 [0, 1, 5, 6, 21]) (.cond (.tmp 21) (.exit 1) .skip))
def w28_9 (P : Program) (Q : Exit → Slots → Mem → Prop) (M : Mem) (v0 : V) (v1 : V) (v5 : V) (v6 : V) : Prop :=
  @OptVH (indexSlV 1 v0 v6 M) ⟨fun t18_4 =>
  @OptVH (loadV 1 false t18_4 M) ⟨fun t19_5 =>
  @CallV P false v1 [t19_5] M ⟨fun t20_6 M6 => @OptBH (some t20_6) ⟨fun b20_6 =>
  @OptBH (unV .not (.bool b20_6)) ⟨fun b21_7 =>
  @BIfH b21_7
  ⟨Q (.exit 1) [(0, v0), (1, v1), (5, v5), (6, v6), (21, (.bool b21_7))] M6⟩
  ⟨Q .normal [(0, v0), (1, v1), (5, v5), (6, v6), (21, (.bool b21_7))] M6⟩⟩⟩⟩⟩⟩
theorem e28_9 (P : Program) (Q : Exit → Slots → Mem → Prop) (s : Slots) (M : Mem) : wpC P c28_9 Q s M = w28_9 P Q M (sget s 0) (sget s 1) (sget s 5) (sget s 6) := by kernel_rfl
def o28_10 : List AOper := [⟨some 22, (.mov (.tmp 5)), false, none⟩,
  ⟨some 23, (.lenSl (.tmp 22)), false, none⟩,
  ⟨some 7, (.mov (.tmp 23)), false, none⟩]
def c28_11 : ACode := (.region o28_10 [0, 1, 5, 6, 7])
def w28_11 (_P : Program) (Q : Exit → Slots → Mem → Prop) (M : Mem) (v0 : V) (v1 : V) (v5 : V) (v6 : V) : Prop :=
  @OptVH (lenV v5 M) ⟨fun t23_2 =>
  Q .normal [(0, v0), (1, v1), (5, v5), (6, v6), (7, t23_2)] M⟩
theorem e28_11 (P : Program) (Q : Exit → Slots → Mem → Prop) (s : Slots) (M : Mem) : wpC P c28_11 Q s M = w28_11 P Q M (sget s 0) (sget s 1) (sget s 5) (sget s 6) := by kernel_rfl
def o28_12 : List AOper := [⟨some 39, (.mov (.tmp 5)), false, none⟩,
  ⟨some 40, (.mov (.tmp 7)), false, none⟩,
  ⟨some 41, (.bin .sub .none (.tmp 40) (.const (.int .i64 1))), false, none⟩,
  ⟨some 42, (.mov (.tmp 0)), false, none⟩,
  ⟨some 43, (.mov (.tmp 6)), false, none⟩,
  ⟨some 44, (.bin .add .none (.tmp 43) (.const (.int .i64 1))), false, none⟩,
  ⟨some 45, (.indexSl 1 (.tmp 42) (.tmp 44)), false, none⟩,
  ⟨some 46, (.load 1 false (.tmp 45)), false, none⟩,
  ⟨some 47, (.indexSl 2 (.tmp 39) (.tmp 41)), false, none⟩,
  ⟨some 48, (.fieldAddr 1 (.tmp 47)), false, none⟩,
  ⟨none, (.store 1 (.tmp 48) (.tmp 46)), false, none⟩]
def c28_13 : ACode := (.region o28_12 [0, 1, 5, 6])
def w28_13 (_P : Program) (Q : Exit → Slots → Mem → Prop) (M : Mem) (v0 : V) (v1 : V) (v5 : V) (v6 : V) (v7 : V) : Prop :=
  @OptVH (binV .sub .none v7 (.int .i64 1)) ⟨fun t41_3 =>
  @OptVH (binV .add .none v6 (.int .i64 1)) ⟨fun t44_6 =>
  @OptVH (indexSlV 1 v0 t44_6 M) ⟨fun t45_7 =>
  @OptVH (loadV 1 false t45_7 M) ⟨fun t46_8 =>
  @OptVH (indexSlV 2 v5 t41_3 M) ⟨fun t47_9 =>
  @OptVH (moveV 1 t47_9) ⟨fun t48_10 =>
  @OptMH (storeVM 1 t48_10 t46_8 M) ⟨fun _tx_11 M11 =>
  Q .normal [(0, v0), (1, v1), (5, v5), (6, v6)] M11⟩⟩⟩⟩⟩⟩⟩
theorem e28_13 (P : Program) (Q : Exit → Slots → Mem → Prop) (s : Slots) (M : Mem) : wpC P c28_13 Q s M = w28_13 P Q M (sget s 0) (sget s 1) (sget s 5) (sget s 6) (sget s 7) := by kernel_rfl
def c28_14 : ACode := (.seq c28_13 (.exit 1))
def o28_15 : List AOper := [⟨some 24, (.mov (.tmp 7)), false, none⟩,
  ⟨some 25, (.bin .gtr .none (.tmp 24) (.const (.int .i64 0))), true, none⟩,
  ⟨some 26, (.mov (.tmp 25)), true, none⟩,
  ⟨some 27, (.mov (.tmp 5)), false, some (26, true)⟩,
  ⟨some 28, (.mov (.tmp 7)), false, some (26, true)⟩,
  ⟨some 29, (.bin .sub .none (.tmp 28) (.const (.int .i64 1))), false, some (26, true)⟩,
  ⟨some 30, (.indexSl 2 (.tmp 27) (.tmp 29)), false, some (26, true)⟩,
  ⟨some 31, (.fieldAddr 1 (.tmp 30)), false, some (26, true)⟩,
  ⟨some 32, (.load 1 false (.tmp 31)), false, some (26, true)⟩,
  ⟨some 33, (.mov (.tmp 0)), false, some (26, true)⟩,
  ⟨some 34, (.mov (.tmp 6)), false, some (26, true)⟩,
  ⟨some 35, (.indexSl 1 (.tmp 33) (.tmp 34)), false, some (26, true)⟩,
  ⟨some 36, (.load 1 false (.tmp 35)), false, some (26, true)⟩,
  ⟨some 37, (.bin .eql .none (.tmp 32) (.tmp 36)), true, some (26, true)⟩,
  ⟨some 38, (.pick (.tmp 26) (.tmp 37) (.const (.bool false))), true, none⟩]
def c28_16 : ACode := (.seq (.mixed o28_15 [true, true, true, true, true, true, true, true, true, true, true, true, true, true, true] [0, 1, 5, 6, 7, 38]) (.cond (.tmp 38) c28_14 .skip))
def w28_16 (P : Program) (Q : Exit → Slots → Mem → Prop) (M : Mem) (v0 : V) (v1 : V) (v5 : V) (v6 : V) (v7 : V) : Prop :=
  @OptBH (binV .gtr .none v7 (.int .i64 0)) ⟨fun b25_2 =>
  @BIfH b25_2
  ⟨@OptVH (binV .sub .none v7 (.int .i64 1)) ⟨fun t29_6 =>
  @OptVH (indexSlV 2 v5 t29_6 M) ⟨fun t30_7 =>
  @OptVH (moveV 1 t30_7) ⟨fun t31_8 =>
  @OptVH (loadV 1 false t31_8 M) ⟨fun t32_9 =>
  @OptVH (indexSlV 1 v0 v6 M) ⟨fun t35_12 =>
  @OptVH (loadV 1 false t35_12 M) ⟨fun t36_13 =>
  @OptBH (binV .eql .none t32_9 t36_13) ⟨fun b37_14 =>
  @BIfH b37_14
  ⟨wpC P c28_14 Q [(0, v0), (1, v1), (5, v5), (6, v6), (7, v7), (38, (.bool b37_14))] M⟩
  ⟨Q .normal [(0, v0), (1, v1), (5, v5), (6, v6), (7, v7), (38, (.bool b37_14))] M⟩⟩⟩⟩⟩⟩⟩⟩⟩
  ⟨Q .normal [(0, v0), (1, v1), (5, v5), (6, v6), (7, v7), (38, (.bool false))] M⟩⟩
theorem e28_16 (P : Program) (Q : Exit → Slots → Mem → Prop) (s : Slots) (M : Mem) : wpC P c28_16 Q s M = w28_16 P Q M (sget s 0) (sget s 1) (sget s 5) (sget s 6) (sget s 7) := by kernel_rfl
def c28_17 : ACode := (.seq c28_11 c28_16)
def o28_18 : List AOper := [⟨some 49, (.mov (.tmp 5)), false, none⟩,
  ⟨some 50, (.mov (.tmp 0)), false, none⟩,
  ⟨some 51, (.mov (.tmp 6)), false, none⟩,
  ⟨some 52, (.indexSl 1 (.tmp 50) (.tmp 51)), false, none⟩,
  ⟨some 53, (.load 1 false (.tmp 52)), false, none⟩,
  ⟨some 54, (.mov (.tmp 0)), false, none⟩,
  ⟨some 55, (.mov (.tmp 6)), false, none⟩,
  ⟨some 56, (.bin .add .none (.tmp 55) (.const (.int .i64 1))), false, none⟩,
  ⟨some 57, (.indexSl 1 (.tmp 54) (.tmp 56)), false, none⟩,
  ⟨some 58, (.load 1 false (.tmp 57)), false, none⟩,
  ⟨some 59, (.build [(.int .i64 0), (.int .i64 0)] [(0, (1, (.tmp 53))), (1, (1, (.tmp 58)))]), false, none⟩,
  ⟨some 60, (.buildSlice [(.int .i64 0), (.int .i64 0)] 2 1 [(0, (2, (.tmp 59)))]), false, none⟩,
  ⟨some 61, (.append false 2 16 (.tmp 49) (.tmp 60)), false, none⟩,
  ⟨some 5, (.mov (.tmp 61)), false, none⟩]
def c28_19 : ACode := (.mixed o28_18 [true, true, true, true, true, true, true, true, true, true, true, true, false, true] [0, 1, 5, 6])
def w28_19 (_P : Program) (Q : Exit → Slots → Mem → Prop) (M : Mem) (v0 : V) (v1 : V) (v5 : V) (v6 : V) : Prop :=
  @OptVH (indexSlV 1 v0 v6 M) ⟨fun t52_4 =>
  @OptVH (loadV 1 false t52_4 M) ⟨fun t53_5 =>
  @OptVH (binV .add .none v6 (.int .i64 1)) ⟨fun t56_8 =>
  @OptVH (indexSlV 1 v0 t56_8 M) ⟨fun t57_9 =>
  @OptVH (loadV 1 false t57_9 M) ⟨fun t58_10 =>
  @OptVH (buildV [(.int .i64 0), (.int .i64 0)] [(0, 1, t53_5), (1, 1, t58_10)]) ⟨fun t59_11 =>
  @OptVH (buildSliceV [(.int .i64 0), (.int .i64 0)] 2 1 [(0, 2, t59_11)]) ⟨fun t60_12 =>
  @OptMH (appV false 2 16 v5 t60_12 M) ⟨fun t61_13 M13 =>
  Q .normal [(0, v0), (1, v1), (5, t61_13), (6, v6)] M13⟩⟩⟩⟩⟩⟩⟩⟩
theorem e28_19 (P : Program) (Q : Exit → Slots → Mem → Prop) (s : Slots) (M : Mem) : wpC P c28_19 Q s M = w28_19 P Q M (sget s 0) (sget s 1) (sget s 5) (sget s 6) := by kernel_rfl
def c28_20 : ACode := (.seq c28_17 c28_19)
def c28_21 : ACode := (.seq c28_9 c28_20)
def c28_22 : ACode := (.block 1 c28_21)
def o28_23 : List AOper := [⟨some 13, (.mov (.tmp 6)), false, none⟩,
  ⟨some 14, (.bin .add .none (.tmp 13) (.const (.int .i64 1))), false, none⟩,
  ⟨some 6, (.mov (.tmp 14)), false, none⟩]
def c28_24 : ACode := (.region o28_23 [0, 1, 5, 6])
def w28_24 (_P : Program) (Q : Exit → Slots → Mem → Prop) (M : Mem) (v0 : V) (v1 : V) (v5 : V) (v6 : V) : Prop :=
  @OptVH (binV .add .none v6 (.int .i64 1)) ⟨fun t14_2 =>
  Q .normal [(0, v0), (1, v1), (5, v5), (6, t14_2)] M⟩
theorem e28_24 (P : Program) (Q : Exit → Slots → Mem → Prop) (s : Slots) (M : Mem) : wpC P c28_24 Q s M = w28_24 P Q M (sget s 0) (sget s 1) (sget s 5) (sget s 6) := by kernel_rfl
def c28_25 : ACode := (.seq c28_22 c28_24)
def c28_26 : ACode := (.seq c28_7 c28_25)
def c28_27 : ACode := (.loop [0, 1, 5, 6] c28_26)
def c28_28 : ACode := (.block 0 c28_27)
def c28_29 : ACode := (.seq c28_5 c28_28)
def o28_30 : List AOper := [⟨some 62, (.mov (.tmp 5)), false, none⟩,
  ⟨some 4, (.mov (.tmp 62)), false, none⟩]
def c28_31 : ACode := (.region o28_30 [4])
def w28_31 (_P : Program) (Q : Exit → Slots → Mem → Prop) (M : Mem) (v5 : V) : Prop :=
  Q .normal [(4, v5)] M
theorem e28_31 (P : Program) (Q : Exit → Slots → Mem → Prop) (s : Slots) (M : Mem) : wpC P c28_31 Q s M = w28_31 P Q M (sget s 5) := by kernel_rfl
def c28_32 : ACode := (.seq c28_31 .ret)
def c28_33 : ACode := (.seq c28_29 c28_32)
def c28_34 : ACode := (.seq c28_3 c28_33)
def c28_35 : ACode := (.seq c28_1 c28_34)
def fn_interval_build : AFn := ⟨63, [(.tmp 4)], c28_35⟩
theorem fn_interval_build_ok : resFn PR h_interval_build i_interval_build = some fn_interval_build := by kernel_rfl

def h_interval_bounds : Hints := ⟨[(0, [0]), (1, [0, 3]), (2, [3, 8, 9, 10]), (3, [3, 8, 9, 10, 11]), (4, [3, 5, 8, 9, 10]), (5, [3, 8, 9, 10, 14, 15, 16]), (6, [3, 8, 9, 10, 14, 15, 16, 17]), (7, [3, 7, 8, 9, 10, 14, 15, 16]), (8, [3, 7, 8, 9, 10, 14, 15, 16, 21]), (9, [3, 8, 9, 10, 14, 15, 16]), (10, [3, 8, 9, 10, 14, 15, 16]), (11, [3, 8, 9, 10]), (12, [3]), (13, [2])], [(3, [3, 8, 9, 10]), (6, [3, 8, 9, 10, 14, 15, 16])], [(1, [0])]⟩
def o29_0 : List AOper := [⟨some 2, (.mov (.const (.slice [] .nil))), false, none⟩]
def c29_1 : ACode := (.region o29_0 [0])
def w29_1 (_P : Program) (Q : Exit → Slots → Mem → Prop) (M : Mem) (v0 : V) : Prop :=
  Q .normal [(0, v0)] M
theorem e29_1 (P : Program) (Q : Exit → Slots → Mem → Prop) (s : Slots) (M : Mem) : wpC P c29_1 Q s M = w29_1 P Q M (sget s 0) := by kernel_rfl
def o29_2 : List AOper := [⟨some 3, (.newarr 1), false, none⟩]
def c29_3 : ACode := (.region o29_2 [0, 3])
def w29_3 (_P : Program) (Q : Exit → Slots → Mem → Prop) (M : Mem) (v0 : V) : Prop :=
  @OptMH (newarrV 1 M) ⟨fun t3_1 M1 =>
  Q .normal [(0, v0), (3, t3_1)] M1⟩
theorem e29_3 (P : Program) (Q : Exit → Slots → Mem → Prop) (s : Slots) (M : Mem) : wpC P c29_3 Q s M = w29_3 P Q M (sget s 0) := by kernel_rfl
def o29_4 : List AOper := [⟨some 8, (.mov (.tmp 0)), false, none⟩,
  ⟨some 9, (.lenSl (.tmp 8)), false, none⟩,
  ⟨some 10, (.mov (.const (.int .i64 0))), false, none⟩]
def c29_5 : ACode := (.region o29_4 [3, 8, 9, 10])
def w29_5 (_P : Program) (Q : Exit → Slots → Mem → Prop) (M : Mem) (v0 : V) (v3 : V) : Prop :=
  @OptVH (lenV v0 M) ⟨fun t9_2 =>
  Q .normal [(3, v3), (8, v0), (9, t9_2), (10, (.int .i64 0))] M⟩
theorem e29_5 (P : Program) (Q : Exit → Slots → Mem → Prop) (s : Slots) (M : Mem) : wpC P c29_5 Q s M = w29_5 P Q M (sget s 0) (sget s 3) := by kernel_rfl
def o29_6 : List AOper := [⟨some 11, (.bin .lss .none (.tmp 10) (.tmp 9)), false, none⟩]
def c29_7 : ACode := (.region o29_6 [3, 8, 9, 10, 11])
def w29_7 (_P : Program) (Q : Exit → Slots → Mem → Prop) (M : Mem) (v3 : V) (v8 : V) (v9 : V) (v10 : V) : Prop :=
  @OptVH (binV .lss .none v10 v9) ⟨fun t11_1 =>
  Q .normal [(3, v3), (8, v8), (9, v9), (10, v10), (11, t11_1)] M⟩
theorem e29_7 (P : Program) (Q : Exit → Slots → Mem → Prop) (s : Slots) (M : Mem) : wpC P c29_7 Q s M = w29_7 P Q M (sget s 3) (sget s 8) (sget s 9) (sget s 10) := by kernel_rfl
def c29_8 : ACode := (.cond (.tmp 11) .skip (.exit 0))
def o29_9 : List AOper := [⟨some 12, (.indexSl 1 (.tmp 8) (.tmp 10)), false, none⟩,
  ⟨some 13, (.load 1 false (.tmp 12)), false, none⟩,
  ⟨some 5, (.mov (.tmp 13)), false, none⟩]
def c29_10 : ACode := (.region o29_9 [3, 5, 8, 9, 10])
def w29_10 (_P : Program) (Q : Exit → Slots → Mem → Prop) (M : Mem) (v3 : V) (v8 : V) (v9 : V) (v10 : V) : Prop :=
  @OptVH (indexSlV 1 v8 v10 M) ⟨fun t12_1 =>
  @OptVH (loadV 1 false t12_1 M) ⟨fun t13_2 =>
  Q .normal [(3, v3), (5, t13_2), (8, v8), (9, v9), (10, v10)] M⟩⟩
theorem e29_10 (P : Program) (Q : Exit → Slots → Mem → Prop) (s : Slots) (M : Mem) : wpC P c29_10 Q s M = w29_10 P Q M (sget s 3) (sget s 8) (sget s 9) (sget s 10) := by kernel_rfl
def o29_11 : List AOper := [⟨some 14, (.mov (.tmp 5)), false, none⟩,
  ⟨some 15, (.lenSl (.tmp 14)), false, none⟩,
  ⟨some 16, (.mov (.const (.int .i64 0))), false, none⟩]
def c29_12 : ACode := (.region o29_11 [3, 8, 9, 10, 14, 15, 16])
def w29_12 (_P : Program) (Q : Exit → Slots → Mem → Prop) (M : Mem) (v3 : V) (v5 : V) (v8 : V) (v9 : V) (v10 : V) : Prop :=
  @OptVH (lenV v5 M) ⟨fun t15_2 =>
  Q .normal [(3, v3), (8, v8), (9, v9), (10, v10), (14, v5), (15, t15_2), (16, (.int .i64 0))] M⟩
theorem e29_12 (P : Program) (Q : Exit → Slots → Mem → Prop) (s : Slots) (M : Mem) : wpC P c29_12 Q s M = w29_12 P Q M (sget s 3) (sget s 5) (sget s 8) (sget s 9) (sget s 10) := by kernel_rfl
def o29_13 : List AOper := [⟨some 17, (.bin .lss .none (.tmp 16) (.tmp 15)), false, none⟩]
def c29_14 : ACode := (.region o29_13 [3, 8, 9, 10, 14, 15, 16, 17])
def w29_14 (_P : Program) (Q : Exit → Slots → Mem → Prop) (M : Mem) (v3 : V) (v8 : V) (v9 : V) (v10 : V) (v14 : V) (v15 : V) (v16 : V) : Prop :=
  @OptVH (binV .lss .none v16 v15) ⟨fun t17_1 =>
  Q .normal [(3, v3), (8, v8), (9, v9), (10, v10), (14, v14), (15, v15), (16, v16), (17, t17_1)] M⟩
theorem e29_14 (P : Program) (Q : Exit → Slots → Mem → Prop) (s : Slots) (M : Mem) : wpC P c29_14 Q s M = w29_14 P Q M (sget s 3) (sget s 8) (sget s 9) (sget s 10) (sget s 14) (sget s 15) (sget s 16) := by kernel_rfl
def c29_15 : ACode := (.cond (.tmp 17) .skip (.exit 2))
def o29_16 : List AOper := [⟨some 18, (.indexSl 2 (.tmp 14) (.tmp 16)), false, none⟩,
  ⟨some 19, (.load 2 true (.tmp 18)), false, none⟩,
  ⟨some 7, (.alloc [(.int .i64 0), (.int .i64 0)]), false, none⟩,
  ⟨none, (.store 2 (.tmp 7) (.tmp 19)), false, none⟩]
def c29_17 : ACode := (.region o29_16 [3, 7, 8, 9, 10, 14, 15, 16])
def w29_17 (_P : Program) (Q : Exit → Slots → Mem → Prop) (M : Mem) (v3 : V) (v8 : V) (v9 : V) (v10 : V) (v14 : V) (v15 : V) (v16 : V) : Prop :=
  @OptVH (indexSlV 2 v14 v16 M) ⟨fun t18_1 =>
  @OptVH (loadV 2 true t18_1 M) ⟨fun t19_2 =>
  @OptMH (allocV [(.int .i64 0), (.int .i64 0)] M) ⟨fun t7_3 M3 =>
  @OptMH (storeVM 2 t7_3 t19_2 M3) ⟨fun _tx_4 M4 =>
  Q .normal [(3, v3), (7, t7_3), (8, v8), (9, v9), (10, v10), (14, v14), (15, v15), (16, v16)] M4⟩⟩⟩⟩
theorem e29_17 (P : Program) (Q : Exit → Slots → Mem → Prop) (s : Slots) (M : Mem) : wpC P c29_17 Q s M = w29_17 P Q M (sget s 3) (sget s 8) (sget s 9) (sget s 10) (sget s 14) (sget s 15) (sget s 16) := by kernel_rfl
def o29_18 : List AOper := [⟨some 22, (.mov (.tmp 3)), false, none⟩,
  ⟨some 23, (.fieldAddr 0 (.tmp 7)), false, none⟩,
  ⟨some 24, (.load 1 false (.tmp 23)), false, none⟩,
  ⟨some 25, (.fieldAddr 1 (.tmp 7)), false, none⟩,
  ⟨some 26, (.load 1 false (.tmp 25)), false, none⟩,
  ⟨some 27, (.buildSlice [(.int .i64 0), (.int .i64 0)] 1 2 [(0, (1, (.tmp 24))), (1, (1, (.tmp 26)))]), false, none⟩,
  ⟨some 28, (.append false 1 8 (.tmp 22) (.tmp 27)), false, none⟩,
  ⟨some 3, (.mov (.tmp 28)), false, none⟩]
def c29_19 : ACode := (.region o29_18 [3, 8, 9, 10, 14, 15, 16])
def w29_19 (_P : Program) (Q : Exit → Slots → Mem → Prop) (M : Mem) (v3 : V) (v7 : V) (v8 : V) (v9 : V) (v10 : V) (v14 : V) (v15 : V) (v16 : V) : Prop :=
  @OptVH (moveV 0 v7) ⟨fun t23_2 =>
  @OptVH (loadV 1 false t23_2 M) ⟨fun t24_3 =>
  @OptVH (moveV 1 v7) ⟨fun t25_4 =>
  @OptVH (loadV 1 false t25_4 M) ⟨fun t26_5 =>
  @OptVH (buildSliceV [(.int .i64 0), (.int .i64 0)] 1 2 [(0, 1, t24_3), (1, 1, t26_5)]) ⟨fun t27_6 =>
  @OptMH (appV false 1 8 v3 t27_6 M) ⟨fun t28_7 M7 =>
  Q .normal [(3, t28_7), (8, v8), (9, v9), (10, v10), (14, v14), (15, v15), (16, v16)] M7⟩⟩⟩⟩⟩⟩
theorem e29_19 (P : Program) (Q : Exit → Slots → Mem → Prop) (s : Slots) (M : Mem) : wpC P c29_19 Q s M = w29_19 P Q M (sget s 3) (sget s 7) (sget s 8) (sget s 9) (sget s 10) (sget s 14) (sget s 15) (sget s 16) := by kernel_rfl
def o29_20 : List AOper := [⟨some 20, (.load 2 true (.tmp 7)), false, none⟩,
  ⟨some 21, (.call i_interval_Valid [(.tmp 20)]), true, none⟩]
def c29_21 : ACode := (.seq (.region o29_20 [3, 7, 8, 9, 10, 14, 15, 16, 21]) (.cond (.tmp 21) c29_19 .skip))
def w29_21 (P : Program) (Q : Exit → Slots → Mem → Prop) (M : Mem) (v3 : V) (v7 : V) (v8 : V) (v9 : V) (v10 : V) (v14 : V) (v15 : V) (v16 : V) : Prop :=
  @OptVH (loadV 2 true v7 M) ⟨fun t20_1 =>
  @CallH P i_interval_Valid [t20_1] M ⟨fun t21_2 M2 => @OptBH (some t21_2) ⟨fun b21_2 =>
  @BIfH b21_2
  ⟨wpC P c29_19 Q [(3, v3), (7, v7), (8, v8), (9, v9), (10, v10), (14, v14), (15, v15), (16, v16), (21, (.bool b21_2))] M2⟩
  ⟨Q .normal [(3, v3), (7, v7), (8, v8), (9, v9), (10, v10), (14, v14), (15, v15), (16, v16), (21, (.bool b21_2))] M2⟩⟩⟩⟩
theorem e29_21 (P : Program) (Q : Exit → Slots → Mem → Prop) (s : Slots) (M : Mem) : wpC P c29_21 Q s M = w29_21 P Q M (sget s 3) (sget s 7) (sget s 8) (sget s 9) (sget s 10) (sget s 14) (sget s 15) (sget s 16) := by kernel_rfl
def c29_22 : ACode := (.seq c29_17 c29_21)
def c29_23 : ACode := (.block 3 c29_22)
def o29_24 : List AOper := [⟨some 29, (.bin .add .none (.tmp 16) (.const (.int .i64 1))), false, none⟩,
  ⟨some 16, (.mov (.tmp 29)), false, none⟩]
def c29_25 : ACode := (.region o29_24 [3, 8, 9, 10, 14, 15, 16])
def w29_25 (_P : Program) (Q : Exit → Slots → Mem → Prop) (M : Mem) (v3 : V) (v8 : V) (v9 : V) (v10 : V) (v14 : V) (v15 : V) (v16 : V) : Prop :=
  @OptVH (binV .add .none v16 (.int .i64 1)) ⟨fun t29_1 =>
  Q .normal [(3, v3), (8, v8), (9, v9), (10, v10), (14, v14), (15, v15), (16, t29_1)] M⟩
theorem e29_25 (P : Program) (Q : Exit → Slots → Mem → Prop) (s : Slots) (M : Mem) : wpC P c29_25 Q s M = w29_25 P Q M (sget s 3) (sget s 8) (sget s 9) (sget s 10) (sget s 14) (sget s 15) (sget s 16) := by kernel_rfl
def c29_26 : ACode := (.seq c29_23 c29_25)
def c29_27 : ACode := (.seq c29_15 c29_26)
def c29_28 : ACode := (.seq c29_14 c29_27)
def c29_29 : ACode := (.loop [3, 8, 9, 10, 14, 15, 16] c29_28)
def c29_30 : ACode := (.block 2 c29_29)
def c29_31 : ACode := (.seq c29_12 c29_30)
def c29_32 : ACode := (.seq c29_10 c29_31)
def c29_33 : ACode := (.block 1 c29_32)
def o29_34 : List AOper := [⟨some 30, (.bin .add .none (.tmp 10) (.const (.int .i64 1))), false, none⟩,
  ⟨some 10, (.mov (.tmp 30)), false, none⟩]
def c29_35 : ACode := (.region o29_34 [3, 8, 9, 10])
def w29_35 (_P : Program) (Q : Exit → Slots → Mem → Prop) (M : Mem) (v3 : V) (v8 : V) (v9 : V) (v10 : V) : Prop :=
  @OptVH (binV .add .none v10 (.int .i64 1)) ⟨fun t30_1 =>
  Q .normal [(3, v3), (8, v8), (9, v9), (10, t30_1)] M⟩
theorem e29_35 (P : Program) (Q : Exit → Slots → Mem → Prop) (s : Slots) (M : Mem) : wpC P c29_35 Q s M = w29_35 P Q M (sget s 3) (sget s 8) (sget s 9) (sget s 10) := by kernel_rfl
def c29_36 : ACode := (.seq c29_33 c29_35)
def c29_37 : ACode := (.seq c29_8 c29_36)
def c29_38 : ACode := (.seq c29_7 c29_37)
def c29_39 : ACode := (.loop [3, 8, 9, 10] c29_38)
def c29_40 : ACode := (.block 0 c29_39)
def c29_41 : ACode := (.seq c29_5 c29_40)
def o29_42 : List AOper := [⟨some 31, (.mov (.tmp 3)), false, none⟩,
  ⟨some 32, (.call i_slices_Sort_int_int [(.tmp 31)]), false, none⟩]
def c29_43 : ACode := (.region o29_42 [3])
def w29_43 (P : Program) (Q : Exit → Slots → Mem → Prop) (M : Mem) (v3 : V) : Prop :=
  @CallH P i_slices_Sort_int_int [v3] M ⟨fun _t32_2 M2 =>
  Q .normal [(3, v3)] M2⟩
theorem e29_43 (P : Program) (Q : Exit → Slots → Mem → Prop) (s : Slots) (M : Mem) : wpC P c29_43 Q s M = w29_43 P Q M (sget s 3) := by kernel_rfl
def o29_44 : List AOper := [⟨some 33, (.mov (.tmp 3)), false, none⟩,
  ⟨some 34, (.call i_slices_Compact_int_int [(.tmp 33)]), false, none⟩,
  ⟨some 2, (.mov (.tmp 34)), false, none⟩]
def c29_45 : ACode := (.region o29_44 [2])
def w29_45 (P : Program) (Q : Exit → Slots → Mem → Prop) (M : Mem) (v3 : V) : Prop :=
  @CallH P i_slices_Compact_int_int [v3] M ⟨fun t34_2 M2 =>
  Q .normal [(2, t34_2)] M2⟩
theorem e29_45 (P : Program) (Q : Exit → Slots → Mem → Prop) (s : Slots) (M : Mem) : wpC P c29_45 Q s M = w29_45 P Q M (sget s 3) := by kernel_rfl
def c29_46 : ACode := (.seq c29_45 .ret)
def c29_47 : ACode := (.seq c29_43 c29_46)
def c29_48 : ACode := (.seq c29_41 c29_47)
def c29_49 : ACode := (.seq c29_3 c29_48)
def c29_50 : ACode := (.seq c29_1 c29_49)
def fn_interval_bounds : AFn := ⟨35, [(.tmp 2)], c29_50⟩
theorem fn_interval_bounds_ok : resFn PR h_interval_bounds i_interval_bounds = some fn_interval_bounds := by kernel_rfl

def h_interval_Normalize_1 : Hints := ⟨[(0, [0, 1]), (1, [3])], [], []⟩
def o30_0 : List AOper := [⟨some 3, (.mov (.const (.bool false))), true, none⟩]
def c30_1 : ACode := (.region o30_0 [0, 1])
def w30_1 (_P : Program) (Q : Exit → Slots → Mem → Prop) (M : Mem) (v0 : V) (v1 : V) : Prop :=
  Q .normal [(0, v0), (1, v1)] M
theorem e30_1 (P : Program) (Q : Exit → Slots → Mem → Prop) (s : Slots) (M : Mem) : wpC P c30_1 Q s M = w30_1 P Q M (sget s 0) (sget s 1) := by kernel_rfl
def o30_2 : List AOper := [⟨some 4, (.load 1 false (.tmp 1)), false, none⟩,
  ⟨some 5, (.mov (.tmp 0)), false, none⟩,
  ⟨some 6, (.call i_interval_Contains [(.tmp 4), (.tmp 5)]), true, none⟩,
  ⟨some 3, (.mov (.tmp 6)), true, none⟩]
def c30_3 : ACode := (.region o30_2 [3])
def w30_3 (P : Program) (Q : Exit → Slots → Mem → Prop) (M : Mem) (v0 : V) (v1 : V) : Prop :=
  @OptVH (loadV 1 false v1 M) ⟨fun t4_1 =>
  @CallH P i_interval_Contains [t4_1, v0] M ⟨fun t6_3 M3 => @OptBH (some t6_3) ⟨fun b6_3 =>
  Q .normal [(3, (.bool b6_3))] M3⟩⟩⟩
theorem e30_3 (P : Program) (Q : Exit → Slots → Mem → Prop) (s : Slots) (M : Mem) : wpC P c30_3 Q s M = w30_3 P Q M (sget s 0) (sget s 1) := by kernel_rfl
def c30_4 : ACode := (.seq c30_3 .ret)
def c30_5 : ACode := (.seq c30_1 c30_4)
def fn_interval_Normalize_1 : AFn := ⟨7, [(.tmp 3)], c30_5⟩
theorem fn_interval_Normalize_1_ok : resFn PR h_interval_Normalize_1 i_interval_Normalize_1 = some fn_interval_Normalize_1 := by kernel_rfl

def h_transitref08_ends : Hints := ⟨[(0, [0, 1]), (1, [0, 1, 5]), (2, [0, 1, 5, 6]), (3, [0, 1, 5, 6, 11]), (4, [0, 1, 5, 6]), (5, [0, 1, 5, 6]), (6, [1, 5, 7]), (7, [1, 5, 7, 30]), (8, [1, 5, 7]), (9, [1, 5, 7]), (10, [4])], [(3, [0, 1, 5, 6]), (7, [1, 5, 7])], []⟩
def o31_0 : List AOper := [⟨some 4, (.mov (.const (.slice [] .nil))), false, none⟩]
def c31_1 : ACode := (.region o31_0 [0, 1])
def w31_1 (_P : Program) (Q : Exit → Slots → Mem → Prop) (M : Mem) (v0 : V) (v1 : V) : Prop :=
  Q .normal [(0, v0), (1, v1)] M
theorem e31_1 (P : Program) (Q : Exit → Slots → Mem → Prop) (s : Slots) (M : Mem) : wpC P c31_1 Q s M = w31_1 P Q M (sget s 0) (sget s 1) := by kernel_rfl
def o31_2 : List AOper := [⟨some 5, (.mov (.const (.slice [] .nil))), false, none⟩]
def c31_3 : ACode := (.region o31_2 [0, 1, 5])
def w31_3 (_P : Program) (Q : Exit → Slots → Mem → Prop) (M : Mem) (v0 : V) (v1 : V) : Prop :=
  Q .normal [(0, v0), (1, v1), (5, (.slice [] .nil))] M
theorem e31_3 (P : Program) (Q : Exit → Slots → Mem → Prop) (s : Slots) (M : Mem) : wpC P c31_3 Q s M = w31_3 P Q M (sget s 0) (sget s 1) := by kernel_rfl
def o31_4 : List AOper := [⟨some 6, (.mov (.const (.int .i64 0))), false, none⟩]
def c31_5 : ACode := (.region o31_4 [0, 1, 5, 6])
def w31_5 (_P : Program) (Q : Exit → Slots → Mem → Prop) (M : Mem) (v0 : V) (v1 : V) (v5 : V) : Prop :=
  Q .normal [(0, v0), (1, v1), (5, v5), (6, (.int .i64 0))] M
theorem e31_5 (P : Program) (Q : Exit → Slots → Mem → Prop) (s : Slots) (M : Mem) : wpC P c31_5 Q s M = w31_5 P Q M (sget s 0) (sget s 1) (sget s 5) := by kernel_rfl
def o31_6 : List AOper := [⟨some 8, (.mov (.tmp 6)), false, none⟩,
  ⟨some 9, (.mov (.tmp 0)), false, none⟩,
  ⟨some 10, (.lenSl (.tmp 9)), false, none⟩,
  ⟨some 11, (.bin .lss .none (.tmp 8) (.tmp 10)), true, none⟩]
def c31_7 : ACode := (.seq (.region o31_6 [0, 1, 5, 6, 11]) (.cond (.tmp 11) .skip (.exit 0)))
def w31_7 (_P : Program) (Q : Exit → Slots → Mem → Prop) (M : Mem) (v0 : V) (v1 : V) (v5 : V) (v6 : V) : Prop :=
  @OptVH (lenV v0 M) ⟨fun t10_3 =>
  @OptBH (binV .lss .none v6 t10_3) ⟨fun b11_4 =>
  @BIfH b11_4
  ⟨Q .normal [(0, v0), (1, v1), (5, v5), (6, v6), (11, (.bool b11_4))] M⟩
  ⟨Q (.exit 0) [(0, v0), (1, v1), (5, v5), (6, v6), (11, (.bool b11_4))] M⟩⟩⟩
theorem e31_7 (P : Program) (Q : Exit → Slots → Mem → Prop) (s : Slots) (M : Mem) : wpC P c31_7 Q s M = w31_7 P Q M (sget s 0) (sget s 1) (sget s 5) (sget s 6) := by kernel_rfl
def o31_8 : List AOper := [⟨some 14, (.mov (.tmp 5)), false, none⟩,
  ⟨some 15, (.mov (.tmp 0)), false, none⟩,
  ⟨some 16, (.mov (.tmp 6)), false, none⟩,
  ⟨some 17, (.indexSl 2 (.tmp 15) (.tmp 16)), false, none⟩,
  ⟨some 18, (.fieldAddr 0 (.tmp 17)), false, none⟩,
  ⟨some 19, (.load 1 false (.tmp 18)), false, none⟩,
  ⟨some 20, (.call i_transitref08_insert [(.tmp 14), (.tmp 19)]), false, none⟩,
  ⟨some 21, (.mov (.tmp 0)), false, none⟩,
  ⟨some 22, (.mov (.tmp 6)), false, none⟩,
  ⟨some 23, (.indexSl 2 (.tmp 21) (.tmp 22)), false, none⟩,
  ⟨some 24, (.fieldAddr 1 (.tmp 23)), false, none⟩,
  ⟨some 25, (.load 1 false (.tmp 24)), false, none⟩,
  ⟨some 26, (.call i_transitref08_insert [(.tmp 20), (.tmp 25)]), false, none⟩,
  ⟨some 5, (.mov (.tmp 26)), false, none⟩]
def c31_9 : ACode := (.mixed o31_8 [true, true, true, true, true, true, true, true, true, true, true, true, false, true] [0, 1, 5, 6])
def w31_9 (P : Program) (Q : Exit → Slots → Mem → Prop) (M : Mem) (v0 : V) (v1 : V) (v5 : V) (v6 : V) : Prop :=
  @OptVH (indexSlV 2 v0 v6 M) ⟨fun t17_4 =>
  @OptVH (moveV 0 t17_4) ⟨fun t18_5 =>
  @OptVH (loadV 1 false t18_5 M) ⟨fun t19_6 =>
  @CallQ P i_transitref08_insert [v5, t19_6] M ⟨fun t20_7 M7 =>
  @OptVH (indexSlV 2 v0 v6 M7) ⟨fun t23_10 =>
  @OptVH (moveV 1 t23_10) ⟨fun t24_11 =>
  @OptVH (loadV 1 false t24_11 M7) ⟨fun t25_12 =>
  @CallH P i_transitref08_insert [t20_7, t25_12] M7 ⟨fun t26_13 M13 =>
  Q .normal [(0, v0), (1, v1), (5, t26_13), (6, v6)] M13⟩⟩⟩⟩⟩⟩⟩⟩
theorem e31_9 (P : Program) (Q : Exit → Slots → Mem → Prop) (s : Slots) (M : Mem) : wpC P c31_9 Q s M = w31_9 P Q M (sget s 0) (sget s 1) (sget s 5) (sget s 6) := by kernel_rfl
def c31_10 : ACode := (.block 1 c31_9)
def o31_11 : List AOper := [⟨some 12, (.mov (.tmp 6)), false, none⟩,
  ⟨some 13, (.bin .add .none (.tmp 12) (.const (.int .i64 1))), false, none⟩,
  ⟨some 6, (.mov (.tmp 13)), false, none⟩]
def c31_12 : ACode := (.region o31_11 [0, 1, 5, 6])
def w31_12 (_P : Program) (Q : Exit → Slots → Mem → Prop) (M : Mem) (v0 : V) (v1 : V) (v5 : V) (v6 : V) : Prop :=
  @OptVH (binV .add .none v6 (.int .i64 1)) ⟨fun t13_2 =>
  Q .normal [(0, v0), (1, v1), (5, v5), (6, t13_2)] M⟩
theorem e31_12 (P : Program) (Q : Exit → Slots → Mem → Prop) (s : Slots) (M : Mem) : wpC P c31_12 Q s M = w31_12 P Q M (sget s 0) (sget s 1) (sget s 5) (sget s 6) := by kernel_rfl
def c31_13 : ACode := (.seq c31_10 c31_12)
def c31_14 : ACode := (.seq c31_7 c31_13)
def c31_15 : ACode := (.loop [0, 1, 5, 6] c31_14)
def c31_16 : ACode := (.block 0 c31_15)
def c31_17 : ACode := (.seq c31_5 c31_16)
def o31_18 : List AOper := [⟨some 7, (.mov (.const (.int .i64 0))), false, none⟩]
def c31_19 : ACode := (.region o31_18 [1, 5, 7])
def w31_19 (_P : Program) (Q : Exit → Slots → Mem → Prop) (M : Mem) (v1 : V) (v5 : V) : Prop :=
  Q .normal [(1, v1), (5, v5), (7, (.int .i64 0))] M
theorem e31_19 (P : Program) (Q : Exit → Slots → Mem → Prop) (s : Slots) (M : Mem) : wpC P c31_19 Q s M = w31_19 P Q M (sget s 1) (sget s 5) := by kernel_rfl
def o31_20 : List AOper := [⟨some 27, (.mov (.tmp 7)), false, none⟩,
  ⟨some 28, (.mov (.tmp 1)), false, none⟩,
  ⟨some 29, (.lenSl (.tmp 28)), false, none⟩,
  ⟨some 30, (.bin .lss .none (.tmp 27) (.tmp 29)), true, none⟩]
def c31_21 : ACode := (.seq (.region o31_20 [1, 5, 7, 30]) (.cond (.tmp 30) .skip (.exit 2)))
def w31_21 (_P : Program) (Q : Exit → Slots → Mem → Prop) (M : Mem) (v1 : V) (v5 : V) (v7 : V) : Prop :=
  @OptVH (lenV v1 M) ⟨fun t29_3 =>
  @OptBH (binV .lss .none v7 t29_3) ⟨fun b30_4 =>
  @BIfH b30_4
  ⟨Q .normal [(1, v1), (5, v5), (7, v7), (30, (.bool b30_4))] M⟩
  ⟨Q (.exit 2) [(1, v1), (5, v5), (7, v7), (30, (.bool b30_4))] M⟩⟩⟩
theorem e31_21 (P : Program) (Q : Exit → Slots → Mem → Prop) (s : Slots) (M : Mem) : wpC P c31_21 Q s M = w31_21 P Q M (sget s 1) (sget s 5) (sget s 7) := by kernel_rfl
def o31_22 : List AOper := [⟨some 33, (.mov (.tmp 5)), false, none⟩,
  ⟨some 34, (.mov (.tmp 1)), false, none⟩,
  ⟨some 35, (.mov (.tmp 7)), false, none⟩,
  ⟨some 36, (.indexSl 2 (.tmp 34) (.tmp 35)), false, none⟩,
  ⟨some 37, (.fieldAddr 0 (.tmp 36)), false, none⟩,
  ⟨some 38, (.load 1 false (.tmp 37)), false, none⟩,
  ⟨some 39, (.call i_transitref08_insert [(.tmp 33), (.tmp 38)]), false, none⟩,
  ⟨some 40, (.mov (.tmp 1)), false, none⟩,
  ⟨some 41, (.mov (.tmp 7)), false, none⟩,
  ⟨some 42, (.indexSl 2 (.tmp 40) (.tmp 41)), false, none⟩,
  ⟨some 43, (.fieldAddr 1 (.tmp 42)), false, none⟩,
  ⟨some 44, (.load 1 false (.tmp 43)), false, none⟩,
  ⟨some 45, (.call i_transitref08_insert [(.tmp 39), (.tmp 44)]), false, none⟩,
  ⟨some 5, (.mov (.tmp 45)), false, none⟩]
def c31_23 : ACode := (.mixed o31_22 [true, true, true, true, true, true, true, true, true, true, true, true, false, true] [1, 5, 7])
def w31_23 (P : Program) (Q : Exit → Slots → Mem → Prop) (M : Mem) (v1 : V) (v5 : V) (v7 : V) : Prop :=
  @OptVH (indexSlV 2 v1 v7 M) ⟨fun t36_4 =>
  @OptVH (moveV 0 t36_4) ⟨fun t37_5 =>
  @OptVH (loadV 1 false t37_5 M) ⟨fun t38_6 =>
  @CallQ P i_transitref08_insert [v5, t38_6] M ⟨fun t39_7 M7 =>
  @OptVH (indexSlV 2 v1 v7 M7) ⟨fun t42_10 =>
  @OptVH (moveV 1 t42_10) ⟨fun t43_11 =>
  @OptVH (loadV 1 false t43_11 M7) ⟨fun t44_12 =>
  @CallH P i_transitref08_insert [t39_7, t44_12] M7 ⟨fun t45_13 M13 =>
  Q .normal [(1, v1), (5, t45_13), (7, v7)] M13⟩⟩⟩⟩⟩⟩⟩⟩
theorem e31_23 (P : Program) (Q : Exit → Slots → Mem → Prop) (s : Slots) (M : Mem) : wpC P c31_23 Q s M = w31_23 P Q M (sget s 1) (sget s 5) (sget s 7) := by kernel_rfl
def c31_24 : ACode := (.block 3 c31_23)
def o31_25 : List AOper := [⟨some 31, (.mov (.tmp 7)), false, none⟩,
  ⟨some 32, (.bin .add .none (.tmp 31) (.const (.int .i64 1))), false, none⟩,
  ⟨some 7, (.mov (.tmp 32)), false, none⟩]
def c31_26 : ACode := (.region o31_25 [1, 5, 7])
def w31_26 (_P : Program) (Q : Exit → Slots → Mem → Prop) (M : Mem) (v1 : V) (v5 : V) (v7 : V) : Prop :=
  @OptVH (binV .add .none v7 (.int .i64 1)) ⟨fun t32_2 =>
  Q .normal [(1, v1), (5, v5), (7, t32_2)] M⟩
theorem e31_26 (P : Program) (Q : Exit → Slots → Mem → Prop) (s : Slots) (M : Mem) : wpC P c31_26 Q s M = w31_26 P Q M (sget s 1) (sget s 5) (sget s 7) := by kernel_rfl
def c31_27 : ACode := (.seq c31_24 c31_26)
def c31_28 : ACode := (.seq c31_21 c31_27)
def c31_29 : ACode := (.loop [1, 5, 7] c31_28)
def c31_30 : ACode := (.block 2 c31_29)
def c31_31 : ACode := (.seq c31_19 c31_30)
def o31_32 : List AOper := [⟨some 46, (.mov (.tmp 5)), false, none⟩,
  ⟨some 4, (.mov (.tmp 46)), false, none⟩]
def c31_33 : ACode := (.region o31_32 [4])
def w31_33 (_P : Program) (Q : Exit → Slots → Mem → Prop) (M : Mem) (v5 : V) : Prop :=
  Q .normal [(4, v5)] M
theorem e31_33 (P : Program) (Q : Exit → Slots → Mem → Prop) (s : Slots) (M : Mem) : wpC P c31_33 Q s M = w31_33 P Q M (sget s 5) := by kernel_rfl
def c31_34 : ACode := (.seq c31_33 .ret)
def c31_35 : ACode := (.seq c31_31 c31_34)
def c31_36 : ACode := (.seq c31_17 c31_35)
def c31_37 : ACode := (.seq c31_3 c31_36)
def c31_38 : ACode := (.seq c31_1 c31_37)
def fn_transitref08_ends : AFn := ⟨47, [(.tmp 4)], c31_38⟩
theorem fn_transitref08_ends_ok : resFn PR h_transitref08_ends i_transitref08_ends = some fn_transitref08_ends := by kernel_rfl

def h_transitref08_kept : Hints := ⟨[(0, [0, 1, 2, 3]), (1, [0, 1, 2, 3, 10]), (2, [8]), (3, [0, 1, 3, 20]), (4, [8]), (5, [8])], [], []⟩
def o32_0 : List AOper := [⟨some 8, (.mov (.const (.bool false))), true, none⟩]
def c32_1 : ACode := (.region o32_0 [0, 1, 2, 3])
def w32_1 (_P : Program) (Q : Exit → Slots → Mem → Prop) (M : Mem) (v0 : V) (v1 : V) (v2 : V) (v3 : V) : Prop :=
  Q .normal [(0, v0), (1, v1), (2, v2), (3, v3)] M
theorem e32_1 (P : Program) (Q : Exit → Slots → Mem → Prop) (s : Slots) (M : Mem) : wpC P c32_1 Q s M = w32_1 P Q M (sget s 0) (sget s 1) (sget s 2) (sget s 3) := by kernel_rfl
def o32_2 : List AOper := [⟨some 11, (.mov (.tmp 0)), false, none⟩,
  ⟨some 12, (.mov (.tmp 3)), false, none⟩,
  ⟨some 13, (.call i_transitref08_Contains [(.tmp 11), (.tmp 12)]), true, none⟩,
  ⟨some 14, (.mov (.tmp 13)), true, none⟩,
  ⟨some 15, (.mov (.tmp 1)), false, some (14, false)⟩,
  ⟨some 16, (.mov (.tmp 3)), false, some (14, false)⟩,
  ⟨some 17, (.call i_transitref08_Contains [(.tmp 15), (.tmp 16)]), true, some (14, false)⟩,
  ⟨some 18, (.pick (.tmp 14) (.const (.bool true)) (.tmp 17)), true, none⟩,
  ⟨some 8, (.mov (.tmp 18)), true, none⟩]
def c32_3 : ACode := (.region o32_2 [8])
def w32_3 (P : Program) (Q : Exit → Slots → Mem → Prop) (M : Mem) (v0 : V) (v1 : V) (v3 : V) : Prop :=
  @CallH P i_transitref08_Contains [v0, v3] M ⟨fun t13_3 M3 => @OptBH (some t13_3) ⟨fun b13_3 =>
  @BIfH b13_3
  ⟨Q .normal [(8, (.bool true))] M3⟩
  ⟨@CallH P i_transitref08_Contains [v1, v3] M3 ⟨fun t17_9 M9 => @OptBH (some t17_9) ⟨fun b17_9 =>
  Q .normal [(8, (.bool b17_9))] M9⟩⟩⟩⟩⟩
theorem e32_3 (P : Program) (Q : Exit → Slots → Mem → Prop) (s : Slots) (M : Mem) : wpC P c32_3 Q s M = w32_3 P Q M (sget s 0) (sget s 1) (sget s 3) := by kernel_rfl
def c32_4 : ACode := (.seq c32_3 .ret)
def o32_5 : List AOper := [⟨some 9, (.mov (.tmp 2)), false, none⟩,
  ⟨some 10, (.bin .eql .none (.tmp 9) (.const (.int .i64 0))), true, none⟩]
def c32_6 : ACode := (.seq (.region o32_5 [0, 1, 2, 3, 10]) (.cond (.tmp 10) c32_4 .skip))
def w32_6 (P : Program) (Q : Exit → Slots → Mem → Prop) (M : Mem) (v0 : V) (v1 : V) (v2 : V) (v3 : V) : Prop :=
  @OptBH (binV .eql .none v2 (.int .i64 0)) ⟨fun b10_2 =>
  @BIfH b10_2
  ⟨wpC P c32_4 Q [(0, v0), (1, v1), (2, v2), (3, v3), (10, (.bool b10_2))] M⟩
  ⟨Q .normal [(0, v0), (1, v1), (2, v2), (3, v3), (10, (.bool b10_2))] M⟩⟩
theorem e32_6 (P : Program) (Q : Exit → Slots → Mem → Prop) (s : Slots) (M : Mem) : wpC P c32_6 Q s M = w32_6 P Q M (sget s 0) (sget s 1) (sget s 2) (sget s 3) := by kernel_rfl
def o32_7 : List AOper := [⟨some 21, (.mov (.tmp 0)), false, none⟩,
  ⟨some 22, (.mov (.tmp 3)), false, none⟩,
  ⟨some 23, (.call i_transitref08_Contains [(.tmp 21), (.tmp 22)]), true, none⟩,
  ⟨some 24, (.mov (.tmp 23)), true, none⟩,
  ⟨some 25, (.mov (.tmp 1)), false, some (24, true)⟩,
  ⟨some 26, (.mov (.tmp 3)), false, some (24, true)⟩,
  ⟨some 27, (.call i_transitref08_Contains [(.tmp 25), (.tmp 26)]), true, some (24, true)⟩,
  ⟨some 28, (.pick (.tmp 24) (.tmp 27) (.const (.bool false))), true, none⟩,
  ⟨some 8, (.mov (.tmp 28)), true, none⟩]
def c32_8 : ACode := (.region o32_7 [8])
def w32_8 (P : Program) (Q : Exit → Slots → Mem → Prop) (M : Mem) (v0 : V) (v1 : V) (v3 : V) : Prop :=
  @CallH P i_transitref08_Contains [v0, v3] M ⟨fun t23_3 M3 => @OptBH (some t23_3) ⟨fun b23_3 =>
  @BIfH b23_3
  ⟨@CallH P i_transitref08_Contains [v1, v3] M3 ⟨fun t27_7 M7 => @OptBH (some t27_7) ⟨fun b27_7 =>
  Q .normal [(8, (.bool b27_7))] M7⟩⟩⟩
  ⟨Q .normal [(8, (.bool false))] M3⟩⟩⟩
theorem e32_8 (P : Program) (Q : Exit → Slots → Mem → Prop) (s : Slots) (M : Mem) : wpC P c32_8 Q s M = w32_8 P Q M (sget s 0) (sget s 1) (sget s 3) := by kernel_rfl
def c32_9 : ACode := (.seq c32_8 .ret)
def o32_10 : List AOper := [⟨some 19, (.mov (.tmp 2)), false, none⟩,
  ⟨some 20, (.bin .eql .none (.tmp 19) (.const (.int .i64 1))), true, none⟩]
def c32_11 : ACode := (.seq (.region o32_10 [0, 1, 3, 20]) (.cond (.tmp 20) c32_9 .skip))
def w32_11 (P : Program) (Q : Exit → Slots → Mem → Prop) (M : Mem) (v0 : V) (v1 : V) (v2 : V) (v3 : V) : Prop :=
  @OptBH (binV .eql .none v2 (.int .i64 1)) ⟨fun b20_2 =>
  @BIfH b20_2
  ⟨wpC P c32_9 Q [(0, v0), (1, v1), (3, v3), (20, (.bool b20_2))] M⟩
  ⟨Q .normal [(0, v0), (1, v1), (3, v3), (20, (.bool b20_2))] M⟩⟩
theorem e32_11 (P : Program) (Q : Exit → Slots → Mem → Prop) (s : Slots) (M : Mem) : wpC P c32_11 Q s M = w32_11 P Q M (sget s 0) (sget s 1) (sget s 2) (sget s 3) := by kernel_rfl
def o32_12 : List AOper := [⟨some 29, (.mov (.tmp 0)), false, none⟩,
  ⟨some 30, (.mov (.tmp 3)), false, none⟩,
  ⟨some 31, (.call i_transitref08_Contains [(.tmp 29), (.tmp 30)]), true, none⟩,
  ⟨some 32, (.mov (.tmp 31)), true, none⟩,
  ⟨some 33, (.mov (.tmp 1)), false, some (32, true)⟩,
  ⟨some 34, (.mov (.tmp 3)), false, some (32, true)⟩,
  ⟨some 35, (.call i_transitref08_Contains [(.tmp 33), (.tmp 34)]), true, some (32, true)⟩,
  ⟨some 36, (.un .not (.tmp 35)), true, some (32, true)⟩,
  ⟨some 37, (.pick (.tmp 32) (.tmp 36) (.const (.bool false))), true, none⟩,
  ⟨some 8, (.mov (.tmp 37)), true, none⟩]
def c32_13 : ACode := (.region o32_12 [8])
def w32_13 (P : Program) (Q : Exit → Slots → Mem → Prop) (M : Mem) (v0 : V) (v1 : V) (v3 : V) : Prop :=
  @CallH P i_transitref08_Contains [v0, v3] M ⟨fun t31_3 M3 => @OptBH (some t31_3) ⟨fun b31_3 =>
  @BIfH b31_3
  ⟨@CallH P i_transitref08_Contains [v1, v3] M3 ⟨fun t35_7 M7 => @OptBH (some t35_7) ⟨fun b35_7 =>
  @OptBH (unV .not (.bool b35_7)) ⟨fun b36_8 =>
  Q .normal [(8, (.bool b36_8))] M7⟩⟩⟩⟩
  ⟨Q .normal [(8, (.bool false))] M3⟩⟩⟩
theorem e32_13 (P : Program) (Q : Exit → Slots → Mem → Prop) (s : Slots) (M : Mem) : wpC P c32_13 Q s M = w32_13 P Q M (sget s 0) (sget s 1) (sget s 3) := by kernel_rfl
def c32_14 : ACode := (.seq c32_13 .ret)
def c32_15 : ACode := (.seq c32_11 c32_14)
def c32_16 : ACode := (.seq c32_6 c32_15)
def c32_17 : ACode := (.seq c32_1 c32_16)
def fn_transitref08_kept : AFn := ⟨38, [(.tmp 8)], c32_17⟩
theorem fn_transitref08_kept_ok : resFn PR h_transitref08_kept i_transitref08_kept = some fn_transitref08_kept := by kernel_rfl

def h_interval_Union_1 : Hints := ⟨[(0, [0, 1, 2]), (1, [4])], [], []⟩
def o33_0 : List AOper := [⟨some 4, (.mov (.const (.bool false))), true, none⟩]
def c33_1 : ACode := (.region o33_0 [0, 1, 2])
def w33_1 (_P : Program) (Q : Exit → Slots → Mem → Prop) (M : Mem) (v0 : V) (v1 : V) (v2 : V) : Prop :=
  Q .normal [(0, v0), (1, v1), (2, v2)] M
theorem e33_1 (P : Program) (Q : Exit → Slots → Mem → Prop) (s : Slots) (M : Mem) : wpC P c33_1 Q s M = w33_1 P Q M (sget s 0) (sget s 1) (sget s 2) := by kernel_rfl
def o33_2 : List AOper := [⟨some 5, (.load 1 false (.tmp 1)), false, none⟩,
  ⟨some 6, (.mov (.tmp 0)), false, none⟩,
  ⟨some 7, (.call i_interval_Contains [(.tmp 5), (.tmp 6)]), true, none⟩,
  ⟨some 8, (.mov (.tmp 7)), true, none⟩,
  ⟨some 9, (.load 1 false (.tmp 2)), false, some (8, false)⟩,
  ⟨some 10, (.mov (.tmp 0)), false, some (8, false)⟩,
  ⟨some 11, (.call i_interval_Contains [(.tmp 9), (.tmp 10)]), true, some (8, false)⟩,
  ⟨some 12, (.pick (.tmp 8) (.const (.bool true)) (.tmp 11)), true, none⟩,
  ⟨some 4, (.mov (.tmp 12)), true, none⟩]
def c33_3 : ACode := (.region o33_2 [4])
def w33_3 (P : Program) (Q : Exit → Slots → Mem → Prop) (M : Mem) (v0 : V) (v1 : V) (v2 : V) : Prop :=
  @OptVH (loadV 1 false v1 M) ⟨fun t5_1 =>
  @CallH P i_interval_Contains [t5_1, v0] M ⟨fun t7_3 M3 => @OptBH (some t7_3) ⟨fun b7_3 =>
  @BIfH b7_3
  ⟨Q .normal [(4, (.bool true))] M3⟩
  ⟨@OptVH (loadV 1 false v2 M3) ⟨fun t9_7 =>
  @CallH P i_interval_Contains [t9_7, v0] M3 ⟨fun t11_9 M9 => @OptBH (some t11_9) ⟨fun b11_9 =>
  Q .normal [(4, (.bool b11_9))] M9⟩⟩⟩⟩⟩⟩⟩
theorem e33_3 (P : Program) (Q : Exit → Slots → Mem → Prop) (s : Slots) (M : Mem) : wpC P c33_3 Q s M = w33_3 P Q M (sget s 0) (sget s 1) (sget s 2) := by kernel_rfl
def c33_4 : ACode := (.seq c33_3 .ret)
def c33_5 : ACode := (.seq c33_1 c33_4)
def fn_interval_Union_1 : AFn := ⟨13, [(.tmp 4)], c33_5⟩
theorem fn_interval_Union_1_ok : resFn PR h_interval_Union_1 i_interval_Union_1 = some fn_interval_Union_1 := by kernel_rfl

def h_interval_Intersect_1 : Hints := ⟨[(0, [0, 1, 2]), (1, [4])], [], []⟩
def o34_0 : List AOper := [⟨some 4, (.mov (.const (.bool false))), true, none⟩]
def c34_1 : ACode := (.region o34_0 [0, 1, 2])
def w34_1 (_P : Program) (Q : Exit → Slots → Mem → Prop) (M : Mem) (v0 : V) (v1 : V) (v2 : V) : Prop :=
  Q .normal [(0, v0), (1, v1), (2, v2)] M
theorem e34_1 (P : Program) (Q : Exit → Slots → Mem → Prop) (s : Slots) (M : Mem) : wpC P c34_1 Q s M = w34_1 P Q M (sget s 0) (sget s 1) (sget s 2) := by kernel_rfl
def o34_2 : List AOper := [⟨some 5, (.load 1 false (.tmp 1)), false, none⟩,
  ⟨some 6, (.mov (.tmp 0)), false, none⟩,
  ⟨some 7, (.call i_interval_Contains [(.tmp 5), (.tmp 6)]), true, none⟩,
  ⟨some 8, (.mov (.tmp 7)), true, none⟩,
  ⟨some 9, (.load 1 false (.tmp 2)), false, some (8, true)⟩,
  ⟨some 10, (.mov (.tmp 0)), false, some (8, true)⟩,
  ⟨some 11, (.call i_interval_Contains [(.tmp 9), (.tmp 10)]), true, some (8, true)⟩,
  ⟨some 12, (.pick (.tmp 8) (.tmp 11) (.const (.bool false))), true, none⟩,
  ⟨some 4, (.mov (.tmp 12)), true, none⟩]
def c34_3 : ACode := (.region o34_2 [4])
def w34_3 (P : Program) (Q : Exit → Slots → Mem → Prop) (M : Mem) (v0 : V) (v1 : V) (v2 : V) : Prop :=
  @OptVH (loadV 1 false v1 M) ⟨fun t5_1 =>
  @CallH P i_interval_Contains [t5_1, v0] M ⟨fun t7_3 M3 => @OptBH (some t7_3) ⟨fun b7_3 =>
  @BIfH b7_3
  ⟨@OptVH (loadV 1 false v2 M3) ⟨fun t9_5 =>
  @CallH P i_interval_Contains [t9_5, v0] M3 ⟨fun t11_7 M7 => @OptBH (some t11_7) ⟨fun b11_7 =>
  Q .normal [(4, (.bool b11_7))] M7⟩⟩⟩⟩
  ⟨Q .normal [(4, (.bool false))] M3⟩⟩⟩⟩
theorem e34_3 (P : Program) (Q : Exit → Slots → Mem → Prop) (s : Slots) (M : Mem) : wpC P c34_3 Q s M = w34_3 P Q M (sget s 0) (sget s 1) (sget s 2) := by kernel_rfl
def c34_4 : ACode := (.seq c34_3 .ret)
def c34_5 : ACode := (.seq c34_1 c34_4)
def fn_interval_Intersect_1 : AFn := ⟨13, [(.tmp 4)], c34_5⟩
theorem fn_interval_Intersect_1_ok : resFn PR h_interval_Intersect_1 i_interval_Intersect_1 = some fn_interval_Intersect_1 := by kernel_rfl

def h_interval_Subtract_1 : Hints := ⟨[(0, [0, 1, 2]), (1, [4])], [], []⟩
def o35_0 : List AOper := [⟨some 4, (.mov (.const (.bool false))), true, none⟩]
def c35_1 : ACode := (.region o35_0 [0, 1, 2])
def w35_1 (_P : Program) (Q : Exit → Slots → Mem → Prop) (M : Mem) (v0 : V) (v1 : V) (v2 : V) : Prop :=
  Q .normal [(0, v0), (1, v1), (2, v2)] M
theorem e35_1 (P : Program) (Q : Exit → Slots → Mem → Prop) (s : Slots) (M : Mem) : wpC P c35_1 Q s M = w35_1 P Q M (sget s 0) (sget s 1) (sget s 2) := by kernel_rfl
def o35_2 : List AOper := [⟨some 5, (.load 1 false (.tmp 1)), false, none⟩,
  ⟨some 6, (.mov (.tmp 0)), false, none⟩,
  ⟨some 7, (.call i_interval_Contains [(.tmp 5), (.tmp 6)]), true, none⟩,
  ⟨some 8, (.mov (.tmp 7)), true, none⟩,
  ⟨some 9, (.load 1 false (.tmp 2)), false, some (8, true)⟩,
  ⟨some 10, (.mov (.tmp 0)), false, some (8, true)⟩,
  ⟨some 11, (.call i_interval_Contains [(.tmp 9), (.tmp 10)]), true, some (8, true)⟩,
  ⟨some 12, (.un .not (.tmp 11)), true, some (8, true)⟩,
  ⟨some 13, (.pick (.tmp 8) (.tmp 12) (.const (.bool false))), true, none⟩,
  ⟨some 4, (.mov (.tmp 13)), true, none⟩]
def c35_3 : ACode := (.region o35_2 [4])
def w35_3 (P : Program) (Q : Exit → Slots → Mem → Prop) (M : Mem) (v0 : V) (v1 : V) (v2 : V) : Prop :=
  @OptVH (loadV 1 false v1 M) ⟨fun t5_1 =>
  @CallH P i_interval_Contains [t5_1, v0] M ⟨fun t7_3 M3 => @OptBH (some t7_3) ⟨fun b7_3 =>
  @BIfH b7_3
  ⟨@OptVH (loadV 1 false v2 M3) ⟨fun t9_5 =>
  @CallH P i_interval_Contains [t9_5, v0] M3 ⟨fun t11_7 M7 => @OptBH (some t11_7) ⟨fun b11_7 =>
  @OptBH (unV .not (.bool b11_7)) ⟨fun b12_8 =>
  Q .normal [(4, (.bool b12_8))] M7⟩⟩⟩⟩⟩
  ⟨Q .normal [(4, (.bool false))] M3⟩⟩⟩⟩
theorem e35_3 (P : Program) (Q : Exit → Slots → Mem → Prop) (s : Slots) (M : Mem) : wpC P c35_3 Q s M = w35_3 P Q M (sget s 0) (sget s 1) (sget s 2) := by kernel_rfl
def c35_4 : ACode := (.seq c35_3 .ret)
def c35_5 : ACode := (.seq c35_1 c35_4)
def fn_interval_Subtract_1 : AFn := ⟨14, [(.tmp 4)], c35_5⟩
theorem fn_interval_Subtract_1_ok : resFn PR h_interval_Subtract_1 i_interval_Subtract_1 = some fn_interval_Subtract_1 := by kernel_rfl

def h_transitref08_insert : Hints := ⟨[(0, [0, 1]), (1, [0, 1, 5]), (2, [0, 1, 5, 18]), (3, [0, 1, 5]), (4, [0, 1, 5, 32]), (5, [4]), (6, [0, 1, 5, 6]), (7, [0, 1, 5, 6]), (8, [0, 5, 6]), (9, [4])], [(2, [0, 1, 5])], [(6, [0])]⟩
def o38_0 : List AOper := [⟨some 4, (.mov (.const (.slice [] .nil))), false, none⟩]
def c38_1 : ACode := (.region o38_0 [0, 1])
def w38_1 (_P : Program) (Q : Exit → Slots → Mem → Prop) (M : Mem) (v0 : V) (v1 : V) : Prop :=
  Q .normal [(0, v0), (1, v1)] M
theorem e38_1 (P : Program) (Q : Exit → Slots → Mem → Prop) (s : Slots) (M : Mem) : wpC P c38_1 Q s M = w38_1 P Q M (sget s 0) (sget s 1) := by kernel_rfl
def o38_2 : List AOper := [⟨some 5, (.mov (.const (.int .i64 0))), false, none⟩]
def c38_3 : ACode := (.region o38_2 [0, 1, 5])
def w38_3 (_P : Program) (Q : Exit → Slots → Mem → Prop) (M : Mem) (v0 : V) (v1 : V) : Prop :=
  Q .normal [(0, v0), (1, v1), (5, (.int .i64 0))] M
theorem e38_3 (P : Program) (Q : Exit → Slots → Mem → Prop) (s : Slots) (M : Mem) : wpC P c38_3 Q s M = w38_3 P Q M (sget s 0) (sget s 1) := by kernel_rfl
def o38_4 : List AOper := [⟨some 7, (.mov (.tmp 5)), false, none⟩,
  ⟨some 8, (.mov (.tmp 0)), false, none⟩,
  ⟨some 9, (.lenSl (.tmp 8)), false, none⟩,
  ⟨some 10, (.bin .lss .none (.tmp 7) (.tmp 9)), true, none⟩,
  ⟨some 11, (.mov (.tmp 10)), true, none⟩,
  ⟨some 12, (.mov (.tmp 0)), false, some (11, true)⟩,
  ⟨some 13, (.mov (.tmp 5)), false, some (11, true)⟩,
  ⟨some 14, (.indexSl 1 (.tmp 12) (.tmp 13)), false, some (11, true)⟩,
  ⟨some 15, (.load 1 false (.tmp 14)), false, some (11, true)⟩,
  ⟨some 16, (.mov (.tmp 1)), false, some (11, true)⟩,
  ⟨some 17, (.bin .lss .none (.tmp 15) (.tmp 16)), true, some (11, true)⟩,
  ⟨some 18, (.pick (.tmp 11) (.tmp 17) (.const (.bool false))), true, none⟩]
def c38_5 : ACode := (.seq (.region o38_4 [0, 1, 5, 18]) (.cond (.tmp 18) .skip (.exit 0)))
def w38_5 (_P : Program) (Q : Exit → Slots → Mem → Prop) (M : Mem) (v0 : V) (v1 : V) (v5 : V) : Prop :=
  @OptVH (lenV v0 M) ⟨fun t9_3 =>
  @OptBH (binV .lss .none v5 t9_3) ⟨fun b10_4 =>
  @BIfH b10_4
  ⟨@OptVH (indexSlV 1 v0 v5 M) ⟨fun t14_8 =>
  @OptVH (loadV 1 false t14_8 M) ⟨fun t15_9 =>
  @OptBH (binV .lss .none t15_9 v1) ⟨fun b17_11 =>
  @BIfH b17_11
  ⟨Q .normal [(0, v0), (1, v1), (5, v5), (18, (.bool b17_11))] M⟩
  ⟨Q (.exit 0) [(0, v0), (1, v1), (5, v5), (18, (.bool b17_11))] M⟩⟩⟩⟩⟩
  ⟨Q (.exit 0) [(0, v0), (1, v1), (5, v5), (18, (.bool false))] M⟩⟩⟩
theorem e38_5 (P : Program) (Q : Exit → Slots → Mem → Prop) (s : Slots) (M : Mem) : wpC P c38_5 Q s M = w38_5 P Q M (sget s 0) (sget s 1) (sget s 5) := by kernel_rfl
def o38_6 : List AOper := [⟨some 19, (.mov (.tmp 5)), false, none⟩,
  ⟨some 20, (.bin .add .none (.tmp 19) (.const (.int .i64 1))), false, none⟩,
  ⟨some 5, (.mov (.tmp 20)), false, none⟩]
def c38_7 : ACode := (.region o38_6 [0, 1, 5])
def w38_7 (_P : Program) (Q : Exit → Slots → Mem → Prop) (M : Mem) (v0 : V) (v1 : V) (v5 : V) : Prop :=
  @OptVH (binV .add .none v5 (.int .i64 1)) ⟨fun t20_2 =>
  Q .normal [(0, v0), (1, v1), (5, t20_2)] M⟩
theorem e38_7 (P : Program) (Q : Exit → Slots → Mem → Prop) (s : Slots) (M : Mem) : wpC P c38_7 Q s M = w38_7 P Q M (sget s 0) (sget s 1) (sget s 5) := by kernel_rfl
def c38_8 : ACode := (.block 1 c38_7)
def c38_9 : ACode := (.seq c38_5 c38_8)
def c38_10 : ACode := (.loop [0, 1, 5] c38_9)
def c38_11 : ACode := (.block 0 c38_10)
def o38_12 : List AOper := [⟨some 33, (.mov (.tmp 0)), false, none⟩,
  ⟨some 4, (.mov (.tmp 33)), false, none⟩]
def c38_13 : ACode := (.region o38_12 [4])
def w38_13 (_P : Program) (Q : Exit → Slots → Mem → Prop) (M : Mem) (v0 : V) : Prop :=
  Q .normal [(4, v0)] M
theorem e38_13 (P : Program) (Q : Exit → Slots → Mem → Prop) (s : Slots) (M : Mem) : wpC P c38_13 Q s M = w38_13 P Q M (sget s 0) := by kernel_rfl
def c38_14 : ACode := (.seq c38_13 .ret)
def o38_15 : List AOper := [⟨some 21, (.mov (.tmp 5)), false, none⟩,
  ⟨some 22, (.mov (.tmp 0)), false, none⟩,
  ⟨some 23, (.lenSl (.tmp 22)), false, none⟩,
  ⟨some 24, (.bin .lss .none (.tmp 21) (.tmp 23)), true, none⟩,
  ⟨some 25, (.mov (.tmp 24)), true, none⟩,
  ⟨some 26, (.mov (.tmp 0)), false, some (25, true)⟩,
  ⟨some 27, (.mov (.tmp 5)), false, some (25, true)⟩,
  ⟨some 28, (.indexSl 1 (.tmp 26) (.tmp 27)), false, some (25, true)⟩,
  ⟨some 29, (.load 1 false (.tmp 28)), false, some (25, true)⟩,
  ⟨some 30, (.mov (.tmp 1)), false, some (25, true)⟩,
  ⟨some 31, (.bin .eql .none (.tmp 29) (.tmp 30)), true, some (25, true)⟩,
  ⟨some 32, (.pick (.tmp 25) (.tmp 31) (.const (.bool false))), true, none⟩]
def c38_16 : ACode := (.seq (.region o38_15 [0, 1, 5, 32]) (.cond (.tmp 32) c38_14 .skip))
def w38_16 (P : Program) (Q : Exit → Slots → Mem → Prop) (M : Mem) (v0 : V) (v1 : V) (v5 : V) : Prop :=
  @OptVH (lenV v0 M) ⟨fun t23_3 =>
  @OptBH (binV .lss .none v5 t23_3) ⟨fun b24_4 =>
  @BIfH b24_4
  ⟨@OptVH (indexSlV 1 v0 v5 M) ⟨fun t28_8 =>
  @OptVH (loadV 1 false t28_8 M) ⟨fun t29_9 =>
  @OptBH (binV .eql .none t29_9 v1) ⟨fun b31_11 =>
  @BIfH b31_11
  ⟨wpC P c38_14 Q [(0, v0), (1, v1), (5, v5), (32, (.bool b31_11))] M⟩
  ⟨Q .normal [(0, v0), (1, v1), (5, v5), (32, (.bool b31_11))] M⟩⟩⟩⟩⟩
  ⟨Q .normal [(0, v0), (1, v1), (5, v5), (32, (.bool false))] M⟩⟩⟩
theorem e38_16 (P : Program) (Q : Exit → Slots → Mem → Prop) (s : Slots) (M : Mem) : wpC P c38_16 Q s M = w38_16 P Q M (sget s 0) (sget s 1) (sget s 5) := by kernel_rfl
def o38_17 : List AOper := [⟨some 6, (.newarr 1), false, none⟩]
def c38_18 : ACode := (.region o38_17 [0, 1, 5, 6])
def w38_18 (_P : Program) (Q : Exit → Slots → Mem → Prop) (M : Mem) (v0 : V) (v1 : V) (v5 : V) : Prop :=
  @OptMH (newarrV 1 M) ⟨fun t6_1 M1 =>
  Q .normal [(0, v0), (1, v1), (5, v5), (6, t6_1)] M1⟩
theorem e38_18 (P : Program) (Q : Exit → Slots → Mem → Prop) (s : Slots) (M : Mem) : wpC P c38_18 Q s M = w38_18 P Q M (sget s 0) (sget s 1) (sget s 5) := by kernel_rfl
def o38_19 : List AOper := [⟨some 34, (.mov (.tmp 6)), false, none⟩,
  ⟨some 35, (.mov (.tmp 0)), false, none⟩,
  ⟨some 36, (.mov (.tmp 5)), false, none⟩,
  ⟨some 37, (.slice 1 (.tmp 35) none (some (.tmp 36)) none), false, none⟩,
  ⟨some 38, (.append false 1 8 (.tmp 34) (.tmp 37)), false, none⟩,
  ⟨some 6, (.mov (.tmp 38)), false, none⟩]
def c38_20 : ACode := (.region o38_19 [0, 1, 5, 6])
def w38_20 (_P : Program) (Q : Exit → Slots → Mem → Prop) (M : Mem) (v0 : V) (v1 : V) (v5 : V) (v6 : V) : Prop :=
  @OptVH (sliceV 1 v0 none (some v5) none M) ⟨fun t37_4 =>
  @OptMH (appV false 1 8 v6 t37_4 M) ⟨fun t38_5 M5 =>
  Q .normal [(0, v0), (1, v1), (5, v5), (6, t38_5)] M5⟩⟩
theorem e38_20 (P : Program) (Q : Exit → Slots → Mem → Prop) (s : Slots) (M : Mem) : wpC P c38_20 Q s M = w38_20 P Q M (sget s 0) (sget s 1) (sget s 5) (sget s 6) := by kernel_rfl
def o38_21 : List AOper := [⟨some 39, (.mov (.tmp 6)), false, none⟩,
  ⟨some 40, (.mov (.tmp 1)), false, none⟩,
  ⟨some 41, (.buildSlice [(.int .i64 0)] 1 1 [(0, (1, (.tmp 40)))]), false, none⟩,
  ⟨some 42, (.append false 1 8 (.tmp 39) (.tmp 41)), false, none⟩,
  ⟨some 6, (.mov (.tmp 42)), false, none⟩]
def c38_22 : ACode := (.region o38_21 [0, 5, 6])
def w38_22 (_P : Program) (Q : Exit → Slots → Mem → Prop) (M : Mem) (v0 : V) (v1 : V) (v5 : V) (v6 : V) : Prop :=
  @OptVH (buildSliceV [(.int .i64 0)] 1 1 [(0, 1, v1)]) ⟨fun t41_3 =>
  @OptMH (appV false 1 8 v6 t41_3 M) ⟨fun t42_4 M4 =>
  Q .normal [(0, v0), (5, v5), (6, t42_4)] M4⟩⟩
theorem e38_22 (P : Program) (Q : Exit → Slots → Mem → Prop) (s : Slots) (M : Mem) : wpC P c38_22 Q s M = w38_22 P Q M (sget s 0) (sget s 1) (sget s 5) (sget s 6) := by kernel_rfl
def o38_23 : List AOper := [⟨some 43, (.mov (.tmp 6)), false, none⟩,
  ⟨some 44, (.mov (.tmp 0)), false, none⟩,
  ⟨some 45, (.mov (.tmp 5)), false, none⟩,
  ⟨some 46, (.slice 1 (.tmp 44) (some (.tmp 45)) none none), false, none⟩,
  ⟨some 47, (.append false 1 8 (.tmp 43) (.tmp 46)), false, none⟩,
  ⟨some 4, (.mov (.tmp 47)), false, none⟩]
def c38_24 : ACode := (.region o38_23 [4])
def w38_24 (_P : Program) (Q : Exit → Slots → Mem → Prop) (M : Mem) (v0 : V) (v5 : V) (v6 : V) : Prop :=
  @OptVH (sliceV 1 v0 (some v5) none none M) ⟨fun t46_4 =>
  @OptMH (appV false 1 8 v6 t46_4 M) ⟨fun t47_5 M5 =>
  Q .normal [(4, t47_5)] M5⟩⟩
theorem e38_24 (P : Program) (Q : Exit → Slots → Mem → Prop) (s : Slots) (M : Mem) : wpC P c38_24 Q s M = w38_24 P Q M (sget s 0) (sget s 5) (sget s 6) := by kernel_rfl
def c38_25 : ACode := (.seq c38_24 .ret)
def c38_26 : ACode := (.seq c38_22 c38_25)
def c38_27 : ACode := (.seq c38_20 c38_26)
def c38_28 : ACode := (.seq c38_18 c38_27)
def c38_29 : ACode := (.seq c38_16 c38_28)
def c38_30 : ACode := (.seq c38_11 c38_29)
def c38_31 : ACode := (.seq c38_3 c38_30)
def c38_32 : ACode := (.seq c38_1 c38_31)
def fn_transitref08_insert : AFn := ⟨48, [(.tmp 4)], c38_32⟩
theorem fn_transitref08_insert_ok : resFn PR h_transitref08_insert i_transitref08_insert = some fn_transitref08_insert := by kernel_rfl

def tabL : List (Nat × AFn × Bool) := [(3, fn_transitlaw08_IntervalContains, false), (4, fn_transitlaw08_IntervalNormalizes, false), (5, fn_transitlaw08_IntervalCombines, false), (6, fn_transitlaw08_IntervalLengths, false), (7, fn_transitlaw08_IntervalGaps, false), (8, fn_transitlaw08_IntervalAlgebra, false), (9, fn_transitlaw08_IntervalCanonical, false), (10, fn_transitlaw08_IntervalMeasures, false), (11, fn_transitlaw08_exampleHolds, false), (12, fn_interval_Valid, false), (13, fn_interval_Contains, false), (14, fn_transitlaw08_spans, false), (15, fn_transitref08_Contains, false), (16, fn_transitlaw08_equal, false), (17, fn_interval_Normalize, false), (18, fn_transitref08_Combine, false), (19, fn_interval_Union, false), (20, fn_interval_Intersect, false), (21, fn_interval_Subtract, false), (22, fn_interval_Length, false), (23, fn_transitref08_Length, false), (24, fn_interval_Gaps, false), (25, fn_transitlaw08_normal, false), (26, fn_transitlaw08_same, false), (27, fn_transitlaw08_bounded, false), (28, fn_interval_build, false), (29, fn_interval_bounds, false), (30, fn_interval_Normalize_1, false), (31, fn_transitref08_ends, false), (32, fn_transitref08_kept, false), (33, fn_interval_Union_1, false), (34, fn_interval_Intersect_1, false), (35, fn_interval_Subtract_1, false), (38, fn_transitref08_insert, false)]
theorem tab_ok : TabOK PR (tabOf tabL) := tabOf_cons fn_transitlaw08_IntervalContains_ok (tabOf_cons fn_transitlaw08_IntervalNormalizes_ok (tabOf_cons fn_transitlaw08_IntervalCombines_ok (tabOf_cons fn_transitlaw08_IntervalLengths_ok (tabOf_cons fn_transitlaw08_IntervalGaps_ok (tabOf_cons fn_transitlaw08_IntervalAlgebra_ok (tabOf_cons fn_transitlaw08_IntervalCanonical_ok (tabOf_cons fn_transitlaw08_IntervalMeasures_ok (tabOf_cons fn_transitlaw08_exampleHolds_ok (tabOf_cons fn_interval_Valid_ok (tabOf_cons fn_interval_Contains_ok (tabOf_cons fn_transitlaw08_spans_ok (tabOf_cons fn_transitref08_Contains_ok (tabOf_cons fn_transitlaw08_equal_ok (tabOf_cons fn_interval_Normalize_ok (tabOf_cons fn_transitref08_Combine_ok (tabOf_cons fn_interval_Union_ok (tabOf_cons fn_interval_Intersect_ok (tabOf_cons fn_interval_Subtract_ok (tabOf_cons fn_interval_Length_ok (tabOf_cons fn_transitref08_Length_ok (tabOf_cons fn_interval_Gaps_ok (tabOf_cons fn_transitlaw08_normal_ok (tabOf_cons fn_transitlaw08_same_ok (tabOf_cons fn_transitlaw08_bounded_ok (tabOf_cons fn_interval_build_ok (tabOf_cons fn_interval_bounds_ok (tabOf_cons fn_interval_Normalize_1_ok (tabOf_cons fn_transitref08_ends_ok (tabOf_cons fn_transitref08_kept_ok (tabOf_cons fn_interval_Union_1_ok (tabOf_cons fn_interval_Intersect_1_ok (tabOf_cons fn_interval_Subtract_1_ok (tabOf_cons fn_transitref08_insert_ok (tabOf_nil))))))))))))))))))))))))))))))))))

end Go.Vm.C
