/- The abstract code of the functions that the statements reach, printed by a program, each with the equation that it is what the loaded program says. Part 0. -/
import Derived.Test.YtojpmklnmaomlaaProg
import Derived.Test.YtojpmklnmaomlaaVm2
import Derived.KernelRfl
namespace Go.Vm.C
open Go.Vm

abbrev i_main_main : Nat := 0
abbrev i_gosem_cut : Nat := 1
abbrev i_gosem_cut_init : Nat := 2
abbrev i_transitlaw37_AccountCap : Nat := 3
abbrev i_transitlaw37_AccountSums : Nat := 4
abbrev i_transitlaw37_AccountRuns : Nat := 5
abbrev i_transitlaw37_AccountNone : Nat := 6
abbrev i_transitlaw37_large : Nat := 7
abbrev i_transitlaw37_exampleHolds : Nat := 8
abbrev i_account_New : Nat := 9
abbrev i_transitlaw37_do : Nat := 10
abbrev i_account_Account_Spent : Nat := 11
abbrev i_account_Account_Left : Nat := 12
abbrev i_transitref35_Price : Nat := 13
abbrev i_transitref37_New : Nat := 14
abbrev i_transitref37_Refund : Nat := 15
abbrev i_transitref37_Charge : Nat := 16
abbrev i_transitref37_On : Nat := 17
abbrev i_account_Account_Total : Nat := 18
abbrev i_transitref37_Total : Nat := 19
abbrev i_transitref03_SameInts : Nat := 20
abbrev i_account_Account_Days : Nat := 21
abbrev i_transitref37_Left : Nat := 22
abbrev i_account_Account_Charge : Nat := 23
abbrev i_account_Account_Refund : Nat := 24
abbrev i_transitlaw37_one : Nat := 25
abbrev i_fare_Price : Nat := 26
abbrev i_slices_Clone_api_Product_api_Product : Nat := 27
abbrev i_account_valid : Nat := 28
abbrev i_transitref35_Valid : Nat := 29
abbrev i_transitref35_Best : Nat := 30
abbrev i_transitref35_Capped : Nat := 31
abbrev i_transitref35_Sum : Nat := 32
abbrev i_transitref21_Check : Nat := 33
abbrev i_transitref37_find : Nat := 34
abbrev i_transitref37_put : Nat := 35
abbrev i_account_amounts_sum : Nat := 36
abbrev i_slices_Sort_int_int : Nat := 37
abbrev i_fare_valid : Nat := 38
abbrev i_fare_divide : Nat := 39
abbrev i_fare_capped : Nat := 40
abbrev i_number_Clamp : Nat := 41
abbrev i_transitref26_Fares : Nat := 42
abbrev i_transitref35_Covers : Nat := 43
abbrev i_transitref35_Ticket : Nat := 44
abbrev i_transitref35_better : Nat := 45
abbrev i_transitref21_within : Nat := 46
abbrev i_transitref15_Name : Nat := 47
abbrev i_transitref21_Right : Nat := 48
abbrev i_slices_pdqsortOrdered_int : Nat := 49
abbrev i_math_bits_Len : Nat := 50
abbrev i_product_Check : Nat := 51
abbrev i_fare_divide_1 : Nat := 52
abbrev i_product_Covers : Nat := 53
abbrev i_fare_ticketPrice : Nat := 54
abbrev i_fare_rest_better : Nat := 55
abbrev i_transitref26_in : Nat := 56
abbrev i_transitref26_ValidID : Nat := 57
abbrev i_transitref35_bits : Nat := 58
abbrev i_transitref35_within : Nat := 59
abbrev i_slices_insertionSortOrdered_int : Nat := 60
abbrev i_slices_heapSortOrdered_int : Nat := 61
abbrev i_slices_breakPatternsOrdered_int : Nat := 62
abbrev i_slices_choosePivotOrdered_int : Nat := 63
abbrev i_slices_reverseRangeOrdered_int : Nat := 64
abbrev i_slices_partialInsertionSortOrdered_int : Nat := 65
abbrev i_cmp_Less_int : Nat := 66
abbrev i_slices_partitionEqualOrdered_int : Nat := 67
abbrev i_slices_partitionOrdered_int : Nat := 68
abbrev i_math_bits_Len32 : Nat := 69
abbrev i_math_bits_Len64 : Nat := 70
abbrev i_product_within : Nat := 71
abbrev i_ident_Valid : Nat := 72
abbrev i_product_later : Nat := 73
abbrev i_product_Covers_1 : Nat := 74
abbrev i_bitset_Set_Union : Nat := 75
abbrev i_bitset_Set_Len : Nat := 76
abbrev i_bitset_Set_Within : Nat := 77
abbrev i_fare_within : Nat := 78
abbrev i_slices_siftDownOrdered_int : Nat := 79
abbrev i_slices_nextPowerOfTwo : Nat := 80
abbrev i_slices_xorshift_Next : Nat := 81
abbrev i_slices_medianAdjacentOrdered_int : Nat := 82
abbrev i_slices_medianOrdered_int : Nat := 83
abbrev i_cmp_isNaN_int : Nat := 84
abbrev i_slices_order2Ordered_int : Nat := 85
abbrev i_runtime_boundsError_Error : Nat := 86
abbrev i_runtime_boundsError_RuntimeError : Nat := 87
abbrev i_runtime_errorString_Error : Nat := 88
abbrev i_runtime_errorString_RuntimeError : Nat := 89
abbrev i_runtime_plainError_Error : Nat := 90
abbrev i_runtime_plainError_RuntimeError : Nat := 91
abbrev i_runtime_errorAddressString_Error : Nat := 92
abbrev i_runtime_errorAddressString_RuntimeError : Nat := 93
abbrev i_runtime_TypeAssertionError_Error : Nat := 94
abbrev i_runtime_TypeAssertionError_RuntimeError : Nat := 95
abbrev i_runtime_PanicNilError_Error : Nat := 96
abbrev i_runtime_PanicNilError_RuntimeError : Nat := 97
abbrev i_internal_abi_Type_Align : Nat := 98
abbrev i_internal_runtime_maps_unhashableTypeError_Error : Nat := 99
abbrev i_internal_runtime_maps_unhashableTypeError_RuntimeError : Nat := 100
abbrev i_internal_abi_Kind_String : Nat := 101
noncomputable abbrev PR : Program := Go.Proofs.Try.prog

def h_transitlaw37_AccountRuns : Hints := ⟨[(0, [1, 2]), (1, [1, 2, 20]), (2, [4]), (3, [1, 2, 5, 6]), (4, [1, 5, 6, 7, 8]), (5, [1, 5, 6, 7, 41]), (6, [4]), (7, [1, 5, 6, 7, 9]), (8, [1, 5, 6, 7, 9, 49]), (9, [1, 5, 6, 7, 9]), (10, [1, 5, 6, 7, 9, 10, 11]), (11, [1, 5, 6, 7, 9, 10, 11, 12]), (12, [1, 5, 6, 7, 9, 10, 11, 12, 65]), (13, [1, 5, 6, 7, 9, 10, 11, 12, 13]), (14, [1, 5, 6, 7, 9, 10, 11, 12, 13]), (15, [1, 5, 6, 7, 9, 136]), (16, [4]), (17, [1, 5, 6, 7, 9, 14, 15]), (18, [1, 5, 6, 7, 9, 14, 15, 16, 17]), (19, [1, 5, 6, 7, 9, 164]), (20, [4]), (21, [4])], [(8, [1, 5, 6, 7, 9])], []⟩
def o5_0 : List AOper := [⟨some 2, (.box 4 (.tmp 0)), false, none⟩,
  ⟨some 4, (.mov (.const (.bool false))), true, none⟩]
def c5_1 : ACode := (.region o5_0 [1, 2])
def w5_1 (_P : Program) (Q : Exit → Slots → Mem → Prop) (M : Mem) (v0 : V) (v1 : V) : Prop :=
  @OptMH (boxV 4 v0 M) ⟨fun t2_1 M1 =>
  Q .normal [(1, v1), (2, t2_1)] M1⟩
theorem e5_1 (P : Program) (Q : Exit → Slots → Mem → Prop) (s : Slots) (M : Mem) : wpC P c5_1 Q s M = w5_1 P Q M (sget s 0) (sget s 1) := by kernel_rfl
def o5_2 : List AOper := [⟨some 21, (.call i_transitlaw37_exampleHolds []), true, none⟩,
  ⟨some 4, (.mov (.tmp 21)), true, none⟩]
def c5_3 : ACode := (.region o5_2 [4])
def w5_3 (P : Program) (Q : Exit → Slots → Mem → Prop) (M : Mem) : Prop :=
  @CallH P i_transitlaw37_exampleHolds [] M ⟨fun t21_1 M1 => @OptBH (some t21_1) ⟨fun b21_1 =>
  Q .normal [(4, (.bool b21_1))] M1⟩⟩
theorem e5_3 (P : Program) (Q : Exit → Slots → Mem → Prop) (s : Slots) (M : Mem) : wpC P c5_3 Q s M = w5_3 P Q M := by kernel_rfl
def c5_4 : ACode := (.seq c5_3 .ret)
def o5_5 : List AOper := [⟨some 18, (.load 4 true (.tmp 2)), false, none⟩,
  ⟨some 19, (.mov (.tmp 1)), false, none⟩,
  ⟨some 20, (.call i_transitlaw37_large [(.tmp 18), (.tmp 19)]), true, none⟩]
def c5_6 : ACode := (.seq (.region o5_5 [1, 2, 20]) (.cond (.tmp 20) c5_4 .skip))
def w5_6 (P : Program) (Q : Exit → Slots → Mem → Prop) (M : Mem) (v1 : V) (v2 : V) : Prop :=
  @OptVH (loadV 4 true v2 M) ⟨fun t18_1 =>
  @CallH P i_transitlaw37_large [t18_1, v1] M ⟨fun t20_3 M3 => @OptBH (some t20_3) ⟨fun b20_3 =>
  @BIfH b20_3
  ⟨wpC P c5_4 Q [(1, v1), (2, v2), (20, (.bool b20_3))] M3⟩
  ⟨Q .normal [(1, v1), (2, v2), (20, (.bool b20_3))] M3⟩⟩⟩⟩
theorem e5_6 (P : Program) (Q : Exit → Slots → Mem → Prop) (s : Slots) (M : Mem) : wpC P c5_6 Q s M = w5_6 P Q M (sget s 1) (sget s 2) := by kernel_rfl
def o5_7 : List AOper := [⟨some 23, (.load 4 true (.tmp 2)), false, none⟩,
  ⟨some 24, (.call i_account_New [(.tmp 23)]), false, none⟩,
  ⟨some 22, (.mov (.tmp 24)), false, none⟩,
  ⟨some 25, (.extract (.tmp 22) 0), false, none⟩,
  ⟨some 26, (.extract (.tmp 22) 1), false, none⟩,
  ⟨some 5, (.mov (.tmp 25)), false, none⟩,
  ⟨some 6, (.mov (.tmp 26)), false, none⟩]
def c5_8 : ACode := (.region o5_7 [1, 2, 5, 6])
def w5_8 (P : Program) (Q : Exit → Slots → Mem → Prop) (M : Mem) (v1 : V) (v2 : V) : Prop :=
  @OptVH (loadV 4 true v2 M) ⟨fun t23_1 =>
  @CallH P i_account_New [t23_1] M ⟨fun t24_2 M2 =>
  @OptVH (extractV t24_2 0) ⟨fun t25_4 =>
  @OptVH (extractV t24_2 1) ⟨fun t26_5 =>
  Q .normal [(1, v1), (2, v2), (5, t25_4), (6, t26_5)] M2⟩⟩⟩⟩
theorem e5_8 (P : Program) (Q : Exit → Slots → Mem → Prop) (s : Slots) (M : Mem) : wpC P c5_8 Q s M = w5_8 P Q M (sget s 1) (sget s 2) := by kernel_rfl
def o5_9 : List AOper := [⟨some 28, (.load 4 true (.tmp 2)), false, none⟩,
  ⟨some 29, (.call i_transitref37_New [(.tmp 28)]), false, none⟩,
  ⟨some 27, (.mov (.tmp 29)), false, none⟩,
  ⟨some 30, (.extract (.tmp 27) 0), false, none⟩,
  ⟨some 31, (.extract (.tmp 27) 1), false, none⟩,
  ⟨some 7, (.alloc [(.slice [] .nil), (.int .i64 0), (.int .i64 0), (.int .i64 0), (.slice [] .nil), (.slice [] .nil)]), false, none⟩,
  ⟨none, (.store 6 (.tmp 7) (.tmp 30)), false, none⟩,
  ⟨some 8, (.mov (.tmp 31)), false, none⟩]
def c5_10 : ACode := (.region o5_9 [1, 5, 6, 7, 8])
def w5_10 (P : Program) (Q : Exit → Slots → Mem → Prop) (M : Mem) (v1 : V) (v2 : V) (v5 : V) (v6 : V) : Prop :=
  @OptVH (loadV 4 true v2 M) ⟨fun t28_1 =>
  @CallH P i_transitref37_New [t28_1] M ⟨fun t29_2 M2 =>
  @OptVH (extractV t29_2 0) ⟨fun t30_4 =>
  @OptVH (extractV t29_2 1) ⟨fun t31_5 =>
  @OptMH (allocV [(.slice [] .nil), (.int .i64 0), (.int .i64 0), (.int .i64 0), (.slice [] .nil), (.slice [] .nil)] M2) ⟨fun t7_6 M6 =>
  @OptMH (storeVM 6 t7_6 t30_4 M6) ⟨fun _tx_7 M7 =>
  Q .normal [(1, v1), (5, v5), (6, v6), (7, t7_6), (8, t31_5)] M7⟩⟩⟩⟩⟩⟩
theorem e5_10 (P : Program) (Q : Exit → Slots → Mem → Prop) (s : Slots) (M : Mem) : wpC P c5_10 Q s M = w5_10 P Q M (sget s 1) (sget s 2) (sget s 5) (sget s 6) := by kernel_rfl
def o5_11 : List AOper := [⟨some 4, (.mov (.const (.bool false))), true, none⟩]
def c5_12 : ACode := (.region o5_11 [4])
def w5_12 (_P : Program) (Q : Exit → Slots → Mem → Prop) (M : Mem) : Prop :=
  Q .normal [(4, (.bool false))] M
theorem e5_12 (P : Program) (Q : Exit → Slots → Mem → Prop) (s : Slots) (M : Mem) : wpC P c5_12 Q s M = w5_12 P Q M := by kernel_rfl
def c5_13 : ACode := (.seq c5_12 .ret)
def o5_14 : List AOper := [⟨some 32, (.mov (.tmp 6)), false, none⟩,
  ⟨some 33, (.mov (.tmp 8)), false, none⟩,
  ⟨some 34, (.bin .neq .none (.tmp 32) (.tmp 33)), true, none⟩,
  ⟨some 35, (.mov (.tmp 34)), true, none⟩,
  ⟨some 36, (.mov (.tmp 5)), false, some (35, false)⟩,
  ⟨some 37, (.bin .eql .ptr (.tmp 36) (.const .nilp)), true, some (35, false)⟩,
  ⟨some 38, (.mov (.tmp 6)), false, some (35, false)⟩,
  ⟨some 39, (.bin .neq .none (.tmp 38) (.const (.int .i64 0))), true, some (35, false)⟩,
  ⟨some 40, (.bin .neq .bool (.tmp 37) (.tmp 39)), true, some (35, false)⟩,
  ⟨some 41, (.pick (.tmp 35) (.const (.bool true)) (.tmp 40)), true, none⟩]
def c5_15 : ACode := (.seq (.region o5_14 [1, 5, 6, 7, 41]) (.cond (.tmp 41) c5_13 .skip))
def w5_15 (P : Program) (Q : Exit → Slots → Mem → Prop) (M : Mem) (v1 : V) (v5 : V) (v6 : V) (v7 : V) (v8 : V) : Prop :=
  @OptBH (binV .neq .none v6 v8) ⟨fun b34_3 =>
  @BIfH b34_3
  ⟨wpC P c5_13 Q [(1, v1), (5, v5), (6, v6), (7, v7), (41, (.bool true))] M⟩
  ⟨@OptBH (binV .eql .ptr v5 .nilp) ⟨fun b37_7 =>
  @OptBH (binV .neq .none v6 (.int .i64 0)) ⟨fun b39_9 =>
  @OptBH (binV .neq .bool (.bool b37_7) (.bool b39_9)) ⟨fun b40_10 =>
  @BIfH b40_10
  ⟨wpC P c5_13 Q [(1, v1), (5, v5), (6, v6), (7, v7), (41, (.bool b40_10))] M⟩
  ⟨Q .normal [(1, v1), (5, v5), (6, v6), (7, v7), (41, (.bool b40_10))] M⟩⟩⟩⟩⟩⟩
theorem e5_15 (P : Program) (Q : Exit → Slots → Mem → Prop) (s : Slots) (M : Mem) : wpC P c5_15 Q s M = w5_15 P Q M (sget s 1) (sget s 5) (sget s 6) (sget s 7) (sget s 8) := by kernel_rfl
def o5_16 : List AOper := [⟨some 9, (.mov (.const (.int .i64 0))), false, none⟩]
def c5_17 : ACode := (.region o5_16 [1, 5, 6, 7, 9])
def w5_17 (_P : Program) (Q : Exit → Slots → Mem → Prop) (M : Mem) (v1 : V) (v5 : V) (v6 : V) (v7 : V) : Prop :=
  Q .normal [(1, v1), (5, v5), (6, v6), (7, v7), (9, (.int .i64 0))] M
theorem e5_17 (P : Program) (Q : Exit → Slots → Mem → Prop) (s : Slots) (M : Mem) : wpC P c5_17 Q s M = w5_17 P Q M (sget s 1) (sget s 5) (sget s 6) (sget s 7) := by kernel_rfl
def o5_18 : List AOper := [⟨some 42, (.mov (.tmp 9)), false, none⟩,
  ⟨some 43, (.mov (.tmp 1)), false, none⟩,
  ⟨some 44, (.lenSl (.tmp 43)), false, none⟩,
  ⟨some 45, (.bin .lss .none (.tmp 42) (.tmp 44)), true, none⟩,
  ⟨some 46, (.mov (.tmp 45)), true, none⟩,
  ⟨some 47, (.mov (.tmp 6)), false, some (46, true)⟩,
  ⟨some 48, (.bin .eql .none (.tmp 47) (.const (.int .i64 0))), true, some (46, true)⟩,
  ⟨some 49, (.pick (.tmp 46) (.tmp 48) (.const (.bool false))), true, none⟩]
def c5_19 : ACode := (.seq (.region o5_18 [1, 5, 6, 7, 9, 49]) (.cond (.tmp 49) .skip (.exit 0)))
def w5_19 (_P : Program) (Q : Exit → Slots → Mem → Prop) (M : Mem) (v1 : V) (v5 : V) (v6 : V) (v7 : V) (v9 : V) : Prop :=
  @OptVH (lenV v1 M) ⟨fun t44_3 =>
  @OptBH (binV .lss .none v9 t44_3) ⟨fun b45_4 =>
  @BIfH b45_4
  ⟨@OptBH (binV .eql .none v6 (.int .i64 0)) ⟨fun b48_7 =>
  @BIfH b48_7
  ⟨Q .normal [(1, v1), (5, v5), (6, v6), (7, v7), (9, v9), (49, (.bool b48_7))] M⟩
  ⟨Q (.exit 0) [(1, v1), (5, v5), (6, v6), (7, v7), (9, v9), (49, (.bool b48_7))] M⟩⟩⟩
  ⟨Q (.exit 0) [(1, v1), (5, v5), (6, v6), (7, v7), (9, v9), (49, (.bool false))] M⟩⟩⟩
theorem e5_19 (P : Program) (Q : Exit → Slots → Mem → Prop) (s : Slots) (M : Mem) : wpC P c5_19 Q s M = w5_19 P Q M (sget s 1) (sget s 5) (sget s 6) (sget s 7) (sget s 9) := by kernel_rfl
def o5_20 : List AOper := [⟨some 53, (.mov (.tmp 5)), false, none⟩,
  ⟨some 54, (.mov (.tmp 1)), false, none⟩,
  ⟨some 55, (.mov (.tmp 9)), false, none⟩,
  ⟨some 56, (.indexSl 4 (.tmp 54) (.tmp 55)), false, none⟩,
  ⟨some 57, (.load 4 true (.tmp 56)), false, none⟩,
  ⟨some 58, (.call i_transitlaw37_do [(.tmp 53), (.tmp 57)]), false, none⟩,
  ⟨some 52, (.mov (.tmp 58)), false, none⟩,
  ⟨some 59, (.extract (.tmp 52) 0), false, none⟩,
  ⟨some 60, (.extract (.tmp 52) 1), false, none⟩,
  ⟨some 10, (.mov (.tmp 59)), false, none⟩,
  ⟨some 11, (.mov (.tmp 60)), false, none⟩]
def c5_21 : ACode := (.region o5_20 [1, 5, 6, 7, 9, 10, 11])
def w5_21 (P : Program) (Q : Exit → Slots → Mem → Prop) (M : Mem) (v1 : V) (v5 : V) (v6 : V) (v7 : V) (v9 : V) : Prop :=
  @OptVH (indexSlV 4 v1 v9 M) ⟨fun t56_4 =>
  @OptVH (loadV 4 true t56_4 M) ⟨fun t57_5 =>
  @CallH P i_transitlaw37_do [v5, t57_5] M ⟨fun t58_6 M6 =>
  @OptVH (extractV t58_6 0) ⟨fun t59_8 =>
  @OptVH (extractV t58_6 1) ⟨fun t60_9 =>
  Q .normal [(1, v1), (5, v5), (6, v6), (7, v7), (9, v9), (10, t59_8), (11, t60_9)] M6⟩⟩⟩⟩⟩
theorem e5_21 (P : Program) (Q : Exit → Slots → Mem → Prop) (s : Slots) (M : Mem) : wpC P c5_21 Q s M = w5_21 P Q M (sget s 1) (sget s 5) (sget s 6) (sget s 7) (sget s 9) := by kernel_rfl
def o5_22 : List AOper := [⟨some 12, (.mov (.const (.int .i64 0))), false, none⟩,
  ⟨some 13, (.mov (.const (.int .i64 0))), false, none⟩]
def c5_23 : ACode := (.region o5_22 [1, 5, 6, 7, 9, 10, 11, 12])
def w5_23 (_P : Program) (Q : Exit → Slots → Mem → Prop) (M : Mem) (v1 : V) (v5 : V) (v6 : V) (v7 : V) (v9 : V) (v10 : V) (v11 : V) : Prop :=
  Q .normal [(1, v1), (5, v5), (6, v6), (7, v7), (9, v9), (10, v10), (11, v11), (12, (.int .i64 0))] M
theorem e5_23 (P : Program) (Q : Exit → Slots → Mem → Prop) (s : Slots) (M : Mem) : wpC P c5_23 Q s M = w5_23 P Q M (sget s 1) (sget s 5) (sget s 6) (sget s 7) (sget s 9) (sget s 10) (sget s 11) := by kernel_rfl
def o5_24 : List AOper := [⟨some 67, (.load 6 true (.tmp 7)), false, none⟩,
  ⟨some 68, (.mov (.tmp 1)), false, none⟩,
  ⟨some 69, (.mov (.tmp 9)), false, none⟩,
  ⟨some 70, (.indexSl 4 (.tmp 68) (.tmp 69)), false, none⟩,
  ⟨some 71, (.fieldAddr 0 (.tmp 70)), false, none⟩,
  ⟨some 72, (.load 1 false (.tmp 71)), false, none⟩,
  ⟨some 73, (.mov (.tmp 1)), false, none⟩,
  ⟨some 74, (.mov (.tmp 9)), false, none⟩,
  ⟨some 75, (.indexSl 4 (.tmp 73) (.tmp 74)), false, none⟩,
  ⟨some 76, (.fieldAddr 3 (.tmp 75)), false, none⟩,
  ⟨some 77, (.load 1 false (.tmp 76)), false, none⟩,
  ⟨some 78, (.call i_transitref37_Refund [(.tmp 67), (.tmp 72), (.tmp 77)]), false, none⟩,
  ⟨some 66, (.mov (.tmp 78)), false, none⟩,
  ⟨some 79, (.extract (.tmp 66) 0), false, none⟩,
  ⟨some 80, (.extract (.tmp 66) 1), false, none⟩,
  ⟨none, (.store 6 (.tmp 7) (.tmp 79)), false, none⟩,
  ⟨some 13, (.mov (.tmp 80)), false, none⟩]
def c5_25 : ACode := (.float o5_24 [none, none, none, none, none, none, none, none, none, none, none, (some []), none, none, none, (some [14]), none] [1, 5, 6, 7, 9, 10, 11, 12, 13])
def w5_25 (P : Program) (Q : Exit → Slots → Mem → Prop) (M : Mem) (v1 : V) (v5 : V) (v6 : V) (v7 : V) (v9 : V) (v10 : V) (v11 : V) (v12 : V) : Prop :=
  @OptVH (loadV 6 true v7 M) ⟨fun t67_1 =>
  @OptVH (indexSlV 4 v1 v9 M) ⟨fun t70_4 =>
  @OptVH (moveV 0 t70_4) ⟨fun t71_5 =>
  @OptVH (loadV 1 false t71_5 M) ⟨fun t72_6 =>
  @OptVH (indexSlV 4 v1 v9 M) ⟨fun t75_9 =>
  @OptVH (moveV 3 t75_9) ⟨fun t76_10 =>
  @OptVH (loadV 1 false t76_10 M) ⟨fun t77_11 =>
  @CallH P i_transitref37_Refund [t67_1, t72_6, t77_11] M ⟨fun t78_12 M12 =>
  (True) ∧ (@OptVH (extractV t78_12 0) ⟨fun t79_14 =>
  @OptVH (extractV t78_12 1) ⟨fun t80_15 =>
  @OptMH (storeVM 6 v7 t79_14 M12) ⟨fun _tx_16 M16 =>
  (extractV t78_12 1 = some t80_15 ∧ True) ∧ (Q .normal [(1, v1), (5, v5), (6, v6), (7, v7), (9, v9), (10, v10), (11, v11), (12, v12), (13, t80_15)] M16)⟩⟩⟩)⟩⟩⟩⟩⟩⟩⟩⟩
theorem e5_25 (P : Program) (Q : Exit → Slots → Mem → Prop) (s : Slots) (M : Mem) : wpC P c5_25 Q s M = w5_25 P Q M (sget s 1) (sget s 5) (sget s 6) (sget s 7) (sget s 9) (sget s 10) (sget s 11) (sget s 12) := by kernel_rfl
def o5_26 : List AOper := [⟨some 82, (.load 6 true (.tmp 7)), false, none⟩,
  ⟨some 83, (.mov (.tmp 1)), false, none⟩,
  ⟨some 84, (.mov (.tmp 9)), false, none⟩,
  ⟨some 85, (.indexSl 4 (.tmp 83) (.tmp 84)), false, none⟩,
  ⟨some 86, (.fieldAddr 0 (.tmp 85)), false, none⟩,
  ⟨some 87, (.load 1 false (.tmp 86)), false, none⟩,
  ⟨some 88, (.mov (.tmp 1)), false, none⟩,
  ⟨some 89, (.mov (.tmp 9)), false, none⟩,
  ⟨some 90, (.indexSl 4 (.tmp 88) (.tmp 89)), false, none⟩,
  ⟨some 91, (.fieldAddr 1 (.tmp 90)), false, none⟩,
  ⟨some 92, (.load 1 false (.tmp 91)), false, none⟩,
  ⟨some 93, (.call i_transitref37_Charge [(.tmp 82), (.tmp 87), (.tmp 92)]), false, none⟩,
  ⟨some 81, (.mov (.tmp 93)), false, none⟩,
  ⟨some 94, (.extract (.tmp 81) 0), false, none⟩,
  ⟨some 95, (.extract (.tmp 81) 1), false, none⟩,
  ⟨some 96, (.extract (.tmp 81) 2), false, none⟩,
  ⟨none, (.store 6 (.tmp 7) (.tmp 94)), false, none⟩,
  ⟨some 12, (.mov (.tmp 95)), false, none⟩,
  ⟨some 13, (.mov (.tmp 96)), false, none⟩]
def c5_27 : ACode := (.float o5_26 [none, none, none, none, none, none, none, none, none, none, none, (some []), none, none, none, none, (some [14, 15]), none, none] [1, 5, 6, 7, 9, 10, 11, 12, 13])
def w5_27 (P : Program) (Q : Exit → Slots → Mem → Prop) (M : Mem) (v1 : V) (v5 : V) (v6 : V) (v7 : V) (v9 : V) (v10 : V) (v11 : V) : Prop :=
  @OptVH (loadV 6 true v7 M) ⟨fun t82_1 =>
  @OptVH (indexSlV 4 v1 v9 M) ⟨fun t85_4 =>
  @OptVH (moveV 0 t85_4) ⟨fun t86_5 =>
  @OptVH (loadV 1 false t86_5 M) ⟨fun t87_6 =>
  @OptVH (indexSlV 4 v1 v9 M) ⟨fun t90_9 =>
  @OptVH (moveV 1 t90_9) ⟨fun t91_10 =>
  @OptVH (loadV 1 false t91_10 M) ⟨fun t92_11 =>
  @CallH P i_transitref37_Charge [t82_1, t87_6, t92_11] M ⟨fun t93_12 M12 =>
  (True) ∧ (@OptVH (extractV t93_12 0) ⟨fun t94_14 =>
  @OptVH (extractV t93_12 1) ⟨fun t95_15 =>
  @OptVH (extractV t93_12 2) ⟨fun t96_16 =>
  @OptMH (storeVM 6 v7 t94_14 M12) ⟨fun _tx_17 M17 =>
  (extractV t93_12 1 = some t95_15 ∧ extractV t93_12 2 = some t96_16 ∧ True) ∧ (Q .normal [(1, v1), (5, v5), (6, v6), (7, v7), (9, v9), (10, v10), (11, v11), (12, t95_15), (13, t96_16)] M17)⟩⟩⟩⟩)⟩⟩⟩⟩⟩⟩⟩⟩
theorem e5_27 (P : Program) (Q : Exit → Slots → Mem → Prop) (s : Slots) (M : Mem) : wpC P c5_27 Q s M = w5_27 P Q M (sget s 1) (sget s 5) (sget s 6) (sget s 7) (sget s 9) (sget s 10) (sget s 11) := by kernel_rfl
def o5_28 : List AOper := [⟨some 61, (.mov (.tmp 1)), false, none⟩,
  ⟨some 62, (.mov (.tmp 9)), false, none⟩,
  ⟨some 63, (.indexSl 4 (.tmp 61) (.tmp 62)), false, none⟩,
  ⟨some 64, (.fieldAddr 2 (.tmp 63)), false, none⟩,
  ⟨some 65, (.load 1 false (.tmp 64)), true, none⟩]
def c5_29 : ACode := (.seq (.region o5_28 [1, 5, 6, 7, 9, 10, 11, 12, 65]) (.cond (.tmp 65) c5_25 c5_27))
def w5_29 (P : Program) (Q : Exit → Slots → Mem → Prop) (M : Mem) (v1 : V) (v5 : V) (v6 : V) (v7 : V) (v9 : V) (v10 : V) (v11 : V) (v12 : V) : Prop :=
  @OptVH (indexSlV 4 v1 v9 M) ⟨fun t63_3 =>
  @OptVH (moveV 2 t63_3) ⟨fun t64_4 =>
  @OptBH (loadV 1 false t64_4 M) ⟨fun b65_5 =>
  @BIfH b65_5
  ⟨wpC P c5_25 Q [(1, v1), (5, v5), (6, v6), (7, v7), (9, v9), (10, v10), (11, v11), (12, v12), (65, (.bool b65_5))] M⟩
  ⟨wpC P c5_27 Q [(1, v1), (5, v5), (6, v6), (7, v7), (9, v9), (10, v10), (11, v11), (12, v12), (65, (.bool b65_5))] M⟩⟩⟩⟩
theorem e5_29 (P : Program) (Q : Exit → Slots → Mem → Prop) (s : Slots) (M : Mem) : wpC P c5_29 Q s M = w5_29 P Q M (sget s 1) (sget s 5) (sget s 6) (sget s 7) (sget s 9) (sget s 10) (sget s 11) (sget s 12) := by kernel_rfl
def o5_30 : List AOper := [⟨some 4, (.mov (.const (.bool false))), true, none⟩]
def c5_31 : ACode := (.region o5_30 [4])
def w5_31 (_P : Program) (Q : Exit → Slots → Mem → Prop) (M : Mem) : Prop :=
  Q .normal [(4, (.bool false))] M
theorem e5_31 (P : Program) (Q : Exit → Slots → Mem → Prop) (s : Slots) (M : Mem) : wpC P c5_31 Q s M = w5_31 P Q M := by kernel_rfl
def c5_32 : ACode := (.seq c5_31 .ret)
def o5_33 : List AOper := [⟨some 97, (.mov (.tmp 10)), false, none⟩,
  ⟨some 98, (.mov (.tmp 12)), false, none⟩,
  ⟨some 99, (.bin .neq .none (.tmp 97) (.tmp 98)), true, none⟩,
  ⟨some 100, (.mov (.tmp 99)), true, none⟩,
  ⟨some 101, (.mov (.tmp 11)), false, some (100, false)⟩,
  ⟨some 102, (.mov (.tmp 13)), false, some (100, false)⟩,
  ⟨some 103, (.bin .neq .none (.tmp 101) (.tmp 102)), true, some (100, false)⟩,
  ⟨some 104, (.pick (.tmp 100) (.const (.bool true)) (.tmp 103)), true, none⟩,
  ⟨some 105, (.mov (.tmp 104)), true, none⟩,
  ⟨some 106, (.mov (.tmp 5)), false, some (105, false)⟩,
  ⟨some 107, (.mov (.tmp 1)), false, some (105, false)⟩,
  ⟨some 108, (.mov (.tmp 9)), false, some (105, false)⟩,
  ⟨some 109, (.indexSl 4 (.tmp 107) (.tmp 108)), false, some (105, false)⟩,
  ⟨some 110, (.fieldAddr 0 (.tmp 109)), false, some (105, false)⟩,
  ⟨some 111, (.load 1 false (.tmp 110)), false, some (105, false)⟩,
  ⟨some 112, (.call i_account_Account_Spent [(.tmp 106), (.tmp 111)]), false, some (105, false)⟩,
  ⟨some 113, (.load 6 true (.tmp 7)), false, some (105, false)⟩,
  ⟨some 114, (.mov (.tmp 1)), false, some (105, false)⟩,
  ⟨some 115, (.mov (.tmp 9)), false, some (105, false)⟩,
  ⟨some 116, (.indexSl 4 (.tmp 114) (.tmp 115)), false, some (105, false)⟩,
  ⟨some 117, (.fieldAddr 0 (.tmp 116)), false, some (105, false)⟩,
  ⟨some 118, (.load 1 false (.tmp 117)), false, some (105, false)⟩,
  ⟨some 119, (.call i_transitref37_On [(.tmp 113), (.tmp 118)]), false, some (105, false)⟩,
  ⟨some 120, (.bin .neq .none (.tmp 112) (.tmp 119)), true, some (105, false)⟩,
  ⟨some 121, (.pick (.tmp 105) (.const (.bool true)) (.tmp 120)), true, none⟩,
  ⟨some 122, (.mov (.tmp 121)), true, none⟩,
  ⟨some 123, (.mov (.tmp 5)), false, some (122, false)⟩,
  ⟨some 124, (.call i_account_Account_Total [(.tmp 123)]), false, some (122, false)⟩,
  ⟨some 125, (.load 6 true (.tmp 7)), false, some (122, false)⟩,
  ⟨some 126, (.call i_transitref37_Total [(.tmp 125)]), false, some (122, false)⟩,
  ⟨some 127, (.bin .neq .none (.tmp 124) (.tmp 126)), true, some (122, false)⟩,
  ⟨some 128, (.pick (.tmp 122) (.const (.bool true)) (.tmp 127)), true, none⟩,
  ⟨some 129, (.mov (.tmp 128)), true, none⟩,
  ⟨some 130, (.mov (.tmp 5)), false, some (129, false)⟩,
  ⟨some 131, (.call i_account_Account_Days [(.tmp 130)]), false, some (129, false)⟩,
  ⟨some 132, (.fieldAddr 4 (.tmp 7)), false, some (129, false)⟩,
  ⟨some 133, (.load 1 false (.tmp 132)), false, some (129, false)⟩,
  ⟨some 134, (.call i_transitref03_SameInts [(.tmp 131), (.tmp 133)]), true, some (129, false)⟩,
  ⟨some 135, (.un .not (.tmp 134)), true, some (129, false)⟩,
  ⟨some 136, (.pick (.tmp 129) (.const (.bool true)) (.tmp 135)), true, none⟩]
def c5_34 : ACode := (.seq (.mixed o5_33 [true, true, true, true, true, true, true, true, true, true, true, true, true, true, true, true, true, true, true, true, true, true, false, true, true, true, true, true, true, false, true, true, true, true, true, true, true, false, true, true] [1, 5, 6, 7, 9, 136]) (.cond (.tmp 136) c5_32 .skip))
def w5_34 (P : Program) (Q : Exit → Slots → Mem → Prop) (M : Mem) (v1 : V) (v5 : V) (v6 : V) (v7 : V) (v9 : V) (v10 : V) (v11 : V) (v12 : V) (v13 : V) : Prop :=
  @OptBH (binV .neq .none v10 v12) ⟨fun b99_3 =>
  @BIfH b99_3
  ⟨wpC P c5_32 Q [(1, v1), (5, v5), (6, v6), (7, v7), (9, v9), (136, (.bool true))] M⟩
  ⟨@OptBH (binV .neq .none v11 v13) ⟨fun b103_14 =>
  @BIfH b103_14
  ⟨wpC P c5_32 Q [(1, v1), (5, v5), (6, v6), (7, v7), (9, v9), (136, (.bool true))] M⟩
  ⟨@OptVH (indexSlV 4 v1 v9 M) ⟨fun t109_25 =>
  @OptVH (moveV 0 t109_25) ⟨fun t110_26 =>
  @OptVH (loadV 1 false t110_26 M) ⟨fun t111_27 =>
  @CallQ P i_account_Account_Spent [v5, t111_27] M ⟨fun t112_28 M28 =>
  @OptVH (loadV 6 true v7 M28) ⟨fun t113_29 =>
  @OptVH (indexSlV 4 v1 v9 M28) ⟨fun t116_32 =>
  @OptVH (moveV 0 t116_32) ⟨fun t117_33 =>
  @OptVH (loadV 1 false t117_33 M28) ⟨fun t118_34 =>
  @CallH P i_transitref37_On [t113_29, t118_34] M28 ⟨fun t119_35 M35 =>
  @OptBH (binV .neq .none t112_28 t119_35) ⟨fun b120_36 =>
  @BIfH b120_36
  ⟨wpC P c5_32 Q [(1, v1), (5, v5), (6, v6), (7, v7), (9, v9), (136, (.bool true))] M35⟩
  ⟨@CallQ P i_account_Account_Total [v5] M35 ⟨fun t124_43 M43 =>
  @OptVH (loadV 6 true v7 M43) ⟨fun t125_44 =>
  @CallH P i_transitref37_Total [t125_44] M43 ⟨fun t126_45 M45 =>
  @OptBH (binV .neq .none t124_43 t126_45) ⟨fun b127_46 =>
  @BIfH b127_46
  ⟨wpC P c5_32 Q [(1, v1), (5, v5), (6, v6), (7, v7), (9, v9), (136, (.bool true))] M45⟩
  ⟨@CallQ P i_account_Account_Days [v5] M45 ⟨fun t131_51 M51 =>
  @OptVH (moveV 4 v7) ⟨fun t132_52 =>
  @OptVH (loadV 1 false t132_52 M51) ⟨fun t133_53 =>
  @CallH P i_transitref03_SameInts [t131_51, t133_53] M51 ⟨fun t134_54 M54 => @OptBH (some t134_54) ⟨fun b134_54 =>
  @OptBH (unV .not (.bool b134_54)) ⟨fun b135_55 =>
  @BIfH b135_55
  ⟨wpC P c5_32 Q [(1, v1), (5, v5), (6, v6), (7, v7), (9, v9), (136, (.bool b135_55))] M54⟩
  ⟨Q .normal [(1, v1), (5, v5), (6, v6), (7, v7), (9, v9), (136, (.bool b135_55))] M54⟩⟩⟩⟩⟩⟩⟩⟩⟩⟩⟩⟩⟩⟩⟩⟩⟩⟩⟩⟩⟩⟩⟩⟩⟩⟩⟩
theorem e5_34 (P : Program) (Q : Exit → Slots → Mem → Prop) (s : Slots) (M : Mem) : wpC P c5_34 Q s M = w5_34 P Q M (sget s 1) (sget s 5) (sget s 6) (sget s 7) (sget s 9) (sget s 10) (sget s 11) (sget s 12) (sget s 13) := by kernel_rfl
def o5_35 : List AOper := [⟨some 138, (.mov (.tmp 5)), false, none⟩,
  ⟨some 139, (.mov (.tmp 1)), false, none⟩,
  ⟨some 140, (.mov (.tmp 9)), false, none⟩,
  ⟨some 141, (.indexSl 4 (.tmp 139) (.tmp 140)), false, none⟩,
  ⟨some 142, (.fieldAddr 0 (.tmp 141)), false, none⟩,
  ⟨some 143, (.load 1 false (.tmp 142)), false, none⟩,
  ⟨some 144, (.call i_account_Account_Left [(.tmp 138), (.tmp 143)]), false, none⟩,
  ⟨some 137, (.mov (.tmp 144)), false, none⟩,
  ⟨some 145, (.extract (.tmp 137) 0), false, none⟩,
  ⟨some 146, (.extract (.tmp 137) 1), true, none⟩,
  ⟨some 14, (.mov (.tmp 145)), false, none⟩,
  ⟨some 15, (.mov (.tmp 146)), true, none⟩]
def c5_36 : ACode := (.region o5_35 [1, 5, 6, 7, 9, 14, 15])
def w5_36 (P : Program) (Q : Exit → Slots → Mem → Prop) (M : Mem) (v1 : V) (v5 : V) (v6 : V) (v7 : V) (v9 : V) : Prop :=
  @OptVH (indexSlV 4 v1 v9 M) ⟨fun t141_4 =>
  @OptVH (moveV 0 t141_4) ⟨fun t142_5 =>
  @OptVH (loadV 1 false t142_5 M) ⟨fun t143_6 =>
  @CallH P i_account_Account_Left [v5, t143_6] M ⟨fun t144_7 M7 =>
  @OptVH (extractV t144_7 0) ⟨fun t145_9 =>
  @OptBH (extractV t144_7 1) ⟨fun b146_10 =>
  Q .normal [(1, v1), (5, v5), (6, v6), (7, v7), (9, v9), (14, t145_9), (15, (.bool b146_10))] M7⟩⟩⟩⟩⟩⟩
theorem e5_36 (P : Program) (Q : Exit → Slots → Mem → Prop) (s : Slots) (M : Mem) : wpC P c5_36 Q s M = w5_36 P Q M (sget s 1) (sget s 5) (sget s 6) (sget s 7) (sget s 9) := by kernel_rfl
def o5_37 : List AOper := [⟨some 148, (.load 6 true (.tmp 7)), false, none⟩,
  ⟨some 149, (.mov (.tmp 1)), false, none⟩,
  ⟨some 150, (.mov (.tmp 9)), false, none⟩,
  ⟨some 151, (.indexSl 4 (.tmp 149) (.tmp 150)), false, none⟩,
  ⟨some 152, (.fieldAddr 0 (.tmp 151)), false, none⟩,
  ⟨some 153, (.load 1 false (.tmp 152)), false, none⟩,
  ⟨some 154, (.call i_transitref37_Left [(.tmp 148), (.tmp 153)]), false, none⟩,
  ⟨some 147, (.mov (.tmp 154)), false, none⟩,
  ⟨some 155, (.extract (.tmp 147) 0), false, none⟩,
  ⟨some 156, (.extract (.tmp 147) 1), true, none⟩,
  ⟨some 16, (.mov (.tmp 155)), false, none⟩,
  ⟨some 17, (.mov (.tmp 156)), true, none⟩]
def c5_38 : ACode := (.mixed o5_37 [true, true, true, true, true, true, false, true, true, true, true, true] [1, 5, 6, 7, 9, 14, 15, 16, 17])
def w5_38 (P : Program) (Q : Exit → Slots → Mem → Prop) (M : Mem) (v1 : V) (v5 : V) (v6 : V) (v7 : V) (v9 : V) (v14 : V) (v15 : V) : Prop :=
  @OptVH (loadV 6 true v7 M) ⟨fun t148_1 =>
  @OptVH (indexSlV 4 v1 v9 M) ⟨fun t151_4 =>
  @OptVH (moveV 0 t151_4) ⟨fun t152_5 =>
  @OptVH (loadV 1 false t152_5 M) ⟨fun t153_6 =>
  @CallH P i_transitref37_Left [t148_1, t153_6] M ⟨fun t154_7 M7 =>
  @OptVH (extractV t154_7 0) ⟨fun t155_9 =>
  @OptBH (extractV t154_7 1) ⟨fun b156_10 =>
  Q .normal [(1, v1), (5, v5), (6, v6), (7, v7), (9, v9), (14, v14), (15, v15), (16, t155_9), (17, (.bool b156_10))] M7⟩⟩⟩⟩⟩⟩⟩
theorem e5_38 (P : Program) (Q : Exit → Slots → Mem → Prop) (s : Slots) (M : Mem) : wpC P c5_38 Q s M = w5_38 P Q M (sget s 1) (sget s 5) (sget s 6) (sget s 7) (sget s 9) (sget s 14) (sget s 15) := by kernel_rfl
def o5_39 : List AOper := [⟨some 4, (.mov (.const (.bool false))), true, none⟩]
def c5_40 : ACode := (.region o5_39 [4])
def w5_40 (_P : Program) (Q : Exit → Slots → Mem → Prop) (M : Mem) : Prop :=
  Q .normal [(4, (.bool false))] M
theorem e5_40 (P : Program) (Q : Exit → Slots → Mem → Prop) (s : Slots) (M : Mem) : wpC P c5_40 Q s M = w5_40 P Q M := by kernel_rfl
def c5_41 : ACode := (.seq c5_40 .ret)
def o5_42 : List AOper := [⟨some 157, (.mov (.tmp 14)), false, none⟩,
  ⟨some 158, (.mov (.tmp 16)), false, none⟩,
  ⟨some 159, (.bin .neq .none (.tmp 157) (.tmp 158)), true, none⟩,
  ⟨some 160, (.mov (.tmp 159)), true, none⟩,
  ⟨some 161, (.mov (.tmp 15)), true, some (160, false)⟩,
  ⟨some 162, (.mov (.tmp 17)), true, some (160, false)⟩,
  ⟨some 163, (.bin .neq .bool (.tmp 161) (.tmp 162)), true, some (160, false)⟩,
  ⟨some 164, (.pick (.tmp 160) (.const (.bool true)) (.tmp 163)), true, none⟩]
def c5_43 : ACode := (.seq (.region o5_42 [1, 5, 6, 7, 9, 164]) (.cond (.tmp 164) c5_41 .skip))
def w5_43 (P : Program) (Q : Exit → Slots → Mem → Prop) (M : Mem) (v1 : V) (v5 : V) (v6 : V) (v7 : V) (v9 : V) (v14 : V) (v15 : V) (v16 : V) (v17 : V) : Prop :=
  @OptBH (binV .neq .none v14 v16) ⟨fun b159_3 =>
  @BIfH b159_3
  ⟨wpC P c5_41 Q [(1, v1), (5, v5), (6, v6), (7, v7), (9, v9), (164, (.bool true))] M⟩
  ⟨@OptBH (some v15) ⟨fun b161_6 =>
  @OptBH (some v17) ⟨fun b162_7 =>
  @OptBH (binV .neq .bool (.bool b161_6) (.bool b162_7)) ⟨fun b163_8 =>
  @BIfH b163_8
  ⟨wpC P c5_41 Q [(1, v1), (5, v5), (6, v6), (7, v7), (9, v9), (164, (.bool b163_8))] M⟩
  ⟨Q .normal [(1, v1), (5, v5), (6, v6), (7, v7), (9, v9), (164, (.bool b163_8))] M⟩⟩⟩⟩⟩⟩
theorem e5_43 (P : Program) (Q : Exit → Slots → Mem → Prop) (s : Slots) (M : Mem) : wpC P c5_43 Q s M = w5_43 P Q M (sget s 1) (sget s 5) (sget s 6) (sget s 7) (sget s 9) (sget s 14) (sget s 15) (sget s 16) (sget s 17) := by kernel_rfl
def c5_44 : ACode := (.seq c5_38 c5_43)
def c5_45 : ACode := (.seq c5_36 c5_44)
def c5_46 : ACode := (.seq c5_34 c5_45)
def c5_47 : ACode := (.seq c5_29 c5_46)
def c5_48 : ACode := (.seq c5_23 c5_47)
def c5_49 : ACode := (.seq c5_21 c5_48)
def c5_50 : ACode := (.block 1 c5_49)
def o5_51 : List AOper := [⟨some 50, (.mov (.tmp 9)), false, none⟩,
  ⟨some 51, (.bin .add .none (.tmp 50) (.const (.int .i64 1))), false, none⟩,
  ⟨some 9, (.mov (.tmp 51)), false, none⟩]
def c5_52 : ACode := (.region o5_51 [1, 5, 6, 7, 9])
def w5_52 (_P : Program) (Q : Exit → Slots → Mem → Prop) (M : Mem) (v1 : V) (v5 : V) (v6 : V) (v7 : V) (v9 : V) : Prop :=
  @OptVH (binV .add .none v9 (.int .i64 1)) ⟨fun t51_2 =>
  Q .normal [(1, v1), (5, v5), (6, v6), (7, v7), (9, t51_2)] M⟩
theorem e5_52 (P : Program) (Q : Exit → Slots → Mem → Prop) (s : Slots) (M : Mem) : wpC P c5_52 Q s M = w5_52 P Q M (sget s 1) (sget s 5) (sget s 6) (sget s 7) (sget s 9) := by kernel_rfl
def c5_53 : ACode := (.seq c5_50 c5_52)
def c5_54 : ACode := (.seq c5_19 c5_53)
def c5_55 : ACode := (.loop [1, 5, 6, 7, 9] c5_54)
def c5_56 : ACode := (.block 0 c5_55)
def c5_57 : ACode := (.seq c5_17 c5_56)
def o5_58 : List AOper := [⟨some 165, (.call i_transitlaw37_exampleHolds []), true, none⟩,
  ⟨some 4, (.mov (.tmp 165)), true, none⟩]
def c5_59 : ACode := (.region o5_58 [4])
def w5_59 (P : Program) (Q : Exit → Slots → Mem → Prop) (M : Mem) : Prop :=
  @CallH P i_transitlaw37_exampleHolds [] M ⟨fun t165_1 M1 => @OptBH (some t165_1) ⟨fun b165_1 =>
  Q .normal [(4, (.bool b165_1))] M1⟩⟩
theorem e5_59 (P : Program) (Q : Exit → Slots → Mem → Prop) (s : Slots) (M : Mem) : wpC P c5_59 Q s M = w5_59 P Q M := by kernel_rfl
def c5_60 : ACode := (.seq c5_59 .ret)
def c5_61 : ACode := (.seq c5_57 c5_60)
def c5_62 : ACode := (.seq c5_15 c5_61)
def c5_63 : ACode := (.seq c5_10 c5_62)
def c5_64 : ACode := (.seq c5_8 c5_63)
def c5_65 : ACode := (.seq c5_6 c5_64)
def c5_66 : ACode := (.seq c5_1 c5_65)
def fn_transitlaw37_AccountRuns : AFn := ⟨166, [(.tmp 4)], c5_66⟩
theorem fn_transitlaw37_AccountRuns_ok : resFn PR h_transitlaw37_AccountRuns i_transitlaw37_AccountRuns = some fn_transitlaw37_AccountRuns := by kernel_rfl

def h_transitlaw37_large : Hints := ⟨[(0, [1, 2]), (1, [1, 14]), (2, [4]), (3, [1, 5]), (4, [1, 5, 18]), (5, [1, 5]), (6, [1, 5, 27]), (7, [4]), (8, [4])], [(4, [1, 5])], []⟩
def o7_0 : List AOper := [⟨some 2, (.box 4 (.tmp 0)), false, none⟩,
  ⟨some 4, (.mov (.const (.bool false))), true, none⟩]
def c7_1 : ACode := (.region o7_0 [1, 2])
def w7_1 (_P : Program) (Q : Exit → Slots → Mem → Prop) (M : Mem) (v0 : V) (v1 : V) : Prop :=
  @OptMH (boxV 4 v0 M) ⟨fun t2_1 M1 =>
  Q .normal [(1, v1), (2, t2_1)] M1⟩
theorem e7_1 (P : Program) (Q : Exit → Slots → Mem → Prop) (s : Slots) (M : Mem) : wpC P c7_1 Q s M = w7_1 P Q M (sget s 0) (sget s 1) := by kernel_rfl
def o7_2 : List AOper := [⟨some 4, (.mov (.const (.bool true))), true, none⟩]
def c7_3 : ACode := (.region o7_2 [4])
def w7_3 (_P : Program) (Q : Exit → Slots → Mem → Prop) (M : Mem) : Prop :=
  Q .normal [(4, (.bool true))] M
theorem e7_3 (P : Program) (Q : Exit → Slots → Mem → Prop) (s : Slots) (M : Mem) : wpC P c7_3 Q s M = w7_3 P Q M := by kernel_rfl
def c7_4 : ACode := (.seq c7_3 .ret)
def o7_5 : List AOper := [⟨some 6, (.fieldAddr 0 (.tmp 2)), false, none⟩,
  ⟨some 7, (.load 1 false (.tmp 6)), false, none⟩,
  ⟨some 8, (.lenSl (.tmp 7)), false, none⟩,
  ⟨some 9, (.bin .gtr .none (.tmp 8) (.const (.int .i64 20))), true, none⟩,
  ⟨some 10, (.mov (.tmp 9)), true, none⟩,
  ⟨some 11, (.mov (.tmp 1)), false, some (10, false)⟩,
  ⟨some 12, (.lenSl (.tmp 11)), false, some (10, false)⟩,
  ⟨some 13, (.bin .gtr .none (.tmp 12) (.const (.int .i64 40))), true, some (10, false)⟩,
  ⟨some 14, (.pick (.tmp 10) (.const (.bool true)) (.tmp 13)), true, none⟩]
def c7_6 : ACode := (.seq (.region o7_5 [1, 14]) (.cond (.tmp 14) c7_4 .skip))
def w7_6 (P : Program) (Q : Exit → Slots → Mem → Prop) (M : Mem) (v1 : V) (v2 : V) : Prop :=
  @OptVH (moveV 0 v2) ⟨fun t6_1 =>
  @OptVH (loadV 1 false t6_1 M) ⟨fun t7_2 =>
  @OptVH (lenV t7_2 M) ⟨fun t8_3 =>
  @OptBH (binV .gtr .none t8_3 (.int .i64 20)) ⟨fun b9_4 =>
  @BIfH b9_4
  ⟨wpC P c7_4 Q [(1, v1), (14, (.bool true))] M⟩
  ⟨@OptVH (lenV v1 M) ⟨fun t12_8 =>
  @OptBH (binV .gtr .none t12_8 (.int .i64 40)) ⟨fun b13_9 =>
  @BIfH b13_9
  ⟨wpC P c7_4 Q [(1, v1), (14, (.bool b13_9))] M⟩
  ⟨Q .normal [(1, v1), (14, (.bool b13_9))] M⟩⟩⟩⟩⟩⟩⟩⟩
theorem e7_6 (P : Program) (Q : Exit → Slots → Mem → Prop) (s : Slots) (M : Mem) : wpC P c7_6 Q s M = w7_6 P Q M (sget s 1) (sget s 2) := by kernel_rfl
def o7_7 : List AOper := [⟨some 5, (.mov (.const (.int .i64 0))), false, none⟩]
def c7_8 : ACode := (.region o7_7 [1, 5])
def w7_8 (_P : Program) (Q : Exit → Slots → Mem → Prop) (M : Mem) (v1 : V) : Prop :=
  Q .normal [(1, v1), (5, (.int .i64 0))] M
theorem e7_8 (P : Program) (Q : Exit → Slots → Mem → Prop) (s : Slots) (M : Mem) : wpC P c7_8 Q s M = w7_8 P Q M (sget s 1) := by kernel_rfl
def o7_9 : List AOper := [⟨some 15, (.mov (.tmp 5)), false, none⟩,
  ⟨some 16, (.mov (.tmp 1)), false, none⟩,
  ⟨some 17, (.lenSl (.tmp 16)), false, none⟩,
  ⟨some 18, (.bin .lss .none (.tmp 15) (.tmp 17)), true, none⟩]
def c7_10 : ACode := (.seq (.region o7_9 [1, 5, 18]) (.cond (.tmp 18) .skip (.exit 0)))
def w7_10 (_P : Program) (Q : Exit → Slots → Mem → Prop) (M : Mem) (v1 : V) (v5 : V) : Prop :=
  @OptVH (lenV v1 M) ⟨fun t17_3 =>
  @OptBH (binV .lss .none v5 t17_3) ⟨fun b18_4 =>
  @BIfH b18_4
  ⟨Q .normal [(1, v1), (5, v5), (18, (.bool b18_4))] M⟩
  ⟨Q (.exit 0) [(1, v1), (5, v5), (18, (.bool b18_4))] M⟩⟩⟩
theorem e7_10 (P : Program) (Q : Exit → Slots → Mem → Prop) (s : Slots) (M : Mem) : wpC P c7_10 Q s M = w7_10 P Q M (sget s 1) (sget s 5) := by kernel_rfl
def o7_11 : List AOper := [⟨some 4, (.mov (.const (.bool true))), true, none⟩]
def c7_12 : ACode := (.region o7_11 [4])
def w7_12 (_P : Program) (Q : Exit → Slots → Mem → Prop) (M : Mem) : Prop :=
  Q .normal [(4, (.bool true))] M
theorem e7_12 (P : Program) (Q : Exit → Slots → Mem → Prop) (s : Slots) (M : Mem) : wpC P c7_12 Q s M = w7_12 P Q M := by kernel_rfl
def c7_13 : ACode := (.seq c7_12 .ret)
def o7_14 : List AOper := [⟨some 21, (.mov (.tmp 1)), false, none⟩,
  ⟨some 22, (.mov (.tmp 5)), false, none⟩,
  ⟨some 23, (.indexSl 4 (.tmp 21) (.tmp 22)), false, none⟩,
  ⟨some 24, (.fieldAddr 1 (.tmp 23)), false, none⟩,
  ⟨some 25, (.load 1 false (.tmp 24)), false, none⟩,
  ⟨some 26, (.lenSl (.tmp 25)), false, none⟩,
  ⟨some 27, (.bin .gtr .none (.tmp 26) (.const (.int .i64 10))), true, none⟩]
def c7_15 : ACode := (.seq (.region o7_14 [1, 5, 27]) (.cond (.tmp 27) c7_13 .skip))
def w7_15 (P : Program) (Q : Exit → Slots → Mem → Prop) (M : Mem) (v1 : V) (v5 : V) : Prop :=
  @OptVH (indexSlV 4 v1 v5 M) ⟨fun t23_3 =>
  @OptVH (moveV 1 t23_3) ⟨fun t24_4 =>
  @OptVH (loadV 1 false t24_4 M) ⟨fun t25_5 =>
  @OptVH (lenV t25_5 M) ⟨fun t26_6 =>
  @OptBH (binV .gtr .none t26_6 (.int .i64 10)) ⟨fun b27_7 =>
  @BIfH b27_7
  ⟨wpC P c7_13 Q [(1, v1), (5, v5), (27, (.bool b27_7))] M⟩
  ⟨Q .normal [(1, v1), (5, v5), (27, (.bool b27_7))] M⟩⟩⟩⟩⟩⟩
theorem e7_15 (P : Program) (Q : Exit → Slots → Mem → Prop) (s : Slots) (M : Mem) : wpC P c7_15 Q s M = w7_15 P Q M (sget s 1) (sget s 5) := by kernel_rfl
def c7_16 : ACode := (.block 1 c7_15)
def o7_17 : List AOper := [⟨some 19, (.mov (.tmp 5)), false, none⟩,
  ⟨some 20, (.bin .add .none (.tmp 19) (.const (.int .i64 1))), false, none⟩,
  ⟨some 5, (.mov (.tmp 20)), false, none⟩]
def c7_18 : ACode := (.region o7_17 [1, 5])
def w7_18 (_P : Program) (Q : Exit → Slots → Mem → Prop) (M : Mem) (v1 : V) (v5 : V) : Prop :=
  @OptVH (binV .add .none v5 (.int .i64 1)) ⟨fun t20_2 =>
  Q .normal [(1, v1), (5, t20_2)] M⟩
theorem e7_18 (P : Program) (Q : Exit → Slots → Mem → Prop) (s : Slots) (M : Mem) : wpC P c7_18 Q s M = w7_18 P Q M (sget s 1) (sget s 5) := by kernel_rfl
def c7_19 : ACode := (.seq c7_16 c7_18)
def c7_20 : ACode := (.seq c7_10 c7_19)
def c7_21 : ACode := (.loop [1, 5] c7_20)
def c7_22 : ACode := (.block 0 c7_21)
def c7_23 : ACode := (.seq c7_8 c7_22)
def o7_24 : List AOper := [⟨some 4, (.mov (.const (.bool false))), true, none⟩]
def c7_25 : ACode := (.region o7_24 [4])
def w7_25 (_P : Program) (Q : Exit → Slots → Mem → Prop) (M : Mem) : Prop :=
  Q .normal [(4, (.bool false))] M
theorem e7_25 (P : Program) (Q : Exit → Slots → Mem → Prop) (s : Slots) (M : Mem) : wpC P c7_25 Q s M = w7_25 P Q M := by kernel_rfl
def c7_26 : ACode := (.seq c7_25 .ret)
def c7_27 : ACode := (.seq c7_23 c7_26)
def c7_28 : ACode := (.seq c7_6 c7_27)
def c7_29 : ACode := (.seq c7_1 c7_28)
def fn_transitlaw37_large : AFn := ⟨28, [(.tmp 4)], c7_29⟩
theorem fn_transitlaw37_large_ok : resFn PR h_transitlaw37_large i_transitlaw37_large = some fn_transitlaw37_large := by kernel_rfl

def h_transitlaw37_exampleHolds : Hints := ⟨[(0, []), (1, [1, 2]), (2, [1, 28]), (3, [0]), (4, [1, 3]), (5, [1, 3, 4]), (6, [1, 3, 4, 6]), (7, [1, 3, 4, 6, 8]), (8, [1, 3, 4, 6, 8, 10, 11]), (9, [1, 3, 4, 6, 8, 10, 11, 12]), (10, [1, 4, 6, 8, 10, 11, 12, 13]), (11, [1, 4, 6, 8, 10, 11, 12, 13, 15]), (12, [1, 4, 6, 8, 10, 11, 12, 13, 17]), (13, [0])], [], []⟩
def o8_0 : List AOper := [⟨some 0, (.mov (.const (.bool false))), true, none⟩]
def c8_1 : ACode := (.region o8_0 [])
def w8_1 (_P : Program) (Q : Exit → Slots → Mem → Prop) (M : Mem) : Prop :=
  Q .normal [] M
theorem e8_1 (P : Program) (Q : Exit → Slots → Mem → Prop) (s : Slots) (M : Mem) : wpC P c8_1 Q s M = w8_1 P Q M := by kernel_rfl
def o8_2 : List AOper := [⟨some 19, (.call i_transitlaw37_one []), false, none⟩,
  ⟨some 20, (.call i_account_New [(.tmp 19)]), false, none⟩,
  ⟨some 18, (.mov (.tmp 20)), false, none⟩,
  ⟨some 21, (.extract (.tmp 18) 0), false, none⟩,
  ⟨some 22, (.extract (.tmp 18) 1), false, none⟩,
  ⟨some 1, (.mov (.tmp 21)), false, none⟩,
  ⟨some 2, (.mov (.tmp 22)), false, none⟩]
def c8_3 : ACode := (.region o8_2 [1, 2])
def w8_3 (P : Program) (Q : Exit → Slots → Mem → Prop) (M : Mem) : Prop :=
  @CallH P i_transitlaw37_one [] M ⟨fun t19_1 M1 =>
  @CallH P i_account_New [t19_1] M1 ⟨fun t20_2 M2 =>
  @OptVH (extractV t20_2 0) ⟨fun t21_4 =>
  @OptVH (extractV t20_2 1) ⟨fun t22_5 =>
  Q .normal [(1, t21_4), (2, t22_5)] M2⟩⟩⟩⟩
theorem e8_3 (P : Program) (Q : Exit → Slots → Mem → Prop) (s : Slots) (M : Mem) : wpC P c8_3 Q s M = w8_3 P Q M := by kernel_rfl
def o8_4 : List AOper := [⟨some 0, (.mov (.const (.bool false))), true, none⟩]
def c8_5 : ACode := (.region o8_4 [0])
def w8_5 (_P : Program) (Q : Exit → Slots → Mem → Prop) (M : Mem) : Prop :=
  Q .normal [(0, (.bool false))] M
theorem e8_5 (P : Program) (Q : Exit → Slots → Mem → Prop) (s : Slots) (M : Mem) : wpC P c8_5 Q s M = w8_5 P Q M := by kernel_rfl
def c8_6 : ACode := (.seq c8_5 .ret)
def o8_7 : List AOper := [⟨some 23, (.mov (.tmp 2)), false, none⟩,
  ⟨some 24, (.bin .neq .none (.tmp 23) (.const (.int .i64 0))), true, none⟩,
  ⟨some 25, (.mov (.tmp 24)), true, none⟩,
  ⟨some 26, (.mov (.tmp 1)), false, some (25, false)⟩,
  ⟨some 27, (.bin .eql .ptr (.tmp 26) (.const .nilp)), true, some (25, false)⟩,
  ⟨some 28, (.pick (.tmp 25) (.const (.bool true)) (.tmp 27)), true, none⟩]
def c8_8 : ACode := (.seq (.region o8_7 [1, 28]) (.cond (.tmp 28) c8_6 .skip))
def w8_8 (P : Program) (Q : Exit → Slots → Mem → Prop) (M : Mem) (v1 : V) (v2 : V) : Prop :=
  @OptBH (binV .neq .none v2 (.int .i64 0)) ⟨fun b24_2 =>
  @BIfH b24_2
  ⟨wpC P c8_6 Q [(1, v1), (28, (.bool true))] M⟩
  ⟨@OptBH (binV .eql .ptr v1 .nilp) ⟨fun b27_6 =>
  @BIfH b27_6
  ⟨wpC P c8_6 Q [(1, v1), (28, (.bool b27_6))] M⟩
  ⟨Q .normal [(1, v1), (28, (.bool b27_6))] M⟩⟩⟩⟩
theorem e8_8 (P : Program) (Q : Exit → Slots → Mem → Prop) (s : Slots) (M : Mem) : wpC P c8_8 Q s M = w8_8 P Q M (sget s 1) (sget s 2) := by kernel_rfl
def o8_9 : List AOper := [⟨some 29, (.build [(.int .i64 0), (.int .i64 0), (.int .i64 0), (.int .i64 0)] [(2, (1, (.const (.int .i64 1)))), (3, (1, (.const (.int .i64 1))))]), false, none⟩,
  ⟨some 30, (.buildSlice [(.int .i64 0), (.int .i64 0), (.int .i64 0), (.int .i64 0)] 4 1 [(0, (4, (.tmp 29)))]), false, none⟩,
  ⟨some 3, (.mov (.tmp 30)), false, none⟩]
def c8_10 : ACode := (.region o8_9 [1, 3])
def w8_10 (_P : Program) (Q : Exit → Slots → Mem → Prop) (M : Mem) (v1 : V) : Prop :=
  @OptVH (buildV [(.int .i64 0), (.int .i64 0), (.int .i64 0), (.int .i64 0)] [(2, 1, (.int .i64 1)), (3, 1, (.int .i64 1))]) ⟨fun t29_1 =>
  @OptVH (buildSliceV [(.int .i64 0), (.int .i64 0), (.int .i64 0), (.int .i64 0)] 4 1 [(0, 4, t29_1)]) ⟨fun t30_2 =>
  Q .normal [(1, v1), (3, t30_2)] M⟩⟩
theorem e8_10 (P : Program) (Q : Exit → Slots → Mem → Prop) (s : Slots) (M : Mem) : wpC P c8_10 Q s M = w8_10 P Q M (sget s 1) := by kernel_rfl
def o8_11 : List AOper := [⟨some 32, (.mov (.tmp 1)), false, none⟩,
  ⟨some 33, (.mov (.tmp 3)), false, none⟩,
  ⟨some 34, (.call i_account_Account_Charge [(.tmp 32), (.const (.int .i64 9450)), (.tmp 33)]), false, none⟩,
  ⟨some 31, (.mov (.tmp 34)), false, none⟩,
  ⟨some 35, (.extract (.tmp 31) 0), false, none⟩,
  ⟨some 36, (.extract (.tmp 31) 1), false, none⟩,
  ⟨some 4, (.mov (.tmp 35)), false, none⟩,
  ⟨some 5, (.mov (.tmp 36)), false, none⟩]
def c8_12 : ACode := (.region o8_11 [1, 3, 4])
def w8_12 (P : Program) (Q : Exit → Slots → Mem → Prop) (M : Mem) (v1 : V) (v3 : V) : Prop :=
  @CallH P i_account_Account_Charge [v1, (.int .i64 9450), v3] M ⟨fun t34_3 M3 =>
  @OptVH (extractV t34_3 0) ⟨fun t35_5 =>
  @OptVH (extractV t34_3 1) ⟨fun _t36_6 =>
  Q .normal [(1, v1), (3, v3), (4, t35_5)] M3⟩⟩⟩
theorem e8_12 (P : Program) (Q : Exit → Slots → Mem → Prop) (s : Slots) (M : Mem) : wpC P c8_12 Q s M = w8_12 P Q M (sget s 1) (sget s 3) := by kernel_rfl
def o8_13 : List AOper := [⟨some 38, (.mov (.tmp 1)), false, none⟩,
  ⟨some 39, (.mov (.tmp 3)), false, none⟩,
  ⟨some 40, (.call i_account_Account_Charge [(.tmp 38), (.const (.int .i64 9450)), (.tmp 39)]), false, none⟩,
  ⟨some 37, (.mov (.tmp 40)), false, none⟩,
  ⟨some 41, (.extract (.tmp 37) 0), false, none⟩,
  ⟨some 42, (.extract (.tmp 37) 1), false, none⟩,
  ⟨some 6, (.mov (.tmp 41)), false, none⟩,
  ⟨some 7, (.mov (.tmp 42)), false, none⟩]
def c8_14 : ACode := (.region o8_13 [1, 3, 4, 6])
def w8_14 (P : Program) (Q : Exit → Slots → Mem → Prop) (M : Mem) (v1 : V) (v3 : V) (v4 : V) : Prop :=
  @CallH P i_account_Account_Charge [v1, (.int .i64 9450), v3] M ⟨fun t40_3 M3 =>
  @OptVH (extractV t40_3 0) ⟨fun t41_5 =>
  @OptVH (extractV t40_3 1) ⟨fun _t42_6 =>
  Q .normal [(1, v1), (3, v3), (4, v4), (6, t41_5)] M3⟩⟩⟩
theorem e8_14 (P : Program) (Q : Exit → Slots → Mem → Prop) (s : Slots) (M : Mem) : wpC P c8_14 Q s M = w8_14 P Q M (sget s 1) (sget s 3) (sget s 4) := by kernel_rfl
def o8_15 : List AOper := [⟨some 44, (.mov (.tmp 1)), false, none⟩,
  ⟨some 45, (.mov (.tmp 3)), false, none⟩,
  ⟨some 46, (.call i_account_Account_Charge [(.tmp 44), (.const (.int .i64 9450)), (.tmp 45)]), false, none⟩,
  ⟨some 43, (.mov (.tmp 46)), false, none⟩,
  ⟨some 47, (.extract (.tmp 43) 0), false, none⟩,
  ⟨some 48, (.extract (.tmp 43) 1), false, none⟩,
  ⟨some 8, (.mov (.tmp 47)), false, none⟩,
  ⟨some 9, (.mov (.tmp 48)), false, none⟩]
def c8_16 : ACode := (.region o8_15 [1, 3, 4, 6, 8])
def w8_16 (P : Program) (Q : Exit → Slots → Mem → Prop) (M : Mem) (v1 : V) (v3 : V) (v4 : V) (v6 : V) : Prop :=
  @CallH P i_account_Account_Charge [v1, (.int .i64 9450), v3] M ⟨fun t46_3 M3 =>
  @OptVH (extractV t46_3 0) ⟨fun t47_5 =>
  @OptVH (extractV t46_3 1) ⟨fun _t48_6 =>
  Q .normal [(1, v1), (3, v3), (4, v4), (6, v6), (8, t47_5)] M3⟩⟩⟩
theorem e8_16 (P : Program) (Q : Exit → Slots → Mem → Prop) (s : Slots) (M : Mem) : wpC P c8_16 Q s M = w8_16 P Q M (sget s 1) (sget s 3) (sget s 4) (sget s 6) := by kernel_rfl
def o8_17 : List AOper := [⟨some 50, (.mov (.tmp 1)), false, none⟩,
  ⟨some 51, (.call i_account_Account_Left [(.tmp 50), (.const (.int .i64 9450))]), false, none⟩,
  ⟨some 49, (.mov (.tmp 51)), false, none⟩,
  ⟨some 52, (.extract (.tmp 49) 0), false, none⟩,
  ⟨some 53, (.extract (.tmp 49) 1), true, none⟩,
  ⟨some 10, (.mov (.tmp 52)), false, none⟩,
  ⟨some 11, (.mov (.tmp 53)), true, none⟩]
def c8_18 : ACode := (.region o8_17 [1, 3, 4, 6, 8, 10, 11])
def w8_18 (P : Program) (Q : Exit → Slots → Mem → Prop) (M : Mem) (v1 : V) (v3 : V) (v4 : V) (v6 : V) (v8 : V) : Prop :=
  @CallH P i_account_Account_Left [v1, (.int .i64 9450)] M ⟨fun t51_2 M2 =>
  @OptVH (extractV t51_2 0) ⟨fun t52_4 =>
  @OptBH (extractV t51_2 1) ⟨fun b53_5 =>
  Q .normal [(1, v1), (3, v3), (4, v4), (6, v6), (8, v8), (10, t52_4), (11, (.bool b53_5))] M2⟩⟩⟩
theorem e8_18 (P : Program) (Q : Exit → Slots → Mem → Prop) (s : Slots) (M : Mem) : wpC P c8_18 Q s M = w8_18 P Q M (sget s 1) (sget s 3) (sget s 4) (sget s 6) (sget s 8) := by kernel_rfl
def o8_19 : List AOper := [⟨some 54, (.mov (.tmp 1)), false, none⟩,
  ⟨some 55, (.call i_account_Account_Refund [(.tmp 54), (.const (.int .i64 9450)), (.const (.int .i64 150))]), false, none⟩,
  ⟨some 12, (.mov (.tmp 55)), false, none⟩]
def c8_20 : ACode := (.region o8_19 [1, 3, 4, 6, 8, 10, 11, 12])
def w8_20 (P : Program) (Q : Exit → Slots → Mem → Prop) (M : Mem) (v1 : V) (v3 : V) (v4 : V) (v6 : V) (v8 : V) (v10 : V) (v11 : V) : Prop :=
  @CallH P i_account_Account_Refund [v1, (.int .i64 9450), (.int .i64 150)] M ⟨fun t55_2 M2 =>
  Q .normal [(1, v1), (3, v3), (4, v4), (6, v6), (8, v8), (10, v10), (11, v11), (12, t55_2)] M2⟩
theorem e8_20 (P : Program) (Q : Exit → Slots → Mem → Prop) (s : Slots) (M : Mem) : wpC P c8_20 Q s M = w8_20 P Q M (sget s 1) (sget s 3) (sget s 4) (sget s 6) (sget s 8) (sget s 10) (sget s 11) := by kernel_rfl
def o8_21 : List AOper := [⟨some 57, (.mov (.tmp 1)), false, none⟩,
  ⟨some 58, (.mov (.tmp 3)), false, none⟩,
  ⟨some 59, (.call i_account_Account_Charge [(.tmp 57), (.const (.int .i64 9450)), (.tmp 58)]), false, none⟩,
  ⟨some 56, (.mov (.tmp 59)), false, none⟩,
  ⟨some 60, (.extract (.tmp 56) 0), false, none⟩,
  ⟨some 61, (.extract (.tmp 56) 1), false, none⟩,
  ⟨some 13, (.mov (.tmp 60)), false, none⟩,
  ⟨some 14, (.mov (.tmp 61)), false, none⟩]
def c8_22 : ACode := (.region o8_21 [1, 4, 6, 8, 10, 11, 12, 13])
def w8_22 (P : Program) (Q : Exit → Slots → Mem → Prop) (M : Mem) (v1 : V) (v3 : V) (v4 : V) (v6 : V) (v8 : V) (v10 : V) (v11 : V) (v12 : V) : Prop :=
  @CallH P i_account_Account_Charge [v1, (.int .i64 9450), v3] M ⟨fun t59_3 M3 =>
  @OptVH (extractV t59_3 0) ⟨fun t60_5 =>
  @OptVH (extractV t59_3 1) ⟨fun _t61_6 =>
  Q .normal [(1, v1), (4, v4), (6, v6), (8, v8), (10, v10), (11, v11), (12, v12), (13, t60_5)] M3⟩⟩⟩
theorem e8_22 (P : Program) (Q : Exit → Slots → Mem → Prop) (s : Slots) (M : Mem) : wpC P c8_22 Q s M = w8_22 P Q M (sget s 1) (sget s 3) (sget s 4) (sget s 6) (sget s 8) (sget s 10) (sget s 11) (sget s 12) := by kernel_rfl
def o8_23 : List AOper := [⟨some 15, (.mov (.const .nilp)), false, none⟩]
def c8_24 : ACode := (.region o8_23 [1, 4, 6, 8, 10, 11, 12, 13, 15])
def w8_24 (_P : Program) (Q : Exit → Slots → Mem → Prop) (M : Mem) (v1 : V) (v4 : V) (v6 : V) (v8 : V) (v10 : V) (v11 : V) (v12 : V) (v13 : V) : Prop :=
  Q .normal [(1, v1), (4, v4), (6, v6), (8, v8), (10, v10), (11, v11), (12, v12), (13, v13), (15, .nilp)] M
theorem e8_24 (P : Program) (Q : Exit → Slots → Mem → Prop) (s : Slots) (M : Mem) : wpC P c8_24 Q s M = w8_24 P Q M (sget s 1) (sget s 4) (sget s 6) (sget s 8) (sget s 10) (sget s 11) (sget s 12) (sget s 13) := by kernel_rfl
def o8_25 : List AOper := [⟨some 63, (.mov (.tmp 15)), false, none⟩,
  ⟨some 64, (.call i_account_Account_Charge [(.tmp 63), (.const (.int .i64 0)), (.const (.slice [] .nil))]), false, none⟩,
  ⟨some 62, (.mov (.tmp 64)), false, none⟩,
  ⟨some 65, (.extract (.tmp 62) 0), false, none⟩,
  ⟨some 66, (.extract (.tmp 62) 1), false, none⟩,
  ⟨some 16, (.mov (.tmp 65)), false, none⟩,
  ⟨some 17, (.mov (.tmp 66)), false, none⟩]
def c8_26 : ACode := (.region o8_25 [1, 4, 6, 8, 10, 11, 12, 13, 17])
def w8_26 (P : Program) (Q : Exit → Slots → Mem → Prop) (M : Mem) (v1 : V) (v4 : V) (v6 : V) (v8 : V) (v10 : V) (v11 : V) (v12 : V) (v13 : V) (v15 : V) : Prop :=
  @CallH P i_account_Account_Charge [v15, (.int .i64 0), (.slice [] .nil)] M ⟨fun t64_2 M2 =>
  @OptVH (extractV t64_2 0) ⟨fun _t65_4 =>
  @OptVH (extractV t64_2 1) ⟨fun t66_5 =>
  Q .normal [(1, v1), (4, v4), (6, v6), (8, v8), (10, v10), (11, v11), (12, v12), (13, v13), (17, t66_5)] M2⟩⟩⟩
theorem e8_26 (P : Program) (Q : Exit → Slots → Mem → Prop) (s : Slots) (M : Mem) : wpC P c8_26 Q s M = w8_26 P Q M (sget s 1) (sget s 4) (sget s 6) (sget s 8) (sget s 10) (sget s 11) (sget s 12) (sget s 13) (sget s 15) := by kernel_rfl
def o8_27 : List AOper := [⟨some 67, (.mov (.tmp 4)), false, none⟩,
  ⟨some 68, (.bin .eql .none (.tmp 67) (.const (.int .i64 200))), true, none⟩,
  ⟨some 69, (.mov (.tmp 68)), true, none⟩,
  ⟨some 70, (.mov (.tmp 6)), false, some (69, true)⟩,
  ⟨some 71, (.bin .eql .none (.tmp 70) (.const (.int .i64 200))), true, some (69, true)⟩,
  ⟨some 72, (.pick (.tmp 69) (.tmp 71) (.const (.bool false))), true, none⟩,
  ⟨some 73, (.mov (.tmp 72)), true, none⟩,
  ⟨some 74, (.mov (.tmp 8)), false, some (73, true)⟩,
  ⟨some 75, (.bin .eql .none (.tmp 74) (.const (.int .i64 100))), true, some (73, true)⟩,
  ⟨some 76, (.pick (.tmp 73) (.tmp 75) (.const (.bool false))), true, none⟩,
  ⟨some 77, (.mov (.tmp 76)), true, none⟩,
  ⟨some 78, (.mov (.tmp 10)), false, some (77, true)⟩,
  ⟨some 79, (.bin .eql .none (.tmp 78) (.const (.int .i64 0))), true, some (77, true)⟩,
  ⟨some 80, (.pick (.tmp 77) (.tmp 79) (.const (.bool false))), true, none⟩,
  ⟨some 81, (.mov (.tmp 80)), true, none⟩,
  ⟨some 82, (.mov (.tmp 11)), true, some (81, true)⟩,
  ⟨some 83, (.pick (.tmp 81) (.tmp 82) (.const (.bool false))), true, none⟩,
  ⟨some 84, (.mov (.tmp 83)), true, none⟩,
  ⟨some 85, (.mov (.tmp 12)), false, some (84, true)⟩,
  ⟨some 86, (.bin .eql .none (.tmp 85) (.const (.int .i64 0))), true, some (84, true)⟩,
  ⟨some 87, (.pick (.tmp 84) (.tmp 86) (.const (.bool false))), true, none⟩,
  ⟨some 88, (.mov (.tmp 87)), true, none⟩,
  ⟨some 89, (.mov (.tmp 13)), false, some (88, true)⟩,
  ⟨some 90, (.bin .eql .none (.tmp 89) (.const (.int .i64 150))), true, some (88, true)⟩,
  ⟨some 91, (.pick (.tmp 88) (.tmp 90) (.const (.bool false))), true, none⟩,
  ⟨some 92, (.mov (.tmp 91)), true, none⟩,
  ⟨some 93, (.mov (.tmp 1)), false, some (92, true)⟩,
  ⟨some 94, (.call i_account_Account_Refund [(.tmp 93), (.const (.int .i64 1)), (.const (.int .i64 5))]), false, some (92, true)⟩,
  ⟨some 95, (.bin .eql .none (.tmp 94) (.const (.int .i64 7))), true, some (92, true)⟩,
  ⟨some 96, (.pick (.tmp 92) (.tmp 95) (.const (.bool false))), true, none⟩,
  ⟨some 97, (.mov (.tmp 96)), true, none⟩,
  ⟨some 98, (.mov (.tmp 1)), false, some (97, true)⟩,
  ⟨some 99, (.call i_account_Account_Refund [(.tmp 98), (.const (.int .i64 9450)), (.const (.int .i64 0))]), false, some (97, true)⟩,
  ⟨some 100, (.bin .eql .none (.tmp 99) (.const (.int .i64 2))), true, some (97, true)⟩,
  ⟨some 101, (.pick (.tmp 97) (.tmp 100) (.const (.bool false))), true, none⟩,
  ⟨some 102, (.mov (.tmp 101)), true, none⟩,
  ⟨some 103, (.mov (.tmp 17)), false, some (102, true)⟩,
  ⟨some 104, (.bin .eql .none (.tmp 103) (.const (.int .i64 40))), true, some (102, true)⟩,
  ⟨some 105, (.pick (.tmp 102) (.tmp 104) (.const (.bool false))), true, none⟩,
  ⟨some 106, (.mov (.tmp 105)), true, none⟩,
  ⟨some 107, (.mov (.tmp 1)), false, some (106, true)⟩,
  ⟨some 108, (.call i_account_Account_Total [(.tmp 107)]), false, some (106, true)⟩,
  ⟨some 109, (.bin .eql .none (.tmp 108) (.const (.int .i64 500))), true, some (106, true)⟩,
  ⟨some 110, (.pick (.tmp 106) (.tmp 109) (.const (.bool false))), true, none⟩,
  ⟨some 0, (.mov (.tmp 110)), true, none⟩]
def c8_28 : ACode := (.region o8_27 [0])
def w8_28 (P : Program) (Q : Exit → Slots → Mem → Prop) (M : Mem) (v1 : V) (v4 : V) (v6 : V) (v8 : V) (v10 : V) (v11 : V) (v12 : V) (v13 : V) (v17 : V) : Prop :=
  @OptBH (binV .eql .none v4 (.int .i64 200)) ⟨fun b68_2 =>
  @BIfH b68_2
  ⟨@OptBH (binV .eql .none v6 (.int .i64 200)) ⟨fun b71_5 =>
  @BIfH b71_5
  ⟨@OptBH (binV .eql .none v8 (.int .i64 100)) ⟨fun b75_9 =>
  @BIfH b75_9
  ⟨@OptBH (binV .eql .none v10 (.int .i64 0)) ⟨fun b79_13 =>
  @BIfH b79_13
  ⟨@OptBH (some v11) ⟨fun b82_16 =>
  @BIfH b82_16
  ⟨@OptBH (binV .eql .none v12 (.int .i64 0)) ⟨fun b86_20 =>
  @BIfH b86_20
  ⟨@OptBH (binV .eql .none v13 (.int .i64 150)) ⟨fun b90_24 =>
  @BIfH b90_24
  ⟨@CallH P i_account_Account_Refund [v1, (.int .i64 1), (.int .i64 5)] M ⟨fun t94_28 M28 =>
  @OptBH (binV .eql .none t94_28 (.int .i64 7)) ⟨fun b95_29 =>
  @BIfH b95_29
  ⟨@CallH P i_account_Account_Refund [v1, (.int .i64 9450), (.int .i64 0)] M28 ⟨fun t99_33 M33 =>
  @OptBH (binV .eql .none t99_33 (.int .i64 2)) ⟨fun b100_34 =>
  @BIfH b100_34
  ⟨@OptBH (binV .eql .none v17 (.int .i64 40)) ⟨fun b104_38 =>
  @BIfH b104_38
  ⟨@CallH P i_account_Account_Total [v1] M33 ⟨fun t108_42 M42 =>
  @OptBH (binV .eql .none t108_42 (.int .i64 500)) ⟨fun b109_43 =>
  Q .normal [(0, (.bool b109_43))] M42⟩⟩⟩
  ⟨Q .normal [(0, (.bool false))] M33⟩⟩⟩
  ⟨Q .normal [(0, (.bool false))] M33⟩⟩⟩⟩
  ⟨Q .normal [(0, (.bool false))] M28⟩⟩⟩⟩
  ⟨Q .normal [(0, (.bool false))] M⟩⟩⟩
  ⟨Q .normal [(0, (.bool false))] M⟩⟩⟩
  ⟨Q .normal [(0, (.bool false))] M⟩⟩⟩
  ⟨Q .normal [(0, (.bool false))] M⟩⟩⟩
  ⟨Q .normal [(0, (.bool false))] M⟩⟩⟩
  ⟨Q .normal [(0, (.bool false))] M⟩⟩⟩
  ⟨Q .normal [(0, (.bool false))] M⟩⟩
theorem e8_28 (P : Program) (Q : Exit → Slots → Mem → Prop) (s : Slots) (M : Mem) : wpC P c8_28 Q s M = w8_28 P Q M (sget s 1) (sget s 4) (sget s 6) (sget s 8) (sget s 10) (sget s 11) (sget s 12) (sget s 13) (sget s 17) := by kernel_rfl
def c8_29 : ACode := (.seq c8_28 .ret)
def c8_30 : ACode := (.seq c8_26 c8_29)
def c8_31 : ACode := (.seq c8_24 c8_30)
def c8_32 : ACode := (.seq c8_22 c8_31)
def c8_33 : ACode := (.seq c8_20 c8_32)
def c8_34 : ACode := (.seq c8_18 c8_33)
def c8_35 : ACode := (.seq c8_16 c8_34)
def c8_36 : ACode := (.seq c8_14 c8_35)
def c8_37 : ACode := (.seq c8_12 c8_36)
def c8_38 : ACode := (.seq c8_10 c8_37)
def c8_39 : ACode := (.seq c8_8 c8_38)
def c8_40 : ACode := (.seq c8_3 c8_39)
def c8_41 : ACode := (.seq c8_1 c8_40)
def fn_transitlaw37_exampleHolds : AFn := ⟨111, [(.tmp 0)], c8_41⟩
theorem fn_transitlaw37_exampleHolds_ok : resFn PR h_transitlaw37_exampleHolds i_transitlaw37_exampleHolds = some fn_transitlaw37_exampleHolds := by kernel_rfl

def h_account_New : Hints := ⟨[(0, [1]), (1, [1, 6]), (2, [1, 14]), (3, [2, 3]), (4, [1]), (5, [2, 3])], [], []⟩
def o9_0 : List AOper := [⟨some 1, (.box 4 (.tmp 0)), false, none⟩,
  ⟨some 2, (.mov (.const .nilp)), false, none⟩,
  ⟨some 3, (.mov (.const (.int .i64 0))), false, none⟩]
def c9_1 : ACode := (.region o9_0 [1])
def w9_1 (_P : Program) (Q : Exit → Slots → Mem → Prop) (M : Mem) (v0 : V) : Prop :=
  @OptMH (boxV 4 v0 M) ⟨fun t1_1 M1 =>
  Q .normal [(1, t1_1)] M1⟩
theorem e9_1 (P : Program) (Q : Exit → Slots → Mem → Prop) (s : Slots) (M : Mem) : wpC P c9_1 Q s M = w9_1 P Q M (sget s 0) := by kernel_rfl
def o9_2 : List AOper := [⟨some 8, (.load 4 true (.tmp 1)), false, none⟩,
  ⟨some 9, (.call i_fare_Price [(.tmp 8), (.const (.slice [] .nil))]), false, none⟩,
  ⟨some 7, (.mov (.tmp 9)), false, none⟩,
  ⟨some 10, (.extract (.tmp 7) 0), false, none⟩,
  ⟨some 11, (.extract (.tmp 7) 1), false, none⟩,
  ⟨some 12, (.extract (.tmp 7) 2), false, none⟩,
  ⟨some 4, (.mov (.tmp 10)), false, none⟩,
  ⟨some 5, (.mov (.tmp 11)), false, none⟩,
  ⟨some 6, (.mov (.tmp 12)), false, none⟩]
def c9_3 : ACode := (.region o9_2 [1, 6])
def w9_3 (P : Program) (Q : Exit → Slots → Mem → Prop) (M : Mem) (v1 : V) : Prop :=
  @OptVH (loadV 4 true v1 M) ⟨fun t8_1 =>
  @CallH P i_fare_Price [t8_1, (.slice [] .nil)] M ⟨fun t9_2 M2 =>
  @OptVH (extractV t9_2 0) ⟨fun _t10_4 =>
  @OptVH (extractV t9_2 1) ⟨fun _t11_5 =>
  @OptVH (extractV t9_2 2) ⟨fun t12_6 =>
  Q .normal [(1, v1), (6, t12_6)] M2⟩⟩⟩⟩⟩
theorem e9_3 (P : Program) (Q : Exit → Slots → Mem → Prop) (s : Slots) (M : Mem) : wpC P c9_3 Q s M = w9_3 P Q M (sget s 1) := by kernel_rfl
def o9_4 : List AOper := [⟨some 2, (.mov (.const .nilp)), false, none⟩,
  ⟨some 3, (.mov (.const (.int .i64 20))), false, none⟩]
def c9_5 : ACode := (.region o9_4 [2, 3])
def w9_5 (_P : Program) (Q : Exit → Slots → Mem → Prop) (M : Mem) : Prop :=
  Q .normal [(2, .nilp), (3, (.int .i64 20))] M
theorem e9_5 (P : Program) (Q : Exit → Slots → Mem → Prop) (s : Slots) (M : Mem) : wpC P c9_5 Q s M = w9_5 P Q M := by kernel_rfl
def c9_6 : ACode := (.seq c9_5 .ret)
def o9_7 : List AOper := [⟨some 13, (.mov (.tmp 6)), false, none⟩,
  ⟨some 14, (.bin .neq .none (.tmp 13) (.const (.int .i64 0))), true, none⟩]
def c9_8 : ACode := (.seq (.region o9_7 [1, 14]) (.cond (.tmp 14) c9_6 .skip))
def w9_8 (P : Program) (Q : Exit → Slots → Mem → Prop) (M : Mem) (v1 : V) (v6 : V) : Prop :=
  @OptBH (binV .neq .none v6 (.int .i64 0)) ⟨fun b14_2 =>
  @BIfH b14_2
  ⟨wpC P c9_6 Q [(1, v1), (14, (.bool b14_2))] M⟩
  ⟨Q .normal [(1, v1), (14, (.bool b14_2))] M⟩⟩
theorem e9_8 (P : Program) (Q : Exit → Slots → Mem → Prop) (s : Slots) (M : Mem) : wpC P c9_8 Q s M = w9_8 P Q M (sget s 1) (sget s 6) := by kernel_rfl
def o9_9 : List AOper := [⟨some 15, (.fieldAddr 0 (.tmp 1)), false, none⟩,
  ⟨some 16, (.load 1 false (.tmp 15)), false, none⟩,
  ⟨some 17, (.call i_slices_Clone_api_Product_api_Product [(.tmp 16)]), false, none⟩,
  ⟨some 18, (.fieldAddr 0 (.tmp 1)), false, none⟩,
  ⟨none, (.store 1 (.tmp 18) (.tmp 17)), false, none⟩]
def c9_10 : ACode := (.region o9_9 [1])
def w9_10 (P : Program) (Q : Exit → Slots → Mem → Prop) (M : Mem) (v1 : V) : Prop :=
  @OptVH (moveV 0 v1) ⟨fun t15_1 =>
  @OptVH (loadV 1 false t15_1 M) ⟨fun t16_2 =>
  @CallH P i_slices_Clone_api_Product_api_Product [t16_2] M ⟨fun t17_3 M3 =>
  @OptVH (moveV 0 v1) ⟨fun t18_4 =>
  @OptMH (storeVM 1 t18_4 t17_3 M3) ⟨fun _tx_5 M5 =>
  Q .normal [(1, v1)] M5⟩⟩⟩⟩⟩
theorem e9_10 (P : Program) (Q : Exit → Slots → Mem → Prop) (s : Slots) (M : Mem) : wpC P c9_10 Q s M = w9_10 P Q M (sget s 1) := by kernel_rfl
def o9_11 : List AOper := [⟨some 19, (.makeMap none), false, none⟩,
  ⟨some 20, (.build [.nilm] [(0, (1, (.tmp 19)))]), false, none⟩,
  ⟨some 21, (.load 4 true (.tmp 1)), false, none⟩,
  ⟨some 22, (.build [.nilm, (.slice [] .nil), (.int .i64 0), (.int .i64 0), (.int .i64 0)] [(0, (1, (.tmp 20))), (1, (4, (.tmp 21)))]), false, none⟩,
  ⟨some 23, (.box 5 (.tmp 22)), false, none⟩,
  ⟨some 2, (.mov (.tmp 23)), false, none⟩,
  ⟨some 3, (.mov (.const (.int .i64 0))), false, none⟩]
def c9_12 : ACode := (.region o9_11 [2, 3])
def w9_12 (_P : Program) (Q : Exit → Slots → Mem → Prop) (M : Mem) (v1 : V) : Prop :=
  @OptMH (makeMapV none M) ⟨fun t19_1 M1 =>
  @OptVH (buildV [.nilm] [(0, 1, t19_1)]) ⟨fun t20_2 =>
  @OptVH (loadV 4 true v1 M1) ⟨fun t21_3 =>
  @OptVH (buildV [.nilm, (.slice [] .nil), (.int .i64 0), (.int .i64 0), (.int .i64 0)] [(0, 1, t20_2), (1, 4, t21_3)]) ⟨fun t22_4 =>
  @OptMH (boxV 5 t22_4 M1) ⟨fun t23_5 M5 =>
  Q .normal [(2, t23_5), (3, (.int .i64 0))] M5⟩⟩⟩⟩⟩
theorem e9_12 (P : Program) (Q : Exit → Slots → Mem → Prop) (s : Slots) (M : Mem) : wpC P c9_12 Q s M = w9_12 P Q M (sget s 1) := by kernel_rfl
def c9_13 : ACode := (.seq c9_12 .ret)
def c9_14 : ACode := (.seq c9_10 c9_13)
def c9_15 : ACode := (.seq c9_8 c9_14)
def c9_16 : ACode := (.seq c9_3 c9_15)
def c9_17 : ACode := (.seq c9_1 c9_16)
def fn_account_New : AFn := ⟨24, [(.tmp 2), (.tmp 3)], c9_17⟩
theorem fn_account_New_ok : resFn PR h_account_New i_account_New = some fn_account_New := by kernel_rfl

def h_transitlaw37_do : Hints := ⟨[(0, [0, 3]), (1, [0, 3, 7]), (2, [4, 5]), (3, [4, 5])], [], []⟩
def o10_0 : List AOper := [⟨some 3, (.box 4 (.tmp 1)), false, none⟩,
  ⟨some 4, (.mov (.const (.int .i64 0))), false, none⟩,
  ⟨some 5, (.mov (.const (.int .i64 0))), false, none⟩]
def c10_1 : ACode := (.region o10_0 [0, 3])
def w10_1 (_P : Program) (Q : Exit → Slots → Mem → Prop) (M : Mem) (v0 : V) (v1 : V) : Prop :=
  @OptMH (boxV 4 v1 M) ⟨fun t3_1 M1 =>
  Q .normal [(0, v0), (3, t3_1)] M1⟩
theorem e10_1 (P : Program) (Q : Exit → Slots → Mem → Prop) (s : Slots) (M : Mem) : wpC P c10_1 Q s M = w10_1 P Q M (sget s 0) (sget s 1) := by kernel_rfl
def o10_2 : List AOper := [⟨some 8, (.mov (.tmp 0)), false, none⟩,
  ⟨some 9, (.fieldAddr 0 (.tmp 3)), false, none⟩,
  ⟨some 10, (.load 1 false (.tmp 9)), false, none⟩,
  ⟨some 11, (.fieldAddr 3 (.tmp 3)), false, none⟩,
  ⟨some 12, (.load 1 false (.tmp 11)), false, none⟩,
  ⟨some 13, (.call i_account_Account_Refund [(.tmp 8), (.tmp 10), (.tmp 12)]), false, none⟩,
  ⟨some 4, (.mov (.const (.int .i64 0))), false, none⟩,
  ⟨some 5, (.mov (.tmp 13)), false, none⟩]
def c10_3 : ACode := (.region o10_2 [4, 5])
def w10_3 (P : Program) (Q : Exit → Slots → Mem → Prop) (M : Mem) (v0 : V) (v3 : V) : Prop :=
  @OptVH (moveV 0 v3) ⟨fun t9_2 =>
  @OptVH (loadV 1 false t9_2 M) ⟨fun t10_3 =>
  @OptVH (moveV 3 v3) ⟨fun t11_4 =>
  @OptVH (loadV 1 false t11_4 M) ⟨fun t12_5 =>
  @CallH P i_account_Account_Refund [v0, t10_3, t12_5] M ⟨fun t13_6 M6 =>
  Q .normal [(4, (.int .i64 0)), (5, t13_6)] M6⟩⟩⟩⟩⟩
theorem e10_3 (P : Program) (Q : Exit → Slots → Mem → Prop) (s : Slots) (M : Mem) : wpC P c10_3 Q s M = w10_3 P Q M (sget s 0) (sget s 3) := by kernel_rfl
def c10_4 : ACode := (.seq c10_3 .ret)
def o10_5 : List AOper := [⟨some 6, (.fieldAddr 2 (.tmp 3)), false, none⟩,
  ⟨some 7, (.load 1 false (.tmp 6)), true, none⟩]
def c10_6 : ACode := (.seq (.region o10_5 [0, 3, 7]) (.cond (.tmp 7) c10_4 .skip))
def w10_6 (P : Program) (Q : Exit → Slots → Mem → Prop) (M : Mem) (v0 : V) (v3 : V) : Prop :=
  @OptVH (moveV 2 v3) ⟨fun t6_1 =>
  @OptBH (loadV 1 false t6_1 M) ⟨fun b7_2 =>
  @BIfH b7_2
  ⟨wpC P c10_4 Q [(0, v0), (3, v3), (7, (.bool b7_2))] M⟩
  ⟨Q .normal [(0, v0), (3, v3), (7, (.bool b7_2))] M⟩⟩⟩
theorem e10_6 (P : Program) (Q : Exit → Slots → Mem → Prop) (s : Slots) (M : Mem) : wpC P c10_6 Q s M = w10_6 P Q M (sget s 0) (sget s 3) := by kernel_rfl
def o10_7 : List AOper := [⟨some 14, (.mov (.tmp 0)), false, none⟩,
  ⟨some 15, (.fieldAddr 0 (.tmp 3)), false, none⟩,
  ⟨some 16, (.load 1 false (.tmp 15)), false, none⟩,
  ⟨some 17, (.fieldAddr 1 (.tmp 3)), false, none⟩,
  ⟨some 18, (.load 1 false (.tmp 17)), false, none⟩,
  ⟨some 19, (.call i_account_Account_Charge [(.tmp 14), (.tmp 16), (.tmp 18)]), false, none⟩,
  ⟨some 20, (.extract (.tmp 19) 0), false, none⟩,
  ⟨some 21, (.extract (.tmp 19) 1), false, none⟩,
  ⟨some 4, (.mov (.tmp 20)), false, none⟩,
  ⟨some 5, (.mov (.tmp 21)), false, none⟩]
def c10_8 : ACode := (.region o10_7 [4, 5])
def w10_8 (P : Program) (Q : Exit → Slots → Mem → Prop) (M : Mem) (v0 : V) (v3 : V) : Prop :=
  @OptVH (moveV 0 v3) ⟨fun t15_2 =>
  @OptVH (loadV 1 false t15_2 M) ⟨fun t16_3 =>
  @OptVH (moveV 1 v3) ⟨fun t17_4 =>
  @OptVH (loadV 1 false t17_4 M) ⟨fun t18_5 =>
  @CallH P i_account_Account_Charge [v0, t16_3, t18_5] M ⟨fun t19_6 M6 =>
  @OptVH (extractV t19_6 0) ⟨fun t20_7 =>
  @OptVH (extractV t19_6 1) ⟨fun t21_8 =>
  Q .normal [(4, t20_7), (5, t21_8)] M6⟩⟩⟩⟩⟩⟩⟩
theorem e10_8 (P : Program) (Q : Exit → Slots → Mem → Prop) (s : Slots) (M : Mem) : wpC P c10_8 Q s M = w10_8 P Q M (sget s 0) (sget s 3) := by kernel_rfl
def c10_9 : ACode := (.seq c10_8 .ret)
def c10_10 : ACode := (.seq c10_6 c10_9)
def c10_11 : ACode := (.seq c10_1 c10_10)
def fn_transitlaw37_do : AFn := ⟨22, [(.tmp 4), (.tmp 5)], c10_11⟩
theorem fn_transitlaw37_do_ok : resFn PR h_transitlaw37_do i_transitlaw37_do = some fn_transitlaw37_do := by kernel_rfl

def h_account_Account_Spent : Hints := ⟨[(0, [0, 1]), (1, [0, 1, 6]), (2, [4]), (3, [4])], [], []⟩
def o11_0 : List AOper := [⟨some 4, (.mov (.const (.int .i64 0))), false, none⟩]
def c11_1 : ACode := (.region o11_0 [0, 1])
def w11_1 (_P : Program) (Q : Exit → Slots → Mem → Prop) (M : Mem) (v0 : V) (v1 : V) : Prop :=
  Q .normal [(0, v0), (1, v1)] M
theorem e11_1 (P : Program) (Q : Exit → Slots → Mem → Prop) (s : Slots) (M : Mem) : wpC P c11_1 Q s M = w11_1 P Q M (sget s 0) (sget s 1) := by kernel_rfl
def o11_2 : List AOper := [⟨some 4, (.mov (.const (.int .i64 0))), false, none⟩]
def c11_3 : ACode := (.region o11_2 [4])
def w11_3 (_P : Program) (Q : Exit → Slots → Mem → Prop) (M : Mem) : Prop :=
  Q .normal [(4, (.int .i64 0))] M
theorem e11_3 (P : Program) (Q : Exit → Slots → Mem → Prop) (s : Slots) (M : Mem) : wpC P c11_3 Q s M = w11_3 P Q M := by kernel_rfl
def c11_4 : ACode := (.seq c11_3 .ret)
def o11_5 : List AOper := [⟨some 5, (.mov (.tmp 0)), false, none⟩,
  ⟨some 6, (.bin .eql .ptr (.tmp 5) (.const .nilp)), true, none⟩]
def c11_6 : ACode := (.seq (.region o11_5 [0, 1, 6]) (.cond (.tmp 6) c11_4 .skip))
def w11_6 (P : Program) (Q : Exit → Slots → Mem → Prop) (M : Mem) (v0 : V) (v1 : V) : Prop :=
  @OptBH (binV .eql .ptr v0 .nilp) ⟨fun b6_2 =>
  @BIfH b6_2
  ⟨wpC P c11_4 Q [(0, v0), (1, v1), (6, (.bool b6_2))] M⟩
  ⟨Q .normal [(0, v0), (1, v1), (6, (.bool b6_2))] M⟩⟩
theorem e11_6 (P : Program) (Q : Exit → Slots → Mem → Prop) (s : Slots) (M : Mem) : wpC P c11_6 Q s M = w11_6 P Q M (sget s 0) (sget s 1) := by kernel_rfl
def o11_7 : List AOper := [⟨some 7, (.mov (.tmp 0)), false, none⟩,
  ⟨some 8, (.nilCheck (.tmp 7)), false, none⟩,
  ⟨some 9, (.fieldAddr 0 (.tmp 8)), false, none⟩,
  ⟨some 10, (.fieldAddr 0 (.tmp 9)), false, none⟩,
  ⟨some 11, (.load 1 false (.tmp 10)), false, none⟩,
  ⟨some 12, (.mov (.tmp 1)), false, none⟩,
  ⟨some 13, (.lookup .int [(.int .i64 0)] false false (.tmp 11) (.tmp 12)), false, none⟩,
  ⟨some 4, (.mov (.tmp 13)), false, none⟩]
def c11_8 : ACode := (.region o11_7 [4])
def w11_8 (_P : Program) (Q : Exit → Slots → Mem → Prop) (M : Mem) (v0 : V) (v1 : V) : Prop :=
  @OptVH (nilCheckV v0) ⟨fun t8_2 =>
  @OptVH (moveV 0 t8_2) ⟨fun t9_3 =>
  @OptVH (moveV 0 t9_3) ⟨fun t10_4 =>
  @OptVH (loadV 1 false t10_4 M) ⟨fun t11_5 =>
  @OptVH (lookupV .int [(.int .i64 0)] false false t11_5 v1 M) ⟨fun t13_7 =>
  Q .normal [(4, t13_7)] M⟩⟩⟩⟩⟩
theorem e11_8 (P : Program) (Q : Exit → Slots → Mem → Prop) (s : Slots) (M : Mem) : wpC P c11_8 Q s M = w11_8 P Q M (sget s 0) (sget s 1) := by kernel_rfl
def c11_9 : ACode := (.seq c11_8 .ret)
def c11_10 : ACode := (.seq c11_6 c11_9)
def c11_11 : ACode := (.seq c11_1 c11_10)
def fn_account_Account_Spent : AFn := ⟨14, [(.tmp 4)], c11_11⟩
theorem fn_account_Account_Spent_ok : resFn PR h_account_Account_Spent i_account_Account_Spent = some fn_account_Account_Spent := by kernel_rfl

def h_account_Account_Left : Hints := ⟨[(0, [0, 1]), (1, [0, 1, 20]), (2, [4, 5]), (3, [4, 5])], [], []⟩
def o12_0 : List AOper := [⟨some 4, (.mov (.const (.int .i64 0))), false, none⟩,
  ⟨some 5, (.mov (.const (.bool false))), true, none⟩]
def c12_1 : ACode := (.region o12_0 [0, 1])
def w12_1 (_P : Program) (Q : Exit → Slots → Mem → Prop) (M : Mem) (v0 : V) (v1 : V) : Prop :=
  Q .normal [(0, v0), (1, v1)] M
theorem e12_1 (P : Program) (Q : Exit → Slots → Mem → Prop) (s : Slots) (M : Mem) : wpC P c12_1 Q s M = w12_1 P Q M (sget s 0) (sget s 1) := by kernel_rfl
def o12_2 : List AOper := [⟨some 4, (.mov (.const (.int .i64 0))), false, none⟩,
  ⟨some 5, (.mov (.const (.bool false))), true, none⟩]
def c12_3 : ACode := (.region o12_2 [4, 5])
def w12_3 (_P : Program) (Q : Exit → Slots → Mem → Prop) (M : Mem) : Prop :=
  Q .normal [(4, (.int .i64 0)), (5, (.bool false))] M
theorem e12_3 (P : Program) (Q : Exit → Slots → Mem → Prop) (s : Slots) (M : Mem) : wpC P c12_3 Q s M = w12_3 P Q M := by kernel_rfl
def c12_4 : ACode := (.seq c12_3 .ret)
def o12_5 : List AOper := [⟨some 6, (.mov (.tmp 0)), false, none⟩,
  ⟨some 7, (.bin .eql .ptr (.tmp 6) (.const .nilp)), true, none⟩,
  ⟨some 8, (.mov (.tmp 7)), true, none⟩,
  ⟨some 9, (.mov (.tmp 0)), false, some (8, false)⟩,
  ⟨some 10, (.nilCheck (.tmp 9)), false, some (8, false)⟩,
  ⟨some 11, (.fieldAddr 1 (.tmp 10)), false, some (8, false)⟩,
  ⟨some 12, (.fieldAddr 3 (.tmp 11)), false, some (8, false)⟩,
  ⟨some 13, (.load 1 false (.tmp 12)), false, some (8, false)⟩,
  ⟨some 14, (.bin .eql .none (.tmp 13) (.const (.int .i64 0))), true, some (8, false)⟩,
  ⟨some 15, (.pick (.tmp 8) (.const (.bool true)) (.tmp 14)), true, none⟩,
  ⟨some 16, (.mov (.tmp 15)), true, none⟩,
  ⟨some 17, (.mov (.tmp 1)), false, some (16, false)⟩,
  ⟨some 18, (.call i_account_valid [(.tmp 17)]), true, some (16, false)⟩,
  ⟨some 19, (.un .not (.tmp 18)), true, some (16, false)⟩,
  ⟨some 20, (.pick (.tmp 16) (.const (.bool true)) (.tmp 19)), true, none⟩]
def c12_6 : ACode := (.seq (.region o12_5 [0, 1, 20]) (.cond (.tmp 20) c12_4 .skip))
def w12_6 (P : Program) (Q : Exit → Slots → Mem → Prop) (M : Mem) (v0 : V) (v1 : V) : Prop :=
  @OptBH (binV .eql .ptr v0 .nilp) ⟨fun b7_2 =>
  @BIfH b7_2
  ⟨wpC P c12_4 Q [(0, v0), (1, v1), (20, (.bool true))] M⟩
  ⟨@OptVH (nilCheckV v0) ⟨fun t10_8 =>
  @OptVH (moveV 1 t10_8) ⟨fun t11_9 =>
  @OptVH (moveV 3 t11_9) ⟨fun t12_10 =>
  @OptVH (loadV 1 false t12_10 M) ⟨fun t13_11 =>
  @OptBH (binV .eql .none t13_11 (.int .i64 0)) ⟨fun b14_12 =>
  @BIfH b14_12
  ⟨wpC P c12_4 Q [(0, v0), (1, v1), (20, (.bool true))] M⟩
  ⟨@CallH P i_account_valid [v1] M ⟨fun t18_17 M17 => @OptBH (some t18_17) ⟨fun b18_17 =>
  @OptBH (unV .not (.bool b18_17)) ⟨fun b19_18 =>
  @BIfH b19_18
  ⟨wpC P c12_4 Q [(0, v0), (1, v1), (20, (.bool b19_18))] M17⟩
  ⟨Q .normal [(0, v0), (1, v1), (20, (.bool b19_18))] M17⟩⟩⟩⟩⟩⟩⟩⟩⟩⟩⟩⟩
theorem e12_6 (P : Program) (Q : Exit → Slots → Mem → Prop) (s : Slots) (M : Mem) : wpC P c12_6 Q s M = w12_6 P Q M (sget s 0) (sget s 1) := by kernel_rfl
def o12_7 : List AOper := [⟨some 21, (.mov (.tmp 0)), false, none⟩,
  ⟨some 22, (.nilCheck (.tmp 21)), false, none⟩,
  ⟨some 23, (.fieldAddr 1 (.tmp 22)), false, none⟩,
  ⟨some 24, (.fieldAddr 3 (.tmp 23)), false, none⟩,
  ⟨some 25, (.load 1 false (.tmp 24)), false, none⟩,
  ⟨some 26, (.mov (.tmp 0)), false, none⟩,
  ⟨some 27, (.nilCheck (.tmp 26)), false, none⟩,
  ⟨some 28, (.fieldAddr 0 (.tmp 27)), false, none⟩,
  ⟨some 29, (.fieldAddr 0 (.tmp 28)), false, none⟩,
  ⟨some 30, (.load 1 false (.tmp 29)), false, none⟩,
  ⟨some 31, (.mov (.tmp 1)), false, none⟩,
  ⟨some 32, (.lookup .int [(.int .i64 0)] false false (.tmp 30) (.tmp 31)), false, none⟩,
  ⟨some 33, (.bin .sub .none (.tmp 25) (.tmp 32)), false, none⟩,
  ⟨some 4, (.mov (.tmp 33)), false, none⟩,
  ⟨some 5, (.mov (.const (.bool true))), true, none⟩]
def c12_8 : ACode := (.mixed o12_7 [true, true, true, true, true, true, true, true, true, true, true, true, true, true, true] [4, 5])
def w12_8 (_P : Program) (Q : Exit → Slots → Mem → Prop) (M : Mem) (v0 : V) (v1 : V) : Prop :=
  @OptVH (nilCheckV v0) ⟨fun t22_2 =>
  @OptVH (moveV 1 t22_2) ⟨fun t23_3 =>
  @OptVH (moveV 3 t23_3) ⟨fun t24_4 =>
  @OptVH (loadV 1 false t24_4 M) ⟨fun t25_5 =>
  @OptVH (nilCheckV v0) ⟨fun t27_7 =>
  @OptVH (moveV 0 t27_7) ⟨fun t28_8 =>
  @OptVH (moveV 0 t28_8) ⟨fun t29_9 =>
  @OptVH (loadV 1 false t29_9 M) ⟨fun t30_10 =>
  @OptVH (lookupV .int [(.int .i64 0)] false false t30_10 v1 M) ⟨fun t32_12 =>
  @OptVH (binV .sub .none t25_5 t32_12) ⟨fun t33_13 =>
  Q .normal [(4, t33_13), (5, (.bool true))] M⟩⟩⟩⟩⟩⟩⟩⟩⟩⟩
theorem e12_8 (P : Program) (Q : Exit → Slots → Mem → Prop) (s : Slots) (M : Mem) : wpC P c12_8 Q s M = w12_8 P Q M (sget s 0) (sget s 1) := by kernel_rfl
def c12_9 : ACode := (.seq c12_8 .ret)
def c12_10 : ACode := (.seq c12_6 c12_9)
def c12_11 : ACode := (.seq c12_1 c12_10)
def fn_account_Account_Left : AFn := ⟨34, [(.tmp 4), (.tmp 5)], c12_11⟩
theorem fn_account_Account_Left_ok : resFn PR h_account_Account_Left i_account_Account_Left = some fn_account_Account_Left := by kernel_rfl

def h_transitref35_Price : Hints := ⟨[(0, [1, 2]), (1, [1, 2, 11]), (2, [4, 5, 6]), (3, [1, 2, 14]), (4, [4, 5, 6]), (5, [2, 7, 8]), (6, [2, 7, 22]), (7, [4, 5, 6]), (8, [4, 5, 6])], [], []⟩
def o13_0 : List AOper := [⟨some 2, (.box 4 (.tmp 0)), false, none⟩,
  ⟨some 4, (.mov (.const (.int .i64 0))), false, none⟩,
  ⟨some 5, (.mov (.const (.slice [] .nil))), false, none⟩,
  ⟨some 6, (.mov (.const (.int .i64 0))), false, none⟩]
def c13_1 : ACode := (.region o13_0 [1, 2])
def w13_1 (_P : Program) (Q : Exit → Slots → Mem → Prop) (M : Mem) (v0 : V) (v1 : V) : Prop :=
  @OptMH (boxV 4 v0 M) ⟨fun t2_1 M1 =>
  Q .normal [(1, v1), (2, t2_1)] M1⟩
theorem e13_1 (P : Program) (Q : Exit → Slots → Mem → Prop) (s : Slots) (M : Mem) : wpC P c13_1 Q s M = w13_1 P Q M (sget s 0) (sget s 1) := by kernel_rfl
def o13_2 : List AOper := [⟨some 4, (.mov (.const (.int .i64 0))), false, none⟩,
  ⟨some 5, (.mov (.const (.slice [] .nil))), false, none⟩,
  ⟨some 6, (.mov (.const (.int .i64 20))), false, none⟩]
def c13_3 : ACode := (.region o13_2 [4, 5, 6])
def w13_3 (_P : Program) (Q : Exit → Slots → Mem → Prop) (M : Mem) : Prop :=
  Q .normal [(4, (.int .i64 0)), (5, (.slice [] .nil)), (6, (.int .i64 20))] M
theorem e13_3 (P : Program) (Q : Exit → Slots → Mem → Prop) (s : Slots) (M : Mem) : wpC P c13_3 Q s M = w13_3 P Q M := by kernel_rfl
def c13_4 : ACode := (.seq c13_3 .ret)
def o13_5 : List AOper := [⟨some 9, (.load 4 true (.tmp 2)), false, none⟩,
  ⟨some 10, (.call i_transitref35_Valid [(.tmp 9)]), true, none⟩,
  ⟨some 11, (.un .not (.tmp 10)), true, none⟩]
def c13_6 : ACode := (.seq (.region o13_5 [1, 2, 11]) (.cond (.tmp 11) c13_4 .skip))
def w13_6 (P : Program) (Q : Exit → Slots → Mem → Prop) (M : Mem) (v1 : V) (v2 : V) : Prop :=
  @OptVH (loadV 4 true v2 M) ⟨fun t9_1 =>
  @CallH P i_transitref35_Valid [t9_1] M ⟨fun t10_2 M2 => @OptBH (some t10_2) ⟨fun b10_2 =>
  @OptBH (unV .not (.bool b10_2)) ⟨fun b11_3 =>
  @BIfH b11_3
  ⟨wpC P c13_4 Q [(1, v1), (2, v2), (11, (.bool b11_3))] M2⟩
  ⟨Q .normal [(1, v1), (2, v2), (11, (.bool b11_3))] M2⟩⟩⟩⟩⟩
theorem e13_6 (P : Program) (Q : Exit → Slots → Mem → Prop) (s : Slots) (M : Mem) : wpC P c13_6 Q s M = w13_6 P Q M (sget s 1) (sget s 2) := by kernel_rfl
def o13_7 : List AOper := [⟨some 4, (.mov (.const (.int .i64 0))), false, none⟩,
  ⟨some 5, (.mov (.const (.slice [] .nil))), false, none⟩,
  ⟨some 6, (.mov (.const (.int .i64 33))), false, none⟩]
def c13_8 : ACode := (.region o13_7 [4, 5, 6])
def w13_8 (_P : Program) (Q : Exit → Slots → Mem → Prop) (M : Mem) : Prop :=
  Q .normal [(4, (.int .i64 0)), (5, (.slice [] .nil)), (6, (.int .i64 33))] M
theorem e13_8 (P : Program) (Q : Exit → Slots → Mem → Prop) (s : Slots) (M : Mem) : wpC P c13_8 Q s M = w13_8 P Q M := by kernel_rfl
def c13_9 : ACode := (.seq c13_8 .ret)
def o13_10 : List AOper := [⟨some 12, (.mov (.tmp 1)), false, none⟩,
  ⟨some 13, (.lenSl (.tmp 12)), false, none⟩,
  ⟨some 14, (.bin .gtr .none (.tmp 13) (.const (.int .i64 8))), true, none⟩]
def c13_11 : ACode := (.seq (.region o13_10 [1, 2, 14]) (.cond (.tmp 14) c13_9 .skip))
def w13_11 (P : Program) (Q : Exit → Slots → Mem → Prop) (M : Mem) (v1 : V) (v2 : V) : Prop :=
  @OptVH (lenV v1 M) ⟨fun t13_2 =>
  @OptBH (binV .gtr .none t13_2 (.int .i64 8)) ⟨fun b14_3 =>
  @BIfH b14_3
  ⟨wpC P c13_9 Q [(1, v1), (2, v2), (14, (.bool b14_3))] M⟩
  ⟨Q .normal [(1, v1), (2, v2), (14, (.bool b14_3))] M⟩⟩⟩
theorem e13_11 (P : Program) (Q : Exit → Slots → Mem → Prop) (s : Slots) (M : Mem) : wpC P c13_11 Q s M = w13_11 P Q M (sget s 1) (sget s 2) := by kernel_rfl
def o13_12 : List AOper := [⟨some 16, (.load 4 true (.tmp 2)), false, none⟩,
  ⟨some 17, (.mov (.tmp 1)), false, none⟩,
  ⟨some 18, (.call i_transitref35_Best [(.tmp 16), (.tmp 17)]), false, none⟩,
  ⟨some 15, (.mov (.tmp 18)), false, none⟩,
  ⟨some 19, (.extract (.tmp 15) 0), false, none⟩,
  ⟨some 20, (.extract (.tmp 15) 1), true, none⟩,
  ⟨some 7, (.mov (.tmp 19)), false, none⟩,
  ⟨some 8, (.mov (.tmp 20)), true, none⟩]
def c13_13 : ACode := (.region o13_12 [2, 7, 8])
def w13_13 (P : Program) (Q : Exit → Slots → Mem → Prop) (M : Mem) (v1 : V) (v2 : V) : Prop :=
  @OptVH (loadV 4 true v2 M) ⟨fun t16_1 =>
  @CallH P i_transitref35_Best [t16_1, v1] M ⟨fun t18_3 M3 =>
  @OptVH (extractV t18_3 0) ⟨fun t19_5 =>
  @OptBH (extractV t18_3 1) ⟨fun b20_6 =>
  Q .normal [(2, v2), (7, t19_5), (8, (.bool b20_6))] M3⟩⟩⟩⟩
theorem e13_13 (P : Program) (Q : Exit → Slots → Mem → Prop) (s : Slots) (M : Mem) : wpC P c13_13 Q s M = w13_13 P Q M (sget s 1) (sget s 2) := by kernel_rfl
def o13_14 : List AOper := [⟨some 4, (.mov (.const (.int .i64 0))), false, none⟩,
  ⟨some 5, (.mov (.const (.slice [] .nil))), false, none⟩,
  ⟨some 6, (.mov (.const (.int .i64 34))), false, none⟩]
def c13_15 : ACode := (.region o13_14 [4, 5, 6])
def w13_15 (_P : Program) (Q : Exit → Slots → Mem → Prop) (M : Mem) : Prop :=
  Q .normal [(4, (.int .i64 0)), (5, (.slice [] .nil)), (6, (.int .i64 34))] M
theorem e13_15 (P : Program) (Q : Exit → Slots → Mem → Prop) (s : Slots) (M : Mem) : wpC P c13_15 Q s M = w13_15 P Q M := by kernel_rfl
def c13_16 : ACode := (.seq c13_15 .ret)
def o13_17 : List AOper := [⟨some 21, (.mov (.tmp 8)), true, none⟩,
  ⟨some 22, (.un .not (.tmp 21)), true, none⟩]
def c13_18 : ACode := (.seq (.region o13_17 [2, 7, 22]) (.cond (.tmp 22) c13_16 .skip))
def w13_18 (P : Program) (Q : Exit → Slots → Mem → Prop) (M : Mem) (v2 : V) (v7 : V) (v8 : V) : Prop :=
  @OptBH (some v8) ⟨fun b21_1 =>
  @OptBH (unV .not (.bool b21_1)) ⟨fun b22_2 =>
  @BIfH b22_2
  ⟨wpC P c13_16 Q [(2, v2), (7, v7), (22, (.bool b22_2))] M⟩
  ⟨Q .normal [(2, v2), (7, v7), (22, (.bool b22_2))] M⟩⟩⟩
theorem e13_18 (P : Program) (Q : Exit → Slots → Mem → Prop) (s : Slots) (M : Mem) : wpC P c13_18 Q s M = w13_18 P Q M (sget s 2) (sget s 7) (sget s 8) := by kernel_rfl
def o13_19 : List AOper := [⟨some 23, (.load 4 true (.tmp 2)), false, none⟩,
  ⟨some 24, (.mov (.tmp 7)), false, none⟩,
  ⟨some 25, (.call i_transitref35_Sum [(.tmp 24)]), false, none⟩,
  ⟨some 26, (.call i_transitref35_Capped [(.tmp 23), (.tmp 25)]), false, none⟩,
  ⟨some 27, (.mov (.tmp 7)), false, none⟩,
  ⟨some 4, (.mov (.tmp 26)), false, none⟩,
  ⟨some 5, (.mov (.tmp 27)), false, none⟩,
  ⟨some 6, (.mov (.const (.int .i64 0))), false, none⟩]
def c13_20 : ACode := (.mixed o13_19 [true, true, true, true, true, true, true, true] [4, 5, 6])
def w13_20 (P : Program) (Q : Exit → Slots → Mem → Prop) (M : Mem) (v2 : V) (v7 : V) : Prop :=
  @OptVH (loadV 4 true v2 M) ⟨fun t23_1 =>
  @CallQ P i_transitref35_Sum [v7] M ⟨fun t25_3 M3 =>
  @CallQ P i_transitref35_Capped [t23_1, t25_3] M3 ⟨fun t26_4 M4 =>
  Q .normal [(4, t26_4), (5, v7), (6, (.int .i64 0))] M4⟩⟩⟩
theorem e13_20 (P : Program) (Q : Exit → Slots → Mem → Prop) (s : Slots) (M : Mem) : wpC P c13_20 Q s M = w13_20 P Q M (sget s 2) (sget s 7) := by kernel_rfl
def c13_21 : ACode := (.seq c13_20 .ret)
def c13_22 : ACode := (.seq c13_18 c13_21)
def c13_23 : ACode := (.seq c13_13 c13_22)
def c13_24 : ACode := (.seq c13_11 c13_23)
def c13_25 : ACode := (.seq c13_6 c13_24)
def c13_26 : ACode := (.seq c13_1 c13_25)
def fn_transitref35_Price : AFn := ⟨28, [(.tmp 4), (.tmp 5), (.tmp 6)], c13_26⟩
theorem fn_transitref35_Price_ok : resFn PR h_transitref35_Price i_transitref35_Price = some fn_transitref35_Price := by kernel_rfl

def h_transitref37_New : Hints := ⟨[(0, [1, 2]), (1, [1, 2, 5]), (2, [1, 2, 12]), (3, [2, 3]), (4, [2, 3])], [], []⟩
def o14_0 : List AOper := [⟨some 1, (.box 4 (.tmp 0)), false, none⟩,
  ⟨some 2, (.alloc [(.slice [] .nil), (.int .i64 0), (.int .i64 0), (.int .i64 0), (.slice [] .nil), (.slice [] .nil)]), false, none⟩,
  ⟨some 3, (.mov (.const (.int .i64 0))), false, none⟩]
def c14_1 : ACode := (.region o14_0 [1, 2])
def w14_1 (_P : Program) (Q : Exit → Slots → Mem → Prop) (M : Mem) (v0 : V) : Prop :=
  @OptMH (boxV 4 v0 M) ⟨fun t1_1 M1 =>
  @OptMH (allocV [(.slice [] .nil), (.int .i64 0), (.int .i64 0), (.int .i64 0), (.slice [] .nil), (.slice [] .nil)] M1) ⟨fun t2_2 M2 =>
  Q .normal [(1, t1_1), (2, t2_2)] M2⟩⟩
theorem e14_1 (P : Program) (Q : Exit → Slots → Mem → Prop) (s : Slots) (M : Mem) : wpC P c14_1 Q s M = w14_1 P Q M (sget s 0) := by kernel_rfl
def o14_2 : List AOper := [⟨some 7, (.load 4 true (.tmp 1)), false, none⟩,
  ⟨some 8, (.call i_transitref21_Check [(.tmp 7)]), false, none⟩,
  ⟨some 6, (.mov (.tmp 8)), false, none⟩,
  ⟨some 9, (.extract (.tmp 6) 0), false, none⟩,
  ⟨some 10, (.extract (.tmp 6) 1), false, none⟩,
  ⟨some 4, (.mov (.tmp 9)), false, none⟩,
  ⟨some 5, (.mov (.tmp 10)), false, none⟩]
def c14_3 : ACode := (.region o14_2 [1, 2, 5])
def w14_3 (P : Program) (Q : Exit → Slots → Mem → Prop) (M : Mem) (v1 : V) (v2 : V) : Prop :=
  @OptVH (loadV 4 true v1 M) ⟨fun t7_1 =>
  @CallH P i_transitref21_Check [t7_1] M ⟨fun t8_2 M2 =>
  @OptVH (extractV t8_2 0) ⟨fun _t9_4 =>
  @OptVH (extractV t8_2 1) ⟨fun t10_5 =>
  Q .normal [(1, v1), (2, v2), (5, t10_5)] M2⟩⟩⟩⟩
theorem e14_3 (P : Program) (Q : Exit → Slots → Mem → Prop) (s : Slots) (M : Mem) : wpC P c14_3 Q s M = w14_3 P Q M (sget s 1) (sget s 2) := by kernel_rfl
def o14_4 : List AOper := [⟨some 13, (.build [(.slice [] .nil), (.int .i64 0), (.int .i64 0), (.int .i64 0), (.slice [] .nil), (.slice [] .nil)] []), false, none⟩,
  ⟨none, (.store 6 (.tmp 2) (.tmp 13)), false, none⟩,
  ⟨some 3, (.mov (.const (.int .i64 20))), false, none⟩]
def c14_5 : ACode := (.region o14_4 [2, 3])
def w14_5 (_P : Program) (Q : Exit → Slots → Mem → Prop) (M : Mem) (v2 : V) : Prop :=
  @OptVH (buildV [(.slice [] .nil), (.int .i64 0), (.int .i64 0), (.int .i64 0), (.slice [] .nil), (.slice [] .nil)] []) ⟨fun t13_1 =>
  @OptMH (storeVM 6 v2 t13_1 M) ⟨fun _tx_2 M2 =>
  Q .normal [(2, v2), (3, (.int .i64 20))] M2⟩⟩
theorem e14_5 (P : Program) (Q : Exit → Slots → Mem → Prop) (s : Slots) (M : Mem) : wpC P c14_5 Q s M = w14_5 P Q M (sget s 2) := by kernel_rfl
def c14_6 : ACode := (.seq c14_5 .ret)
def o14_7 : List AOper := [⟨some 11, (.mov (.tmp 5)), false, none⟩,
  ⟨some 12, (.bin .neq .none (.tmp 11) (.const (.int .i64 0))), true, none⟩]
def c14_8 : ACode := (.seq (.region o14_7 [1, 2, 12]) (.cond (.tmp 12) c14_6 .skip))
def w14_8 (P : Program) (Q : Exit → Slots → Mem → Prop) (M : Mem) (v1 : V) (v2 : V) (v5 : V) : Prop :=
  @OptBH (binV .neq .none v5 (.int .i64 0)) ⟨fun b12_2 =>
  @BIfH b12_2
  ⟨wpC P c14_6 Q [(1, v1), (2, v2), (12, (.bool b12_2))] M⟩
  ⟨Q .normal [(1, v1), (2, v2), (12, (.bool b12_2))] M⟩⟩
theorem e14_8 (P : Program) (Q : Exit → Slots → Mem → Prop) (s : Slots) (M : Mem) : wpC P c14_8 Q s M = w14_8 P Q M (sget s 1) (sget s 2) (sget s 5) := by kernel_rfl
def c14_9 : ACode := (.seq c14_3 c14_8)
def o14_10 : List AOper := [⟨some 14, (.load 4 true (.tmp 1)), false, none⟩,
  ⟨some 15, (.build [(.slice [] .nil), (.int .i64 0), (.int .i64 0), (.int .i64 0), (.slice [] .nil), (.slice [] .nil)] [(0, (4, (.tmp 14)))]), false, none⟩,
  ⟨none, (.store 6 (.tmp 2) (.tmp 15)), false, none⟩,
  ⟨some 3, (.mov (.const (.int .i64 0))), false, none⟩]
def c14_11 : ACode := (.region o14_10 [2, 3])
def w14_11 (_P : Program) (Q : Exit → Slots → Mem → Prop) (M : Mem) (v1 : V) (v2 : V) : Prop :=
  @OptVH (loadV 4 true v1 M) ⟨fun t14_1 =>
  @OptVH (buildV [(.slice [] .nil), (.int .i64 0), (.int .i64 0), (.int .i64 0), (.slice [] .nil), (.slice [] .nil)] [(0, 4, t14_1)]) ⟨fun t15_2 =>
  @OptMH (storeVM 6 v2 t15_2 M) ⟨fun _tx_3 M3 =>
  Q .normal [(2, v2), (3, (.int .i64 0))] M3⟩⟩⟩
theorem e14_11 (P : Program) (Q : Exit → Slots → Mem → Prop) (s : Slots) (M : Mem) : wpC P c14_11 Q s M = w14_11 P Q M (sget s 1) (sget s 2) := by kernel_rfl
def c14_12 : ACode := (.seq c14_11 .ret)
def c14_13 : ACode := (.seq c14_9 c14_12)
def c14_14 : ACode := (.seq c14_1 c14_13)
def fn_transitref37_New : AFn := ⟨16, [(.cell 2 6 true), (.tmp 3)], c14_14⟩
theorem fn_transitref37_New_ok : resFn PR h_transitref37_New i_transitref37_New = some fn_transitref37_New := by kernel_rfl

def h_transitref37_Refund : Hints := ⟨[(0, [1, 2, 3, 6]), (1, [2, 3, 6, 8, 9]), (2, [2, 3, 6, 8, 17]), (3, [6, 7]), (4, [2, 3, 6, 8, 29]), (5, [6, 7]), (6, [2, 3, 6, 8]), (7, [3, 6]), (8, [6, 7])], [], []⟩
def o15_0 : List AOper := [⟨some 3, (.box 6 (.tmp 0)), false, none⟩,
  ⟨some 6, (.alloc [(.slice [] .nil), (.int .i64 0), (.int .i64 0), (.int .i64 0), (.slice [] .nil), (.slice [] .nil)]), false, none⟩,
  ⟨some 7, (.mov (.const (.int .i64 0))), false, none⟩]
def c15_1 : ACode := (.region o15_0 [1, 2, 3, 6])
def w15_1 (_P : Program) (Q : Exit → Slots → Mem → Prop) (M : Mem) (v0 : V) (v1 : V) (v2 : V) : Prop :=
  @OptMH (boxV 6 v0 M) ⟨fun t3_1 M1 =>
  @OptMH (allocV [(.slice [] .nil), (.int .i64 0), (.int .i64 0), (.int .i64 0), (.slice [] .nil), (.slice [] .nil)] M1) ⟨fun t6_2 M2 =>
  Q .normal [(1, v1), (2, v2), (3, t3_1), (6, t6_2)] M2⟩⟩
theorem e15_1 (P : Program) (Q : Exit → Slots → Mem → Prop) (s : Slots) (M : Mem) : wpC P c15_1 Q s M = w15_1 P Q M (sget s 0) (sget s 1) (sget s 2) := by kernel_rfl
def o15_2 : List AOper := [⟨some 11, (.load 6 true (.tmp 3)), false, none⟩,
  ⟨some 12, (.mov (.tmp 1)), false, none⟩,
  ⟨some 13, (.call i_transitref37_find [(.tmp 11), (.tmp 12)]), false, none⟩,
  ⟨some 10, (.mov (.tmp 13)), false, none⟩,
  ⟨some 14, (.extract (.tmp 10) 0), false, none⟩,
  ⟨some 15, (.extract (.tmp 10) 1), true, none⟩,
  ⟨some 8, (.mov (.tmp 14)), false, none⟩,
  ⟨some 9, (.mov (.tmp 15)), true, none⟩]
def c15_3 : ACode := (.region o15_2 [2, 3, 6, 8, 9])
def w15_3 (P : Program) (Q : Exit → Slots → Mem → Prop) (M : Mem) (v1 : V) (v2 : V) (v3 : V) (v6 : V) : Prop :=
  @OptVH (loadV 6 true v3 M) ⟨fun t11_1 =>
  @CallH P i_transitref37_find [t11_1, v1] M ⟨fun t13_3 M3 =>
  @OptVH (extractV t13_3 0) ⟨fun t14_5 =>
  @OptBH (extractV t13_3 1) ⟨fun b15_6 =>
  Q .normal [(2, v2), (3, v3), (6, v6), (8, t14_5), (9, (.bool b15_6))] M3⟩⟩⟩⟩
theorem e15_3 (P : Program) (Q : Exit → Slots → Mem → Prop) (s : Slots) (M : Mem) : wpC P c15_3 Q s M = w15_3 P Q M (sget s 1) (sget s 2) (sget s 3) (sget s 6) := by kernel_rfl
def o15_4 : List AOper := [⟨some 18, (.load 6 true (.tmp 3)), false, none⟩,
  ⟨none, (.store 6 (.tmp 6) (.tmp 18)), false, none⟩,
  ⟨some 7, (.mov (.const (.int .i64 7))), false, none⟩]
def c15_5 : ACode := (.region o15_4 [6, 7])
def w15_5 (_P : Program) (Q : Exit → Slots → Mem → Prop) (M : Mem) (v3 : V) (v6 : V) : Prop :=
  @OptVH (loadV 6 true v3 M) ⟨fun t18_1 =>
  @OptMH (storeVM 6 v6 t18_1 M) ⟨fun _tx_2 M2 =>
  Q .normal [(6, v6), (7, (.int .i64 7))] M2⟩⟩
theorem e15_5 (P : Program) (Q : Exit → Slots → Mem → Prop) (s : Slots) (M : Mem) : wpC P c15_5 Q s M = w15_5 P Q M (sget s 3) (sget s 6) := by kernel_rfl
def c15_6 : ACode := (.seq c15_5 .ret)
def o15_7 : List AOper := [⟨some 16, (.mov (.tmp 9)), true, none⟩,
  ⟨some 17, (.un .not (.tmp 16)), true, none⟩]
def c15_8 : ACode := (.seq (.region o15_7 [2, 3, 6, 8, 17]) (.cond (.tmp 17) c15_6 .skip))
def w15_8 (P : Program) (Q : Exit → Slots → Mem → Prop) (M : Mem) (v2 : V) (v3 : V) (v6 : V) (v8 : V) (v9 : V) : Prop :=
  @OptBH (some v9) ⟨fun b16_1 =>
  @OptBH (unV .not (.bool b16_1)) ⟨fun b17_2 =>
  @BIfH b17_2
  ⟨wpC P c15_6 Q [(2, v2), (3, v3), (6, v6), (8, v8), (17, (.bool b17_2))] M⟩
  ⟨Q .normal [(2, v2), (3, v3), (6, v6), (8, v8), (17, (.bool b17_2))] M⟩⟩⟩
theorem e15_8 (P : Program) (Q : Exit → Slots → Mem → Prop) (s : Slots) (M : Mem) : wpC P c15_8 Q s M = w15_8 P Q M (sget s 2) (sget s 3) (sget s 6) (sget s 8) (sget s 9) := by kernel_rfl
def o15_9 : List AOper := [⟨some 30, (.load 6 true (.tmp 3)), false, none⟩,
  ⟨none, (.store 6 (.tmp 6) (.tmp 30)), false, none⟩,
  ⟨some 7, (.mov (.const (.int .i64 2))), false, none⟩]
def c15_10 : ACode := (.region o15_9 [6, 7])
def w15_10 (_P : Program) (Q : Exit → Slots → Mem → Prop) (M : Mem) (v3 : V) (v6 : V) : Prop :=
  @OptVH (loadV 6 true v3 M) ⟨fun t30_1 =>
  @OptMH (storeVM 6 v6 t30_1 M) ⟨fun _tx_2 M2 =>
  Q .normal [(6, v6), (7, (.int .i64 2))] M2⟩⟩
theorem e15_10 (P : Program) (Q : Exit → Slots → Mem → Prop) (s : Slots) (M : Mem) : wpC P c15_10 Q s M = w15_10 P Q M (sget s 3) (sget s 6) := by kernel_rfl
def c15_11 : ACode := (.seq c15_10 .ret)
def o15_12 : List AOper := [⟨some 19, (.mov (.tmp 2)), false, none⟩,
  ⟨some 20, (.bin .lss .none (.tmp 19) (.const (.int .i64 1))), true, none⟩,
  ⟨some 21, (.mov (.tmp 20)), true, none⟩,
  ⟨some 22, (.mov (.tmp 2)), false, some (21, false)⟩,
  ⟨some 23, (.fieldAddr 5 (.tmp 3)), false, some (21, false)⟩,
  ⟨some 24, (.load 1 false (.tmp 23)), false, some (21, false)⟩,
  ⟨some 25, (.mov (.tmp 8)), false, some (21, false)⟩,
  ⟨some 26, (.indexSl 1 (.tmp 24) (.tmp 25)), false, some (21, false)⟩,
  ⟨some 27, (.load 1 false (.tmp 26)), false, some (21, false)⟩,
  ⟨some 28, (.bin .gtr .none (.tmp 22) (.tmp 27)), true, some (21, false)⟩,
  ⟨some 29, (.pick (.tmp 21) (.const (.bool true)) (.tmp 28)), true, none⟩]
def c15_13 : ACode := (.seq (.region o15_12 [2, 3, 6, 8, 29]) (.cond (.tmp 29) c15_11 .skip))
def w15_13 (P : Program) (Q : Exit → Slots → Mem → Prop) (M : Mem) (v2 : V) (v3 : V) (v6 : V) (v8 : V) : Prop :=
  @OptBH (binV .lss .none v2 (.int .i64 1)) ⟨fun b20_2 =>
  @BIfH b20_2
  ⟨wpC P c15_11 Q [(2, v2), (3, v3), (6, v6), (8, v8), (29, (.bool true))] M⟩
  ⟨@OptVH (moveV 5 v3) ⟨fun t23_6 =>
  @OptVH (loadV 1 false t23_6 M) ⟨fun t24_7 =>
  @OptVH (indexSlV 1 t24_7 v8 M) ⟨fun t26_9 =>
  @OptVH (loadV 1 false t26_9 M) ⟨fun t27_10 =>
  @OptBH (binV .gtr .none v2 t27_10) ⟨fun b28_11 =>
  @BIfH b28_11
  ⟨wpC P c15_11 Q [(2, v2), (3, v3), (6, v6), (8, v8), (29, (.bool b28_11))] M⟩
  ⟨Q .normal [(2, v2), (3, v3), (6, v6), (8, v8), (29, (.bool b28_11))] M⟩⟩⟩⟩⟩⟩⟩⟩
theorem e15_13 (P : Program) (Q : Exit → Slots → Mem → Prop) (s : Slots) (M : Mem) : wpC P c15_13 Q s M = w15_13 P Q M (sget s 2) (sget s 3) (sget s 6) (sget s 8) := by kernel_rfl
def o15_14 : List AOper := [⟨some 31, (.buildSlice [] 1 0 []), false, none⟩,
  ⟨some 32, (.fieldAddr 5 (.tmp 3)), false, none⟩,
  ⟨some 33, (.load 1 false (.tmp 32)), false, none⟩,
  ⟨some 34, (.append false 1 8 (.tmp 31) (.tmp 33)), false, none⟩,
  ⟨some 35, (.fieldAddr 5 (.tmp 3)), false, none⟩,
  ⟨none, (.store 1 (.tmp 35) (.tmp 34)), false, none⟩]
def c15_15 : ACode := (.region o15_14 [2, 3, 6, 8])
def w15_15 (_P : Program) (Q : Exit → Slots → Mem → Prop) (M : Mem) (v2 : V) (v3 : V) (v6 : V) (v8 : V) : Prop :=
  @OptVH (buildSliceV [] 1 0 []) ⟨fun t31_1 =>
  @OptVH (moveV 5 v3) ⟨fun t32_2 =>
  @OptVH (loadV 1 false t32_2 M) ⟨fun t33_3 =>
  @OptMH (appV false 1 8 t31_1 t33_3 M) ⟨fun t34_4 M4 =>
  @OptVH (moveV 5 v3) ⟨fun t35_5 =>
  @OptMH (storeVM 1 t35_5 t34_4 M4) ⟨fun _tx_6 M6 =>
  Q .normal [(2, v2), (3, v3), (6, v6), (8, v8)] M6⟩⟩⟩⟩⟩⟩
theorem e15_15 (P : Program) (Q : Exit → Slots → Mem → Prop) (s : Slots) (M : Mem) : wpC P c15_15 Q s M = w15_15 P Q M (sget s 2) (sget s 3) (sget s 6) (sget s 8) := by kernel_rfl
def o15_16 : List AOper := [⟨some 36, (.fieldAddr 5 (.tmp 3)), false, none⟩,
  ⟨some 37, (.load 1 false (.tmp 36)), false, none⟩,
  ⟨some 38, (.mov (.tmp 8)), false, none⟩,
  ⟨some 39, (.fieldAddr 5 (.tmp 3)), false, none⟩,
  ⟨some 40, (.load 1 false (.tmp 39)), false, none⟩,
  ⟨some 41, (.mov (.tmp 8)), false, none⟩,
  ⟨some 42, (.indexSl 1 (.tmp 40) (.tmp 41)), false, none⟩,
  ⟨some 43, (.load 1 false (.tmp 42)), false, none⟩,
  ⟨some 44, (.mov (.tmp 2)), false, none⟩,
  ⟨some 45, (.bin .sub .none (.tmp 43) (.tmp 44)), false, none⟩,
  ⟨some 46, (.indexSl 1 (.tmp 37) (.tmp 38)), false, none⟩,
  ⟨none, (.store 1 (.tmp 46) (.tmp 45)), false, none⟩]
def c15_17 : ACode := (.mixed o15_16 [true, true, true, true, true, true, true, true, true, true, true, false] [3, 6])
def w15_17 (_P : Program) (Q : Exit → Slots → Mem → Prop) (M : Mem) (v2 : V) (v3 : V) (v6 : V) (v8 : V) : Prop :=
  @OptVH (moveV 5 v3) ⟨fun t36_1 =>
  @OptVH (loadV 1 false t36_1 M) ⟨fun t37_2 =>
  @OptVH (moveV 5 v3) ⟨fun t39_4 =>
  @OptVH (loadV 1 false t39_4 M) ⟨fun t40_5 =>
  @OptVH (indexSlV 1 t40_5 v8 M) ⟨fun t42_7 =>
  @OptVH (loadV 1 false t42_7 M) ⟨fun t43_8 =>
  @OptVH (binV .sub .none t43_8 v2) ⟨fun t45_10 =>
  @OptVH (indexSlV 1 t37_2 v8 M) ⟨fun t46_11 =>
  @OptMH (storeVM 1 t46_11 t45_10 M) ⟨fun _tx_12 M12 =>
  Q .normal [(3, v3), (6, v6)] M12⟩⟩⟩⟩⟩⟩⟩⟩⟩
theorem e15_17 (P : Program) (Q : Exit → Slots → Mem → Prop) (s : Slots) (M : Mem) : wpC P c15_17 Q s M = w15_17 P Q M (sget s 2) (sget s 3) (sget s 6) (sget s 8) := by kernel_rfl
def o15_18 : List AOper := [⟨some 47, (.load 6 true (.tmp 3)), false, none⟩,
  ⟨none, (.store 6 (.tmp 6) (.tmp 47)), false, none⟩,
  ⟨some 7, (.mov (.const (.int .i64 0))), false, none⟩]
def c15_19 : ACode := (.region o15_18 [6, 7])
def w15_19 (_P : Program) (Q : Exit → Slots → Mem → Prop) (M : Mem) (v3 : V) (v6 : V) : Prop :=
  @OptVH (loadV 6 true v3 M) ⟨fun t47_1 =>
  @OptMH (storeVM 6 v6 t47_1 M) ⟨fun _tx_2 M2 =>
  Q .normal [(6, v6), (7, (.int .i64 0))] M2⟩⟩
theorem e15_19 (P : Program) (Q : Exit → Slots → Mem → Prop) (s : Slots) (M : Mem) : wpC P c15_19 Q s M = w15_19 P Q M (sget s 3) (sget s 6) := by kernel_rfl
def c15_20 : ACode := (.seq c15_19 .ret)
def c15_21 : ACode := (.seq c15_17 c15_20)
def c15_22 : ACode := (.seq c15_15 c15_21)
def c15_23 : ACode := (.seq c15_13 c15_22)
def c15_24 : ACode := (.seq c15_8 c15_23)
def c15_25 : ACode := (.seq c15_3 c15_24)
def c15_26 : ACode := (.seq c15_1 c15_25)
def fn_transitref37_Refund : AFn := ⟨48, [(.cell 6 6 true), (.tmp 7)], c15_26⟩
theorem fn_transitref37_Refund_ok : resFn PR h_transitref37_Refund i_transitref37_Refund = some fn_transitref37_Refund := by kernel_rfl

def h_transitref37_Charge : Hints := ⟨[(0, [1, 2, 3, 6]), (1, [1, 2, 3, 6, 19]), (2, [6, 7, 8]), (3, [1, 3, 6, 9, 11]), (4, [1, 3, 6, 9, 11, 30]), (5, [6, 7, 8]), (6, [1, 3, 6, 9, 36]), (7, [1, 3, 6, 9]), (8, [1, 3, 6, 9, 12, 13]), (9, [1, 3, 6, 9, 12, 53]), (10, [3, 6, 9, 12]), (11, [3, 6, 9, 12]), (12, [3, 6, 9]), (13, [6, 7, 8])], [], []⟩
def o16_0 : List AOper := [⟨some 3, (.box 6 (.tmp 0)), false, none⟩,
  ⟨some 6, (.alloc [(.slice [] .nil), (.int .i64 0), (.int .i64 0), (.int .i64 0), (.slice [] .nil), (.slice [] .nil)]), false, none⟩,
  ⟨some 7, (.mov (.const (.int .i64 0))), false, none⟩,
  ⟨some 8, (.mov (.const (.int .i64 0))), false, none⟩]
def c16_1 : ACode := (.region o16_0 [1, 2, 3, 6])
def w16_1 (_P : Program) (Q : Exit → Slots → Mem → Prop) (M : Mem) (v0 : V) (v1 : V) (v2 : V) : Prop :=
  @OptMH (boxV 6 v0 M) ⟨fun t3_1 M1 =>
  @OptMH (allocV [(.slice [] .nil), (.int .i64 0), (.int .i64 0), (.int .i64 0), (.slice [] .nil), (.slice [] .nil)] M1) ⟨fun t6_2 M2 =>
  Q .normal [(1, v1), (2, v2), (3, t3_1), (6, t6_2)] M2⟩⟩
theorem e16_1 (P : Program) (Q : Exit → Slots → Mem → Prop) (s : Slots) (M : Mem) : wpC P c16_1 Q s M = w16_1 P Q M (sget s 0) (sget s 1) (sget s 2) := by kernel_rfl
def o16_2 : List AOper := [⟨some 20, (.load 6 true (.tmp 3)), false, none⟩,
  ⟨none, (.store 6 (.tmp 6) (.tmp 20)), false, none⟩,
  ⟨some 7, (.mov (.const (.int .i64 0))), false, none⟩,
  ⟨some 8, (.mov (.const (.int .i64 11))), false, none⟩]
def c16_3 : ACode := (.region o16_2 [6, 7, 8])
def w16_3 (_P : Program) (Q : Exit → Slots → Mem → Prop) (M : Mem) (v3 : V) (v6 : V) : Prop :=
  @OptVH (loadV 6 true v3 M) ⟨fun t20_1 =>
  @OptMH (storeVM 6 v6 t20_1 M) ⟨fun _tx_2 M2 =>
  Q .normal [(6, v6), (7, (.int .i64 0)), (8, (.int .i64 11))] M2⟩⟩
theorem e16_3 (P : Program) (Q : Exit → Slots → Mem → Prop) (s : Slots) (M : Mem) : wpC P c16_3 Q s M = w16_3 P Q M (sget s 3) (sget s 6) := by kernel_rfl
def c16_4 : ACode := (.seq c16_3 .ret)
def o16_5 : List AOper := [⟨some 14, (.mov (.tmp 1)), false, none⟩,
  ⟨some 15, (.bin .lss .none (.tmp 14) (.const (.int .i64 0))), true, none⟩,
  ⟨some 16, (.mov (.tmp 15)), true, none⟩,
  ⟨some 17, (.mov (.tmp 1)), false, some (16, false)⟩,
  ⟨some 18, (.bin .gtr .none (.tmp 17) (.const (.int .i64 36524))), true, some (16, false)⟩,
  ⟨some 19, (.pick (.tmp 16) (.const (.bool true)) (.tmp 18)), true, none⟩]
def c16_6 : ACode := (.seq (.region o16_5 [1, 2, 3, 6, 19]) (.cond (.tmp 19) c16_4 .skip))
def w16_6 (P : Program) (Q : Exit → Slots → Mem → Prop) (M : Mem) (v1 : V) (v2 : V) (v3 : V) (v6 : V) : Prop :=
  @OptBH (binV .lss .none v1 (.int .i64 0)) ⟨fun b15_2 =>
  @BIfH b15_2
  ⟨wpC P c16_4 Q [(1, v1), (2, v2), (3, v3), (6, v6), (19, (.bool true))] M⟩
  ⟨@OptBH (binV .gtr .none v1 (.int .i64 36524)) ⟨fun b18_6 =>
  @BIfH b18_6
  ⟨wpC P c16_4 Q [(1, v1), (2, v2), (3, v3), (6, v6), (19, (.bool b18_6))] M⟩
  ⟨Q .normal [(1, v1), (2, v2), (3, v3), (6, v6), (19, (.bool b18_6))] M⟩⟩⟩⟩
theorem e16_6 (P : Program) (Q : Exit → Slots → Mem → Prop) (s : Slots) (M : Mem) : wpC P c16_6 Q s M = w16_6 P Q M (sget s 1) (sget s 2) (sget s 3) (sget s 6) := by kernel_rfl
def o16_7 : List AOper := [⟨some 22, (.fieldAddr 0 (.tmp 3)), false, none⟩,
  ⟨some 23, (.load 4 true (.tmp 22)), false, none⟩,
  ⟨some 24, (.mov (.tmp 2)), false, none⟩,
  ⟨some 25, (.call i_transitref35_Price [(.tmp 23), (.tmp 24)]), false, none⟩,
  ⟨some 21, (.mov (.tmp 25)), false, none⟩,
  ⟨some 26, (.extract (.tmp 21) 0), false, none⟩,
  ⟨some 27, (.extract (.tmp 21) 1), false, none⟩,
  ⟨some 28, (.extract (.tmp 21) 2), false, none⟩,
  ⟨some 9, (.mov (.tmp 26)), false, none⟩,
  ⟨some 10, (.mov (.tmp 27)), false, none⟩,
  ⟨some 11, (.mov (.tmp 28)), false, none⟩]
def c16_8 : ACode := (.region o16_7 [1, 3, 6, 9, 11])
def w16_8 (P : Program) (Q : Exit → Slots → Mem → Prop) (M : Mem) (v1 : V) (v2 : V) (v3 : V) (v6 : V) : Prop :=
  @OptVH (moveV 0 v3) ⟨fun t22_1 =>
  @OptVH (loadV 4 true t22_1 M) ⟨fun t23_2 =>
  @CallH P i_transitref35_Price [t23_2, v2] M ⟨fun t25_4 M4 =>
  @OptVH (extractV t25_4 0) ⟨fun t26_6 =>
  @OptVH (extractV t25_4 1) ⟨fun _t27_7 =>
  @OptVH (extractV t25_4 2) ⟨fun t28_8 =>
  Q .normal [(1, v1), (3, v3), (6, v6), (9, t26_6), (11, t28_8)] M4⟩⟩⟩⟩⟩⟩
theorem e16_8 (P : Program) (Q : Exit → Slots → Mem → Prop) (s : Slots) (M : Mem) : wpC P c16_8 Q s M = w16_8 P Q M (sget s 1) (sget s 2) (sget s 3) (sget s 6) := by kernel_rfl
def o16_9 : List AOper := [⟨some 31, (.load 6 true (.tmp 3)), false, none⟩,
  ⟨some 32, (.mov (.tmp 11)), false, none⟩,
  ⟨none, (.store 6 (.tmp 6) (.tmp 31)), false, none⟩,
  ⟨some 7, (.mov (.const (.int .i64 0))), false, none⟩,
  ⟨some 8, (.mov (.tmp 32)), false, none⟩]
def c16_10 : ACode := (.region o16_9 [6, 7, 8])
def w16_10 (_P : Program) (Q : Exit → Slots → Mem → Prop) (M : Mem) (v3 : V) (v6 : V) (v11 : V) : Prop :=
  @OptVH (loadV 6 true v3 M) ⟨fun t31_1 =>
  @OptMH (storeVM 6 v6 t31_1 M) ⟨fun _tx_3 M3 =>
  Q .normal [(6, v6), (7, (.int .i64 0)), (8, v11)] M3⟩⟩
theorem e16_10 (P : Program) (Q : Exit → Slots → Mem → Prop) (s : Slots) (M : Mem) : wpC P c16_10 Q s M = w16_10 P Q M (sget s 3) (sget s 6) (sget s 11) := by kernel_rfl
def c16_11 : ACode := (.seq c16_10 .ret)
def o16_12 : List AOper := [⟨some 29, (.mov (.tmp 11)), false, none⟩,
  ⟨some 30, (.bin .neq .none (.tmp 29) (.const (.int .i64 0))), true, none⟩]
def c16_13 : ACode := (.seq (.region o16_12 [1, 3, 6, 9, 11, 30]) (.cond (.tmp 30) c16_11 .skip))
def w16_13 (P : Program) (Q : Exit → Slots → Mem → Prop) (M : Mem) (v1 : V) (v3 : V) (v6 : V) (v9 : V) (v11 : V) : Prop :=
  @OptBH (binV .neq .none v11 (.int .i64 0)) ⟨fun b30_2 =>
  @BIfH b30_2
  ⟨wpC P c16_11 Q [(1, v1), (3, v3), (6, v6), (9, v9), (11, v11), (30, (.bool b30_2))] M⟩
  ⟨Q .normal [(1, v1), (3, v3), (6, v6), (9, v9), (11, v11), (30, (.bool b30_2))] M⟩⟩
theorem e16_13 (P : Program) (Q : Exit → Slots → Mem → Prop) (s : Slots) (M : Mem) : wpC P c16_13 Q s M = w16_13 P Q M (sget s 1) (sget s 3) (sget s 6) (sget s 9) (sget s 11) := by kernel_rfl
def o16_14 : List AOper := [⟨some 37, (.mov (.tmp 9)), false, none⟩,
  ⟨some 38, (.fieldAddr 0 (.tmp 3)), false, none⟩,
  ⟨some 39, (.fieldAddr 3 (.tmp 38)), false, none⟩,
  ⟨some 40, (.load 1 false (.tmp 39)), false, none⟩,
  ⟨some 41, (.load 6 true (.tmp 3)), false, none⟩,
  ⟨some 42, (.mov (.tmp 1)), false, none⟩,
  ⟨some 43, (.call i_transitref37_On [(.tmp 41), (.tmp 42)]), false, none⟩,
  ⟨some 44, (.bin .sub .none (.tmp 40) (.tmp 43)), false, none⟩,
  ⟨some 45, (.minmax false (.tmp 37) (.tmp 44)), false, none⟩,
  ⟨some 9, (.mov (.tmp 45)), false, none⟩]
def c16_15 : ACode := (.mixed o16_14 [true, true, true, true, true, true, true, true, true, true] [1, 3, 6, 9])
def w16_15 (P : Program) (Q : Exit → Slots → Mem → Prop) (M : Mem) (v1 : V) (v3 : V) (v6 : V) (v9 : V) : Prop :=
  @OptVH (moveV 0 v3) ⟨fun t38_2 =>
  @OptVH (moveV 3 t38_2) ⟨fun t39_3 =>
  @OptVH (loadV 1 false t39_3 M) ⟨fun t40_4 =>
  @OptVH (loadV 6 true v3 M) ⟨fun t41_5 =>
  @CallQ P i_transitref37_On [t41_5, v1] M ⟨fun t43_7 M7 =>
  @OptVH (binV .sub .none t40_4 t43_7) ⟨fun t44_8 =>
  @OptVH (minmaxV false v9 t44_8) ⟨fun t45_9 =>
  Q .normal [(1, v1), (3, v3), (6, v6), (9, t45_9)] M7⟩⟩⟩⟩⟩⟩⟩
theorem e16_15 (P : Program) (Q : Exit → Slots → Mem → Prop) (s : Slots) (M : Mem) : wpC P c16_15 Q s M = w16_15 P Q M (sget s 1) (sget s 3) (sget s 6) (sget s 9) := by kernel_rfl
def o16_16 : List AOper := [⟨some 33, (.fieldAddr 0 (.tmp 3)), false, none⟩,
  ⟨some 34, (.fieldAddr 3 (.tmp 33)), false, none⟩,
  ⟨some 35, (.load 1 false (.tmp 34)), false, none⟩,
  ⟨some 36, (.bin .gtr .none (.tmp 35) (.const (.int .i64 0))), true, none⟩]
def c16_17 : ACode := (.seq (.region o16_16 [1, 3, 6, 9, 36]) (.cond (.tmp 36) c16_15 .skip))
def w16_17 (P : Program) (Q : Exit → Slots → Mem → Prop) (M : Mem) (v1 : V) (v3 : V) (v6 : V) (v9 : V) : Prop :=
  @OptVH (moveV 0 v3) ⟨fun t33_1 =>
  @OptVH (moveV 3 t33_1) ⟨fun t34_2 =>
  @OptVH (loadV 1 false t34_2 M) ⟨fun t35_3 =>
  @OptBH (binV .gtr .none t35_3 (.int .i64 0)) ⟨fun b36_4 =>
  @BIfH b36_4
  ⟨wpC P c16_15 Q [(1, v1), (3, v3), (6, v6), (9, v9), (36, (.bool b36_4))] M⟩
  ⟨Q .normal [(1, v1), (3, v3), (6, v6), (9, v9), (36, (.bool b36_4))] M⟩⟩⟩⟩⟩
theorem e16_17 (P : Program) (Q : Exit → Slots → Mem → Prop) (s : Slots) (M : Mem) : wpC P c16_17 Q s M = w16_17 P Q M (sget s 1) (sget s 3) (sget s 6) (sget s 9) := by kernel_rfl
def o16_18 : List AOper := [⟨some 47, (.load 6 true (.tmp 3)), false, none⟩,
  ⟨some 48, (.mov (.tmp 1)), false, none⟩,
  ⟨some 49, (.call i_transitref37_find [(.tmp 47), (.tmp 48)]), false, none⟩,
  ⟨some 46, (.mov (.tmp 49)), false, none⟩,
  ⟨some 50, (.extract (.tmp 46) 0), false, none⟩,
  ⟨some 51, (.extract (.tmp 46) 1), true, none⟩,
  ⟨some 12, (.mov (.tmp 50)), false, none⟩,
  ⟨some 13, (.mov (.tmp 51)), true, none⟩]
def c16_19 : ACode := (.region o16_18 [1, 3, 6, 9, 12, 13])
def w16_19 (P : Program) (Q : Exit → Slots → Mem → Prop) (M : Mem) (v1 : V) (v3 : V) (v6 : V) (v9 : V) : Prop :=
  @OptVH (loadV 6 true v3 M) ⟨fun t47_1 =>
  @CallH P i_transitref37_find [t47_1, v1] M ⟨fun t49_3 M3 =>
  @OptVH (extractV t49_3 0) ⟨fun t50_5 =>
  @OptBH (extractV t49_3 1) ⟨fun b51_6 =>
  Q .normal [(1, v1), (3, v3), (6, v6), (9, v9), (12, t50_5), (13, (.bool b51_6))] M3⟩⟩⟩⟩
theorem e16_19 (P : Program) (Q : Exit → Slots → Mem → Prop) (s : Slots) (M : Mem) : wpC P c16_19 Q s M = w16_19 P Q M (sget s 1) (sget s 3) (sget s 6) (sget s 9) := by kernel_rfl
def o16_20 : List AOper := [⟨some 54, (.fieldAddr 4 (.tmp 3)), false, none⟩,
  ⟨some 55, (.load 1 false (.tmp 54)), false, none⟩,
  ⟨some 56, (.mov (.tmp 12)), false, none⟩,
  ⟨some 57, (.mov (.tmp 1)), false, none⟩,
  ⟨some 58, (.call i_transitref37_put [(.tmp 55), (.tmp 56), (.tmp 57)]), false, none⟩,
  ⟨some 59, (.fieldAddr 5 (.tmp 3)), false, none⟩,
  ⟨some 60, (.load 1 false (.tmp 59)), false, none⟩,
  ⟨some 61, (.mov (.tmp 12)), false, none⟩,
  ⟨some 62, (.call i_transitref37_put [(.tmp 60), (.tmp 61), (.const (.int .i64 0))]), false, none⟩,
  ⟨some 63, (.fieldAddr 4 (.tmp 3)), false, none⟩,
  ⟨none, (.store 1 (.tmp 63) (.tmp 58)), false, none⟩,
  ⟨some 64, (.fieldAddr 5 (.tmp 3)), false, none⟩,
  ⟨none, (.store 1 (.tmp 64) (.tmp 62)), false, none⟩]
def c16_21 : ACode := (.mixed o16_20 [true, true, true, true, true, true, true, true, true, true, false, true, false] [3, 6, 9, 12])
def w16_21 (P : Program) (Q : Exit → Slots → Mem → Prop) (M : Mem) (v1 : V) (v3 : V) (v6 : V) (v9 : V) (v12 : V) : Prop :=
  @OptVH (moveV 4 v3) ⟨fun t54_1 =>
  @OptVH (loadV 1 false t54_1 M) ⟨fun t55_2 =>
  @CallQ P i_transitref37_put [t55_2, v12, v1] M ⟨fun t58_5 M5 =>
  @OptVH (moveV 5 v3) ⟨fun t59_6 =>
  @OptVH (loadV 1 false t59_6 M5) ⟨fun t60_7 =>
  @CallQ P i_transitref37_put [t60_7, v12, (.int .i64 0)] M5 ⟨fun t62_9 M9 =>
  @OptVH (moveV 4 v3) ⟨fun t63_10 =>
  @OptMH (storeVM 1 t63_10 t58_5 M9) ⟨fun _tx_11 M11 =>
  @OptVH (moveV 5 v3) ⟨fun t64_12 =>
  @OptMH (storeVM 1 t64_12 t62_9 M11) ⟨fun _tx_13 M13 =>
  Q .normal [(3, v3), (6, v6), (9, v9), (12, v12)] M13⟩⟩⟩⟩⟩⟩⟩⟩⟩⟩
theorem e16_21 (P : Program) (Q : Exit → Slots → Mem → Prop) (s : Slots) (M : Mem) : wpC P c16_21 Q s M = w16_21 P Q M (sget s 1) (sget s 3) (sget s 6) (sget s 9) (sget s 12) := by kernel_rfl
def o16_22 : List AOper := [⟨some 52, (.mov (.tmp 13)), true, none⟩,
  ⟨some 53, (.un .not (.tmp 52)), true, none⟩]
def c16_23 : ACode := (.seq (.region o16_22 [1, 3, 6, 9, 12, 53]) (.cond (.tmp 53) c16_21 .skip))
def w16_23 (P : Program) (Q : Exit → Slots → Mem → Prop) (M : Mem) (v1 : V) (v3 : V) (v6 : V) (v9 : V) (v12 : V) (v13 : V) : Prop :=
  @OptBH (some v13) ⟨fun b52_1 =>
  @OptBH (unV .not (.bool b52_1)) ⟨fun b53_2 =>
  @BIfH b53_2
  ⟨wpC P c16_21 Q [(1, v1), (3, v3), (6, v6), (9, v9), (12, v12), (53, (.bool b53_2))] M⟩
  ⟨Q .normal [(1, v1), (3, v3), (6, v6), (9, v9), (12, v12), (53, (.bool b53_2))] M⟩⟩⟩
theorem e16_23 (P : Program) (Q : Exit → Slots → Mem → Prop) (s : Slots) (M : Mem) : wpC P c16_23 Q s M = w16_23 P Q M (sget s 1) (sget s 3) (sget s 6) (sget s 9) (sget s 12) (sget s 13) := by kernel_rfl
def o16_24 : List AOper := [⟨some 65, (.buildSlice [] 1 0 []), false, none⟩,
  ⟨some 66, (.fieldAddr 5 (.tmp 3)), false, none⟩,
  ⟨some 67, (.load 1 false (.tmp 66)), false, none⟩,
  ⟨some 68, (.append false 1 8 (.tmp 65) (.tmp 67)), false, none⟩,
  ⟨some 69, (.fieldAddr 5 (.tmp 3)), false, none⟩,
  ⟨none, (.store 1 (.tmp 69) (.tmp 68)), false, none⟩]
def c16_25 : ACode := (.region o16_24 [3, 6, 9, 12])
def w16_25 (_P : Program) (Q : Exit → Slots → Mem → Prop) (M : Mem) (v3 : V) (v6 : V) (v9 : V) (v12 : V) : Prop :=
  @OptVH (buildSliceV [] 1 0 []) ⟨fun t65_1 =>
  @OptVH (moveV 5 v3) ⟨fun t66_2 =>
  @OptVH (loadV 1 false t66_2 M) ⟨fun t67_3 =>
  @OptMH (appV false 1 8 t65_1 t67_3 M) ⟨fun t68_4 M4 =>
  @OptVH (moveV 5 v3) ⟨fun t69_5 =>
  @OptMH (storeVM 1 t69_5 t68_4 M4) ⟨fun _tx_6 M6 =>
  Q .normal [(3, v3), (6, v6), (9, v9), (12, v12)] M6⟩⟩⟩⟩⟩⟩
theorem e16_25 (P : Program) (Q : Exit → Slots → Mem → Prop) (s : Slots) (M : Mem) : wpC P c16_25 Q s M = w16_25 P Q M (sget s 3) (sget s 6) (sget s 9) (sget s 12) := by kernel_rfl
def o16_26 : List AOper := [⟨some 70, (.fieldAddr 5 (.tmp 3)), false, none⟩,
  ⟨some 71, (.load 1 false (.tmp 70)), false, none⟩,
  ⟨some 72, (.mov (.tmp 12)), false, none⟩,
  ⟨some 73, (.fieldAddr 5 (.tmp 3)), false, none⟩,
  ⟨some 74, (.load 1 false (.tmp 73)), false, none⟩,
  ⟨some 75, (.mov (.tmp 12)), false, none⟩,
  ⟨some 76, (.indexSl 1 (.tmp 74) (.tmp 75)), false, none⟩,
  ⟨some 77, (.load 1 false (.tmp 76)), false, none⟩,
  ⟨some 78, (.mov (.tmp 9)), false, none⟩,
  ⟨some 79, (.bin .add .none (.tmp 77) (.tmp 78)), false, none⟩,
  ⟨some 80, (.indexSl 1 (.tmp 71) (.tmp 72)), false, none⟩,
  ⟨none, (.store 1 (.tmp 80) (.tmp 79)), false, none⟩]
def c16_27 : ACode := (.mixed o16_26 [true, true, true, true, true, true, true, true, true, true, true, false] [3, 6, 9])
def w16_27 (_P : Program) (Q : Exit → Slots → Mem → Prop) (M : Mem) (v3 : V) (v6 : V) (v9 : V) (v12 : V) : Prop :=
  @OptVH (moveV 5 v3) ⟨fun t70_1 =>
  @OptVH (loadV 1 false t70_1 M) ⟨fun t71_2 =>
  @OptVH (moveV 5 v3) ⟨fun t73_4 =>
  @OptVH (loadV 1 false t73_4 M) ⟨fun t74_5 =>
  @OptVH (indexSlV 1 t74_5 v12 M) ⟨fun t76_7 =>
  @OptVH (loadV 1 false t76_7 M) ⟨fun t77_8 =>
  @OptVH (binV .add .none t77_8 v9) ⟨fun t79_10 =>
  @OptVH (indexSlV 1 t71_2 v12 M) ⟨fun t80_11 =>
  @OptMH (storeVM 1 t80_11 t79_10 M) ⟨fun _tx_12 M12 =>
  Q .normal [(3, v3), (6, v6), (9, v9)] M12⟩⟩⟩⟩⟩⟩⟩⟩⟩
theorem e16_27 (P : Program) (Q : Exit → Slots → Mem → Prop) (s : Slots) (M : Mem) : wpC P c16_27 Q s M = w16_27 P Q M (sget s 3) (sget s 6) (sget s 9) (sget s 12) := by kernel_rfl
def o16_28 : List AOper := [⟨some 81, (.load 6 true (.tmp 3)), false, none⟩,
  ⟨some 82, (.mov (.tmp 9)), false, none⟩,
  ⟨none, (.store 6 (.tmp 6) (.tmp 81)), false, none⟩,
  ⟨some 7, (.mov (.tmp 82)), false, none⟩,
  ⟨some 8, (.mov (.const (.int .i64 0))), false, none⟩]
def c16_29 : ACode := (.region o16_28 [6, 7, 8])
def w16_29 (_P : Program) (Q : Exit → Slots → Mem → Prop) (M : Mem) (v3 : V) (v6 : V) (v9 : V) : Prop :=
  @OptVH (loadV 6 true v3 M) ⟨fun t81_1 =>
  @OptMH (storeVM 6 v6 t81_1 M) ⟨fun _tx_3 M3 =>
  Q .normal [(6, v6), (7, v9), (8, (.int .i64 0))] M3⟩⟩
theorem e16_29 (P : Program) (Q : Exit → Slots → Mem → Prop) (s : Slots) (M : Mem) : wpC P c16_29 Q s M = w16_29 P Q M (sget s 3) (sget s 6) (sget s 9) := by kernel_rfl
def c16_30 : ACode := (.seq c16_29 .ret)
def c16_31 : ACode := (.seq c16_27 c16_30)
def c16_32 : ACode := (.seq c16_25 c16_31)
def c16_33 : ACode := (.seq c16_23 c16_32)
def c16_34 : ACode := (.seq c16_19 c16_33)
def c16_35 : ACode := (.seq c16_17 c16_34)
def c16_36 : ACode := (.seq c16_13 c16_35)
def c16_37 : ACode := (.seq c16_8 c16_36)
def c16_38 : ACode := (.seq c16_6 c16_37)
def c16_39 : ACode := (.seq c16_1 c16_38)
def fn_transitref37_Charge : AFn := ⟨83, [(.cell 6 6 true), (.tmp 7), (.tmp 8)], c16_39⟩
theorem fn_transitref37_Charge_ok : resFn PR h_transitref37_Charge i_transitref37_Charge = some fn_transitref37_Charge := by kernel_rfl

def h_transitref37_On : Hints := ⟨[(0, [1, 2]), (1, [2, 5, 6]), (2, [2, 5, 14]), (3, [4]), (4, [4])], [], []⟩
def o17_0 : List AOper := [⟨some 2, (.box 6 (.tmp 0)), false, none⟩,
  ⟨some 4, (.mov (.const (.int .i64 0))), false, none⟩]
def c17_1 : ACode := (.region o17_0 [1, 2])
def w17_1 (_P : Program) (Q : Exit → Slots → Mem → Prop) (M : Mem) (v0 : V) (v1 : V) : Prop :=
  @OptMH (boxV 6 v0 M) ⟨fun t2_1 M1 =>
  Q .normal [(1, v1), (2, t2_1)] M1⟩
theorem e17_1 (P : Program) (Q : Exit → Slots → Mem → Prop) (s : Slots) (M : Mem) : wpC P c17_1 Q s M = w17_1 P Q M (sget s 0) (sget s 1) := by kernel_rfl
def o17_2 : List AOper := [⟨some 8, (.load 6 true (.tmp 2)), false, none⟩,
  ⟨some 9, (.mov (.tmp 1)), false, none⟩,
  ⟨some 10, (.call i_transitref37_find [(.tmp 8), (.tmp 9)]), false, none⟩,
  ⟨some 7, (.mov (.tmp 10)), false, none⟩,
  ⟨some 11, (.extract (.tmp 7) 0), false, none⟩,
  ⟨some 12, (.extract (.tmp 7) 1), true, none⟩,
  ⟨some 5, (.mov (.tmp 11)), false, none⟩,
  ⟨some 6, (.mov (.tmp 12)), true, none⟩]
def c17_3 : ACode := (.region o17_2 [2, 5, 6])
def w17_3 (P : Program) (Q : Exit → Slots → Mem → Prop) (M : Mem) (v1 : V) (v2 : V) : Prop :=
  @OptVH (loadV 6 true v2 M) ⟨fun t8_1 =>
  @CallH P i_transitref37_find [t8_1, v1] M ⟨fun t10_3 M3 =>
  @OptVH (extractV t10_3 0) ⟨fun t11_5 =>
  @OptBH (extractV t10_3 1) ⟨fun b12_6 =>
  Q .normal [(2, v2), (5, t11_5), (6, (.bool b12_6))] M3⟩⟩⟩⟩
theorem e17_3 (P : Program) (Q : Exit → Slots → Mem → Prop) (s : Slots) (M : Mem) : wpC P c17_3 Q s M = w17_3 P Q M (sget s 1) (sget s 2) := by kernel_rfl
def o17_4 : List AOper := [⟨some 4, (.mov (.const (.int .i64 0))), false, none⟩]
def c17_5 : ACode := (.region o17_4 [4])
def w17_5 (_P : Program) (Q : Exit → Slots → Mem → Prop) (M : Mem) : Prop :=
  Q .normal [(4, (.int .i64 0))] M
theorem e17_5 (P : Program) (Q : Exit → Slots → Mem → Prop) (s : Slots) (M : Mem) : wpC P c17_5 Q s M = w17_5 P Q M := by kernel_rfl
def c17_6 : ACode := (.seq c17_5 .ret)
def o17_7 : List AOper := [⟨some 13, (.mov (.tmp 6)), true, none⟩,
  ⟨some 14, (.un .not (.tmp 13)), true, none⟩]
def c17_8 : ACode := (.seq (.region o17_7 [2, 5, 14]) (.cond (.tmp 14) c17_6 .skip))
def w17_8 (P : Program) (Q : Exit → Slots → Mem → Prop) (M : Mem) (v2 : V) (v5 : V) (v6 : V) : Prop :=
  @OptBH (some v6) ⟨fun b13_1 =>
  @OptBH (unV .not (.bool b13_1)) ⟨fun b14_2 =>
  @BIfH b14_2
  ⟨wpC P c17_6 Q [(2, v2), (5, v5), (14, (.bool b14_2))] M⟩
  ⟨Q .normal [(2, v2), (5, v5), (14, (.bool b14_2))] M⟩⟩⟩
theorem e17_8 (P : Program) (Q : Exit → Slots → Mem → Prop) (s : Slots) (M : Mem) : wpC P c17_8 Q s M = w17_8 P Q M (sget s 2) (sget s 5) (sget s 6) := by kernel_rfl
def o17_9 : List AOper := [⟨some 15, (.fieldAddr 5 (.tmp 2)), false, none⟩,
  ⟨some 16, (.load 1 false (.tmp 15)), false, none⟩,
  ⟨some 17, (.mov (.tmp 5)), false, none⟩,
  ⟨some 18, (.indexSl 1 (.tmp 16) (.tmp 17)), false, none⟩,
  ⟨some 19, (.load 1 false (.tmp 18)), false, none⟩,
  ⟨some 4, (.mov (.tmp 19)), false, none⟩]
def c17_10 : ACode := (.region o17_9 [4])
def w17_10 (_P : Program) (Q : Exit → Slots → Mem → Prop) (M : Mem) (v2 : V) (v5 : V) : Prop :=
  @OptVH (moveV 5 v2) ⟨fun t15_1 =>
  @OptVH (loadV 1 false t15_1 M) ⟨fun t16_2 =>
  @OptVH (indexSlV 1 t16_2 v5 M) ⟨fun t18_4 =>
  @OptVH (loadV 1 false t18_4 M) ⟨fun t19_5 =>
  Q .normal [(4, t19_5)] M⟩⟩⟩⟩
theorem e17_10 (P : Program) (Q : Exit → Slots → Mem → Prop) (s : Slots) (M : Mem) : wpC P c17_10 Q s M = w17_10 P Q M (sget s 2) (sget s 5) := by kernel_rfl
def c17_11 : ACode := (.seq c17_10 .ret)
def c17_12 : ACode := (.seq c17_8 c17_11)
def c17_13 : ACode := (.seq c17_3 c17_12)
def c17_14 : ACode := (.seq c17_1 c17_13)
def fn_transitref37_On : AFn := ⟨20, [(.tmp 4)], c17_14⟩
theorem fn_transitref37_On_ok : resFn PR h_transitref37_On i_transitref37_On = some fn_transitref37_On := by kernel_rfl

def h_account_Account_Total : Hints := ⟨[(0, [0]), (1, [0, 4]), (2, [2]), (3, [2])], [], []⟩
def o18_0 : List AOper := [⟨some 2, (.mov (.const (.int .i64 0))), false, none⟩]
def c18_1 : ACode := (.region o18_0 [0])
def w18_1 (_P : Program) (Q : Exit → Slots → Mem → Prop) (M : Mem) (v0 : V) : Prop :=
  Q .normal [(0, v0)] M
theorem e18_1 (P : Program) (Q : Exit → Slots → Mem → Prop) (s : Slots) (M : Mem) : wpC P c18_1 Q s M = w18_1 P Q M (sget s 0) := by kernel_rfl
def o18_2 : List AOper := [⟨some 2, (.mov (.const (.int .i64 0))), false, none⟩]
def c18_3 : ACode := (.region o18_2 [2])
def w18_3 (_P : Program) (Q : Exit → Slots → Mem → Prop) (M : Mem) : Prop :=
  Q .normal [(2, (.int .i64 0))] M
theorem e18_3 (P : Program) (Q : Exit → Slots → Mem → Prop) (s : Slots) (M : Mem) : wpC P c18_3 Q s M = w18_3 P Q M := by kernel_rfl
def c18_4 : ACode := (.seq c18_3 .ret)
def o18_5 : List AOper := [⟨some 3, (.mov (.tmp 0)), false, none⟩,
  ⟨some 4, (.bin .eql .ptr (.tmp 3) (.const .nilp)), true, none⟩]
def c18_6 : ACode := (.seq (.region o18_5 [0, 4]) (.cond (.tmp 4) c18_4 .skip))
def w18_6 (P : Program) (Q : Exit → Slots → Mem → Prop) (M : Mem) (v0 : V) : Prop :=
  @OptBH (binV .eql .ptr v0 .nilp) ⟨fun b4_2 =>
  @BIfH b4_2
  ⟨wpC P c18_4 Q [(0, v0), (4, (.bool b4_2))] M⟩
  ⟨Q .normal [(0, v0), (4, (.bool b4_2))] M⟩⟩
theorem e18_6 (P : Program) (Q : Exit → Slots → Mem → Prop) (s : Slots) (M : Mem) : wpC P c18_6 Q s M = w18_6 P Q M (sget s 0) := by kernel_rfl
def o18_7 : List AOper := [⟨some 5, (.mov (.tmp 0)), false, none⟩,
  ⟨some 6, (.nilCheck (.tmp 5)), false, none⟩,
  ⟨some 7, (.fieldAddr 0 (.tmp 6)), false, none⟩,
  ⟨some 8, (.call i_account_amounts_sum [(.tmp 7)]), false, none⟩,
  ⟨some 2, (.mov (.tmp 8)), false, none⟩]
def c18_8 : ACode := (.region o18_7 [2])
def w18_8 (P : Program) (Q : Exit → Slots → Mem → Prop) (M : Mem) (v0 : V) : Prop :=
  @OptVH (nilCheckV v0) ⟨fun t6_2 =>
  @OptVH (moveV 0 t6_2) ⟨fun t7_3 =>
  @CallH P i_account_amounts_sum [t7_3] M ⟨fun t8_4 M4 =>
  Q .normal [(2, t8_4)] M4⟩⟩⟩
theorem e18_8 (P : Program) (Q : Exit → Slots → Mem → Prop) (s : Slots) (M : Mem) : wpC P c18_8 Q s M = w18_8 P Q M (sget s 0) := by kernel_rfl
def c18_9 : ACode := (.seq c18_8 .ret)
def c18_10 : ACode := (.seq c18_6 c18_9)
def c18_11 : ACode := (.seq c18_1 c18_10)
def fn_account_Account_Total : AFn := ⟨9, [(.tmp 2)], c18_11⟩
theorem fn_account_Account_Total_ok : resFn PR h_account_Account_Total i_account_Account_Total = some fn_account_Account_Total := by kernel_rfl

def h_transitref37_Total : Hints := ⟨[(0, [1]), (1, [1, 3]), (2, [1, 3, 4]), (3, [1, 3, 4, 9]), (4, [1, 3, 4]), (5, [1, 3, 4]), (6, [2])], [(3, [1, 3, 4])], []⟩
def o19_0 : List AOper := [⟨some 1, (.box 6 (.tmp 0)), false, none⟩,
  ⟨some 2, (.mov (.const (.int .i64 0))), false, none⟩]
def c19_1 : ACode := (.region o19_0 [1])
def w19_1 (_P : Program) (Q : Exit → Slots → Mem → Prop) (M : Mem) (v0 : V) : Prop :=
  @OptMH (boxV 6 v0 M) ⟨fun t1_1 M1 =>
  Q .normal [(1, t1_1)] M1⟩
theorem e19_1 (P : Program) (Q : Exit → Slots → Mem → Prop) (s : Slots) (M : Mem) : wpC P c19_1 Q s M = w19_1 P Q M (sget s 0) := by kernel_rfl
def o19_2 : List AOper := [⟨some 3, (.mov (.const (.int .i64 0))), false, none⟩]
def c19_3 : ACode := (.region o19_2 [1, 3])
def w19_3 (_P : Program) (Q : Exit → Slots → Mem → Prop) (M : Mem) (v1 : V) : Prop :=
  Q .normal [(1, v1), (3, (.int .i64 0))] M
theorem e19_3 (P : Program) (Q : Exit → Slots → Mem → Prop) (s : Slots) (M : Mem) : wpC P c19_3 Q s M = w19_3 P Q M (sget s 1) := by kernel_rfl
def o19_4 : List AOper := [⟨some 4, (.mov (.const (.int .i64 0))), false, none⟩]
def c19_5 : ACode := (.region o19_4 [1, 3, 4])
def w19_5 (_P : Program) (Q : Exit → Slots → Mem → Prop) (M : Mem) (v1 : V) (v3 : V) : Prop :=
  Q .normal [(1, v1), (3, v3), (4, (.int .i64 0))] M
theorem e19_5 (P : Program) (Q : Exit → Slots → Mem → Prop) (s : Slots) (M : Mem) : wpC P c19_5 Q s M = w19_5 P Q M (sget s 1) (sget s 3) := by kernel_rfl
def o19_6 : List AOper := [⟨some 5, (.mov (.tmp 4)), false, none⟩,
  ⟨some 6, (.fieldAddr 5 (.tmp 1)), false, none⟩,
  ⟨some 7, (.load 1 false (.tmp 6)), false, none⟩,
  ⟨some 8, (.lenSl (.tmp 7)), false, none⟩,
  ⟨some 9, (.bin .lss .none (.tmp 5) (.tmp 8)), true, none⟩]
def c19_7 : ACode := (.seq (.region o19_6 [1, 3, 4, 9]) (.cond (.tmp 9) .skip (.exit 0)))
def w19_7 (_P : Program) (Q : Exit → Slots → Mem → Prop) (M : Mem) (v1 : V) (v3 : V) (v4 : V) : Prop :=
  @OptVH (moveV 5 v1) ⟨fun t6_2 =>
  @OptVH (loadV 1 false t6_2 M) ⟨fun t7_3 =>
  @OptVH (lenV t7_3 M) ⟨fun t8_4 =>
  @OptBH (binV .lss .none v4 t8_4) ⟨fun b9_5 =>
  @BIfH b9_5
  ⟨Q .normal [(1, v1), (3, v3), (4, v4), (9, (.bool b9_5))] M⟩
  ⟨Q (.exit 0) [(1, v1), (3, v3), (4, v4), (9, (.bool b9_5))] M⟩⟩⟩⟩⟩
theorem e19_7 (P : Program) (Q : Exit → Slots → Mem → Prop) (s : Slots) (M : Mem) : wpC P c19_7 Q s M = w19_7 P Q M (sget s 1) (sget s 3) (sget s 4) := by kernel_rfl
def o19_8 : List AOper := [⟨some 12, (.mov (.tmp 3)), false, none⟩,
  ⟨some 13, (.fieldAddr 5 (.tmp 1)), false, none⟩,
  ⟨some 14, (.load 1 false (.tmp 13)), false, none⟩,
  ⟨some 15, (.mov (.tmp 4)), false, none⟩,
  ⟨some 16, (.indexSl 1 (.tmp 14) (.tmp 15)), false, none⟩,
  ⟨some 17, (.load 1 false (.tmp 16)), false, none⟩,
  ⟨some 18, (.bin .add .none (.tmp 12) (.tmp 17)), false, none⟩,
  ⟨some 3, (.mov (.tmp 18)), false, none⟩]
def c19_9 : ACode := (.region o19_8 [1, 3, 4])
def w19_9 (_P : Program) (Q : Exit → Slots → Mem → Prop) (M : Mem) (v1 : V) (v3 : V) (v4 : V) : Prop :=
  @OptVH (moveV 5 v1) ⟨fun t13_2 =>
  @OptVH (loadV 1 false t13_2 M) ⟨fun t14_3 =>
  @OptVH (indexSlV 1 t14_3 v4 M) ⟨fun t16_5 =>
  @OptVH (loadV 1 false t16_5 M) ⟨fun t17_6 =>
  @OptVH (binV .add .none v3 t17_6) ⟨fun t18_7 =>
  Q .normal [(1, v1), (3, t18_7), (4, v4)] M⟩⟩⟩⟩⟩
theorem e19_9 (P : Program) (Q : Exit → Slots → Mem → Prop) (s : Slots) (M : Mem) : wpC P c19_9 Q s M = w19_9 P Q M (sget s 1) (sget s 3) (sget s 4) := by kernel_rfl
def c19_10 : ACode := (.block 1 c19_9)
def o19_11 : List AOper := [⟨some 10, (.mov (.tmp 4)), false, none⟩,
  ⟨some 11, (.bin .add .none (.tmp 10) (.const (.int .i64 1))), false, none⟩,
  ⟨some 4, (.mov (.tmp 11)), false, none⟩]
def c19_12 : ACode := (.region o19_11 [1, 3, 4])
def w19_12 (_P : Program) (Q : Exit → Slots → Mem → Prop) (M : Mem) (v1 : V) (v3 : V) (v4 : V) : Prop :=
  @OptVH (binV .add .none v4 (.int .i64 1)) ⟨fun t11_2 =>
  Q .normal [(1, v1), (3, v3), (4, t11_2)] M⟩
theorem e19_12 (P : Program) (Q : Exit → Slots → Mem → Prop) (s : Slots) (M : Mem) : wpC P c19_12 Q s M = w19_12 P Q M (sget s 1) (sget s 3) (sget s 4) := by kernel_rfl
def c19_13 : ACode := (.seq c19_10 c19_12)
def c19_14 : ACode := (.seq c19_7 c19_13)
def c19_15 : ACode := (.loop [1, 3, 4] c19_14)
def c19_16 : ACode := (.block 0 c19_15)
def c19_17 : ACode := (.seq c19_5 c19_16)
def o19_18 : List AOper := [⟨some 19, (.mov (.tmp 3)), false, none⟩,
  ⟨some 2, (.mov (.tmp 19)), false, none⟩]
def c19_19 : ACode := (.region o19_18 [2])
def w19_19 (_P : Program) (Q : Exit → Slots → Mem → Prop) (M : Mem) (v3 : V) : Prop :=
  Q .normal [(2, v3)] M
theorem e19_19 (P : Program) (Q : Exit → Slots → Mem → Prop) (s : Slots) (M : Mem) : wpC P c19_19 Q s M = w19_19 P Q M (sget s 3) := by kernel_rfl
def c19_20 : ACode := (.seq c19_19 .ret)
def c19_21 : ACode := (.seq c19_17 c19_20)
def c19_22 : ACode := (.seq c19_3 c19_21)
def c19_23 : ACode := (.seq c19_1 c19_22)
def fn_transitref37_Total : AFn := ⟨20, [(.tmp 2)], c19_23⟩
theorem fn_transitref37_Total_ok : resFn PR h_transitref37_Total i_transitref37_Total = some fn_transitref37_Total := by kernel_rfl

def h_transitref03_SameInts : Hints := ⟨[(0, [0, 1]), (1, [0, 1, 10]), (2, [4]), (3, [0, 1, 5]), (4, [0, 1, 5, 14]), (5, [0, 1, 5]), (6, [0, 1, 5, 25]), (7, [4]), (8, [4])], [(4, [0, 1, 5])], []⟩
def o20_0 : List AOper := [⟨some 4, (.mov (.const (.bool false))), true, none⟩]
def c20_1 : ACode := (.region o20_0 [0, 1])
def w20_1 (_P : Program) (Q : Exit → Slots → Mem → Prop) (M : Mem) (v0 : V) (v1 : V) : Prop :=
  Q .normal [(0, v0), (1, v1)] M
theorem e20_1 (P : Program) (Q : Exit → Slots → Mem → Prop) (s : Slots) (M : Mem) : wpC P c20_1 Q s M = w20_1 P Q M (sget s 0) (sget s 1) := by kernel_rfl
def o20_2 : List AOper := [⟨some 4, (.mov (.const (.bool false))), true, none⟩]
def c20_3 : ACode := (.region o20_2 [4])
def w20_3 (_P : Program) (Q : Exit → Slots → Mem → Prop) (M : Mem) : Prop :=
  Q .normal [(4, (.bool false))] M
theorem e20_3 (P : Program) (Q : Exit → Slots → Mem → Prop) (s : Slots) (M : Mem) : wpC P c20_3 Q s M = w20_3 P Q M := by kernel_rfl
def c20_4 : ACode := (.seq c20_3 .ret)
def o20_5 : List AOper := [⟨some 6, (.mov (.tmp 0)), false, none⟩,
  ⟨some 7, (.lenSl (.tmp 6)), false, none⟩,
  ⟨some 8, (.mov (.tmp 1)), false, none⟩,
  ⟨some 9, (.lenSl (.tmp 8)), false, none⟩,
  ⟨some 10, (.bin .neq .none (.tmp 7) (.tmp 9)), true, none⟩]
def c20_6 : ACode := (.seq (.region o20_5 [0, 1, 10]) (.cond (.tmp 10) c20_4 .skip))
def w20_6 (P : Program) (Q : Exit → Slots → Mem → Prop) (M : Mem) (v0 : V) (v1 : V) : Prop :=
  @OptVH (lenV v0 M) ⟨fun t7_2 =>
  @OptVH (lenV v1 M) ⟨fun t9_4 =>
  @OptBH (binV .neq .none t7_2 t9_4) ⟨fun b10_5 =>
  @BIfH b10_5
  ⟨wpC P c20_4 Q [(0, v0), (1, v1), (10, (.bool b10_5))] M⟩
  ⟨Q .normal [(0, v0), (1, v1), (10, (.bool b10_5))] M⟩⟩⟩⟩
theorem e20_6 (P : Program) (Q : Exit → Slots → Mem → Prop) (s : Slots) (M : Mem) : wpC P c20_6 Q s M = w20_6 P Q M (sget s 0) (sget s 1) := by kernel_rfl
def o20_7 : List AOper := [⟨some 5, (.mov (.const (.int .i64 0))), false, none⟩]
def c20_8 : ACode := (.region o20_7 [0, 1, 5])
def w20_8 (_P : Program) (Q : Exit → Slots → Mem → Prop) (M : Mem) (v0 : V) (v1 : V) : Prop :=
  Q .normal [(0, v0), (1, v1), (5, (.int .i64 0))] M
theorem e20_8 (P : Program) (Q : Exit → Slots → Mem → Prop) (s : Slots) (M : Mem) : wpC P c20_8 Q s M = w20_8 P Q M (sget s 0) (sget s 1) := by kernel_rfl
def o20_9 : List AOper := [⟨some 11, (.mov (.tmp 5)), false, none⟩,
  ⟨some 12, (.mov (.tmp 0)), false, none⟩,
  ⟨some 13, (.lenSl (.tmp 12)), false, none⟩,
  ⟨some 14, (.bin .lss .none (.tmp 11) (.tmp 13)), true, none⟩]
def c20_10 : ACode := (.seq (.region o20_9 [0, 1, 5, 14]) (.cond (.tmp 14) .skip (.exit 0)))
def w20_10 (_P : Program) (Q : Exit → Slots → Mem → Prop) (M : Mem) (v0 : V) (v1 : V) (v5 : V) : Prop :=
  @OptVH (lenV v0 M) ⟨fun t13_3 =>
  @OptBH (binV .lss .none v5 t13_3) ⟨fun b14_4 =>
  @BIfH b14_4
  ⟨Q .normal [(0, v0), (1, v1), (5, v5), (14, (.bool b14_4))] M⟩
  ⟨Q (.exit 0) [(0, v0), (1, v1), (5, v5), (14, (.bool b14_4))] M⟩⟩⟩
theorem e20_10 (P : Program) (Q : Exit → Slots → Mem → Prop) (s : Slots) (M : Mem) : wpC P c20_10 Q s M = w20_10 P Q M (sget s 0) (sget s 1) (sget s 5) := by kernel_rfl
def o20_11 : List AOper := [⟨some 4, (.mov (.const (.bool false))), true, none⟩]
def c20_12 : ACode := (.region o20_11 [4])
def w20_12 (_P : Program) (Q : Exit → Slots → Mem → Prop) (M : Mem) : Prop :=
  Q .normal [(4, (.bool false))] M
theorem e20_12 (P : Program) (Q : Exit → Slots → Mem → Prop) (s : Slots) (M : Mem) : wpC P c20_12 Q s M = w20_12 P Q M := by kernel_rfl
def c20_13 : ACode := (.seq c20_12 .ret)
def o20_14 : List AOper := [⟨some 17, (.mov (.tmp 0)), false, none⟩,
  ⟨some 18, (.mov (.tmp 5)), false, none⟩,
  ⟨some 19, (.indexSl 1 (.tmp 17) (.tmp 18)), false, none⟩,
  ⟨some 20, (.load 1 false (.tmp 19)), false, none⟩,
  ⟨some 21, (.mov (.tmp 1)), false, none⟩,
  ⟨some 22, (.mov (.tmp 5)), false, none⟩,
  ⟨some 23, (.indexSl 1 (.tmp 21) (.tmp 22)), false, none⟩,
  ⟨some 24, (.load 1 false (.tmp 23)), false, none⟩,
  ⟨some 25, (.bin .neq .none (.tmp 20) (.tmp 24)), true, none⟩]
def c20_15 : ACode := (.seq (.mixed o20_14 [true, true, true, true, true, true, true, true, true] [0, 1, 5, 25]) (.cond (.tmp 25) c20_13 .skip))
def w20_15 (P : Program) (Q : Exit → Slots → Mem → Prop) (M : Mem) (v0 : V) (v1 : V) (v5 : V) : Prop :=
  @OptVH (indexSlV 1 v0 v5 M) ⟨fun t19_3 =>
  @OptVH (loadV 1 false t19_3 M) ⟨fun t20_4 =>
  @OptVH (indexSlV 1 v1 v5 M) ⟨fun t23_7 =>
  @OptVH (loadV 1 false t23_7 M) ⟨fun t24_8 =>
  @OptBH (binV .neq .none t20_4 t24_8) ⟨fun b25_9 =>
  @BIfH b25_9
  ⟨wpC P c20_13 Q [(0, v0), (1, v1), (5, v5), (25, (.bool b25_9))] M⟩
  ⟨Q .normal [(0, v0), (1, v1), (5, v5), (25, (.bool b25_9))] M⟩⟩⟩⟩⟩⟩
theorem e20_15 (P : Program) (Q : Exit → Slots → Mem → Prop) (s : Slots) (M : Mem) : wpC P c20_15 Q s M = w20_15 P Q M (sget s 0) (sget s 1) (sget s 5) := by kernel_rfl
def c20_16 : ACode := (.block 1 c20_15)
def o20_17 : List AOper := [⟨some 15, (.mov (.tmp 5)), false, none⟩,
  ⟨some 16, (.bin .add .none (.tmp 15) (.const (.int .i64 1))), false, none⟩,
  ⟨some 5, (.mov (.tmp 16)), false, none⟩]
def c20_18 : ACode := (.region o20_17 [0, 1, 5])
def w20_18 (_P : Program) (Q : Exit → Slots → Mem → Prop) (M : Mem) (v0 : V) (v1 : V) (v5 : V) : Prop :=
  @OptVH (binV .add .none v5 (.int .i64 1)) ⟨fun t16_2 =>
  Q .normal [(0, v0), (1, v1), (5, t16_2)] M⟩
theorem e20_18 (P : Program) (Q : Exit → Slots → Mem → Prop) (s : Slots) (M : Mem) : wpC P c20_18 Q s M = w20_18 P Q M (sget s 0) (sget s 1) (sget s 5) := by kernel_rfl
def c20_19 : ACode := (.seq c20_16 c20_18)
def c20_20 : ACode := (.seq c20_10 c20_19)
def c20_21 : ACode := (.loop [0, 1, 5] c20_20)
def c20_22 : ACode := (.block 0 c20_21)
def c20_23 : ACode := (.seq c20_8 c20_22)
def o20_24 : List AOper := [⟨some 4, (.mov (.const (.bool true))), true, none⟩]
def c20_25 : ACode := (.region o20_24 [4])
def w20_25 (_P : Program) (Q : Exit → Slots → Mem → Prop) (M : Mem) : Prop :=
  Q .normal [(4, (.bool true))] M
theorem e20_25 (P : Program) (Q : Exit → Slots → Mem → Prop) (s : Slots) (M : Mem) : wpC P c20_25 Q s M = w20_25 P Q M := by kernel_rfl
def c20_26 : ACode := (.seq c20_25 .ret)
def c20_27 : ACode := (.seq c20_23 c20_26)
def c20_28 : ACode := (.seq c20_6 c20_27)
def c20_29 : ACode := (.seq c20_1 c20_28)
def fn_transitref03_SameInts : AFn := ⟨26, [(.tmp 4)], c20_29⟩
theorem fn_transitref03_SameInts_ok : resFn PR h_transitref03_SameInts i_transitref03_SameInts = some fn_transitref03_SameInts := by kernel_rfl

def h_transitref37_Left : Hints := ⟨[(0, [1, 2]), (1, [1, 2, 17]), (2, [4, 5]), (3, [4, 5])], [], []⟩
def o22_0 : List AOper := [⟨some 2, (.box 6 (.tmp 0)), false, none⟩,
  ⟨some 4, (.mov (.const (.int .i64 0))), false, none⟩,
  ⟨some 5, (.mov (.const (.bool false))), true, none⟩]
def c22_1 : ACode := (.region o22_0 [1, 2])
def w22_1 (_P : Program) (Q : Exit → Slots → Mem → Prop) (M : Mem) (v0 : V) (v1 : V) : Prop :=
  @OptMH (boxV 6 v0 M) ⟨fun t2_1 M1 =>
  Q .normal [(1, v1), (2, t2_1)] M1⟩
theorem e22_1 (P : Program) (Q : Exit → Slots → Mem → Prop) (s : Slots) (M : Mem) : wpC P c22_1 Q s M = w22_1 P Q M (sget s 0) (sget s 1) := by kernel_rfl
def o22_2 : List AOper := [⟨some 4, (.mov (.const (.int .i64 0))), false, none⟩,
  ⟨some 5, (.mov (.const (.bool false))), true, none⟩]
def c22_3 : ACode := (.region o22_2 [4, 5])
def w22_3 (_P : Program) (Q : Exit → Slots → Mem → Prop) (M : Mem) : Prop :=
  Q .normal [(4, (.int .i64 0)), (5, (.bool false))] M
theorem e22_3 (P : Program) (Q : Exit → Slots → Mem → Prop) (s : Slots) (M : Mem) : wpC P c22_3 Q s M = w22_3 P Q M := by kernel_rfl
def c22_4 : ACode := (.seq c22_3 .ret)
def o22_5 : List AOper := [⟨some 6, (.fieldAddr 0 (.tmp 2)), false, none⟩,
  ⟨some 7, (.fieldAddr 3 (.tmp 6)), false, none⟩,
  ⟨some 8, (.load 1 false (.tmp 7)), false, none⟩,
  ⟨some 9, (.bin .eql .none (.tmp 8) (.const (.int .i64 0))), true, none⟩,
  ⟨some 10, (.mov (.tmp 9)), true, none⟩,
  ⟨some 11, (.mov (.tmp 1)), false, some (10, false)⟩,
  ⟨some 12, (.bin .lss .none (.tmp 11) (.const (.int .i64 0))), true, some (10, false)⟩,
  ⟨some 13, (.pick (.tmp 10) (.const (.bool true)) (.tmp 12)), true, none⟩,
  ⟨some 14, (.mov (.tmp 13)), true, none⟩,
  ⟨some 15, (.mov (.tmp 1)), false, some (14, false)⟩,
  ⟨some 16, (.bin .gtr .none (.tmp 15) (.const (.int .i64 36524))), true, some (14, false)⟩,
  ⟨some 17, (.pick (.tmp 14) (.const (.bool true)) (.tmp 16)), true, none⟩]
def c22_6 : ACode := (.seq (.region o22_5 [1, 2, 17]) (.cond (.tmp 17) c22_4 .skip))
def w22_6 (P : Program) (Q : Exit → Slots → Mem → Prop) (M : Mem) (v1 : V) (v2 : V) : Prop :=
  @OptVH (moveV 0 v2) ⟨fun t6_1 =>
  @OptVH (moveV 3 t6_1) ⟨fun t7_2 =>
  @OptVH (loadV 1 false t7_2 M) ⟨fun t8_3 =>
  @OptBH (binV .eql .none t8_3 (.int .i64 0)) ⟨fun b9_4 =>
  @BIfH b9_4
  ⟨wpC P c22_4 Q [(1, v1), (2, v2), (17, (.bool true))] M⟩
  ⟨@OptBH (binV .lss .none v1 (.int .i64 0)) ⟨fun b12_10 =>
  @BIfH b12_10
  ⟨wpC P c22_4 Q [(1, v1), (2, v2), (17, (.bool true))] M⟩
  ⟨@OptBH (binV .gtr .none v1 (.int .i64 36524)) ⟨fun b16_15 =>
  @BIfH b16_15
  ⟨wpC P c22_4 Q [(1, v1), (2, v2), (17, (.bool b16_15))] M⟩
  ⟨Q .normal [(1, v1), (2, v2), (17, (.bool b16_15))] M⟩⟩⟩⟩⟩⟩⟩⟩⟩
theorem e22_6 (P : Program) (Q : Exit → Slots → Mem → Prop) (s : Slots) (M : Mem) : wpC P c22_6 Q s M = w22_6 P Q M (sget s 1) (sget s 2) := by kernel_rfl
def o22_7 : List AOper := [⟨some 18, (.fieldAddr 0 (.tmp 2)), false, none⟩,
  ⟨some 19, (.fieldAddr 3 (.tmp 18)), false, none⟩,
  ⟨some 20, (.load 1 false (.tmp 19)), false, none⟩,
  ⟨some 21, (.load 6 true (.tmp 2)), false, none⟩,
  ⟨some 22, (.mov (.tmp 1)), false, none⟩,
  ⟨some 23, (.call i_transitref37_On [(.tmp 21), (.tmp 22)]), false, none⟩,
  ⟨some 24, (.bin .sub .none (.tmp 20) (.tmp 23)), false, none⟩,
  ⟨some 4, (.mov (.tmp 24)), false, none⟩,
  ⟨some 5, (.mov (.const (.bool true))), true, none⟩]
def c22_8 : ACode := (.mixed o22_7 [true, true, true, true, true, true, true, true, true] [4, 5])
def w22_8 (P : Program) (Q : Exit → Slots → Mem → Prop) (M : Mem) (v1 : V) (v2 : V) : Prop :=
  @OptVH (moveV 0 v2) ⟨fun t18_1 =>
  @OptVH (moveV 3 t18_1) ⟨fun t19_2 =>
  @OptVH (loadV 1 false t19_2 M) ⟨fun t20_3 =>
  @OptVH (loadV 6 true v2 M) ⟨fun t21_4 =>
  @CallQ P i_transitref37_On [t21_4, v1] M ⟨fun t23_6 M6 =>
  @OptVH (binV .sub .none t20_3 t23_6) ⟨fun t24_7 =>
  Q .normal [(4, t24_7), (5, (.bool true))] M6⟩⟩⟩⟩⟩⟩
theorem e22_8 (P : Program) (Q : Exit → Slots → Mem → Prop) (s : Slots) (M : Mem) : wpC P c22_8 Q s M = w22_8 P Q M (sget s 1) (sget s 2) := by kernel_rfl
def c22_9 : ACode := (.seq c22_8 .ret)
def c22_10 : ACode := (.seq c22_6 c22_9)
def c22_11 : ACode := (.seq c22_1 c22_10)
def fn_transitref37_Left : AFn := ⟨25, [(.tmp 4), (.tmp 5)], c22_11⟩
theorem fn_transitref37_Left_ok : resFn PR h_transitref37_Left i_transitref37_Left = some fn_transitref37_Left := by kernel_rfl

def h_account_Account_Charge : Hints := ⟨[(0, [0, 1, 2]), (1, [0, 1, 2, 12]), (2, [6, 7]), (3, [0, 1, 2, 15]), (4, [6, 7]), (5, [0, 1, 8, 10]), (6, [0, 1, 8, 10, 27]), (7, [6, 7]), (8, [0, 1, 8, 34]), (9, [0, 1, 8]), (10, [8]), (11, [6, 7])], [], []⟩
def o23_0 : List AOper := [⟨some 6, (.mov (.const (.int .i64 0))), false, none⟩,
  ⟨some 7, (.mov (.const (.int .i64 0))), false, none⟩]
def c23_1 : ACode := (.region o23_0 [0, 1, 2])
def w23_1 (_P : Program) (Q : Exit → Slots → Mem → Prop) (M : Mem) (v0 : V) (v1 : V) (v2 : V) : Prop :=
  Q .normal [(0, v0), (1, v1), (2, v2)] M
theorem e23_1 (P : Program) (Q : Exit → Slots → Mem → Prop) (s : Slots) (M : Mem) : wpC P c23_1 Q s M = w23_1 P Q M (sget s 0) (sget s 1) (sget s 2) := by kernel_rfl
def o23_2 : List AOper := [⟨some 6, (.mov (.const (.int .i64 0))), false, none⟩,
  ⟨some 7, (.mov (.const (.int .i64 40))), false, none⟩]
def c23_3 : ACode := (.region o23_2 [6, 7])
def w23_3 (_P : Program) (Q : Exit → Slots → Mem → Prop) (M : Mem) : Prop :=
  Q .normal [(6, (.int .i64 0)), (7, (.int .i64 40))] M
theorem e23_3 (P : Program) (Q : Exit → Slots → Mem → Prop) (s : Slots) (M : Mem) : wpC P c23_3 Q s M = w23_3 P Q M := by kernel_rfl
def c23_4 : ACode := (.seq c23_3 .ret)
def o23_5 : List AOper := [⟨some 11, (.mov (.tmp 0)), false, none⟩,
  ⟨some 12, (.bin .eql .ptr (.tmp 11) (.const .nilp)), true, none⟩]
def c23_6 : ACode := (.seq (.region o23_5 [0, 1, 2, 12]) (.cond (.tmp 12) c23_4 .skip))
def w23_6 (P : Program) (Q : Exit → Slots → Mem → Prop) (M : Mem) (v0 : V) (v1 : V) (v2 : V) : Prop :=
  @OptBH (binV .eql .ptr v0 .nilp) ⟨fun b12_2 =>
  @BIfH b12_2
  ⟨wpC P c23_4 Q [(0, v0), (1, v1), (2, v2), (12, (.bool b12_2))] M⟩
  ⟨Q .normal [(0, v0), (1, v1), (2, v2), (12, (.bool b12_2))] M⟩⟩
theorem e23_6 (P : Program) (Q : Exit → Slots → Mem → Prop) (s : Slots) (M : Mem) : wpC P c23_6 Q s M = w23_6 P Q M (sget s 0) (sget s 1) (sget s 2) := by kernel_rfl
def o23_7 : List AOper := [⟨some 6, (.mov (.const (.int .i64 0))), false, none⟩,
  ⟨some 7, (.mov (.const (.int .i64 11))), false, none⟩]
def c23_8 : ACode := (.region o23_7 [6, 7])
def w23_8 (_P : Program) (Q : Exit → Slots → Mem → Prop) (M : Mem) : Prop :=
  Q .normal [(6, (.int .i64 0)), (7, (.int .i64 11))] M
theorem e23_8 (P : Program) (Q : Exit → Slots → Mem → Prop) (s : Slots) (M : Mem) : wpC P c23_8 Q s M = w23_8 P Q M := by kernel_rfl
def c23_9 : ACode := (.seq c23_8 .ret)
def o23_10 : List AOper := [⟨some 13, (.mov (.tmp 1)), false, none⟩,
  ⟨some 14, (.call i_account_valid [(.tmp 13)]), true, none⟩,
  ⟨some 15, (.un .not (.tmp 14)), true, none⟩]
def c23_11 : ACode := (.seq (.region o23_10 [0, 1, 2, 15]) (.cond (.tmp 15) c23_9 .skip))
def w23_11 (P : Program) (Q : Exit → Slots → Mem → Prop) (M : Mem) (v0 : V) (v1 : V) (v2 : V) : Prop :=
  @CallH P i_account_valid [v1] M ⟨fun t14_2 M2 => @OptBH (some t14_2) ⟨fun b14_2 =>
  @OptBH (unV .not (.bool b14_2)) ⟨fun b15_3 =>
  @BIfH b15_3
  ⟨wpC P c23_9 Q [(0, v0), (1, v1), (2, v2), (15, (.bool b15_3))] M2⟩
  ⟨Q .normal [(0, v0), (1, v1), (2, v2), (15, (.bool b15_3))] M2⟩⟩⟩⟩
theorem e23_11 (P : Program) (Q : Exit → Slots → Mem → Prop) (s : Slots) (M : Mem) : wpC P c23_11 Q s M = w23_11 P Q M (sget s 0) (sget s 1) (sget s 2) := by kernel_rfl
def o23_12 : List AOper := [⟨some 17, (.mov (.tmp 0)), false, none⟩,
  ⟨some 18, (.nilCheck (.tmp 17)), false, none⟩,
  ⟨some 19, (.fieldAddr 1 (.tmp 18)), false, none⟩,
  ⟨some 20, (.load 4 true (.tmp 19)), false, none⟩,
  ⟨some 21, (.mov (.tmp 2)), false, none⟩,
  ⟨some 22, (.call i_fare_Price [(.tmp 20), (.tmp 21)]), false, none⟩,
  ⟨some 16, (.mov (.tmp 22)), false, none⟩,
  ⟨some 23, (.extract (.tmp 16) 0), false, none⟩,
  ⟨some 24, (.extract (.tmp 16) 1), false, none⟩,
  ⟨some 25, (.extract (.tmp 16) 2), false, none⟩,
  ⟨some 8, (.mov (.tmp 23)), false, none⟩,
  ⟨some 9, (.mov (.tmp 24)), false, none⟩,
  ⟨some 10, (.mov (.tmp 25)), false, none⟩]
def c23_13 : ACode := (.region o23_12 [0, 1, 8, 10])
def w23_13 (P : Program) (Q : Exit → Slots → Mem → Prop) (M : Mem) (v0 : V) (v1 : V) (v2 : V) : Prop :=
  @OptVH (nilCheckV v0) ⟨fun t18_2 =>
  @OptVH (moveV 1 t18_2) ⟨fun t19_3 =>
  @OptVH (loadV 4 true t19_3 M) ⟨fun t20_4 =>
  @CallH P i_fare_Price [t20_4, v2] M ⟨fun t22_6 M6 =>
  @OptVH (extractV t22_6 0) ⟨fun t23_8 =>
  @OptVH (extractV t22_6 1) ⟨fun _t24_9 =>
  @OptVH (extractV t22_6 2) ⟨fun t25_10 =>
  Q .normal [(0, v0), (1, v1), (8, t23_8), (10, t25_10)] M6⟩⟩⟩⟩⟩⟩⟩
theorem e23_13 (P : Program) (Q : Exit → Slots → Mem → Prop) (s : Slots) (M : Mem) : wpC P c23_13 Q s M = w23_13 P Q M (sget s 0) (sget s 1) (sget s 2) := by kernel_rfl
def o23_14 : List AOper := [⟨some 28, (.mov (.tmp 10)), false, none⟩,
  ⟨some 6, (.mov (.const (.int .i64 0))), false, none⟩,
  ⟨some 7, (.mov (.tmp 28)), false, none⟩]
def c23_15 : ACode := (.region o23_14 [6, 7])
def w23_15 (_P : Program) (Q : Exit → Slots → Mem → Prop) (M : Mem) (v10 : V) : Prop :=
  Q .normal [(6, (.int .i64 0)), (7, v10)] M
theorem e23_15 (P : Program) (Q : Exit → Slots → Mem → Prop) (s : Slots) (M : Mem) : wpC P c23_15 Q s M = w23_15 P Q M (sget s 10) := by kernel_rfl
def c23_16 : ACode := (.seq c23_15 .ret)
def o23_17 : List AOper := [⟨some 26, (.mov (.tmp 10)), false, none⟩,
  ⟨some 27, (.bin .neq .none (.tmp 26) (.const (.int .i64 0))), true, none⟩]
def c23_18 : ACode := (.seq (.region o23_17 [0, 1, 8, 10, 27]) (.cond (.tmp 27) c23_16 .skip))
def w23_18 (P : Program) (Q : Exit → Slots → Mem → Prop) (M : Mem) (v0 : V) (v1 : V) (v8 : V) (v10 : V) : Prop :=
  @OptBH (binV .neq .none v10 (.int .i64 0)) ⟨fun b27_2 =>
  @BIfH b27_2
  ⟨wpC P c23_16 Q [(0, v0), (1, v1), (8, v8), (10, v10), (27, (.bool b27_2))] M⟩
  ⟨Q .normal [(0, v0), (1, v1), (8, v8), (10, v10), (27, (.bool b27_2))] M⟩⟩
theorem e23_18 (P : Program) (Q : Exit → Slots → Mem → Prop) (s : Slots) (M : Mem) : wpC P c23_18 Q s M = w23_18 P Q M (sget s 0) (sget s 1) (sget s 8) (sget s 10) := by kernel_rfl
def o23_19 : List AOper := [⟨some 35, (.mov (.tmp 8)), false, none⟩,
  ⟨some 36, (.mov (.tmp 0)), false, none⟩,
  ⟨some 37, (.nilCheck (.tmp 36)), false, none⟩,
  ⟨some 38, (.fieldAddr 1 (.tmp 37)), false, none⟩,
  ⟨some 39, (.fieldAddr 3 (.tmp 38)), false, none⟩,
  ⟨some 40, (.load 1 false (.tmp 39)), false, none⟩,
  ⟨some 41, (.mov (.tmp 0)), false, none⟩,
  ⟨some 42, (.nilCheck (.tmp 41)), false, none⟩,
  ⟨some 43, (.fieldAddr 0 (.tmp 42)), false, none⟩,
  ⟨some 44, (.fieldAddr 0 (.tmp 43)), false, none⟩,
  ⟨some 45, (.load 1 false (.tmp 44)), false, none⟩,
  ⟨some 46, (.mov (.tmp 1)), false, none⟩,
  ⟨some 47, (.lookup .int [(.int .i64 0)] false false (.tmp 45) (.tmp 46)), false, none⟩,
  ⟨some 48, (.bin .sub .none (.tmp 40) (.tmp 47)), false, none⟩,
  ⟨some 49, (.minmax false (.tmp 35) (.tmp 48)), false, none⟩,
  ⟨some 8, (.mov (.tmp 49)), false, none⟩]
def c23_20 : ACode := (.mixed o23_19 [true, true, true, true, true, true, true, true, true, true, true, true, true, true, true, true] [0, 1, 8])
def w23_20 (_P : Program) (Q : Exit → Slots → Mem → Prop) (M : Mem) (v0 : V) (v1 : V) (v8 : V) : Prop :=
  @OptVH (nilCheckV v0) ⟨fun t37_3 =>
  @OptVH (moveV 1 t37_3) ⟨fun t38_4 =>
  @OptVH (moveV 3 t38_4) ⟨fun t39_5 =>
  @OptVH (loadV 1 false t39_5 M) ⟨fun t40_6 =>
  @OptVH (nilCheckV v0) ⟨fun t42_8 =>
  @OptVH (moveV 0 t42_8) ⟨fun t43_9 =>
  @OptVH (moveV 0 t43_9) ⟨fun t44_10 =>
  @OptVH (loadV 1 false t44_10 M) ⟨fun t45_11 =>
  @OptVH (lookupV .int [(.int .i64 0)] false false t45_11 v1 M) ⟨fun t47_13 =>
  @OptVH (binV .sub .none t40_6 t47_13) ⟨fun t48_14 =>
  @OptVH (minmaxV false v8 t48_14) ⟨fun t49_15 =>
  Q .normal [(0, v0), (1, v1), (8, t49_15)] M⟩⟩⟩⟩⟩⟩⟩⟩⟩⟩⟩
theorem e23_20 (P : Program) (Q : Exit → Slots → Mem → Prop) (s : Slots) (M : Mem) : wpC P c23_20 Q s M = w23_20 P Q M (sget s 0) (sget s 1) (sget s 8) := by kernel_rfl
def o23_21 : List AOper := [⟨some 29, (.mov (.tmp 0)), false, none⟩,
  ⟨some 30, (.nilCheck (.tmp 29)), false, none⟩,
  ⟨some 31, (.fieldAddr 1 (.tmp 30)), false, none⟩,
  ⟨some 32, (.fieldAddr 3 (.tmp 31)), false, none⟩,
  ⟨some 33, (.load 1 false (.tmp 32)), false, none⟩,
  ⟨some 34, (.bin .neq .none (.tmp 33) (.const (.int .i64 0))), true, none⟩]
def c23_22 : ACode := (.seq (.region o23_21 [0, 1, 8, 34]) (.cond (.tmp 34) c23_20 .skip))
def w23_22 (P : Program) (Q : Exit → Slots → Mem → Prop) (M : Mem) (v0 : V) (v1 : V) (v8 : V) : Prop :=
  @OptVH (nilCheckV v0) ⟨fun t30_2 =>
  @OptVH (moveV 1 t30_2) ⟨fun t31_3 =>
  @OptVH (moveV 3 t31_3) ⟨fun t32_4 =>
  @OptVH (loadV 1 false t32_4 M) ⟨fun t33_5 =>
  @OptBH (binV .neq .none t33_5 (.int .i64 0)) ⟨fun b34_6 =>
  @BIfH b34_6
  ⟨wpC P c23_20 Q [(0, v0), (1, v1), (8, v8), (34, (.bool b34_6))] M⟩
  ⟨Q .normal [(0, v0), (1, v1), (8, v8), (34, (.bool b34_6))] M⟩⟩⟩⟩⟩⟩
theorem e23_22 (P : Program) (Q : Exit → Slots → Mem → Prop) (s : Slots) (M : Mem) : wpC P c23_22 Q s M = w23_22 P Q M (sget s 0) (sget s 1) (sget s 8) := by kernel_rfl
def o23_23 : List AOper := [⟨some 50, (.mov (.tmp 0)), false, none⟩,
  ⟨some 51, (.nilCheck (.tmp 50)), false, none⟩,
  ⟨some 52, (.fieldAddr 0 (.tmp 51)), false, none⟩,
  ⟨some 53, (.fieldAddr 0 (.tmp 52)), false, none⟩,
  ⟨some 54, (.load 1 false (.tmp 53)), false, none⟩,
  ⟨some 55, (.mov (.tmp 1)), false, none⟩,
  ⟨some 56, (.lookup .int [(.int .i64 0)] false false (.tmp 54) (.tmp 55)), false, none⟩,
  ⟨some 57, (.mov (.tmp 8)), false, none⟩,
  ⟨some 58, (.bin .add .none (.tmp 56) (.tmp 57)), false, none⟩,
  ⟨none, (.mapUpdate .int (.tmp 54) (.tmp 55) (.tmp 58)), false, none⟩]
def c23_24 : ACode := (.region o23_23 [8])
def w23_24 (_P : Program) (Q : Exit → Slots → Mem → Prop) (M : Mem) (v0 : V) (v1 : V) (v8 : V) : Prop :=
  @OptVH (nilCheckV v0) ⟨fun t51_2 =>
  @OptVH (moveV 0 t51_2) ⟨fun t52_3 =>
  @OptVH (moveV 0 t52_3) ⟨fun t53_4 =>
  @OptVH (loadV 1 false t53_4 M) ⟨fun t54_5 =>
  @OptVH (lookupV .int [(.int .i64 0)] false false t54_5 v1 M) ⟨fun t56_7 =>
  @OptVH (binV .add .none t56_7 v8) ⟨fun t58_9 =>
  @OptMH (mapUpdateVM .int t54_5 v1 t58_9 M) ⟨fun _tx_10 M10 =>
  Q .normal [(8, v8)] M10⟩⟩⟩⟩⟩⟩⟩
theorem e23_24 (P : Program) (Q : Exit → Slots → Mem → Prop) (s : Slots) (M : Mem) : wpC P c23_24 Q s M = w23_24 P Q M (sget s 0) (sget s 1) (sget s 8) := by kernel_rfl
def o23_25 : List AOper := [⟨some 59, (.mov (.tmp 8)), false, none⟩,
  ⟨some 6, (.mov (.tmp 59)), false, none⟩,
  ⟨some 7, (.mov (.const (.int .i64 0))), false, none⟩]
def c23_26 : ACode := (.region o23_25 [6, 7])
def w23_26 (_P : Program) (Q : Exit → Slots → Mem → Prop) (M : Mem) (v8 : V) : Prop :=
  Q .normal [(6, v8), (7, (.int .i64 0))] M
theorem e23_26 (P : Program) (Q : Exit → Slots → Mem → Prop) (s : Slots) (M : Mem) : wpC P c23_26 Q s M = w23_26 P Q M (sget s 8) := by kernel_rfl
def c23_27 : ACode := (.seq c23_26 .ret)
def c23_28 : ACode := (.seq c23_24 c23_27)
def c23_29 : ACode := (.seq c23_22 c23_28)
def c23_30 : ACode := (.seq c23_18 c23_29)
def c23_31 : ACode := (.seq c23_13 c23_30)
def c23_32 : ACode := (.seq c23_11 c23_31)
def c23_33 : ACode := (.seq c23_6 c23_32)
def c23_34 : ACode := (.seq c23_1 c23_33)
def fn_account_Account_Charge : AFn := ⟨60, [(.tmp 6), (.tmp 7)], c23_34⟩
theorem fn_account_Account_Charge_ok : resFn PR h_account_Account_Charge i_account_Account_Charge = some fn_account_Account_Charge := by kernel_rfl

def h_account_Account_Refund : Hints := ⟨[(0, [0, 1, 2]), (1, [0, 1, 2, 10]), (2, [6]), (3, [0, 1, 2, 7, 8]), (4, [0, 1, 2, 7, 22]), (5, [6]), (6, [0, 1, 2, 7, 29]), (7, [6]), (8, []), (9, [6])], [], []⟩
def o24_0 : List AOper := [⟨some 6, (.mov (.const (.int .i64 0))), false, none⟩]
def c24_1 : ACode := (.region o24_0 [0, 1, 2])
def w24_1 (_P : Program) (Q : Exit → Slots → Mem → Prop) (M : Mem) (v0 : V) (v1 : V) (v2 : V) : Prop :=
  Q .normal [(0, v0), (1, v1), (2, v2)] M
theorem e24_1 (P : Program) (Q : Exit → Slots → Mem → Prop) (s : Slots) (M : Mem) : wpC P c24_1 Q s M = w24_1 P Q M (sget s 0) (sget s 1) (sget s 2) := by kernel_rfl
def o24_2 : List AOper := [⟨some 6, (.mov (.const (.int .i64 40))), false, none⟩]
def c24_3 : ACode := (.region o24_2 [6])
def w24_3 (_P : Program) (Q : Exit → Slots → Mem → Prop) (M : Mem) : Prop :=
  Q .normal [(6, (.int .i64 40))] M
theorem e24_3 (P : Program) (Q : Exit → Slots → Mem → Prop) (s : Slots) (M : Mem) : wpC P c24_3 Q s M = w24_3 P Q M := by kernel_rfl
def c24_4 : ACode := (.seq c24_3 .ret)
def o24_5 : List AOper := [⟨some 9, (.mov (.tmp 0)), false, none⟩,
  ⟨some 10, (.bin .eql .ptr (.tmp 9) (.const .nilp)), true, none⟩]
def c24_6 : ACode := (.seq (.region o24_5 [0, 1, 2, 10]) (.cond (.tmp 10) c24_4 .skip))
def w24_6 (P : Program) (Q : Exit → Slots → Mem → Prop) (M : Mem) (v0 : V) (v1 : V) (v2 : V) : Prop :=
  @OptBH (binV .eql .ptr v0 .nilp) ⟨fun b10_2 =>
  @BIfH b10_2
  ⟨wpC P c24_4 Q [(0, v0), (1, v1), (2, v2), (10, (.bool b10_2))] M⟩
  ⟨Q .normal [(0, v0), (1, v1), (2, v2), (10, (.bool b10_2))] M⟩⟩
theorem e24_6 (P : Program) (Q : Exit → Slots → Mem → Prop) (s : Slots) (M : Mem) : wpC P c24_6 Q s M = w24_6 P Q M (sget s 0) (sget s 1) (sget s 2) := by kernel_rfl
def o24_7 : List AOper := [⟨some 12, (.mov (.tmp 0)), false, none⟩,
  ⟨some 13, (.nilCheck (.tmp 12)), false, none⟩,
  ⟨some 14, (.fieldAddr 0 (.tmp 13)), false, none⟩,
  ⟨some 15, (.fieldAddr 0 (.tmp 14)), false, none⟩,
  ⟨some 16, (.load 1 false (.tmp 15)), false, none⟩,
  ⟨some 17, (.mov (.tmp 1)), false, none⟩,
  ⟨some 18, (.lookup .int [(.int .i64 0)] false true (.tmp 16) (.tmp 17)), false, none⟩,
  ⟨some 11, (.mov (.tmp 18)), false, none⟩,
  ⟨some 19, (.extract (.tmp 11) 0), false, none⟩,
  ⟨some 20, (.extract (.tmp 11) 1), true, none⟩,
  ⟨some 7, (.mov (.tmp 19)), false, none⟩,
  ⟨some 8, (.mov (.tmp 20)), true, none⟩]
def c24_8 : ACode := (.region o24_7 [0, 1, 2, 7, 8])
def w24_8 (_P : Program) (Q : Exit → Slots → Mem → Prop) (M : Mem) (v0 : V) (v1 : V) (v2 : V) : Prop :=
  @OptVH (nilCheckV v0) ⟨fun t13_2 =>
  @OptVH (moveV 0 t13_2) ⟨fun t14_3 =>
  @OptVH (moveV 0 t14_3) ⟨fun t15_4 =>
  @OptVH (loadV 1 false t15_4 M) ⟨fun t16_5 =>
  @OptVH (lookupV .int [(.int .i64 0)] false true t16_5 v1 M) ⟨fun t18_7 =>
  @OptVH (extractV t18_7 0) ⟨fun t19_9 =>
  @OptBH (extractV t18_7 1) ⟨fun b20_10 =>
  Q .normal [(0, v0), (1, v1), (2, v2), (7, t19_9), (8, (.bool b20_10))] M⟩⟩⟩⟩⟩⟩⟩
theorem e24_8 (P : Program) (Q : Exit → Slots → Mem → Prop) (s : Slots) (M : Mem) : wpC P c24_8 Q s M = w24_8 P Q M (sget s 0) (sget s 1) (sget s 2) := by kernel_rfl
def o24_9 : List AOper := [⟨some 6, (.mov (.const (.int .i64 7))), false, none⟩]
def c24_10 : ACode := (.region o24_9 [6])
def w24_10 (_P : Program) (Q : Exit → Slots → Mem → Prop) (M : Mem) : Prop :=
  Q .normal [(6, (.int .i64 7))] M
theorem e24_10 (P : Program) (Q : Exit → Slots → Mem → Prop) (s : Slots) (M : Mem) : wpC P c24_10 Q s M = w24_10 P Q M := by kernel_rfl
def c24_11 : ACode := (.seq c24_10 .ret)
def o24_12 : List AOper := [⟨some 21, (.mov (.tmp 8)), true, none⟩,
  ⟨some 22, (.un .not (.tmp 21)), true, none⟩]
def c24_13 : ACode := (.seq (.region o24_12 [0, 1, 2, 7, 22]) (.cond (.tmp 22) c24_11 .skip))
def w24_13 (P : Program) (Q : Exit → Slots → Mem → Prop) (M : Mem) (v0 : V) (v1 : V) (v2 : V) (v7 : V) (v8 : V) : Prop :=
  @OptBH (some v8) ⟨fun b21_1 =>
  @OptBH (unV .not (.bool b21_1)) ⟨fun b22_2 =>
  @BIfH b22_2
  ⟨wpC P c24_11 Q [(0, v0), (1, v1), (2, v2), (7, v7), (22, (.bool b22_2))] M⟩
  ⟨Q .normal [(0, v0), (1, v1), (2, v2), (7, v7), (22, (.bool b22_2))] M⟩⟩⟩
theorem e24_13 (P : Program) (Q : Exit → Slots → Mem → Prop) (s : Slots) (M : Mem) : wpC P c24_13 Q s M = w24_13 P Q M (sget s 0) (sget s 1) (sget s 2) (sget s 7) (sget s 8) := by kernel_rfl
def o24_14 : List AOper := [⟨some 6, (.mov (.const (.int .i64 2))), false, none⟩]
def c24_15 : ACode := (.region o24_14 [6])
def w24_15 (_P : Program) (Q : Exit → Slots → Mem → Prop) (M : Mem) : Prop :=
  Q .normal [(6, (.int .i64 2))] M
theorem e24_15 (P : Program) (Q : Exit → Slots → Mem → Prop) (s : Slots) (M : Mem) : wpC P c24_15 Q s M = w24_15 P Q M := by kernel_rfl
def c24_16 : ACode := (.seq c24_15 .ret)
def o24_17 : List AOper := [⟨some 23, (.mov (.tmp 2)), false, none⟩,
  ⟨some 24, (.bin .lss .none (.tmp 23) (.const (.int .i64 1))), true, none⟩,
  ⟨some 25, (.mov (.tmp 24)), true, none⟩,
  ⟨some 26, (.mov (.tmp 2)), false, some (25, false)⟩,
  ⟨some 27, (.mov (.tmp 7)), false, some (25, false)⟩,
  ⟨some 28, (.bin .gtr .none (.tmp 26) (.tmp 27)), true, some (25, false)⟩,
  ⟨some 29, (.pick (.tmp 25) (.const (.bool true)) (.tmp 28)), true, none⟩]
def c24_18 : ACode := (.seq (.region o24_17 [0, 1, 2, 7, 29]) (.cond (.tmp 29) c24_16 .skip))
def w24_18 (P : Program) (Q : Exit → Slots → Mem → Prop) (M : Mem) (v0 : V) (v1 : V) (v2 : V) (v7 : V) : Prop :=
  @OptBH (binV .lss .none v2 (.int .i64 1)) ⟨fun b24_2 =>
  @BIfH b24_2
  ⟨wpC P c24_16 Q [(0, v0), (1, v1), (2, v2), (7, v7), (29, (.bool true))] M⟩
  ⟨@OptBH (binV .gtr .none v2 v7) ⟨fun b28_7 =>
  @BIfH b28_7
  ⟨wpC P c24_16 Q [(0, v0), (1, v1), (2, v2), (7, v7), (29, (.bool b28_7))] M⟩
  ⟨Q .normal [(0, v0), (1, v1), (2, v2), (7, v7), (29, (.bool b28_7))] M⟩⟩⟩⟩
theorem e24_18 (P : Program) (Q : Exit → Slots → Mem → Prop) (s : Slots) (M : Mem) : wpC P c24_18 Q s M = w24_18 P Q M (sget s 0) (sget s 1) (sget s 2) (sget s 7) := by kernel_rfl
def o24_19 : List AOper := [⟨some 30, (.mov (.tmp 0)), false, none⟩,
  ⟨some 31, (.nilCheck (.tmp 30)), false, none⟩,
  ⟨some 32, (.fieldAddr 0 (.tmp 31)), false, none⟩,
  ⟨some 33, (.fieldAddr 0 (.tmp 32)), false, none⟩,
  ⟨some 34, (.load 1 false (.tmp 33)), false, none⟩,
  ⟨some 35, (.mov (.tmp 1)), false, none⟩,
  ⟨some 36, (.mov (.tmp 7)), false, none⟩,
  ⟨some 37, (.mov (.tmp 2)), false, none⟩,
  ⟨some 38, (.bin .sub .none (.tmp 36) (.tmp 37)), false, none⟩,
  ⟨none, (.mapUpdate .int (.tmp 34) (.tmp 35) (.tmp 38)), false, none⟩]
def c24_20 : ACode := (.region o24_19 [])
def w24_20 (_P : Program) (Q : Exit → Slots → Mem → Prop) (M : Mem) (v0 : V) (v1 : V) (v2 : V) (v7 : V) : Prop :=
  @OptVH (nilCheckV v0) ⟨fun t31_2 =>
  @OptVH (moveV 0 t31_2) ⟨fun t32_3 =>
  @OptVH (moveV 0 t32_3) ⟨fun t33_4 =>
  @OptVH (loadV 1 false t33_4 M) ⟨fun t34_5 =>
  @OptVH (binV .sub .none v7 v2) ⟨fun t38_9 =>
  @OptMH (mapUpdateVM .int t34_5 v1 t38_9 M) ⟨fun _tx_10 M10 =>
  Q .normal [] M10⟩⟩⟩⟩⟩⟩
theorem e24_20 (P : Program) (Q : Exit → Slots → Mem → Prop) (s : Slots) (M : Mem) : wpC P c24_20 Q s M = w24_20 P Q M (sget s 0) (sget s 1) (sget s 2) (sget s 7) := by kernel_rfl
def o24_21 : List AOper := [⟨some 6, (.mov (.const (.int .i64 0))), false, none⟩]
def c24_22 : ACode := (.region o24_21 [6])
def w24_22 (_P : Program) (Q : Exit → Slots → Mem → Prop) (M : Mem) : Prop :=
  Q .normal [(6, (.int .i64 0))] M
theorem e24_22 (P : Program) (Q : Exit → Slots → Mem → Prop) (s : Slots) (M : Mem) : wpC P c24_22 Q s M = w24_22 P Q M := by kernel_rfl
def c24_23 : ACode := (.seq c24_22 .ret)
def c24_24 : ACode := (.seq c24_20 c24_23)
def c24_25 : ACode := (.seq c24_18 c24_24)
def c24_26 : ACode := (.seq c24_13 c24_25)
def c24_27 : ACode := (.seq c24_8 c24_26)
def c24_28 : ACode := (.seq c24_6 c24_27)
def c24_29 : ACode := (.seq c24_1 c24_28)
def fn_account_Account_Refund : AFn := ⟨39, [(.tmp 6)], c24_29⟩
theorem fn_account_Account_Refund_ok : resFn PR h_account_Account_Refund i_account_Account_Refund = some fn_account_Account_Refund := by kernel_rfl

def h_transitlaw37_one : Hints := ⟨[(0, [0]), (1, [0])], [], []⟩
def o25_0 : List AOper := [⟨some 0, (.alloc [(.slice [] .nil), (.int .i64 0), (.int .i64 0), (.int .i64 0)]), false, none⟩]
def c25_1 : ACode := (.region o25_0 [0])
def w25_1 (_P : Program) (Q : Exit → Slots → Mem → Prop) (M : Mem) : Prop :=
  @OptMH (allocV [(.slice [] .nil), (.int .i64 0), (.int .i64 0), (.int .i64 0)] M) ⟨fun t0_1 M1 =>
  Q .normal [(0, t0_1)] M1⟩
theorem e25_1 (P : Program) (Q : Exit → Slots → Mem → Prop) (s : Slots) (M : Mem) : wpC P c25_1 Q s M = w25_1 P Q M := by kernel_rfl
def o25_2 : List AOper := [⟨some 1, (.build [(.str []), (.int .i64 0), (.int .i64 0), (.int .i64 0), (.int .i64 0), (.int .i64 0)] [(0, (1, (.const (.str [97])))), (1, (1, (.const (.int .i64 200)))), (2, (1, (.const (.int .i64 1)))), (3, (1, (.const (.int .i64 16)))), (5, (1, (.const (.int .i64 255))))]), false, none⟩,
  ⟨some 2, (.buildSlice [(.str []), (.int .i64 0), (.int .i64 0), (.int .i64 0), (.int .i64 0), (.int .i64 0)] 6 1 [(0, (6, (.tmp 1)))]), false, none⟩,
  ⟨some 3, (.build [(.slice [] .nil), (.int .i64 0), (.int .i64 0), (.int .i64 0)] [(0, (1, (.tmp 2))), (3, (1, (.const (.int .i64 500))))]), false, none⟩,
  ⟨none, (.store 4 (.tmp 0) (.tmp 3)), false, none⟩]
def c25_3 : ACode := (.region o25_2 [0])
def w25_3 (_P : Program) (Q : Exit → Slots → Mem → Prop) (M : Mem) (v0 : V) : Prop :=
  @OptVH (buildV [(.str []), (.int .i64 0), (.int .i64 0), (.int .i64 0), (.int .i64 0), (.int .i64 0)] [(0, 1, (.str [97])), (1, 1, (.int .i64 200)), (2, 1, (.int .i64 1)), (3, 1, (.int .i64 16)), (5, 1, (.int .i64 255))]) ⟨fun t1_1 =>
  @OptVH (buildSliceV [(.str []), (.int .i64 0), (.int .i64 0), (.int .i64 0), (.int .i64 0), (.int .i64 0)] 6 1 [(0, 6, t1_1)]) ⟨fun t2_2 =>
  @OptVH (buildV [(.slice [] .nil), (.int .i64 0), (.int .i64 0), (.int .i64 0)] [(0, 1, t2_2), (3, 1, (.int .i64 500))]) ⟨fun t3_3 =>
  @OptMH (storeVM 4 v0 t3_3 M) ⟨fun _tx_4 M4 =>
  Q .normal [(0, v0)] M4⟩⟩⟩⟩
theorem e25_3 (P : Program) (Q : Exit → Slots → Mem → Prop) (s : Slots) (M : Mem) : wpC P c25_3 Q s M = w25_3 P Q M (sget s 0) := by kernel_rfl
def c25_4 : ACode := (.seq c25_3 .ret)
def c25_5 : ACode := (.seq c25_1 c25_4)
def fn_transitlaw37_one : AFn := ⟨4, [(.cell 0 4 true)], c25_5⟩
theorem fn_transitlaw37_one_ok : resFn PR h_transitlaw37_one i_transitlaw37_one = some fn_transitlaw37_one := by kernel_rfl

def h_fare_Price : Hints := ⟨[(0, [1, 2]), (1, [1, 2, 7]), (2, [1, 2, 7, 15]), (3, [4, 5, 6]), (4, [1, 2, 8]), (5, [1, 2, 8, 23]), (6, [4, 5, 6]), (7, [1, 2, 8, 9]), (8, [1, 2, 8, 9, 10]), (9, [1, 2, 8, 9, 10, 27]), (10, [1, 2, 8, 9, 10]), (11, [1, 2, 8, 9, 10]), (12, [4, 5, 6])], [(9, [1, 2, 8, 9, 10])], [(7, [0])]⟩
def o26_0 : List AOper := [⟨some 2, (.box 4 (.tmp 0)), false, none⟩,
  ⟨some 4, (.mov (.const (.int .i64 0))), false, none⟩,
  ⟨some 5, (.mov (.const (.slice [] .nil))), false, none⟩,
  ⟨some 6, (.mov (.const (.int .i64 0))), false, none⟩]
def c26_1 : ACode := (.region o26_0 [1, 2])
def w26_1 (_P : Program) (Q : Exit → Slots → Mem → Prop) (M : Mem) (v0 : V) (v1 : V) : Prop :=
  @OptMH (boxV 4 v0 M) ⟨fun t2_1 M1 =>
  Q .normal [(1, v1), (2, t2_1)] M1⟩
theorem e26_1 (P : Program) (Q : Exit → Slots → Mem → Prop) (s : Slots) (M : Mem) : wpC P c26_1 Q s M = w26_1 P Q M (sget s 0) (sget s 1) := by kernel_rfl
def o26_2 : List AOper := [⟨some 11, (.load 4 true (.tmp 2)), false, none⟩,
  ⟨some 12, (.mov (.tmp 1)), false, none⟩,
  ⟨some 13, (.call i_fare_valid [(.tmp 11), (.tmp 12)]), false, none⟩,
  ⟨some 7, (.mov (.tmp 13)), false, none⟩]
def c26_3 : ACode := (.region o26_2 [1, 2, 7])
def w26_3 (P : Program) (Q : Exit → Slots → Mem → Prop) (M : Mem) (v1 : V) (v2 : V) : Prop :=
  @OptVH (loadV 4 true v2 M) ⟨fun t11_1 =>
  @CallH P i_fare_valid [t11_1, v1] M ⟨fun t13_3 M3 =>
  Q .normal [(1, v1), (2, v2), (7, t13_3)] M3⟩⟩
theorem e26_3 (P : Program) (Q : Exit → Slots → Mem → Prop) (s : Slots) (M : Mem) : wpC P c26_3 Q s M = w26_3 P Q M (sget s 1) (sget s 2) := by kernel_rfl
def o26_4 : List AOper := [⟨some 16, (.mov (.tmp 7)), false, none⟩,
  ⟨some 4, (.mov (.const (.int .i64 0))), false, none⟩,
  ⟨some 5, (.mov (.const (.slice [] .nil))), false, none⟩,
  ⟨some 6, (.mov (.tmp 16)), false, none⟩]
def c26_5 : ACode := (.region o26_4 [4, 5, 6])
def w26_5 (_P : Program) (Q : Exit → Slots → Mem → Prop) (M : Mem) (v7 : V) : Prop :=
  Q .normal [(4, (.int .i64 0)), (5, (.slice [] .nil)), (6, v7)] M
theorem e26_5 (P : Program) (Q : Exit → Slots → Mem → Prop) (s : Slots) (M : Mem) : wpC P c26_5 Q s M = w26_5 P Q M (sget s 7) := by kernel_rfl
def c26_6 : ACode := (.seq c26_5 .ret)
def o26_7 : List AOper := [⟨some 14, (.mov (.tmp 7)), false, none⟩,
  ⟨some 15, (.bin .neq .none (.tmp 14) (.const (.int .i64 0))), true, none⟩]
def c26_8 : ACode := (.seq (.region o26_7 [1, 2, 7, 15]) (.cond (.tmp 15) c26_6 .skip))
def w26_8 (P : Program) (Q : Exit → Slots → Mem → Prop) (M : Mem) (v1 : V) (v2 : V) (v7 : V) : Prop :=
  @OptBH (binV .neq .none v7 (.int .i64 0)) ⟨fun b15_2 =>
  @BIfH b15_2
  ⟨wpC P c26_6 Q [(1, v1), (2, v2), (7, v7), (15, (.bool b15_2))] M⟩
  ⟨Q .normal [(1, v1), (2, v2), (7, v7), (15, (.bool b15_2))] M⟩⟩
theorem e26_8 (P : Program) (Q : Exit → Slots → Mem → Prop) (s : Slots) (M : Mem) : wpC P c26_8 Q s M = w26_8 P Q M (sget s 1) (sget s 2) (sget s 7) := by kernel_rfl
def c26_9 : ACode := (.seq c26_3 c26_8)
def o26_10 : List AOper := [⟨some 17, (.load 4 true (.tmp 2)), false, none⟩,
  ⟨some 18, (.mov (.tmp 1)), false, none⟩,
  ⟨some 19, (.call i_fare_divide [(.tmp 17), (.tmp 18)]), false, none⟩,
  ⟨some 8, (.alloc [(.bool false), (.int .i64 0), (.int .i64 0), (.int .i64 0), (.int .i64 0), (.int .i64 0), (.int .i64 0), (.bool false), (.int .i64 0), (.int .i64 0), (.int .i64 0), (.int .i64 0), (.int .i64 0), (.int .i64 0), (.bool false), (.int .i64 0), (.int .i64 0), (.int .i64 0), (.int .i64 0), (.int .i64 0), (.int .i64 0), (.bool false), (.int .i64 0), (.int .i64 0), (.int .i64 0), (.int .i64 0), (.int .i64 0), (.int .i64 0), (.bool false), (.int .i64 0), (.int .i64 0), (.int .i64 0), (.int .i64 0), (.int .i64 0), (.int .i64 0), (.bool false), (.int .i64 0), (.int .i64 0), (.int .i64 0), (.int .i64 0), (.int .i64 0), (.int .i64 0), (.bool false), (.int .i64 0), (.int .i64 0), (.int .i64 0), (.int .i64 0), (.int .i64 0), (.int .i64 0), (.bool false), (.int .i64 0), (.int .i64 0), (.int .i64 0), (.int .i64 0), (.int .i64 0), (.int .i64 0), (.bool false), (.int .i64 0), (.int .i64 0), (.int .i64 0), (.int .i64 0), (.int .i64 0), (.int .i64 0)]), false, none⟩,
  ⟨none, (.store 63 (.tmp 8) (.tmp 19)), false, none⟩]
def c26_11 : ACode := (.region o26_10 [1, 2, 8])
def w26_11 (P : Program) (Q : Exit → Slots → Mem → Prop) (M : Mem) (v1 : V) (v2 : V) : Prop :=
  @OptVH (loadV 4 true v2 M) ⟨fun t17_1 =>
  @CallH P i_fare_divide [t17_1, v1] M ⟨fun t19_3 M3 =>
  @OptMH (allocV [(.bool false), (.int .i64 0), (.int .i64 0), (.int .i64 0), (.int .i64 0), (.int .i64 0), (.int .i64 0), (.bool false), (.int .i64 0), (.int .i64 0), (.int .i64 0), (.int .i64 0), (.int .i64 0), (.int .i64 0), (.bool false), (.int .i64 0), (.int .i64 0), (.int .i64 0), (.int .i64 0), (.int .i64 0), (.int .i64 0), (.bool false), (.int .i64 0), (.int .i64 0), (.int .i64 0), (.int .i64 0), (.int .i64 0), (.int .i64 0), (.bool false), (.int .i64 0), (.int .i64 0), (.int .i64 0), (.int .i64 0), (.int .i64 0), (.int .i64 0), (.bool false), (.int .i64 0), (.int .i64 0), (.int .i64 0), (.int .i64 0), (.int .i64 0), (.int .i64 0), (.bool false), (.int .i64 0), (.int .i64 0), (.int .i64 0), (.int .i64 0), (.int .i64 0), (.int .i64 0), (.bool false), (.int .i64 0), (.int .i64 0), (.int .i64 0), (.int .i64 0), (.int .i64 0), (.int .i64 0), (.bool false), (.int .i64 0), (.int .i64 0), (.int .i64 0), (.int .i64 0), (.int .i64 0), (.int .i64 0)] M3) ⟨fun t8_4 M4 =>
  @OptMH (storeVM 63 t8_4 t19_3 M4) ⟨fun _tx_5 M5 =>
  Q .normal [(1, v1), (2, v2), (8, t8_4)] M5⟩⟩⟩⟩
theorem e26_11 (P : Program) (Q : Exit → Slots → Mem → Prop) (s : Slots) (M : Mem) : wpC P c26_11 Q s M = w26_11 P Q M (sget s 1) (sget s 2) := by kernel_rfl
def o26_12 : List AOper := [⟨some 4, (.mov (.const (.int .i64 0))), false, none⟩,
  ⟨some 5, (.mov (.const (.slice [] .nil))), false, none⟩,
  ⟨some 6, (.mov (.const (.int .i64 34))), false, none⟩]
def c26_13 : ACode := (.region o26_12 [4, 5, 6])
def w26_13 (_P : Program) (Q : Exit → Slots → Mem → Prop) (M : Mem) : Prop :=
  Q .normal [(4, (.int .i64 0)), (5, (.slice [] .nil)), (6, (.int .i64 34))] M
theorem e26_13 (P : Program) (Q : Exit → Slots → Mem → Prop) (s : Slots) (M : Mem) : wpC P c26_13 Q s M = w26_13 P Q M := by kernel_rfl
def c26_14 : ACode := (.seq c26_13 .ret)
def o26_15 : List AOper := [⟨some 20, (.indexArr 9 7 (.tmp 8) (.const (.int .i64 0))), false, none⟩,
  ⟨some 21, (.fieldAddr 0 (.tmp 20)), false, none⟩,
  ⟨some 22, (.load 1 false (.tmp 21)), true, none⟩,
  ⟨some 23, (.un .not (.tmp 22)), true, none⟩]
def c26_16 : ACode := (.seq (.region o26_15 [1, 2, 8, 23]) (.cond (.tmp 23) c26_14 .skip))
def w26_16 (P : Program) (Q : Exit → Slots → Mem → Prop) (M : Mem) (v1 : V) (v2 : V) (v8 : V) : Prop :=
  @OptVH (indexArrV 9 7 v8 (.int .i64 0)) ⟨fun t20_1 =>
  @OptVH (moveV 0 t20_1) ⟨fun t21_2 =>
  @OptBH (loadV 1 false t21_2 M) ⟨fun b22_3 =>
  @OptBH (unV .not (.bool b22_3)) ⟨fun b23_4 =>
  @BIfH b23_4
  ⟨wpC P c26_14 Q [(1, v1), (2, v2), (8, v8), (23, (.bool b23_4))] M⟩
  ⟨Q .normal [(1, v1), (2, v2), (8, v8), (23, (.bool b23_4))] M⟩⟩⟩⟩⟩
theorem e26_16 (P : Program) (Q : Exit → Slots → Mem → Prop) (s : Slots) (M : Mem) : wpC P c26_16 Q s M = w26_16 P Q M (sget s 1) (sget s 2) (sget s 8) := by kernel_rfl
def o26_17 : List AOper := [⟨some 9, (.newarr 4), false, none⟩]
def c26_18 : ACode := (.region o26_17 [1, 2, 8, 9])
def w26_18 (_P : Program) (Q : Exit → Slots → Mem → Prop) (M : Mem) (v1 : V) (v2 : V) (v8 : V) : Prop :=
  @OptMH (newarrV 4 M) ⟨fun t9_1 M1 =>
  Q .normal [(1, v1), (2, v2), (8, v8), (9, t9_1)] M1⟩
theorem e26_18 (P : Program) (Q : Exit → Slots → Mem → Prop) (s : Slots) (M : Mem) : wpC P c26_18 Q s M = w26_18 P Q M (sget s 1) (sget s 2) (sget s 8) := by kernel_rfl
def o26_19 : List AOper := [⟨some 10, (.mov (.const (.int .i64 0))), false, none⟩]
def c26_20 : ACode := (.region o26_19 [1, 2, 8, 9, 10])
def w26_20 (_P : Program) (Q : Exit → Slots → Mem → Prop) (M : Mem) (v1 : V) (v2 : V) (v8 : V) (v9 : V) : Prop :=
  Q .normal [(1, v1), (2, v2), (8, v8), (9, v9), (10, (.int .i64 0))] M
theorem e26_20 (P : Program) (Q : Exit → Slots → Mem → Prop) (s : Slots) (M : Mem) : wpC P c26_20 Q s M = w26_20 P Q M (sget s 1) (sget s 2) (sget s 8) (sget s 9) := by kernel_rfl
def o26_21 : List AOper := [⟨some 24, (.mov (.tmp 10)), false, none⟩,
  ⟨some 25, (.mov (.tmp 1)), false, none⟩,
  ⟨some 26, (.lenSl (.tmp 25)), false, none⟩,
  ⟨some 27, (.bin .lss .none (.tmp 24) (.tmp 26)), true, none⟩]
def c26_22 : ACode := (.seq (.region o26_21 [1, 2, 8, 9, 10, 27]) (.cond (.tmp 27) .skip (.exit 0)))
def w26_22 (_P : Program) (Q : Exit → Slots → Mem → Prop) (M : Mem) (v1 : V) (v2 : V) (v8 : V) (v9 : V) (v10 : V) : Prop :=
  @OptVH (lenV v1 M) ⟨fun t26_3 =>
  @OptBH (binV .lss .none v10 t26_3) ⟨fun b27_4 =>
  @BIfH b27_4
  ⟨Q .normal [(1, v1), (2, v2), (8, v8), (9, v9), (10, v10), (27, (.bool b27_4))] M⟩
  ⟨Q (.exit 0) [(1, v1), (2, v2), (8, v8), (9, v9), (10, v10), (27, (.bool b27_4))] M⟩⟩⟩
theorem e26_22 (P : Program) (Q : Exit → Slots → Mem → Prop) (s : Slots) (M : Mem) : wpC P c26_22 Q s M = w26_22 P Q M (sget s 1) (sget s 2) (sget s 8) (sget s 9) (sget s 10) := by kernel_rfl
def o26_23 : List AOper := [⟨some 34, (.mov (.tmp 9)), false, none⟩,
  ⟨some 35, (.mov (.tmp 10)), false, none⟩,
  ⟨some 36, (.indexArr 9 7 (.tmp 8) (.tmp 35)), false, none⟩,
  ⟨some 37, (.fieldAddr 3 (.tmp 36)), false, none⟩,
  ⟨some 38, (.load 4 true (.tmp 37)), false, none⟩,
  ⟨some 39, (.buildSlice [(.int .i64 0), (.int .i64 0), (.int .i64 0), (.int .i64 0)] 4 1 [(0, (4, (.tmp 38)))]), false, none⟩,
  ⟨some 40, (.append false 4 32 (.tmp 34) (.tmp 39)), false, none⟩,
  ⟨some 9, (.mov (.tmp 40)), false, none⟩]
def c26_24 : ACode := (.region o26_23 [1, 2, 8, 9, 10])
def w26_24 (_P : Program) (Q : Exit → Slots → Mem → Prop) (M : Mem) (v1 : V) (v2 : V) (v8 : V) (v9 : V) (v10 : V) : Prop :=
  @OptVH (indexArrV 9 7 v8 v10) ⟨fun t36_3 =>
  @OptVH (moveV 3 t36_3) ⟨fun t37_4 =>
  @OptVH (loadV 4 true t37_4 M) ⟨fun t38_5 =>
  @OptVH (buildSliceV [(.int .i64 0), (.int .i64 0), (.int .i64 0), (.int .i64 0)] 4 1 [(0, 4, t38_5)]) ⟨fun t39_6 =>
  @OptMH (appV false 4 32 v9 t39_6 M) ⟨fun t40_7 M7 =>
  Q .normal [(1, v1), (2, v2), (8, v8), (9, t40_7), (10, v10)] M7⟩⟩⟩⟩⟩
theorem e26_24 (P : Program) (Q : Exit → Slots → Mem → Prop) (s : Slots) (M : Mem) : wpC P c26_24 Q s M = w26_24 P Q M (sget s 1) (sget s 2) (sget s 8) (sget s 9) (sget s 10) := by kernel_rfl
def c26_25 : ACode := (.block 1 c26_24)
def o26_26 : List AOper := [⟨some 28, (.mov (.tmp 10)), false, none⟩,
  ⟨some 29, (.indexArr 9 7 (.tmp 8) (.tmp 28)), false, none⟩,
  ⟨some 30, (.fieldAddr 3 (.tmp 29)), false, none⟩,
  ⟨some 31, (.fieldAddr 2 (.tmp 30)), false, none⟩,
  ⟨some 32, (.load 1 false (.tmp 31)), false, none⟩,
  ⟨some 33, (.bin .add .none (.tmp 32) (.const (.int .i64 1))), false, none⟩,
  ⟨some 10, (.mov (.tmp 33)), false, none⟩]
def c26_27 : ACode := (.region o26_26 [1, 2, 8, 9, 10])
def w26_27 (_P : Program) (Q : Exit → Slots → Mem → Prop) (M : Mem) (v1 : V) (v2 : V) (v8 : V) (v9 : V) (v10 : V) : Prop :=
  @OptVH (indexArrV 9 7 v8 v10) ⟨fun t29_2 =>
  @OptVH (moveV 3 t29_2) ⟨fun t30_3 =>
  @OptVH (moveV 2 t30_3) ⟨fun t31_4 =>
  @OptVH (loadV 1 false t31_4 M) ⟨fun t32_5 =>
  @OptVH (binV .add .none t32_5 (.int .i64 1)) ⟨fun t33_6 =>
  Q .normal [(1, v1), (2, v2), (8, v8), (9, v9), (10, t33_6)] M⟩⟩⟩⟩⟩
theorem e26_27 (P : Program) (Q : Exit → Slots → Mem → Prop) (s : Slots) (M : Mem) : wpC P c26_27 Q s M = w26_27 P Q M (sget s 1) (sget s 2) (sget s 8) (sget s 9) (sget s 10) := by kernel_rfl
def c26_28 : ACode := (.seq c26_25 c26_27)
def c26_29 : ACode := (.seq c26_22 c26_28)
def c26_30 : ACode := (.loop [1, 2, 8, 9, 10] c26_29)
def c26_31 : ACode := (.block 0 c26_30)
def c26_32 : ACode := (.seq c26_20 c26_31)
def o26_33 : List AOper := [⟨some 41, (.load 4 true (.tmp 2)), false, none⟩,
  ⟨some 42, (.indexArr 9 7 (.tmp 8) (.const (.int .i64 0))), false, none⟩,
  ⟨some 43, (.fieldAddr 1 (.tmp 42)), false, none⟩,
  ⟨some 44, (.load 1 false (.tmp 43)), false, none⟩,
  ⟨some 45, (.call i_fare_capped [(.tmp 41), (.tmp 44)]), false, none⟩,
  ⟨some 46, (.mov (.tmp 9)), false, none⟩,
  ⟨some 4, (.mov (.tmp 45)), false, none⟩,
  ⟨some 5, (.mov (.tmp 46)), false, none⟩,
  ⟨some 6, (.mov (.const (.int .i64 0))), false, none⟩]
def c26_34 : ACode := (.region o26_33 [4, 5, 6])
def w26_34 (P : Program) (Q : Exit → Slots → Mem → Prop) (M : Mem) (v2 : V) (v8 : V) (v9 : V) : Prop :=
  @OptVH (loadV 4 true v2 M) ⟨fun t41_1 =>
  @OptVH (indexArrV 9 7 v8 (.int .i64 0)) ⟨fun t42_2 =>
  @OptVH (moveV 1 t42_2) ⟨fun t43_3 =>
  @OptVH (loadV 1 false t43_3 M) ⟨fun t44_4 =>
  @CallH P i_fare_capped [t41_1, t44_4] M ⟨fun t45_5 M5 =>
  Q .normal [(4, t45_5), (5, v9), (6, (.int .i64 0))] M5⟩⟩⟩⟩⟩
theorem e26_34 (P : Program) (Q : Exit → Slots → Mem → Prop) (s : Slots) (M : Mem) : wpC P c26_34 Q s M = w26_34 P Q M (sget s 2) (sget s 8) (sget s 9) := by kernel_rfl
def c26_35 : ACode := (.seq c26_34 .ret)
def c26_36 : ACode := (.seq c26_32 c26_35)
def c26_37 : ACode := (.seq c26_18 c26_36)
def c26_38 : ACode := (.seq c26_16 c26_37)
def c26_39 : ACode := (.seq c26_11 c26_38)
def c26_40 : ACode := (.seq c26_9 c26_39)
def c26_41 : ACode := (.seq c26_1 c26_40)
def fn_fare_Price : AFn := ⟨47, [(.tmp 4), (.tmp 5), (.tmp 6)], c26_41⟩
theorem fn_fare_Price_ok : resFn PR h_fare_Price i_fare_Price = some fn_fare_Price := by kernel_rfl

def h_slices_Clone_api_Product_api_Product : Hints := ⟨[(0, [0]), (1, [0, 4]), (2, [2]), (3, [2])], [], [(3, [2])]⟩
def o27_0 : List AOper := [⟨some 2, (.mov (.const (.slice [] .nil))), false, none⟩]
def c27_1 : ACode := (.region o27_0 [0])
def w27_1 (_P : Program) (Q : Exit → Slots → Mem → Prop) (M : Mem) (v0 : V) : Prop :=
  Q .normal [(0, v0)] M
theorem e27_1 (P : Program) (Q : Exit → Slots → Mem → Prop) (s : Slots) (M : Mem) : wpC P c27_1 Q s M = w27_1 P Q M (sget s 0) := by kernel_rfl
def o27_2 : List AOper := [⟨some 2, (.mov (.const (.slice [] .nil))), false, none⟩]
def c27_3 : ACode := (.region o27_2 [2])
def w27_3 (_P : Program) (Q : Exit → Slots → Mem → Prop) (M : Mem) : Prop :=
  Q .normal [(2, (.slice [] .nil))] M
theorem e27_3 (P : Program) (Q : Exit → Slots → Mem → Prop) (s : Slots) (M : Mem) : wpC P c27_3 Q s M = w27_3 P Q M := by kernel_rfl
def c27_4 : ACode := (.seq c27_3 .ret)
def o27_5 : List AOper := [⟨some 3, (.mov (.tmp 0)), false, none⟩,
  ⟨some 4, (.bin .eql .slice (.tmp 3) (.const (.slice [] .nil))), true, none⟩]
def c27_6 : ACode := (.seq (.region o27_5 [0, 4]) (.cond (.tmp 4) c27_4 .skip))
def w27_6 (P : Program) (Q : Exit → Slots → Mem → Prop) (M : Mem) (v0 : V) : Prop :=
  @OptBH (binV .eql .slice v0 (.slice [] .nil)) ⟨fun b4_2 =>
  @BIfH b4_2
  ⟨wpC P c27_4 Q [(0, v0), (4, (.bool b4_2))] M⟩
  ⟨Q .normal [(0, v0), (4, (.bool b4_2))] M⟩⟩
theorem e27_6 (P : Program) (Q : Exit → Slots → Mem → Prop) (s : Slots) (M : Mem) : wpC P c27_6 Q s M = w27_6 P Q M (sget s 0) := by kernel_rfl
def o27_7 : List AOper := [⟨some 5, (.buildSlice [] 6 0 []), false, none⟩,
  ⟨some 6, (.mov (.tmp 0)), false, none⟩,
  ⟨some 7, (.append true 6 56 (.tmp 5) (.tmp 6)), false, none⟩,
  ⟨some 2, (.mov (.tmp 7)), false, none⟩]
def c27_8 : ACode := (.region o27_7 [2])
def w27_8 (_P : Program) (Q : Exit → Slots → Mem → Prop) (M : Mem) (v0 : V) : Prop :=
  @OptVH (buildSliceV [] 6 0 []) ⟨fun t5_1 =>
  @OptMH (appV true 6 56 t5_1 v0 M) ⟨fun t7_3 M3 =>
  Q .normal [(2, t7_3)] M3⟩⟩
theorem e27_8 (P : Program) (Q : Exit → Slots → Mem → Prop) (s : Slots) (M : Mem) : wpC P c27_8 Q s M = w27_8 P Q M (sget s 0) := by kernel_rfl
def c27_9 : ACode := (.seq c27_8 .ret)
def c27_10 : ACode := (.seq c27_6 c27_9)
def c27_11 : ACode := (.seq c27_1 c27_10)
def fn_slices_Clone_api_Product_api_Product : AFn := ⟨8, [(.tmp 2)], c27_11⟩
theorem fn_slices_Clone_api_Product_api_Product_ok : resFn PR h_slices_Clone_api_Product_api_Product i_slices_Clone_api_Product_api_Product = some fn_slices_Clone_api_Product_api_Product := by kernel_rfl

def h_account_valid : Hints := ⟨[(0, [0]), (1, [2])], [], []⟩
def o28_0 : List AOper := [⟨some 2, (.mov (.const (.bool false))), true, none⟩]
def c28_1 : ACode := (.region o28_0 [0])
def w28_1 (_P : Program) (Q : Exit → Slots → Mem → Prop) (M : Mem) (v0 : V) : Prop :=
  Q .normal [(0, v0)] M
theorem e28_1 (P : Program) (Q : Exit → Slots → Mem → Prop) (s : Slots) (M : Mem) : wpC P c28_1 Q s M = w28_1 P Q M (sget s 0) := by kernel_rfl
def o28_2 : List AOper := [⟨some 3, (.mov (.tmp 0)), false, none⟩,
  ⟨some 4, (.mov (.tmp 0)), false, none⟩,
  ⟨some 5, (.call i_number_Clamp [(.tmp 4), (.const (.int .i64 0)), (.const (.int .i64 36524))]), false, none⟩,
  ⟨some 6, (.bin .eql .none (.tmp 3) (.tmp 5)), true, none⟩,
  ⟨some 2, (.mov (.tmp 6)), true, none⟩]
def c28_3 : ACode := (.region o28_2 [2])
def w28_3 (P : Program) (Q : Exit → Slots → Mem → Prop) (M : Mem) (v0 : V) : Prop :=
  @CallH P i_number_Clamp [v0, (.int .i64 0), (.int .i64 36524)] M ⟨fun t5_3 M3 =>
  @OptBH (binV .eql .none v0 t5_3) ⟨fun b6_4 =>
  Q .normal [(2, (.bool b6_4))] M3⟩⟩
theorem e28_3 (P : Program) (Q : Exit → Slots → Mem → Prop) (s : Slots) (M : Mem) : wpC P c28_3 Q s M = w28_3 P Q M (sget s 0) := by kernel_rfl
def c28_4 : ACode := (.seq c28_3 .ret)
def c28_5 : ACode := (.seq c28_1 c28_4)
def fn_account_valid : AFn := ⟨7, [(.tmp 2)], c28_5⟩
theorem fn_account_valid_ok : resFn PR h_account_valid i_account_valid = some fn_account_valid := by kernel_rfl

def h_transitref35_Valid : Hints := ⟨[(0, [1]), (1, [4]), (2, [2])], [], []⟩
def o29_0 : List AOper := [⟨some 1, (.box 4 (.tmp 0)), false, none⟩,
  ⟨some 2, (.mov (.const (.bool false))), true, none⟩]
def c29_1 : ACode := (.region o29_0 [1])
def w29_1 (_P : Program) (Q : Exit → Slots → Mem → Prop) (M : Mem) (v0 : V) : Prop :=
  @OptMH (boxV 4 v0 M) ⟨fun t1_1 M1 =>
  Q .normal [(1, t1_1)] M1⟩
theorem e29_1 (P : Program) (Q : Exit → Slots → Mem → Prop) (s : Slots) (M : Mem) : wpC P c29_1 Q s M = w29_1 P Q M (sget s 0) := by kernel_rfl
def o29_2 : List AOper := [⟨some 6, (.load 4 true (.tmp 1)), false, none⟩,
  ⟨some 7, (.call i_transitref26_Fares [(.tmp 6)]), false, none⟩,
  ⟨some 5, (.mov (.tmp 7)), false, none⟩,
  ⟨some 8, (.extract (.tmp 5) 0), false, none⟩,
  ⟨some 9, (.extract (.tmp 5) 1), false, none⟩,
  ⟨some 3, (.mov (.tmp 8)), false, none⟩,
  ⟨some 4, (.mov (.tmp 9)), false, none⟩]
def c29_3 : ACode := (.region o29_2 [4])
def w29_3 (P : Program) (Q : Exit → Slots → Mem → Prop) (M : Mem) (v1 : V) : Prop :=
  @OptVH (loadV 4 true v1 M) ⟨fun t6_1 =>
  @CallH P i_transitref26_Fares [t6_1] M ⟨fun t7_2 M2 =>
  @OptVH (extractV t7_2 0) ⟨fun _t8_4 =>
  @OptVH (extractV t7_2 1) ⟨fun t9_5 =>
  Q .normal [(4, t9_5)] M2⟩⟩⟩⟩
theorem e29_3 (P : Program) (Q : Exit → Slots → Mem → Prop) (s : Slots) (M : Mem) : wpC P c29_3 Q s M = w29_3 P Q M (sget s 1) := by kernel_rfl
def o29_4 : List AOper := [⟨some 10, (.mov (.tmp 4)), false, none⟩,
  ⟨some 11, (.bin .eql .none (.tmp 10) (.const (.int .i64 0))), true, none⟩,
  ⟨some 2, (.mov (.tmp 11)), true, none⟩]
def c29_5 : ACode := (.region o29_4 [2])
def w29_5 (_P : Program) (Q : Exit → Slots → Mem → Prop) (M : Mem) (v4 : V) : Prop :=
  @OptBH (binV .eql .none v4 (.int .i64 0)) ⟨fun b11_2 =>
  Q .normal [(2, (.bool b11_2))] M⟩
theorem e29_5 (P : Program) (Q : Exit → Slots → Mem → Prop) (s : Slots) (M : Mem) : wpC P c29_5 Q s M = w29_5 P Q M (sget s 4) := by kernel_rfl
def c29_6 : ACode := (.seq c29_5 .ret)
def c29_7 : ACode := (.seq c29_3 c29_6)
def c29_8 : ACode := (.seq c29_1 c29_7)
def fn_transitref35_Valid : AFn := ⟨12, [(.tmp 2)], c29_8⟩
theorem fn_transitref35_Valid_ok : resFn PR h_transitref35_Valid i_transitref35_Valid = some fn_transitref35_Valid := by kernel_rfl

def h_transitref35_Best : Hints := ⟨[(0, [1, 2]), (1, [1, 2, 6]), (2, [1, 2, 6, 7]), (3, [1, 2, 6, 7]), (4, [1, 2, 6, 7, 8]), (5, [1, 2, 6, 7, 8, 28]), (6, [1, 2, 6, 7, 8]), (7, [1, 2, 6, 7, 8, 9]), (8, [1, 2, 6, 7, 8, 9, 35]), (9, [1, 2, 6, 7, 8, 9]), (10, [1, 2, 6, 7, 8, 9, 10]), (11, [1, 2, 6, 7, 8, 9, 10, 49]), (12, [1, 2, 6, 7, 8, 9, 10]), (13, [1, 2, 6, 7, 8, 9, 10, 61]), (14, [1, 2, 6, 7, 8, 9, 10, 11]), (15, [1, 2, 6, 7, 8, 9, 10, 11]), (16, [1, 2, 6, 7, 8, 9, 10, 11, 95]), (17, [1, 2, 6, 7, 8, 9, 10]), (18, [4, 5])], [(5, [1, 2, 6, 7, 8]), (8, [1, 2, 6, 7, 8, 9]), (11, [1, 2, 6, 7, 8, 9, 10])], [(15, [6])]⟩
def o30_0 : List AOper := [⟨some 2, (.box 4 (.tmp 0)), false, none⟩,
  ⟨some 4, (.mov (.const (.slice [] .nil))), false, none⟩,
  ⟨some 5, (.mov (.const (.bool false))), true, none⟩]
def c30_1 : ACode := (.region o30_0 [1, 2])
def w30_1 (_P : Program) (Q : Exit → Slots → Mem → Prop) (M : Mem) (v0 : V) (v1 : V) : Prop :=
  @OptMH (boxV 4 v0 M) ⟨fun t2_1 M1 =>
  Q .normal [(1, v1), (2, t2_1)] M1⟩
theorem e30_1 (P : Program) (Q : Exit → Slots → Mem → Prop) (s : Slots) (M : Mem) : wpC P c30_1 Q s M = w30_1 P Q M (sget s 0) (sget s 1) := by kernel_rfl
def o30_2 : List AOper := [⟨some 12, (.mov (.tmp 1)), false, none⟩,
  ⟨some 13, (.lenSl (.tmp 12)), false, none⟩,
  ⟨some 14, (.bin .add .none (.tmp 13) (.const (.int .i64 1))), false, none⟩,
  ⟨some 15, (.makeSlice [(.slice [] .nil)] 1 24 (.tmp 14) (.tmp 14)), false, none⟩,
  ⟨some 6, (.mov (.tmp 15)), false, none⟩]
def c30_3 : ACode := (.region o30_2 [1, 2, 6])
def w30_3 (_P : Program) (Q : Exit → Slots → Mem → Prop) (M : Mem) (v1 : V) (v2 : V) : Prop :=
  @OptVH (lenV v1 M) ⟨fun t13_2 =>
  @OptVH (binV .add .none t13_2 (.int .i64 1)) ⟨fun t14_3 =>
  @OptMH (makeSliceV [(.slice [] .nil)] 1 24 t14_3 t14_3 M) ⟨fun t15_4 M4 =>
  Q .normal [(1, v1), (2, v2), (6, t15_4)] M4⟩⟩⟩
theorem e30_3 (P : Program) (Q : Exit → Slots → Mem → Prop) (s : Slots) (M : Mem) : wpC P c30_3 Q s M = w30_3 P Q M (sget s 1) (sget s 2) := by kernel_rfl
def o30_4 : List AOper := [⟨some 16, (.mov (.tmp 1)), false, none⟩,
  ⟨some 17, (.lenSl (.tmp 16)), false, none⟩,
  ⟨some 18, (.bin .add .none (.tmp 17) (.const (.int .i64 1))), false, none⟩,
  ⟨some 19, (.makeSlice [(.bool false)] 1 1 (.tmp 18) (.tmp 18)), false, none⟩,
  ⟨some 7, (.mov (.tmp 19)), false, none⟩]
def c30_5 : ACode := (.region o30_4 [1, 2, 6, 7])
def w30_5 (_P : Program) (Q : Exit → Slots → Mem → Prop) (M : Mem) (v1 : V) (v2 : V) (v6 : V) : Prop :=
  @OptVH (lenV v1 M) ⟨fun t17_2 =>
  @OptVH (binV .add .none t17_2 (.int .i64 1)) ⟨fun t18_3 =>
  @OptMH (makeSliceV [(.bool false)] 1 1 t18_3 t18_3 M) ⟨fun t19_4 M4 =>
  Q .normal [(1, v1), (2, v2), (6, v6), (7, t19_4)] M4⟩⟩⟩
theorem e30_5 (P : Program) (Q : Exit → Slots → Mem → Prop) (s : Slots) (M : Mem) : wpC P c30_5 Q s M = w30_5 P Q M (sget s 1) (sget s 2) (sget s 6) := by kernel_rfl
def o30_6 : List AOper := [⟨some 20, (.mov (.tmp 7)), false, none⟩,
  ⟨some 21, (.mov (.tmp 1)), false, none⟩,
  ⟨some 22, (.lenSl (.tmp 21)), false, none⟩,
  ⟨some 23, (.indexSl 1 (.tmp 20) (.tmp 22)), false, none⟩,
  ⟨none, (.store 1 (.tmp 23) (.const (.bool true))), false, none⟩]
def c30_7 : ACode := (.region o30_6 [1, 2, 6, 7])
def w30_7 (_P : Program) (Q : Exit → Slots → Mem → Prop) (M : Mem) (v1 : V) (v2 : V) (v6 : V) (v7 : V) : Prop :=
  @OptVH (lenV v1 M) ⟨fun t22_3 =>
  @OptVH (indexSlV 1 v7 t22_3 M) ⟨fun t23_4 =>
  @OptMH (storeVM 1 t23_4 (.bool true) M) ⟨fun _tx_5 M5 =>
  Q .normal [(1, v1), (2, v2), (6, v6), (7, v7)] M5⟩⟩⟩
theorem e30_7 (P : Program) (Q : Exit → Slots → Mem → Prop) (s : Slots) (M : Mem) : wpC P c30_7 Q s M = w30_7 P Q M (sget s 1) (sget s 2) (sget s 6) (sget s 7) := by kernel_rfl
def o30_8 : List AOper := [⟨some 24, (.mov (.tmp 1)), false, none⟩,
  ⟨some 25, (.lenSl (.tmp 24)), false, none⟩,
  ⟨some 26, (.bin .sub .none (.tmp 25) (.const (.int .i64 1))), false, none⟩,
  ⟨some 8, (.mov (.tmp 26)), false, none⟩]
def c30_9 : ACode := (.region o30_8 [1, 2, 6, 7, 8])
def w30_9 (_P : Program) (Q : Exit → Slots → Mem → Prop) (M : Mem) (v1 : V) (v2 : V) (v6 : V) (v7 : V) : Prop :=
  @OptVH (lenV v1 M) ⟨fun t25_2 =>
  @OptVH (binV .sub .none t25_2 (.int .i64 1)) ⟨fun t26_3 =>
  Q .normal [(1, v1), (2, v2), (6, v6), (7, v7), (8, t26_3)] M⟩⟩
theorem e30_9 (P : Program) (Q : Exit → Slots → Mem → Prop) (s : Slots) (M : Mem) : wpC P c30_9 Q s M = w30_9 P Q M (sget s 1) (sget s 2) (sget s 6) (sget s 7) := by kernel_rfl
def o30_10 : List AOper := [⟨some 27, (.mov (.tmp 8)), false, none⟩,
  ⟨some 28, (.bin .geq .none (.tmp 27) (.const (.int .i64 0))), true, none⟩]
def c30_11 : ACode := (.seq (.region o30_10 [1, 2, 6, 7, 8, 28]) (.cond (.tmp 28) .skip (.exit 0)))
def w30_11 (_P : Program) (Q : Exit → Slots → Mem → Prop) (M : Mem) (v1 : V) (v2 : V) (v6 : V) (v7 : V) (v8 : V) : Prop :=
  @OptBH (binV .geq .none v8 (.int .i64 0)) ⟨fun b28_2 =>
  @BIfH b28_2
  ⟨Q .normal [(1, v1), (2, v2), (6, v6), (7, v7), (8, v8), (28, (.bool b28_2))] M⟩
  ⟨Q (.exit 0) [(1, v1), (2, v2), (6, v6), (7, v7), (8, v8), (28, (.bool b28_2))] M⟩⟩
theorem e30_11 (P : Program) (Q : Exit → Slots → Mem → Prop) (s : Slots) (M : Mem) : wpC P c30_11 Q s M = w30_11 P Q M (sget s 1) (sget s 2) (sget s 6) (sget s 7) (sget s 8) := by kernel_rfl
def o30_12 : List AOper := [⟨some 31, (.mov (.tmp 8)), false, none⟩,
  ⟨some 9, (.mov (.tmp 31)), false, none⟩]
def c30_13 : ACode := (.region o30_12 [1, 2, 6, 7, 8, 9])
def w30_13 (_P : Program) (Q : Exit → Slots → Mem → Prop) (M : Mem) (v1 : V) (v2 : V) (v6 : V) (v7 : V) (v8 : V) : Prop :=
  Q .normal [(1, v1), (2, v2), (6, v6), (7, v7), (8, v8), (9, v8)] M
theorem e30_13 (P : Program) (Q : Exit → Slots → Mem → Prop) (s : Slots) (M : Mem) : wpC P c30_13 Q s M = w30_13 P Q M (sget s 1) (sget s 2) (sget s 6) (sget s 7) (sget s 8) := by kernel_rfl
def o30_14 : List AOper := [⟨some 32, (.mov (.tmp 9)), false, none⟩,
  ⟨some 33, (.mov (.tmp 1)), false, none⟩,
  ⟨some 34, (.lenSl (.tmp 33)), false, none⟩,
  ⟨some 35, (.bin .lss .none (.tmp 32) (.tmp 34)), true, none⟩]
def c30_15 : ACode := (.seq (.region o30_14 [1, 2, 6, 7, 8, 9, 35]) (.cond (.tmp 35) .skip (.exit 2)))
def w30_15 (_P : Program) (Q : Exit → Slots → Mem → Prop) (M : Mem) (v1 : V) (v2 : V) (v6 : V) (v7 : V) (v8 : V) (v9 : V) : Prop :=
  @OptVH (lenV v1 M) ⟨fun t34_3 =>
  @OptBH (binV .lss .none v9 t34_3) ⟨fun b35_4 =>
  @BIfH b35_4
  ⟨Q .normal [(1, v1), (2, v2), (6, v6), (7, v7), (8, v8), (9, v9), (35, (.bool b35_4))] M⟩
  ⟨Q (.exit 2) [(1, v1), (2, v2), (6, v6), (7, v7), (8, v8), (9, v9), (35, (.bool b35_4))] M⟩⟩⟩
theorem e30_15 (P : Program) (Q : Exit → Slots → Mem → Prop) (s : Slots) (M : Mem) : wpC P c30_15 Q s M = w30_15 P Q M (sget s 1) (sget s 2) (sget s 6) (sget s 7) (sget s 8) (sget s 9) := by kernel_rfl
def o30_16 : List AOper := [⟨some 10, (.mov (.const (.int .i64 0))), false, none⟩]
def c30_17 : ACode := (.region o30_16 [1, 2, 6, 7, 8, 9, 10])
def w30_17 (_P : Program) (Q : Exit → Slots → Mem → Prop) (M : Mem) (v1 : V) (v2 : V) (v6 : V) (v7 : V) (v8 : V) (v9 : V) : Prop :=
  Q .normal [(1, v1), (2, v2), (6, v6), (7, v7), (8, v8), (9, v9), (10, (.int .i64 0))] M
theorem e30_17 (P : Program) (Q : Exit → Slots → Mem → Prop) (s : Slots) (M : Mem) : wpC P c30_17 Q s M = w30_17 P Q M (sget s 1) (sget s 2) (sget s 6) (sget s 7) (sget s 8) (sget s 9) := by kernel_rfl
def o30_18 : List AOper := [⟨some 38, (.mov (.tmp 10)), false, none⟩,
  ⟨some 39, (.fieldAddr 0 (.tmp 2)), false, none⟩,
  ⟨some 40, (.load 1 false (.tmp 39)), false, none⟩,
  ⟨some 41, (.lenSl (.tmp 40)), false, none⟩,
  ⟨some 42, (.bin .lss .none (.tmp 38) (.tmp 41)), true, none⟩,
  ⟨some 43, (.mov (.tmp 42)), true, none⟩,
  ⟨some 44, (.mov (.tmp 7)), false, some (43, true)⟩,
  ⟨some 45, (.mov (.tmp 9)), false, some (43, true)⟩,
  ⟨some 46, (.bin .add .none (.tmp 45) (.const (.int .i64 1))), false, some (43, true)⟩,
  ⟨some 47, (.indexSl 1 (.tmp 44) (.tmp 46)), false, some (43, true)⟩,
  ⟨some 48, (.load 1 false (.tmp 47)), true, some (43, true)⟩,
  ⟨some 49, (.pick (.tmp 43) (.tmp 48) (.const (.bool false))), true, none⟩]
def c30_19 : ACode := (.seq (.region o30_18 [1, 2, 6, 7, 8, 9, 10, 49]) (.cond (.tmp 49) .skip (.exit 4)))
def w30_19 (_P : Program) (Q : Exit → Slots → Mem → Prop) (M : Mem) (v1 : V) (v2 : V) (v6 : V) (v7 : V) (v8 : V) (v9 : V) (v10 : V) : Prop :=
  @OptVH (moveV 0 v2) ⟨fun t39_2 =>
  @OptVH (loadV 1 false t39_2 M) ⟨fun t40_3 =>
  @OptVH (lenV t40_3 M) ⟨fun t41_4 =>
  @OptBH (binV .lss .none v10 t41_4) ⟨fun b42_5 =>
  @BIfH b42_5
  ⟨@OptVH (binV .add .none v9 (.int .i64 1)) ⟨fun t46_9 =>
  @OptVH (indexSlV 1 v7 t46_9 M) ⟨fun t47_10 =>
  @OptBH (loadV 1 false t47_10 M) ⟨fun b48_11 =>
  @BIfH b48_11
  ⟨Q .normal [(1, v1), (2, v2), (6, v6), (7, v7), (8, v8), (9, v9), (10, v10), (49, (.bool b48_11))] M⟩
  ⟨Q (.exit 4) [(1, v1), (2, v2), (6, v6), (7, v7), (8, v8), (9, v9), (10, v10), (49, (.bool b48_11))] M⟩⟩⟩⟩⟩
  ⟨Q (.exit 4) [(1, v1), (2, v2), (6, v6), (7, v7), (8, v8), (9, v9), (10, v10), (49, (.bool false))] M⟩⟩⟩⟩⟩
theorem e30_19 (P : Program) (Q : Exit → Slots → Mem → Prop) (s : Slots) (M : Mem) : wpC P c30_19 Q s M = w30_19 P Q M (sget s 1) (sget s 2) (sget s 6) (sget s 7) (sget s 8) (sget s 9) (sget s 10) := by kernel_rfl
def o30_20 : List AOper := [⟨some 52, (.fieldAddr 0 (.tmp 2)), false, none⟩,
  ⟨some 53, (.load 1 false (.tmp 52)), false, none⟩,
  ⟨some 54, (.mov (.tmp 10)), false, none⟩,
  ⟨some 55, (.indexSl 6 (.tmp 53) (.tmp 54)), false, none⟩,
  ⟨some 56, (.load 6 true (.tmp 55)), false, none⟩,
  ⟨some 57, (.mov (.tmp 1)), false, none⟩,
  ⟨some 58, (.mov (.tmp 8)), false, none⟩,
  ⟨some 59, (.mov (.tmp 9)), false, none⟩,
  ⟨some 60, (.call i_transitref35_Covers [(.tmp 56), (.tmp 57), (.tmp 58), (.tmp 59)]), true, none⟩,
  ⟨some 61, (.un .not (.tmp 60)), true, none⟩]
def c30_21 : ACode := (.seq (.region o30_20 [1, 2, 6, 7, 8, 9, 10, 61]) (.cond (.tmp 61) (.exit 5) .skip))
def w30_21 (P : Program) (Q : Exit → Slots → Mem → Prop) (M : Mem) (v1 : V) (v2 : V) (v6 : V) (v7 : V) (v8 : V) (v9 : V) (v10 : V) : Prop :=
  @OptVH (moveV 0 v2) ⟨fun t52_1 =>
  @OptVH (loadV 1 false t52_1 M) ⟨fun t53_2 =>
  @OptVH (indexSlV 6 t53_2 v10 M) ⟨fun t55_4 =>
  @OptVH (loadV 6 true t55_4 M) ⟨fun t56_5 =>
  @CallH P i_transitref35_Covers [t56_5, v1, v8, v9] M ⟨fun t60_9 M9 => @OptBH (some t60_9) ⟨fun b60_9 =>
  @OptBH (unV .not (.bool b60_9)) ⟨fun b61_10 =>
  @BIfH b61_10
  ⟨Q (.exit 5) [(1, v1), (2, v2), (6, v6), (7, v7), (8, v8), (9, v9), (10, v10), (61, (.bool b61_10))] M9⟩
  ⟨Q .normal [(1, v1), (2, v2), (6, v6), (7, v7), (8, v8), (9, v9), (10, v10), (61, (.bool b61_10))] M9⟩⟩⟩⟩⟩⟩⟩⟩
theorem e30_21 (P : Program) (Q : Exit → Slots → Mem → Prop) (s : Slots) (M : Mem) : wpC P c30_21 Q s M = w30_21 P Q M (sget s 1) (sget s 2) (sget s 6) (sget s 7) (sget s 8) (sget s 9) (sget s 10) := by kernel_rfl
def o30_22 : List AOper := [⟨some 62, (.mov (.tmp 10)), false, none⟩,
  ⟨some 63, (.mov (.tmp 8)), false, none⟩,
  ⟨some 64, (.mov (.tmp 9)), false, none⟩,
  ⟨some 65, (.load 4 true (.tmp 2)), false, none⟩,
  ⟨some 66, (.fieldAddr 0 (.tmp 2)), false, none⟩,
  ⟨some 67, (.load 1 false (.tmp 66)), false, none⟩,
  ⟨some 68, (.mov (.tmp 10)), false, none⟩,
  ⟨some 69, (.indexSl 6 (.tmp 67) (.tmp 68)), false, none⟩,
  ⟨some 70, (.load 6 true (.tmp 69)), false, none⟩,
  ⟨some 71, (.mov (.tmp 1)), false, none⟩,
  ⟨some 72, (.mov (.tmp 8)), false, none⟩,
  ⟨some 73, (.call i_transitref35_Ticket [(.tmp 65), (.tmp 70), (.tmp 71), (.tmp 72)]), false, none⟩,
  ⟨some 74, (.build [(.int .i64 0), (.int .i64 0), (.int .i64 0), (.int .i64 0)] [(0, (1, (.tmp 62))), (1, (1, (.tmp 63))), (2, (1, (.tmp 64))), (3, (1, (.tmp 73)))]), false, none⟩,
  ⟨some 75, (.buildSlice [(.int .i64 0), (.int .i64 0), (.int .i64 0), (.int .i64 0)] 4 1 [(0, (4, (.tmp 74)))]), false, none⟩,
  ⟨some 11, (.mov (.tmp 75)), false, none⟩]
def c30_23 : ACode := (.mixed o30_22 [true, true, true, true, true, true, true, true, true, true, true, true, true, true, true] [1, 2, 6, 7, 8, 9, 10, 11])
def w30_23 (P : Program) (Q : Exit → Slots → Mem → Prop) (M : Mem) (v1 : V) (v2 : V) (v6 : V) (v7 : V) (v8 : V) (v9 : V) (v10 : V) : Prop :=
  @OptVH (loadV 4 true v2 M) ⟨fun t65_4 =>
  @OptVH (moveV 0 v2) ⟨fun t66_5 =>
  @OptVH (loadV 1 false t66_5 M) ⟨fun t67_6 =>
  @OptVH (indexSlV 6 t67_6 v10 M) ⟨fun t69_8 =>
  @OptVH (loadV 6 true t69_8 M) ⟨fun t70_9 =>
  @CallQ P i_transitref35_Ticket [t65_4, t70_9, v1, v8] M ⟨fun t73_12 M12 =>
  @OptVH (buildV [(.int .i64 0), (.int .i64 0), (.int .i64 0), (.int .i64 0)] [(0, 1, v10), (1, 1, v8), (2, 1, v9), (3, 1, t73_12)]) ⟨fun t74_13 =>
  @OptVH (buildSliceV [(.int .i64 0), (.int .i64 0), (.int .i64 0), (.int .i64 0)] 4 1 [(0, 4, t74_13)]) ⟨fun t75_14 =>
  Q .normal [(1, v1), (2, v2), (6, v6), (7, v7), (8, v8), (9, v9), (10, v10), (11, t75_14)] M12⟩⟩⟩⟩⟩⟩⟩⟩
theorem e30_23 (P : Program) (Q : Exit → Slots → Mem → Prop) (s : Slots) (M : Mem) : wpC P c30_23 Q s M = w30_23 P Q M (sget s 1) (sget s 2) (sget s 6) (sget s 7) (sget s 8) (sget s 9) (sget s 10) := by kernel_rfl
def o30_24 : List AOper := [⟨some 76, (.mov (.tmp 11)), false, none⟩,
  ⟨some 77, (.mov (.tmp 6)), false, none⟩,
  ⟨some 78, (.mov (.tmp 9)), false, none⟩,
  ⟨some 79, (.bin .add .none (.tmp 78) (.const (.int .i64 1))), false, none⟩,
  ⟨some 80, (.indexSl 1 (.tmp 77) (.tmp 79)), false, none⟩,
  ⟨some 81, (.load 1 false (.tmp 80)), false, none⟩,
  ⟨some 82, (.append true 4 32 (.tmp 76) (.tmp 81)), false, none⟩,
  ⟨some 11, (.mov (.tmp 82)), false, none⟩]
def c30_25 : ACode := (.region o30_24 [1, 2, 6, 7, 8, 9, 10, 11])
def w30_25 (_P : Program) (Q : Exit → Slots → Mem → Prop) (M : Mem) (v1 : V) (v2 : V) (v6 : V) (v7 : V) (v8 : V) (v9 : V) (v10 : V) (v11 : V) : Prop :=
  @OptVH (binV .add .none v9 (.int .i64 1)) ⟨fun t79_4 =>
  @OptVH (indexSlV 1 v6 t79_4 M) ⟨fun t80_5 =>
  @OptVH (loadV 1 false t80_5 M) ⟨fun t81_6 =>
  @OptMH (appV true 4 32 v11 t81_6 M) ⟨fun t82_7 M7 =>
  Q .normal [(1, v1), (2, v2), (6, v6), (7, v7), (8, v8), (9, v9), (10, v10), (11, t82_7)] M7⟩⟩⟩⟩
theorem e30_25 (P : Program) (Q : Exit → Slots → Mem → Prop) (s : Slots) (M : Mem) : wpC P c30_25 Q s M = w30_25 P Q M (sget s 1) (sget s 2) (sget s 6) (sget s 7) (sget s 8) (sget s 9) (sget s 10) (sget s 11) := by kernel_rfl
def o30_26 : List AOper := [⟨some 96, (.mov (.tmp 6)), false, none⟩,
  ⟨some 97, (.mov (.tmp 8)), false, none⟩,
  ⟨some 98, (.mov (.tmp 7)), false, none⟩,
  ⟨some 99, (.mov (.tmp 8)), false, none⟩,
  ⟨some 100, (.mov (.tmp 11)), false, none⟩,
  ⟨some 101, (.indexSl 1 (.tmp 96) (.tmp 97)), false, none⟩,
  ⟨none, (.store 1 (.tmp 101) (.tmp 100)), false, none⟩,
  ⟨some 102, (.indexSl 1 (.tmp 98) (.tmp 99)), false, none⟩,
  ⟨none, (.store 1 (.tmp 102) (.const (.bool true))), false, none⟩]
def c30_27 : ACode := (.region o30_26 [1, 2, 6, 7, 8, 9, 10])
def w30_27 (_P : Program) (Q : Exit → Slots → Mem → Prop) (M : Mem) (v1 : V) (v2 : V) (v6 : V) (v7 : V) (v8 : V) (v9 : V) (v10 : V) (v11 : V) : Prop :=
  @OptVH (indexSlV 1 v6 v8 M) ⟨fun t101_6 =>
  @OptMH (storeVM 1 t101_6 v11 M) ⟨fun _tx_7 M7 =>
  @OptVH (indexSlV 1 v7 v8 M7) ⟨fun t102_8 =>
  @OptMH (storeVM 1 t102_8 (.bool true) M7) ⟨fun _tx_9 M9 =>
  Q .normal [(1, v1), (2, v2), (6, v6), (7, v7), (8, v8), (9, v9), (10, v10)] M9⟩⟩⟩⟩
theorem e30_27 (P : Program) (Q : Exit → Slots → Mem → Prop) (s : Slots) (M : Mem) : wpC P c30_27 Q s M = w30_27 P Q M (sget s 1) (sget s 2) (sget s 6) (sget s 7) (sget s 8) (sget s 9) (sget s 10) (sget s 11) := by kernel_rfl
def o30_28 : List AOper := [⟨some 83, (.mov (.tmp 7)), false, none⟩,
  ⟨some 84, (.mov (.tmp 8)), false, none⟩,
  ⟨some 85, (.indexSl 1 (.tmp 83) (.tmp 84)), false, none⟩,
  ⟨some 86, (.load 1 false (.tmp 85)), true, none⟩,
  ⟨some 87, (.un .not (.tmp 86)), true, none⟩,
  ⟨some 88, (.mov (.tmp 87)), true, none⟩,
  ⟨some 89, (.mov (.tmp 11)), false, some (88, false)⟩,
  ⟨some 90, (.mov (.tmp 6)), false, some (88, false)⟩,
  ⟨some 91, (.mov (.tmp 8)), false, some (88, false)⟩,
  ⟨some 92, (.indexSl 1 (.tmp 90) (.tmp 91)), false, some (88, false)⟩,
  ⟨some 93, (.load 1 false (.tmp 92)), false, some (88, false)⟩,
  ⟨some 94, (.call i_transitref35_better [(.tmp 89), (.tmp 93)]), true, some (88, false)⟩,
  ⟨some 95, (.pick (.tmp 88) (.const (.bool true)) (.tmp 94)), true, none⟩]
def c30_29 : ACode := (.seq (.region o30_28 [1, 2, 6, 7, 8, 9, 10, 11, 95]) (.cond (.tmp 95) c30_27 .skip))
def w30_29 (P : Program) (Q : Exit → Slots → Mem → Prop) (M : Mem) (v1 : V) (v2 : V) (v6 : V) (v7 : V) (v8 : V) (v9 : V) (v10 : V) (v11 : V) : Prop :=
  @OptVH (indexSlV 1 v7 v8 M) ⟨fun t85_3 =>
  @OptBH (loadV 1 false t85_3 M) ⟨fun b86_4 =>
  @OptBH (unV .not (.bool b86_4)) ⟨fun b87_5 =>
  @BIfH b87_5
  ⟨wpC P c30_27 Q [(1, v1), (2, v2), (6, v6), (7, v7), (8, v8), (9, v9), (10, v10), (11, v11), (95, (.bool true))] M⟩
  ⟨@OptVH (indexSlV 1 v6 v8 M) ⟨fun t92_11 =>
  @OptVH (loadV 1 false t92_11 M) ⟨fun t93_12 =>
  @CallH P i_transitref35_better [v11, t93_12] M ⟨fun t94_13 M13 => @OptBH (some t94_13) ⟨fun b94_13 =>
  @BIfH b94_13
  ⟨wpC P c30_27 Q [(1, v1), (2, v2), (6, v6), (7, v7), (8, v8), (9, v9), (10, v10), (11, v11), (95, (.bool b94_13))] M13⟩
  ⟨Q .normal [(1, v1), (2, v2), (6, v6), (7, v7), (8, v8), (9, v9), (10, v10), (11, v11), (95, (.bool b94_13))] M13⟩⟩⟩⟩⟩⟩⟩⟩⟩
theorem e30_29 (P : Program) (Q : Exit → Slots → Mem → Prop) (s : Slots) (M : Mem) : wpC P c30_29 Q s M = w30_29 P Q M (sget s 1) (sget s 2) (sget s 6) (sget s 7) (sget s 8) (sget s 9) (sget s 10) (sget s 11) := by kernel_rfl
def c30_30 : ACode := (.seq c30_25 c30_29)
def c30_31 : ACode := (.seq c30_23 c30_30)
def c30_32 : ACode := (.seq c30_21 c30_31)
def c30_33 : ACode := (.block 5 c30_32)
def o30_34 : List AOper := [⟨some 50, (.mov (.tmp 10)), false, none⟩,
  ⟨some 51, (.bin .add .none (.tmp 50) (.const (.int .i64 1))), false, none⟩,
  ⟨some 10, (.mov (.tmp 51)), false, none⟩]
def c30_35 : ACode := (.region o30_34 [1, 2, 6, 7, 8, 9, 10])
def w30_35 (_P : Program) (Q : Exit → Slots → Mem → Prop) (M : Mem) (v1 : V) (v2 : V) (v6 : V) (v7 : V) (v8 : V) (v9 : V) (v10 : V) : Prop :=
  @OptVH (binV .add .none v10 (.int .i64 1)) ⟨fun t51_2 =>
  Q .normal [(1, v1), (2, v2), (6, v6), (7, v7), (8, v8), (9, v9), (10, t51_2)] M⟩
theorem e30_35 (P : Program) (Q : Exit → Slots → Mem → Prop) (s : Slots) (M : Mem) : wpC P c30_35 Q s M = w30_35 P Q M (sget s 1) (sget s 2) (sget s 6) (sget s 7) (sget s 8) (sget s 9) (sget s 10) := by kernel_rfl
def c30_36 : ACode := (.seq c30_33 c30_35)
def c30_37 : ACode := (.seq c30_19 c30_36)
def c30_38 : ACode := (.loop [1, 2, 6, 7, 8, 9, 10] c30_37)
def c30_39 : ACode := (.block 4 c30_38)
def c30_40 : ACode := (.seq c30_17 c30_39)
def c30_41 : ACode := (.block 3 c30_40)
def o30_42 : List AOper := [⟨some 36, (.mov (.tmp 9)), false, none⟩,
  ⟨some 37, (.bin .add .none (.tmp 36) (.const (.int .i64 1))), false, none⟩,
  ⟨some 9, (.mov (.tmp 37)), false, none⟩]
def c30_43 : ACode := (.region o30_42 [1, 2, 6, 7, 8, 9])
def w30_43 (_P : Program) (Q : Exit → Slots → Mem → Prop) (M : Mem) (v1 : V) (v2 : V) (v6 : V) (v7 : V) (v8 : V) (v9 : V) : Prop :=
  @OptVH (binV .add .none v9 (.int .i64 1)) ⟨fun t37_2 =>
  Q .normal [(1, v1), (2, v2), (6, v6), (7, v7), (8, v8), (9, t37_2)] M⟩
theorem e30_43 (P : Program) (Q : Exit → Slots → Mem → Prop) (s : Slots) (M : Mem) : wpC P c30_43 Q s M = w30_43 P Q M (sget s 1) (sget s 2) (sget s 6) (sget s 7) (sget s 8) (sget s 9) := by kernel_rfl
def c30_44 : ACode := (.seq c30_41 c30_43)
def c30_45 : ACode := (.seq c30_15 c30_44)
def c30_46 : ACode := (.loop [1, 2, 6, 7, 8, 9] c30_45)
def c30_47 : ACode := (.block 2 c30_46)
def c30_48 : ACode := (.seq c30_13 c30_47)
def c30_49 : ACode := (.block 1 c30_48)
def o30_50 : List AOper := [⟨some 29, (.mov (.tmp 8)), false, none⟩,
  ⟨some 30, (.bin .sub .none (.tmp 29) (.const (.int .i64 1))), false, none⟩,
  ⟨some 8, (.mov (.tmp 30)), false, none⟩]
def c30_51 : ACode := (.region o30_50 [1, 2, 6, 7, 8])
def w30_51 (_P : Program) (Q : Exit → Slots → Mem → Prop) (M : Mem) (v1 : V) (v2 : V) (v6 : V) (v7 : V) (v8 : V) : Prop :=
  @OptVH (binV .sub .none v8 (.int .i64 1)) ⟨fun t30_2 =>
  Q .normal [(1, v1), (2, v2), (6, v6), (7, v7), (8, t30_2)] M⟩
theorem e30_51 (P : Program) (Q : Exit → Slots → Mem → Prop) (s : Slots) (M : Mem) : wpC P c30_51 Q s M = w30_51 P Q M (sget s 1) (sget s 2) (sget s 6) (sget s 7) (sget s 8) := by kernel_rfl
def c30_52 : ACode := (.seq c30_49 c30_51)
def c30_53 : ACode := (.seq c30_11 c30_52)
def c30_54 : ACode := (.loop [1, 2, 6, 7, 8] c30_53)
def c30_55 : ACode := (.block 0 c30_54)
def c30_56 : ACode := (.seq c30_9 c30_55)
def o30_57 : List AOper := [⟨some 103, (.mov (.tmp 6)), false, none⟩,
  ⟨some 104, (.indexSl 1 (.tmp 103) (.const (.int .i64 0))), false, none⟩,
  ⟨some 105, (.load 1 false (.tmp 104)), false, none⟩,
  ⟨some 106, (.mov (.tmp 7)), false, none⟩,
  ⟨some 107, (.indexSl 1 (.tmp 106) (.const (.int .i64 0))), false, none⟩,
  ⟨some 108, (.load 1 false (.tmp 107)), true, none⟩,
  ⟨some 4, (.mov (.tmp 105)), false, none⟩,
  ⟨some 5, (.mov (.tmp 108)), true, none⟩]
def c30_58 : ACode := (.mixed o30_57 [true, true, true, true, true, true, true, true] [4, 5])
def w30_58 (_P : Program) (Q : Exit → Slots → Mem → Prop) (M : Mem) (v6 : V) (v7 : V) : Prop :=
  @OptVH (indexSlV 1 v6 (.int .i64 0) M) ⟨fun t104_2 =>
  @OptVH (loadV 1 false t104_2 M) ⟨fun t105_3 =>
  @OptVH (indexSlV 1 v7 (.int .i64 0) M) ⟨fun t107_5 =>
  @OptBH (loadV 1 false t107_5 M) ⟨fun b108_6 =>
  Q .normal [(4, t105_3), (5, (.bool b108_6))] M⟩⟩⟩⟩
theorem e30_58 (P : Program) (Q : Exit → Slots → Mem → Prop) (s : Slots) (M : Mem) : wpC P c30_58 Q s M = w30_58 P Q M (sget s 6) (sget s 7) := by kernel_rfl
def c30_59 : ACode := (.seq c30_58 .ret)
def c30_60 : ACode := (.seq c30_56 c30_59)
def c30_61 : ACode := (.seq c30_7 c30_60)
def c30_62 : ACode := (.seq c30_5 c30_61)
def c30_63 : ACode := (.seq c30_3 c30_62)
def c30_64 : ACode := (.seq c30_1 c30_63)
def fn_transitref35_Best : AFn := ⟨109, [(.tmp 4), (.tmp 5)], c30_64⟩
theorem fn_transitref35_Best_ok : resFn PR h_transitref35_Best i_transitref35_Best = some fn_transitref35_Best := by kernel_rfl

def h_transitref35_Capped : Hints := ⟨[(0, [1, 2]), (1, [1, 2, 7]), (2, [4]), (3, [4])], [], []⟩
def o31_0 : List AOper := [⟨some 2, (.box 4 (.tmp 0)), false, none⟩,
  ⟨some 4, (.mov (.const (.int .i64 0))), false, none⟩]
def c31_1 : ACode := (.region o31_0 [1, 2])
def w31_1 (_P : Program) (Q : Exit → Slots → Mem → Prop) (M : Mem) (v0 : V) (v1 : V) : Prop :=
  @OptMH (boxV 4 v0 M) ⟨fun t2_1 M1 =>
  Q .normal [(1, v1), (2, t2_1)] M1⟩
theorem e31_1 (P : Program) (Q : Exit → Slots → Mem → Prop) (s : Slots) (M : Mem) : wpC P c31_1 Q s M = w31_1 P Q M (sget s 0) (sget s 1) := by kernel_rfl
def o31_2 : List AOper := [⟨some 8, (.fieldAddr 3 (.tmp 2)), false, none⟩,
  ⟨some 9, (.load 1 false (.tmp 8)), false, none⟩,
  ⟨some 10, (.mov (.tmp 1)), false, none⟩,
  ⟨some 11, (.minmax false (.tmp 9) (.tmp 10)), false, none⟩,
  ⟨some 4, (.mov (.tmp 11)), false, none⟩]
def c31_3 : ACode := (.region o31_2 [4])
def w31_3 (_P : Program) (Q : Exit → Slots → Mem → Prop) (M : Mem) (v1 : V) (v2 : V) : Prop :=
  @OptVH (moveV 3 v2) ⟨fun t8_1 =>
  @OptVH (loadV 1 false t8_1 M) ⟨fun t9_2 =>
  @OptVH (minmaxV false t9_2 v1) ⟨fun t11_4 =>
  Q .normal [(4, t11_4)] M⟩⟩⟩
theorem e31_3 (P : Program) (Q : Exit → Slots → Mem → Prop) (s : Slots) (M : Mem) : wpC P c31_3 Q s M = w31_3 P Q M (sget s 1) (sget s 2) := by kernel_rfl
def c31_4 : ACode := (.seq c31_3 .ret)
def o31_5 : List AOper := [⟨some 5, (.fieldAddr 3 (.tmp 2)), false, none⟩,
  ⟨some 6, (.load 1 false (.tmp 5)), false, none⟩,
  ⟨some 7, (.bin .neq .none (.tmp 6) (.const (.int .i64 0))), true, none⟩]
def c31_6 : ACode := (.seq (.region o31_5 [1, 2, 7]) (.cond (.tmp 7) c31_4 .skip))
def w31_6 (P : Program) (Q : Exit → Slots → Mem → Prop) (M : Mem) (v1 : V) (v2 : V) : Prop :=
  @OptVH (moveV 3 v2) ⟨fun t5_1 =>
  @OptVH (loadV 1 false t5_1 M) ⟨fun t6_2 =>
  @OptBH (binV .neq .none t6_2 (.int .i64 0)) ⟨fun b7_3 =>
  @BIfH b7_3
  ⟨wpC P c31_4 Q [(1, v1), (2, v2), (7, (.bool b7_3))] M⟩
  ⟨Q .normal [(1, v1), (2, v2), (7, (.bool b7_3))] M⟩⟩⟩⟩
theorem e31_6 (P : Program) (Q : Exit → Slots → Mem → Prop) (s : Slots) (M : Mem) : wpC P c31_6 Q s M = w31_6 P Q M (sget s 1) (sget s 2) := by kernel_rfl
def o31_7 : List AOper := [⟨some 12, (.mov (.tmp 1)), false, none⟩,
  ⟨some 4, (.mov (.tmp 12)), false, none⟩]
def c31_8 : ACode := (.region o31_7 [4])
def w31_8 (_P : Program) (Q : Exit → Slots → Mem → Prop) (M : Mem) (v1 : V) : Prop :=
  Q .normal [(4, v1)] M
theorem e31_8 (P : Program) (Q : Exit → Slots → Mem → Prop) (s : Slots) (M : Mem) : wpC P c31_8 Q s M = w31_8 P Q M (sget s 1) := by kernel_rfl
def c31_9 : ACode := (.seq c31_8 .ret)
def c31_10 : ACode := (.seq c31_6 c31_9)
def c31_11 : ACode := (.seq c31_1 c31_10)
def fn_transitref35_Capped : AFn := ⟨13, [(.tmp 4)], c31_11⟩
theorem fn_transitref35_Capped_ok : resFn PR h_transitref35_Capped i_transitref35_Capped = some fn_transitref35_Capped := by kernel_rfl

def h_transitref35_Sum : Hints := ⟨[(0, [0]), (1, [0, 3]), (2, [0, 3, 4]), (3, [0, 3, 4, 8]), (4, [0, 3, 4]), (5, [0, 3, 4]), (6, [2])], [(3, [0, 3, 4])], []⟩
def o32_0 : List AOper := [⟨some 2, (.mov (.const (.int .i64 0))), false, none⟩]
def c32_1 : ACode := (.region o32_0 [0])
def w32_1 (_P : Program) (Q : Exit → Slots → Mem → Prop) (M : Mem) (v0 : V) : Prop :=
  Q .normal [(0, v0)] M
theorem e32_1 (P : Program) (Q : Exit → Slots → Mem → Prop) (s : Slots) (M : Mem) : wpC P c32_1 Q s M = w32_1 P Q M (sget s 0) := by kernel_rfl
def o32_2 : List AOper := [⟨some 3, (.mov (.const (.int .i64 0))), false, none⟩]
def c32_3 : ACode := (.region o32_2 [0, 3])
def w32_3 (_P : Program) (Q : Exit → Slots → Mem → Prop) (M : Mem) (v0 : V) : Prop :=
  Q .normal [(0, v0), (3, (.int .i64 0))] M
theorem e32_3 (P : Program) (Q : Exit → Slots → Mem → Prop) (s : Slots) (M : Mem) : wpC P c32_3 Q s M = w32_3 P Q M (sget s 0) := by kernel_rfl
def o32_4 : List AOper := [⟨some 4, (.mov (.const (.int .i64 0))), false, none⟩]
def c32_5 : ACode := (.region o32_4 [0, 3, 4])
def w32_5 (_P : Program) (Q : Exit → Slots → Mem → Prop) (M : Mem) (v0 : V) (v3 : V) : Prop :=
  Q .normal [(0, v0), (3, v3), (4, (.int .i64 0))] M
theorem e32_5 (P : Program) (Q : Exit → Slots → Mem → Prop) (s : Slots) (M : Mem) : wpC P c32_5 Q s M = w32_5 P Q M (sget s 0) (sget s 3) := by kernel_rfl
def o32_6 : List AOper := [⟨some 5, (.mov (.tmp 4)), false, none⟩,
  ⟨some 6, (.mov (.tmp 0)), false, none⟩,
  ⟨some 7, (.lenSl (.tmp 6)), false, none⟩,
  ⟨some 8, (.bin .lss .none (.tmp 5) (.tmp 7)), true, none⟩]
def c32_7 : ACode := (.seq (.region o32_6 [0, 3, 4, 8]) (.cond (.tmp 8) .skip (.exit 0)))
def w32_7 (_P : Program) (Q : Exit → Slots → Mem → Prop) (M : Mem) (v0 : V) (v3 : V) (v4 : V) : Prop :=
  @OptVH (lenV v0 M) ⟨fun t7_3 =>
  @OptBH (binV .lss .none v4 t7_3) ⟨fun b8_4 =>
  @BIfH b8_4
  ⟨Q .normal [(0, v0), (3, v3), (4, v4), (8, (.bool b8_4))] M⟩
  ⟨Q (.exit 0) [(0, v0), (3, v3), (4, v4), (8, (.bool b8_4))] M⟩⟩⟩
theorem e32_7 (P : Program) (Q : Exit → Slots → Mem → Prop) (s : Slots) (M : Mem) : wpC P c32_7 Q s M = w32_7 P Q M (sget s 0) (sget s 3) (sget s 4) := by kernel_rfl
def o32_8 : List AOper := [⟨some 11, (.mov (.tmp 3)), false, none⟩,
  ⟨some 12, (.mov (.tmp 0)), false, none⟩,
  ⟨some 13, (.mov (.tmp 4)), false, none⟩,
  ⟨some 14, (.indexSl 4 (.tmp 12) (.tmp 13)), false, none⟩,
  ⟨some 15, (.fieldAddr 3 (.tmp 14)), false, none⟩,
  ⟨some 16, (.load 1 false (.tmp 15)), false, none⟩,
  ⟨some 17, (.bin .add .none (.tmp 11) (.tmp 16)), false, none⟩,
  ⟨some 3, (.mov (.tmp 17)), false, none⟩]
def c32_9 : ACode := (.region o32_8 [0, 3, 4])
def w32_9 (_P : Program) (Q : Exit → Slots → Mem → Prop) (M : Mem) (v0 : V) (v3 : V) (v4 : V) : Prop :=
  @OptVH (indexSlV 4 v0 v4 M) ⟨fun t14_4 =>
  @OptVH (moveV 3 t14_4) ⟨fun t15_5 =>
  @OptVH (loadV 1 false t15_5 M) ⟨fun t16_6 =>
  @OptVH (binV .add .none v3 t16_6) ⟨fun t17_7 =>
  Q .normal [(0, v0), (3, t17_7), (4, v4)] M⟩⟩⟩⟩
theorem e32_9 (P : Program) (Q : Exit → Slots → Mem → Prop) (s : Slots) (M : Mem) : wpC P c32_9 Q s M = w32_9 P Q M (sget s 0) (sget s 3) (sget s 4) := by kernel_rfl
def c32_10 : ACode := (.block 1 c32_9)
def o32_11 : List AOper := [⟨some 9, (.mov (.tmp 4)), false, none⟩,
  ⟨some 10, (.bin .add .none (.tmp 9) (.const (.int .i64 1))), false, none⟩,
  ⟨some 4, (.mov (.tmp 10)), false, none⟩]
def c32_12 : ACode := (.region o32_11 [0, 3, 4])
def w32_12 (_P : Program) (Q : Exit → Slots → Mem → Prop) (M : Mem) (v0 : V) (v3 : V) (v4 : V) : Prop :=
  @OptVH (binV .add .none v4 (.int .i64 1)) ⟨fun t10_2 =>
  Q .normal [(0, v0), (3, v3), (4, t10_2)] M⟩
theorem e32_12 (P : Program) (Q : Exit → Slots → Mem → Prop) (s : Slots) (M : Mem) : wpC P c32_12 Q s M = w32_12 P Q M (sget s 0) (sget s 3) (sget s 4) := by kernel_rfl
def c32_13 : ACode := (.seq c32_10 c32_12)
def c32_14 : ACode := (.seq c32_7 c32_13)
def c32_15 : ACode := (.loop [0, 3, 4] c32_14)
def c32_16 : ACode := (.block 0 c32_15)
def c32_17 : ACode := (.seq c32_5 c32_16)
def o32_18 : List AOper := [⟨some 18, (.mov (.tmp 3)), false, none⟩,
  ⟨some 2, (.mov (.tmp 18)), false, none⟩]
def c32_19 : ACode := (.region o32_18 [2])
def w32_19 (_P : Program) (Q : Exit → Slots → Mem → Prop) (M : Mem) (v3 : V) : Prop :=
  Q .normal [(2, v3)] M
theorem e32_19 (P : Program) (Q : Exit → Slots → Mem → Prop) (s : Slots) (M : Mem) : wpC P c32_19 Q s M = w32_19 P Q M (sget s 3) := by kernel_rfl
def c32_20 : ACode := (.seq c32_19 .ret)
def c32_21 : ACode := (.seq c32_17 c32_20)
def c32_22 : ACode := (.seq c32_3 c32_21)
def c32_23 : ACode := (.seq c32_1 c32_22)
def fn_transitref35_Sum : AFn := ⟨19, [(.tmp 2)], c32_23⟩
theorem fn_transitref35_Sum_ok : resFn PR h_transitref35_Sum i_transitref35_Sum = some fn_transitref35_Sum := by kernel_rfl

def h_transitref21_Check : Hints := ⟨[(0, [1]), (1, [1, 22]), (2, [2, 3]), (3, [4]), (4, [4, 27]), (5, [2, 3]), (6, [4, 5]), (7, [4, 5, 31]), (8, [4, 5]), (9, [4, 5, 40]), (10, [2, 3]), (11, [4, 5, 6]), (12, [4, 5, 6, 44]), (13, [4, 5, 6]), (14, [4, 5, 6, 57]), (15, [2, 3]), (16, [4, 5, 64]), (17, [2, 3]), (18, [2, 3])], [(7, [4, 5]), (12, [4, 5, 6])], []⟩
def o33_0 : List AOper := [⟨some 1, (.box 4 (.tmp 0)), false, none⟩,
  ⟨some 2, (.mov (.const (.int .i64 0))), false, none⟩,
  ⟨some 3, (.mov (.const (.int .i64 0))), false, none⟩]
def c33_1 : ACode := (.region o33_0 [1])
def w33_1 (_P : Program) (Q : Exit → Slots → Mem → Prop) (M : Mem) (v0 : V) : Prop :=
  @OptMH (boxV 4 v0 M) ⟨fun t1_1 M1 =>
  Q .normal [(1, t1_1)] M1⟩
theorem e33_1 (P : Program) (Q : Exit → Slots → Mem → Prop) (s : Slots) (M : Mem) : wpC P c33_1 Q s M = w33_1 P Q M (sget s 0) := by kernel_rfl
def o33_2 : List AOper := [⟨some 2, (.mov (.const (.int .i64 (-1)))), false, none⟩,
  ⟨some 3, (.mov (.const (.int .i64 2))), false, none⟩]
def c33_3 : ACode := (.region o33_2 [2, 3])
def w33_3 (_P : Program) (Q : Exit → Slots → Mem → Prop) (M : Mem) : Prop :=
  Q .normal [(2, (.int .i64 (-1))), (3, (.int .i64 2))] M
theorem e33_3 (P : Program) (Q : Exit → Slots → Mem → Prop) (s : Slots) (M : Mem) : wpC P c33_3 Q s M = w33_3 P Q M := by kernel_rfl
def c33_4 : ACode := (.seq c33_3 .ret)
def o33_5 : List AOper := [⟨some 7, (.fieldAddr 1 (.tmp 1)), false, none⟩,
  ⟨some 8, (.load 1 false (.tmp 7)), false, none⟩,
  ⟨some 9, (.call i_transitref21_within [(.tmp 8), (.const (.int .i64 0)), (.const (.int .i64 1000000))]), true, none⟩,
  ⟨some 10, (.un .not (.tmp 9)), true, none⟩,
  ⟨some 11, (.mov (.tmp 10)), true, none⟩,
  ⟨some 12, (.fieldAddr 2 (.tmp 1)), false, some (11, false)⟩,
  ⟨some 13, (.load 1 false (.tmp 12)), false, some (11, false)⟩,
  ⟨some 14, (.call i_transitref21_within [(.tmp 13), (.const (.int .i64 0)), (.const (.int .i64 86400))]), true, some (11, false)⟩,
  ⟨some 15, (.un .not (.tmp 14)), true, some (11, false)⟩,
  ⟨some 16, (.pick (.tmp 11) (.const (.bool true)) (.tmp 15)), true, none⟩,
  ⟨some 17, (.mov (.tmp 16)), true, none⟩,
  ⟨some 18, (.fieldAddr 3 (.tmp 1)), false, some (17, false)⟩,
  ⟨some 19, (.load 1 false (.tmp 18)), false, some (17, false)⟩,
  ⟨some 20, (.call i_transitref21_within [(.tmp 19), (.const (.int .i64 0)), (.const (.int .i64 1000000))]), true, some (17, false)⟩,
  ⟨some 21, (.un .not (.tmp 20)), true, some (17, false)⟩,
  ⟨some 22, (.pick (.tmp 17) (.const (.bool true)) (.tmp 21)), true, none⟩]
def c33_6 : ACode := (.seq (.region o33_5 [1, 22]) (.cond (.tmp 22) c33_4 .skip))
def w33_6 (P : Program) (Q : Exit → Slots → Mem → Prop) (M : Mem) (v1 : V) : Prop :=
  @OptVH (moveV 1 v1) ⟨fun t7_1 =>
  @OptVH (loadV 1 false t7_1 M) ⟨fun t8_2 =>
  @CallH P i_transitref21_within [t8_2, (.int .i64 0), (.int .i64 1000000)] M ⟨fun t9_3 M3 => @OptBH (some t9_3) ⟨fun b9_3 =>
  @OptBH (unV .not (.bool b9_3)) ⟨fun b10_4 =>
  @BIfH b10_4
  ⟨wpC P c33_4 Q [(1, v1), (22, (.bool true))] M3⟩
  ⟨@OptVH (moveV 2 v1) ⟨fun t12_9 =>
  @OptVH (loadV 1 false t12_9 M3) ⟨fun t13_10 =>
  @CallH P i_transitref21_within [t13_10, (.int .i64 0), (.int .i64 86400)] M3 ⟨fun t14_11 M11 => @OptBH (some t14_11) ⟨fun b14_11 =>
  @OptBH (unV .not (.bool b14_11)) ⟨fun b15_12 =>
  @BIfH b15_12
  ⟨wpC P c33_4 Q [(1, v1), (22, (.bool true))] M11⟩
  ⟨@OptVH (moveV 3 v1) ⟨fun t18_16 =>
  @OptVH (loadV 1 false t18_16 M11) ⟨fun t19_17 =>
  @CallH P i_transitref21_within [t19_17, (.int .i64 0), (.int .i64 1000000)] M11 ⟨fun t20_18 M18 => @OptBH (some t20_18) ⟨fun b20_18 =>
  @OptBH (unV .not (.bool b20_18)) ⟨fun b21_19 =>
  @BIfH b21_19
  ⟨wpC P c33_4 Q [(1, v1), (22, (.bool b21_19))] M18⟩
  ⟨Q .normal [(1, v1), (22, (.bool b21_19))] M18⟩⟩⟩⟩⟩⟩⟩⟩⟩⟩⟩⟩⟩⟩⟩⟩⟩⟩
theorem e33_6 (P : Program) (Q : Exit → Slots → Mem → Prop) (s : Slots) (M : Mem) : wpC P c33_6 Q s M = w33_6 P Q M (sget s 1) := by kernel_rfl
def o33_7 : List AOper := [⟨some 23, (.fieldAddr 0 (.tmp 1)), false, none⟩,
  ⟨some 24, (.load 1 false (.tmp 23)), false, none⟩,
  ⟨some 4, (.mov (.tmp 24)), false, none⟩]
def c33_8 : ACode := (.region o33_7 [4])
def w33_8 (_P : Program) (Q : Exit → Slots → Mem → Prop) (M : Mem) (v1 : V) : Prop :=
  @OptVH (moveV 0 v1) ⟨fun t23_1 =>
  @OptVH (loadV 1 false t23_1 M) ⟨fun t24_2 =>
  Q .normal [(4, t24_2)] M⟩⟩
theorem e33_8 (P : Program) (Q : Exit → Slots → Mem → Prop) (s : Slots) (M : Mem) : wpC P c33_8 Q s M = w33_8 P Q M (sget s 1) := by kernel_rfl
def o33_9 : List AOper := [⟨some 2, (.mov (.const (.int .i64 0))), false, none⟩,
  ⟨some 3, (.mov (.const (.int .i64 5))), false, none⟩]
def c33_10 : ACode := (.region o33_9 [2, 3])
def w33_10 (_P : Program) (Q : Exit → Slots → Mem → Prop) (M : Mem) : Prop :=
  Q .normal [(2, (.int .i64 0)), (3, (.int .i64 5))] M
theorem e33_10 (P : Program) (Q : Exit → Slots → Mem → Prop) (s : Slots) (M : Mem) : wpC P c33_10 Q s M = w33_10 P Q M := by kernel_rfl
def c33_11 : ACode := (.seq c33_10 .ret)
def o33_12 : List AOper := [⟨some 25, (.mov (.tmp 4)), false, none⟩,
  ⟨some 26, (.lenSl (.tmp 25)), false, none⟩,
  ⟨some 27, (.bin .gtr .none (.tmp 26) (.const (.int .i64 16))), true, none⟩]
def c33_13 : ACode := (.seq (.region o33_12 [4, 27]) (.cond (.tmp 27) c33_11 .skip))
def w33_13 (P : Program) (Q : Exit → Slots → Mem → Prop) (M : Mem) (v4 : V) : Prop :=
  @OptVH (lenV v4 M) ⟨fun t26_2 =>
  @OptBH (binV .gtr .none t26_2 (.int .i64 16)) ⟨fun b27_3 =>
  @BIfH b27_3
  ⟨wpC P c33_11 Q [(4, v4), (27, (.bool b27_3))] M⟩
  ⟨Q .normal [(4, v4), (27, (.bool b27_3))] M⟩⟩⟩
theorem e33_13 (P : Program) (Q : Exit → Slots → Mem → Prop) (s : Slots) (M : Mem) : wpC P c33_13 Q s M = w33_13 P Q M (sget s 4) := by kernel_rfl
def o33_14 : List AOper := [⟨some 5, (.mov (.const (.int .i64 0))), false, none⟩]
def c33_15 : ACode := (.region o33_14 [4, 5])
def w33_15 (_P : Program) (Q : Exit → Slots → Mem → Prop) (M : Mem) (v4 : V) : Prop :=
  Q .normal [(4, v4), (5, (.int .i64 0))] M
theorem e33_15 (P : Program) (Q : Exit → Slots → Mem → Prop) (s : Slots) (M : Mem) : wpC P c33_15 Q s M = w33_15 P Q M (sget s 4) := by kernel_rfl
def o33_16 : List AOper := [⟨some 28, (.mov (.tmp 5)), false, none⟩,
  ⟨some 29, (.mov (.tmp 4)), false, none⟩,
  ⟨some 30, (.lenSl (.tmp 29)), false, none⟩,
  ⟨some 31, (.bin .lss .none (.tmp 28) (.tmp 30)), true, none⟩]
def c33_17 : ACode := (.seq (.region o33_16 [4, 5, 31]) (.cond (.tmp 31) .skip (.exit 0)))
def w33_17 (_P : Program) (Q : Exit → Slots → Mem → Prop) (M : Mem) (v4 : V) (v5 : V) : Prop :=
  @OptVH (lenV v4 M) ⟨fun t30_3 =>
  @OptBH (binV .lss .none v5 t30_3) ⟨fun b31_4 =>
  @BIfH b31_4
  ⟨Q .normal [(4, v4), (5, v5), (31, (.bool b31_4))] M⟩
  ⟨Q (.exit 0) [(4, v4), (5, v5), (31, (.bool b31_4))] M⟩⟩⟩
theorem e33_17 (P : Program) (Q : Exit → Slots → Mem → Prop) (s : Slots) (M : Mem) : wpC P c33_17 Q s M = w33_17 P Q M (sget s 4) (sget s 5) := by kernel_rfl
def o33_18 : List AOper := [⟨some 41, (.mov (.tmp 5)), false, none⟩,
  ⟨some 2, (.mov (.tmp 41)), false, none⟩,
  ⟨some 3, (.mov (.const (.int .i64 12))), false, none⟩]
def c33_19 : ACode := (.region o33_18 [2, 3])
def w33_19 (_P : Program) (Q : Exit → Slots → Mem → Prop) (M : Mem) (v5 : V) : Prop :=
  Q .normal [(2, v5), (3, (.int .i64 12))] M
theorem e33_19 (P : Program) (Q : Exit → Slots → Mem → Prop) (s : Slots) (M : Mem) : wpC P c33_19 Q s M = w33_19 P Q M (sget s 5) := by kernel_rfl
def c33_20 : ACode := (.seq c33_19 .ret)
def o33_21 : List AOper := [⟨some 34, (.mov (.tmp 4)), false, none⟩,
  ⟨some 35, (.mov (.tmp 5)), false, none⟩,
  ⟨some 36, (.indexSl 6 (.tmp 34) (.tmp 35)), false, none⟩,
  ⟨some 37, (.fieldAddr 0 (.tmp 36)), false, none⟩,
  ⟨some 38, (.load 1 false (.tmp 37)), false, none⟩,
  ⟨some 39, (.call i_transitref15_Name [(.tmp 38)]), true, none⟩,
  ⟨some 40, (.un .not (.tmp 39)), true, none⟩]
def c33_22 : ACode := (.seq (.region o33_21 [4, 5, 40]) (.cond (.tmp 40) c33_20 .skip))
def w33_22 (P : Program) (Q : Exit → Slots → Mem → Prop) (M : Mem) (v4 : V) (v5 : V) : Prop :=
  @OptVH (indexSlV 6 v4 v5 M) ⟨fun t36_3 =>
  @OptVH (moveV 0 t36_3) ⟨fun t37_4 =>
  @OptVH (loadV 1 false t37_4 M) ⟨fun t38_5 =>
  @CallH P i_transitref15_Name [t38_5] M ⟨fun t39_6 M6 => @OptBH (some t39_6) ⟨fun b39_6 =>
  @OptBH (unV .not (.bool b39_6)) ⟨fun b40_7 =>
  @BIfH b40_7
  ⟨wpC P c33_20 Q [(4, v4), (5, v5), (40, (.bool b40_7))] M6⟩
  ⟨Q .normal [(4, v4), (5, v5), (40, (.bool b40_7))] M6⟩⟩⟩⟩⟩⟩⟩
theorem e33_22 (P : Program) (Q : Exit → Slots → Mem → Prop) (s : Slots) (M : Mem) : wpC P c33_22 Q s M = w33_22 P Q M (sget s 4) (sget s 5) := by kernel_rfl
def o33_23 : List AOper := [⟨some 6, (.mov (.const (.int .i64 0))), false, none⟩]
def c33_24 : ACode := (.region o33_23 [4, 5, 6])
def w33_24 (_P : Program) (Q : Exit → Slots → Mem → Prop) (M : Mem) (v4 : V) (v5 : V) : Prop :=
  Q .normal [(4, v4), (5, v5), (6, (.int .i64 0))] M
theorem e33_24 (P : Program) (Q : Exit → Slots → Mem → Prop) (s : Slots) (M : Mem) : wpC P c33_24 Q s M = w33_24 P Q M (sget s 4) (sget s 5) := by kernel_rfl
def o33_25 : List AOper := [⟨some 42, (.mov (.tmp 6)), false, none⟩,
  ⟨some 43, (.mov (.tmp 5)), false, none⟩,
  ⟨some 44, (.bin .lss .none (.tmp 42) (.tmp 43)), true, none⟩]
def c33_26 : ACode := (.seq (.region o33_25 [4, 5, 6, 44]) (.cond (.tmp 44) .skip (.exit 2)))
def w33_26 (_P : Program) (Q : Exit → Slots → Mem → Prop) (M : Mem) (v4 : V) (v5 : V) (v6 : V) : Prop :=
  @OptBH (binV .lss .none v6 v5) ⟨fun b44_3 =>
  @BIfH b44_3
  ⟨Q .normal [(4, v4), (5, v5), (6, v6), (44, (.bool b44_3))] M⟩
  ⟨Q (.exit 2) [(4, v4), (5, v5), (6, v6), (44, (.bool b44_3))] M⟩⟩
theorem e33_26 (P : Program) (Q : Exit → Slots → Mem → Prop) (s : Slots) (M : Mem) : wpC P c33_26 Q s M = w33_26 P Q M (sget s 4) (sget s 5) (sget s 6) := by kernel_rfl
def o33_27 : List AOper := [⟨some 58, (.mov (.tmp 5)), false, none⟩,
  ⟨some 2, (.mov (.tmp 58)), false, none⟩,
  ⟨some 3, (.mov (.const (.int .i64 6))), false, none⟩]
def c33_28 : ACode := (.region o33_27 [2, 3])
def w33_28 (_P : Program) (Q : Exit → Slots → Mem → Prop) (M : Mem) (v5 : V) : Prop :=
  Q .normal [(2, v5), (3, (.int .i64 6))] M
theorem e33_28 (P : Program) (Q : Exit → Slots → Mem → Prop) (s : Slots) (M : Mem) : wpC P c33_28 Q s M = w33_28 P Q M (sget s 5) := by kernel_rfl
def c33_29 : ACode := (.seq c33_28 .ret)
def o33_30 : List AOper := [⟨some 47, (.mov (.tmp 4)), false, none⟩,
  ⟨some 48, (.mov (.tmp 6)), false, none⟩,
  ⟨some 49, (.indexSl 6 (.tmp 47) (.tmp 48)), false, none⟩,
  ⟨some 50, (.fieldAddr 0 (.tmp 49)), false, none⟩,
  ⟨some 51, (.load 1 false (.tmp 50)), false, none⟩,
  ⟨some 52, (.mov (.tmp 4)), false, none⟩,
  ⟨some 53, (.mov (.tmp 5)), false, none⟩,
  ⟨some 54, (.indexSl 6 (.tmp 52) (.tmp 53)), false, none⟩,
  ⟨some 55, (.fieldAddr 0 (.tmp 54)), false, none⟩,
  ⟨some 56, (.load 1 false (.tmp 55)), false, none⟩,
  ⟨some 57, (.bin .eql .none (.tmp 51) (.tmp 56)), true, none⟩]
def c33_31 : ACode := (.seq (.mixed o33_30 [true, true, true, true, true, true, true, true, true, true, true] [4, 5, 6, 57]) (.cond (.tmp 57) c33_29 .skip))
def w33_31 (P : Program) (Q : Exit → Slots → Mem → Prop) (M : Mem) (v4 : V) (v5 : V) (v6 : V) : Prop :=
  @OptVH (indexSlV 6 v4 v6 M) ⟨fun t49_3 =>
  @OptVH (moveV 0 t49_3) ⟨fun t50_4 =>
  @OptVH (loadV 1 false t50_4 M) ⟨fun t51_5 =>
  @OptVH (indexSlV 6 v4 v5 M) ⟨fun t54_8 =>
  @OptVH (moveV 0 t54_8) ⟨fun t55_9 =>
  @OptVH (loadV 1 false t55_9 M) ⟨fun t56_10 =>
  @OptBH (binV .eql .none t51_5 t56_10) ⟨fun b57_11 =>
  @BIfH b57_11
  ⟨wpC P c33_29 Q [(4, v4), (5, v5), (6, v6), (57, (.bool b57_11))] M⟩
  ⟨Q .normal [(4, v4), (5, v5), (6, v6), (57, (.bool b57_11))] M⟩⟩⟩⟩⟩⟩⟩⟩
theorem e33_31 (P : Program) (Q : Exit → Slots → Mem → Prop) (s : Slots) (M : Mem) : wpC P c33_31 Q s M = w33_31 P Q M (sget s 4) (sget s 5) (sget s 6) := by kernel_rfl
def c33_32 : ACode := (.block 3 c33_31)
def o33_33 : List AOper := [⟨some 45, (.mov (.tmp 6)), false, none⟩,
  ⟨some 46, (.bin .add .none (.tmp 45) (.const (.int .i64 1))), false, none⟩,
  ⟨some 6, (.mov (.tmp 46)), false, none⟩]
def c33_34 : ACode := (.region o33_33 [4, 5, 6])
def w33_34 (_P : Program) (Q : Exit → Slots → Mem → Prop) (M : Mem) (v4 : V) (v5 : V) (v6 : V) : Prop :=
  @OptVH (binV .add .none v6 (.int .i64 1)) ⟨fun t46_2 =>
  Q .normal [(4, v4), (5, v5), (6, t46_2)] M⟩
theorem e33_34 (P : Program) (Q : Exit → Slots → Mem → Prop) (s : Slots) (M : Mem) : wpC P c33_34 Q s M = w33_34 P Q M (sget s 4) (sget s 5) (sget s 6) := by kernel_rfl
def c33_35 : ACode := (.seq c33_32 c33_34)
def c33_36 : ACode := (.seq c33_26 c33_35)
def c33_37 : ACode := (.loop [4, 5, 6] c33_36)
def c33_38 : ACode := (.block 2 c33_37)
def c33_39 : ACode := (.seq c33_24 c33_38)
def o33_40 : List AOper := [⟨some 65, (.mov (.tmp 5)), false, none⟩,
  ⟨some 2, (.mov (.tmp 65)), false, none⟩,
  ⟨some 3, (.mov (.const (.int .i64 2))), false, none⟩]
def c33_41 : ACode := (.region o33_40 [2, 3])
def w33_41 (_P : Program) (Q : Exit → Slots → Mem → Prop) (M : Mem) (v5 : V) : Prop :=
  Q .normal [(2, v5), (3, (.int .i64 2))] M
theorem e33_41 (P : Program) (Q : Exit → Slots → Mem → Prop) (s : Slots) (M : Mem) : wpC P c33_41 Q s M = w33_41 P Q M (sget s 5) := by kernel_rfl
def c33_42 : ACode := (.seq c33_41 .ret)
def o33_43 : List AOper := [⟨some 59, (.mov (.tmp 4)), false, none⟩,
  ⟨some 60, (.mov (.tmp 5)), false, none⟩,
  ⟨some 61, (.indexSl 6 (.tmp 59) (.tmp 60)), false, none⟩,
  ⟨some 62, (.load 6 true (.tmp 61)), false, none⟩,
  ⟨some 63, (.call i_transitref21_Right [(.tmp 62)]), true, none⟩,
  ⟨some 64, (.un .not (.tmp 63)), true, none⟩]
def c33_44 : ACode := (.seq (.region o33_43 [4, 5, 64]) (.cond (.tmp 64) c33_42 .skip))
def w33_44 (P : Program) (Q : Exit → Slots → Mem → Prop) (M : Mem) (v4 : V) (v5 : V) : Prop :=
  @OptVH (indexSlV 6 v4 v5 M) ⟨fun t61_3 =>
  @OptVH (loadV 6 true t61_3 M) ⟨fun t62_4 =>
  @CallH P i_transitref21_Right [t62_4] M ⟨fun t63_5 M5 => @OptBH (some t63_5) ⟨fun b63_5 =>
  @OptBH (unV .not (.bool b63_5)) ⟨fun b64_6 =>
  @BIfH b64_6
  ⟨wpC P c33_42 Q [(4, v4), (5, v5), (64, (.bool b64_6))] M5⟩
  ⟨Q .normal [(4, v4), (5, v5), (64, (.bool b64_6))] M5⟩⟩⟩⟩⟩⟩
theorem e33_44 (P : Program) (Q : Exit → Slots → Mem → Prop) (s : Slots) (M : Mem) : wpC P c33_44 Q s M = w33_44 P Q M (sget s 4) (sget s 5) := by kernel_rfl
def c33_45 : ACode := (.seq c33_39 c33_44)
def c33_46 : ACode := (.seq c33_22 c33_45)
def c33_47 : ACode := (.block 1 c33_46)
def o33_48 : List AOper := [⟨some 32, (.mov (.tmp 5)), false, none⟩,
  ⟨some 33, (.bin .add .none (.tmp 32) (.const (.int .i64 1))), false, none⟩,
  ⟨some 5, (.mov (.tmp 33)), false, none⟩]
def c33_49 : ACode := (.region o33_48 [4, 5])
def w33_49 (_P : Program) (Q : Exit → Slots → Mem → Prop) (M : Mem) (v4 : V) (v5 : V) : Prop :=
  @OptVH (binV .add .none v5 (.int .i64 1)) ⟨fun t33_2 =>
  Q .normal [(4, v4), (5, t33_2)] M⟩
theorem e33_49 (P : Program) (Q : Exit → Slots → Mem → Prop) (s : Slots) (M : Mem) : wpC P c33_49 Q s M = w33_49 P Q M (sget s 4) (sget s 5) := by kernel_rfl
def c33_50 : ACode := (.seq c33_47 c33_49)
def c33_51 : ACode := (.seq c33_17 c33_50)
def c33_52 : ACode := (.loop [4, 5] c33_51)
def c33_53 : ACode := (.block 0 c33_52)
def c33_54 : ACode := (.seq c33_15 c33_53)
def o33_55 : List AOper := [⟨some 2, (.mov (.const (.int .i64 0))), false, none⟩,
  ⟨some 3, (.mov (.const (.int .i64 0))), false, none⟩]
def c33_56 : ACode := (.region o33_55 [2, 3])
def w33_56 (_P : Program) (Q : Exit → Slots → Mem → Prop) (M : Mem) : Prop :=
  Q .normal [(2, (.int .i64 0)), (3, (.int .i64 0))] M
theorem e33_56 (P : Program) (Q : Exit → Slots → Mem → Prop) (s : Slots) (M : Mem) : wpC P c33_56 Q s M = w33_56 P Q M := by kernel_rfl
def c33_57 : ACode := (.seq c33_56 .ret)
def c33_58 : ACode := (.seq c33_54 c33_57)
def c33_59 : ACode := (.seq c33_13 c33_58)
def c33_60 : ACode := (.seq c33_8 c33_59)
def c33_61 : ACode := (.seq c33_6 c33_60)
def c33_62 : ACode := (.seq c33_1 c33_61)
def fn_transitref21_Check : AFn := ⟨66, [(.tmp 2), (.tmp 3)], c33_62⟩
theorem fn_transitref21_Check_ok : resFn PR h_transitref21_Check i_transitref21_Check = some fn_transitref21_Check := by kernel_rfl

def h_transitref37_find : Hints := ⟨[(0, [1, 2]), (1, [1, 2, 6]), (2, [1, 2, 6, 11]), (3, [1, 2, 6]), (4, [1, 2, 6, 20]), (5, [4, 5]), (6, [4, 5])], [(2, [1, 2, 6])], []⟩
def o34_0 : List AOper := [⟨some 2, (.box 6 (.tmp 0)), false, none⟩,
  ⟨some 4, (.mov (.const (.int .i64 0))), false, none⟩,
  ⟨some 5, (.mov (.const (.bool false))), true, none⟩]
def c34_1 : ACode := (.region o34_0 [1, 2])
def w34_1 (_P : Program) (Q : Exit → Slots → Mem → Prop) (M : Mem) (v0 : V) (v1 : V) : Prop :=
  @OptMH (boxV 6 v0 M) ⟨fun t2_1 M1 =>
  Q .normal [(1, v1), (2, t2_1)] M1⟩
theorem e34_1 (P : Program) (Q : Exit → Slots → Mem → Prop) (s : Slots) (M : Mem) : wpC P c34_1 Q s M = w34_1 P Q M (sget s 0) (sget s 1) := by kernel_rfl
def o34_2 : List AOper := [⟨some 6, (.mov (.const (.int .i64 0))), false, none⟩]
def c34_3 : ACode := (.region o34_2 [1, 2, 6])
def w34_3 (_P : Program) (Q : Exit → Slots → Mem → Prop) (M : Mem) (v1 : V) (v2 : V) : Prop :=
  Q .normal [(1, v1), (2, v2), (6, (.int .i64 0))] M
theorem e34_3 (P : Program) (Q : Exit → Slots → Mem → Prop) (s : Slots) (M : Mem) : wpC P c34_3 Q s M = w34_3 P Q M (sget s 1) (sget s 2) := by kernel_rfl
def o34_4 : List AOper := [⟨some 7, (.mov (.tmp 6)), false, none⟩,
  ⟨some 8, (.fieldAddr 4 (.tmp 2)), false, none⟩,
  ⟨some 9, (.load 1 false (.tmp 8)), false, none⟩,
  ⟨some 10, (.lenSl (.tmp 9)), false, none⟩,
  ⟨some 11, (.bin .lss .none (.tmp 7) (.tmp 10)), true, none⟩]
def c34_5 : ACode := (.seq (.region o34_4 [1, 2, 6, 11]) (.cond (.tmp 11) .skip (.exit 0)))
def w34_5 (_P : Program) (Q : Exit → Slots → Mem → Prop) (M : Mem) (v1 : V) (v2 : V) (v6 : V) : Prop :=
  @OptVH (moveV 4 v2) ⟨fun t8_2 =>
  @OptVH (loadV 1 false t8_2 M) ⟨fun t9_3 =>
  @OptVH (lenV t9_3 M) ⟨fun t10_4 =>
  @OptBH (binV .lss .none v6 t10_4) ⟨fun b11_5 =>
  @BIfH b11_5
  ⟨Q .normal [(1, v1), (2, v2), (6, v6), (11, (.bool b11_5))] M⟩
  ⟨Q (.exit 0) [(1, v1), (2, v2), (6, v6), (11, (.bool b11_5))] M⟩⟩⟩⟩⟩
theorem e34_5 (P : Program) (Q : Exit → Slots → Mem → Prop) (s : Slots) (M : Mem) : wpC P c34_5 Q s M = w34_5 P Q M (sget s 1) (sget s 2) (sget s 6) := by kernel_rfl
def o34_6 : List AOper := [⟨some 21, (.mov (.tmp 6)), false, none⟩,
  ⟨some 22, (.fieldAddr 4 (.tmp 2)), false, none⟩,
  ⟨some 23, (.load 1 false (.tmp 22)), false, none⟩,
  ⟨some 24, (.mov (.tmp 6)), false, none⟩,
  ⟨some 25, (.indexSl 1 (.tmp 23) (.tmp 24)), false, none⟩,
  ⟨some 26, (.load 1 false (.tmp 25)), false, none⟩,
  ⟨some 27, (.mov (.tmp 1)), false, none⟩,
  ⟨some 28, (.bin .eql .none (.tmp 26) (.tmp 27)), true, none⟩,
  ⟨some 4, (.mov (.tmp 21)), false, none⟩,
  ⟨some 5, (.mov (.tmp 28)), true, none⟩]
def c34_7 : ACode := (.mixed o34_6 [true, true, true, true, true, true, true, true, true, true] [4, 5])
def w34_7 (_P : Program) (Q : Exit → Slots → Mem → Prop) (M : Mem) (v1 : V) (v2 : V) (v6 : V) : Prop :=
  @OptVH (moveV 4 v2) ⟨fun t22_2 =>
  @OptVH (loadV 1 false t22_2 M) ⟨fun t23_3 =>
  @OptVH (indexSlV 1 t23_3 v6 M) ⟨fun t25_5 =>
  @OptVH (loadV 1 false t25_5 M) ⟨fun t26_6 =>
  @OptBH (binV .eql .none t26_6 v1) ⟨fun b28_8 =>
  Q .normal [(4, v6), (5, (.bool b28_8))] M⟩⟩⟩⟩⟩
theorem e34_7 (P : Program) (Q : Exit → Slots → Mem → Prop) (s : Slots) (M : Mem) : wpC P c34_7 Q s M = w34_7 P Q M (sget s 1) (sget s 2) (sget s 6) := by kernel_rfl
def c34_8 : ACode := (.seq c34_7 .ret)
def o34_9 : List AOper := [⟨some 14, (.fieldAddr 4 (.tmp 2)), false, none⟩,
  ⟨some 15, (.load 1 false (.tmp 14)), false, none⟩,
  ⟨some 16, (.mov (.tmp 6)), false, none⟩,
  ⟨some 17, (.indexSl 1 (.tmp 15) (.tmp 16)), false, none⟩,
  ⟨some 18, (.load 1 false (.tmp 17)), false, none⟩,
  ⟨some 19, (.mov (.tmp 1)), false, none⟩,
  ⟨some 20, (.bin .geq .none (.tmp 18) (.tmp 19)), true, none⟩]
def c34_10 : ACode := (.seq (.region o34_9 [1, 2, 6, 20]) (.cond (.tmp 20) c34_8 .skip))
def w34_10 (P : Program) (Q : Exit → Slots → Mem → Prop) (M : Mem) (v1 : V) (v2 : V) (v6 : V) : Prop :=
  @OptVH (moveV 4 v2) ⟨fun t14_1 =>
  @OptVH (loadV 1 false t14_1 M) ⟨fun t15_2 =>
  @OptVH (indexSlV 1 t15_2 v6 M) ⟨fun t17_4 =>
  @OptVH (loadV 1 false t17_4 M) ⟨fun t18_5 =>
  @OptBH (binV .geq .none t18_5 v1) ⟨fun b20_7 =>
  @BIfH b20_7
  ⟨wpC P c34_8 Q [(1, v1), (2, v2), (6, v6), (20, (.bool b20_7))] M⟩
  ⟨Q .normal [(1, v1), (2, v2), (6, v6), (20, (.bool b20_7))] M⟩⟩⟩⟩⟩⟩
theorem e34_10 (P : Program) (Q : Exit → Slots → Mem → Prop) (s : Slots) (M : Mem) : wpC P c34_10 Q s M = w34_10 P Q M (sget s 1) (sget s 2) (sget s 6) := by kernel_rfl
def c34_11 : ACode := (.block 1 c34_10)
def o34_12 : List AOper := [⟨some 12, (.mov (.tmp 6)), false, none⟩,
  ⟨some 13, (.bin .add .none (.tmp 12) (.const (.int .i64 1))), false, none⟩,
  ⟨some 6, (.mov (.tmp 13)), false, none⟩]
def c34_13 : ACode := (.region o34_12 [1, 2, 6])
def w34_13 (_P : Program) (Q : Exit → Slots → Mem → Prop) (M : Mem) (v1 : V) (v2 : V) (v6 : V) : Prop :=
  @OptVH (binV .add .none v6 (.int .i64 1)) ⟨fun t13_2 =>
  Q .normal [(1, v1), (2, v2), (6, t13_2)] M⟩
theorem e34_13 (P : Program) (Q : Exit → Slots → Mem → Prop) (s : Slots) (M : Mem) : wpC P c34_13 Q s M = w34_13 P Q M (sget s 1) (sget s 2) (sget s 6) := by kernel_rfl
def c34_14 : ACode := (.seq c34_11 c34_13)
def c34_15 : ACode := (.seq c34_5 c34_14)
def c34_16 : ACode := (.loop [1, 2, 6] c34_15)
def c34_17 : ACode := (.block 0 c34_16)
def c34_18 : ACode := (.seq c34_3 c34_17)
def o34_19 : List AOper := [⟨some 29, (.fieldAddr 4 (.tmp 2)), false, none⟩,
  ⟨some 30, (.load 1 false (.tmp 29)), false, none⟩,
  ⟨some 31, (.lenSl (.tmp 30)), false, none⟩,
  ⟨some 4, (.mov (.tmp 31)), false, none⟩,
  ⟨some 5, (.mov (.const (.bool false))), true, none⟩]
def c34_20 : ACode := (.region o34_19 [4, 5])
def w34_20 (_P : Program) (Q : Exit → Slots → Mem → Prop) (M : Mem) (v2 : V) : Prop :=
  @OptVH (moveV 4 v2) ⟨fun t29_1 =>
  @OptVH (loadV 1 false t29_1 M) ⟨fun t30_2 =>
  @OptVH (lenV t30_2 M) ⟨fun t31_3 =>
  Q .normal [(4, t31_3), (5, (.bool false))] M⟩⟩⟩
theorem e34_20 (P : Program) (Q : Exit → Slots → Mem → Prop) (s : Slots) (M : Mem) : wpC P c34_20 Q s M = w34_20 P Q M (sget s 2) := by kernel_rfl
def c34_21 : ACode := (.seq c34_20 .ret)
def c34_22 : ACode := (.seq c34_18 c34_21)
def c34_23 : ACode := (.seq c34_1 c34_22)
def fn_transitref37_find : AFn := ⟨32, [(.tmp 4), (.tmp 5)], c34_23⟩
theorem fn_transitref37_find_ok : resFn PR h_transitref37_find i_transitref37_find = some fn_transitref37_find := by kernel_rfl

def h_transitref37_put : Hints := ⟨[(0, [0, 1, 2]), (1, [0, 1, 2, 7]), (2, [0, 1, 7]), (3, [6])], [], []⟩
def o35_0 : List AOper := [⟨some 6, (.mov (.const (.slice [] .nil))), false, none⟩]
def c35_1 : ACode := (.region o35_0 [0, 1, 2])
def w35_1 (_P : Program) (Q : Exit → Slots → Mem → Prop) (M : Mem) (v0 : V) (v1 : V) (v2 : V) : Prop :=
  Q .normal [(0, v0), (1, v1), (2, v2)] M
theorem e35_1 (P : Program) (Q : Exit → Slots → Mem → Prop) (s : Slots) (M : Mem) : wpC P c35_1 Q s M = w35_1 P Q M (sget s 0) (sget s 1) (sget s 2) := by kernel_rfl
def o35_2 : List AOper := [⟨some 8, (.buildSlice [] 1 0 []), false, none⟩,
  ⟨some 9, (.mov (.tmp 0)), false, none⟩,
  ⟨some 10, (.mov (.tmp 1)), false, none⟩,
  ⟨some 11, (.slice 1 (.tmp 9) none (some (.tmp 10)) none), false, none⟩,
  ⟨some 12, (.append false 1 8 (.tmp 8) (.tmp 11)), false, none⟩,
  ⟨some 7, (.mov (.tmp 12)), false, none⟩]
def c35_3 : ACode := (.region o35_2 [0, 1, 2, 7])
def w35_3 (_P : Program) (Q : Exit → Slots → Mem → Prop) (M : Mem) (v0 : V) (v1 : V) (v2 : V) : Prop :=
  @OptVH (buildSliceV [] 1 0 []) ⟨fun t8_1 =>
  @OptVH (sliceV 1 v0 none (some v1) none M) ⟨fun t11_4 =>
  @OptMH (appV false 1 8 t8_1 t11_4 M) ⟨fun t12_5 M5 =>
  Q .normal [(0, v0), (1, v1), (2, v2), (7, t12_5)] M5⟩⟩⟩
theorem e35_3 (P : Program) (Q : Exit → Slots → Mem → Prop) (s : Slots) (M : Mem) : wpC P c35_3 Q s M = w35_3 P Q M (sget s 0) (sget s 1) (sget s 2) := by kernel_rfl
def o35_4 : List AOper := [⟨some 13, (.mov (.tmp 7)), false, none⟩,
  ⟨some 14, (.mov (.tmp 2)), false, none⟩,
  ⟨some 15, (.buildSlice [(.int .i64 0)] 1 1 [(0, (1, (.tmp 14)))]), false, none⟩,
  ⟨some 16, (.append false 1 8 (.tmp 13) (.tmp 15)), false, none⟩,
  ⟨some 7, (.mov (.tmp 16)), false, none⟩]
def c35_5 : ACode := (.region o35_4 [0, 1, 7])
def w35_5 (_P : Program) (Q : Exit → Slots → Mem → Prop) (M : Mem) (v0 : V) (v1 : V) (v2 : V) (v7 : V) : Prop :=
  @OptVH (buildSliceV [(.int .i64 0)] 1 1 [(0, 1, v2)]) ⟨fun t15_3 =>
  @OptMH (appV false 1 8 v7 t15_3 M) ⟨fun t16_4 M4 =>
  Q .normal [(0, v0), (1, v1), (7, t16_4)] M4⟩⟩
theorem e35_5 (P : Program) (Q : Exit → Slots → Mem → Prop) (s : Slots) (M : Mem) : wpC P c35_5 Q s M = w35_5 P Q M (sget s 0) (sget s 1) (sget s 2) (sget s 7) := by kernel_rfl
def o35_6 : List AOper := [⟨some 17, (.mov (.tmp 7)), false, none⟩,
  ⟨some 18, (.mov (.tmp 0)), false, none⟩,
  ⟨some 19, (.mov (.tmp 1)), false, none⟩,
  ⟨some 20, (.slice 1 (.tmp 18) (some (.tmp 19)) none none), false, none⟩,
  ⟨some 21, (.append false 1 8 (.tmp 17) (.tmp 20)), false, none⟩,
  ⟨some 6, (.mov (.tmp 21)), false, none⟩]
def c35_7 : ACode := (.region o35_6 [6])
def w35_7 (_P : Program) (Q : Exit → Slots → Mem → Prop) (M : Mem) (v0 : V) (v1 : V) (v7 : V) : Prop :=
  @OptVH (sliceV 1 v0 (some v1) none none M) ⟨fun t20_4 =>
  @OptMH (appV false 1 8 v7 t20_4 M) ⟨fun t21_5 M5 =>
  Q .normal [(6, t21_5)] M5⟩⟩
theorem e35_7 (P : Program) (Q : Exit → Slots → Mem → Prop) (s : Slots) (M : Mem) : wpC P c35_7 Q s M = w35_7 P Q M (sget s 0) (sget s 1) (sget s 7) := by kernel_rfl
def c35_8 : ACode := (.seq c35_7 .ret)
def c35_9 : ACode := (.seq c35_5 c35_8)
def c35_10 : ACode := (.seq c35_3 c35_9)
def c35_11 : ACode := (.seq c35_1 c35_10)
def fn_transitref37_put : AFn := ⟨22, [(.tmp 6)], c35_11⟩
theorem fn_transitref37_put_ok : resFn PR h_transitref37_put i_transitref37_put = some fn_transitref37_put := by kernel_rfl

def h_fare_valid : Hints := ⟨[(0, [1, 2]), (1, [1, 6]), (2, [1, 13]), (3, [4]), (4, [16]), (5, [4]), (6, [4])], [], []⟩
def o38_0 : List AOper := [⟨some 2, (.box 4 (.tmp 0)), false, none⟩,
  ⟨some 4, (.mov (.const (.int .i64 0))), false, none⟩]
def c38_1 : ACode := (.region o38_0 [1, 2])
def w38_1 (_P : Program) (Q : Exit → Slots → Mem → Prop) (M : Mem) (v0 : V) (v1 : V) : Prop :=
  @OptMH (boxV 4 v0 M) ⟨fun t2_1 M1 =>
  Q .normal [(1, v1), (2, t2_1)] M1⟩
theorem e38_1 (P : Program) (Q : Exit → Slots → Mem → Prop) (s : Slots) (M : Mem) : wpC P c38_1 Q s M = w38_1 P Q M (sget s 0) (sget s 1) := by kernel_rfl
def o38_2 : List AOper := [⟨some 8, (.load 4 true (.tmp 2)), false, none⟩,
  ⟨some 9, (.call i_product_Check [(.tmp 8)]), false, none⟩,
  ⟨some 7, (.mov (.tmp 9)), false, none⟩,
  ⟨some 10, (.extract (.tmp 7) 0), false, none⟩,
  ⟨some 11, (.extract (.tmp 7) 1), false, none⟩,
  ⟨some 5, (.mov (.tmp 10)), false, none⟩,
  ⟨some 6, (.mov (.tmp 11)), false, none⟩]
def c38_3 : ACode := (.region o38_2 [1, 6])
def w38_3 (P : Program) (Q : Exit → Slots → Mem → Prop) (M : Mem) (v1 : V) (v2 : V) : Prop :=
  @OptVH (loadV 4 true v2 M) ⟨fun t8_1 =>
  @CallH P i_product_Check [t8_1] M ⟨fun t9_2 M2 =>
  @OptVH (extractV t9_2 0) ⟨fun _t10_4 =>
  @OptVH (extractV t9_2 1) ⟨fun t11_5 =>
  Q .normal [(1, v1), (6, t11_5)] M2⟩⟩⟩⟩
theorem e38_3 (P : Program) (Q : Exit → Slots → Mem → Prop) (s : Slots) (M : Mem) : wpC P c38_3 Q s M = w38_3 P Q M (sget s 1) (sget s 2) := by kernel_rfl
def o38_4 : List AOper := [⟨some 4, (.mov (.const (.int .i64 20))), false, none⟩]
def c38_5 : ACode := (.region o38_4 [4])
def w38_5 (_P : Program) (Q : Exit → Slots → Mem → Prop) (M : Mem) : Prop :=
  Q .normal [(4, (.int .i64 20))] M
theorem e38_5 (P : Program) (Q : Exit → Slots → Mem → Prop) (s : Slots) (M : Mem) : wpC P c38_5 Q s M = w38_5 P Q M := by kernel_rfl
def c38_6 : ACode := (.seq c38_5 .ret)
def o38_7 : List AOper := [⟨some 12, (.mov (.tmp 6)), false, none⟩,
  ⟨some 13, (.bin .neq .none (.tmp 12) (.const (.int .i64 0))), true, none⟩]
def c38_8 : ACode := (.seq (.region o38_7 [1, 13]) (.cond (.tmp 13) c38_6 .skip))
def w38_8 (P : Program) (Q : Exit → Slots → Mem → Prop) (M : Mem) (v1 : V) (v6 : V) : Prop :=
  @OptBH (binV .neq .none v6 (.int .i64 0)) ⟨fun b13_2 =>
  @BIfH b13_2
  ⟨wpC P c38_6 Q [(1, v1), (13, (.bool b13_2))] M⟩
  ⟨Q .normal [(1, v1), (13, (.bool b13_2))] M⟩⟩
theorem e38_8 (P : Program) (Q : Exit → Slots → Mem → Prop) (s : Slots) (M : Mem) : wpC P c38_8 Q s M = w38_8 P Q M (sget s 1) (sget s 6) := by kernel_rfl
def c38_9 : ACode := (.seq c38_3 c38_8)
def o38_10 : List AOper := [⟨some 4, (.mov (.const (.int .i64 33))), false, none⟩]
def c38_11 : ACode := (.region o38_10 [4])
def w38_11 (_P : Program) (Q : Exit → Slots → Mem → Prop) (M : Mem) : Prop :=
  Q .normal [(4, (.int .i64 33))] M
theorem e38_11 (P : Program) (Q : Exit → Slots → Mem → Prop) (s : Slots) (M : Mem) : wpC P c38_11 Q s M = w38_11 P Q M := by kernel_rfl
def c38_12 : ACode := (.seq c38_11 .ret)
def o38_13 : List AOper := [⟨some 14, (.mov (.tmp 1)), false, none⟩,
  ⟨some 15, (.lenSl (.tmp 14)), false, none⟩,
  ⟨some 16, (.bin .gtr .none (.tmp 15) (.const (.int .i64 8))), true, none⟩]
def c38_14 : ACode := (.seq (.region o38_13 [16]) (.cond (.tmp 16) c38_12 .skip))
def w38_14 (P : Program) (Q : Exit → Slots → Mem → Prop) (M : Mem) (v1 : V) : Prop :=
  @OptVH (lenV v1 M) ⟨fun t15_2 =>
  @OptBH (binV .gtr .none t15_2 (.int .i64 8)) ⟨fun b16_3 =>
  @BIfH b16_3
  ⟨wpC P c38_12 Q [(16, (.bool b16_3))] M⟩
  ⟨Q .normal [(16, (.bool b16_3))] M⟩⟩⟩
theorem e38_14 (P : Program) (Q : Exit → Slots → Mem → Prop) (s : Slots) (M : Mem) : wpC P c38_14 Q s M = w38_14 P Q M (sget s 1) := by kernel_rfl
def o38_15 : List AOper := [⟨some 4, (.mov (.const (.int .i64 0))), false, none⟩]
def c38_16 : ACode := (.region o38_15 [4])
def w38_16 (_P : Program) (Q : Exit → Slots → Mem → Prop) (M : Mem) : Prop :=
  Q .normal [(4, (.int .i64 0))] M
theorem e38_16 (P : Program) (Q : Exit → Slots → Mem → Prop) (s : Slots) (M : Mem) : wpC P c38_16 Q s M = w38_16 P Q M := by kernel_rfl
def c38_17 : ACode := (.seq c38_16 .ret)
def c38_18 : ACode := (.seq c38_14 c38_17)
def c38_19 : ACode := (.seq c38_9 c38_18)
def c38_20 : ACode := (.seq c38_1 c38_19)
def fn_fare_valid : AFn := ⟨17, [(.tmp 4)], c38_20⟩
theorem fn_fare_valid_ok : resFn PR h_fare_valid i_fare_valid = some fn_fare_valid := by kernel_rfl

end Go.Vm.C
