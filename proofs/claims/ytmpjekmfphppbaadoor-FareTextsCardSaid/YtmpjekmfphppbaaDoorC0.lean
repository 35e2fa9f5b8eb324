/- The abstract code of the functions that the statements reach, printed by a program, each with the equation that it is what the loaded program says. Part 0. -/
import Derived.Test.YtmpjekmfphppbaaDoorProg
import Derived.Test.YtmpjekmfphppbaaDoorVm2
import Derived.KernelRfl
namespace Go.Vm.C
open Go.Vm

abbrev i_main_main : Nat := 0
abbrev i_gosem_cut : Nat := 1
abbrev i_gosem_cut_init : Nat := 2
abbrev i_transitlaw35_FareTexts : Nat := 3
abbrev i_transitlaw35_small : Nat := 4
abbrev i_transitlaw35_exampleHolds : Nat := 5
abbrev i_fare_Text : Nat := 6
abbrev i_transitref35_Text : Nat := 7
abbrev i_fare_Price : Nat := 8
abbrev i_transitref35_Same : Nat := 9
abbrev i_fare_valid : Nat := 10
abbrev i_fare_validPrice : Nat := 11
abbrev i_strings_Builder_WriteString : Nat := 12
abbrev i_strconv_Itoa : Nat := 13
abbrev i_strings_Builder_String : Nat := 14
abbrev i_transitref35_Valid : Nat := 15
abbrev i_transitref35_number : Nat := 16
abbrev i_fare_divide : Nat := 17
abbrev i_fare_capped : Nat := 18
abbrev i_product_Check : Nat := 19
abbrev i_strings_Builder_copyCheck : Nat := 20
abbrev i_internal_strconv_Itoa : Nat := 21
abbrev i_transitref26_Fares : Nat := 22
abbrev i_fare_divide_1 : Nat := 23
abbrev i_product_Covers : Nat := 24
abbrev i_fare_ticketPrice : Nat := 25
abbrev i_fare_rest_better : Nat := 26
abbrev i_product_within : Nat := 27
abbrev i_ident_Valid : Nat := 28
abbrev i_internal_abi_NoEscape : Nat := 29
abbrev i_internal_strconv_FormatInt : Nat := 30
abbrev i_transitref26_in : Nat := 31
abbrev i_transitref26_ValidID : Nat := 32
abbrev i_product_later : Nat := 33
abbrev i_product_Covers_1 : Nat := 34
abbrev i_bitset_Set_Union : Nat := 35
abbrev i_bitset_Set_Len : Nat := 36
abbrev i_bitset_Set_Within : Nat := 37
abbrev i_fare_within : Nat := 38
abbrev i_internal_strconv_small : Nat := 39
abbrev i_internal_strconv_numDigits : Nat := 40
abbrev i_internal_strconv_formatBase10 : Nat := 41
abbrev i_internal_strconv_formatBits : Nat := 42
abbrev i_internal_strconv_log10Pow2 : Nat := 43
abbrev i_math_bits_Len64 : Nat := 44
abbrev i_internal_strconv_bool2_int : Nat := 45
abbrev i_internal_strconv_isPowerOfTwo : Nat := 46
abbrev i_math_bits_TrailingZeros : Nat := 47
abbrev i_math_bits_TrailingZeros32 : Nat := 48
abbrev i_math_bits_TrailingZeros64 : Nat := 49
abbrev i_runtime_boundsError_Error : Nat := 50
abbrev i_runtime_boundsError_RuntimeError : Nat := 51
abbrev i_runtime_errorString_Error : Nat := 52
abbrev i_runtime_errorString_RuntimeError : Nat := 53
abbrev i_runtime_plainError_Error : Nat := 54
abbrev i_runtime_plainError_RuntimeError : Nat := 55
abbrev i_runtime_errorAddressString_Error : Nat := 56
abbrev i_runtime_errorAddressString_RuntimeError : Nat := 57
abbrev i_runtime_TypeAssertionError_Error : Nat := 58
abbrev i_runtime_TypeAssertionError_RuntimeError : Nat := 59
abbrev i_runtime_PanicNilError_Error : Nat := 60
abbrev i_runtime_PanicNilError_RuntimeError : Nat := 61
abbrev i_internal_abi_Type_Align : Nat := 62
abbrev i_internal_runtime_maps_unhashableTypeError_Error : Nat := 63
abbrev i_internal_runtime_maps_unhashableTypeError_RuntimeError : Nat := 64
abbrev i_strings_Builder_Reset : Nat := 65
abbrev i_internal_abi_Kind_String : Nat := 66
abbrev i_var_s_door_gosem_cut_vars_holds_initialisers_alone_see_the_manifest_s_row_cutvarsword_look_11_test_files_too : Nat := 67
abbrev i_var_s_door_internal_strconv_uint64pow10_is_laid_by_its_own_initialiser_plain_data_look_11 : Nat := 68
abbrev i_var_s_door_math_bits_deBruijn32tab_is_laid_by_its_own_initialiser_plain_data_look_11 : Nat := 69
abbrev i_var_s_door_math_bits_deBruijn64tab_is_laid_by_its_own_initialiser_plain_data_look_11 : Nat := 70
abbrev i_var_s_door_the_look_of_gosem_cut_vars_went_over_the_folder_that_the_caller_named_as_the_repository_s_root_look_11 : Nat := 71
abbrev i_gosem_cut_vars : Nat := 72
noncomputable abbrev PR : Program := Go.Proofs.Tryd.prog

def h_transitlaw35_FareTexts : Hints := ⟨[(0, [1, 2]), (1, [1, 2, 16]), (2, [4]), (3, [1, 2, 5, 6]), (4, [5, 6, 7, 8]), (5, [4])], [], []⟩
def o3_0 : List AOper := [⟨some 2, (.box 4 (.tmp 0)), false, none⟩,
  ⟨some 4, (.mov (.const (.bool false))), true, none⟩]
def c3_1 : ACode := (.region o3_0 [1, 2])
def w3_1 (_P : Program) (Q : Exit → Slots → Mem → Prop) (M : Mem) (v0 : V) (v1 : V) : Prop :=
  @OptMH (boxV 4 v0 M) ⟨fun t2_1 M1 =>
  Q .normal [(1, v1), (2, t2_1)] M1⟩
theorem e3_1 (P : Program) (Q : Exit → Slots → Mem → Prop) (s : Slots) (M : Mem) : wpC P c3_1 Q s M = w3_1 P Q M (sget s 0) (sget s 1) := by kernel_rfl
def o3_2 : List AOper := [⟨some 17, (.call i_transitlaw35_exampleHolds []), true, none⟩,
  ⟨some 4, (.mov (.tmp 17)), true, none⟩]
def c3_3 : ACode := (.region o3_2 [4])
def w3_3 (P : Program) (Q : Exit → Slots → Mem → Prop) (M : Mem) : Prop :=
  @CallH P i_transitlaw35_exampleHolds [] M ⟨fun t17_1 M1 => @OptBH (some t17_1) ⟨fun b17_1 =>
  Q .normal [(4, (.bool b17_1))] M1⟩⟩
theorem e3_3 (P : Program) (Q : Exit → Slots → Mem → Prop) (s : Slots) (M : Mem) : wpC P c3_3 Q s M = w3_3 P Q M := by kernel_rfl
def c3_4 : ACode := (.seq c3_3 .ret)
def o3_5 : List AOper := [⟨some 9, (.load 4 true (.tmp 2)), false, none⟩,
  ⟨some 10, (.call i_transitlaw35_small [(.tmp 9), (.const (.slice [] .nil))]), true, none⟩,
  ⟨some 11, (.un .not (.tmp 10)), true, none⟩,
  ⟨some 12, (.mov (.tmp 11)), true, none⟩,
  ⟨some 13, (.mov (.tmp 1)), false, some (12, false)⟩,
  ⟨some 14, (.lenSl (.tmp 13)), false, some (12, false)⟩,
  ⟨some 15, (.bin .gtr .none (.tmp 14) (.const (.int .i64 40))), true, some (12, false)⟩,
  ⟨some 16, (.pick (.tmp 12) (.const (.bool true)) (.tmp 15)), true, none⟩]
def c3_6 : ACode := (.seq (.region o3_5 [1, 2, 16]) (.cond (.tmp 16) c3_4 .skip))
def w3_6 (P : Program) (Q : Exit → Slots → Mem → Prop) (M : Mem) (v1 : V) (v2 : V) : Prop :=
  @OptVH (loadV 4 true v2 M) ⟨fun t9_1 =>
  @CallH P i_transitlaw35_small [t9_1, (.slice [] .nil)] M ⟨fun t10_2 M2 => @OptBH (some t10_2) ⟨fun b10_2 =>
  @OptBH (unV .not (.bool b10_2)) ⟨fun b11_3 =>
  @BIfH b11_3
  ⟨wpC P c3_4 Q [(1, v1), (2, v2), (16, (.bool true))] M2⟩
  ⟨@OptVH (lenV v1 M2) ⟨fun t14_7 =>
  @OptBH (binV .gtr .none t14_7 (.int .i64 40)) ⟨fun b15_8 =>
  @BIfH b15_8
  ⟨wpC P c3_4 Q [(1, v1), (2, v2), (16, (.bool b15_8))] M2⟩
  ⟨Q .normal [(1, v1), (2, v2), (16, (.bool b15_8))] M2⟩⟩⟩⟩⟩⟩⟩⟩
theorem e3_6 (P : Program) (Q : Exit → Slots → Mem → Prop) (s : Slots) (M : Mem) : wpC P c3_6 Q s M = w3_6 P Q M (sget s 1) (sget s 2) := by kernel_rfl
def o3_7 : List AOper := [⟨some 19, (.load 4 true (.tmp 2)), false, none⟩,
  ⟨some 20, (.mov (.tmp 1)), false, none⟩,
  ⟨some 21, (.call i_fare_Text [(.tmp 19), (.tmp 20)]), false, none⟩,
  ⟨some 18, (.mov (.tmp 21)), false, none⟩,
  ⟨some 22, (.extract (.tmp 18) 0), false, none⟩,
  ⟨some 23, (.extract (.tmp 18) 1), false, none⟩,
  ⟨some 5, (.mov (.tmp 22)), false, none⟩,
  ⟨some 6, (.mov (.tmp 23)), false, none⟩]
def c3_8 : ACode := (.region o3_7 [1, 2, 5, 6])
def w3_8 (P : Program) (Q : Exit → Slots → Mem → Prop) (M : Mem) (v1 : V) (v2 : V) : Prop :=
  @OptVH (loadV 4 true v2 M) ⟨fun t19_1 =>
  @CallH P i_fare_Text [t19_1, v1] M ⟨fun t21_3 M3 =>
  @OptVH (extractV t21_3 0) ⟨fun t22_5 =>
  @OptVH (extractV t21_3 1) ⟨fun t23_6 =>
  Q .normal [(1, v1), (2, v2), (5, t22_5), (6, t23_6)] M3⟩⟩⟩⟩
theorem e3_8 (P : Program) (Q : Exit → Slots → Mem → Prop) (s : Slots) (M : Mem) : wpC P c3_8 Q s M = w3_8 P Q M (sget s 1) (sget s 2) := by kernel_rfl
def o3_9 : List AOper := [⟨some 25, (.load 4 true (.tmp 2)), false, none⟩,
  ⟨some 26, (.mov (.tmp 1)), false, none⟩,
  ⟨some 27, (.call i_transitref35_Text [(.tmp 25), (.tmp 26)]), false, none⟩,
  ⟨some 24, (.mov (.tmp 27)), false, none⟩,
  ⟨some 28, (.extract (.tmp 24) 0), false, none⟩,
  ⟨some 29, (.extract (.tmp 24) 1), false, none⟩,
  ⟨some 7, (.mov (.tmp 28)), false, none⟩,
  ⟨some 8, (.mov (.tmp 29)), false, none⟩]
def c3_10 : ACode := (.region o3_9 [5, 6, 7, 8])
def w3_10 (P : Program) (Q : Exit → Slots → Mem → Prop) (M : Mem) (v1 : V) (v2 : V) (v5 : V) (v6 : V) : Prop :=
  @OptVH (loadV 4 true v2 M) ⟨fun t25_1 =>
  @CallH P i_transitref35_Text [t25_1, v1] M ⟨fun t27_3 M3 =>
  @OptVH (extractV t27_3 0) ⟨fun t28_5 =>
  @OptVH (extractV t27_3 1) ⟨fun t29_6 =>
  Q .normal [(5, v5), (6, v6), (7, t28_5), (8, t29_6)] M3⟩⟩⟩⟩
theorem e3_10 (P : Program) (Q : Exit → Slots → Mem → Prop) (s : Slots) (M : Mem) : wpC P c3_10 Q s M = w3_10 P Q M (sget s 1) (sget s 2) (sget s 5) (sget s 6) := by kernel_rfl
def o3_11 : List AOper := [⟨some 30, (.mov (.tmp 5)), false, none⟩,
  ⟨some 31, (.mov (.tmp 7)), false, none⟩,
  ⟨some 32, (.bin .eql .none (.tmp 30) (.tmp 31)), true, none⟩,
  ⟨some 33, (.mov (.tmp 32)), true, none⟩,
  ⟨some 34, (.mov (.tmp 6)), false, some (33, true)⟩,
  ⟨some 35, (.mov (.tmp 8)), false, some (33, true)⟩,
  ⟨some 36, (.bin .eql .none (.tmp 34) (.tmp 35)), true, some (33, true)⟩,
  ⟨some 37, (.pick (.tmp 33) (.tmp 36) (.const (.bool false))), true, none⟩,
  ⟨some 38, (.mov (.tmp 37)), true, none⟩,
  ⟨some 39, (.call i_transitlaw35_exampleHolds []), true, some (38, true)⟩,
  ⟨some 40, (.pick (.tmp 38) (.tmp 39) (.const (.bool false))), true, none⟩,
  ⟨some 4, (.mov (.tmp 40)), true, none⟩]
def c3_12 : ACode := (.region o3_11 [4])
def w3_12 (P : Program) (Q : Exit → Slots → Mem → Prop) (M : Mem) (v5 : V) (v6 : V) (v7 : V) (v8 : V) : Prop :=
  @OptBH (binV .eql .none v5 v7) ⟨fun b32_3 =>
  @BIfH b32_3
  ⟨@OptBH (binV .eql .none v6 v8) ⟨fun b36_7 =>
  @BIfH b36_7
  ⟨@CallH P i_transitlaw35_exampleHolds [] M ⟨fun t39_10 M10 => @OptBH (some t39_10) ⟨fun b39_10 =>
  Q .normal [(4, (.bool b39_10))] M10⟩⟩⟩
  ⟨Q .normal [(4, (.bool false))] M⟩⟩⟩
  ⟨Q .normal [(4, (.bool false))] M⟩⟩
theorem e3_12 (P : Program) (Q : Exit → Slots → Mem → Prop) (s : Slots) (M : Mem) : wpC P c3_12 Q s M = w3_12 P Q M (sget s 5) (sget s 6) (sget s 7) (sget s 8) := by kernel_rfl
def c3_13 : ACode := (.seq c3_12 .ret)
def c3_14 : ACode := (.seq c3_10 c3_13)
def c3_15 : ACode := (.seq c3_8 c3_14)
def c3_16 : ACode := (.seq c3_6 c3_15)
def c3_17 : ACode := (.seq c3_1 c3_16)
def fn_transitlaw35_FareTexts : AFn := ⟨41, [(.tmp 4)], c3_17⟩
theorem fn_transitlaw35_FareTexts_ok : resFn PR h_transitlaw35_FareTexts i_transitlaw35_FareTexts = some fn_transitlaw35_FareTexts := by kernel_rfl

def h_transitlaw35_small : Hints := ⟨[(0, [1, 2]), (1, [2, 15]), (2, [4]), (3, [17, 18, 19]), (4, [17, 18, 19, 20]), (5, [6, 17, 18, 19]), (6, [17, 18, 19, 26]), (7, [4]), (8, [17, 18, 19]), (9, [4])], [(4, [17, 18, 19])], []⟩
def o4_0 : List AOper := [⟨some 2, (.box 4 (.tmp 0)), false, none⟩,
  ⟨some 4, (.mov (.const (.bool false))), true, none⟩]
def c4_1 : ACode := (.region o4_0 [1, 2])
def w4_1 (_P : Program) (Q : Exit → Slots → Mem → Prop) (M : Mem) (v0 : V) (v1 : V) : Prop :=
  @OptMH (boxV 4 v0 M) ⟨fun t2_1 M1 =>
  Q .normal [(1, v1), (2, t2_1)] M1⟩
theorem e4_1 (P : Program) (Q : Exit → Slots → Mem → Prop) (s : Slots) (M : Mem) : wpC P c4_1 Q s M = w4_1 P Q M (sget s 0) (sget s 1) := by kernel_rfl
def o4_2 : List AOper := [⟨some 4, (.mov (.const (.bool false))), true, none⟩]
def c4_3 : ACode := (.region o4_2 [4])
def w4_3 (_P : Program) (Q : Exit → Slots → Mem → Prop) (M : Mem) : Prop :=
  Q .normal [(4, (.bool false))] M
theorem e4_3 (P : Program) (Q : Exit → Slots → Mem → Prop) (s : Slots) (M : Mem) : wpC P c4_3 Q s M = w4_3 P Q M := by kernel_rfl
def c4_4 : ACode := (.seq c4_3 .ret)
def o4_5 : List AOper := [⟨some 7, (.fieldAddr 0 (.tmp 2)), false, none⟩,
  ⟨some 8, (.load 1 false (.tmp 7)), false, none⟩,
  ⟨some 9, (.lenSl (.tmp 8)), false, none⟩,
  ⟨some 10, (.bin .gtr .none (.tmp 9) (.const (.int .i64 40))), true, none⟩,
  ⟨some 11, (.mov (.tmp 10)), true, none⟩,
  ⟨some 12, (.mov (.tmp 1)), false, some (11, false)⟩,
  ⟨some 13, (.lenSl (.tmp 12)), false, some (11, false)⟩,
  ⟨some 14, (.bin .gtr .none (.tmp 13) (.const (.int .i64 40))), true, some (11, false)⟩,
  ⟨some 15, (.pick (.tmp 11) (.const (.bool true)) (.tmp 14)), true, none⟩]
def c4_6 : ACode := (.seq (.region o4_5 [2, 15]) (.cond (.tmp 15) c4_4 .skip))
def w4_6 (P : Program) (Q : Exit → Slots → Mem → Prop) (M : Mem) (v1 : V) (v2 : V) : Prop :=
  @OptVH (moveV 0 v2) ⟨fun t7_1 =>
  @OptVH (loadV 1 false t7_1 M) ⟨fun t8_2 =>
  @OptVH (lenV t8_2 M) ⟨fun t9_3 =>
  @OptBH (binV .gtr .none t9_3 (.int .i64 40)) ⟨fun b10_4 =>
  @BIfH b10_4
  ⟨wpC P c4_4 Q [(2, v2), (15, (.bool true))] M⟩
  ⟨@OptVH (lenV v1 M) ⟨fun t13_8 =>
  @OptBH (binV .gtr .none t13_8 (.int .i64 40)) ⟨fun b14_9 =>
  @BIfH b14_9
  ⟨wpC P c4_4 Q [(2, v2), (15, (.bool b14_9))] M⟩
  ⟨Q .normal [(2, v2), (15, (.bool b14_9))] M⟩⟩⟩⟩⟩⟩⟩⟩
theorem e4_6 (P : Program) (Q : Exit → Slots → Mem → Prop) (s : Slots) (M : Mem) : wpC P c4_6 Q s M = w4_6 P Q M (sget s 1) (sget s 2) := by kernel_rfl
def o4_7 : List AOper := [⟨some 16, (.fieldAddr 0 (.tmp 2)), false, none⟩,
  ⟨some 17, (.load 1 false (.tmp 16)), false, none⟩,
  ⟨some 18, (.lenSl (.tmp 17)), false, none⟩,
  ⟨some 19, (.mov (.const (.int .i64 0))), false, none⟩]
def c4_8 : ACode := (.region o4_7 [17, 18, 19])
def w4_8 (_P : Program) (Q : Exit → Slots → Mem → Prop) (M : Mem) (v2 : V) : Prop :=
  @OptVH (moveV 0 v2) ⟨fun t16_1 =>
  @OptVH (loadV 1 false t16_1 M) ⟨fun t17_2 =>
  @OptVH (lenV t17_2 M) ⟨fun t18_3 =>
  Q .normal [(17, t17_2), (18, t18_3), (19, (.int .i64 0))] M⟩⟩⟩
theorem e4_8 (P : Program) (Q : Exit → Slots → Mem → Prop) (s : Slots) (M : Mem) : wpC P c4_8 Q s M = w4_8 P Q M (sget s 2) := by kernel_rfl
def o4_9 : List AOper := [⟨some 20, (.bin .lss .none (.tmp 19) (.tmp 18)), false, none⟩]
def c4_10 : ACode := (.region o4_9 [17, 18, 19, 20])
def w4_10 (_P : Program) (Q : Exit → Slots → Mem → Prop) (M : Mem) (v17 : V) (v18 : V) (v19 : V) : Prop :=
  @OptVH (binV .lss .none v19 v18) ⟨fun t20_1 =>
  Q .normal [(17, v17), (18, v18), (19, v19), (20, t20_1)] M⟩
theorem e4_10 (P : Program) (Q : Exit → Slots → Mem → Prop) (s : Slots) (M : Mem) : wpC P c4_10 Q s M = w4_10 P Q M (sget s 17) (sget s 18) (sget s 19) := by kernel_rfl
def c4_11 : ACode := (.cond (.tmp 20) .skip (.exit 0))
def o4_12 : List AOper := [⟨some 21, (.indexSl 6 (.tmp 17) (.tmp 19)), false, none⟩,
  ⟨some 22, (.load 6 true (.tmp 21)), false, none⟩,
  ⟨some 6, (.alloc [(.str []), (.int .i64 0), (.int .i64 0), (.int .i64 0), (.int .i64 0), (.int .i64 0)]), false, none⟩,
  ⟨none, (.store 6 (.tmp 6) (.tmp 22)), false, none⟩]
def c4_13 : ACode := (.region o4_12 [6, 17, 18, 19])
def w4_13 (_P : Program) (Q : Exit → Slots → Mem → Prop) (M : Mem) (v17 : V) (v18 : V) (v19 : V) : Prop :=
  @OptVH (indexSlV 6 v17 v19 M) ⟨fun t21_1 =>
  @OptVH (loadV 6 true t21_1 M) ⟨fun t22_2 =>
  @OptMH (allocV [(.str []), (.int .i64 0), (.int .i64 0), (.int .i64 0), (.int .i64 0), (.int .i64 0)] M) ⟨fun t6_3 M3 =>
  @OptMH (storeVM 6 t6_3 t22_2 M3) ⟨fun _tx_4 M4 =>
  Q .normal [(6, t6_3), (17, v17), (18, v18), (19, v19)] M4⟩⟩⟩⟩
theorem e4_13 (P : Program) (Q : Exit → Slots → Mem → Prop) (s : Slots) (M : Mem) : wpC P c4_13 Q s M = w4_13 P Q M (sget s 17) (sget s 18) (sget s 19) := by kernel_rfl
def o4_14 : List AOper := [⟨some 4, (.mov (.const (.bool false))), true, none⟩]
def c4_15 : ACode := (.region o4_14 [4])
def w4_15 (_P : Program) (Q : Exit → Slots → Mem → Prop) (M : Mem) : Prop :=
  Q .normal [(4, (.bool false))] M
theorem e4_15 (P : Program) (Q : Exit → Slots → Mem → Prop) (s : Slots) (M : Mem) : wpC P c4_15 Q s M = w4_15 P Q M := by kernel_rfl
def c4_16 : ACode := (.seq c4_15 .ret)
def o4_17 : List AOper := [⟨some 23, (.fieldAddr 0 (.tmp 6)), false, none⟩,
  ⟨some 24, (.load 1 false (.tmp 23)), false, none⟩,
  ⟨some 25, (.lenStr (.tmp 24)), false, none⟩,
  ⟨some 26, (.bin .gtr .none (.tmp 25) (.const (.int .i64 256))), true, none⟩]
def c4_18 : ACode := (.seq (.region o4_17 [17, 18, 19, 26]) (.cond (.tmp 26) c4_16 .skip))
def w4_18 (P : Program) (Q : Exit → Slots → Mem → Prop) (M : Mem) (v6 : V) (v17 : V) (v18 : V) (v19 : V) : Prop :=
  @OptVH (moveV 0 v6) ⟨fun t23_1 =>
  @OptVH (loadV 1 false t23_1 M) ⟨fun t24_2 =>
  @OptVH (lenStrV t24_2) ⟨fun t25_3 =>
  @OptBH (binV .gtr .none t25_3 (.int .i64 256)) ⟨fun b26_4 =>
  @BIfH b26_4
  ⟨wpC P c4_16 Q [(17, v17), (18, v18), (19, v19), (26, (.bool b26_4))] M⟩
  ⟨Q .normal [(17, v17), (18, v18), (19, v19), (26, (.bool b26_4))] M⟩⟩⟩⟩⟩
theorem e4_18 (P : Program) (Q : Exit → Slots → Mem → Prop) (s : Slots) (M : Mem) : wpC P c4_18 Q s M = w4_18 P Q M (sget s 6) (sget s 17) (sget s 18) (sget s 19) := by kernel_rfl
def c4_19 : ACode := (.seq c4_13 c4_18)
def c4_20 : ACode := (.block 1 c4_19)
def o4_21 : List AOper := [⟨some 27, (.bin .add .none (.tmp 19) (.const (.int .i64 1))), false, none⟩,
  ⟨some 19, (.mov (.tmp 27)), false, none⟩]
def c4_22 : ACode := (.region o4_21 [17, 18, 19])
def w4_22 (_P : Program) (Q : Exit → Slots → Mem → Prop) (M : Mem) (v17 : V) (v18 : V) (v19 : V) : Prop :=
  @OptVH (binV .add .none v19 (.int .i64 1)) ⟨fun t27_1 =>
  Q .normal [(17, v17), (18, v18), (19, t27_1)] M⟩
theorem e4_22 (P : Program) (Q : Exit → Slots → Mem → Prop) (s : Slots) (M : Mem) : wpC P c4_22 Q s M = w4_22 P Q M (sget s 17) (sget s 18) (sget s 19) := by kernel_rfl
def c4_23 : ACode := (.seq c4_20 c4_22)
def c4_24 : ACode := (.seq c4_11 c4_23)
def c4_25 : ACode := (.seq c4_10 c4_24)
def c4_26 : ACode := (.loop [17, 18, 19] c4_25)
def c4_27 : ACode := (.block 0 c4_26)
def c4_28 : ACode := (.seq c4_8 c4_27)
def o4_29 : List AOper := [⟨some 4, (.mov (.const (.bool true))), true, none⟩]
def c4_30 : ACode := (.region o4_29 [4])
def w4_30 (_P : Program) (Q : Exit → Slots → Mem → Prop) (M : Mem) : Prop :=
  Q .normal [(4, (.bool true))] M
theorem e4_30 (P : Program) (Q : Exit → Slots → Mem → Prop) (s : Slots) (M : Mem) : wpC P c4_30 Q s M = w4_30 P Q M := by kernel_rfl
def c4_31 : ACode := (.seq c4_30 .ret)
def c4_32 : ACode := (.seq c4_28 c4_31)
def c4_33 : ACode := (.seq c4_6 c4_32)
def c4_34 : ACode := (.seq c4_1 c4_33)
def fn_transitlaw35_small : AFn := ⟨28, [(.tmp 4)], c4_34⟩
theorem fn_transitlaw35_small_ok : resFn PR h_transitlaw35_small i_transitlaw35_small = some fn_transitlaw35_small := by kernel_rfl

def h_transitlaw35_exampleHolds : Hints := ⟨[(0, []), (1, [1]), (2, [1, 2]), (3, [1, 2, 3]), (4, [1, 3, 4, 5, 6]), (5, [1, 3, 4, 5, 6, 7, 8, 9]), (6, [1, 3, 4, 5, 6, 7, 8, 9]), (7, [4, 5, 6, 7, 8, 9, 10, 12]), (8, [0])], [], []⟩
def o5_0 : List AOper := [⟨some 0, (.mov (.const (.bool false))), true, none⟩]
def c5_1 : ACode := (.region o5_0 [])
def w5_1 (_P : Program) (Q : Exit → Slots → Mem → Prop) (M : Mem) : Prop :=
  Q .normal [] M
theorem e5_1 (P : Program) (Q : Exit → Slots → Mem → Prop) (s : Slots) (M : Mem) : wpC P c5_1 Q s M = w5_1 P Q M := by kernel_rfl
def o5_2 : List AOper := [⟨some 13, (.build [(.str []), (.int .i64 0), (.int .i64 0), (.int .i64 0), (.int .i64 0), (.int .i64 0)] [(0, (1, (.const (.str [115, 105, 110, 103, 108, 101])))), (1, (1, (.const (.int .i64 200)))), (2, (1, (.const (.int .i64 1)))), (3, (1, (.const (.int .i64 16)))), (5, (1, (.const (.int .i64 255))))]), false, none⟩,
  ⟨some 14, (.build [(.str []), (.int .i64 0), (.int .i64 0), (.int .i64 0), (.int .i64 0), (.int .i64 0)] [(0, (1, (.const (.str [112, 97, 115, 115])))), (1, (1, (.const (.int .i64 350)))), (2, (1, (.const (.int .i64 3)))), (3, (1, (.const (.int .i64 16)))), (4, (1, (.const (.int .i64 3600)))), (5, (1, (.const (.int .i64 255))))]), false, none⟩,
  ⟨some 15, (.buildSlice [(.str []), (.int .i64 0), (.int .i64 0), (.int .i64 0), (.int .i64 0), (.int .i64 0), (.str []), (.int .i64 0), (.int .i64 0), (.int .i64 0), (.int .i64 0), (.int .i64 0)] 6 2 [(0, (6, (.tmp 13))), (6, (6, (.tmp 14)))]), false, none⟩,
  ⟨some 16, (.build [(.slice [] .nil), (.int .i64 0), (.int .i64 0), (.int .i64 0)] [(0, (1, (.tmp 15)))]), false, none⟩,
  ⟨some 1, (.alloc [(.slice [] .nil), (.int .i64 0), (.int .i64 0), (.int .i64 0)]), false, none⟩,
  ⟨none, (.store 4 (.tmp 1) (.tmp 16)), false, none⟩]
def c5_3 : ACode := (.region o5_2 [1])
def w5_3 (_P : Program) (Q : Exit → Slots → Mem → Prop) (M : Mem) : Prop :=
  @OptVH (buildV [(.str []), (.int .i64 0), (.int .i64 0), (.int .i64 0), (.int .i64 0), (.int .i64 0)] [(0, 1, (.str [115, 105, 110, 103, 108, 101])), (1, 1, (.int .i64 200)), (2, 1, (.int .i64 1)), (3, 1, (.int .i64 16)), (5, 1, (.int .i64 255))]) ⟨fun t13_1 =>
  @OptVH (buildV [(.str []), (.int .i64 0), (.int .i64 0), (.int .i64 0), (.int .i64 0), (.int .i64 0)] [(0, 1, (.str [112, 97, 115, 115])), (1, 1, (.int .i64 350)), (2, 1, (.int .i64 3)), (3, 1, (.int .i64 16)), (4, 1, (.int .i64 3600)), (5, 1, (.int .i64 255))]) ⟨fun t14_2 =>
  @OptVH (buildSliceV [(.str []), (.int .i64 0), (.int .i64 0), (.int .i64 0), (.int .i64 0), (.int .i64 0), (.str []), (.int .i64 0), (.int .i64 0), (.int .i64 0), (.int .i64 0), (.int .i64 0)] 6 2 [(0, 6, t13_1), (6, 6, t14_2)]) ⟨fun t15_3 =>
  @OptVH (buildV [(.slice [] .nil), (.int .i64 0), (.int .i64 0), (.int .i64 0)] [(0, 1, t15_3)]) ⟨fun t16_4 =>
  @OptMH (allocV [(.slice [] .nil), (.int .i64 0), (.int .i64 0), (.int .i64 0)] M) ⟨fun t1_5 M5 =>
  @OptMH (storeVM 4 t1_5 t16_4 M5) ⟨fun _tx_6 M6 =>
  Q .normal [(1, t1_5)] M6⟩⟩⟩⟩⟩⟩
theorem e5_3 (P : Program) (Q : Exit → Slots → Mem → Prop) (s : Slots) (M : Mem) : wpC P c5_3 Q s M = w5_3 P Q M := by kernel_rfl
def o5_4 : List AOper := [⟨some 17, (.build [(.int .i64 0), (.int .i64 0), (.int .i64 0), (.int .i64 0)] [(0, (1, (.const (.int .i64 1000)))), (1, (1, (.const (.int .i64 1200)))), (2, (1, (.const (.int .i64 1)))), (3, (1, (.const (.int .i64 1))))]), false, none⟩,
  ⟨some 18, (.build [(.int .i64 0), (.int .i64 0), (.int .i64 0), (.int .i64 0)] [(0, (1, (.const (.int .i64 2800)))), (1, (1, (.const (.int .i64 3000)))), (2, (1, (.const (.int .i64 2)))), (3, (1, (.const (.int .i64 8))))]), false, none⟩,
  ⟨some 19, (.buildSlice [(.int .i64 0), (.int .i64 0), (.int .i64 0), (.int .i64 0), (.int .i64 0), (.int .i64 0), (.int .i64 0), (.int .i64 0)] 4 2 [(0, (4, (.tmp 17))), (4, (4, (.tmp 18)))]), false, none⟩,
  ⟨some 2, (.mov (.tmp 19)), false, none⟩]
def c5_5 : ACode := (.region o5_4 [1, 2])
def w5_5 (_P : Program) (Q : Exit → Slots → Mem → Prop) (M : Mem) (v1 : V) : Prop :=
  @OptVH (buildV [(.int .i64 0), (.int .i64 0), (.int .i64 0), (.int .i64 0)] [(0, 1, (.int .i64 1000)), (1, 1, (.int .i64 1200)), (2, 1, (.int .i64 1)), (3, 1, (.int .i64 1))]) ⟨fun t17_1 =>
  @OptVH (buildV [(.int .i64 0), (.int .i64 0), (.int .i64 0), (.int .i64 0)] [(0, 1, (.int .i64 2800)), (1, 1, (.int .i64 3000)), (2, 1, (.int .i64 2)), (3, 1, (.int .i64 8))]) ⟨fun t18_2 =>
  @OptVH (buildSliceV [(.int .i64 0), (.int .i64 0), (.int .i64 0), (.int .i64 0), (.int .i64 0), (.int .i64 0), (.int .i64 0), (.int .i64 0)] 4 2 [(0, 4, t17_1), (4, 4, t18_2)]) ⟨fun t19_3 =>
  Q .normal [(1, v1), (2, t19_3)] M⟩⟩⟩
theorem e5_5 (P : Program) (Q : Exit → Slots → Mem → Prop) (s : Slots) (M : Mem) : wpC P c5_5 Q s M = w5_5 P Q M (sget s 1) := by kernel_rfl
def o5_6 : List AOper := [⟨some 20, (.build [(.int .i64 0), (.int .i64 0), (.int .i64 0), (.int .i64 0)] [(0, (1, (.const (.int .i64 1000)))), (1, (1, (.const (.int .i64 4301)))), (2, (1, (.const (.int .i64 1)))), (3, (1, (.const (.int .i64 1))))]), false, none⟩,
  ⟨some 21, (.build [(.int .i64 0), (.int .i64 0), (.int .i64 0), (.int .i64 0)] [(0, (1, (.const (.int .i64 4601)))), (1, (1, (.const (.int .i64 4700)))), (2, (1, (.const (.int .i64 2)))), (3, (1, (.const (.int .i64 8))))]), false, none⟩,
  ⟨some 22, (.buildSlice [(.int .i64 0), (.int .i64 0), (.int .i64 0), (.int .i64 0), (.int .i64 0), (.int .i64 0), (.int .i64 0), (.int .i64 0)] 4 2 [(0, (4, (.tmp 20))), (4, (4, (.tmp 21)))]), false, none⟩,
  ⟨some 3, (.mov (.tmp 22)), false, none⟩]
def c5_7 : ACode := (.region o5_6 [1, 2, 3])
def w5_7 (_P : Program) (Q : Exit → Slots → Mem → Prop) (M : Mem) (v1 : V) (v2 : V) : Prop :=
  @OptVH (buildV [(.int .i64 0), (.int .i64 0), (.int .i64 0), (.int .i64 0)] [(0, 1, (.int .i64 1000)), (1, 1, (.int .i64 4301)), (2, 1, (.int .i64 1)), (3, 1, (.int .i64 1))]) ⟨fun t20_1 =>
  @OptVH (buildV [(.int .i64 0), (.int .i64 0), (.int .i64 0), (.int .i64 0)] [(0, 1, (.int .i64 4601)), (1, 1, (.int .i64 4700)), (2, 1, (.int .i64 2)), (3, 1, (.int .i64 8))]) ⟨fun t21_2 =>
  @OptVH (buildSliceV [(.int .i64 0), (.int .i64 0), (.int .i64 0), (.int .i64 0), (.int .i64 0), (.int .i64 0), (.int .i64 0), (.int .i64 0)] 4 2 [(0, 4, t20_1), (4, 4, t21_2)]) ⟨fun t22_3 =>
  Q .normal [(1, v1), (2, v2), (3, t22_3)] M⟩⟩⟩
theorem e5_7 (P : Program) (Q : Exit → Slots → Mem → Prop) (s : Slots) (M : Mem) : wpC P c5_7 Q s M = w5_7 P Q M (sget s 1) (sget s 2) := by kernel_rfl
def o5_8 : List AOper := [⟨some 24, (.load 4 true (.tmp 1)), false, none⟩,
  ⟨some 25, (.mov (.tmp 2)), false, none⟩,
  ⟨some 26, (.call i_fare_Price [(.tmp 24), (.tmp 25)]), false, none⟩,
  ⟨some 23, (.mov (.tmp 26)), false, none⟩,
  ⟨some 27, (.extract (.tmp 23) 0), false, none⟩,
  ⟨some 28, (.extract (.tmp 23) 1), false, none⟩,
  ⟨some 29, (.extract (.tmp 23) 2), false, none⟩,
  ⟨some 4, (.mov (.tmp 27)), false, none⟩,
  ⟨some 5, (.mov (.tmp 28)), false, none⟩,
  ⟨some 6, (.mov (.tmp 29)), false, none⟩]
def c5_9 : ACode := (.region o5_8 [1, 3, 4, 5, 6])
def w5_9 (P : Program) (Q : Exit → Slots → Mem → Prop) (M : Mem) (v1 : V) (v2 : V) (v3 : V) : Prop :=
  @OptVH (loadV 4 true v1 M) ⟨fun t24_1 =>
  @CallH P i_fare_Price [t24_1, v2] M ⟨fun t26_3 M3 =>
  @OptVH (extractV t26_3 0) ⟨fun t27_5 =>
  @OptVH (extractV t26_3 1) ⟨fun t28_6 =>
  @OptVH (extractV t26_3 2) ⟨fun t29_7 =>
  Q .normal [(1, v1), (3, v3), (4, t27_5), (5, t28_6), (6, t29_7)] M3⟩⟩⟩⟩⟩
theorem e5_9 (P : Program) (Q : Exit → Slots → Mem → Prop) (s : Slots) (M : Mem) : wpC P c5_9 Q s M = w5_9 P Q M (sget s 1) (sget s 2) (sget s 3) := by kernel_rfl
def o5_10 : List AOper := [⟨some 31, (.load 4 true (.tmp 1)), false, none⟩,
  ⟨some 32, (.mov (.tmp 3)), false, none⟩,
  ⟨some 33, (.call i_fare_Price [(.tmp 31), (.tmp 32)]), false, none⟩,
  ⟨some 30, (.mov (.tmp 33)), false, none⟩,
  ⟨some 34, (.extract (.tmp 30) 0), false, none⟩,
  ⟨some 35, (.extract (.tmp 30) 1), false, none⟩,
  ⟨some 36, (.extract (.tmp 30) 2), false, none⟩,
  ⟨some 7, (.mov (.tmp 34)), false, none⟩,
  ⟨some 8, (.mov (.tmp 35)), false, none⟩,
  ⟨some 9, (.mov (.tmp 36)), false, none⟩]
def c5_11 : ACode := (.region o5_10 [1, 3, 4, 5, 6, 7, 8, 9])
def w5_11 (P : Program) (Q : Exit → Slots → Mem → Prop) (M : Mem) (v1 : V) (v3 : V) (v4 : V) (v5 : V) (v6 : V) : Prop :=
  @OptVH (loadV 4 true v1 M) ⟨fun t31_1 =>
  @CallH P i_fare_Price [t31_1, v3] M ⟨fun t33_3 M3 =>
  @OptVH (extractV t33_3 0) ⟨fun t34_5 =>
  @OptVH (extractV t33_3 1) ⟨fun t35_6 =>
  @OptVH (extractV t33_3 2) ⟨fun t36_7 =>
  Q .normal [(1, v1), (3, v3), (4, v4), (5, v5), (6, v6), (7, t34_5), (8, t35_6), (9, t36_7)] M3⟩⟩⟩⟩⟩
theorem e5_11 (P : Program) (Q : Exit → Slots → Mem → Prop) (s : Slots) (M : Mem) : wpC P c5_11 Q s M = w5_11 P Q M (sget s 1) (sget s 3) (sget s 4) (sget s 5) (sget s 6) := by kernel_rfl
def o5_12 : List AOper := [⟨some 37, (.fieldAddr 1 (.tmp 1)), false, none⟩,
  ⟨none, (.store 1 (.tmp 37) (.const (.int .i64 100))), false, none⟩,
  ⟨some 38, (.fieldAddr 2 (.tmp 1)), false, none⟩,
  ⟨none, (.store 1 (.tmp 38) (.const (.int .i64 600))), false, none⟩]
def c5_13 : ACode := (.region o5_12 [1, 3, 4, 5, 6, 7, 8, 9])
def w5_13 (_P : Program) (Q : Exit → Slots → Mem → Prop) (M : Mem) (v1 : V) (v3 : V) (v4 : V) (v5 : V) (v6 : V) (v7 : V) (v8 : V) (v9 : V) : Prop :=
  @OptVH (moveV 1 v1) ⟨fun t37_1 =>
  @OptMH (storeVM 1 t37_1 (.int .i64 100) M) ⟨fun _tx_2 M2 =>
  @OptVH (moveV 2 v1) ⟨fun t38_3 =>
  @OptMH (storeVM 1 t38_3 (.int .i64 600) M2) ⟨fun _tx_4 M4 =>
  Q .normal [(1, v1), (3, v3), (4, v4), (5, v5), (6, v6), (7, v7), (8, v8), (9, v9)] M4⟩⟩⟩⟩
theorem e5_13 (P : Program) (Q : Exit → Slots → Mem → Prop) (s : Slots) (M : Mem) : wpC P c5_13 Q s M = w5_13 P Q M (sget s 1) (sget s 3) (sget s 4) (sget s 5) (sget s 6) (sget s 7) (sget s 8) (sget s 9) := by kernel_rfl
def o5_14 : List AOper := [⟨some 40, (.load 4 true (.tmp 1)), false, none⟩,
  ⟨some 41, (.mov (.tmp 3)), false, none⟩,
  ⟨some 42, (.call i_fare_Price [(.tmp 40), (.tmp 41)]), false, none⟩,
  ⟨some 39, (.mov (.tmp 42)), false, none⟩,
  ⟨some 43, (.extract (.tmp 39) 0), false, none⟩,
  ⟨some 44, (.extract (.tmp 39) 1), false, none⟩,
  ⟨some 45, (.extract (.tmp 39) 2), false, none⟩,
  ⟨some 10, (.mov (.tmp 43)), false, none⟩,
  ⟨some 11, (.mov (.tmp 44)), false, none⟩,
  ⟨some 12, (.mov (.tmp 45)), false, none⟩]
def c5_15 : ACode := (.region o5_14 [4, 5, 6, 7, 8, 9, 10, 12])
def w5_15 (P : Program) (Q : Exit → Slots → Mem → Prop) (M : Mem) (v1 : V) (v3 : V) (v4 : V) (v5 : V) (v6 : V) (v7 : V) (v8 : V) (v9 : V) : Prop :=
  @OptVH (loadV 4 true v1 M) ⟨fun t40_1 =>
  @CallH P i_fare_Price [t40_1, v3] M ⟨fun t42_3 M3 =>
  @OptVH (extractV t42_3 0) ⟨fun t43_5 =>
  @OptVH (extractV t42_3 1) ⟨fun _t44_6 =>
  @OptVH (extractV t42_3 2) ⟨fun t45_7 =>
  Q .normal [(4, v4), (5, v5), (6, v6), (7, v7), (8, v8), (9, v9), (10, t43_5), (12, t45_7)] M3⟩⟩⟩⟩⟩
theorem e5_15 (P : Program) (Q : Exit → Slots → Mem → Prop) (s : Slots) (M : Mem) : wpC P c5_15 Q s M = w5_15 P Q M (sget s 1) (sget s 3) (sget s 4) (sget s 5) (sget s 6) (sget s 7) (sget s 8) (sget s 9) := by kernel_rfl
def o5_16 : List AOper := [⟨some 46, (.mov (.tmp 6)), false, none⟩,
  ⟨some 47, (.bin .eql .none (.tmp 46) (.const (.int .i64 0))), true, none⟩,
  ⟨some 48, (.mov (.tmp 47)), true, none⟩,
  ⟨some 49, (.mov (.tmp 9)), false, some (48, true)⟩,
  ⟨some 50, (.bin .eql .none (.tmp 49) (.const (.int .i64 0))), true, some (48, true)⟩,
  ⟨some 51, (.pick (.tmp 48) (.tmp 50) (.const (.bool false))), true, none⟩,
  ⟨some 52, (.mov (.tmp 51)), true, none⟩,
  ⟨some 53, (.mov (.tmp 12)), false, some (52, true)⟩,
  ⟨some 54, (.bin .eql .none (.tmp 53) (.const (.int .i64 0))), true, some (52, true)⟩,
  ⟨some 55, (.pick (.tmp 52) (.tmp 54) (.const (.bool false))), true, none⟩,
  ⟨some 56, (.mov (.tmp 55)), true, none⟩,
  ⟨some 57, (.mov (.tmp 4)), false, some (56, true)⟩,
  ⟨some 58, (.bin .eql .none (.tmp 57) (.const (.int .i64 350))), true, some (56, true)⟩,
  ⟨some 59, (.pick (.tmp 56) (.tmp 58) (.const (.bool false))), true, none⟩,
  ⟨some 60, (.mov (.tmp 59)), true, none⟩,
  ⟨some 61, (.mov (.tmp 5)), false, some (60, true)⟩,
  ⟨some 62, (.build [(.int .i64 0), (.int .i64 0), (.int .i64 0), (.int .i64 0)] [(0, (1, (.const (.int .i64 1)))), (1, (1, (.const (.int .i64 0)))), (2, (1, (.const (.int .i64 1)))), (3, (1, (.const (.int .i64 350))))]), false, some (60, true)⟩,
  ⟨some 63, (.buildSlice [(.int .i64 0), (.int .i64 0), (.int .i64 0), (.int .i64 0)] 4 1 [(0, (4, (.tmp 62)))]), false, some (60, true)⟩,
  ⟨some 64, (.call i_transitref35_Same [(.tmp 61), (.tmp 63)]), true, some (60, true)⟩,
  ⟨some 65, (.pick (.tmp 60) (.tmp 64) (.const (.bool false))), true, none⟩,
  ⟨some 66, (.mov (.tmp 65)), true, none⟩,
  ⟨some 67, (.mov (.tmp 7)), false, some (66, true)⟩,
  ⟨some 68, (.bin .eql .none (.tmp 67) (.const (.int .i64 400))), true, some (66, true)⟩,
  ⟨some 69, (.pick (.tmp 66) (.tmp 68) (.const (.bool false))), true, none⟩,
  ⟨some 70, (.mov (.tmp 69)), true, none⟩,
  ⟨some 71, (.mov (.tmp 8)), false, some (70, true)⟩,
  ⟨some 72, (.lenSl (.tmp 71)), false, some (70, true)⟩,
  ⟨some 73, (.bin .eql .none (.tmp 72) (.const (.int .i64 2))), true, some (70, true)⟩,
  ⟨some 74, (.pick (.tmp 70) (.tmp 73) (.const (.bool false))), true, none⟩,
  ⟨some 75, (.mov (.tmp 74)), true, none⟩,
  ⟨some 76, (.mov (.tmp 10)), false, some (75, true)⟩,
  ⟨some 77, (.bin .eql .none (.tmp 76) (.const (.int .i64 300))), true, some (75, true)⟩,
  ⟨some 78, (.pick (.tmp 75) (.tmp 77) (.const (.bool false))), true, none⟩,
  ⟨some 0, (.mov (.tmp 78)), true, none⟩]
def c5_17 : ACode := (.region o5_16 [0])
def w5_17 (P : Program) (Q : Exit → Slots → Mem → Prop) (M : Mem) (v4 : V) (v5 : V) (v6 : V) (v7 : V) (v8 : V) (v9 : V) (v10 : V) (v12 : V) : Prop :=
  @OptBH (binV .eql .none v6 (.int .i64 0)) ⟨fun b47_2 =>
  @BIfH b47_2
  ⟨@OptBH (binV .eql .none v9 (.int .i64 0)) ⟨fun b50_5 =>
  @BIfH b50_5
  ⟨@OptBH (binV .eql .none v12 (.int .i64 0)) ⟨fun b54_9 =>
  @BIfH b54_9
  ⟨@OptBH (binV .eql .none v4 (.int .i64 350)) ⟨fun b58_13 =>
  @BIfH b58_13
  ⟨@OptVH (buildV [(.int .i64 0), (.int .i64 0), (.int .i64 0), (.int .i64 0)] [(0, 1, (.int .i64 1)), (1, 1, (.int .i64 0)), (2, 1, (.int .i64 1)), (3, 1, (.int .i64 350))]) ⟨fun t62_17 =>
  @OptVH (buildSliceV [(.int .i64 0), (.int .i64 0), (.int .i64 0), (.int .i64 0)] 4 1 [(0, 4, t62_17)]) ⟨fun t63_18 =>
  @CallH P i_transitref35_Same [v5, t63_18] M ⟨fun t64_19 M19 => @OptBH (some t64_19) ⟨fun b64_19 =>
  @BIfH b64_19
  ⟨@OptBH (binV .eql .none v7 (.int .i64 400)) ⟨fun b68_23 =>
  @BIfH b68_23
  ⟨@OptVH (lenV v8 M19) ⟨fun t72_27 =>
  @OptBH (binV .eql .none t72_27 (.int .i64 2)) ⟨fun b73_28 =>
  @BIfH b73_28
  ⟨@OptBH (binV .eql .none v10 (.int .i64 300)) ⟨fun b77_32 =>
  Q .normal [(0, (.bool b77_32))] M19⟩⟩
  ⟨Q .normal [(0, (.bool false))] M19⟩⟩⟩⟩
  ⟨Q .normal [(0, (.bool false))] M19⟩⟩⟩
  ⟨Q .normal [(0, (.bool false))] M19⟩⟩⟩⟩⟩⟩
  ⟨Q .normal [(0, (.bool false))] M⟩⟩⟩
  ⟨Q .normal [(0, (.bool false))] M⟩⟩⟩
  ⟨Q .normal [(0, (.bool false))] M⟩⟩⟩
  ⟨Q .normal [(0, (.bool false))] M⟩⟩
theorem e5_17 (P : Program) (Q : Exit → Slots → Mem → Prop) (s : Slots) (M : Mem) : wpC P c5_17 Q s M = w5_17 P Q M (sget s 4) (sget s 5) (sget s 6) (sget s 7) (sget s 8) (sget s 9) (sget s 10) (sget s 12) := by kernel_rfl
def c5_18 : ACode := (.seq c5_17 .ret)
def c5_19 : ACode := (.seq c5_15 c5_18)
def c5_20 : ACode := (.seq c5_13 c5_19)
def c5_21 : ACode := (.seq c5_11 c5_20)
def c5_22 : ACode := (.seq c5_9 c5_21)
def c5_23 : ACode := (.seq c5_7 c5_22)
def c5_24 : ACode := (.seq c5_5 c5_23)
def c5_25 : ACode := (.seq c5_3 c5_24)
def c5_26 : ACode := (.seq c5_1 c5_25)
def fn_transitlaw35_exampleHolds : AFn := ⟨79, [(.tmp 0)], c5_26⟩
theorem fn_transitlaw35_exampleHolds_ok : resFn PR h_transitlaw35_exampleHolds i_transitlaw35_exampleHolds = some fn_transitlaw35_exampleHolds := by kernel_rfl

def h_transitref35_Text : Hints := ⟨[(0, [1, 2]), (1, [1, 2, 11]), (2, [4, 5]), (3, [1, 2, 6]), (4, [1, 2, 6, 7]), (5, [1, 2, 6, 7, 15]), (6, [1, 2, 6, 7]), (7, [1, 2, 6, 7, 8]), (8, [1, 2, 6, 7, 8, 32]), (9, [4, 5]), (10, [1, 2, 6, 7, 8, 47]), (11, [4, 5]), (12, [1, 2, 6, 7, 8, 55]), (13, [4, 5]), (14, [1, 2, 6, 7]), (15, [4, 5])], [(5, [1, 2, 6, 7])], []⟩
def o7_0 : List AOper := [⟨some 2, (.box 4 (.tmp 0)), false, none⟩,
  ⟨some 4, (.mov (.const (.str []))), false, none⟩,
  ⟨some 5, (.mov (.const (.int .i64 0))), false, none⟩]
def c7_1 : ACode := (.region o7_0 [1, 2])
def w7_1 (_P : Program) (Q : Exit → Slots → Mem → Prop) (M : Mem) (v0 : V) (v1 : V) : Prop :=
  @OptMH (boxV 4 v0 M) ⟨fun t2_1 M1 =>
  Q .normal [(1, v1), (2, t2_1)] M1⟩
theorem e7_1 (P : Program) (Q : Exit → Slots → Mem → Prop) (s : Slots) (M : Mem) : wpC P c7_1 Q s M = w7_1 P Q M (sget s 0) (sget s 1) := by kernel_rfl
def o7_2 : List AOper := [⟨some 4, (.mov (.const (.str []))), false, none⟩,
  ⟨some 5, (.mov (.const (.int .i64 20))), false, none⟩]
def c7_3 : ACode := (.region o7_2 [4, 5])
def w7_3 (_P : Program) (Q : Exit → Slots → Mem → Prop) (M : Mem) : Prop :=
  Q .normal [(4, (.str [])), (5, (.int .i64 20))] M
theorem e7_3 (P : Program) (Q : Exit → Slots → Mem → Prop) (s : Slots) (M : Mem) : wpC P c7_3 Q s M = w7_3 P Q M := by kernel_rfl
def c7_4 : ACode := (.seq c7_3 .ret)
def o7_5 : List AOper := [⟨some 9, (.load 4 true (.tmp 2)), false, none⟩,
  ⟨some 10, (.call i_transitref35_Valid [(.tmp 9)]), true, none⟩,
  ⟨some 11, (.un .not (.tmp 10)), true, none⟩]
def c7_6 : ACode := (.seq (.region o7_5 [1, 2, 11]) (.cond (.tmp 11) c7_4 .skip))
def w7_6 (P : Program) (Q : Exit → Slots → Mem → Prop) (M : Mem) (v1 : V) (v2 : V) : Prop :=
  @OptVH (loadV 4 true v2 M) ⟨fun t9_1 =>
  @CallH P i_transitref35_Valid [t9_1] M ⟨fun t10_2 M2 => @OptBH (some t10_2) ⟨fun b10_2 =>
  @OptBH (unV .not (.bool b10_2)) ⟨fun b11_3 =>
  @BIfH b11_3
  ⟨wpC P c7_4 Q [(1, v1), (2, v2), (11, (.bool b11_3))] M2⟩
  ⟨Q .normal [(1, v1), (2, v2), (11, (.bool b11_3))] M2⟩⟩⟩⟩⟩
theorem e7_6 (P : Program) (Q : Exit → Slots → Mem → Prop) (s : Slots) (M : Mem) : wpC P c7_6 Q s M = w7_6 P Q M (sget s 1) (sget s 2) := by kernel_rfl
def o7_7 : List AOper := [⟨some 6, (.mov (.const (.str []))), false, none⟩]
def c7_8 : ACode := (.region o7_7 [1, 2, 6])
def w7_8 (_P : Program) (Q : Exit → Slots → Mem → Prop) (M : Mem) (v1 : V) (v2 : V) : Prop :=
  Q .normal [(1, v1), (2, v2), (6, (.str []))] M
theorem e7_8 (P : Program) (Q : Exit → Slots → Mem → Prop) (s : Slots) (M : Mem) : wpC P c7_8 Q s M = w7_8 P Q M (sget s 1) (sget s 2) := by kernel_rfl
def o7_9 : List AOper := [⟨some 7, (.mov (.const (.int .i64 0))), false, none⟩]
def c7_10 : ACode := (.region o7_9 [1, 2, 6, 7])
def w7_10 (_P : Program) (Q : Exit → Slots → Mem → Prop) (M : Mem) (v1 : V) (v2 : V) (v6 : V) : Prop :=
  Q .normal [(1, v1), (2, v2), (6, v6), (7, (.int .i64 0))] M
theorem e7_10 (P : Program) (Q : Exit → Slots → Mem → Prop) (s : Slots) (M : Mem) : wpC P c7_10 Q s M = w7_10 P Q M (sget s 1) (sget s 2) (sget s 6) := by kernel_rfl
def o7_11 : List AOper := [⟨some 12, (.mov (.tmp 7)), false, none⟩,
  ⟨some 13, (.mov (.tmp 1)), false, none⟩,
  ⟨some 14, (.lenSl (.tmp 13)), false, none⟩,
  ⟨some 15, (.bin .lss .none (.tmp 12) (.tmp 14)), true, none⟩]
def c7_12 : ACode := (.seq (.region o7_11 [1, 2, 6, 7, 15]) (.cond (.tmp 15) .skip (.exit 0)))
def w7_12 (_P : Program) (Q : Exit → Slots → Mem → Prop) (M : Mem) (v1 : V) (v2 : V) (v6 : V) (v7 : V) : Prop :=
  @OptVH (lenV v1 M) ⟨fun t14_3 =>
  @OptBH (binV .lss .none v7 t14_3) ⟨fun b15_4 =>
  @BIfH b15_4
  ⟨Q .normal [(1, v1), (2, v2), (6, v6), (7, v7), (15, (.bool b15_4))] M⟩
  ⟨Q (.exit 0) [(1, v1), (2, v2), (6, v6), (7, v7), (15, (.bool b15_4))] M⟩⟩⟩
theorem e7_12 (P : Program) (Q : Exit → Slots → Mem → Prop) (s : Slots) (M : Mem) : wpC P c7_12 Q s M = w7_12 P Q M (sget s 1) (sget s 2) (sget s 6) (sget s 7) := by kernel_rfl
def o7_13 : List AOper := [⟨some 18, (.mov (.tmp 1)), false, none⟩,
  ⟨some 19, (.mov (.tmp 7)), false, none⟩,
  ⟨some 20, (.indexSl 4 (.tmp 18) (.tmp 19)), false, none⟩,
  ⟨some 21, (.load 4 true (.tmp 20)), false, none⟩,
  ⟨some 8, (.alloc [(.int .i64 0), (.int .i64 0), (.int .i64 0), (.int .i64 0)]), false, none⟩,
  ⟨none, (.store 4 (.tmp 8) (.tmp 21)), false, none⟩]
def c7_14 : ACode := (.region o7_13 [1, 2, 6, 7, 8])
def w7_14 (_P : Program) (Q : Exit → Slots → Mem → Prop) (M : Mem) (v1 : V) (v2 : V) (v6 : V) (v7 : V) : Prop :=
  @OptVH (indexSlV 4 v1 v7 M) ⟨fun t20_3 =>
  @OptVH (loadV 4 true t20_3 M) ⟨fun t21_4 =>
  @OptMH (allocV [(.int .i64 0), (.int .i64 0), (.int .i64 0), (.int .i64 0)] M) ⟨fun t8_5 M5 =>
  @OptMH (storeVM 4 t8_5 t21_4 M5) ⟨fun _tx_6 M6 =>
  Q .normal [(1, v1), (2, v2), (6, v6), (7, v7), (8, t8_5)] M6⟩⟩⟩⟩
theorem e7_14 (P : Program) (Q : Exit → Slots → Mem → Prop) (s : Slots) (M : Mem) : wpC P c7_14 Q s M = w7_14 P Q M (sget s 1) (sget s 2) (sget s 6) (sget s 7) := by kernel_rfl
def o7_15 : List AOper := [⟨some 4, (.mov (.const (.str []))), false, none⟩,
  ⟨some 5, (.mov (.const (.int .i64 9))), false, none⟩]
def c7_16 : ACode := (.region o7_15 [4, 5])
def w7_16 (_P : Program) (Q : Exit → Slots → Mem → Prop) (M : Mem) : Prop :=
  Q .normal [(4, (.str [])), (5, (.int .i64 9))] M
theorem e7_16 (P : Program) (Q : Exit → Slots → Mem → Prop) (s : Slots) (M : Mem) : wpC P c7_16 Q s M = w7_16 P Q M := by kernel_rfl
def c7_17 : ACode := (.seq c7_16 .ret)
def o7_18 : List AOper := [⟨some 22, (.fieldAddr 0 (.tmp 8)), false, none⟩,
  ⟨some 23, (.load 1 false (.tmp 22)), false, none⟩,
  ⟨some 24, (.bin .lss .none (.tmp 23) (.const (.int .i64 0))), true, none⟩,
  ⟨some 25, (.mov (.tmp 24)), true, none⟩,
  ⟨some 26, (.fieldAddr 0 (.tmp 8)), false, some (25, false)⟩,
  ⟨some 27, (.load 1 false (.tmp 26)), false, some (25, false)⟩,
  ⟨some 28, (.fieldAddr 0 (.tmp 2)), false, some (25, false)⟩,
  ⟨some 29, (.load 1 false (.tmp 28)), false, some (25, false)⟩,
  ⟨some 30, (.lenSl (.tmp 29)), false, some (25, false)⟩,
  ⟨some 31, (.bin .geq .none (.tmp 27) (.tmp 30)), true, some (25, false)⟩,
  ⟨some 32, (.pick (.tmp 25) (.const (.bool true)) (.tmp 31)), true, none⟩]
def c7_19 : ACode := (.seq (.region o7_18 [1, 2, 6, 7, 8, 32]) (.cond (.tmp 32) c7_17 .skip))
def w7_19 (P : Program) (Q : Exit → Slots → Mem → Prop) (M : Mem) (v1 : V) (v2 : V) (v6 : V) (v7 : V) (v8 : V) : Prop :=
  @OptVH (moveV 0 v8) ⟨fun t22_1 =>
  @OptVH (loadV 1 false t22_1 M) ⟨fun t23_2 =>
  @OptBH (binV .lss .none t23_2 (.int .i64 0)) ⟨fun b24_3 =>
  @BIfH b24_3
  ⟨wpC P c7_17 Q [(1, v1), (2, v2), (6, v6), (7, v7), (8, v8), (32, (.bool true))] M⟩
  ⟨@OptVH (moveV 0 v8) ⟨fun t26_6 =>
  @OptVH (loadV 1 false t26_6 M) ⟨fun t27_7 =>
  @OptVH (moveV 0 v2) ⟨fun t28_8 =>
  @OptVH (loadV 1 false t28_8 M) ⟨fun t29_9 =>
  @OptVH (lenV t29_9 M) ⟨fun t30_10 =>
  @OptBH (binV .geq .none t27_7 t30_10) ⟨fun b31_11 =>
  @BIfH b31_11
  ⟨wpC P c7_17 Q [(1, v1), (2, v2), (6, v6), (7, v7), (8, v8), (32, (.bool b31_11))] M⟩
  ⟨Q .normal [(1, v1), (2, v2), (6, v6), (7, v7), (8, v8), (32, (.bool b31_11))] M⟩⟩⟩⟩⟩⟩⟩⟩⟩⟩⟩
theorem e7_19 (P : Program) (Q : Exit → Slots → Mem → Prop) (s : Slots) (M : Mem) : wpC P c7_19 Q s M = w7_19 P Q M (sget s 1) (sget s 2) (sget s 6) (sget s 7) (sget s 8) := by kernel_rfl
def o7_20 : List AOper := [⟨some 4, (.mov (.const (.str []))), false, none⟩,
  ⟨some 5, (.mov (.const (.int .i64 8))), false, none⟩]
def c7_21 : ACode := (.region o7_20 [4, 5])
def w7_21 (_P : Program) (Q : Exit → Slots → Mem → Prop) (M : Mem) : Prop :=
  Q .normal [(4, (.str [])), (5, (.int .i64 8))] M
theorem e7_21 (P : Program) (Q : Exit → Slots → Mem → Prop) (s : Slots) (M : Mem) : wpC P c7_21 Q s M = w7_21 P Q M := by kernel_rfl
def c7_22 : ACode := (.seq c7_21 .ret)
def o7_23 : List AOper := [⟨some 33, (.fieldAddr 1 (.tmp 8)), false, none⟩,
  ⟨some 34, (.load 1 false (.tmp 33)), false, none⟩,
  ⟨some 35, (.bin .lss .none (.tmp 34) (.const (.int .i64 0))), true, none⟩,
  ⟨some 36, (.mov (.tmp 35)), true, none⟩,
  ⟨some 37, (.fieldAddr 1 (.tmp 8)), false, some (36, false)⟩,
  ⟨some 38, (.load 1 false (.tmp 37)), false, some (36, false)⟩,
  ⟨some 39, (.fieldAddr 2 (.tmp 8)), false, some (36, false)⟩,
  ⟨some 40, (.load 1 false (.tmp 39)), false, some (36, false)⟩,
  ⟨some 41, (.bin .gtr .none (.tmp 38) (.tmp 40)), true, some (36, false)⟩,
  ⟨some 42, (.pick (.tmp 36) (.const (.bool true)) (.tmp 41)), true, none⟩,
  ⟨some 43, (.mov (.tmp 42)), true, none⟩,
  ⟨some 44, (.fieldAddr 2 (.tmp 8)), false, some (43, false)⟩,
  ⟨some 45, (.load 1 false (.tmp 44)), false, some (43, false)⟩,
  ⟨some 46, (.bin .geq .none (.tmp 45) (.const (.int .i64 8))), true, some (43, false)⟩,
  ⟨some 47, (.pick (.tmp 43) (.const (.bool true)) (.tmp 46)), true, none⟩]
def c7_24 : ACode := (.seq (.region o7_23 [1, 2, 6, 7, 8, 47]) (.cond (.tmp 47) c7_22 .skip))
def w7_24 (P : Program) (Q : Exit → Slots → Mem → Prop) (M : Mem) (v1 : V) (v2 : V) (v6 : V) (v7 : V) (v8 : V) : Prop :=
  @OptVH (moveV 1 v8) ⟨fun t33_1 =>
  @OptVH (loadV 1 false t33_1 M) ⟨fun t34_2 =>
  @OptBH (binV .lss .none t34_2 (.int .i64 0)) ⟨fun b35_3 =>
  @BIfH b35_3
  ⟨wpC P c7_22 Q [(1, v1), (2, v2), (6, v6), (7, v7), (8, v8), (47, (.bool true))] M⟩
  ⟨@OptVH (moveV 1 v8) ⟨fun t37_8 =>
  @OptVH (loadV 1 false t37_8 M) ⟨fun t38_9 =>
  @OptVH (moveV 2 v8) ⟨fun t39_10 =>
  @OptVH (loadV 1 false t39_10 M) ⟨fun t40_11 =>
  @OptBH (binV .gtr .none t38_9 t40_11) ⟨fun b41_12 =>
  @BIfH b41_12
  ⟨wpC P c7_22 Q [(1, v1), (2, v2), (6, v6), (7, v7), (8, v8), (47, (.bool true))] M⟩
  ⟨@OptVH (moveV 2 v8) ⟨fun t44_16 =>
  @OptVH (loadV 1 false t44_16 M) ⟨fun t45_17 =>
  @OptBH (binV .geq .none t45_17 (.int .i64 8)) ⟨fun b46_18 =>
  @BIfH b46_18
  ⟨wpC P c7_22 Q [(1, v1), (2, v2), (6, v6), (7, v7), (8, v8), (47, (.bool b46_18))] M⟩
  ⟨Q .normal [(1, v1), (2, v2), (6, v6), (7, v7), (8, v8), (47, (.bool b46_18))] M⟩⟩⟩⟩⟩⟩⟩⟩⟩⟩⟩⟩⟩⟩
theorem e7_24 (P : Program) (Q : Exit → Slots → Mem → Prop) (s : Slots) (M : Mem) : wpC P c7_24 Q s M = w7_24 P Q M (sget s 1) (sget s 2) (sget s 6) (sget s 7) (sget s 8) := by kernel_rfl
def o7_25 : List AOper := [⟨some 4, (.mov (.const (.str []))), false, none⟩,
  ⟨some 5, (.mov (.const (.int .i64 2))), false, none⟩]
def c7_26 : ACode := (.region o7_25 [4, 5])
def w7_26 (_P : Program) (Q : Exit → Slots → Mem → Prop) (M : Mem) : Prop :=
  Q .normal [(4, (.str [])), (5, (.int .i64 2))] M
theorem e7_26 (P : Program) (Q : Exit → Slots → Mem → Prop) (s : Slots) (M : Mem) : wpC P c7_26 Q s M = w7_26 P Q M := by kernel_rfl
def c7_27 : ACode := (.seq c7_26 .ret)
def o7_28 : List AOper := [⟨some 48, (.fieldAddr 3 (.tmp 8)), false, none⟩,
  ⟨some 49, (.load 1 false (.tmp 48)), false, none⟩,
  ⟨some 50, (.bin .lss .none (.tmp 49) (.const (.int .i64 0))), true, none⟩,
  ⟨some 51, (.mov (.tmp 50)), true, none⟩,
  ⟨some 52, (.fieldAddr 3 (.tmp 8)), false, some (51, false)⟩,
  ⟨some 53, (.load 1 false (.tmp 52)), false, some (51, false)⟩,
  ⟨some 54, (.bin .gtr .none (.tmp 53) (.const (.int .i64 1000000))), true, some (51, false)⟩,
  ⟨some 55, (.pick (.tmp 51) (.const (.bool true)) (.tmp 54)), true, none⟩]
def c7_29 : ACode := (.seq (.region o7_28 [1, 2, 6, 7, 8, 55]) (.cond (.tmp 55) c7_27 .skip))
def w7_29 (P : Program) (Q : Exit → Slots → Mem → Prop) (M : Mem) (v1 : V) (v2 : V) (v6 : V) (v7 : V) (v8 : V) : Prop :=
  @OptVH (moveV 3 v8) ⟨fun t48_1 =>
  @OptVH (loadV 1 false t48_1 M) ⟨fun t49_2 =>
  @OptBH (binV .lss .none t49_2 (.int .i64 0)) ⟨fun b50_3 =>
  @BIfH b50_3
  ⟨wpC P c7_27 Q [(1, v1), (2, v2), (6, v6), (7, v7), (8, v8), (55, (.bool true))] M⟩
  ⟨@OptVH (moveV 3 v8) ⟨fun t52_6 =>
  @OptVH (loadV 1 false t52_6 M) ⟨fun t53_7 =>
  @OptBH (binV .gtr .none t53_7 (.int .i64 1000000)) ⟨fun b54_8 =>
  @BIfH b54_8
  ⟨wpC P c7_27 Q [(1, v1), (2, v2), (6, v6), (7, v7), (8, v8), (55, (.bool b54_8))] M⟩
  ⟨Q .normal [(1, v1), (2, v2), (6, v6), (7, v7), (8, v8), (55, (.bool b54_8))] M⟩⟩⟩⟩⟩⟩⟩⟩
theorem e7_29 (P : Program) (Q : Exit → Slots → Mem → Prop) (s : Slots) (M : Mem) : wpC P c7_29 Q s M = w7_29 P Q M (sget s 1) (sget s 2) (sget s 6) (sget s 7) (sget s 8) := by kernel_rfl
def o7_30 : List AOper := [⟨some 56, (.mov (.tmp 6)), false, none⟩,
  ⟨some 57, (.fieldAddr 0 (.tmp 2)), false, none⟩,
  ⟨some 58, (.load 1 false (.tmp 57)), false, none⟩,
  ⟨some 59, (.fieldAddr 0 (.tmp 8)), false, none⟩,
  ⟨some 60, (.load 1 false (.tmp 59)), false, none⟩,
  ⟨some 61, (.indexSl 6 (.tmp 58) (.tmp 60)), false, none⟩,
  ⟨some 62, (.fieldAddr 0 (.tmp 61)), false, none⟩,
  ⟨some 63, (.load 1 false (.tmp 62)), false, none⟩,
  ⟨some 64, (.bin .add .none (.tmp 63) (.const (.str [32]))), false, none⟩,
  ⟨some 65, (.fieldAddr 1 (.tmp 8)), false, none⟩,
  ⟨some 66, (.load 1 false (.tmp 65)), false, none⟩,
  ⟨some 67, (.bin .add .none (.tmp 66) (.const (.int .i64 1))), false, none⟩,
  ⟨some 68, (.call i_transitref35_number [(.tmp 67)]), false, none⟩,
  ⟨some 69, (.bin .add .none (.tmp 64) (.tmp 68)), false, none⟩,
  ⟨some 70, (.bin .add .none (.tmp 69) (.const (.str [32]))), false, none⟩,
  ⟨some 71, (.fieldAddr 2 (.tmp 8)), false, none⟩,
  ⟨some 72, (.load 1 false (.tmp 71)), false, none⟩,
  ⟨some 73, (.bin .add .none (.tmp 72) (.const (.int .i64 1))), false, none⟩,
  ⟨some 74, (.call i_transitref35_number [(.tmp 73)]), false, none⟩,
  ⟨some 75, (.bin .add .none (.tmp 70) (.tmp 74)), false, none⟩,
  ⟨some 76, (.bin .add .none (.tmp 75) (.const (.str [32]))), false, none⟩,
  ⟨some 77, (.fieldAddr 3 (.tmp 8)), false, none⟩,
  ⟨some 78, (.load 1 false (.tmp 77)), false, none⟩,
  ⟨some 79, (.call i_transitref35_number [(.tmp 78)]), false, none⟩,
  ⟨some 80, (.bin .add .none (.tmp 76) (.tmp 79)), false, none⟩,
  ⟨some 81, (.bin .add .none (.tmp 80) (.const (.str [10]))), false, none⟩,
  ⟨some 82, (.bin .add .none (.tmp 56) (.tmp 81)), false, none⟩,
  ⟨some 6, (.mov (.tmp 82)), false, none⟩]
def c7_31 : ACode := (.mixed o7_30 [true, true, true, true, true, true, true, true, true, true, true, true, true, true, true, true, true, true, true, true, true, true, true, true, true, true, true, true] [1, 2, 6, 7])
def w7_31 (P : Program) (Q : Exit → Slots → Mem → Prop) (M : Mem) (v1 : V) (v2 : V) (v6 : V) (v7 : V) (v8 : V) : Prop :=
  @OptVH (moveV 0 v2) ⟨fun t57_2 =>
  @OptVH (loadV 1 false t57_2 M) ⟨fun t58_3 =>
  @OptVH (moveV 0 v8) ⟨fun t59_4 =>
  @OptVH (loadV 1 false t59_4 M) ⟨fun t60_5 =>
  @OptVH (indexSlV 6 t58_3 t60_5 M) ⟨fun t61_6 =>
  @OptVH (moveV 0 t61_6) ⟨fun t62_7 =>
  @OptVH (loadV 1 false t62_7 M) ⟨fun t63_8 =>
  @OptVH (binV .add .none t63_8 (.str [32])) ⟨fun t64_9 =>
  @OptVH (moveV 1 v8) ⟨fun t65_10 =>
  @OptVH (loadV 1 false t65_10 M) ⟨fun t66_11 =>
  @OptVH (binV .add .none t66_11 (.int .i64 1)) ⟨fun t67_12 =>
  @CallQ P i_transitref35_number [t67_12] M ⟨fun t68_13 M13 =>
  @OptVH (binV .add .none t64_9 t68_13) ⟨fun t69_14 =>
  @OptVH (binV .add .none t69_14 (.str [32])) ⟨fun t70_15 =>
  @OptVH (moveV 2 v8) ⟨fun t71_16 =>
  @OptVH (loadV 1 false t71_16 M13) ⟨fun t72_17 =>
  @OptVH (binV .add .none t72_17 (.int .i64 1)) ⟨fun t73_18 =>
  @CallQ P i_transitref35_number [t73_18] M13 ⟨fun t74_19 M19 =>
  @OptVH (binV .add .none t70_15 t74_19) ⟨fun t75_20 =>
  @OptVH (binV .add .none t75_20 (.str [32])) ⟨fun t76_21 =>
  @OptVH (moveV 3 v8) ⟨fun t77_22 =>
  @OptVH (loadV 1 false t77_22 M19) ⟨fun t78_23 =>
  @CallQ P i_transitref35_number [t78_23] M19 ⟨fun t79_24 M24 =>
  @OptVH (binV .add .none t76_21 t79_24) ⟨fun t80_25 =>
  @OptVH (binV .add .none t80_25 (.str [10])) ⟨fun t81_26 =>
  @OptVH (binV .add .none v6 t81_26) ⟨fun t82_27 =>
  Q .normal [(1, v1), (2, v2), (6, t82_27), (7, v7)] M24⟩⟩⟩⟩⟩⟩⟩⟩⟩⟩⟩⟩⟩⟩⟩⟩⟩⟩⟩⟩⟩⟩⟩⟩⟩⟩
theorem e7_31 (P : Program) (Q : Exit → Slots → Mem → Prop) (s : Slots) (M : Mem) : wpC P c7_31 Q s M = w7_31 P Q M (sget s 1) (sget s 2) (sget s 6) (sget s 7) (sget s 8) := by kernel_rfl
def c7_32 : ACode := (.seq c7_29 c7_31)
def c7_33 : ACode := (.seq c7_24 c7_32)
def c7_34 : ACode := (.seq c7_19 c7_33)
def c7_35 : ACode := (.seq c7_14 c7_34)
def c7_36 : ACode := (.block 1 c7_35)
def o7_37 : List AOper := [⟨some 16, (.mov (.tmp 7)), false, none⟩,
  ⟨some 17, (.bin .add .none (.tmp 16) (.const (.int .i64 1))), false, none⟩,
  ⟨some 7, (.mov (.tmp 17)), false, none⟩]
def c7_38 : ACode := (.region o7_37 [1, 2, 6, 7])
def w7_38 (_P : Program) (Q : Exit → Slots → Mem → Prop) (M : Mem) (v1 : V) (v2 : V) (v6 : V) (v7 : V) : Prop :=
  @OptVH (binV .add .none v7 (.int .i64 1)) ⟨fun t17_2 =>
  Q .normal [(1, v1), (2, v2), (6, v6), (7, t17_2)] M⟩
theorem e7_38 (P : Program) (Q : Exit → Slots → Mem → Prop) (s : Slots) (M : Mem) : wpC P c7_38 Q s M = w7_38 P Q M (sget s 1) (sget s 2) (sget s 6) (sget s 7) := by kernel_rfl
def c7_39 : ACode := (.seq c7_36 c7_38)
def c7_40 : ACode := (.seq c7_12 c7_39)
def c7_41 : ACode := (.loop [1, 2, 6, 7] c7_40)
def c7_42 : ACode := (.block 0 c7_41)
def c7_43 : ACode := (.seq c7_10 c7_42)
def o7_44 : List AOper := [⟨some 83, (.mov (.tmp 6)), false, none⟩,
  ⟨some 4, (.mov (.tmp 83)), false, none⟩,
  ⟨some 5, (.mov (.const (.int .i64 0))), false, none⟩]
def c7_45 : ACode := (.region o7_44 [4, 5])
def w7_45 (_P : Program) (Q : Exit → Slots → Mem → Prop) (M : Mem) (v6 : V) : Prop :=
  Q .normal [(4, v6), (5, (.int .i64 0))] M
theorem e7_45 (P : Program) (Q : Exit → Slots → Mem → Prop) (s : Slots) (M : Mem) : wpC P c7_45 Q s M = w7_45 P Q M (sget s 6) := by kernel_rfl
def c7_46 : ACode := (.seq c7_45 .ret)
def c7_47 : ACode := (.seq c7_43 c7_46)
def c7_48 : ACode := (.seq c7_8 c7_47)
def c7_49 : ACode := (.seq c7_6 c7_48)
def c7_50 : ACode := (.seq c7_1 c7_49)
def fn_transitref35_Text : AFn := ⟨84, [(.tmp 4), (.tmp 5)], c7_50⟩
theorem fn_transitref35_Text_ok : resFn PR h_transitref35_Text i_transitref35_Text = some fn_transitref35_Text := by kernel_rfl

def h_fare_Price : Hints := ⟨[(0, [1, 2]), (1, [1, 2, 7]), (2, [1, 2, 7, 15]), (3, [4, 5, 6]), (4, [1, 2, 8]), (5, [1, 2, 8, 23]), (6, [4, 5, 6]), (7, [1, 2, 8, 9]), (8, [1, 2, 8, 9, 10]), (9, [1, 2, 8, 9, 10, 27]), (10, [1, 2, 8, 9, 10]), (11, [1, 2, 8, 9, 10]), (12, [4, 5, 6])], [(9, [1, 2, 8, 9, 10])], [(7, [0])]⟩
def o8_0 : List AOper := [⟨some 2, (.box 4 (.tmp 0)), false, none⟩,
  ⟨some 4, (.mov (.const (.int .i64 0))), false, none⟩,
  ⟨some 5, (.mov (.const (.slice [] .nil))), false, none⟩,
  ⟨some 6, (.mov (.const (.int .i64 0))), false, none⟩]
def c8_1 : ACode := (.region o8_0 [1, 2])
def w8_1 (_P : Program) (Q : Exit → Slots → Mem → Prop) (M : Mem) (v0 : V) (v1 : V) : Prop :=
  @OptMH (boxV 4 v0 M) ⟨fun t2_1 M1 =>
  Q .normal [(1, v1), (2, t2_1)] M1⟩
theorem e8_1 (P : Program) (Q : Exit → Slots → Mem → Prop) (s : Slots) (M : Mem) : wpC P c8_1 Q s M = w8_1 P Q M (sget s 0) (sget s 1) := by kernel_rfl
def o8_2 : List AOper := [⟨some 11, (.load 4 true (.tmp 2)), false, none⟩,
  ⟨some 12, (.mov (.tmp 1)), false, none⟩,
  ⟨some 13, (.call i_fare_valid [(.tmp 11), (.tmp 12)]), false, none⟩,
  ⟨some 7, (.mov (.tmp 13)), false, none⟩]
def c8_3 : ACode := (.region o8_2 [1, 2, 7])
def w8_3 (P : Program) (Q : Exit → Slots → Mem → Prop) (M : Mem) (v1 : V) (v2 : V) : Prop :=
  @OptVH (loadV 4 true v2 M) ⟨fun t11_1 =>
  @CallH P i_fare_valid [t11_1, v1] M ⟨fun t13_3 M3 =>
  Q .normal [(1, v1), (2, v2), (7, t13_3)] M3⟩⟩
theorem e8_3 (P : Program) (Q : Exit → Slots → Mem → Prop) (s : Slots) (M : Mem) : wpC P c8_3 Q s M = w8_3 P Q M (sget s 1) (sget s 2) := by kernel_rfl
def o8_4 : List AOper := [⟨some 16, (.mov (.tmp 7)), false, none⟩,
  ⟨some 4, (.mov (.const (.int .i64 0))), false, none⟩,
  ⟨some 5, (.mov (.const (.slice [] .nil))), false, none⟩,
  ⟨some 6, (.mov (.tmp 16)), false, none⟩]
def c8_5 : ACode := (.region o8_4 [4, 5, 6])
def w8_5 (_P : Program) (Q : Exit → Slots → Mem → Prop) (M : Mem) (v7 : V) : Prop :=
  Q .normal [(4, (.int .i64 0)), (5, (.slice [] .nil)), (6, v7)] M
theorem e8_5 (P : Program) (Q : Exit → Slots → Mem → Prop) (s : Slots) (M : Mem) : wpC P c8_5 Q s M = w8_5 P Q M (sget s 7) := by kernel_rfl
def c8_6 : ACode := (.seq c8_5 .ret)
def o8_7 : List AOper := [⟨some 14, (.mov (.tmp 7)), false, none⟩,
  ⟨some 15, (.bin .neq .none (.tmp 14) (.const (.int .i64 0))), true, none⟩]
def c8_8 : ACode := (.seq (.region o8_7 [1, 2, 7, 15]) (.cond (.tmp 15) c8_6 .skip))
def w8_8 (P : Program) (Q : Exit → Slots → Mem → Prop) (M : Mem) (v1 : V) (v2 : V) (v7 : V) : Prop :=
  @OptBH (binV .neq .none v7 (.int .i64 0)) ⟨fun b15_2 =>
  @BIfH b15_2
  ⟨wpC P c8_6 Q [(1, v1), (2, v2), (7, v7), (15, (.bool b15_2))] M⟩
  ⟨Q .normal [(1, v1), (2, v2), (7, v7), (15, (.bool b15_2))] M⟩⟩
theorem e8_8 (P : Program) (Q : Exit → Slots → Mem → Prop) (s : Slots) (M : Mem) : wpC P c8_8 Q s M = w8_8 P Q M (sget s 1) (sget s 2) (sget s 7) := by kernel_rfl
def c8_9 : ACode := (.seq c8_3 c8_8)
def o8_10 : List AOper := [⟨some 17, (.load 4 true (.tmp 2)), false, none⟩,
  ⟨some 18, (.mov (.tmp 1)), false, none⟩,
  ⟨some 19, (.call i_fare_divide [(.tmp 17), (.tmp 18)]), false, none⟩,
  ⟨some 8, (.alloc [(.bool false), (.int .i64 0), (.int .i64 0), (.int .i64 0), (.int .i64 0), (.int .i64 0), (.int .i64 0), (.bool false), (.int .i64 0), (.int .i64 0), (.int .i64 0), (.int .i64 0), (.int .i64 0), (.int .i64 0), (.bool false), (.int .i64 0), (.int .i64 0), (.int .i64 0), (.int .i64 0), (.int .i64 0), (.int .i64 0), (.bool false), (.int .i64 0), (.int .i64 0), (.int .i64 0), (.int .i64 0), (.int .i64 0), (.int .i64 0), (.bool false), (.int .i64 0), (.int .i64 0), (.int .i64 0), (.int .i64 0), (.int .i64 0), (.int .i64 0), (.bool false), (.int .i64 0), (.int .i64 0), (.int .i64 0), (.int .i64 0), (.int .i64 0), (.int .i64 0), (.bool false), (.int .i64 0), (.int .i64 0), (.int .i64 0), (.int .i64 0), (.int .i64 0), (.int .i64 0), (.bool false), (.int .i64 0), (.int .i64 0), (.int .i64 0), (.int .i64 0), (.int .i64 0), (.int .i64 0), (.bool false), (.int .i64 0), (.int .i64 0), (.int .i64 0), (.int .i64 0), (.int .i64 0), (.int .i64 0)]), false, none⟩,
  ⟨none, (.store 63 (.tmp 8) (.tmp 19)), false, none⟩]
def c8_11 : ACode := (.region o8_10 [1, 2, 8])
def w8_11 (P : Program) (Q : Exit → Slots → Mem → Prop) (M : Mem) (v1 : V) (v2 : V) : Prop :=
  @OptVH (loadV 4 true v2 M) ⟨fun t17_1 =>
  @CallH P i_fare_divide [t17_1, v1] M ⟨fun t19_3 M3 =>
  @OptMH (allocV [(.bool false), (.int .i64 0), (.int .i64 0), (.int .i64 0), (.int .i64 0), (.int .i64 0), (.int .i64 0), (.bool false), (.int .i64 0), (.int .i64 0), (.int .i64 0), (.int .i64 0), (.int .i64 0), (.int .i64 0), (.bool false), (.int .i64 0), (.int .i64 0), (.int .i64 0), (.int .i64 0), (.int .i64 0), (.int .i64 0), (.bool false), (.int .i64 0), (.int .i64 0), (.int .i64 0), (.int .i64 0), (.int .i64 0), (.int .i64 0), (.bool false), (.int .i64 0), (.int .i64 0), (.int .i64 0), (.int .i64 0), (.int .i64 0), (.int .i64 0), (.bool false), (.int .i64 0), (.int .i64 0), (.int .i64 0), (.int .i64 0), (.int .i64 0), (.int .i64 0), (.bool false), (.int .i64 0), (.int .i64 0), (.int .i64 0), (.int .i64 0), (.int .i64 0), (.int .i64 0), (.bool false), (.int .i64 0), (.int .i64 0), (.int .i64 0), (.int .i64 0), (.int .i64 0), (.int .i64 0), (.bool false), (.int .i64 0), (.int .i64 0), (.int .i64 0), (.int .i64 0), (.int .i64 0), (.int .i64 0)] M3) ⟨fun t8_4 M4 =>
  @OptMH (storeVM 63 t8_4 t19_3 M4) ⟨fun _tx_5 M5 =>
  Q .normal [(1, v1), (2, v2), (8, t8_4)] M5⟩⟩⟩⟩
theorem e8_11 (P : Program) (Q : Exit → Slots → Mem → Prop) (s : Slots) (M : Mem) : wpC P c8_11 Q s M = w8_11 P Q M (sget s 1) (sget s 2) := by kernel_rfl
def o8_12 : List AOper := [⟨some 4, (.mov (.const (.int .i64 0))), false, none⟩,
  ⟨some 5, (.mov (.const (.slice [] .nil))), false, none⟩,
  ⟨some 6, (.mov (.const (.int .i64 34))), false, none⟩]
def c8_13 : ACode := (.region o8_12 [4, 5, 6])
def w8_13 (_P : Program) (Q : Exit → Slots → Mem → Prop) (M : Mem) : Prop :=
  Q .normal [(4, (.int .i64 0)), (5, (.slice [] .nil)), (6, (.int .i64 34))] M
theorem e8_13 (P : Program) (Q : Exit → Slots → Mem → Prop) (s : Slots) (M : Mem) : wpC P c8_13 Q s M = w8_13 P Q M := by kernel_rfl
def c8_14 : ACode := (.seq c8_13 .ret)
def o8_15 : List AOper := [⟨some 20, (.indexArr 9 7 (.tmp 8) (.const (.int .i64 0))), false, none⟩,
  ⟨some 21, (.fieldAddr 0 (.tmp 20)), false, none⟩,
  ⟨some 22, (.load 1 false (.tmp 21)), true, none⟩,
  ⟨some 23, (.un .not (.tmp 22)), true, none⟩]
def c8_16 : ACode := (.seq (.region o8_15 [1, 2, 8, 23]) (.cond (.tmp 23) c8_14 .skip))
def w8_16 (P : Program) (Q : Exit → Slots → Mem → Prop) (M : Mem) (v1 : V) (v2 : V) (v8 : V) : Prop :=
  @OptVH (indexArrV 9 7 v8 (.int .i64 0)) ⟨fun t20_1 =>
  @OptVH (moveV 0 t20_1) ⟨fun t21_2 =>
  @OptBH (loadV 1 false t21_2 M) ⟨fun b22_3 =>
  @OptBH (unV .not (.bool b22_3)) ⟨fun b23_4 =>
  @BIfH b23_4
  ⟨wpC P c8_14 Q [(1, v1), (2, v2), (8, v8), (23, (.bool b23_4))] M⟩
  ⟨Q .normal [(1, v1), (2, v2), (8, v8), (23, (.bool b23_4))] M⟩⟩⟩⟩⟩
theorem e8_16 (P : Program) (Q : Exit → Slots → Mem → Prop) (s : Slots) (M : Mem) : wpC P c8_16 Q s M = w8_16 P Q M (sget s 1) (sget s 2) (sget s 8) := by kernel_rfl
def o8_17 : List AOper := [⟨some 9, (.newarr 4), false, none⟩]
def c8_18 : ACode := (.region o8_17 [1, 2, 8, 9])
def w8_18 (_P : Program) (Q : Exit → Slots → Mem → Prop) (M : Mem) (v1 : V) (v2 : V) (v8 : V) : Prop :=
  @OptMH (newarrV 4 M) ⟨fun t9_1 M1 =>
  Q .normal [(1, v1), (2, v2), (8, v8), (9, t9_1)] M1⟩
theorem e8_18 (P : Program) (Q : Exit → Slots → Mem → Prop) (s : Slots) (M : Mem) : wpC P c8_18 Q s M = w8_18 P Q M (sget s 1) (sget s 2) (sget s 8) := by kernel_rfl
def o8_19 : List AOper := [⟨some 10, (.mov (.const (.int .i64 0))), false, none⟩]
def c8_20 : ACode := (.region o8_19 [1, 2, 8, 9, 10])
def w8_20 (_P : Program) (Q : Exit → Slots → Mem → Prop) (M : Mem) (v1 : V) (v2 : V) (v8 : V) (v9 : V) : Prop :=
  Q .normal [(1, v1), (2, v2), (8, v8), (9, v9), (10, (.int .i64 0))] M
theorem e8_20 (P : Program) (Q : Exit → Slots → Mem → Prop) (s : Slots) (M : Mem) : wpC P c8_20 Q s M = w8_20 P Q M (sget s 1) (sget s 2) (sget s 8) (sget s 9) := by kernel_rfl
def o8_21 : List AOper := [⟨some 24, (.mov (.tmp 10)), false, none⟩,
  ⟨some 25, (.mov (.tmp 1)), false, none⟩,
  ⟨some 26, (.lenSl (.tmp 25)), false, none⟩,
  ⟨some 27, (.bin .lss .none (.tmp 24) (.tmp 26)), true, none⟩]
def c8_22 : ACode := (.seq (.region o8_21 [1, 2, 8, 9, 10, 27]) (.cond (.tmp 27) .skip (.exit 0)))
def w8_22 (_P : Program) (Q : Exit → Slots → Mem → Prop) (M : Mem) (v1 : V) (v2 : V) (v8 : V) (v9 : V) (v10 : V) : Prop :=
  @OptVH (lenV v1 M) ⟨fun t26_3 =>
  @OptBH (binV .lss .none v10 t26_3) ⟨fun b27_4 =>
  @BIfH b27_4
  ⟨Q .normal [(1, v1), (2, v2), (8, v8), (9, v9), (10, v10), (27, (.bool b27_4))] M⟩
  ⟨Q (.exit 0) [(1, v1), (2, v2), (8, v8), (9, v9), (10, v10), (27, (.bool b27_4))] M⟩⟩⟩
theorem e8_22 (P : Program) (Q : Exit → Slots → Mem → Prop) (s : Slots) (M : Mem) : wpC P c8_22 Q s M = w8_22 P Q M (sget s 1) (sget s 2) (sget s 8) (sget s 9) (sget s 10) := by kernel_rfl
def o8_23 : List AOper := [⟨some 34, (.mov (.tmp 9)), false, none⟩,
  ⟨some 35, (.mov (.tmp 10)), false, none⟩,
  ⟨some 36, (.indexArr 9 7 (.tmp 8) (.tmp 35)), false, none⟩,
  ⟨some 37, (.fieldAddr 3 (.tmp 36)), false, none⟩,
  ⟨some 38, (.load 4 true (.tmp 37)), false, none⟩,
  ⟨some 39, (.buildSlice [(.int .i64 0), (.int .i64 0), (.int .i64 0), (.int .i64 0)] 4 1 [(0, (4, (.tmp 38)))]), false, none⟩,
  ⟨some 40, (.append false 4 32 (.tmp 34) (.tmp 39)), false, none⟩,
  ⟨some 9, (.mov (.tmp 40)), false, none⟩]
def c8_24 : ACode := (.region o8_23 [1, 2, 8, 9, 10])
def w8_24 (_P : Program) (Q : Exit → Slots → Mem → Prop) (M : Mem) (v1 : V) (v2 : V) (v8 : V) (v9 : V) (v10 : V) : Prop :=
  @OptVH (indexArrV 9 7 v8 v10) ⟨fun t36_3 =>
  @OptVH (moveV 3 t36_3) ⟨fun t37_4 =>
  @OptVH (loadV 4 true t37_4 M) ⟨fun t38_5 =>
  @OptVH (buildSliceV [(.int .i64 0), (.int .i64 0), (.int .i64 0), (.int .i64 0)] 4 1 [(0, 4, t38_5)]) ⟨fun t39_6 =>
  @OptMH (appV false 4 32 v9 t39_6 M) ⟨fun t40_7 M7 =>
  Q .normal [(1, v1), (2, v2), (8, v8), (9, t40_7), (10, v10)] M7⟩⟩⟩⟩⟩
theorem e8_24 (P : Program) (Q : Exit → Slots → Mem → Prop) (s : Slots) (M : Mem) : wpC P c8_24 Q s M = w8_24 P Q M (sget s 1) (sget s 2) (sget s 8) (sget s 9) (sget s 10) := by kernel_rfl
def c8_25 : ACode := (.block 1 c8_24)
def o8_26 : List AOper := [⟨some 28, (.mov (.tmp 10)), false, none⟩,
  ⟨some 29, (.indexArr 9 7 (.tmp 8) (.tmp 28)), false, none⟩,
  ⟨some 30, (.fieldAddr 3 (.tmp 29)), false, none⟩,
  ⟨some 31, (.fieldAddr 2 (.tmp 30)), false, none⟩,
  ⟨some 32, (.load 1 false (.tmp 31)), false, none⟩,
  ⟨some 33, (.bin .add .none (.tmp 32) (.const (.int .i64 1))), false, none⟩,
  ⟨some 10, (.mov (.tmp 33)), false, none⟩]
def c8_27 : ACode := (.region o8_26 [1, 2, 8, 9, 10])
def w8_27 (_P : Program) (Q : Exit → Slots → Mem → Prop) (M : Mem) (v1 : V) (v2 : V) (v8 : V) (v9 : V) (v10 : V) : Prop :=
  @OptVH (indexArrV 9 7 v8 v10) ⟨fun t29_2 =>
  @OptVH (moveV 3 t29_2) ⟨fun t30_3 =>
  @OptVH (moveV 2 t30_3) ⟨fun t31_4 =>
  @OptVH (loadV 1 false t31_4 M) ⟨fun t32_5 =>
  @OptVH (binV .add .none t32_5 (.int .i64 1)) ⟨fun t33_6 =>
  Q .normal [(1, v1), (2, v2), (8, v8), (9, v9), (10, t33_6)] M⟩⟩⟩⟩⟩
theorem e8_27 (P : Program) (Q : Exit → Slots → Mem → Prop) (s : Slots) (M : Mem) : wpC P c8_27 Q s M = w8_27 P Q M (sget s 1) (sget s 2) (sget s 8) (sget s 9) (sget s 10) := by kernel_rfl
def c8_28 : ACode := (.seq c8_25 c8_27)
def c8_29 : ACode := (.seq c8_22 c8_28)
def c8_30 : ACode := (.loop [1, 2, 8, 9, 10] c8_29)
def c8_31 : ACode := (.block 0 c8_30)
def c8_32 : ACode := (.seq c8_20 c8_31)
def o8_33 : List AOper := [⟨some 41, (.load 4 true (.tmp 2)), false, none⟩,
  ⟨some 42, (.indexArr 9 7 (.tmp 8) (.const (.int .i64 0))), false, none⟩,
  ⟨some 43, (.fieldAddr 1 (.tmp 42)), false, none⟩,
  ⟨some 44, (.load 1 false (.tmp 43)), false, none⟩,
  ⟨some 45, (.call i_fare_capped [(.tmp 41), (.tmp 44)]), false, none⟩,
  ⟨some 46, (.mov (.tmp 9)), false, none⟩,
  ⟨some 4, (.mov (.tmp 45)), false, none⟩,
  ⟨some 5, (.mov (.tmp 46)), false, none⟩,
  ⟨some 6, (.mov (.const (.int .i64 0))), false, none⟩]
def c8_34 : ACode := (.region o8_33 [4, 5, 6])
def w8_34 (P : Program) (Q : Exit → Slots → Mem → Prop) (M : Mem) (v2 : V) (v8 : V) (v9 : V) : Prop :=
  @OptVH (loadV 4 true v2 M) ⟨fun t41_1 =>
  @OptVH (indexArrV 9 7 v8 (.int .i64 0)) ⟨fun t42_2 =>
  @OptVH (moveV 1 t42_2) ⟨fun t43_3 =>
  @OptVH (loadV 1 false t43_3 M) ⟨fun t44_4 =>
  @CallH P i_fare_capped [t41_1, t44_4] M ⟨fun t45_5 M5 =>
  Q .normal [(4, t45_5), (5, v9), (6, (.int .i64 0))] M5⟩⟩⟩⟩⟩
theorem e8_34 (P : Program) (Q : Exit → Slots → Mem → Prop) (s : Slots) (M : Mem) : wpC P c8_34 Q s M = w8_34 P Q M (sget s 2) (sget s 8) (sget s 9) := by kernel_rfl
def c8_35 : ACode := (.seq c8_34 .ret)
def c8_36 : ACode := (.seq c8_32 c8_35)
def c8_37 : ACode := (.seq c8_18 c8_36)
def c8_38 : ACode := (.seq c8_16 c8_37)
def c8_39 : ACode := (.seq c8_11 c8_38)
def c8_40 : ACode := (.seq c8_9 c8_39)
def c8_41 : ACode := (.seq c8_1 c8_40)
def fn_fare_Price : AFn := ⟨47, [(.tmp 4), (.tmp 5), (.tmp 6)], c8_41⟩
theorem fn_fare_Price_ok : resFn PR h_fare_Price i_fare_Price = some fn_fare_Price := by kernel_rfl

def h_transitref35_Same : Hints := ⟨[(0, [0, 1]), (1, [0, 1, 10]), (2, [4]), (3, [0, 1, 5]), (4, [0, 1, 5, 14]), (5, [0, 1, 5]), (6, [0, 1, 5, 25]), (7, [4]), (8, [4])], [(4, [0, 1, 5])], []⟩
def o9_0 : List AOper := [⟨some 4, (.mov (.const (.bool false))), true, none⟩]
def c9_1 : ACode := (.region o9_0 [0, 1])
def w9_1 (_P : Program) (Q : Exit → Slots → Mem → Prop) (M : Mem) (v0 : V) (v1 : V) : Prop :=
  Q .normal [(0, v0), (1, v1)] M
theorem e9_1 (P : Program) (Q : Exit → Slots → Mem → Prop) (s : Slots) (M : Mem) : wpC P c9_1 Q s M = w9_1 P Q M (sget s 0) (sget s 1) := by kernel_rfl
def o9_2 : List AOper := [⟨some 4, (.mov (.const (.bool false))), true, none⟩]
def c9_3 : ACode := (.region o9_2 [4])
def w9_3 (_P : Program) (Q : Exit → Slots → Mem → Prop) (M : Mem) : Prop :=
  Q .normal [(4, (.bool false))] M
theorem e9_3 (P : Program) (Q : Exit → Slots → Mem → Prop) (s : Slots) (M : Mem) : wpC P c9_3 Q s M = w9_3 P Q M := by kernel_rfl
def c9_4 : ACode := (.seq c9_3 .ret)
def o9_5 : List AOper := [⟨some 6, (.mov (.tmp 0)), false, none⟩,
  ⟨some 7, (.lenSl (.tmp 6)), false, none⟩,
  ⟨some 8, (.mov (.tmp 1)), false, none⟩,
  ⟨some 9, (.lenSl (.tmp 8)), false, none⟩,
  ⟨some 10, (.bin .neq .none (.tmp 7) (.tmp 9)), true, none⟩]
def c9_6 : ACode := (.seq (.region o9_5 [0, 1, 10]) (.cond (.tmp 10) c9_4 .skip))
def w9_6 (P : Program) (Q : Exit → Slots → Mem → Prop) (M : Mem) (v0 : V) (v1 : V) : Prop :=
  @OptVH (lenV v0 M) ⟨fun t7_2 =>
  @OptVH (lenV v1 M) ⟨fun t9_4 =>
  @OptBH (binV .neq .none t7_2 t9_4) ⟨fun b10_5 =>
  @BIfH b10_5
  ⟨wpC P c9_4 Q [(0, v0), (1, v1), (10, (.bool b10_5))] M⟩
  ⟨Q .normal [(0, v0), (1, v1), (10, (.bool b10_5))] M⟩⟩⟩⟩
theorem e9_6 (P : Program) (Q : Exit → Slots → Mem → Prop) (s : Slots) (M : Mem) : wpC P c9_6 Q s M = w9_6 P Q M (sget s 0) (sget s 1) := by kernel_rfl
def o9_7 : List AOper := [⟨some 5, (.mov (.const (.int .i64 0))), false, none⟩]
def c9_8 : ACode := (.region o9_7 [0, 1, 5])
def w9_8 (_P : Program) (Q : Exit → Slots → Mem → Prop) (M : Mem) (v0 : V) (v1 : V) : Prop :=
  Q .normal [(0, v0), (1, v1), (5, (.int .i64 0))] M
theorem e9_8 (P : Program) (Q : Exit → Slots → Mem → Prop) (s : Slots) (M : Mem) : wpC P c9_8 Q s M = w9_8 P Q M (sget s 0) (sget s 1) := by kernel_rfl
def o9_9 : List AOper := [⟨some 11, (.mov (.tmp 5)), false, none⟩,
  ⟨some 12, (.mov (.tmp 0)), false, none⟩,
  ⟨some 13, (.lenSl (.tmp 12)), false, none⟩,
  ⟨some 14, (.bin .lss .none (.tmp 11) (.tmp 13)), true, none⟩]
def c9_10 : ACode := (.seq (.region o9_9 [0, 1, 5, 14]) (.cond (.tmp 14) .skip (.exit 0)))
def w9_10 (_P : Program) (Q : Exit → Slots → Mem → Prop) (M : Mem) (v0 : V) (v1 : V) (v5 : V) : Prop :=
  @OptVH (lenV v0 M) ⟨fun t13_3 =>
  @OptBH (binV .lss .none v5 t13_3) ⟨fun b14_4 =>
  @BIfH b14_4
  ⟨Q .normal [(0, v0), (1, v1), (5, v5), (14, (.bool b14_4))] M⟩
  ⟨Q (.exit 0) [(0, v0), (1, v1), (5, v5), (14, (.bool b14_4))] M⟩⟩⟩
theorem e9_10 (P : Program) (Q : Exit → Slots → Mem → Prop) (s : Slots) (M : Mem) : wpC P c9_10 Q s M = w9_10 P Q M (sget s 0) (sget s 1) (sget s 5) := by kernel_rfl
def o9_11 : List AOper := [⟨some 4, (.mov (.const (.bool false))), true, none⟩]
def c9_12 : ACode := (.region o9_11 [4])
def w9_12 (_P : Program) (Q : Exit → Slots → Mem → Prop) (M : Mem) : Prop :=
  Q .normal [(4, (.bool false))] M
theorem e9_12 (P : Program) (Q : Exit → Slots → Mem → Prop) (s : Slots) (M : Mem) : wpC P c9_12 Q s M = w9_12 P Q M := by kernel_rfl
def c9_13 : ACode := (.seq c9_12 .ret)
def o9_14 : List AOper := [⟨some 17, (.mov (.tmp 0)), false, none⟩,
  ⟨some 18, (.mov (.tmp 5)), false, none⟩,
  ⟨some 19, (.indexSl 4 (.tmp 17) (.tmp 18)), false, none⟩,
  ⟨some 20, (.load 4 true (.tmp 19)), false, none⟩,
  ⟨some 21, (.mov (.tmp 1)), false, none⟩,
  ⟨some 22, (.mov (.tmp 5)), false, none⟩,
  ⟨some 23, (.indexSl 4 (.tmp 21) (.tmp 22)), false, none⟩,
  ⟨some 24, (.load 4 true (.tmp 23)), false, none⟩,
  ⟨some 25, (.bin .neq (.cells [.int, .int, .int, .int]) (.tmp 20) (.tmp 24)), true, none⟩]
def c9_15 : ACode := (.seq (.mixed o9_14 [true, true, true, true, true, true, true, true, true] [0, 1, 5, 25]) (.cond (.tmp 25) c9_13 .skip))
def w9_15 (P : Program) (Q : Exit → Slots → Mem → Prop) (M : Mem) (v0 : V) (v1 : V) (v5 : V) : Prop :=
  @OptVH (indexSlV 4 v0 v5 M) ⟨fun t19_3 =>
  @OptVH (loadV 4 true t19_3 M) ⟨fun t20_4 =>
  @OptVH (indexSlV 4 v1 v5 M) ⟨fun t23_7 =>
  @OptVH (loadV 4 true t23_7 M) ⟨fun t24_8 =>
  @OptBH (binV .neq (.cells [.int, .int, .int, .int]) t20_4 t24_8) ⟨fun b25_9 =>
  @BIfH b25_9
  ⟨wpC P c9_13 Q [(0, v0), (1, v1), (5, v5), (25, (.bool b25_9))] M⟩
  ⟨Q .normal [(0, v0), (1, v1), (5, v5), (25, (.bool b25_9))] M⟩⟩⟩⟩⟩⟩
theorem e9_15 (P : Program) (Q : Exit → Slots → Mem → Prop) (s : Slots) (M : Mem) : wpC P c9_15 Q s M = w9_15 P Q M (sget s 0) (sget s 1) (sget s 5) := by kernel_rfl
def c9_16 : ACode := (.block 1 c9_15)
def o9_17 : List AOper := [⟨some 15, (.mov (.tmp 5)), false, none⟩,
  ⟨some 16, (.bin .add .none (.tmp 15) (.const (.int .i64 1))), false, none⟩,
  ⟨some 5, (.mov (.tmp 16)), false, none⟩]
def c9_18 : ACode := (.region o9_17 [0, 1, 5])
def w9_18 (_P : Program) (Q : Exit → Slots → Mem → Prop) (M : Mem) (v0 : V) (v1 : V) (v5 : V) : Prop :=
  @OptVH (binV .add .none v5 (.int .i64 1)) ⟨fun t16_2 =>
  Q .normal [(0, v0), (1, v1), (5, t16_2)] M⟩
theorem e9_18 (P : Program) (Q : Exit → Slots → Mem → Prop) (s : Slots) (M : Mem) : wpC P c9_18 Q s M = w9_18 P Q M (sget s 0) (sget s 1) (sget s 5) := by kernel_rfl
def c9_19 : ACode := (.seq c9_16 c9_18)
def c9_20 : ACode := (.seq c9_10 c9_19)
def c9_21 : ACode := (.loop [0, 1, 5] c9_20)
def c9_22 : ACode := (.block 0 c9_21)
def c9_23 : ACode := (.seq c9_8 c9_22)
def o9_24 : List AOper := [⟨some 4, (.mov (.const (.bool true))), true, none⟩]
def c9_25 : ACode := (.region o9_24 [4])
def w9_25 (_P : Program) (Q : Exit → Slots → Mem → Prop) (M : Mem) : Prop :=
  Q .normal [(4, (.bool true))] M
theorem e9_25 (P : Program) (Q : Exit → Slots → Mem → Prop) (s : Slots) (M : Mem) : wpC P c9_25 Q s M = w9_25 P Q M := by kernel_rfl
def c9_26 : ACode := (.seq c9_25 .ret)
def c9_27 : ACode := (.seq c9_23 c9_26)
def c9_28 : ACode := (.seq c9_6 c9_27)
def c9_29 : ACode := (.seq c9_1 c9_28)
def fn_transitref35_Same : AFn := ⟨26, [(.tmp 4)], c9_29⟩
theorem fn_transitref35_Same_ok : resFn PR h_transitref35_Same i_transitref35_Same = some fn_transitref35_Same := by kernel_rfl

def h_fare_valid : Hints := ⟨[(0, [1, 2]), (1, [1, 6]), (2, [1, 13]), (3, [4]), (4, [16]), (5, [4]), (6, [4])], [], []⟩
def o10_0 : List AOper := [⟨some 2, (.box 4 (.tmp 0)), false, none⟩,
  ⟨some 4, (.mov (.const (.int .i64 0))), false, none⟩]
def c10_1 : ACode := (.region o10_0 [1, 2])
def w10_1 (_P : Program) (Q : Exit → Slots → Mem → Prop) (M : Mem) (v0 : V) (v1 : V) : Prop :=
  @OptMH (boxV 4 v0 M) ⟨fun t2_1 M1 =>
  Q .normal [(1, v1), (2, t2_1)] M1⟩
theorem e10_1 (P : Program) (Q : Exit → Slots → Mem → Prop) (s : Slots) (M : Mem) : wpC P c10_1 Q s M = w10_1 P Q M (sget s 0) (sget s 1) := by kernel_rfl
def o10_2 : List AOper := [⟨some 8, (.load 4 true (.tmp 2)), false, none⟩,
  ⟨some 9, (.call i_product_Check [(.tmp 8)]), false, none⟩,
  ⟨some 7, (.mov (.tmp 9)), false, none⟩,
  ⟨some 10, (.extract (.tmp 7) 0), false, none⟩,
  ⟨some 11, (.extract (.tmp 7) 1), false, none⟩,
  ⟨some 5, (.mov (.tmp 10)), false, none⟩,
  ⟨some 6, (.mov (.tmp 11)), false, none⟩]
def c10_3 : ACode := (.region o10_2 [1, 6])
def w10_3 (P : Program) (Q : Exit → Slots → Mem → Prop) (M : Mem) (v1 : V) (v2 : V) : Prop :=
  @OptVH (loadV 4 true v2 M) ⟨fun t8_1 =>
  @CallH P i_product_Check [t8_1] M ⟨fun t9_2 M2 =>
  @OptVH (extractV t9_2 0) ⟨fun _t10_4 =>
  @OptVH (extractV t9_2 1) ⟨fun t11_5 =>
  Q .normal [(1, v1), (6, t11_5)] M2⟩⟩⟩⟩
theorem e10_3 (P : Program) (Q : Exit → Slots → Mem → Prop) (s : Slots) (M : Mem) : wpC P c10_3 Q s M = w10_3 P Q M (sget s 1) (sget s 2) := by kernel_rfl
def o10_4 : List AOper := [⟨some 4, (.mov (.const (.int .i64 20))), false, none⟩]
def c10_5 : ACode := (.region o10_4 [4])
def w10_5 (_P : Program) (Q : Exit → Slots → Mem → Prop) (M : Mem) : Prop :=
  Q .normal [(4, (.int .i64 20))] M
theorem e10_5 (P : Program) (Q : Exit → Slots → Mem → Prop) (s : Slots) (M : Mem) : wpC P c10_5 Q s M = w10_5 P Q M := by kernel_rfl
def c10_6 : ACode := (.seq c10_5 .ret)
def o10_7 : List AOper := [⟨some 12, (.mov (.tmp 6)), false, none⟩,
  ⟨some 13, (.bin .neq .none (.tmp 12) (.const (.int .i64 0))), true, none⟩]
def c10_8 : ACode := (.seq (.region o10_7 [1, 13]) (.cond (.tmp 13) c10_6 .skip))
def w10_8 (P : Program) (Q : Exit → Slots → Mem → Prop) (M : Mem) (v1 : V) (v6 : V) : Prop :=
  @OptBH (binV .neq .none v6 (.int .i64 0)) ⟨fun b13_2 =>
  @BIfH b13_2
  ⟨wpC P c10_6 Q [(1, v1), (13, (.bool b13_2))] M⟩
  ⟨Q .normal [(1, v1), (13, (.bool b13_2))] M⟩⟩
theorem e10_8 (P : Program) (Q : Exit → Slots → Mem → Prop) (s : Slots) (M : Mem) : wpC P c10_8 Q s M = w10_8 P Q M (sget s 1) (sget s 6) := by kernel_rfl
def c10_9 : ACode := (.seq c10_3 c10_8)
def o10_10 : List AOper := [⟨some 4, (.mov (.const (.int .i64 33))), false, none⟩]
def c10_11 : ACode := (.region o10_10 [4])
def w10_11 (_P : Program) (Q : Exit → Slots → Mem → Prop) (M : Mem) : Prop :=
  Q .normal [(4, (.int .i64 33))] M
theorem e10_11 (P : Program) (Q : Exit → Slots → Mem → Prop) (s : Slots) (M : Mem) : wpC P c10_11 Q s M = w10_11 P Q M := by kernel_rfl
def c10_12 : ACode := (.seq c10_11 .ret)
def o10_13 : List AOper := [⟨some 14, (.mov (.tmp 1)), false, none⟩,
  ⟨some 15, (.lenSl (.tmp 14)), false, none⟩,
  ⟨some 16, (.bin .gtr .none (.tmp 15) (.const (.int .i64 8))), true, none⟩]
def c10_14 : ACode := (.seq (.region o10_13 [16]) (.cond (.tmp 16) c10_12 .skip))
def w10_14 (P : Program) (Q : Exit → Slots → Mem → Prop) (M : Mem) (v1 : V) : Prop :=
  @OptVH (lenV v1 M) ⟨fun t15_2 =>
  @OptBH (binV .gtr .none t15_2 (.int .i64 8)) ⟨fun b16_3 =>
  @BIfH b16_3
  ⟨wpC P c10_12 Q [(16, (.bool b16_3))] M⟩
  ⟨Q .normal [(16, (.bool b16_3))] M⟩⟩⟩
theorem e10_14 (P : Program) (Q : Exit → Slots → Mem → Prop) (s : Slots) (M : Mem) : wpC P c10_14 Q s M = w10_14 P Q M (sget s 1) := by kernel_rfl
def o10_15 : List AOper := [⟨some 4, (.mov (.const (.int .i64 0))), false, none⟩]
def c10_16 : ACode := (.region o10_15 [4])
def w10_16 (_P : Program) (Q : Exit → Slots → Mem → Prop) (M : Mem) : Prop :=
  Q .normal [(4, (.int .i64 0))] M
theorem e10_16 (P : Program) (Q : Exit → Slots → Mem → Prop) (s : Slots) (M : Mem) : wpC P c10_16 Q s M = w10_16 P Q M := by kernel_rfl
def c10_17 : ACode := (.seq c10_16 .ret)
def c10_18 : ACode := (.seq c10_14 c10_17)
def c10_19 : ACode := (.seq c10_9 c10_18)
def c10_20 : ACode := (.seq c10_1 c10_19)
def fn_fare_valid : AFn := ⟨17, [(.tmp 4)], c10_20⟩
theorem fn_fare_valid_ok : resFn PR h_fare_valid i_fare_valid = some fn_fare_valid := by kernel_rfl

def h_fare_validPrice : Hints := ⟨[(0, [0]), (1, [2])], [], []⟩
def o11_0 : List AOper := [⟨some 2, (.mov (.const (.bool false))), true, none⟩]
def c11_1 : ACode := (.region o11_0 [0])
def w11_1 (_P : Program) (Q : Exit → Slots → Mem → Prop) (M : Mem) (v0 : V) : Prop :=
  Q .normal [(0, v0)] M
theorem e11_1 (P : Program) (Q : Exit → Slots → Mem → Prop) (s : Slots) (M : Mem) : wpC P c11_1 Q s M = w11_1 P Q M (sget s 0) := by kernel_rfl
def o11_2 : List AOper := [⟨some 3, (.mov (.tmp 0)), false, none⟩,
  ⟨some 4, (.bin .geq .none (.tmp 3) (.const (.int .i64 0))), true, none⟩,
  ⟨some 5, (.mov (.tmp 4)), true, none⟩,
  ⟨some 6, (.mov (.tmp 0)), false, some (5, true)⟩,
  ⟨some 7, (.bin .leq .none (.tmp 6) (.const (.int .i64 1000000))), true, some (5, true)⟩,
  ⟨some 8, (.pick (.tmp 5) (.tmp 7) (.const (.bool false))), true, none⟩,
  ⟨some 2, (.mov (.tmp 8)), true, none⟩]
def c11_3 : ACode := (.region o11_2 [2])
def w11_3 (_P : Program) (Q : Exit → Slots → Mem → Prop) (M : Mem) (v0 : V) : Prop :=
  @OptBH (binV .geq .none v0 (.int .i64 0)) ⟨fun b4_2 =>
  @BIfH b4_2
  ⟨@OptBH (binV .leq .none v0 (.int .i64 1000000)) ⟨fun b7_5 =>
  Q .normal [(2, (.bool b7_5))] M⟩⟩
  ⟨Q .normal [(2, (.bool false))] M⟩⟩
theorem e11_3 (P : Program) (Q : Exit → Slots → Mem → Prop) (s : Slots) (M : Mem) : wpC P c11_3 Q s M = w11_3 P Q M (sget s 0) := by kernel_rfl
def c11_4 : ACode := (.seq c11_3 .ret)
def c11_5 : ACode := (.seq c11_1 c11_4)
def fn_fare_validPrice : AFn := ⟨9, [(.tmp 2)], c11_5⟩
theorem fn_fare_validPrice_ok : resFn PR h_fare_validPrice i_fare_validPrice = some fn_fare_validPrice := by kernel_rfl

def h_transitref35_Valid : Hints := ⟨[(0, [1]), (1, [4]), (2, [2])], [], []⟩
def o15_0 : List AOper := [⟨some 1, (.box 4 (.tmp 0)), false, none⟩,
  ⟨some 2, (.mov (.const (.bool false))), true, none⟩]
def c15_1 : ACode := (.region o15_0 [1])
def w15_1 (_P : Program) (Q : Exit → Slots → Mem → Prop) (M : Mem) (v0 : V) : Prop :=
  @OptMH (boxV 4 v0 M) ⟨fun t1_1 M1 =>
  Q .normal [(1, t1_1)] M1⟩
theorem e15_1 (P : Program) (Q : Exit → Slots → Mem → Prop) (s : Slots) (M : Mem) : wpC P c15_1 Q s M = w15_1 P Q M (sget s 0) := by kernel_rfl
def o15_2 : List AOper := [⟨some 6, (.load 4 true (.tmp 1)), false, none⟩,
  ⟨some 7, (.call i_transitref26_Fares [(.tmp 6)]), false, none⟩,
  ⟨some 5, (.mov (.tmp 7)), false, none⟩,
  ⟨some 8, (.extract (.tmp 5) 0), false, none⟩,
  ⟨some 9, (.extract (.tmp 5) 1), false, none⟩,
  ⟨some 3, (.mov (.tmp 8)), false, none⟩,
  ⟨some 4, (.mov (.tmp 9)), false, none⟩]
def c15_3 : ACode := (.region o15_2 [4])
def w15_3 (P : Program) (Q : Exit → Slots → Mem → Prop) (M : Mem) (v1 : V) : Prop :=
  @OptVH (loadV 4 true v1 M) ⟨fun t6_1 =>
  @CallH P i_transitref26_Fares [t6_1] M ⟨fun t7_2 M2 =>
  @OptVH (extractV t7_2 0) ⟨fun _t8_4 =>
  @OptVH (extractV t7_2 1) ⟨fun t9_5 =>
  Q .normal [(4, t9_5)] M2⟩⟩⟩⟩
theorem e15_3 (P : Program) (Q : Exit → Slots → Mem → Prop) (s : Slots) (M : Mem) : wpC P c15_3 Q s M = w15_3 P Q M (sget s 1) := by kernel_rfl
def o15_4 : List AOper := [⟨some 10, (.mov (.tmp 4)), false, none⟩,
  ⟨some 11, (.bin .eql .none (.tmp 10) (.const (.int .i64 0))), true, none⟩,
  ⟨some 2, (.mov (.tmp 11)), true, none⟩]
def c15_5 : ACode := (.region o15_4 [2])
def w15_5 (_P : Program) (Q : Exit → Slots → Mem → Prop) (M : Mem) (v4 : V) : Prop :=
  @OptBH (binV .eql .none v4 (.int .i64 0)) ⟨fun b11_2 =>
  Q .normal [(2, (.bool b11_2))] M⟩
theorem e15_5 (P : Program) (Q : Exit → Slots → Mem → Prop) (s : Slots) (M : Mem) : wpC P c15_5 Q s M = w15_5 P Q M (sget s 4) := by kernel_rfl
def c15_6 : ACode := (.seq c15_5 .ret)
def c15_7 : ACode := (.seq c15_3 c15_6)
def c15_8 : ACode := (.seq c15_1 c15_7)
def fn_transitref35_Valid : AFn := ⟨12, [(.tmp 2)], c15_8⟩
theorem fn_transitref35_Valid_ok : resFn PR h_transitref35_Valid i_transitref35_Valid = some fn_transitref35_Valid := by kernel_rfl

def h_transitref35_number : Hints := ⟨[(0, [0]), (1, [0, 3]), (2, [0, 3, 11]), (3, [0, 3]), (4, [0, 3]), (5, [2])], [(2, [0, 3])], []⟩
def o16_0 : List AOper := [⟨some 2, (.mov (.const (.str []))), false, none⟩]
def c16_1 : ACode := (.region o16_0 [0])
def w16_1 (_P : Program) (Q : Exit → Slots → Mem → Prop) (M : Mem) (v0 : V) : Prop :=
  Q .normal [(0, v0)] M
theorem e16_1 (P : Program) (Q : Exit → Slots → Mem → Prop) (s : Slots) (M : Mem) : wpC P c16_1 Q s M = w16_1 P Q M (sget s 0) := by kernel_rfl
def o16_2 : List AOper := [⟨some 4, (.mov (.tmp 0)), false, none⟩,
  ⟨some 5, (.bin .rem .none (.tmp 4) (.const (.int .i64 10))), false, none⟩,
  ⟨some 6, (.bin .add .none (.const (.int .i64 48)) (.tmp 5)), false, none⟩,
  ⟨some 7, (.conv .u8 (.tmp 6)), false, none⟩,
  ⟨some 8, (.buildSlice [(.int .u8 0)] 1 1 [(0, (1, (.tmp 7)))]), false, none⟩,
  ⟨some 9, (.bytesStr (.tmp 8)), false, none⟩,
  ⟨some 3, (.mov (.tmp 9)), false, none⟩]
def c16_3 : ACode := (.region o16_2 [0, 3])
def w16_3 (_P : Program) (Q : Exit → Slots → Mem → Prop) (M : Mem) (v0 : V) : Prop :=
  @OptVH (binV .rem .none v0 (.int .i64 10)) ⟨fun t5_2 =>
  @OptVH (binV .add .none (.int .i64 48) t5_2) ⟨fun t6_3 =>
  @OptVH (convV .u8 t6_3) ⟨fun t7_4 =>
  @OptVH (buildSliceV [(.int .u8 0)] 1 1 [(0, 1, t7_4)]) ⟨fun t8_5 =>
  @OptVH (bytesStrV t8_5 M) ⟨fun t9_6 =>
  Q .normal [(0, v0), (3, t9_6)] M⟩⟩⟩⟩⟩
theorem e16_3 (P : Program) (Q : Exit → Slots → Mem → Prop) (s : Slots) (M : Mem) : wpC P c16_3 Q s M = w16_3 P Q M (sget s 0) := by kernel_rfl
def o16_4 : List AOper := [⟨some 10, (.mov (.tmp 0)), false, none⟩,
  ⟨some 11, (.bin .geq .none (.tmp 10) (.const (.int .i64 10))), true, none⟩]
def c16_5 : ACode := (.seq (.region o16_4 [0, 3, 11]) (.cond (.tmp 11) .skip (.exit 0)))
def w16_5 (_P : Program) (Q : Exit → Slots → Mem → Prop) (M : Mem) (v0 : V) (v3 : V) : Prop :=
  @OptBH (binV .geq .none v0 (.int .i64 10)) ⟨fun b11_2 =>
  @BIfH b11_2
  ⟨Q .normal [(0, v0), (3, v3), (11, (.bool b11_2))] M⟩
  ⟨Q (.exit 0) [(0, v0), (3, v3), (11, (.bool b11_2))] M⟩⟩
theorem e16_5 (P : Program) (Q : Exit → Slots → Mem → Prop) (s : Slots) (M : Mem) : wpC P c16_5 Q s M = w16_5 P Q M (sget s 0) (sget s 3) := by kernel_rfl
def o16_6 : List AOper := [⟨some 12, (.mov (.tmp 0)), false, none⟩,
  ⟨some 13, (.bin .quo .none (.tmp 12) (.const (.int .i64 10))), false, none⟩,
  ⟨some 0, (.mov (.tmp 13)), false, none⟩]
def c16_7 : ACode := (.region o16_6 [0, 3])
def w16_7 (_P : Program) (Q : Exit → Slots → Mem → Prop) (M : Mem) (v0 : V) (v3 : V) : Prop :=
  @OptVH (binV .quo .none v0 (.int .i64 10)) ⟨fun t13_2 =>
  Q .normal [(0, t13_2), (3, v3)] M⟩
theorem e16_7 (P : Program) (Q : Exit → Slots → Mem → Prop) (s : Slots) (M : Mem) : wpC P c16_7 Q s M = w16_7 P Q M (sget s 0) (sget s 3) := by kernel_rfl
def o16_8 : List AOper := [⟨some 14, (.mov (.tmp 0)), false, none⟩,
  ⟨some 15, (.bin .rem .none (.tmp 14) (.const (.int .i64 10))), false, none⟩,
  ⟨some 16, (.bin .add .none (.const (.int .i64 48)) (.tmp 15)), false, none⟩,
  ⟨some 17, (.conv .u8 (.tmp 16)), false, none⟩,
  ⟨some 18, (.buildSlice [(.int .u8 0)] 1 1 [(0, (1, (.tmp 17)))]), false, none⟩,
  ⟨some 19, (.bytesStr (.tmp 18)), false, none⟩,
  ⟨some 20, (.mov (.tmp 3)), false, none⟩,
  ⟨some 21, (.bin .add .none (.tmp 19) (.tmp 20)), false, none⟩,
  ⟨some 3, (.mov (.tmp 21)), false, none⟩]
def c16_9 : ACode := (.region o16_8 [0, 3])
def w16_9 (_P : Program) (Q : Exit → Slots → Mem → Prop) (M : Mem) (v0 : V) (v3 : V) : Prop :=
  @OptVH (binV .rem .none v0 (.int .i64 10)) ⟨fun t15_2 =>
  @OptVH (binV .add .none (.int .i64 48) t15_2) ⟨fun t16_3 =>
  @OptVH (convV .u8 t16_3) ⟨fun t17_4 =>
  @OptVH (buildSliceV [(.int .u8 0)] 1 1 [(0, 1, t17_4)]) ⟨fun t18_5 =>
  @OptVH (bytesStrV t18_5 M) ⟨fun t19_6 =>
  @OptVH (binV .add .none t19_6 v3) ⟨fun t21_8 =>
  Q .normal [(0, v0), (3, t21_8)] M⟩⟩⟩⟩⟩⟩
theorem e16_9 (P : Program) (Q : Exit → Slots → Mem → Prop) (s : Slots) (M : Mem) : wpC P c16_9 Q s M = w16_9 P Q M (sget s 0) (sget s 3) := by kernel_rfl
def c16_10 : ACode := (.seq c16_7 c16_9)
def c16_11 : ACode := (.block 1 c16_10)
def c16_12 : ACode := (.seq c16_5 c16_11)
def c16_13 : ACode := (.loop [0, 3] c16_12)
def c16_14 : ACode := (.block 0 c16_13)
def o16_15 : List AOper := [⟨some 22, (.mov (.tmp 3)), false, none⟩,
  ⟨some 2, (.mov (.tmp 22)), false, none⟩]
def c16_16 : ACode := (.region o16_15 [2])
def w16_16 (_P : Program) (Q : Exit → Slots → Mem → Prop) (M : Mem) (v3 : V) : Prop :=
  Q .normal [(2, v3)] M
theorem e16_16 (P : Program) (Q : Exit → Slots → Mem → Prop) (s : Slots) (M : Mem) : wpC P c16_16 Q s M = w16_16 P Q M (sget s 3) := by kernel_rfl
def c16_17 : ACode := (.seq c16_16 .ret)
def c16_18 : ACode := (.seq c16_14 c16_17)
def c16_19 : ACode := (.seq c16_3 c16_18)
def c16_20 : ACode := (.seq c16_1 c16_19)
def fn_transitref35_number : AFn := ⟨23, [(.tmp 2)], c16_20⟩
theorem fn_transitref35_number_ok : resFn PR h_transitref35_number i_transitref35_number = some fn_transitref35_number := by kernel_rfl

def h_fare_divide : Hints := ⟨[(0, [2, 3, 4]), (1, [2, 3, 4, 5]), (2, [2, 3, 4, 5, 6]), (3, [2, 3, 4, 5, 6]), (4, [2, 4, 5, 6, 7]), (5, [2, 4, 5, 6, 7, 8]), (6, [2, 4, 5, 6, 7, 8, 20]), (7, [2, 4, 5, 6, 7, 8]), (8, [2, 4, 5, 6, 7, 8, 9]), (9, [2, 4, 5, 6, 7, 8, 9, 26]), (10, [2, 4, 5, 6, 7, 8, 9]), (11, [2, 4, 5, 6, 7, 8, 9, 31, 32]), (12, [2, 4, 5, 6, 7, 8, 9, 31, 32, 33]), (13, [2, 4, 5, 6, 7, 8, 9, 10, 31, 32]), (14, [2, 4, 5, 6, 7, 8, 9, 10, 31, 32, 39]), (15, [2, 4, 5, 6, 7, 8, 9, 31, 32]), (16, [2, 4, 5, 6, 7, 8, 9, 31, 32]), (17, [4])], [(6, [2, 4, 5, 6, 7, 8]), (9, [2, 4, 5, 6, 7, 8, 9]), (12, [2, 4, 5, 6, 7, 8, 9, 31, 32])], []⟩
def o17_0 : List AOper := [⟨some 2, (.box 4 (.tmp 0)), false, none⟩,
  ⟨some 3, (.box 1 (.tmp 1)), false, none⟩,
  ⟨some 4, (.alloc [(.bool false), (.int .i64 0), (.int .i64 0), (.int .i64 0), (.int .i64 0), (.int .i64 0), (.int .i64 0), (.bool false), (.int .i64 0), (.int .i64 0), (.int .i64 0), (.int .i64 0), (.int .i64 0), (.int .i64 0), (.bool false), (.int .i64 0), (.int .i64 0), (.int .i64 0), (.int .i64 0), (.int .i64 0), (.int .i64 0), (.bool false), (.int .i64 0), (.int .i64 0), (.int .i64 0), (.int .i64 0), (.int .i64 0), (.int .i64 0), (.bool false), (.int .i64 0), (.int .i64 0), (.int .i64 0), (.int .i64 0), (.int .i64 0), (.int .i64 0), (.bool false), (.int .i64 0), (.int .i64 0), (.int .i64 0), (.int .i64 0), (.int .i64 0), (.int .i64 0), (.bool false), (.int .i64 0), (.int .i64 0), (.int .i64 0), (.int .i64 0), (.int .i64 0), (.int .i64 0), (.bool false), (.int .i64 0), (.int .i64 0), (.int .i64 0), (.int .i64 0), (.int .i64 0), (.int .i64 0), (.bool false), (.int .i64 0), (.int .i64 0), (.int .i64 0), (.int .i64 0), (.int .i64 0), (.int .i64 0)]), false, none⟩]
def c17_1 : ACode := (.region o17_0 [2, 3, 4])
def w17_1 (_P : Program) (Q : Exit → Slots → Mem → Prop) (M : Mem) (v0 : V) (v1 : V) : Prop :=
  @OptMH (boxV 4 v0 M) ⟨fun t2_1 M1 =>
  @OptMH (boxV 1 v1 M1) ⟨fun t3_2 M2 =>
  @OptMH (allocV [(.bool false), (.int .i64 0), (.int .i64 0), (.int .i64 0), (.int .i64 0), (.int .i64 0), (.int .i64 0), (.bool false), (.int .i64 0), (.int .i64 0), (.int .i64 0), (.int .i64 0), (.int .i64 0), (.int .i64 0), (.bool false), (.int .i64 0), (.int .i64 0), (.int .i64 0), (.int .i64 0), (.int .i64 0), (.int .i64 0), (.bool false), (.int .i64 0), (.int .i64 0), (.int .i64 0), (.int .i64 0), (.int .i64 0), (.int .i64 0), (.bool false), (.int .i64 0), (.int .i64 0), (.int .i64 0), (.int .i64 0), (.int .i64 0), (.int .i64 0), (.bool false), (.int .i64 0), (.int .i64 0), (.int .i64 0), (.int .i64 0), (.int .i64 0), (.int .i64 0), (.bool false), (.int .i64 0), (.int .i64 0), (.int .i64 0), (.int .i64 0), (.int .i64 0), (.int .i64 0), (.bool false), (.int .i64 0), (.int .i64 0), (.int .i64 0), (.int .i64 0), (.int .i64 0), (.int .i64 0), (.bool false), (.int .i64 0), (.int .i64 0), (.int .i64 0), (.int .i64 0), (.int .i64 0), (.int .i64 0)] M2) ⟨fun t4_3 M3 =>
  Q .normal [(2, t2_1), (3, t3_2), (4, t4_3)] M3⟩⟩⟩
theorem e17_1 (P : Program) (Q : Exit → Slots → Mem → Prop) (s : Slots) (M : Mem) : wpC P c17_1 Q s M = w17_1 P Q M (sget s 0) (sget s 1) := by kernel_rfl
def o17_2 : List AOper := [⟨some 5, (.alloc [(.bool false), (.int .i64 0), (.int .i64 0), (.int .i64 0), (.int .i64 0), (.int .i64 0), (.int .i64 0), (.bool false), (.int .i64 0), (.int .i64 0), (.int .i64 0), (.int .i64 0), (.int .i64 0), (.int .i64 0), (.bool false), (.int .i64 0), (.int .i64 0), (.int .i64 0), (.int .i64 0), (.int .i64 0), (.int .i64 0), (.bool false), (.int .i64 0), (.int .i64 0), (.int .i64 0), (.int .i64 0), (.int .i64 0), (.int .i64 0), (.bool false), (.int .i64 0), (.int .i64 0), (.int .i64 0), (.int .i64 0), (.int .i64 0), (.int .i64 0), (.bool false), (.int .i64 0), (.int .i64 0), (.int .i64 0), (.int .i64 0), (.int .i64 0), (.int .i64 0), (.bool false), (.int .i64 0), (.int .i64 0), (.int .i64 0), (.int .i64 0), (.int .i64 0), (.int .i64 0), (.bool false), (.int .i64 0), (.int .i64 0), (.int .i64 0), (.int .i64 0), (.int .i64 0), (.int .i64 0), (.bool false), (.int .i64 0), (.int .i64 0), (.int .i64 0), (.int .i64 0), (.int .i64 0), (.int .i64 0)]), false, none⟩]
def c17_3 : ACode := (.region o17_2 [2, 3, 4, 5])
def w17_3 (_P : Program) (Q : Exit → Slots → Mem → Prop) (M : Mem) (v2 : V) (v3 : V) (v4 : V) : Prop :=
  @OptMH (allocV [(.bool false), (.int .i64 0), (.int .i64 0), (.int .i64 0), (.int .i64 0), (.int .i64 0), (.int .i64 0), (.bool false), (.int .i64 0), (.int .i64 0), (.int .i64 0), (.int .i64 0), (.int .i64 0), (.int .i64 0), (.bool false), (.int .i64 0), (.int .i64 0), (.int .i64 0), (.int .i64 0), (.int .i64 0), (.int .i64 0), (.bool false), (.int .i64 0), (.int .i64 0), (.int .i64 0), (.int .i64 0), (.int .i64 0), (.int .i64 0), (.bool false), (.int .i64 0), (.int .i64 0), (.int .i64 0), (.int .i64 0), (.int .i64 0), (.int .i64 0), (.bool false), (.int .i64 0), (.int .i64 0), (.int .i64 0), (.int .i64 0), (.int .i64 0), (.int .i64 0), (.bool false), (.int .i64 0), (.int .i64 0), (.int .i64 0), (.int .i64 0), (.int .i64 0), (.int .i64 0), (.bool false), (.int .i64 0), (.int .i64 0), (.int .i64 0), (.int .i64 0), (.int .i64 0), (.int .i64 0), (.bool false), (.int .i64 0), (.int .i64 0), (.int .i64 0), (.int .i64 0), (.int .i64 0), (.int .i64 0)] M) ⟨fun t5_1 M1 =>
  Q .normal [(2, v2), (3, v3), (4, v4), (5, t5_1)] M1⟩
theorem e17_3 (P : Program) (Q : Exit → Slots → Mem → Prop) (s : Slots) (M : Mem) : wpC P c17_3 Q s M = w17_3 P Q M (sget s 2) (sget s 3) (sget s 4) := by kernel_rfl
def o17_4 : List AOper := [⟨some 11, (.load 1 false (.tmp 3)), false, none⟩,
  ⟨some 12, (.lenSl (.tmp 11)), false, none⟩,
  ⟨some 6, (.mov (.tmp 12)), false, none⟩]
def c17_5 : ACode := (.region o17_4 [2, 3, 4, 5, 6])
def w17_5 (_P : Program) (Q : Exit → Slots → Mem → Prop) (M : Mem) (v2 : V) (v3 : V) (v4 : V) (v5 : V) : Prop :=
  @OptVH (loadV 1 false v3 M) ⟨fun t11_1 =>
  @OptVH (lenV t11_1 M) ⟨fun t12_2 =>
  Q .normal [(2, v2), (3, v3), (4, v4), (5, v5), (6, t12_2)] M⟩⟩
theorem e17_5 (P : Program) (Q : Exit → Slots → Mem → Prop) (s : Slots) (M : Mem) : wpC P c17_5 Q s M = w17_5 P Q M (sget s 2) (sget s 3) (sget s 4) (sget s 5) := by kernel_rfl
def o17_6 : List AOper := [⟨some 13, (.mov (.tmp 6)), false, none⟩,
  ⟨some 14, (.indexArr 9 7 (.tmp 5) (.tmp 13)), false, none⟩,
  ⟨some 15, (.fieldAddr 0 (.tmp 14)), false, none⟩,
  ⟨none, (.store 1 (.tmp 15) (.const (.bool true))), false, none⟩]
def c17_7 : ACode := (.region o17_6 [2, 3, 4, 5, 6])
def w17_7 (_P : Program) (Q : Exit → Slots → Mem → Prop) (M : Mem) (v2 : V) (v3 : V) (v4 : V) (v5 : V) (v6 : V) : Prop :=
  @OptVH (indexArrV 9 7 v5 v6) ⟨fun t14_2 =>
  @OptVH (moveV 0 t14_2) ⟨fun t15_3 =>
  @OptMH (storeVM 1 t15_3 (.bool true) M) ⟨fun _tx_4 M4 =>
  Q .normal [(2, v2), (3, v3), (4, v4), (5, v5), (6, v6)] M4⟩⟩⟩
theorem e17_7 (P : Program) (Q : Exit → Slots → Mem → Prop) (s : Slots) (M : Mem) : wpC P c17_7 Q s M = w17_7 P Q M (sget s 2) (sget s 3) (sget s 4) (sget s 5) (sget s 6) := by kernel_rfl
def o17_8 : List AOper := [⟨some 16, (.mkfn i_fare_divide_1 [(.tmp 2), (.tmp 3), (.tmp 5)]), false, none⟩,
  ⟨some 7, (.mov (.tmp 16)), false, none⟩]
def c17_9 : ACode := (.region o17_8 [2, 4, 5, 6, 7])
def w17_9 (_P : Program) (Q : Exit → Slots → Mem → Prop) (M : Mem) (v2 : V) (v3 : V) (v4 : V) (v5 : V) (v6 : V) : Prop :=
  Q .normal [(2, v2), (4, v4), (5, v5), (6, v6), (7, (mkfnV i_fare_divide_1 [v2, v3, v5]))] M
theorem e17_9 (P : Program) (Q : Exit → Slots → Mem → Prop) (s : Slots) (M : Mem) : wpC P c17_9 Q s M = w17_9 P Q M (sget s 2) (sget s 3) (sget s 4) (sget s 5) (sget s 6) := by kernel_rfl
def o17_10 : List AOper := [⟨some 17, (.mov (.tmp 6)), false, none⟩,
  ⟨some 18, (.bin .sub .none (.tmp 17) (.const (.int .i64 1))), false, none⟩,
  ⟨some 8, (.mov (.tmp 18)), false, none⟩]
def c17_11 : ACode := (.region o17_10 [2, 4, 5, 6, 7, 8])
def w17_11 (_P : Program) (Q : Exit → Slots → Mem → Prop) (M : Mem) (v2 : V) (v4 : V) (v5 : V) (v6 : V) (v7 : V) : Prop :=
  @OptVH (binV .sub .none v6 (.int .i64 1)) ⟨fun t18_2 =>
  Q .normal [(2, v2), (4, v4), (5, v5), (6, v6), (7, v7), (8, t18_2)] M⟩
theorem e17_11 (P : Program) (Q : Exit → Slots → Mem → Prop) (s : Slots) (M : Mem) : wpC P c17_11 Q s M = w17_11 P Q M (sget s 2) (sget s 4) (sget s 5) (sget s 6) (sget s 7) := by kernel_rfl
def o17_12 : List AOper := [⟨some 19, (.mov (.tmp 8)), false, none⟩,
  ⟨some 20, (.bin .geq .none (.tmp 19) (.const (.int .i64 0))), true, none⟩]
def c17_13 : ACode := (.seq (.region o17_12 [2, 4, 5, 6, 7, 8, 20]) (.cond (.tmp 20) .skip (.exit 0)))
def w17_13 (_P : Program) (Q : Exit → Slots → Mem → Prop) (M : Mem) (v2 : V) (v4 : V) (v5 : V) (v6 : V) (v7 : V) (v8 : V) : Prop :=
  @OptBH (binV .geq .none v8 (.int .i64 0)) ⟨fun b20_2 =>
  @BIfH b20_2
  ⟨Q .normal [(2, v2), (4, v4), (5, v5), (6, v6), (7, v7), (8, v8), (20, (.bool b20_2))] M⟩
  ⟨Q (.exit 0) [(2, v2), (4, v4), (5, v5), (6, v6), (7, v7), (8, v8), (20, (.bool b20_2))] M⟩⟩
theorem e17_13 (P : Program) (Q : Exit → Slots → Mem → Prop) (s : Slots) (M : Mem) : wpC P c17_13 Q s M = w17_13 P Q M (sget s 2) (sget s 4) (sget s 5) (sget s 6) (sget s 7) (sget s 8) := by kernel_rfl
def o17_14 : List AOper := [⟨some 23, (.mov (.tmp 8)), false, none⟩,
  ⟨some 9, (.mov (.tmp 23)), false, none⟩]
def c17_15 : ACode := (.region o17_14 [2, 4, 5, 6, 7, 8, 9])
def w17_15 (_P : Program) (Q : Exit → Slots → Mem → Prop) (M : Mem) (v2 : V) (v4 : V) (v5 : V) (v6 : V) (v7 : V) (v8 : V) : Prop :=
  Q .normal [(2, v2), (4, v4), (5, v5), (6, v6), (7, v7), (8, v8), (9, v8)] M
theorem e17_15 (P : Program) (Q : Exit → Slots → Mem → Prop) (s : Slots) (M : Mem) : wpC P c17_15 Q s M = w17_15 P Q M (sget s 2) (sget s 4) (sget s 5) (sget s 6) (sget s 7) (sget s 8) := by kernel_rfl
def o17_16 : List AOper := [⟨some 24, (.mov (.tmp 9)), false, none⟩,
  ⟨some 25, (.mov (.tmp 6)), false, none⟩,
  ⟨some 26, (.bin .lss .none (.tmp 24) (.tmp 25)), true, none⟩]
def c17_17 : ACode := (.seq (.region o17_16 [2, 4, 5, 6, 7, 8, 9, 26]) (.cond (.tmp 26) .skip (.exit 2)))
def w17_17 (_P : Program) (Q : Exit → Slots → Mem → Prop) (M : Mem) (v2 : V) (v4 : V) (v5 : V) (v6 : V) (v7 : V) (v8 : V) (v9 : V) : Prop :=
  @OptBH (binV .lss .none v9 v6) ⟨fun b26_3 =>
  @BIfH b26_3
  ⟨Q .normal [(2, v2), (4, v4), (5, v5), (6, v6), (7, v7), (8, v8), (9, v9), (26, (.bool b26_3))] M⟩
  ⟨Q (.exit 2) [(2, v2), (4, v4), (5, v5), (6, v6), (7, v7), (8, v8), (9, v9), (26, (.bool b26_3))] M⟩⟩
theorem e17_17 (P : Program) (Q : Exit → Slots → Mem → Prop) (s : Slots) (M : Mem) : wpC P c17_17 Q s M = w17_17 P Q M (sget s 2) (sget s 4) (sget s 5) (sget s 6) (sget s 7) (sget s 8) (sget s 9) := by kernel_rfl
def o17_18 : List AOper := [⟨some 29, (.fieldAddr 0 (.tmp 2)), false, none⟩,
  ⟨some 30, (.load 1 false (.tmp 29)), false, none⟩,
  ⟨some 31, (.lenSl (.tmp 30)), false, none⟩,
  ⟨some 32, (.mov (.const (.int .i64 0))), false, none⟩]
def c17_19 : ACode := (.region o17_18 [2, 4, 5, 6, 7, 8, 9, 31, 32])
def w17_19 (_P : Program) (Q : Exit → Slots → Mem → Prop) (M : Mem) (v2 : V) (v4 : V) (v5 : V) (v6 : V) (v7 : V) (v8 : V) (v9 : V) : Prop :=
  @OptVH (moveV 0 v2) ⟨fun t29_1 =>
  @OptVH (loadV 1 false t29_1 M) ⟨fun t30_2 =>
  @OptVH (lenV t30_2 M) ⟨fun t31_3 =>
  Q .normal [(2, v2), (4, v4), (5, v5), (6, v6), (7, v7), (8, v8), (9, v9), (31, t31_3), (32, (.int .i64 0))] M⟩⟩⟩
theorem e17_19 (P : Program) (Q : Exit → Slots → Mem → Prop) (s : Slots) (M : Mem) : wpC P c17_19 Q s M = w17_19 P Q M (sget s 2) (sget s 4) (sget s 5) (sget s 6) (sget s 7) (sget s 8) (sget s 9) := by kernel_rfl
def o17_20 : List AOper := [⟨some 33, (.bin .lss .none (.tmp 32) (.tmp 31)), false, none⟩]
def c17_21 : ACode := (.region o17_20 [2, 4, 5, 6, 7, 8, 9, 31, 32, 33])
def w17_21 (_P : Program) (Q : Exit → Slots → Mem → Prop) (M : Mem) (v2 : V) (v4 : V) (v5 : V) (v6 : V) (v7 : V) (v8 : V) (v9 : V) (v31 : V) (v32 : V) : Prop :=
  @OptVH (binV .lss .none v32 v31) ⟨fun t33_1 =>
  Q .normal [(2, v2), (4, v4), (5, v5), (6, v6), (7, v7), (8, v8), (9, v9), (31, v31), (32, v32), (33, t33_1)] M⟩
theorem e17_21 (P : Program) (Q : Exit → Slots → Mem → Prop) (s : Slots) (M : Mem) : wpC P c17_21 Q s M = w17_21 P Q M (sget s 2) (sget s 4) (sget s 5) (sget s 6) (sget s 7) (sget s 8) (sget s 9) (sget s 31) (sget s 32) := by kernel_rfl
def c17_22 : ACode := (.cond (.tmp 33) .skip (.exit 4))
def o17_23 : List AOper := [⟨some 34, (.mov (.tmp 32)), false, none⟩,
  ⟨some 10, (.mov (.tmp 34)), false, none⟩]
def c17_24 : ACode := (.region o17_23 [2, 4, 5, 6, 7, 8, 9, 10, 31, 32])
def w17_24 (_P : Program) (Q : Exit → Slots → Mem → Prop) (M : Mem) (v2 : V) (v4 : V) (v5 : V) (v6 : V) (v7 : V) (v8 : V) (v9 : V) (v31 : V) (v32 : V) : Prop :=
  Q .normal [(2, v2), (4, v4), (5, v5), (6, v6), (7, v7), (8, v8), (9, v9), (10, v32), (31, v31), (32, v32)] M
theorem e17_24 (P : Program) (Q : Exit → Slots → Mem → Prop) (s : Slots) (M : Mem) : wpC P c17_24 Q s M = w17_24 P Q M (sget s 2) (sget s 4) (sget s 5) (sget s 6) (sget s 7) (sget s 8) (sget s 9) (sget s 31) (sget s 32) := by kernel_rfl
def o17_25 : List AOper := [⟨some 40, (.mov (.tmp 7)), false, none⟩,
  ⟨some 41, (.mov (.tmp 8)), false, none⟩,
  ⟨some 42, (.mov (.tmp 9)), false, none⟩,
  ⟨some 43, (.mov (.tmp 10)), false, none⟩,
  ⟨some 44, (.callv (.tmp 40) [(.tmp 41), (.tmp 42), (.tmp 43)]), false, none⟩]
def c17_26 : ACode := (.region o17_25 [2, 4, 5, 6, 7, 8, 9, 31, 32])
def w17_26 (P : Program) (Q : Exit → Slots → Mem → Prop) (M : Mem) (v2 : V) (v4 : V) (v5 : V) (v6 : V) (v7 : V) (v8 : V) (v9 : V) (v10 : V) (v31 : V) (v32 : V) : Prop :=
  @CallV P false v7 [v8, v9, v10] M ⟨fun _t44_5 M5 =>
  Q .normal [(2, v2), (4, v4), (5, v5), (6, v6), (7, v7), (8, v8), (9, v9), (31, v31), (32, v32)] M5⟩
theorem e17_26 (P : Program) (Q : Exit → Slots → Mem → Prop) (s : Slots) (M : Mem) : wpC P c17_26 Q s M = w17_26 P Q M (sget s 2) (sget s 4) (sget s 5) (sget s 6) (sget s 7) (sget s 8) (sget s 9) (sget s 10) (sget s 31) (sget s 32) := by kernel_rfl
def o17_27 : List AOper := [⟨some 35, (.mov (.tmp 9)), false, none⟩,
  ⟨some 36, (.bin .add .none (.tmp 35) (.const (.int .i64 1))), false, none⟩,
  ⟨some 37, (.indexArr 9 7 (.tmp 5) (.tmp 36)), false, none⟩,
  ⟨some 38, (.fieldAddr 0 (.tmp 37)), false, none⟩,
  ⟨some 39, (.load 1 false (.tmp 38)), true, none⟩]
def c17_28 : ACode := (.seq (.region o17_27 [2, 4, 5, 6, 7, 8, 9, 10, 31, 32, 39]) (.cond (.tmp 39) c17_26 .skip))
def w17_28 (P : Program) (Q : Exit → Slots → Mem → Prop) (M : Mem) (v2 : V) (v4 : V) (v5 : V) (v6 : V) (v7 : V) (v8 : V) (v9 : V) (v10 : V) (v31 : V) (v32 : V) : Prop :=
  @OptVH (binV .add .none v9 (.int .i64 1)) ⟨fun t36_2 =>
  @OptVH (indexArrV 9 7 v5 t36_2) ⟨fun t37_3 =>
  @OptVH (moveV 0 t37_3) ⟨fun t38_4 =>
  @OptBH (loadV 1 false t38_4 M) ⟨fun b39_5 =>
  @BIfH b39_5
  ⟨wpC P c17_26 Q [(2, v2), (4, v4), (5, v5), (6, v6), (7, v7), (8, v8), (9, v9), (10, v10), (31, v31), (32, v32), (39, (.bool b39_5))] M⟩
  ⟨Q .normal [(2, v2), (4, v4), (5, v5), (6, v6), (7, v7), (8, v8), (9, v9), (10, v10), (31, v31), (32, v32), (39, (.bool b39_5))] M⟩⟩⟩⟩⟩
theorem e17_28 (P : Program) (Q : Exit → Slots → Mem → Prop) (s : Slots) (M : Mem) : wpC P c17_28 Q s M = w17_28 P Q M (sget s 2) (sget s 4) (sget s 5) (sget s 6) (sget s 7) (sget s 8) (sget s 9) (sget s 10) (sget s 31) (sget s 32) := by kernel_rfl
def c17_29 : ACode := (.seq c17_24 c17_28)
def c17_30 : ACode := (.block 5 c17_29)
def o17_31 : List AOper := [⟨some 45, (.bin .add .none (.tmp 32) (.const (.int .i64 1))), false, none⟩,
  ⟨some 32, (.mov (.tmp 45)), false, none⟩]
def c17_32 : ACode := (.region o17_31 [2, 4, 5, 6, 7, 8, 9, 31, 32])
def w17_32 (_P : Program) (Q : Exit → Slots → Mem → Prop) (M : Mem) (v2 : V) (v4 : V) (v5 : V) (v6 : V) (v7 : V) (v8 : V) (v9 : V) (v31 : V) (v32 : V) : Prop :=
  @OptVH (binV .add .none v32 (.int .i64 1)) ⟨fun t45_1 =>
  Q .normal [(2, v2), (4, v4), (5, v5), (6, v6), (7, v7), (8, v8), (9, v9), (31, v31), (32, t45_1)] M⟩
theorem e17_32 (P : Program) (Q : Exit → Slots → Mem → Prop) (s : Slots) (M : Mem) : wpC P c17_32 Q s M = w17_32 P Q M (sget s 2) (sget s 4) (sget s 5) (sget s 6) (sget s 7) (sget s 8) (sget s 9) (sget s 31) (sget s 32) := by kernel_rfl
def c17_33 : ACode := (.seq c17_30 c17_32)
def c17_34 : ACode := (.seq c17_22 c17_33)
def c17_35 : ACode := (.seq c17_21 c17_34)
def c17_36 : ACode := (.loop [2, 4, 5, 6, 7, 8, 9, 31, 32] c17_35)
def c17_37 : ACode := (.block 4 c17_36)
def c17_38 : ACode := (.seq c17_19 c17_37)
def c17_39 : ACode := (.block 3 c17_38)
def o17_40 : List AOper := [⟨some 27, (.mov (.tmp 9)), false, none⟩,
  ⟨some 28, (.bin .add .none (.tmp 27) (.const (.int .i64 1))), false, none⟩,
  ⟨some 9, (.mov (.tmp 28)), false, none⟩]
def c17_41 : ACode := (.region o17_40 [2, 4, 5, 6, 7, 8, 9])
def w17_41 (_P : Program) (Q : Exit → Slots → Mem → Prop) (M : Mem) (v2 : V) (v4 : V) (v5 : V) (v6 : V) (v7 : V) (v8 : V) (v9 : V) : Prop :=
  @OptVH (binV .add .none v9 (.int .i64 1)) ⟨fun t28_2 =>
  Q .normal [(2, v2), (4, v4), (5, v5), (6, v6), (7, v7), (8, v8), (9, t28_2)] M⟩
theorem e17_41 (P : Program) (Q : Exit → Slots → Mem → Prop) (s : Slots) (M : Mem) : wpC P c17_41 Q s M = w17_41 P Q M (sget s 2) (sget s 4) (sget s 5) (sget s 6) (sget s 7) (sget s 8) (sget s 9) := by kernel_rfl
def c17_42 : ACode := (.seq c17_39 c17_41)
def c17_43 : ACode := (.seq c17_17 c17_42)
def c17_44 : ACode := (.loop [2, 4, 5, 6, 7, 8, 9] c17_43)
def c17_45 : ACode := (.block 2 c17_44)
def c17_46 : ACode := (.seq c17_15 c17_45)
def c17_47 : ACode := (.block 1 c17_46)
def o17_48 : List AOper := [⟨some 21, (.mov (.tmp 8)), false, none⟩,
  ⟨some 22, (.bin .sub .none (.tmp 21) (.const (.int .i64 1))), false, none⟩,
  ⟨some 8, (.mov (.tmp 22)), false, none⟩]
def c17_49 : ACode := (.region o17_48 [2, 4, 5, 6, 7, 8])
def w17_49 (_P : Program) (Q : Exit → Slots → Mem → Prop) (M : Mem) (v2 : V) (v4 : V) (v5 : V) (v6 : V) (v7 : V) (v8 : V) : Prop :=
  @OptVH (binV .sub .none v8 (.int .i64 1)) ⟨fun t22_2 =>
  Q .normal [(2, v2), (4, v4), (5, v5), (6, v6), (7, v7), (8, t22_2)] M⟩
theorem e17_49 (P : Program) (Q : Exit → Slots → Mem → Prop) (s : Slots) (M : Mem) : wpC P c17_49 Q s M = w17_49 P Q M (sget s 2) (sget s 4) (sget s 5) (sget s 6) (sget s 7) (sget s 8) := by kernel_rfl
def c17_50 : ACode := (.seq c17_47 c17_49)
def c17_51 : ACode := (.seq c17_13 c17_50)
def c17_52 : ACode := (.loop [2, 4, 5, 6, 7, 8] c17_51)
def c17_53 : ACode := (.block 0 c17_52)
def c17_54 : ACode := (.seq c17_11 c17_53)
def o17_55 : List AOper := [⟨some 46, (.load 63 true (.tmp 5)), false, none⟩,
  ⟨none, (.store 63 (.tmp 4) (.tmp 46)), false, none⟩]
def c17_56 : ACode := (.region o17_55 [4])
def w17_56 (_P : Program) (Q : Exit → Slots → Mem → Prop) (M : Mem) (v4 : V) (v5 : V) : Prop :=
  @OptVH (loadV 63 true v5 M) ⟨fun t46_1 =>
  @OptMH (storeVM 63 v4 t46_1 M) ⟨fun _tx_2 M2 =>
  Q .normal [(4, v4)] M2⟩⟩
theorem e17_56 (P : Program) (Q : Exit → Slots → Mem → Prop) (s : Slots) (M : Mem) : wpC P c17_56 Q s M = w17_56 P Q M (sget s 4) (sget s 5) := by kernel_rfl
def c17_57 : ACode := (.seq c17_56 .ret)
def c17_58 : ACode := (.seq c17_54 c17_57)
def c17_59 : ACode := (.seq c17_9 c17_58)
def c17_60 : ACode := (.seq c17_7 c17_59)
def c17_61 : ACode := (.seq c17_5 c17_60)
def c17_62 : ACode := (.seq c17_3 c17_61)
def c17_63 : ACode := (.seq c17_1 c17_62)
def fn_fare_divide : AFn := ⟨47, [(.cell 4 63 true)], c17_63⟩
theorem fn_fare_divide_ok : resFn PR h_fare_divide i_fare_divide = some fn_fare_divide := by kernel_rfl

def h_fare_capped : Hints := ⟨[(0, [1, 2]), (1, [1, 2, 13]), (2, [4]), (3, [4])], [], []⟩
def o18_0 : List AOper := [⟨some 2, (.box 4 (.tmp 0)), false, none⟩,
  ⟨some 4, (.mov (.const (.int .i64 0))), false, none⟩]
def c18_1 : ACode := (.region o18_0 [1, 2])
def w18_1 (_P : Program) (Q : Exit → Slots → Mem → Prop) (M : Mem) (v0 : V) (v1 : V) : Prop :=
  @OptMH (boxV 4 v0 M) ⟨fun t2_1 M1 =>
  Q .normal [(1, v1), (2, t2_1)] M1⟩
theorem e18_1 (P : Program) (Q : Exit → Slots → Mem → Prop) (s : Slots) (M : Mem) : wpC P c18_1 Q s M = w18_1 P Q M (sget s 0) (sget s 1) := by kernel_rfl
def o18_2 : List AOper := [⟨some 14, (.fieldAddr 3 (.tmp 2)), false, none⟩,
  ⟨some 15, (.load 1 false (.tmp 14)), false, none⟩,
  ⟨some 4, (.mov (.tmp 15)), false, none⟩]
def c18_3 : ACode := (.region o18_2 [4])
def w18_3 (_P : Program) (Q : Exit → Slots → Mem → Prop) (M : Mem) (v2 : V) : Prop :=
  @OptVH (moveV 3 v2) ⟨fun t14_1 =>
  @OptVH (loadV 1 false t14_1 M) ⟨fun t15_2 =>
  Q .normal [(4, t15_2)] M⟩⟩
theorem e18_3 (P : Program) (Q : Exit → Slots → Mem → Prop) (s : Slots) (M : Mem) : wpC P c18_3 Q s M = w18_3 P Q M (sget s 2) := by kernel_rfl
def c18_4 : ACode := (.seq c18_3 .ret)
def o18_5 : List AOper := [⟨some 5, (.fieldAddr 3 (.tmp 2)), false, none⟩,
  ⟨some 6, (.load 1 false (.tmp 5)), false, none⟩,
  ⟨some 7, (.bin .gtr .none (.tmp 6) (.const (.int .i64 0))), true, none⟩,
  ⟨some 8, (.mov (.tmp 7)), true, none⟩,
  ⟨some 9, (.mov (.tmp 1)), false, some (8, true)⟩,
  ⟨some 10, (.fieldAddr 3 (.tmp 2)), false, some (8, true)⟩,
  ⟨some 11, (.load 1 false (.tmp 10)), false, some (8, true)⟩,
  ⟨some 12, (.bin .gtr .none (.tmp 9) (.tmp 11)), true, some (8, true)⟩,
  ⟨some 13, (.pick (.tmp 8) (.tmp 12) (.const (.bool false))), true, none⟩]
def c18_6 : ACode := (.seq (.region o18_5 [1, 2, 13]) (.cond (.tmp 13) c18_4 .skip))
def w18_6 (P : Program) (Q : Exit → Slots → Mem → Prop) (M : Mem) (v1 : V) (v2 : V) : Prop :=
  @OptVH (moveV 3 v2) ⟨fun t5_1 =>
  @OptVH (loadV 1 false t5_1 M) ⟨fun t6_2 =>
  @OptBH (binV .gtr .none t6_2 (.int .i64 0)) ⟨fun b7_3 =>
  @BIfH b7_3
  ⟨@OptVH (moveV 3 v2) ⟨fun t10_6 =>
  @OptVH (loadV 1 false t10_6 M) ⟨fun t11_7 =>
  @OptBH (binV .gtr .none v1 t11_7) ⟨fun b12_8 =>
  @BIfH b12_8
  ⟨wpC P c18_4 Q [(1, v1), (2, v2), (13, (.bool b12_8))] M⟩
  ⟨Q .normal [(1, v1), (2, v2), (13, (.bool b12_8))] M⟩⟩⟩⟩⟩
  ⟨Q .normal [(1, v1), (2, v2), (13, (.bool false))] M⟩⟩⟩⟩
theorem e18_6 (P : Program) (Q : Exit → Slots → Mem → Prop) (s : Slots) (M : Mem) : wpC P c18_6 Q s M = w18_6 P Q M (sget s 1) (sget s 2) := by kernel_rfl
def o18_7 : List AOper := [⟨some 16, (.mov (.tmp 1)), false, none⟩,
  ⟨some 4, (.mov (.tmp 16)), false, none⟩]
def c18_8 : ACode := (.region o18_7 [4])
def w18_8 (_P : Program) (Q : Exit → Slots → Mem → Prop) (M : Mem) (v1 : V) : Prop :=
  Q .normal [(4, v1)] M
theorem e18_8 (P : Program) (Q : Exit → Slots → Mem → Prop) (s : Slots) (M : Mem) : wpC P c18_8 Q s M = w18_8 P Q M (sget s 1) := by kernel_rfl
def c18_9 : ACode := (.seq c18_8 .ret)
def c18_10 : ACode := (.seq c18_6 c18_9)
def c18_11 : ACode := (.seq c18_1 c18_10)
def fn_fare_capped : AFn := ⟨17, [(.tmp 4)], c18_11⟩
theorem fn_fare_capped_ok : resFn PR h_fare_capped i_fare_capped = some fn_fare_capped := by kernel_rfl

def h_product_Check : Hints := ⟨[(0, [1]), (1, [1, 22]), (2, [2, 3]), (3, [1, 26]), (4, [2, 3]), (5, [1, 4]), (6, [4, 29, 30, 31]), (7, [4, 29, 30, 31, 32]), (8, [4, 5, 6, 29, 30, 31]), (9, [4, 5, 6, 29, 30, 31, 39]), (10, [2, 3]), (11, [4, 5, 6, 29, 30, 31, 44]), (12, [2, 3]), (13, [4, 5, 6, 29, 30, 31, 73]), (14, [2, 3]), (15, [4, 29, 30, 31]), (16, [4, 29, 30, 31]), (17, [2, 3])], [(7, [4, 29, 30, 31])], []⟩
def o19_0 : List AOper := [⟨some 1, (.box 4 (.tmp 0)), false, none⟩,
  ⟨some 2, (.mov (.const (.int .i64 0))), false, none⟩,
  ⟨some 3, (.mov (.const (.int .i64 0))), false, none⟩]
def c19_1 : ACode := (.region o19_0 [1])
def w19_1 (_P : Program) (Q : Exit → Slots → Mem → Prop) (M : Mem) (v0 : V) : Prop :=
  @OptMH (boxV 4 v0 M) ⟨fun t1_1 M1 =>
  Q .normal [(1, t1_1)] M1⟩
theorem e19_1 (P : Program) (Q : Exit → Slots → Mem → Prop) (s : Slots) (M : Mem) : wpC P c19_1 Q s M = w19_1 P Q M (sget s 0) := by kernel_rfl
def o19_2 : List AOper := [⟨some 2, (.mov (.const (.int .i64 (-1)))), false, none⟩,
  ⟨some 3, (.mov (.const (.int .i64 2))), false, none⟩]
def c19_3 : ACode := (.region o19_2 [2, 3])
def w19_3 (_P : Program) (Q : Exit → Slots → Mem → Prop) (M : Mem) : Prop :=
  Q .normal [(2, (.int .i64 (-1))), (3, (.int .i64 2))] M
theorem e19_3 (P : Program) (Q : Exit → Slots → Mem → Prop) (s : Slots) (M : Mem) : wpC P c19_3 Q s M = w19_3 P Q M := by kernel_rfl
def c19_4 : ACode := (.seq c19_3 .ret)
def o19_5 : List AOper := [⟨some 7, (.fieldAddr 1 (.tmp 1)), false, none⟩,
  ⟨some 8, (.load 1 false (.tmp 7)), false, none⟩,
  ⟨some 9, (.call i_product_within [(.tmp 8), (.const (.int .i64 0)), (.const (.int .i64 1000000))]), true, none⟩,
  ⟨some 10, (.un .not (.tmp 9)), true, none⟩,
  ⟨some 11, (.mov (.tmp 10)), true, none⟩,
  ⟨some 12, (.fieldAddr 2 (.tmp 1)), false, some (11, false)⟩,
  ⟨some 13, (.load 1 false (.tmp 12)), false, some (11, false)⟩,
  ⟨some 14, (.call i_product_within [(.tmp 13), (.const (.int .i64 0)), (.const (.int .i64 86400))]), true, some (11, false)⟩,
  ⟨some 15, (.un .not (.tmp 14)), true, some (11, false)⟩,
  ⟨some 16, (.pick (.tmp 11) (.const (.bool true)) (.tmp 15)), true, none⟩,
  ⟨some 17, (.mov (.tmp 16)), true, none⟩,
  ⟨some 18, (.fieldAddr 3 (.tmp 1)), false, some (17, false)⟩,
  ⟨some 19, (.load 1 false (.tmp 18)), false, some (17, false)⟩,
  ⟨some 20, (.call i_product_within [(.tmp 19), (.const (.int .i64 0)), (.const (.int .i64 1000000))]), true, some (17, false)⟩,
  ⟨some 21, (.un .not (.tmp 20)), true, some (17, false)⟩,
  ⟨some 22, (.pick (.tmp 17) (.const (.bool true)) (.tmp 21)), true, none⟩]
def c19_6 : ACode := (.seq (.region o19_5 [1, 22]) (.cond (.tmp 22) c19_4 .skip))
def w19_6 (P : Program) (Q : Exit → Slots → Mem → Prop) (M : Mem) (v1 : V) : Prop :=
  @OptVH (moveV 1 v1) ⟨fun t7_1 =>
  @OptVH (loadV 1 false t7_1 M) ⟨fun t8_2 =>
  @CallH P i_product_within [t8_2, (.int .i64 0), (.int .i64 1000000)] M ⟨fun t9_3 M3 => @OptBH (some t9_3) ⟨fun b9_3 =>
  @OptBH (unV .not (.bool b9_3)) ⟨fun b10_4 =>
  @BIfH b10_4
  ⟨wpC P c19_4 Q [(1, v1), (22, (.bool true))] M3⟩
  ⟨@OptVH (moveV 2 v1) ⟨fun t12_9 =>
  @OptVH (loadV 1 false t12_9 M3) ⟨fun t13_10 =>
  @CallH P i_product_within [t13_10, (.int .i64 0), (.int .i64 86400)] M3 ⟨fun t14_11 M11 => @OptBH (some t14_11) ⟨fun b14_11 =>
  @OptBH (unV .not (.bool b14_11)) ⟨fun b15_12 =>
  @BIfH b15_12
  ⟨wpC P c19_4 Q [(1, v1), (22, (.bool true))] M11⟩
  ⟨@OptVH (moveV 3 v1) ⟨fun t18_16 =>
  @OptVH (loadV 1 false t18_16 M11) ⟨fun t19_17 =>
  @CallH P i_product_within [t19_17, (.int .i64 0), (.int .i64 1000000)] M11 ⟨fun t20_18 M18 => @OptBH (some t20_18) ⟨fun b20_18 =>
  @OptBH (unV .not (.bool b20_18)) ⟨fun b21_19 =>
  @BIfH b21_19
  ⟨wpC P c19_4 Q [(1, v1), (22, (.bool b21_19))] M18⟩
  ⟨Q .normal [(1, v1), (22, (.bool b21_19))] M18⟩⟩⟩⟩⟩⟩⟩⟩⟩⟩⟩⟩⟩⟩⟩⟩⟩⟩
theorem e19_6 (P : Program) (Q : Exit → Slots → Mem → Prop) (s : Slots) (M : Mem) : wpC P c19_6 Q s M = w19_6 P Q M (sget s 1) := by kernel_rfl
def o19_7 : List AOper := [⟨some 2, (.mov (.const (.int .i64 0))), false, none⟩,
  ⟨some 3, (.mov (.const (.int .i64 5))), false, none⟩]
def c19_8 : ACode := (.region o19_7 [2, 3])
def w19_8 (_P : Program) (Q : Exit → Slots → Mem → Prop) (M : Mem) : Prop :=
  Q .normal [(2, (.int .i64 0)), (3, (.int .i64 5))] M
theorem e19_8 (P : Program) (Q : Exit → Slots → Mem → Prop) (s : Slots) (M : Mem) : wpC P c19_8 Q s M = w19_8 P Q M := by kernel_rfl
def c19_9 : ACode := (.seq c19_8 .ret)
def o19_10 : List AOper := [⟨some 23, (.fieldAddr 0 (.tmp 1)), false, none⟩,
  ⟨some 24, (.load 1 false (.tmp 23)), false, none⟩,
  ⟨some 25, (.lenSl (.tmp 24)), false, none⟩,
  ⟨some 26, (.bin .gtr .none (.tmp 25) (.const (.int .i64 16))), true, none⟩]
def c19_11 : ACode := (.seq (.region o19_10 [1, 26]) (.cond (.tmp 26) c19_9 .skip))
def w19_11 (P : Program) (Q : Exit → Slots → Mem → Prop) (M : Mem) (v1 : V) : Prop :=
  @OptVH (moveV 0 v1) ⟨fun t23_1 =>
  @OptVH (loadV 1 false t23_1 M) ⟨fun t24_2 =>
  @OptVH (lenV t24_2 M) ⟨fun t25_3 =>
  @OptBH (binV .gtr .none t25_3 (.int .i64 16)) ⟨fun b26_4 =>
  @BIfH b26_4
  ⟨wpC P c19_9 Q [(1, v1), (26, (.bool b26_4))] M⟩
  ⟨Q .normal [(1, v1), (26, (.bool b26_4))] M⟩⟩⟩⟩⟩
theorem e19_11 (P : Program) (Q : Exit → Slots → Mem → Prop) (s : Slots) (M : Mem) : wpC P c19_11 Q s M = w19_11 P Q M (sget s 1) := by kernel_rfl
def o19_12 : List AOper := [⟨some 27, (.makeMap none), false, none⟩,
  ⟨some 4, (.mov (.tmp 27)), false, none⟩]
def c19_13 : ACode := (.region o19_12 [1, 4])
def w19_13 (_P : Program) (Q : Exit → Slots → Mem → Prop) (M : Mem) (v1 : V) : Prop :=
  @OptMH (makeMapV none M) ⟨fun t27_1 M1 =>
  Q .normal [(1, v1), (4, t27_1)] M1⟩
theorem e19_13 (P : Program) (Q : Exit → Slots → Mem → Prop) (s : Slots) (M : Mem) : wpC P c19_13 Q s M = w19_13 P Q M (sget s 1) := by kernel_rfl
def o19_14 : List AOper := [⟨some 28, (.fieldAddr 0 (.tmp 1)), false, none⟩,
  ⟨some 29, (.load 1 false (.tmp 28)), false, none⟩,
  ⟨some 30, (.lenSl (.tmp 29)), false, none⟩,
  ⟨some 31, (.mov (.const (.int .i64 0))), false, none⟩]
def c19_15 : ACode := (.region o19_14 [4, 29, 30, 31])
def w19_15 (_P : Program) (Q : Exit → Slots → Mem → Prop) (M : Mem) (v1 : V) (v4 : V) : Prop :=
  @OptVH (moveV 0 v1) ⟨fun t28_1 =>
  @OptVH (loadV 1 false t28_1 M) ⟨fun t29_2 =>
  @OptVH (lenV t29_2 M) ⟨fun t30_3 =>
  Q .normal [(4, v4), (29, t29_2), (30, t30_3), (31, (.int .i64 0))] M⟩⟩⟩
theorem e19_15 (P : Program) (Q : Exit → Slots → Mem → Prop) (s : Slots) (M : Mem) : wpC P c19_15 Q s M = w19_15 P Q M (sget s 1) (sget s 4) := by kernel_rfl
def o19_16 : List AOper := [⟨some 32, (.bin .lss .none (.tmp 31) (.tmp 30)), false, none⟩]
def c19_17 : ACode := (.region o19_16 [4, 29, 30, 31, 32])
def w19_17 (_P : Program) (Q : Exit → Slots → Mem → Prop) (M : Mem) (v4 : V) (v29 : V) (v30 : V) (v31 : V) : Prop :=
  @OptVH (binV .lss .none v31 v30) ⟨fun t32_1 =>
  Q .normal [(4, v4), (29, v29), (30, v30), (31, v31), (32, t32_1)] M⟩
theorem e19_17 (P : Program) (Q : Exit → Slots → Mem → Prop) (s : Slots) (M : Mem) : wpC P c19_17 Q s M = w19_17 P Q M (sget s 4) (sget s 29) (sget s 30) (sget s 31) := by kernel_rfl
def c19_18 : ACode := (.cond (.tmp 32) .skip (.exit 0))
def o19_19 : List AOper := [⟨some 33, (.mov (.tmp 31)), false, none⟩,
  ⟨some 34, (.indexSl 6 (.tmp 29) (.tmp 31)), false, none⟩,
  ⟨some 35, (.load 6 true (.tmp 34)), false, none⟩,
  ⟨some 6, (.alloc [(.str []), (.int .i64 0), (.int .i64 0), (.int .i64 0), (.int .i64 0), (.int .i64 0)]), false, none⟩,
  ⟨some 5, (.mov (.tmp 33)), false, none⟩,
  ⟨none, (.store 6 (.tmp 6) (.tmp 35)), false, none⟩]
def c19_20 : ACode := (.region o19_19 [4, 5, 6, 29, 30, 31])
def w19_20 (_P : Program) (Q : Exit → Slots → Mem → Prop) (M : Mem) (v4 : V) (v29 : V) (v30 : V) (v31 : V) : Prop :=
  @OptVH (indexSlV 6 v29 v31 M) ⟨fun t34_2 =>
  @OptVH (loadV 6 true t34_2 M) ⟨fun t35_3 =>
  @OptMH (allocV [(.str []), (.int .i64 0), (.int .i64 0), (.int .i64 0), (.int .i64 0), (.int .i64 0)] M) ⟨fun t6_4 M4 =>
  @OptMH (storeVM 6 t6_4 t35_3 M4) ⟨fun _tx_6 M6 =>
  Q .normal [(4, v4), (5, v31), (6, t6_4), (29, v29), (30, v30), (31, v31)] M6⟩⟩⟩⟩
theorem e19_20 (P : Program) (Q : Exit → Slots → Mem → Prop) (s : Slots) (M : Mem) : wpC P c19_20 Q s M = w19_20 P Q M (sget s 4) (sget s 29) (sget s 30) (sget s 31) := by kernel_rfl
def o19_21 : List AOper := [⟨some 40, (.mov (.tmp 5)), false, none⟩,
  ⟨some 2, (.mov (.tmp 40)), false, none⟩,
  ⟨some 3, (.mov (.const (.int .i64 12))), false, none⟩]
def c19_22 : ACode := (.region o19_21 [2, 3])
def w19_22 (_P : Program) (Q : Exit → Slots → Mem → Prop) (M : Mem) (v5 : V) : Prop :=
  Q .normal [(2, v5), (3, (.int .i64 12))] M
theorem e19_22 (P : Program) (Q : Exit → Slots → Mem → Prop) (s : Slots) (M : Mem) : wpC P c19_22 Q s M = w19_22 P Q M (sget s 5) := by kernel_rfl
def c19_23 : ACode := (.seq c19_22 .ret)
def o19_24 : List AOper := [⟨some 36, (.fieldAddr 0 (.tmp 6)), false, none⟩,
  ⟨some 37, (.load 1 false (.tmp 36)), false, none⟩,
  ⟨some 38, (.call i_ident_Valid [(.tmp 37)]), true, none⟩,
  ⟨some 39, (.un .not (.tmp 38)), true, none⟩]
def c19_25 : ACode := (.seq (.region o19_24 [4, 5, 6, 29, 30, 31, 39]) (.cond (.tmp 39) c19_23 .skip))
def w19_25 (P : Program) (Q : Exit → Slots → Mem → Prop) (M : Mem) (v4 : V) (v5 : V) (v6 : V) (v29 : V) (v30 : V) (v31 : V) : Prop :=
  @OptVH (moveV 0 v6) ⟨fun t36_1 =>
  @OptVH (loadV 1 false t36_1 M) ⟨fun t37_2 =>
  @CallH P i_ident_Valid [t37_2] M ⟨fun t38_3 M3 => @OptBH (some t38_3) ⟨fun b38_3 =>
  @OptBH (unV .not (.bool b38_3)) ⟨fun b39_4 =>
  @BIfH b39_4
  ⟨wpC P c19_23 Q [(4, v4), (5, v5), (6, v6), (29, v29), (30, v30), (31, v31), (39, (.bool b39_4))] M3⟩
  ⟨Q .normal [(4, v4), (5, v5), (6, v6), (29, v29), (30, v30), (31, v31), (39, (.bool b39_4))] M3⟩⟩⟩⟩⟩⟩
theorem e19_25 (P : Program) (Q : Exit → Slots → Mem → Prop) (s : Slots) (M : Mem) : wpC P c19_25 Q s M = w19_25 P Q M (sget s 4) (sget s 5) (sget s 6) (sget s 29) (sget s 30) (sget s 31) := by kernel_rfl
def o19_26 : List AOper := [⟨some 45, (.mov (.tmp 5)), false, none⟩,
  ⟨some 2, (.mov (.tmp 45)), false, none⟩,
  ⟨some 3, (.mov (.const (.int .i64 6))), false, none⟩]
def c19_27 : ACode := (.region o19_26 [2, 3])
def w19_27 (_P : Program) (Q : Exit → Slots → Mem → Prop) (M : Mem) (v5 : V) : Prop :=
  Q .normal [(2, v5), (3, (.int .i64 6))] M
theorem e19_27 (P : Program) (Q : Exit → Slots → Mem → Prop) (s : Slots) (M : Mem) : wpC P c19_27 Q s M = w19_27 P Q M (sget s 5) := by kernel_rfl
def c19_28 : ACode := (.seq c19_27 .ret)
def o19_29 : List AOper := [⟨some 41, (.mov (.tmp 4)), false, none⟩,
  ⟨some 42, (.fieldAddr 0 (.tmp 6)), false, none⟩,
  ⟨some 43, (.load 1 false (.tmp 42)), false, none⟩,
  ⟨some 44, (.lookup .str [(.bool false)] false false (.tmp 41) (.tmp 43)), true, none⟩]
def c19_30 : ACode := (.seq (.region o19_29 [4, 5, 6, 29, 30, 31, 44]) (.cond (.tmp 44) c19_28 .skip))
def w19_30 (P : Program) (Q : Exit → Slots → Mem → Prop) (M : Mem) (v4 : V) (v5 : V) (v6 : V) (v29 : V) (v30 : V) (v31 : V) : Prop :=
  @OptVH (moveV 0 v6) ⟨fun t42_2 =>
  @OptVH (loadV 1 false t42_2 M) ⟨fun t43_3 =>
  @OptBH (lookupV .str [(.bool false)] false false v4 t43_3 M) ⟨fun b44_4 =>
  @BIfH b44_4
  ⟨wpC P c19_28 Q [(4, v4), (5, v5), (6, v6), (29, v29), (30, v30), (31, v31), (44, (.bool b44_4))] M⟩
  ⟨Q .normal [(4, v4), (5, v5), (6, v6), (29, v29), (30, v30), (31, v31), (44, (.bool b44_4))] M⟩⟩⟩⟩
theorem e19_30 (P : Program) (Q : Exit → Slots → Mem → Prop) (s : Slots) (M : Mem) : wpC P c19_30 Q s M = w19_30 P Q M (sget s 4) (sget s 5) (sget s 6) (sget s 29) (sget s 30) (sget s 31) := by kernel_rfl
def o19_31 : List AOper := [⟨some 74, (.mov (.tmp 5)), false, none⟩,
  ⟨some 2, (.mov (.tmp 74)), false, none⟩,
  ⟨some 3, (.mov (.const (.int .i64 2))), false, none⟩]
def c19_32 : ACode := (.region o19_31 [2, 3])
def w19_32 (_P : Program) (Q : Exit → Slots → Mem → Prop) (M : Mem) (v5 : V) : Prop :=
  Q .normal [(2, v5), (3, (.int .i64 2))] M
theorem e19_32 (P : Program) (Q : Exit → Slots → Mem → Prop) (s : Slots) (M : Mem) : wpC P c19_32 Q s M = w19_32 P Q M (sget s 5) := by kernel_rfl
def c19_33 : ACode := (.seq c19_32 .ret)
def o19_34 : List AOper := [⟨some 46, (.fieldAddr 1 (.tmp 6)), false, none⟩,
  ⟨some 47, (.load 1 false (.tmp 46)), false, none⟩,
  ⟨some 48, (.call i_product_within [(.tmp 47), (.const (.int .i64 0)), (.const (.int .i64 1000000))]), true, none⟩,
  ⟨some 49, (.un .not (.tmp 48)), true, none⟩,
  ⟨some 50, (.mov (.tmp 49)), true, none⟩,
  ⟨some 51, (.fieldAddr 2 (.tmp 6)), false, some (50, false)⟩,
  ⟨some 52, (.load 1 false (.tmp 51)), false, some (50, false)⟩,
  ⟨some 53, (.call i_product_within [(.tmp 52), (.const (.int .i64 1)), (.const (.int .i64 8))]), true, some (50, false)⟩,
  ⟨some 54, (.un .not (.tmp 53)), true, some (50, false)⟩,
  ⟨some 55, (.pick (.tmp 50) (.const (.bool true)) (.tmp 54)), true, none⟩,
  ⟨some 56, (.mov (.tmp 55)), true, none⟩,
  ⟨some 57, (.fieldAddr 3 (.tmp 6)), false, some (56, false)⟩,
  ⟨some 58, (.load 1 false (.tmp 57)), false, some (56, false)⟩,
  ⟨some 59, (.call i_product_within [(.tmp 58), (.const (.int .i64 1)), (.const (.int .i64 16))]), true, some (56, false)⟩,
  ⟨some 60, (.un .not (.tmp 59)), true, some (56, false)⟩,
  ⟨some 61, (.pick (.tmp 56) (.const (.bool true)) (.tmp 60)), true, none⟩,
  ⟨some 62, (.mov (.tmp 61)), true, none⟩,
  ⟨some 63, (.fieldAddr 4 (.tmp 6)), false, some (62, false)⟩,
  ⟨some 64, (.load 1 false (.tmp 63)), false, some (62, false)⟩,
  ⟨some 65, (.call i_product_within [(.tmp 64), (.const (.int .i64 0)), (.const (.int .i64 86400))]), true, some (62, false)⟩,
  ⟨some 66, (.un .not (.tmp 65)), true, some (62, false)⟩,
  ⟨some 67, (.pick (.tmp 62) (.const (.bool true)) (.tmp 66)), true, none⟩,
  ⟨some 68, (.mov (.tmp 67)), true, none⟩,
  ⟨some 69, (.fieldAddr 5 (.tmp 6)), false, some (68, false)⟩,
  ⟨some 70, (.load 1 false (.tmp 69)), false, some (68, false)⟩,
  ⟨some 71, (.call i_product_within [(.tmp 70), (.const (.int .i64 1)), (.const (.int .i64 255))]), true, some (68, false)⟩,
  ⟨some 72, (.un .not (.tmp 71)), true, some (68, false)⟩,
  ⟨some 73, (.pick (.tmp 68) (.const (.bool true)) (.tmp 72)), true, none⟩]
def c19_35 : ACode := (.seq (.region o19_34 [4, 5, 6, 29, 30, 31, 73]) (.cond (.tmp 73) c19_33 .skip))
def w19_35 (P : Program) (Q : Exit → Slots → Mem → Prop) (M : Mem) (v4 : V) (v5 : V) (v6 : V) (v29 : V) (v30 : V) (v31 : V) : Prop :=
  @OptVH (moveV 1 v6) ⟨fun t46_1 =>
  @OptVH (loadV 1 false t46_1 M) ⟨fun t47_2 =>
  @CallH P i_product_within [t47_2, (.int .i64 0), (.int .i64 1000000)] M ⟨fun t48_3 M3 => @OptBH (some t48_3) ⟨fun b48_3 =>
  @OptBH (unV .not (.bool b48_3)) ⟨fun b49_4 =>
  @BIfH b49_4
  ⟨wpC P c19_33 Q [(4, v4), (5, v5), (6, v6), (29, v29), (30, v30), (31, v31), (73, (.bool true))] M3⟩
  ⟨@OptVH (moveV 2 v6) ⟨fun t51_13 =>
  @OptVH (loadV 1 false t51_13 M3) ⟨fun t52_14 =>
  @CallH P i_product_within [t52_14, (.int .i64 1), (.int .i64 8)] M3 ⟨fun t53_15 M15 => @OptBH (some t53_15) ⟨fun b53_15 =>
  @OptBH (unV .not (.bool b53_15)) ⟨fun b54_16 =>
  @BIfH b54_16
  ⟨wpC P c19_33 Q [(4, v4), (5, v5), (6, v6), (29, v29), (30, v30), (31, v31), (73, (.bool true))] M15⟩
  ⟨@OptVH (moveV 3 v6) ⟨fun t57_24 =>
  @OptVH (loadV 1 false t57_24 M15) ⟨fun t58_25 =>
  @CallH P i_product_within [t58_25, (.int .i64 1), (.int .i64 16)] M15 ⟨fun t59_26 M26 => @OptBH (some t59_26) ⟨fun b59_26 =>
  @OptBH (unV .not (.bool b59_26)) ⟨fun b60_27 =>
  @BIfH b60_27
  ⟨wpC P c19_33 Q [(4, v4), (5, v5), (6, v6), (29, v29), (30, v30), (31, v31), (73, (.bool true))] M26⟩
  ⟨@OptVH (moveV 4 v6) ⟨fun t63_33 =>
  @OptVH (loadV 1 false t63_33 M26) ⟨fun t64_34 =>
  @CallH P i_product_within [t64_34, (.int .i64 0), (.int .i64 86400)] M26 ⟨fun t65_35 M35 => @OptBH (some t65_35) ⟨fun b65_35 =>
  @OptBH (unV .not (.bool b65_35)) ⟨fun b66_36 =>
  @BIfH b66_36
  ⟨wpC P c19_33 Q [(4, v4), (5, v5), (6, v6), (29, v29), (30, v30), (31, v31), (73, (.bool true))] M35⟩
  ⟨@OptVH (moveV 5 v6) ⟨fun t69_40 =>
  @OptVH (loadV 1 false t69_40 M35) ⟨fun t70_41 =>
  @CallH P i_product_within [t70_41, (.int .i64 1), (.int .i64 255)] M35 ⟨fun t71_42 M42 => @OptBH (some t71_42) ⟨fun b71_42 =>
  @OptBH (unV .not (.bool b71_42)) ⟨fun b72_43 =>
  @BIfH b72_43
  ⟨wpC P c19_33 Q [(4, v4), (5, v5), (6, v6), (29, v29), (30, v30), (31, v31), (73, (.bool b72_43))] M42⟩
  ⟨Q .normal [(4, v4), (5, v5), (6, v6), (29, v29), (30, v30), (31, v31), (73, (.bool b72_43))] M42⟩⟩⟩⟩⟩⟩⟩⟩⟩⟩⟩⟩⟩⟩⟩⟩⟩⟩⟩⟩⟩⟩⟩⟩⟩⟩⟩⟩⟩⟩
theorem e19_35 (P : Program) (Q : Exit → Slots → Mem → Prop) (s : Slots) (M : Mem) : wpC P c19_35 Q s M = w19_35 P Q M (sget s 4) (sget s 5) (sget s 6) (sget s 29) (sget s 30) (sget s 31) := by kernel_rfl
def o19_36 : List AOper := [⟨some 75, (.mov (.tmp 4)), false, none⟩,
  ⟨some 76, (.fieldAddr 0 (.tmp 6)), false, none⟩,
  ⟨some 77, (.load 1 false (.tmp 76)), false, none⟩,
  ⟨none, (.mapUpdate .str (.tmp 75) (.tmp 77) (.const (.bool true))), false, none⟩]
def c19_37 : ACode := (.region o19_36 [4, 29, 30, 31])
def w19_37 (_P : Program) (Q : Exit → Slots → Mem → Prop) (M : Mem) (v4 : V) (v6 : V) (v29 : V) (v30 : V) (v31 : V) : Prop :=
  @OptVH (moveV 0 v6) ⟨fun t76_2 =>
  @OptVH (loadV 1 false t76_2 M) ⟨fun t77_3 =>
  @OptMH (mapUpdateVM .str v4 t77_3 (.bool true) M) ⟨fun _tx_4 M4 =>
  Q .normal [(4, v4), (29, v29), (30, v30), (31, v31)] M4⟩⟩⟩
theorem e19_37 (P : Program) (Q : Exit → Slots → Mem → Prop) (s : Slots) (M : Mem) : wpC P c19_37 Q s M = w19_37 P Q M (sget s 4) (sget s 6) (sget s 29) (sget s 30) (sget s 31) := by kernel_rfl
def c19_38 : ACode := (.seq c19_35 c19_37)
def c19_39 : ACode := (.seq c19_30 c19_38)
def c19_40 : ACode := (.seq c19_25 c19_39)
def c19_41 : ACode := (.seq c19_20 c19_40)
def c19_42 : ACode := (.block 1 c19_41)
def o19_43 : List AOper := [⟨some 78, (.bin .add .none (.tmp 31) (.const (.int .i64 1))), false, none⟩,
  ⟨some 31, (.mov (.tmp 78)), false, none⟩]
def c19_44 : ACode := (.region o19_43 [4, 29, 30, 31])
def w19_44 (_P : Program) (Q : Exit → Slots → Mem → Prop) (M : Mem) (v4 : V) (v29 : V) (v30 : V) (v31 : V) : Prop :=
  @OptVH (binV .add .none v31 (.int .i64 1)) ⟨fun t78_1 =>
  Q .normal [(4, v4), (29, v29), (30, v30), (31, t78_1)] M⟩
theorem e19_44 (P : Program) (Q : Exit → Slots → Mem → Prop) (s : Slots) (M : Mem) : wpC P c19_44 Q s M = w19_44 P Q M (sget s 4) (sget s 29) (sget s 30) (sget s 31) := by kernel_rfl
def c19_45 : ACode := (.seq c19_42 c19_44)
def c19_46 : ACode := (.seq c19_18 c19_45)
def c19_47 : ACode := (.seq c19_17 c19_46)
def c19_48 : ACode := (.loop [4, 29, 30, 31] c19_47)
def c19_49 : ACode := (.block 0 c19_48)
def c19_50 : ACode := (.seq c19_15 c19_49)
def o19_51 : List AOper := [⟨some 2, (.mov (.const (.int .i64 0))), false, none⟩,
  ⟨some 3, (.mov (.const (.int .i64 0))), false, none⟩]
def c19_52 : ACode := (.region o19_51 [2, 3])
def w19_52 (_P : Program) (Q : Exit → Slots → Mem → Prop) (M : Mem) : Prop :=
  Q .normal [(2, (.int .i64 0)), (3, (.int .i64 0))] M
theorem e19_52 (P : Program) (Q : Exit → Slots → Mem → Prop) (s : Slots) (M : Mem) : wpC P c19_52 Q s M = w19_52 P Q M := by kernel_rfl
def c19_53 : ACode := (.seq c19_52 .ret)
def c19_54 : ACode := (.seq c19_50 c19_53)
def c19_55 : ACode := (.seq c19_13 c19_54)
def c19_56 : ACode := (.seq c19_11 c19_55)
def c19_57 : ACode := (.seq c19_6 c19_56)
def c19_58 : ACode := (.seq c19_1 c19_57)
def fn_product_Check : AFn := ⟨79, [(.tmp 2), (.tmp 3)], c19_58⟩
theorem fn_product_Check_ok : resFn PR h_product_Check i_product_Check = some fn_product_Check := by kernel_rfl

def h_transitref26_Fares : Hints := ⟨[(0, [1]), (1, [1, 22]), (2, [2, 3]), (3, [1, 26]), (4, [2, 3]), (5, [1, 4]), (6, [1, 4, 31]), (7, [1, 4]), (8, [1, 4, 5]), (9, [1, 4, 5, 42]), (10, [2, 3]), (11, [1, 4, 5, 6]), (12, [1, 4, 5, 6, 46]), (13, [1, 4, 5, 6]), (14, [1, 4, 5, 6, 57]), (15, [2, 3]), (16, [1, 4, 86]), (17, [2, 3]), (18, [2, 3])], [(6, [1, 4]), (12, [1, 4, 5, 6])], []⟩
def o22_0 : List AOper := [⟨some 1, (.box 4 (.tmp 0)), false, none⟩,
  ⟨some 2, (.mov (.const (.int .i64 0))), false, none⟩,
  ⟨some 3, (.mov (.const (.int .i64 0))), false, none⟩]
def c22_1 : ACode := (.region o22_0 [1])
def w22_1 (_P : Program) (Q : Exit → Slots → Mem → Prop) (M : Mem) (v0 : V) : Prop :=
  @OptMH (boxV 4 v0 M) ⟨fun t1_1 M1 =>
  Q .normal [(1, t1_1)] M1⟩
theorem e22_1 (P : Program) (Q : Exit → Slots → Mem → Prop) (s : Slots) (M : Mem) : wpC P c22_1 Q s M = w22_1 P Q M (sget s 0) := by kernel_rfl
def o22_2 : List AOper := [⟨some 2, (.mov (.const (.int .i64 (-1)))), false, none⟩,
  ⟨some 3, (.mov (.const (.int .i64 2))), false, none⟩]
def c22_3 : ACode := (.region o22_2 [2, 3])
def w22_3 (_P : Program) (Q : Exit → Slots → Mem → Prop) (M : Mem) : Prop :=
  Q .normal [(2, (.int .i64 (-1))), (3, (.int .i64 2))] M
theorem e22_3 (P : Program) (Q : Exit → Slots → Mem → Prop) (s : Slots) (M : Mem) : wpC P c22_3 Q s M = w22_3 P Q M := by kernel_rfl
def c22_4 : ACode := (.seq c22_3 .ret)
def o22_5 : List AOper := [⟨some 7, (.fieldAddr 1 (.tmp 1)), false, none⟩,
  ⟨some 8, (.load 1 false (.tmp 7)), false, none⟩,
  ⟨some 9, (.call i_transitref26_in [(.tmp 8), (.const (.int .i64 0)), (.const (.int .i64 1000000))]), true, none⟩,
  ⟨some 10, (.un .not (.tmp 9)), true, none⟩,
  ⟨some 11, (.mov (.tmp 10)), true, none⟩,
  ⟨some 12, (.fieldAddr 2 (.tmp 1)), false, some (11, false)⟩,
  ⟨some 13, (.load 1 false (.tmp 12)), false, some (11, false)⟩,
  ⟨some 14, (.call i_transitref26_in [(.tmp 13), (.const (.int .i64 0)), (.const (.int .i64 86400))]), true, some (11, false)⟩,
  ⟨some 15, (.un .not (.tmp 14)), true, some (11, false)⟩,
  ⟨some 16, (.pick (.tmp 11) (.const (.bool true)) (.tmp 15)), true, none⟩,
  ⟨some 17, (.mov (.tmp 16)), true, none⟩,
  ⟨some 18, (.fieldAddr 3 (.tmp 1)), false, some (17, false)⟩,
  ⟨some 19, (.load 1 false (.tmp 18)), false, some (17, false)⟩,
  ⟨some 20, (.call i_transitref26_in [(.tmp 19), (.const (.int .i64 0)), (.const (.int .i64 1000000))]), true, some (17, false)⟩,
  ⟨some 21, (.un .not (.tmp 20)), true, some (17, false)⟩,
  ⟨some 22, (.pick (.tmp 17) (.const (.bool true)) (.tmp 21)), true, none⟩]
def c22_6 : ACode := (.seq (.region o22_5 [1, 22]) (.cond (.tmp 22) c22_4 .skip))
def w22_6 (P : Program) (Q : Exit → Slots → Mem → Prop) (M : Mem) (v1 : V) : Prop :=
  @OptVH (moveV 1 v1) ⟨fun t7_1 =>
  @OptVH (loadV 1 false t7_1 M) ⟨fun t8_2 =>
  @CallH P i_transitref26_in [t8_2, (.int .i64 0), (.int .i64 1000000)] M ⟨fun t9_3 M3 => @OptBH (some t9_3) ⟨fun b9_3 =>
  @OptBH (unV .not (.bool b9_3)) ⟨fun b10_4 =>
  @BIfH b10_4
  ⟨wpC P c22_4 Q [(1, v1), (22, (.bool true))] M3⟩
  ⟨@OptVH (moveV 2 v1) ⟨fun t12_9 =>
  @OptVH (loadV 1 false t12_9 M3) ⟨fun t13_10 =>
  @CallH P i_transitref26_in [t13_10, (.int .i64 0), (.int .i64 86400)] M3 ⟨fun t14_11 M11 => @OptBH (some t14_11) ⟨fun b14_11 =>
  @OptBH (unV .not (.bool b14_11)) ⟨fun b15_12 =>
  @BIfH b15_12
  ⟨wpC P c22_4 Q [(1, v1), (22, (.bool true))] M11⟩
  ⟨@OptVH (moveV 3 v1) ⟨fun t18_16 =>
  @OptVH (loadV 1 false t18_16 M11) ⟨fun t19_17 =>
  @CallH P i_transitref26_in [t19_17, (.int .i64 0), (.int .i64 1000000)] M11 ⟨fun t20_18 M18 => @OptBH (some t20_18) ⟨fun b20_18 =>
  @OptBH (unV .not (.bool b20_18)) ⟨fun b21_19 =>
  @BIfH b21_19
  ⟨wpC P c22_4 Q [(1, v1), (22, (.bool b21_19))] M18⟩
  ⟨Q .normal [(1, v1), (22, (.bool b21_19))] M18⟩⟩⟩⟩⟩⟩⟩⟩⟩⟩⟩⟩⟩⟩⟩⟩⟩⟩
theorem e22_6 (P : Program) (Q : Exit → Slots → Mem → Prop) (s : Slots) (M : Mem) : wpC P c22_6 Q s M = w22_6 P Q M (sget s 1) := by kernel_rfl
def o22_7 : List AOper := [⟨some 2, (.mov (.const (.int .i64 0))), false, none⟩,
  ⟨some 3, (.mov (.const (.int .i64 5))), false, none⟩]
def c22_8 : ACode := (.region o22_7 [2, 3])
def w22_8 (_P : Program) (Q : Exit → Slots → Mem → Prop) (M : Mem) : Prop :=
  Q .normal [(2, (.int .i64 0)), (3, (.int .i64 5))] M
theorem e22_8 (P : Program) (Q : Exit → Slots → Mem → Prop) (s : Slots) (M : Mem) : wpC P c22_8 Q s M = w22_8 P Q M := by kernel_rfl
def c22_9 : ACode := (.seq c22_8 .ret)
def o22_10 : List AOper := [⟨some 23, (.fieldAddr 0 (.tmp 1)), false, none⟩,
  ⟨some 24, (.load 1 false (.tmp 23)), false, none⟩,
  ⟨some 25, (.lenSl (.tmp 24)), false, none⟩,
  ⟨some 26, (.bin .gtr .none (.tmp 25) (.const (.int .i64 16))), true, none⟩]
def c22_11 : ACode := (.seq (.region o22_10 [1, 26]) (.cond (.tmp 26) c22_9 .skip))
def w22_11 (P : Program) (Q : Exit → Slots → Mem → Prop) (M : Mem) (v1 : V) : Prop :=
  @OptVH (moveV 0 v1) ⟨fun t23_1 =>
  @OptVH (loadV 1 false t23_1 M) ⟨fun t24_2 =>
  @OptVH (lenV t24_2 M) ⟨fun t25_3 =>
  @OptBH (binV .gtr .none t25_3 (.int .i64 16)) ⟨fun b26_4 =>
  @BIfH b26_4
  ⟨wpC P c22_9 Q [(1, v1), (26, (.bool b26_4))] M⟩
  ⟨Q .normal [(1, v1), (26, (.bool b26_4))] M⟩⟩⟩⟩⟩
theorem e22_11 (P : Program) (Q : Exit → Slots → Mem → Prop) (s : Slots) (M : Mem) : wpC P c22_11 Q s M = w22_11 P Q M (sget s 1) := by kernel_rfl
def o22_12 : List AOper := [⟨some 4, (.mov (.const (.int .i64 0))), false, none⟩]
def c22_13 : ACode := (.region o22_12 [1, 4])
def w22_13 (_P : Program) (Q : Exit → Slots → Mem → Prop) (M : Mem) (v1 : V) : Prop :=
  Q .normal [(1, v1), (4, (.int .i64 0))] M
theorem e22_13 (P : Program) (Q : Exit → Slots → Mem → Prop) (s : Slots) (M : Mem) : wpC P c22_13 Q s M = w22_13 P Q M (sget s 1) := by kernel_rfl
def o22_14 : List AOper := [⟨some 27, (.mov (.tmp 4)), false, none⟩,
  ⟨some 28, (.fieldAddr 0 (.tmp 1)), false, none⟩,
  ⟨some 29, (.load 1 false (.tmp 28)), false, none⟩,
  ⟨some 30, (.lenSl (.tmp 29)), false, none⟩,
  ⟨some 31, (.bin .lss .none (.tmp 27) (.tmp 30)), true, none⟩]
def c22_15 : ACode := (.seq (.region o22_14 [1, 4, 31]) (.cond (.tmp 31) .skip (.exit 0)))
def w22_15 (_P : Program) (Q : Exit → Slots → Mem → Prop) (M : Mem) (v1 : V) (v4 : V) : Prop :=
  @OptVH (moveV 0 v1) ⟨fun t28_2 =>
  @OptVH (loadV 1 false t28_2 M) ⟨fun t29_3 =>
  @OptVH (lenV t29_3 M) ⟨fun t30_4 =>
  @OptBH (binV .lss .none v4 t30_4) ⟨fun b31_5 =>
  @BIfH b31_5
  ⟨Q .normal [(1, v1), (4, v4), (31, (.bool b31_5))] M⟩
  ⟨Q (.exit 0) [(1, v1), (4, v4), (31, (.bool b31_5))] M⟩⟩⟩⟩⟩
theorem e22_15 (P : Program) (Q : Exit → Slots → Mem → Prop) (s : Slots) (M : Mem) : wpC P c22_15 Q s M = w22_15 P Q M (sget s 1) (sget s 4) := by kernel_rfl
def o22_16 : List AOper := [⟨some 34, (.fieldAddr 0 (.tmp 1)), false, none⟩,
  ⟨some 35, (.load 1 false (.tmp 34)), false, none⟩,
  ⟨some 36, (.mov (.tmp 4)), false, none⟩,
  ⟨some 37, (.indexSl 6 (.tmp 35) (.tmp 36)), false, none⟩,
  ⟨some 38, (.load 6 true (.tmp 37)), false, none⟩,
  ⟨some 5, (.alloc [(.str []), (.int .i64 0), (.int .i64 0), (.int .i64 0), (.int .i64 0), (.int .i64 0)]), false, none⟩,
  ⟨none, (.store 6 (.tmp 5) (.tmp 38)), false, none⟩]
def c22_17 : ACode := (.region o22_16 [1, 4, 5])
def w22_17 (_P : Program) (Q : Exit → Slots → Mem → Prop) (M : Mem) (v1 : V) (v4 : V) : Prop :=
  @OptVH (moveV 0 v1) ⟨fun t34_1 =>
  @OptVH (loadV 1 false t34_1 M) ⟨fun t35_2 =>
  @OptVH (indexSlV 6 t35_2 v4 M) ⟨fun t37_4 =>
  @OptVH (loadV 6 true t37_4 M) ⟨fun t38_5 =>
  @OptMH (allocV [(.str []), (.int .i64 0), (.int .i64 0), (.int .i64 0), (.int .i64 0), (.int .i64 0)] M) ⟨fun t5_6 M6 =>
  @OptMH (storeVM 6 t5_6 t38_5 M6) ⟨fun _tx_7 M7 =>
  Q .normal [(1, v1), (4, v4), (5, t5_6)] M7⟩⟩⟩⟩⟩⟩
theorem e22_17 (P : Program) (Q : Exit → Slots → Mem → Prop) (s : Slots) (M : Mem) : wpC P c22_17 Q s M = w22_17 P Q M (sget s 1) (sget s 4) := by kernel_rfl
def o22_18 : List AOper := [⟨some 43, (.mov (.tmp 4)), false, none⟩,
  ⟨some 2, (.mov (.tmp 43)), false, none⟩,
  ⟨some 3, (.mov (.const (.int .i64 12))), false, none⟩]
def c22_19 : ACode := (.region o22_18 [2, 3])
def w22_19 (_P : Program) (Q : Exit → Slots → Mem → Prop) (M : Mem) (v4 : V) : Prop :=
  Q .normal [(2, v4), (3, (.int .i64 12))] M
theorem e22_19 (P : Program) (Q : Exit → Slots → Mem → Prop) (s : Slots) (M : Mem) : wpC P c22_19 Q s M = w22_19 P Q M (sget s 4) := by kernel_rfl
def c22_20 : ACode := (.seq c22_19 .ret)
def o22_21 : List AOper := [⟨some 39, (.fieldAddr 0 (.tmp 5)), false, none⟩,
  ⟨some 40, (.load 1 false (.tmp 39)), false, none⟩,
  ⟨some 41, (.call i_transitref26_ValidID [(.tmp 40)]), true, none⟩,
  ⟨some 42, (.un .not (.tmp 41)), true, none⟩]
def c22_22 : ACode := (.seq (.region o22_21 [1, 4, 5, 42]) (.cond (.tmp 42) c22_20 .skip))
def w22_22 (P : Program) (Q : Exit → Slots → Mem → Prop) (M : Mem) (v1 : V) (v4 : V) (v5 : V) : Prop :=
  @OptVH (moveV 0 v5) ⟨fun t39_1 =>
  @OptVH (loadV 1 false t39_1 M) ⟨fun t40_2 =>
  @CallH P i_transitref26_ValidID [t40_2] M ⟨fun t41_3 M3 => @OptBH (some t41_3) ⟨fun b41_3 =>
  @OptBH (unV .not (.bool b41_3)) ⟨fun b42_4 =>
  @BIfH b42_4
  ⟨wpC P c22_20 Q [(1, v1), (4, v4), (5, v5), (42, (.bool b42_4))] M3⟩
  ⟨Q .normal [(1, v1), (4, v4), (5, v5), (42, (.bool b42_4))] M3⟩⟩⟩⟩⟩⟩
theorem e22_22 (P : Program) (Q : Exit → Slots → Mem → Prop) (s : Slots) (M : Mem) : wpC P c22_22 Q s M = w22_22 P Q M (sget s 1) (sget s 4) (sget s 5) := by kernel_rfl
def o22_23 : List AOper := [⟨some 6, (.mov (.const (.int .i64 0))), false, none⟩]
def c22_24 : ACode := (.region o22_23 [1, 4, 5, 6])
def w22_24 (_P : Program) (Q : Exit → Slots → Mem → Prop) (M : Mem) (v1 : V) (v4 : V) (v5 : V) : Prop :=
  Q .normal [(1, v1), (4, v4), (5, v5), (6, (.int .i64 0))] M
theorem e22_24 (P : Program) (Q : Exit → Slots → Mem → Prop) (s : Slots) (M : Mem) : wpC P c22_24 Q s M = w22_24 P Q M (sget s 1) (sget s 4) (sget s 5) := by kernel_rfl
def o22_25 : List AOper := [⟨some 44, (.mov (.tmp 6)), false, none⟩,
  ⟨some 45, (.mov (.tmp 4)), false, none⟩,
  ⟨some 46, (.bin .lss .none (.tmp 44) (.tmp 45)), true, none⟩]
def c22_26 : ACode := (.seq (.region o22_25 [1, 4, 5, 6, 46]) (.cond (.tmp 46) .skip (.exit 2)))
def w22_26 (_P : Program) (Q : Exit → Slots → Mem → Prop) (M : Mem) (v1 : V) (v4 : V) (v5 : V) (v6 : V) : Prop :=
  @OptBH (binV .lss .none v6 v4) ⟨fun b46_3 =>
  @BIfH b46_3
  ⟨Q .normal [(1, v1), (4, v4), (5, v5), (6, v6), (46, (.bool b46_3))] M⟩
  ⟨Q (.exit 2) [(1, v1), (4, v4), (5, v5), (6, v6), (46, (.bool b46_3))] M⟩⟩
theorem e22_26 (P : Program) (Q : Exit → Slots → Mem → Prop) (s : Slots) (M : Mem) : wpC P c22_26 Q s M = w22_26 P Q M (sget s 1) (sget s 4) (sget s 5) (sget s 6) := by kernel_rfl
def o22_27 : List AOper := [⟨some 58, (.mov (.tmp 4)), false, none⟩,
  ⟨some 2, (.mov (.tmp 58)), false, none⟩,
  ⟨some 3, (.mov (.const (.int .i64 6))), false, none⟩]
def c22_28 : ACode := (.region o22_27 [2, 3])
def w22_28 (_P : Program) (Q : Exit → Slots → Mem → Prop) (M : Mem) (v4 : V) : Prop :=
  Q .normal [(2, v4), (3, (.int .i64 6))] M
theorem e22_28 (P : Program) (Q : Exit → Slots → Mem → Prop) (s : Slots) (M : Mem) : wpC P c22_28 Q s M = w22_28 P Q M (sget s 4) := by kernel_rfl
def c22_29 : ACode := (.seq c22_28 .ret)
def o22_30 : List AOper := [⟨some 49, (.fieldAddr 0 (.tmp 1)), false, none⟩,
  ⟨some 50, (.load 1 false (.tmp 49)), false, none⟩,
  ⟨some 51, (.mov (.tmp 6)), false, none⟩,
  ⟨some 52, (.indexSl 6 (.tmp 50) (.tmp 51)), false, none⟩,
  ⟨some 53, (.fieldAddr 0 (.tmp 52)), false, none⟩,
  ⟨some 54, (.load 1 false (.tmp 53)), false, none⟩,
  ⟨some 55, (.fieldAddr 0 (.tmp 5)), false, none⟩,
  ⟨some 56, (.load 1 false (.tmp 55)), false, none⟩,
  ⟨some 57, (.bin .eql .none (.tmp 54) (.tmp 56)), true, none⟩]
def c22_31 : ACode := (.seq (.mixed o22_30 [true, true, true, true, true, true, true, true, true] [1, 4, 5, 6, 57]) (.cond (.tmp 57) c22_29 .skip))
def w22_31 (P : Program) (Q : Exit → Slots → Mem → Prop) (M : Mem) (v1 : V) (v4 : V) (v5 : V) (v6 : V) : Prop :=
  @OptVH (moveV 0 v1) ⟨fun t49_1 =>
  @OptVH (loadV 1 false t49_1 M) ⟨fun t50_2 =>
  @OptVH (indexSlV 6 t50_2 v6 M) ⟨fun t52_4 =>
  @OptVH (moveV 0 t52_4) ⟨fun t53_5 =>
  @OptVH (loadV 1 false t53_5 M) ⟨fun t54_6 =>
  @OptVH (moveV 0 v5) ⟨fun t55_7 =>
  @OptVH (loadV 1 false t55_7 M) ⟨fun t56_8 =>
  @OptBH (binV .eql .none t54_6 t56_8) ⟨fun b57_9 =>
  @BIfH b57_9
  ⟨wpC P c22_29 Q [(1, v1), (4, v4), (5, v5), (6, v6), (57, (.bool b57_9))] M⟩
  ⟨Q .normal [(1, v1), (4, v4), (5, v5), (6, v6), (57, (.bool b57_9))] M⟩⟩⟩⟩⟩⟩⟩⟩⟩
theorem e22_31 (P : Program) (Q : Exit → Slots → Mem → Prop) (s : Slots) (M : Mem) : wpC P c22_31 Q s M = w22_31 P Q M (sget s 1) (sget s 4) (sget s 5) (sget s 6) := by kernel_rfl
def c22_32 : ACode := (.block 3 c22_31)
def o22_33 : List AOper := [⟨some 47, (.mov (.tmp 6)), false, none⟩,
  ⟨some 48, (.bin .add .none (.tmp 47) (.const (.int .i64 1))), false, none⟩,
  ⟨some 6, (.mov (.tmp 48)), false, none⟩]
def c22_34 : ACode := (.region o22_33 [1, 4, 5, 6])
def w22_34 (_P : Program) (Q : Exit → Slots → Mem → Prop) (M : Mem) (v1 : V) (v4 : V) (v5 : V) (v6 : V) : Prop :=
  @OptVH (binV .add .none v6 (.int .i64 1)) ⟨fun t48_2 =>
  Q .normal [(1, v1), (4, v4), (5, v5), (6, t48_2)] M⟩
theorem e22_34 (P : Program) (Q : Exit → Slots → Mem → Prop) (s : Slots) (M : Mem) : wpC P c22_34 Q s M = w22_34 P Q M (sget s 1) (sget s 4) (sget s 5) (sget s 6) := by kernel_rfl
def c22_35 : ACode := (.seq c22_32 c22_34)
def c22_36 : ACode := (.seq c22_26 c22_35)
def c22_37 : ACode := (.loop [1, 4, 5, 6] c22_36)
def c22_38 : ACode := (.block 2 c22_37)
def c22_39 : ACode := (.seq c22_24 c22_38)
def o22_40 : List AOper := [⟨some 87, (.mov (.tmp 4)), false, none⟩,
  ⟨some 2, (.mov (.tmp 87)), false, none⟩,
  ⟨some 3, (.mov (.const (.int .i64 2))), false, none⟩]
def c22_41 : ACode := (.region o22_40 [2, 3])
def w22_41 (_P : Program) (Q : Exit → Slots → Mem → Prop) (M : Mem) (v4 : V) : Prop :=
  Q .normal [(2, v4), (3, (.int .i64 2))] M
theorem e22_41 (P : Program) (Q : Exit → Slots → Mem → Prop) (s : Slots) (M : Mem) : wpC P c22_41 Q s M = w22_41 P Q M (sget s 4) := by kernel_rfl
def c22_42 : ACode := (.seq c22_41 .ret)
def o22_43 : List AOper := [⟨some 59, (.fieldAddr 1 (.tmp 5)), false, none⟩,
  ⟨some 60, (.load 1 false (.tmp 59)), false, none⟩,
  ⟨some 61, (.call i_transitref26_in [(.tmp 60), (.const (.int .i64 0)), (.const (.int .i64 1000000))]), true, none⟩,
  ⟨some 62, (.un .not (.tmp 61)), true, none⟩,
  ⟨some 63, (.mov (.tmp 62)), true, none⟩,
  ⟨some 64, (.fieldAddr 2 (.tmp 5)), false, some (63, false)⟩,
  ⟨some 65, (.load 1 false (.tmp 64)), false, some (63, false)⟩,
  ⟨some 66, (.call i_transitref26_in [(.tmp 65), (.const (.int .i64 1)), (.const (.int .i64 8))]), true, some (63, false)⟩,
  ⟨some 67, (.un .not (.tmp 66)), true, some (63, false)⟩,
  ⟨some 68, (.pick (.tmp 63) (.const (.bool true)) (.tmp 67)), true, none⟩,
  ⟨some 69, (.mov (.tmp 68)), true, none⟩,
  ⟨some 70, (.fieldAddr 3 (.tmp 5)), false, some (69, false)⟩,
  ⟨some 71, (.load 1 false (.tmp 70)), false, some (69, false)⟩,
  ⟨some 72, (.call i_transitref26_in [(.tmp 71), (.const (.int .i64 1)), (.const (.int .i64 16))]), true, some (69, false)⟩,
  ⟨some 73, (.un .not (.tmp 72)), true, some (69, false)⟩,
  ⟨some 74, (.pick (.tmp 69) (.const (.bool true)) (.tmp 73)), true, none⟩,
  ⟨some 75, (.mov (.tmp 74)), true, none⟩,
  ⟨some 76, (.fieldAddr 4 (.tmp 5)), false, some (75, false)⟩,
  ⟨some 77, (.load 1 false (.tmp 76)), false, some (75, false)⟩,
  ⟨some 78, (.call i_transitref26_in [(.tmp 77), (.const (.int .i64 0)), (.const (.int .i64 86400))]), true, some (75, false)⟩,
  ⟨some 79, (.un .not (.tmp 78)), true, some (75, false)⟩,
  ⟨some 80, (.pick (.tmp 75) (.const (.bool true)) (.tmp 79)), true, none⟩,
  ⟨some 81, (.mov (.tmp 80)), true, none⟩,
  ⟨some 82, (.fieldAddr 5 (.tmp 5)), false, some (81, false)⟩,
  ⟨some 83, (.load 1 false (.tmp 82)), false, some (81, false)⟩,
  ⟨some 84, (.call i_transitref26_in [(.tmp 83), (.const (.int .i64 1)), (.const (.int .i64 255))]), true, some (81, false)⟩,
  ⟨some 85, (.un .not (.tmp 84)), true, some (81, false)⟩,
  ⟨some 86, (.pick (.tmp 81) (.const (.bool true)) (.tmp 85)), true, none⟩]
def c22_44 : ACode := (.seq (.region o22_43 [1, 4, 86]) (.cond (.tmp 86) c22_42 .skip))
def w22_44 (P : Program) (Q : Exit → Slots → Mem → Prop) (M : Mem) (v1 : V) (v4 : V) (v5 : V) : Prop :=
  @OptVH (moveV 1 v5) ⟨fun t59_1 =>
  @OptVH (loadV 1 false t59_1 M) ⟨fun t60_2 =>
  @CallH P i_transitref26_in [t60_2, (.int .i64 0), (.int .i64 1000000)] M ⟨fun t61_3 M3 => @OptBH (some t61_3) ⟨fun b61_3 =>
  @OptBH (unV .not (.bool b61_3)) ⟨fun b62_4 =>
  @BIfH b62_4
  ⟨wpC P c22_42 Q [(1, v1), (4, v4), (86, (.bool true))] M3⟩
  ⟨@OptVH (moveV 2 v5) ⟨fun t64_13 =>
  @OptVH (loadV 1 false t64_13 M3) ⟨fun t65_14 =>
  @CallH P i_transitref26_in [t65_14, (.int .i64 1), (.int .i64 8)] M3 ⟨fun t66_15 M15 => @OptBH (some t66_15) ⟨fun b66_15 =>
  @OptBH (unV .not (.bool b66_15)) ⟨fun b67_16 =>
  @BIfH b67_16
  ⟨wpC P c22_42 Q [(1, v1), (4, v4), (86, (.bool true))] M15⟩
  ⟨@OptVH (moveV 3 v5) ⟨fun t70_24 =>
  @OptVH (loadV 1 false t70_24 M15) ⟨fun t71_25 =>
  @CallH P i_transitref26_in [t71_25, (.int .i64 1), (.int .i64 16)] M15 ⟨fun t72_26 M26 => @OptBH (some t72_26) ⟨fun b72_26 =>
  @OptBH (unV .not (.bool b72_26)) ⟨fun b73_27 =>
  @BIfH b73_27
  ⟨wpC P c22_42 Q [(1, v1), (4, v4), (86, (.bool true))] M26⟩
  ⟨@OptVH (moveV 4 v5) ⟨fun t76_33 =>
  @OptVH (loadV 1 false t76_33 M26) ⟨fun t77_34 =>
  @CallH P i_transitref26_in [t77_34, (.int .i64 0), (.int .i64 86400)] M26 ⟨fun t78_35 M35 => @OptBH (some t78_35) ⟨fun b78_35 =>
  @OptBH (unV .not (.bool b78_35)) ⟨fun b79_36 =>
  @BIfH b79_36
  ⟨wpC P c22_42 Q [(1, v1), (4, v4), (86, (.bool true))] M35⟩
  ⟨@OptVH (moveV 5 v5) ⟨fun t82_40 =>
  @OptVH (loadV 1 false t82_40 M35) ⟨fun t83_41 =>
  @CallH P i_transitref26_in [t83_41, (.int .i64 1), (.int .i64 255)] M35 ⟨fun t84_42 M42 => @OptBH (some t84_42) ⟨fun b84_42 =>
  @OptBH (unV .not (.bool b84_42)) ⟨fun b85_43 =>
  @BIfH b85_43
  ⟨wpC P c22_42 Q [(1, v1), (4, v4), (86, (.bool b85_43))] M42⟩
  ⟨Q .normal [(1, v1), (4, v4), (86, (.bool b85_43))] M42⟩⟩⟩⟩⟩⟩⟩⟩⟩⟩⟩⟩⟩⟩⟩⟩⟩⟩⟩⟩⟩⟩⟩⟩⟩⟩⟩⟩⟩⟩
theorem e22_44 (P : Program) (Q : Exit → Slots → Mem → Prop) (s : Slots) (M : Mem) : wpC P c22_44 Q s M = w22_44 P Q M (sget s 1) (sget s 4) (sget s 5) := by kernel_rfl
def c22_45 : ACode := (.seq c22_39 c22_44)
def c22_46 : ACode := (.seq c22_22 c22_45)
def c22_47 : ACode := (.seq c22_17 c22_46)
def c22_48 : ACode := (.block 1 c22_47)
def o22_49 : List AOper := [⟨some 32, (.mov (.tmp 4)), false, none⟩,
  ⟨some 33, (.bin .add .none (.tmp 32) (.const (.int .i64 1))), false, none⟩,
  ⟨some 4, (.mov (.tmp 33)), false, none⟩]
def c22_50 : ACode := (.region o22_49 [1, 4])
def w22_50 (_P : Program) (Q : Exit → Slots → Mem → Prop) (M : Mem) (v1 : V) (v4 : V) : Prop :=
  @OptVH (binV .add .none v4 (.int .i64 1)) ⟨fun t33_2 =>
  Q .normal [(1, v1), (4, t33_2)] M⟩
theorem e22_50 (P : Program) (Q : Exit → Slots → Mem → Prop) (s : Slots) (M : Mem) : wpC P c22_50 Q s M = w22_50 P Q M (sget s 1) (sget s 4) := by kernel_rfl
def c22_51 : ACode := (.seq c22_48 c22_50)
def c22_52 : ACode := (.seq c22_15 c22_51)
def c22_53 : ACode := (.loop [1, 4] c22_52)
def c22_54 : ACode := (.block 0 c22_53)
def c22_55 : ACode := (.seq c22_13 c22_54)
def o22_56 : List AOper := [⟨some 2, (.mov (.const (.int .i64 0))), false, none⟩,
  ⟨some 3, (.mov (.const (.int .i64 0))), false, none⟩]
def c22_57 : ACode := (.region o22_56 [2, 3])
def w22_57 (_P : Program) (Q : Exit → Slots → Mem → Prop) (M : Mem) : Prop :=
  Q .normal [(2, (.int .i64 0)), (3, (.int .i64 0))] M
theorem e22_57 (P : Program) (Q : Exit → Slots → Mem → Prop) (s : Slots) (M : Mem) : wpC P c22_57 Q s M = w22_57 P Q M := by kernel_rfl
def c22_58 : ACode := (.seq c22_57 .ret)
def c22_59 : ACode := (.seq c22_55 c22_58)
def c22_60 : ACode := (.seq c22_11 c22_59)
def c22_61 : ACode := (.seq c22_6 c22_60)
def c22_62 : ACode := (.seq c22_1 c22_61)
def fn_transitref26_Fares : AFn := ⟨88, [(.tmp 2), (.tmp 3)], c22_62⟩
theorem fn_transitref26_Fares_ok : resFn PR h_transitref26_Fares i_transitref26_Fares = some fn_transitref26_Fares := by kernel_rfl

def h_fare_divide_1 : Hints := ⟨[(0, [0, 1, 2, 3, 4, 5, 23]), (1, [0, 1, 2, 5, 9]), (2, [0, 1, 2, 5, 9, 10, 11]), (3, [0, 1, 2, 5, 9, 10, 11, 51]), (4, [])], [], []⟩
def o23_0 : List AOper := [⟨some 12, (.fieldAddr 0 (.tmp 3)), false, none⟩,
  ⟨some 13, (.load 1 false (.tmp 12)), false, none⟩,
  ⟨some 14, (.mov (.tmp 2)), false, none⟩,
  ⟨some 15, (.indexSl 6 (.tmp 13) (.tmp 14)), false, none⟩,
  ⟨some 16, (.load 6 true (.tmp 15)), false, none⟩,
  ⟨some 17, (.load 1 false (.tmp 4)), false, none⟩,
  ⟨some 18, (.mov (.tmp 0)), false, none⟩,
  ⟨some 19, (.mov (.tmp 1)), false, none⟩,
  ⟨some 20, (.bin .add .none (.tmp 19) (.const (.int .i64 1))), false, none⟩,
  ⟨some 21, (.slice 4 (.tmp 17) (some (.tmp 18)) (some (.tmp 20)) none), false, none⟩,
  ⟨some 22, (.call i_product_Covers [(.tmp 16), (.tmp 21)]), true, none⟩,
  ⟨some 23, (.un .not (.tmp 22)), true, none⟩]
def c23_1 : ACode := (.seq (.mixed o23_0 [true, true, true, true, true, true, true, true, true, true, false, true] [0, 1, 2, 3, 4, 5, 23]) (.cond (.tmp 23) .ret .skip))
def w23_1 (P : Program) (Q : Exit → Slots → Mem → Prop) (M : Mem) (v0 : V) (v1 : V) (v2 : V) (v3 : V) (v4 : V) (v5 : V) : Prop :=
  @OptVH (moveV 0 v3) ⟨fun t12_1 =>
  @OptVH (loadV 1 false t12_1 M) ⟨fun t13_2 =>
  @OptVH (indexSlV 6 t13_2 v2 M) ⟨fun t15_4 =>
  @OptVH (loadV 6 true t15_4 M) ⟨fun t16_5 =>
  @OptVH (loadV 1 false v4 M) ⟨fun t17_6 =>
  @OptVH (binV .add .none v1 (.int .i64 1)) ⟨fun t20_9 =>
  @OptVH (sliceV 4 t17_6 (some v0) (some t20_9) none M) ⟨fun t21_10 =>
  @CallH P i_product_Covers [t16_5, t21_10] M ⟨fun t22_11 M11 => @OptBH (some t22_11) ⟨fun b22_11 =>
  @OptBH (unV .not (.bool b22_11)) ⟨fun b23_12 =>
  @BIfH b23_12
  ⟨Q .ret [(0, v0), (1, v1), (2, v2), (3, v3), (4, v4), (5, v5), (23, (.bool b23_12))] M11⟩
  ⟨Q .normal [(0, v0), (1, v1), (2, v2), (3, v3), (4, v4), (5, v5), (23, (.bool b23_12))] M11⟩⟩⟩⟩⟩⟩⟩⟩⟩⟩⟩
theorem e23_1 (P : Program) (Q : Exit → Slots → Mem → Prop) (s : Slots) (M : Mem) : wpC P c23_1 Q s M = w23_1 P Q M (sget s 0) (sget s 1) (sget s 2) (sget s 3) (sget s 4) (sget s 5) := by kernel_rfl
def o23_2 : List AOper := [⟨some 24, (.load 4 true (.tmp 3)), false, none⟩,
  ⟨some 25, (.fieldAddr 0 (.tmp 3)), false, none⟩,
  ⟨some 26, (.load 1 false (.tmp 25)), false, none⟩,
  ⟨some 27, (.mov (.tmp 2)), false, none⟩,
  ⟨some 28, (.indexSl 6 (.tmp 26) (.tmp 27)), false, none⟩,
  ⟨some 29, (.load 6 true (.tmp 28)), false, none⟩,
  ⟨some 30, (.load 1 false (.tmp 4)), false, none⟩,
  ⟨some 31, (.mov (.tmp 0)), false, none⟩,
  ⟨some 32, (.call i_fare_ticketPrice [(.tmp 24), (.tmp 29), (.tmp 30), (.tmp 31)]), false, none⟩,
  ⟨some 9, (.mov (.tmp 32)), false, none⟩]
def c23_3 : ACode := (.mixed o23_2 [true, true, true, true, true, true, true, true, false, true] [0, 1, 2, 5, 9])
def w23_3 (P : Program) (Q : Exit → Slots → Mem → Prop) (M : Mem) (v0 : V) (v1 : V) (v2 : V) (v3 : V) (v4 : V) (v5 : V) : Prop :=
  @OptVH (loadV 4 true v3 M) ⟨fun t24_1 =>
  @OptVH (moveV 0 v3) ⟨fun t25_2 =>
  @OptVH (loadV 1 false t25_2 M) ⟨fun t26_3 =>
  @OptVH (indexSlV 6 t26_3 v2 M) ⟨fun t28_5 =>
  @OptVH (loadV 6 true t28_5 M) ⟨fun t29_6 =>
  @OptVH (loadV 1 false v4 M) ⟨fun t30_7 =>
  @CallH P i_fare_ticketPrice [t24_1, t29_6, t30_7, v0] M ⟨fun t32_9 M9 =>
  Q .normal [(0, v0), (1, v1), (2, v2), (5, v5), (9, t32_9)] M9⟩⟩⟩⟩⟩⟩⟩
theorem e23_3 (P : Program) (Q : Exit → Slots → Mem → Prop) (s : Slots) (M : Mem) : wpC P c23_3 Q s M = w23_3 P Q M (sget s 0) (sget s 1) (sget s 2) (sget s 3) (sget s 4) (sget s 5) := by kernel_rfl
def o23_4 : List AOper := [⟨some 33, (.mov (.tmp 9)), false, none⟩,
  ⟨some 34, (.mov (.tmp 1)), false, none⟩,
  ⟨some 35, (.bin .add .none (.tmp 34) (.const (.int .i64 1))), false, none⟩,
  ⟨some 36, (.indexArr 9 7 (.tmp 5) (.tmp 35)), false, none⟩,
  ⟨some 37, (.fieldAddr 1 (.tmp 36)), false, none⟩,
  ⟨some 38, (.load 1 false (.tmp 37)), false, none⟩,
  ⟨some 39, (.bin .add .none (.tmp 33) (.tmp 38)), false, none⟩,
  ⟨some 40, (.mov (.tmp 1)), false, none⟩,
  ⟨some 41, (.bin .add .none (.tmp 40) (.const (.int .i64 1))), false, none⟩,
  ⟨some 42, (.indexArr 9 7 (.tmp 5) (.tmp 41)), false, none⟩,
  ⟨some 43, (.fieldAddr 2 (.tmp 42)), false, none⟩,
  ⟨some 44, (.load 1 false (.tmp 43)), false, none⟩,
  ⟨some 45, (.bin .add .none (.tmp 44) (.const (.int .i64 1))), false, none⟩,
  ⟨some 10, (.mov (.tmp 39)), false, none⟩,
  ⟨some 11, (.mov (.tmp 45)), false, none⟩]
def c23_5 : ACode := (.mixed o23_4 [true, true, true, true, true, true, true, true, true, true, true, true, true, true, true] [0, 1, 2, 5, 9, 10, 11])
def w23_5 (_P : Program) (Q : Exit → Slots → Mem → Prop) (M : Mem) (v0 : V) (v1 : V) (v2 : V) (v5 : V) (v9 : V) : Prop :=
  @OptVH (binV .add .none v1 (.int .i64 1)) ⟨fun t35_3 =>
  @OptVH (indexArrV 9 7 v5 t35_3) ⟨fun t36_4 =>
  @OptVH (moveV 1 t36_4) ⟨fun t37_5 =>
  @OptVH (loadV 1 false t37_5 M) ⟨fun t38_6 =>
  @OptVH (binV .add .none v9 t38_6) ⟨fun t39_7 =>
  @OptVH (binV .add .none v1 (.int .i64 1)) ⟨fun t41_9 =>
  @OptVH (indexArrV 9 7 v5 t41_9) ⟨fun t42_10 =>
  @OptVH (moveV 2 t42_10) ⟨fun t43_11 =>
  @OptVH (loadV 1 false t43_11 M) ⟨fun t44_12 =>
  @OptVH (binV .add .none t44_12 (.int .i64 1)) ⟨fun t45_13 =>
  Q .normal [(0, v0), (1, v1), (2, v2), (5, v5), (9, v9), (10, t39_7), (11, t45_13)] M⟩⟩⟩⟩⟩⟩⟩⟩⟩⟩
theorem e23_5 (P : Program) (Q : Exit → Slots → Mem → Prop) (s : Slots) (M : Mem) : wpC P c23_5 Q s M = w23_5 P Q M (sget s 0) (sget s 1) (sget s 2) (sget s 5) (sget s 9) := by kernel_rfl
def o23_6 : List AOper := [⟨some 52, (.mov (.tmp 0)), false, none⟩,
  ⟨some 53, (.mov (.tmp 10)), false, none⟩,
  ⟨some 54, (.mov (.tmp 11)), false, none⟩,
  ⟨some 55, (.mov (.tmp 2)), false, none⟩,
  ⟨some 56, (.mov (.tmp 0)), false, none⟩,
  ⟨some 57, (.mov (.tmp 1)), false, none⟩,
  ⟨some 58, (.mov (.tmp 9)), false, none⟩,
  ⟨some 59, (.build [(.int .i64 0), (.int .i64 0), (.int .i64 0), (.int .i64 0)] [(0, (1, (.tmp 55))), (1, (1, (.tmp 56))), (2, (1, (.tmp 57))), (3, (1, (.tmp 58)))]), false, none⟩,
  ⟨some 60, (.build [(.bool false), (.int .i64 0), (.int .i64 0), (.int .i64 0), (.int .i64 0), (.int .i64 0), (.int .i64 0)] [(0, (1, (.const (.bool true)))), (1, (1, (.tmp 53))), (2, (1, (.tmp 54))), (3, (4, (.tmp 59)))]), false, none⟩,
  ⟨some 61, (.indexArr 9 7 (.tmp 5) (.tmp 52)), false, none⟩,
  ⟨none, (.store 7 (.tmp 61) (.tmp 60)), false, none⟩]
def c23_7 : ACode := (.region o23_6 [])
def w23_7 (_P : Program) (Q : Exit → Slots → Mem → Prop) (M : Mem) (v0 : V) (v1 : V) (v2 : V) (v5 : V) (v9 : V) (v10 : V) (v11 : V) : Prop :=
  @OptVH (buildV [(.int .i64 0), (.int .i64 0), (.int .i64 0), (.int .i64 0)] [(0, 1, v2), (1, 1, v0), (2, 1, v1), (3, 1, v9)]) ⟨fun t59_8 =>
  @OptVH (buildV [(.bool false), (.int .i64 0), (.int .i64 0), (.int .i64 0), (.int .i64 0), (.int .i64 0), (.int .i64 0)] [(0, 1, (.bool true)), (1, 1, v10), (2, 1, v11), (3, 4, t59_8)]) ⟨fun t60_9 =>
  @OptVH (indexArrV 9 7 v5 v0) ⟨fun t61_10 =>
  @OptMH (storeVM 7 t61_10 t60_9 M) ⟨fun _tx_11 M11 =>
  Q .normal [] M11⟩⟩⟩⟩
theorem e23_7 (P : Program) (Q : Exit → Slots → Mem → Prop) (s : Slots) (M : Mem) : wpC P c23_7 Q s M = w23_7 P Q M (sget s 0) (sget s 1) (sget s 2) (sget s 5) (sget s 9) (sget s 10) (sget s 11) := by kernel_rfl
def o23_8 : List AOper := [⟨some 46, (.mov (.tmp 0)), false, none⟩,
  ⟨some 47, (.indexArr 9 7 (.tmp 5) (.tmp 46)), false, none⟩,
  ⟨some 48, (.load 7 true (.tmp 47)), false, none⟩,
  ⟨some 49, (.mov (.tmp 10)), false, none⟩,
  ⟨some 50, (.mov (.tmp 11)), false, none⟩,
  ⟨some 51, (.call i_fare_rest_better [(.tmp 48), (.tmp 49), (.tmp 50)]), true, none⟩]
def c23_9 : ACode := (.seq (.region o23_8 [0, 1, 2, 5, 9, 10, 11, 51]) (.cond (.tmp 51) c23_7 .skip))
def w23_9 (P : Program) (Q : Exit → Slots → Mem → Prop) (M : Mem) (v0 : V) (v1 : V) (v2 : V) (v5 : V) (v9 : V) (v10 : V) (v11 : V) : Prop :=
  @OptVH (indexArrV 9 7 v5 v0) ⟨fun t47_2 =>
  @OptVH (loadV 7 true t47_2 M) ⟨fun t48_3 =>
  @CallH P i_fare_rest_better [t48_3, v10, v11] M ⟨fun t51_6 M6 => @OptBH (some t51_6) ⟨fun b51_6 =>
  @BIfH b51_6
  ⟨wpC P c23_7 Q [(0, v0), (1, v1), (2, v2), (5, v5), (9, v9), (10, v10), (11, v11), (51, (.bool b51_6))] M6⟩
  ⟨Q .normal [(0, v0), (1, v1), (2, v2), (5, v5), (9, v9), (10, v10), (11, v11), (51, (.bool b51_6))] M6⟩⟩⟩⟩⟩
theorem e23_9 (P : Program) (Q : Exit → Slots → Mem → Prop) (s : Slots) (M : Mem) : wpC P c23_9 Q s M = w23_9 P Q M (sget s 0) (sget s 1) (sget s 2) (sget s 5) (sget s 9) (sget s 10) (sget s 11) := by kernel_rfl
def c23_10 : ACode := (.seq c23_5 c23_9)
def c23_11 : ACode := (.seq c23_3 c23_10)
def c23_12 : ACode := (.seq c23_1 c23_11)
def fn_fare_divide_1 : AFn := ⟨62, [], c23_12⟩
theorem fn_fare_divide_1_ok : resFn PR h_fare_divide_1 i_fare_divide_1 = some fn_fare_divide_1 := by kernel_rfl

def h_product_Covers : Hints := ⟨[(0, [1, 2]), (1, [1, 2, 5]), (2, [1, 2, 35]), (3, [4]), (4, [1, 2, 6, 7]), (5, [1, 2, 6, 7, 8]), (6, [2, 6, 7, 8, 37, 38, 39]), (7, [2, 6, 7, 8, 37, 38, 39, 40]), (8, [2, 6, 7, 8, 10, 37, 38, 39]), (9, [2, 6, 7, 8, 37, 38, 39]), (10, [2, 6, 7, 8, 37, 38, 39]), (11, [4])], [(7, [2, 6, 7, 8, 37, 38, 39])], []⟩
def o24_0 : List AOper := [⟨some 2, (.box 6 (.tmp 0)), false, none⟩,
  ⟨some 4, (.mov (.const (.bool false))), true, none⟩]
def c24_1 : ACode := (.region o24_0 [1, 2])
def w24_1 (_P : Program) (Q : Exit → Slots → Mem → Prop) (M : Mem) (v0 : V) (v1 : V) : Prop :=
  @OptMH (boxV 6 v0 M) ⟨fun t2_1 M1 =>
  Q .normal [(1, v1), (2, t2_1)] M1⟩
theorem e24_1 (P : Program) (Q : Exit → Slots → Mem → Prop) (s : Slots) (M : Mem) : wpC P c24_1 Q s M = w24_1 P Q M (sget s 0) (sget s 1) := by kernel_rfl
def o24_2 : List AOper := [⟨some 11, (.mov (.tmp 1)), false, none⟩,
  ⟨some 12, (.lenSl (.tmp 11)), false, none⟩,
  ⟨some 5, (.mov (.tmp 12)), false, none⟩]
def c24_3 : ACode := (.region o24_2 [1, 2, 5])
def w24_3 (_P : Program) (Q : Exit → Slots → Mem → Prop) (M : Mem) (v1 : V) (v2 : V) : Prop :=
  @OptVH (lenV v1 M) ⟨fun t12_2 =>
  Q .normal [(1, v1), (2, v2), (5, t12_2)] M⟩
theorem e24_3 (P : Program) (Q : Exit → Slots → Mem → Prop) (s : Slots) (M : Mem) : wpC P c24_3 Q s M = w24_3 P Q M (sget s 1) (sget s 2) := by kernel_rfl
def o24_4 : List AOper := [⟨some 4, (.mov (.const (.bool false))), true, none⟩]
def c24_5 : ACode := (.region o24_4 [4])
def w24_5 (_P : Program) (Q : Exit → Slots → Mem → Prop) (M : Mem) : Prop :=
  Q .normal [(4, (.bool false))] M
theorem e24_5 (P : Program) (Q : Exit → Slots → Mem → Prop) (s : Slots) (M : Mem) : wpC P c24_5 Q s M = w24_5 P Q M := by kernel_rfl
def c24_6 : ACode := (.seq c24_5 .ret)
def o24_7 : List AOper := [⟨some 13, (.mov (.tmp 5)), false, none⟩,
  ⟨some 14, (.bin .eql .none (.tmp 13) (.const (.int .i64 0))), true, none⟩,
  ⟨some 15, (.mov (.tmp 14)), true, none⟩,
  ⟨some 16, (.mov (.tmp 5)), false, some (15, false)⟩,
  ⟨some 17, (.fieldAddr 2 (.tmp 2)), false, some (15, false)⟩,
  ⟨some 18, (.load 1 false (.tmp 17)), false, some (15, false)⟩,
  ⟨some 19, (.bin .gtr .none (.tmp 16) (.tmp 18)), true, some (15, false)⟩,
  ⟨some 20, (.pick (.tmp 15) (.const (.bool true)) (.tmp 19)), true, none⟩,
  ⟨some 21, (.mov (.tmp 20)), true, none⟩,
  ⟨some 22, (.mov (.tmp 1)), false, some (21, false)⟩,
  ⟨some 23, (.indexSl 4 (.tmp 22) (.const (.int .i64 0))), false, some (21, false)⟩,
  ⟨some 24, (.fieldAddr 0 (.tmp 23)), false, some (21, false)⟩,
  ⟨some 25, (.load 1 false (.tmp 24)), false, some (21, false)⟩,
  ⟨some 26, (.mov (.tmp 1)), false, some (21, false)⟩,
  ⟨some 27, (.mov (.tmp 5)), false, some (21, false)⟩,
  ⟨some 28, (.bin .sub .none (.tmp 27) (.const (.int .i64 1))), false, some (21, false)⟩,
  ⟨some 29, (.indexSl 4 (.tmp 26) (.tmp 28)), false, some (21, false)⟩,
  ⟨some 30, (.fieldAddr 0 (.tmp 29)), false, some (21, false)⟩,
  ⟨some 31, (.load 1 false (.tmp 30)), false, some (21, false)⟩,
  ⟨some 32, (.fieldAddr 4 (.tmp 2)), false, some (21, false)⟩,
  ⟨some 33, (.load 1 false (.tmp 32)), false, some (21, false)⟩,
  ⟨some 34, (.call i_product_later [(.tmp 25), (.tmp 31), (.tmp 33)]), true, some (21, false)⟩,
  ⟨some 35, (.pick (.tmp 21) (.const (.bool true)) (.tmp 34)), true, none⟩]
def c24_8 : ACode := (.seq (.mixed o24_7 [true, true, true, true, true, true, true, true, true, true, true, true, true, true, true, true, true, true, true, true, true, false, true] [1, 2, 35]) (.cond (.tmp 35) c24_6 .skip))
def w24_8 (P : Program) (Q : Exit → Slots → Mem → Prop) (M : Mem) (v1 : V) (v2 : V) (v5 : V) : Prop :=
  @OptBH (binV .eql .none v5 (.int .i64 0)) ⟨fun b14_2 =>
  @BIfH b14_2
  ⟨wpC P c24_6 Q [(1, v1), (2, v2), (35, (.bool true))] M⟩
  ⟨@OptVH (moveV 2 v2) ⟨fun t17_8 =>
  @OptVH (loadV 1 false t17_8 M) ⟨fun t18_9 =>
  @OptBH (binV .gtr .none v5 t18_9) ⟨fun b19_10 =>
  @BIfH b19_10
  ⟨wpC P c24_6 Q [(1, v1), (2, v2), (35, (.bool true))] M⟩
  ⟨@OptVH (indexSlV 4 v1 (.int .i64 0) M) ⟨fun t23_15 =>
  @OptVH (moveV 0 t23_15) ⟨fun t24_16 =>
  @OptVH (loadV 1 false t24_16 M) ⟨fun t25_17 =>
  @OptVH (binV .sub .none v5 (.int .i64 1)) ⟨fun t28_20 =>
  @OptVH (indexSlV 4 v1 t28_20 M) ⟨fun t29_21 =>
  @OptVH (moveV 0 t29_21) ⟨fun t30_22 =>
  @OptVH (loadV 1 false t30_22 M) ⟨fun t31_23 =>
  @OptVH (moveV 4 v2) ⟨fun t32_24 =>
  @OptVH (loadV 1 false t32_24 M) ⟨fun t33_25 =>
  @CallH P i_product_later [t25_17, t31_23, t33_25] M ⟨fun t34_26 M26 => @OptBH (some t34_26) ⟨fun b34_26 =>
  @BIfH b34_26
  ⟨wpC P c24_6 Q [(1, v1), (2, v2), (35, (.bool b34_26))] M26⟩
  ⟨Q .normal [(1, v1), (2, v2), (35, (.bool b34_26))] M26⟩⟩⟩⟩⟩⟩⟩⟩⟩⟩⟩⟩⟩⟩⟩⟩⟩⟩
theorem e24_8 (P : Program) (Q : Exit → Slots → Mem → Prop) (s : Slots) (M : Mem) : wpC P c24_8 Q s M = w24_8 P Q M (sget s 1) (sget s 2) (sget s 5) := by kernel_rfl
def o24_9 : List AOper := [⟨some 6, (.alloc [(.int .u64 0)]), false, none⟩,
  ⟨some 7, (.alloc [(.int .u64 0)]), false, none⟩]
def c24_10 : ACode := (.region o24_9 [1, 2, 6, 7])
def w24_10 (_P : Program) (Q : Exit → Slots → Mem → Prop) (M : Mem) (v1 : V) (v2 : V) : Prop :=
  @OptMH (allocV [(.int .u64 0)] M) ⟨fun t6_1 M1 =>
  @OptMH (allocV [(.int .u64 0)] M1) ⟨fun t7_2 M2 =>
  Q .normal [(1, v1), (2, v2), (6, t6_1), (7, t7_2)] M2⟩⟩
theorem e24_10 (P : Program) (Q : Exit → Slots → Mem → Prop) (s : Slots) (M : Mem) : wpC P c24_10 Q s M = w24_10 P Q M (sget s 1) (sget s 2) := by kernel_rfl
def o24_11 : List AOper := [⟨some 36, (.mkfn i_product_Covers_1 [(.tmp 6), (.tmp 7)]), false, none⟩,
  ⟨some 8, (.mov (.tmp 36)), false, none⟩]
def c24_12 : ACode := (.region o24_11 [1, 2, 6, 7, 8])
def w24_12 (_P : Program) (Q : Exit → Slots → Mem → Prop) (M : Mem) (v1 : V) (v2 : V) (v6 : V) (v7 : V) : Prop :=
  Q .normal [(1, v1), (2, v2), (6, v6), (7, v7), (8, (mkfnV i_product_Covers_1 [v6, v7]))] M
theorem e24_12 (P : Program) (Q : Exit → Slots → Mem → Prop) (s : Slots) (M : Mem) : wpC P c24_12 Q s M = w24_12 P Q M (sget s 1) (sget s 2) (sget s 6) (sget s 7) := by kernel_rfl
def o24_13 : List AOper := [⟨some 37, (.mov (.tmp 1)), false, none⟩,
  ⟨some 38, (.lenSl (.tmp 37)), false, none⟩,
  ⟨some 39, (.mov (.const (.int .i64 0))), false, none⟩]
def c24_14 : ACode := (.region o24_13 [2, 6, 7, 8, 37, 38, 39])
def w24_14 (_P : Program) (Q : Exit → Slots → Mem → Prop) (M : Mem) (v1 : V) (v2 : V) (v6 : V) (v7 : V) (v8 : V) : Prop :=
  @OptVH (lenV v1 M) ⟨fun t38_2 =>
  Q .normal [(2, v2), (6, v6), (7, v7), (8, v8), (37, v1), (38, t38_2), (39, (.int .i64 0))] M⟩
theorem e24_14 (P : Program) (Q : Exit → Slots → Mem → Prop) (s : Slots) (M : Mem) : wpC P c24_14 Q s M = w24_14 P Q M (sget s 1) (sget s 2) (sget s 6) (sget s 7) (sget s 8) := by kernel_rfl
def o24_15 : List AOper := [⟨some 40, (.bin .lss .none (.tmp 39) (.tmp 38)), false, none⟩]
def c24_16 : ACode := (.region o24_15 [2, 6, 7, 8, 37, 38, 39, 40])
def w24_16 (_P : Program) (Q : Exit → Slots → Mem → Prop) (M : Mem) (v2 : V) (v6 : V) (v7 : V) (v8 : V) (v37 : V) (v38 : V) (v39 : V) : Prop :=
  @OptVH (binV .lss .none v39 v38) ⟨fun t40_1 =>
  Q .normal [(2, v2), (6, v6), (7, v7), (8, v8), (37, v37), (38, v38), (39, v39), (40, t40_1)] M⟩
theorem e24_16 (P : Program) (Q : Exit → Slots → Mem → Prop) (s : Slots) (M : Mem) : wpC P c24_16 Q s M = w24_16 P Q M (sget s 2) (sget s 6) (sget s 7) (sget s 8) (sget s 37) (sget s 38) (sget s 39) := by kernel_rfl
def c24_17 : ACode := (.cond (.tmp 40) .skip (.exit 0))
def o24_18 : List AOper := [⟨some 41, (.indexSl 4 (.tmp 37) (.tmp 39)), false, none⟩,
  ⟨some 42, (.load 4 true (.tmp 41)), false, none⟩,
  ⟨some 10, (.alloc [(.int .i64 0), (.int .i64 0), (.int .i64 0), (.int .i64 0)]), false, none⟩,
  ⟨none, (.store 4 (.tmp 10) (.tmp 42)), false, none⟩]
def c24_19 : ACode := (.region o24_18 [2, 6, 7, 8, 10, 37, 38, 39])
def w24_19 (_P : Program) (Q : Exit → Slots → Mem → Prop) (M : Mem) (v2 : V) (v6 : V) (v7 : V) (v8 : V) (v37 : V) (v38 : V) (v39 : V) : Prop :=
  @OptVH (indexSlV 4 v37 v39 M) ⟨fun t41_1 =>
  @OptVH (loadV 4 true t41_1 M) ⟨fun t42_2 =>
  @OptMH (allocV [(.int .i64 0), (.int .i64 0), (.int .i64 0), (.int .i64 0)] M) ⟨fun t10_3 M3 =>
  @OptMH (storeVM 4 t10_3 t42_2 M3) ⟨fun _tx_4 M4 =>
  Q .normal [(2, v2), (6, v6), (7, v7), (8, v8), (10, t10_3), (37, v37), (38, v38), (39, v39)] M4⟩⟩⟩⟩
theorem e24_19 (P : Program) (Q : Exit → Slots → Mem → Prop) (s : Slots) (M : Mem) : wpC P c24_19 Q s M = w24_19 P Q M (sget s 2) (sget s 6) (sget s 7) (sget s 8) (sget s 37) (sget s 38) (sget s 39) := by kernel_rfl
def o24_20 : List AOper := [⟨some 43, (.mov (.tmp 8)), false, none⟩,
  ⟨some 44, (.load 4 true (.tmp 10)), false, none⟩,
  ⟨some 45, (.callv (.tmp 43) [(.tmp 44)]), false, none⟩]
def c24_21 : ACode := (.region o24_20 [2, 6, 7, 8, 37, 38, 39])
def w24_21 (P : Program) (Q : Exit → Slots → Mem → Prop) (M : Mem) (v2 : V) (v6 : V) (v7 : V) (v8 : V) (v10 : V) (v37 : V) (v38 : V) (v39 : V) : Prop :=
  @OptVH (loadV 4 true v10 M) ⟨fun t44_2 =>
  @CallV P false v8 [t44_2] M ⟨fun _t45_3 M3 =>
  Q .normal [(2, v2), (6, v6), (7, v7), (8, v8), (37, v37), (38, v38), (39, v39)] M3⟩⟩
theorem e24_21 (P : Program) (Q : Exit → Slots → Mem → Prop) (s : Slots) (M : Mem) : wpC P c24_21 Q s M = w24_21 P Q M (sget s 2) (sget s 6) (sget s 7) (sget s 8) (sget s 10) (sget s 37) (sget s 38) (sget s 39) := by kernel_rfl
def c24_22 : ACode := (.seq c24_19 c24_21)
def c24_23 : ACode := (.block 1 c24_22)
def o24_24 : List AOper := [⟨some 46, (.bin .add .none (.tmp 39) (.const (.int .i64 1))), false, none⟩,
  ⟨some 39, (.mov (.tmp 46)), false, none⟩]
def c24_25 : ACode := (.region o24_24 [2, 6, 7, 8, 37, 38, 39])
def w24_25 (_P : Program) (Q : Exit → Slots → Mem → Prop) (M : Mem) (v2 : V) (v6 : V) (v7 : V) (v8 : V) (v37 : V) (v38 : V) (v39 : V) : Prop :=
  @OptVH (binV .add .none v39 (.int .i64 1)) ⟨fun t46_1 =>
  Q .normal [(2, v2), (6, v6), (7, v7), (8, v8), (37, v37), (38, v38), (39, t46_1)] M⟩
theorem e24_25 (P : Program) (Q : Exit → Slots → Mem → Prop) (s : Slots) (M : Mem) : wpC P c24_25 Q s M = w24_25 P Q M (sget s 2) (sget s 6) (sget s 7) (sget s 8) (sget s 37) (sget s 38) (sget s 39) := by kernel_rfl
def c24_26 : ACode := (.seq c24_23 c24_25)
def c24_27 : ACode := (.seq c24_17 c24_26)
def c24_28 : ACode := (.seq c24_16 c24_27)
def c24_29 : ACode := (.loop [2, 6, 7, 8, 37, 38, 39] c24_28)
def c24_30 : ACode := (.block 0 c24_29)
def c24_31 : ACode := (.seq c24_14 c24_30)
def o24_32 : List AOper := [⟨some 47, (.load 1 false (.tmp 6)), false, none⟩,
  ⟨some 48, (.call i_bitset_Set_Len [(.tmp 47)]), false, none⟩,
  ⟨some 49, (.fieldAddr 3 (.tmp 2)), false, none⟩,
  ⟨some 50, (.load 1 false (.tmp 49)), false, none⟩,
  ⟨some 51, (.bin .leq .none (.tmp 48) (.tmp 50)), true, none⟩,
  ⟨some 52, (.mov (.tmp 51)), true, none⟩,
  ⟨some 53, (.load 1 false (.tmp 7)), false, some (52, true)⟩,
  ⟨some 54, (.fieldAddr 5 (.tmp 2)), false, some (52, true)⟩,
  ⟨some 55, (.load 1 false (.tmp 54)), false, some (52, true)⟩,
  ⟨some 56, (.conv .u64 (.tmp 55)), false, some (52, true)⟩,
  ⟨some 57, (.call i_bitset_Set_Within [(.tmp 53), (.tmp 56)]), true, some (52, true)⟩,
  ⟨some 58, (.pick (.tmp 52) (.tmp 57) (.const (.bool false))), true, none⟩,
  ⟨some 4, (.mov (.tmp 58)), true, none⟩]
def c24_33 : ACode := (.mixed o24_32 [true, true, true, true, true, true, true, true, true, true, false, true, true] [4])
def w24_33 (P : Program) (Q : Exit → Slots → Mem → Prop) (M : Mem) (v2 : V) (v6 : V) (v7 : V) : Prop :=
  @OptVH (loadV 1 false v6 M) ⟨fun t47_1 =>
  @CallQ P i_bitset_Set_Len [t47_1] M ⟨fun t48_2 M2 =>
  @OptVH (moveV 3 v2) ⟨fun t49_3 =>
  @OptVH (loadV 1 false t49_3 M2) ⟨fun t50_4 =>
  @OptBH (binV .leq .none t48_2 t50_4) ⟨fun b51_5 =>
  @BIfH b51_5
  ⟨@OptVH (loadV 1 false v7 M2) ⟨fun t53_7 =>
  @OptVH (moveV 5 v2) ⟨fun t54_8 =>
  @OptVH (loadV 1 false t54_8 M2) ⟨fun t55_9 =>
  @OptVH (convV .u64 t55_9) ⟨fun t56_10 =>
  @CallH P i_bitset_Set_Within [t53_7, t56_10] M2 ⟨fun t57_11 M11 => @OptBH (some t57_11) ⟨fun b57_11 =>
  Q .normal [(4, (.bool b57_11))] M11⟩⟩⟩⟩⟩⟩⟩
  ⟨Q .normal [(4, (.bool false))] M2⟩⟩⟩⟩⟩⟩
theorem e24_33 (P : Program) (Q : Exit → Slots → Mem → Prop) (s : Slots) (M : Mem) : wpC P c24_33 Q s M = w24_33 P Q M (sget s 2) (sget s 6) (sget s 7) := by kernel_rfl
def c24_34 : ACode := (.seq c24_33 .ret)
def c24_35 : ACode := (.seq c24_31 c24_34)
def c24_36 : ACode := (.seq c24_12 c24_35)
def c24_37 : ACode := (.seq c24_10 c24_36)
def c24_38 : ACode := (.seq c24_8 c24_37)
def c24_39 : ACode := (.seq c24_3 c24_38)
def c24_40 : ACode := (.seq c24_1 c24_39)
def fn_product_Covers : AFn := ⟨59, [(.tmp 4)], c24_40⟩
theorem fn_product_Covers_ok : resFn PR h_product_Covers i_product_Covers = some fn_product_Covers := by kernel_rfl

def h_fare_ticketPrice : Hints := ⟨[(0, [2, 3, 4, 5]), (1, [4, 5, 26]), (2, [8]), (3, [8])], [], []⟩
def o25_0 : List AOper := [⟨some 4, (.box 4 (.tmp 0)), false, none⟩,
  ⟨some 5, (.box 6 (.tmp 1)), false, none⟩,
  ⟨some 8, (.mov (.const (.int .i64 0))), false, none⟩]
def c25_1 : ACode := (.region o25_0 [2, 3, 4, 5])
def w25_1 (_P : Program) (Q : Exit → Slots → Mem → Prop) (M : Mem) (v0 : V) (v1 : V) (v2 : V) (v3 : V) : Prop :=
  @OptMH (boxV 4 v0 M) ⟨fun t4_1 M1 =>
  @OptMH (boxV 6 v1 M1) ⟨fun t5_2 M2 =>
  Q .normal [(2, v2), (3, v3), (4, t4_1), (5, t5_2)] M2⟩⟩
theorem e25_1 (P : Program) (Q : Exit → Slots → Mem → Prop) (s : Slots) (M : Mem) : wpC P c25_1 Q s M = w25_1 P Q M (sget s 0) (sget s 1) (sget s 2) (sget s 3) := by kernel_rfl
def o25_2 : List AOper := [⟨some 27, (.fieldAddr 1 (.tmp 5)), false, none⟩,
  ⟨some 28, (.load 1 false (.tmp 27)), false, none⟩,
  ⟨some 29, (.fieldAddr 1 (.tmp 4)), false, none⟩,
  ⟨some 30, (.load 1 false (.tmp 29)), false, none⟩,
  ⟨some 31, (.bin .sub .none (.tmp 28) (.tmp 30)), false, none⟩,
  ⟨some 32, (.minmax true (.const (.int .i64 0)) (.tmp 31)), false, none⟩,
  ⟨some 8, (.mov (.tmp 32)), false, none⟩]
def c25_3 : ACode := (.region o25_2 [8])
def w25_3 (_P : Program) (Q : Exit → Slots → Mem → Prop) (M : Mem) (v4 : V) (v5 : V) : Prop :=
  @OptVH (moveV 1 v5) ⟨fun t27_1 =>
  @OptVH (loadV 1 false t27_1 M) ⟨fun t28_2 =>
  @OptVH (moveV 1 v4) ⟨fun t29_3 =>
  @OptVH (loadV 1 false t29_3 M) ⟨fun t30_4 =>
  @OptVH (binV .sub .none t28_2 t30_4) ⟨fun t31_5 =>
  @OptVH (minmaxV true (.int .i64 0) t31_5) ⟨fun t32_6 =>
  Q .normal [(8, t32_6)] M⟩⟩⟩⟩⟩⟩
theorem e25_3 (P : Program) (Q : Exit → Slots → Mem → Prop) (s : Slots) (M : Mem) : wpC P c25_3 Q s M = w25_3 P Q M (sget s 4) (sget s 5) := by kernel_rfl
def c25_4 : ACode := (.seq c25_3 .ret)
def o25_5 : List AOper := [⟨some 9, (.mov (.tmp 3)), false, none⟩,
  ⟨some 10, (.bin .gtr .none (.tmp 9) (.const (.int .i64 0))), true, none⟩,
  ⟨some 11, (.mov (.tmp 10)), true, none⟩,
  ⟨some 12, (.mov (.tmp 2)), false, some (11, true)⟩,
  ⟨some 13, (.mov (.tmp 3)), false, some (11, true)⟩,
  ⟨some 14, (.bin .sub .none (.tmp 13) (.const (.int .i64 1))), false, some (11, true)⟩,
  ⟨some 15, (.indexSl 4 (.tmp 12) (.tmp 14)), false, some (11, true)⟩,
  ⟨some 16, (.fieldAddr 1 (.tmp 15)), false, some (11, true)⟩,
  ⟨some 17, (.load 1 false (.tmp 16)), false, some (11, true)⟩,
  ⟨some 18, (.mov (.tmp 2)), false, some (11, true)⟩,
  ⟨some 19, (.mov (.tmp 3)), false, some (11, true)⟩,
  ⟨some 20, (.indexSl 4 (.tmp 18) (.tmp 19)), false, some (11, true)⟩,
  ⟨some 21, (.fieldAddr 0 (.tmp 20)), false, some (11, true)⟩,
  ⟨some 22, (.load 1 false (.tmp 21)), false, some (11, true)⟩,
  ⟨some 23, (.fieldAddr 2 (.tmp 4)), false, some (11, true)⟩,
  ⟨some 24, (.load 1 false (.tmp 23)), false, some (11, true)⟩,
  ⟨some 25, (.call i_fare_within [(.tmp 17), (.tmp 22), (.tmp 24)]), true, some (11, true)⟩,
  ⟨some 26, (.pick (.tmp 11) (.tmp 25) (.const (.bool false))), true, none⟩]
def c25_6 : ACode := (.seq (.mixed o25_5 [true, true, true, true, true, true, true, true, true, true, true, true, true, true, true, true, false, true] [4, 5, 26]) (.cond (.tmp 26) c25_4 .skip))
def w25_6 (P : Program) (Q : Exit → Slots → Mem → Prop) (M : Mem) (v2 : V) (v3 : V) (v4 : V) (v5 : V) : Prop :=
  @OptBH (binV .gtr .none v3 (.int .i64 0)) ⟨fun b10_2 =>
  @BIfH b10_2
  ⟨@OptVH (binV .sub .none v3 (.int .i64 1)) ⟨fun t14_6 =>
  @OptVH (indexSlV 4 v2 t14_6 M) ⟨fun t15_7 =>
  @OptVH (moveV 1 t15_7) ⟨fun t16_8 =>
  @OptVH (loadV 1 false t16_8 M) ⟨fun t17_9 =>
  @OptVH (indexSlV 4 v2 v3 M) ⟨fun t20_12 =>
  @OptVH (moveV 0 t20_12) ⟨fun t21_13 =>
  @OptVH (loadV 1 false t21_13 M) ⟨fun t22_14 =>
  @OptVH (moveV 2 v4) ⟨fun t23_15 =>
  @OptVH (loadV 1 false t23_15 M) ⟨fun t24_16 =>
  @CallH P i_fare_within [t17_9, t22_14, t24_16] M ⟨fun t25_17 M17 => @OptBH (some t25_17) ⟨fun b25_17 =>
  @BIfH b25_17
  ⟨wpC P c25_4 Q [(4, v4), (5, v5), (26, (.bool b25_17))] M17⟩
  ⟨Q .normal [(4, v4), (5, v5), (26, (.bool b25_17))] M17⟩⟩⟩⟩⟩⟩⟩⟩⟩⟩⟩⟩⟩
  ⟨Q .normal [(4, v4), (5, v5), (26, (.bool false))] M⟩⟩
theorem e25_6 (P : Program) (Q : Exit → Slots → Mem → Prop) (s : Slots) (M : Mem) : wpC P c25_6 Q s M = w25_6 P Q M (sget s 2) (sget s 3) (sget s 4) (sget s 5) := by kernel_rfl
def o25_7 : List AOper := [⟨some 33, (.fieldAddr 1 (.tmp 5)), false, none⟩,
  ⟨some 34, (.load 1 false (.tmp 33)), false, none⟩,
  ⟨some 8, (.mov (.tmp 34)), false, none⟩]
def c25_8 : ACode := (.region o25_7 [8])
def w25_8 (_P : Program) (Q : Exit → Slots → Mem → Prop) (M : Mem) (v5 : V) : Prop :=
  @OptVH (moveV 1 v5) ⟨fun t33_1 =>
  @OptVH (loadV 1 false t33_1 M) ⟨fun t34_2 =>
  Q .normal [(8, t34_2)] M⟩⟩
theorem e25_8 (P : Program) (Q : Exit → Slots → Mem → Prop) (s : Slots) (M : Mem) : wpC P c25_8 Q s M = w25_8 P Q M (sget s 5) := by kernel_rfl
def c25_9 : ACode := (.seq c25_8 .ret)
def c25_10 : ACode := (.seq c25_6 c25_9)
def c25_11 : ACode := (.seq c25_1 c25_10)
def fn_fare_ticketPrice : AFn := ⟨35, [(.tmp 8)], c25_11⟩
theorem fn_fare_ticketPrice_ok : resFn PR h_fare_ticketPrice i_fare_ticketPrice = some fn_fare_ticketPrice := by kernel_rfl

def h_fare_rest_better : Hints := ⟨[(0, [1, 2, 3]), (1, [6])], [], []⟩
def o26_0 : List AOper := [⟨some 3, (.box 7 (.tmp 0)), false, none⟩,
  ⟨some 6, (.mov (.const (.bool false))), true, none⟩]
def c26_1 : ACode := (.region o26_0 [1, 2, 3])
def w26_1 (_P : Program) (Q : Exit → Slots → Mem → Prop) (M : Mem) (v0 : V) (v1 : V) (v2 : V) : Prop :=
  @OptMH (boxV 7 v0 M) ⟨fun t3_1 M1 =>
  Q .normal [(1, v1), (2, v2), (3, t3_1)] M1⟩
theorem e26_1 (P : Program) (Q : Exit → Slots → Mem → Prop) (s : Slots) (M : Mem) : wpC P c26_1 Q s M = w26_1 P Q M (sget s 0) (sget s 1) (sget s 2) := by kernel_rfl
def o26_2 : List AOper := [⟨some 7, (.fieldAddr 0 (.tmp 3)), false, none⟩,
  ⟨some 8, (.load 1 false (.tmp 7)), true, none⟩,
  ⟨some 9, (.un .not (.tmp 8)), true, none⟩,
  ⟨some 10, (.mov (.tmp 9)), true, none⟩,
  ⟨some 11, (.mov (.tmp 1)), false, some (10, false)⟩,
  ⟨some 12, (.fieldAddr 1 (.tmp 3)), false, some (10, false)⟩,
  ⟨some 13, (.load 1 false (.tmp 12)), false, some (10, false)⟩,
  ⟨some 14, (.bin .lss .none (.tmp 11) (.tmp 13)), true, some (10, false)⟩,
  ⟨some 15, (.pick (.tmp 10) (.const (.bool true)) (.tmp 14)), true, none⟩,
  ⟨some 16, (.mov (.tmp 15)), true, none⟩,
  ⟨some 17, (.mov (.tmp 1)), false, some (16, false)⟩,
  ⟨some 18, (.fieldAddr 1 (.tmp 3)), false, some (16, false)⟩,
  ⟨some 19, (.load 1 false (.tmp 18)), false, some (16, false)⟩,
  ⟨some 20, (.bin .eql .none (.tmp 17) (.tmp 19)), true, some (16, false)⟩,
  ⟨some 21, (.mov (.tmp 20)), true, some (16, false)⟩,
  ⟨some 22, (.mov (.tmp 2)), false, some (21, true)⟩,
  ⟨some 23, (.fieldAddr 2 (.tmp 3)), false, some (21, true)⟩,
  ⟨some 24, (.load 1 false (.tmp 23)), false, some (21, true)⟩,
  ⟨some 25, (.bin .lss .none (.tmp 22) (.tmp 24)), true, some (21, true)⟩,
  ⟨some 26, (.pick (.tmp 21) (.tmp 25) (.const (.bool false))), true, some (16, false)⟩,
  ⟨some 27, (.pick (.tmp 16) (.const (.bool true)) (.tmp 26)), true, none⟩,
  ⟨some 6, (.mov (.tmp 27)), true, none⟩]
def c26_3 : ACode := (.region o26_2 [6])
def w26_3 (_P : Program) (Q : Exit → Slots → Mem → Prop) (M : Mem) (v1 : V) (v2 : V) (v3 : V) : Prop :=
  @OptVH (moveV 0 v3) ⟨fun t7_1 =>
  @OptBH (loadV 1 false t7_1 M) ⟨fun b8_2 =>
  @OptBH (unV .not (.bool b8_2)) ⟨fun b9_3 =>
  @BIfH b9_3
  ⟨Q .normal [(6, (.bool true))] M⟩
  ⟨@OptVH (moveV 1 v3) ⟨fun t12_10 =>
  @OptVH (loadV 1 false t12_10 M) ⟨fun t13_11 =>
  @OptBH (binV .lss .none v1 t13_11) ⟨fun b14_12 =>
  @BIfH b14_12
  ⟨Q .normal [(6, (.bool true))] M⟩
  ⟨@OptVH (moveV 1 v3) ⟨fun t18_18 =>
  @OptVH (loadV 1 false t18_18 M) ⟨fun t19_19 =>
  @OptBH (binV .eql .none v1 t19_19) ⟨fun b20_20 =>
  @BIfH b20_20
  ⟨@OptVH (moveV 2 v3) ⟨fun t23_23 =>
  @OptVH (loadV 1 false t23_23 M) ⟨fun t24_24 =>
  @OptBH (binV .lss .none v2 t24_24) ⟨fun b25_25 =>
  Q .normal [(6, (.bool b25_25))] M⟩⟩⟩⟩
  ⟨Q .normal [(6, (.bool false))] M⟩⟩⟩⟩⟩⟩⟩⟩⟩⟩⟩⟩
theorem e26_3 (P : Program) (Q : Exit → Slots → Mem → Prop) (s : Slots) (M : Mem) : wpC P c26_3 Q s M = w26_3 P Q M (sget s 1) (sget s 2) (sget s 3) := by kernel_rfl
def c26_4 : ACode := (.seq c26_3 .ret)
def c26_5 : ACode := (.seq c26_1 c26_4)
def fn_fare_rest_better : AFn := ⟨28, [(.tmp 6)], c26_5⟩
theorem fn_fare_rest_better_ok : resFn PR h_fare_rest_better i_fare_rest_better = some fn_fare_rest_better := by kernel_rfl

def h_product_within : Hints := ⟨[(0, [0, 1, 2]), (1, [6])], [], []⟩
def o27_0 : List AOper := [⟨some 6, (.mov (.const (.bool false))), true, none⟩]
def c27_1 : ACode := (.region o27_0 [0, 1, 2])
def w27_1 (_P : Program) (Q : Exit → Slots → Mem → Prop) (M : Mem) (v0 : V) (v1 : V) (v2 : V) : Prop :=
  Q .normal [(0, v0), (1, v1), (2, v2)] M
theorem e27_1 (P : Program) (Q : Exit → Slots → Mem → Prop) (s : Slots) (M : Mem) : wpC P c27_1 Q s M = w27_1 P Q M (sget s 0) (sget s 1) (sget s 2) := by kernel_rfl
def o27_2 : List AOper := [⟨some 7, (.mov (.tmp 0)), false, none⟩,
  ⟨some 8, (.mov (.tmp 1)), false, none⟩,
  ⟨some 9, (.bin .geq .none (.tmp 7) (.tmp 8)), true, none⟩,
  ⟨some 10, (.mov (.tmp 9)), true, none⟩,
  ⟨some 11, (.mov (.tmp 0)), false, some (10, true)⟩,
  ⟨some 12, (.mov (.tmp 2)), false, some (10, true)⟩,
  ⟨some 13, (.bin .leq .none (.tmp 11) (.tmp 12)), true, some (10, true)⟩,
  ⟨some 14, (.pick (.tmp 10) (.tmp 13) (.const (.bool false))), true, none⟩,
  ⟨some 6, (.mov (.tmp 14)), true, none⟩]
def c27_3 : ACode := (.region o27_2 [6])
def w27_3 (_P : Program) (Q : Exit → Slots → Mem → Prop) (M : Mem) (v0 : V) (v1 : V) (v2 : V) : Prop :=
  @OptBH (binV .geq .none v0 v1) ⟨fun b9_3 =>
  @BIfH b9_3
  ⟨@OptBH (binV .leq .none v0 v2) ⟨fun b13_7 =>
  Q .normal [(6, (.bool b13_7))] M⟩⟩
  ⟨Q .normal [(6, (.bool false))] M⟩⟩
theorem e27_3 (P : Program) (Q : Exit → Slots → Mem → Prop) (s : Slots) (M : Mem) : wpC P c27_3 Q s M = w27_3 P Q M (sget s 0) (sget s 1) (sget s 2) := by kernel_rfl
def c27_4 : ACode := (.seq c27_3 .ret)
def c27_5 : ACode := (.seq c27_1 c27_4)
def fn_product_within : AFn := ⟨15, [(.tmp 6)], c27_5⟩
theorem fn_product_within_ok : resFn PR h_product_within i_product_within = some fn_product_within := by kernel_rfl

def h_ident_Valid : Hints := ⟨[(0, [0]), (1, [0, 3]), (2, [0, 3, 8]), (3, [0, 3]), (4, [0, 3, 4]), (5, [2]), (6, [0, 3, 4, 14]), (7, [0, 3, 4, 14]), (8, [0, 3, 4, 14]), (9, [0, 3, 4, 33]), (10, [0, 3, 4, 33]), (11, [0, 3, 33]), (12, [2])], [(2, [0, 3])], []⟩
def o28_0 : List AOper := [⟨some 2, (.mov (.const (.bool false))), true, none⟩]
def c28_1 : ACode := (.region o28_0 [0])
def w28_1 (_P : Program) (Q : Exit → Slots → Mem → Prop) (M : Mem) (v0 : V) : Prop :=
  Q .normal [(0, v0)] M
theorem e28_1 (P : Program) (Q : Exit → Slots → Mem → Prop) (s : Slots) (M : Mem) : wpC P c28_1 Q s M = w28_1 P Q M (sget s 0) := by kernel_rfl
def o28_2 : List AOper := [⟨some 3, (.mov (.const (.int .i64 0))), false, none⟩]
def c28_3 : ACode := (.region o28_2 [0, 3])
def w28_3 (_P : Program) (Q : Exit → Slots → Mem → Prop) (M : Mem) (v0 : V) : Prop :=
  Q .normal [(0, v0), (3, (.int .i64 0))] M
theorem e28_3 (P : Program) (Q : Exit → Slots → Mem → Prop) (s : Slots) (M : Mem) : wpC P c28_3 Q s M = w28_3 P Q M (sget s 0) := by kernel_rfl
def o28_4 : List AOper := [⟨some 5, (.mov (.tmp 3)), false, none⟩,
  ⟨some 6, (.mov (.tmp 0)), false, none⟩,
  ⟨some 7, (.lenStr (.tmp 6)), false, none⟩,
  ⟨some 8, (.bin .lss .none (.tmp 5) (.tmp 7)), true, none⟩]
def c28_5 : ACode := (.seq (.region o28_4 [0, 3, 8]) (.cond (.tmp 8) .skip (.exit 0)))
def w28_5 (_P : Program) (Q : Exit → Slots → Mem → Prop) (M : Mem) (v0 : V) (v3 : V) : Prop :=
  @OptVH (lenStrV v0) ⟨fun t7_3 =>
  @OptBH (binV .lss .none v3 t7_3) ⟨fun b8_4 =>
  @BIfH b8_4
  ⟨Q .normal [(0, v0), (3, v3), (8, (.bool b8_4))] M⟩
  ⟨Q (.exit 0) [(0, v0), (3, v3), (8, (.bool b8_4))] M⟩⟩⟩
theorem e28_5 (P : Program) (Q : Exit → Slots → Mem → Prop) (s : Slots) (M : Mem) : wpC P c28_5 Q s M = w28_5 P Q M (sget s 0) (sget s 3) := by kernel_rfl
def o28_6 : List AOper := [⟨some 11, (.mov (.tmp 0)), false, none⟩,
  ⟨some 12, (.mov (.tmp 3)), false, none⟩,
  ⟨some 13, (.indexStr (.tmp 11) (.tmp 12)), false, none⟩,
  ⟨some 4, (.mov (.tmp 13)), false, none⟩]
def c28_7 : ACode := (.region o28_6 [0, 3, 4])
def w28_7 (_P : Program) (Q : Exit → Slots → Mem → Prop) (M : Mem) (v0 : V) (v3 : V) : Prop :=
  @OptVH (indexStrV v0 v3) ⟨fun t13_3 =>
  Q .normal [(0, v0), (3, v3), (4, t13_3)] M⟩
theorem e28_7 (P : Program) (Q : Exit → Slots → Mem → Prop) (s : Slots) (M : Mem) : wpC P c28_7 Q s M = w28_7 P Q M (sget s 0) (sget s 3) := by kernel_rfl
def o28_8 : List AOper := [⟨some 27, (.mov (.tmp 4)), false, none⟩,
  ⟨some 28, (.bin .leq .none (.const (.int .u8 48)) (.tmp 27)), true, none⟩,
  ⟨some 29, (.mov (.tmp 28)), true, none⟩,
  ⟨some 30, (.mov (.tmp 4)), false, some (29, true)⟩,
  ⟨some 31, (.bin .leq .none (.tmp 30) (.const (.int .u8 57))), true, some (29, true)⟩,
  ⟨some 32, (.pick (.tmp 29) (.tmp 31) (.const (.bool false))), true, none⟩,
  ⟨some 14, (.mov (.tmp 32)), true, none⟩]
def c28_9 : ACode := (.region o28_8 [0, 3, 4, 14])
def w28_9 (_P : Program) (Q : Exit → Slots → Mem → Prop) (M : Mem) (v0 : V) (v3 : V) (v4 : V) : Prop :=
  @OptBH (binV .leq .none (.int .u8 48) v4) ⟨fun b28_2 =>
  @BIfH b28_2
  ⟨@OptBH (binV .leq .none v4 (.int .u8 57)) ⟨fun b31_5 =>
  Q .normal [(0, v0), (3, v3), (4, v4), (14, (.bool b31_5))] M⟩⟩
  ⟨Q .normal [(0, v0), (3, v3), (4, v4), (14, (.bool false))] M⟩⟩
theorem e28_9 (P : Program) (Q : Exit → Slots → Mem → Prop) (s : Slots) (M : Mem) : wpC P c28_9 Q s M = w28_9 P Q M (sget s 0) (sget s 3) (sget s 4) := by kernel_rfl
def o28_10 : List AOper := [⟨some 21, (.mov (.tmp 4)), false, none⟩,
  ⟨some 22, (.bin .leq .none (.const (.int .u8 65)) (.tmp 21)), true, none⟩,
  ⟨some 23, (.mov (.tmp 22)), true, none⟩,
  ⟨some 24, (.mov (.tmp 4)), false, some (23, true)⟩,
  ⟨some 25, (.bin .leq .none (.tmp 24) (.const (.int .u8 90))), true, some (23, true)⟩,
  ⟨some 26, (.pick (.tmp 23) (.tmp 25) (.const (.bool false))), true, none⟩,
  ⟨some 14, (.mov (.tmp 26)), true, none⟩]
def c28_11 : ACode := (.seq (.region o28_10 [0, 3, 4, 14]) (.cond (.tmp 14) .skip c28_9))
def w28_11 (P : Program) (Q : Exit → Slots → Mem → Prop) (M : Mem) (v0 : V) (v3 : V) (v4 : V) : Prop :=
  @OptBH (binV .leq .none (.int .u8 65) v4) ⟨fun b22_2 =>
  @BIfH b22_2
  ⟨@OptBH (binV .leq .none v4 (.int .u8 90)) ⟨fun b25_5 =>
  @BIfH b25_5
  ⟨Q .normal [(0, v0), (3, v3), (4, v4), (14, (.bool b25_5))] M⟩
  ⟨wpC P c28_9 Q [(0, v0), (3, v3), (4, v4), (14, (.bool b25_5))] M⟩⟩⟩
  ⟨wpC P c28_9 Q [(0, v0), (3, v3), (4, v4), (14, (.bool false))] M⟩⟩
theorem e28_11 (P : Program) (Q : Exit → Slots → Mem → Prop) (s : Slots) (M : Mem) : wpC P c28_11 Q s M = w28_11 P Q M (sget s 0) (sget s 3) (sget s 4) := by kernel_rfl
def o28_12 : List AOper := [⟨some 15, (.mov (.tmp 4)), false, none⟩,
  ⟨some 16, (.bin .leq .none (.const (.int .u8 97)) (.tmp 15)), true, none⟩,
  ⟨some 17, (.mov (.tmp 16)), true, none⟩,
  ⟨some 18, (.mov (.tmp 4)), false, some (17, true)⟩,
  ⟨some 19, (.bin .leq .none (.tmp 18) (.const (.int .u8 122))), true, some (17, true)⟩,
  ⟨some 20, (.pick (.tmp 17) (.tmp 19) (.const (.bool false))), true, none⟩,
  ⟨some 14, (.mov (.tmp 20)), true, none⟩]
def c28_13 : ACode := (.seq (.region o28_12 [0, 3, 4, 14]) (.cond (.tmp 14) .skip c28_11))
def w28_13 (P : Program) (Q : Exit → Slots → Mem → Prop) (M : Mem) (v0 : V) (v3 : V) (v4 : V) : Prop :=
  @OptBH (binV .leq .none (.int .u8 97) v4) ⟨fun b16_2 =>
  @BIfH b16_2
  ⟨@OptBH (binV .leq .none v4 (.int .u8 122)) ⟨fun b19_5 =>
  @BIfH b19_5
  ⟨Q .normal [(0, v0), (3, v3), (4, v4), (14, (.bool b19_5))] M⟩
  ⟨wpC P c28_11 Q [(0, v0), (3, v3), (4, v4), (14, (.bool b19_5))] M⟩⟩⟩
  ⟨wpC P c28_11 Q [(0, v0), (3, v3), (4, v4), (14, (.bool false))] M⟩⟩
theorem e28_13 (P : Program) (Q : Exit → Slots → Mem → Prop) (s : Slots) (M : Mem) : wpC P c28_13 Q s M = w28_13 P Q M (sget s 0) (sget s 3) (sget s 4) := by kernel_rfl
def o28_14 : List AOper := [⟨some 38, (.mov (.tmp 4)), false, none⟩,
  ⟨some 39, (.bin .eql .none (.tmp 38) (.const (.int .u8 46))), true, none⟩,
  ⟨some 33, (.mov (.tmp 39)), true, none⟩]
def c28_15 : ACode := (.region o28_14 [0, 3, 33])
def w28_15 (_P : Program) (Q : Exit → Slots → Mem → Prop) (M : Mem) (v0 : V) (v3 : V) (v4 : V) : Prop :=
  @OptBH (binV .eql .none v4 (.int .u8 46)) ⟨fun b39_2 =>
  Q .normal [(0, v0), (3, v3), (33, (.bool b39_2))] M⟩
theorem e28_15 (P : Program) (Q : Exit → Slots → Mem → Prop) (s : Slots) (M : Mem) : wpC P c28_15 Q s M = w28_15 P Q M (sget s 0) (sget s 3) (sget s 4) := by kernel_rfl
def o28_16 : List AOper := [⟨some 36, (.mov (.tmp 4)), false, none⟩,
  ⟨some 37, (.bin .eql .none (.tmp 36) (.const (.int .u8 95))), true, none⟩,
  ⟨some 33, (.mov (.tmp 37)), true, none⟩]
def c28_17 : ACode := (.seq (.region o28_16 [0, 3, 4, 33]) (.cond (.tmp 33) .skip c28_15))
def w28_17 (P : Program) (Q : Exit → Slots → Mem → Prop) (M : Mem) (v0 : V) (v3 : V) (v4 : V) : Prop :=
  @OptBH (binV .eql .none v4 (.int .u8 95)) ⟨fun b37_2 =>
  @BIfH b37_2
  ⟨Q .normal [(0, v0), (3, v3), (4, v4), (33, (.bool b37_2))] M⟩
  ⟨wpC P c28_15 Q [(0, v0), (3, v3), (4, v4), (33, (.bool b37_2))] M⟩⟩
theorem e28_17 (P : Program) (Q : Exit → Slots → Mem → Prop) (s : Slots) (M : Mem) : wpC P c28_17 Q s M = w28_17 P Q M (sget s 0) (sget s 3) (sget s 4) := by kernel_rfl
def o28_18 : List AOper := [⟨some 34, (.mov (.tmp 4)), false, none⟩,
  ⟨some 35, (.bin .eql .none (.tmp 34) (.const (.int .u8 45))), true, none⟩,
  ⟨some 33, (.mov (.tmp 35)), true, none⟩]
def c28_19 : ACode := (.seq (.region o28_18 [0, 3, 4, 33]) (.cond (.tmp 33) .skip c28_17))
def w28_19 (P : Program) (Q : Exit → Slots → Mem → Prop) (M : Mem) (v0 : V) (v3 : V) (v4 : V) : Prop :=
  @OptBH (binV .eql .none v4 (.int .u8 45)) ⟨fun b35_2 =>
  @BIfH b35_2
  ⟨Q .normal [(0, v0), (3, v3), (4, v4), (33, (.bool b35_2))] M⟩
  ⟨wpC P c28_17 Q [(0, v0), (3, v3), (4, v4), (33, (.bool b35_2))] M⟩⟩
theorem e28_19 (P : Program) (Q : Exit → Slots → Mem → Prop) (s : Slots) (M : Mem) : wpC P c28_19 Q s M = w28_19 P Q M (sget s 0) (sget s 3) (sget s 4) := by kernel_rfl
def o28_20 : List AOper := [⟨some 2, (.mov (.const (.bool false))), true, none⟩]
def c28_21 : ACode := (.region o28_20 [2])
def w28_21 (_P : Program) (Q : Exit → Slots → Mem → Prop) (M : Mem) : Prop :=
  Q .normal [(2, (.bool false))] M
theorem e28_21 (P : Program) (Q : Exit → Slots → Mem → Prop) (s : Slots) (M : Mem) : wpC P c28_21 Q s M = w28_21 P Q M := by kernel_rfl
def c28_22 : ACode := (.seq c28_21 .ret)
def c28_23 : ACode := (.cond (.tmp 33) .skip c28_22)
def c28_24 : ACode := (.seq c28_19 c28_23)
def c28_25 : ACode := (.cond (.tmp 14) .skip c28_24)
def c28_26 : ACode := (.seq c28_13 c28_25)
def c28_27 : ACode := (.block 2 c28_26)
def c28_28 : ACode := (.seq c28_7 c28_27)
def c28_29 : ACode := (.block 1 c28_28)
def o28_30 : List AOper := [⟨some 9, (.mov (.tmp 3)), false, none⟩,
  ⟨some 10, (.bin .add .none (.tmp 9) (.const (.int .i64 1))), false, none⟩,
  ⟨some 3, (.mov (.tmp 10)), false, none⟩]
def c28_31 : ACode := (.region o28_30 [0, 3])
def w28_31 (_P : Program) (Q : Exit → Slots → Mem → Prop) (M : Mem) (v0 : V) (v3 : V) : Prop :=
  @OptVH (binV .add .none v3 (.int .i64 1)) ⟨fun t10_2 =>
  Q .normal [(0, v0), (3, t10_2)] M⟩
theorem e28_31 (P : Program) (Q : Exit → Slots → Mem → Prop) (s : Slots) (M : Mem) : wpC P c28_31 Q s M = w28_31 P Q M (sget s 0) (sget s 3) := by kernel_rfl
def c28_32 : ACode := (.seq c28_29 c28_31)
def c28_33 : ACode := (.seq c28_5 c28_32)
def c28_34 : ACode := (.loop [0, 3] c28_33)
def c28_35 : ACode := (.block 0 c28_34)
def c28_36 : ACode := (.seq c28_3 c28_35)
def o28_37 : List AOper := [⟨some 40, (.mov (.tmp 0)), false, none⟩,
  ⟨some 41, (.lenStr (.tmp 40)), false, none⟩,
  ⟨some 42, (.bin .gtr .none (.tmp 41) (.const (.int .i64 0))), true, none⟩,
  ⟨some 43, (.mov (.tmp 42)), true, none⟩,
  ⟨some 44, (.mov (.tmp 0)), false, some (43, true)⟩,
  ⟨some 45, (.lenStr (.tmp 44)), false, some (43, true)⟩,
  ⟨some 46, (.bin .leq .none (.tmp 45) (.const (.int .i64 32))), true, some (43, true)⟩,
  ⟨some 47, (.pick (.tmp 43) (.tmp 46) (.const (.bool false))), true, none⟩,
  ⟨some 2, (.mov (.tmp 47)), true, none⟩]
def c28_38 : ACode := (.region o28_37 [2])
def w28_38 (_P : Program) (Q : Exit → Slots → Mem → Prop) (M : Mem) (v0 : V) : Prop :=
  @OptVH (lenStrV v0) ⟨fun t41_2 =>
  @OptBH (binV .gtr .none t41_2 (.int .i64 0)) ⟨fun b42_3 =>
  @BIfH b42_3
  ⟨@OptVH (lenStrV v0) ⟨fun t45_6 =>
  @OptBH (binV .leq .none t45_6 (.int .i64 32)) ⟨fun b46_7 =>
  Q .normal [(2, (.bool b46_7))] M⟩⟩⟩
  ⟨Q .normal [(2, (.bool false))] M⟩⟩⟩
theorem e28_38 (P : Program) (Q : Exit → Slots → Mem → Prop) (s : Slots) (M : Mem) : wpC P c28_38 Q s M = w28_38 P Q M (sget s 0) := by kernel_rfl
def c28_39 : ACode := (.seq c28_38 .ret)
def c28_40 : ACode := (.seq c28_36 c28_39)
def c28_41 : ACode := (.seq c28_1 c28_40)
def fn_ident_Valid : AFn := ⟨48, [(.tmp 2)], c28_41⟩
theorem fn_ident_Valid_ok : resFn PR h_ident_Valid i_ident_Valid = some fn_ident_Valid := by kernel_rfl

def h_transitref26_in : Hints := ⟨[(0, [0, 1, 2]), (1, [6])], [], []⟩
def o31_0 : List AOper := [⟨some 6, (.mov (.const (.bool false))), true, none⟩]
def c31_1 : ACode := (.region o31_0 [0, 1, 2])
def w31_1 (_P : Program) (Q : Exit → Slots → Mem → Prop) (M : Mem) (v0 : V) (v1 : V) (v2 : V) : Prop :=
  Q .normal [(0, v0), (1, v1), (2, v2)] M
theorem e31_1 (P : Program) (Q : Exit → Slots → Mem → Prop) (s : Slots) (M : Mem) : wpC P c31_1 Q s M = w31_1 P Q M (sget s 0) (sget s 1) (sget s 2) := by kernel_rfl
def o31_2 : List AOper := [⟨some 7, (.mov (.tmp 0)), false, none⟩,
  ⟨some 8, (.mov (.tmp 1)), false, none⟩,
  ⟨some 9, (.bin .geq .none (.tmp 7) (.tmp 8)), true, none⟩,
  ⟨some 10, (.mov (.tmp 9)), true, none⟩,
  ⟨some 11, (.mov (.tmp 0)), false, some (10, true)⟩,
  ⟨some 12, (.mov (.tmp 2)), false, some (10, true)⟩,
  ⟨some 13, (.bin .leq .none (.tmp 11) (.tmp 12)), true, some (10, true)⟩,
  ⟨some 14, (.pick (.tmp 10) (.tmp 13) (.const (.bool false))), true, none⟩,
  ⟨some 6, (.mov (.tmp 14)), true, none⟩]
def c31_3 : ACode := (.region o31_2 [6])
def w31_3 (_P : Program) (Q : Exit → Slots → Mem → Prop) (M : Mem) (v0 : V) (v1 : V) (v2 : V) : Prop :=
  @OptBH (binV .geq .none v0 v1) ⟨fun b9_3 =>
  @BIfH b9_3
  ⟨@OptBH (binV .leq .none v0 v2) ⟨fun b13_7 =>
  Q .normal [(6, (.bool b13_7))] M⟩⟩
  ⟨Q .normal [(6, (.bool false))] M⟩⟩
theorem e31_3 (P : Program) (Q : Exit → Slots → Mem → Prop) (s : Slots) (M : Mem) : wpC P c31_3 Q s M = w31_3 P Q M (sget s 0) (sget s 1) (sget s 2) := by kernel_rfl
def c31_4 : ACode := (.seq c31_3 .ret)
def c31_5 : ACode := (.seq c31_1 c31_4)
def fn_transitref26_in : AFn := ⟨15, [(.tmp 6)], c31_5⟩
theorem fn_transitref26_in_ok : resFn PR h_transitref26_in i_transitref26_in = some fn_transitref26_in := by kernel_rfl

def h_transitref26_ValidID : Hints := ⟨[(0, [0]), (1, [0, 13]), (2, [2]), (3, [0, 3]), (4, [0, 3, 17]), (5, [0, 3]), (6, [0, 3, 4]), (7, [0, 3, 4, 5]), (8, [0, 3, 58]), (9, [2]), (10, [2])], [(4, [0, 3])], []⟩
def o32_0 : List AOper := [⟨some 2, (.mov (.const (.bool false))), true, none⟩]
def c32_1 : ACode := (.region o32_0 [0])
def w32_1 (_P : Program) (Q : Exit → Slots → Mem → Prop) (M : Mem) (v0 : V) : Prop :=
  Q .normal [(0, v0)] M
theorem e32_1 (P : Program) (Q : Exit → Slots → Mem → Prop) (s : Slots) (M : Mem) : wpC P c32_1 Q s M = w32_1 P Q M (sget s 0) := by kernel_rfl
def o32_2 : List AOper := [⟨some 2, (.mov (.const (.bool false))), true, none⟩]
def c32_3 : ACode := (.region o32_2 [2])
def w32_3 (_P : Program) (Q : Exit → Slots → Mem → Prop) (M : Mem) : Prop :=
  Q .normal [(2, (.bool false))] M
theorem e32_3 (P : Program) (Q : Exit → Slots → Mem → Prop) (s : Slots) (M : Mem) : wpC P c32_3 Q s M = w32_3 P Q M := by kernel_rfl
def c32_4 : ACode := (.seq c32_3 .ret)
def o32_5 : List AOper := [⟨some 6, (.mov (.tmp 0)), false, none⟩,
  ⟨some 7, (.lenStr (.tmp 6)), false, none⟩,
  ⟨some 8, (.bin .lss .none (.tmp 7) (.const (.int .i64 1))), true, none⟩,
  ⟨some 9, (.mov (.tmp 8)), true, none⟩,
  ⟨some 10, (.mov (.tmp 0)), false, some (9, false)⟩,
  ⟨some 11, (.lenStr (.tmp 10)), false, some (9, false)⟩,
  ⟨some 12, (.bin .gtr .none (.tmp 11) (.const (.int .i64 32))), true, some (9, false)⟩,
  ⟨some 13, (.pick (.tmp 9) (.const (.bool true)) (.tmp 12)), true, none⟩]
def c32_6 : ACode := (.seq (.region o32_5 [0, 13]) (.cond (.tmp 13) c32_4 .skip))
def w32_6 (P : Program) (Q : Exit → Slots → Mem → Prop) (M : Mem) (v0 : V) : Prop :=
  @OptVH (lenStrV v0) ⟨fun t7_2 =>
  @OptBH (binV .lss .none t7_2 (.int .i64 1)) ⟨fun b8_3 =>
  @BIfH b8_3
  ⟨wpC P c32_4 Q [(0, v0), (13, (.bool true))] M⟩
  ⟨@OptVH (lenStrV v0) ⟨fun t11_7 =>
  @OptBH (binV .gtr .none t11_7 (.int .i64 32)) ⟨fun b12_8 =>
  @BIfH b12_8
  ⟨wpC P c32_4 Q [(0, v0), (13, (.bool b12_8))] M⟩
  ⟨Q .normal [(0, v0), (13, (.bool b12_8))] M⟩⟩⟩⟩⟩⟩
theorem e32_6 (P : Program) (Q : Exit → Slots → Mem → Prop) (s : Slots) (M : Mem) : wpC P c32_6 Q s M = w32_6 P Q M (sget s 0) := by kernel_rfl
def o32_7 : List AOper := [⟨some 3, (.mov (.const (.int .i64 0))), false, none⟩]
def c32_8 : ACode := (.region o32_7 [0, 3])
def w32_8 (_P : Program) (Q : Exit → Slots → Mem → Prop) (M : Mem) (v0 : V) : Prop :=
  Q .normal [(0, v0), (3, (.int .i64 0))] M
theorem e32_8 (P : Program) (Q : Exit → Slots → Mem → Prop) (s : Slots) (M : Mem) : wpC P c32_8 Q s M = w32_8 P Q M (sget s 0) := by kernel_rfl
def o32_9 : List AOper := [⟨some 14, (.mov (.tmp 3)), false, none⟩,
  ⟨some 15, (.mov (.tmp 0)), false, none⟩,
  ⟨some 16, (.lenStr (.tmp 15)), false, none⟩,
  ⟨some 17, (.bin .lss .none (.tmp 14) (.tmp 16)), true, none⟩]
def c32_10 : ACode := (.seq (.region o32_9 [0, 3, 17]) (.cond (.tmp 17) .skip (.exit 0)))
def w32_10 (_P : Program) (Q : Exit → Slots → Mem → Prop) (M : Mem) (v0 : V) (v3 : V) : Prop :=
  @OptVH (lenStrV v0) ⟨fun t16_3 =>
  @OptBH (binV .lss .none v3 t16_3) ⟨fun b17_4 =>
  @BIfH b17_4
  ⟨Q .normal [(0, v0), (3, v3), (17, (.bool b17_4))] M⟩
  ⟨Q (.exit 0) [(0, v0), (3, v3), (17, (.bool b17_4))] M⟩⟩⟩
theorem e32_10 (P : Program) (Q : Exit → Slots → Mem → Prop) (s : Slots) (M : Mem) : wpC P c32_10 Q s M = w32_10 P Q M (sget s 0) (sget s 3) := by kernel_rfl
def o32_11 : List AOper := [⟨some 20, (.mov (.tmp 0)), false, none⟩,
  ⟨some 21, (.mov (.tmp 3)), false, none⟩,
  ⟨some 22, (.indexStr (.tmp 20) (.tmp 21)), false, none⟩,
  ⟨some 4, (.mov (.tmp 22)), false, none⟩]
def c32_12 : ACode := (.region o32_11 [0, 3, 4])
def w32_12 (_P : Program) (Q : Exit → Slots → Mem → Prop) (M : Mem) (v0 : V) (v3 : V) : Prop :=
  @OptVH (indexStrV v0 v3) ⟨fun t22_3 =>
  Q .normal [(0, v0), (3, v3), (4, t22_3)] M⟩
theorem e32_12 (P : Program) (Q : Exit → Slots → Mem → Prop) (s : Slots) (M : Mem) : wpC P c32_12 Q s M = w32_12 P Q M (sget s 0) (sget s 3) := by kernel_rfl
def o32_13 : List AOper := [⟨some 23, (.mov (.tmp 4)), false, none⟩,
  ⟨some 24, (.bin .geq .none (.tmp 23) (.const (.int .u8 97))), true, none⟩,
  ⟨some 25, (.mov (.tmp 24)), true, none⟩,
  ⟨some 26, (.mov (.tmp 4)), false, some (25, true)⟩,
  ⟨some 27, (.bin .leq .none (.tmp 26) (.const (.int .u8 122))), true, some (25, true)⟩,
  ⟨some 28, (.pick (.tmp 25) (.tmp 27) (.const (.bool false))), true, none⟩,
  ⟨some 29, (.mov (.tmp 28)), true, none⟩,
  ⟨some 30, (.mov (.tmp 4)), false, some (29, false)⟩,
  ⟨some 31, (.bin .geq .none (.tmp 30) (.const (.int .u8 65))), true, some (29, false)⟩,
  ⟨some 32, (.mov (.tmp 31)), true, some (29, false)⟩,
  ⟨some 33, (.mov (.tmp 4)), false, some (32, true)⟩,
  ⟨some 34, (.bin .leq .none (.tmp 33) (.const (.int .u8 90))), true, some (32, true)⟩,
  ⟨some 35, (.pick (.tmp 32) (.tmp 34) (.const (.bool false))), true, some (29, false)⟩,
  ⟨some 36, (.pick (.tmp 29) (.const (.bool true)) (.tmp 35)), true, none⟩,
  ⟨some 37, (.mov (.tmp 36)), true, none⟩,
  ⟨some 38, (.mov (.tmp 4)), false, some (37, false)⟩,
  ⟨some 39, (.bin .geq .none (.tmp 38) (.const (.int .u8 48))), true, some (37, false)⟩,
  ⟨some 40, (.mov (.tmp 39)), true, some (37, false)⟩,
  ⟨some 41, (.mov (.tmp 4)), false, some (40, true)⟩,
  ⟨some 42, (.bin .leq .none (.tmp 41) (.const (.int .u8 57))), true, some (40, true)⟩,
  ⟨some 43, (.pick (.tmp 40) (.tmp 42) (.const (.bool false))), true, some (37, false)⟩,
  ⟨some 44, (.pick (.tmp 37) (.const (.bool true)) (.tmp 43)), true, none⟩,
  ⟨some 5, (.mov (.tmp 44)), true, none⟩]
def c32_14 : ACode := (.region o32_13 [0, 3, 4, 5])
def w32_14 (_P : Program) (Q : Exit → Slots → Mem → Prop) (M : Mem) (v0 : V) (v3 : V) (v4 : V) : Prop :=
  @OptBH (binV .geq .none v4 (.int .u8 97)) ⟨fun b24_2 =>
  @BIfH b24_2
  ⟨@OptBH (binV .leq .none v4 (.int .u8 122)) ⟨fun b27_5 =>
  @BIfH b27_5
  ⟨Q .normal [(0, v0), (3, v3), (4, v4), (5, (.bool true))] M⟩
  ⟨@OptBH (binV .geq .none v4 (.int .u8 65)) ⟨fun b31_13 =>
  @BIfH b31_13
  ⟨@OptBH (binV .leq .none v4 (.int .u8 90)) ⟨fun b34_16 =>
  @BIfH b34_16
  ⟨Q .normal [(0, v0), (3, v3), (4, v4), (5, (.bool true))] M⟩
  ⟨@OptBH (binV .geq .none v4 (.int .u8 48)) ⟨fun b39_23 =>
  @BIfH b39_23
  ⟨@OptBH (binV .leq .none v4 (.int .u8 57)) ⟨fun b42_26 =>
  Q .normal [(0, v0), (3, v3), (4, v4), (5, (.bool b42_26))] M⟩⟩
  ⟨Q .normal [(0, v0), (3, v3), (4, v4), (5, (.bool false))] M⟩⟩⟩⟩⟩
  ⟨@OptBH (binV .geq .none v4 (.int .u8 48)) ⟨fun b39_37 =>
  @BIfH b39_37
  ⟨@OptBH (binV .leq .none v4 (.int .u8 57)) ⟨fun b42_40 =>
  Q .normal [(0, v0), (3, v3), (4, v4), (5, (.bool b42_40))] M⟩⟩
  ⟨Q .normal [(0, v0), (3, v3), (4, v4), (5, (.bool false))] M⟩⟩⟩⟩⟩⟩⟩
  ⟨@OptBH (binV .geq .none v4 (.int .u8 65)) ⟨fun b31_50 =>
  @BIfH b31_50
  ⟨@OptBH (binV .leq .none v4 (.int .u8 90)) ⟨fun b34_53 =>
  @BIfH b34_53
  ⟨Q .normal [(0, v0), (3, v3), (4, v4), (5, (.bool true))] M⟩
  ⟨@OptBH (binV .geq .none v4 (.int .u8 48)) ⟨fun b39_60 =>
  @BIfH b39_60
  ⟨@OptBH (binV .leq .none v4 (.int .u8 57)) ⟨fun b42_63 =>
  Q .normal [(0, v0), (3, v3), (4, v4), (5, (.bool b42_63))] M⟩⟩
  ⟨Q .normal [(0, v0), (3, v3), (4, v4), (5, (.bool false))] M⟩⟩⟩⟩⟩
  ⟨@OptBH (binV .geq .none v4 (.int .u8 48)) ⟨fun b39_74 =>
  @BIfH b39_74
  ⟨@OptBH (binV .leq .none v4 (.int .u8 57)) ⟨fun b42_77 =>
  Q .normal [(0, v0), (3, v3), (4, v4), (5, (.bool b42_77))] M⟩⟩
  ⟨Q .normal [(0, v0), (3, v3), (4, v4), (5, (.bool false))] M⟩⟩⟩⟩⟩⟩
theorem e32_14 (P : Program) (Q : Exit → Slots → Mem → Prop) (s : Slots) (M : Mem) : wpC P c32_14 Q s M = w32_14 P Q M (sget s 0) (sget s 3) (sget s 4) := by kernel_rfl
def o32_15 : List AOper := [⟨some 2, (.mov (.const (.bool false))), true, none⟩]
def c32_16 : ACode := (.region o32_15 [2])
def w32_16 (_P : Program) (Q : Exit → Slots → Mem → Prop) (M : Mem) : Prop :=
  Q .normal [(2, (.bool false))] M
theorem e32_16 (P : Program) (Q : Exit → Slots → Mem → Prop) (s : Slots) (M : Mem) : wpC P c32_16 Q s M = w32_16 P Q M := by kernel_rfl
def c32_17 : ACode := (.seq c32_16 .ret)
def o32_18 : List AOper := [⟨some 45, (.mov (.tmp 5)), true, none⟩,
  ⟨some 46, (.un .not (.tmp 45)), true, none⟩,
  ⟨some 47, (.mov (.tmp 46)), true, none⟩,
  ⟨some 48, (.mov (.tmp 4)), false, some (47, true)⟩,
  ⟨some 49, (.bin .neq .none (.tmp 48) (.const (.int .u8 45))), true, some (47, true)⟩,
  ⟨some 50, (.pick (.tmp 47) (.tmp 49) (.const (.bool false))), true, none⟩,
  ⟨some 51, (.mov (.tmp 50)), true, none⟩,
  ⟨some 52, (.mov (.tmp 4)), false, some (51, true)⟩,
  ⟨some 53, (.bin .neq .none (.tmp 52) (.const (.int .u8 95))), true, some (51, true)⟩,
  ⟨some 54, (.pick (.tmp 51) (.tmp 53) (.const (.bool false))), true, none⟩,
  ⟨some 55, (.mov (.tmp 54)), true, none⟩,
  ⟨some 56, (.mov (.tmp 4)), false, some (55, true)⟩,
  ⟨some 57, (.bin .neq .none (.tmp 56) (.const (.int .u8 46))), true, some (55, true)⟩,
  ⟨some 58, (.pick (.tmp 55) (.tmp 57) (.const (.bool false))), true, none⟩]
def c32_19 : ACode := (.seq (.region o32_18 [0, 3, 58]) (.cond (.tmp 58) c32_17 .skip))
def w32_19 (P : Program) (Q : Exit → Slots → Mem → Prop) (M : Mem) (v0 : V) (v3 : V) (v4 : V) (v5 : V) : Prop :=
  @OptBH (some v5) ⟨fun b45_1 =>
  @OptBH (unV .not (.bool b45_1)) ⟨fun b46_2 =>
  @BIfH b46_2
  ⟨@OptBH (binV .neq .none v4 (.int .u8 45)) ⟨fun b49_5 =>
  @BIfH b49_5
  ⟨@OptBH (binV .neq .none v4 (.int .u8 95)) ⟨fun b53_9 =>
  @BIfH b53_9
  ⟨@OptBH (binV .neq .none v4 (.int .u8 46)) ⟨fun b57_13 =>
  @BIfH b57_13
  ⟨wpC P c32_17 Q [(0, v0), (3, v3), (58, (.bool b57_13))] M⟩
  ⟨Q .normal [(0, v0), (3, v3), (58, (.bool b57_13))] M⟩⟩⟩
  ⟨Q .normal [(0, v0), (3, v3), (58, (.bool false))] M⟩⟩⟩
  ⟨Q .normal [(0, v0), (3, v3), (58, (.bool false))] M⟩⟩⟩
  ⟨Q .normal [(0, v0), (3, v3), (58, (.bool false))] M⟩⟩⟩
theorem e32_19 (P : Program) (Q : Exit → Slots → Mem → Prop) (s : Slots) (M : Mem) : wpC P c32_19 Q s M = w32_19 P Q M (sget s 0) (sget s 3) (sget s 4) (sget s 5) := by kernel_rfl
def c32_20 : ACode := (.seq c32_14 c32_19)
def c32_21 : ACode := (.seq c32_12 c32_20)
def c32_22 : ACode := (.block 1 c32_21)
def o32_23 : List AOper := [⟨some 18, (.mov (.tmp 3)), false, none⟩,
  ⟨some 19, (.bin .add .none (.tmp 18) (.const (.int .i64 1))), false, none⟩,
  ⟨some 3, (.mov (.tmp 19)), false, none⟩]
def c32_24 : ACode := (.region o32_23 [0, 3])
def w32_24 (_P : Program) (Q : Exit → Slots → Mem → Prop) (M : Mem) (v0 : V) (v3 : V) : Prop :=
  @OptVH (binV .add .none v3 (.int .i64 1)) ⟨fun t19_2 =>
  Q .normal [(0, v0), (3, t19_2)] M⟩
theorem e32_24 (P : Program) (Q : Exit → Slots → Mem → Prop) (s : Slots) (M : Mem) : wpC P c32_24 Q s M = w32_24 P Q M (sget s 0) (sget s 3) := by kernel_rfl
def c32_25 : ACode := (.seq c32_22 c32_24)
def c32_26 : ACode := (.seq c32_10 c32_25)
def c32_27 : ACode := (.loop [0, 3] c32_26)
def c32_28 : ACode := (.block 0 c32_27)
def c32_29 : ACode := (.seq c32_8 c32_28)
def o32_30 : List AOper := [⟨some 2, (.mov (.const (.bool true))), true, none⟩]
def c32_31 : ACode := (.region o32_30 [2])
def w32_31 (_P : Program) (Q : Exit → Slots → Mem → Prop) (M : Mem) : Prop :=
  Q .normal [(2, (.bool true))] M
theorem e32_31 (P : Program) (Q : Exit → Slots → Mem → Prop) (s : Slots) (M : Mem) : wpC P c32_31 Q s M = w32_31 P Q M := by kernel_rfl
def c32_32 : ACode := (.seq c32_31 .ret)
def c32_33 : ACode := (.seq c32_29 c32_32)
def c32_34 : ACode := (.seq c32_6 c32_33)
def c32_35 : ACode := (.seq c32_1 c32_34)
def fn_transitref26_ValidID : AFn := ⟨59, [(.tmp 2)], c32_35⟩
theorem fn_transitref26_ValidID_ok : resFn PR h_transitref26_ValidID i_transitref26_ValidID = some fn_transitref26_ValidID := by kernel_rfl

def h_product_later : Hints := ⟨[(0, [0, 1, 2]), (1, [0, 1, 2, 9]), (2, [6]), (3, [6])], [], []⟩
def o33_0 : List AOper := [⟨some 6, (.mov (.const (.bool false))), true, none⟩]
def c33_1 : ACode := (.region o33_0 [0, 1, 2])
def w33_1 (_P : Program) (Q : Exit → Slots → Mem → Prop) (M : Mem) (v0 : V) (v1 : V) (v2 : V) : Prop :=
  Q .normal [(0, v0), (1, v1), (2, v2)] M
theorem e33_1 (P : Program) (Q : Exit → Slots → Mem → Prop) (s : Slots) (M : Mem) : wpC P c33_1 Q s M = w33_1 P Q M (sget s 0) (sget s 1) (sget s 2) := by kernel_rfl
def o33_2 : List AOper := [⟨some 10, (.mov (.tmp 2)), false, none⟩,
  ⟨some 11, (.bin .lss .none (.tmp 10) (.const (.int .i64 0))), true, none⟩,
  ⟨some 12, (.mov (.tmp 11)), true, none⟩,
  ⟨some 13, (.mov (.tmp 1)), false, some (12, false)⟩,
  ⟨some 14, (.conv .u64 (.tmp 13)), false, some (12, false)⟩,
  ⟨some 15, (.mov (.tmp 0)), false, some (12, false)⟩,
  ⟨some 16, (.conv .u64 (.tmp 15)), false, some (12, false)⟩,
  ⟨some 17, (.bin .sub .none (.tmp 14) (.tmp 16)), false, some (12, false)⟩,
  ⟨some 18, (.mov (.tmp 2)), false, some (12, false)⟩,
  ⟨some 19, (.conv .u64 (.tmp 18)), false, some (12, false)⟩,
  ⟨some 20, (.bin .gtr .none (.tmp 17) (.tmp 19)), true, some (12, false)⟩,
  ⟨some 21, (.pick (.tmp 12) (.const (.bool true)) (.tmp 20)), true, none⟩,
  ⟨some 6, (.mov (.tmp 21)), true, none⟩]
def c33_3 : ACode := (.region o33_2 [6])
def w33_3 (_P : Program) (Q : Exit → Slots → Mem → Prop) (M : Mem) (v0 : V) (v1 : V) (v2 : V) : Prop :=
  @OptBH (binV .lss .none v2 (.int .i64 0)) ⟨fun b11_2 =>
  @BIfH b11_2
  ⟨Q .normal [(6, (.bool true))] M⟩
  ⟨@OptVH (convV .u64 v1) ⟨fun t14_7 =>
  @OptVH (convV .u64 v0) ⟨fun t16_9 =>
  @OptVH (binV .sub .none t14_7 t16_9) ⟨fun t17_10 =>
  @OptVH (convV .u64 v2) ⟨fun t19_12 =>
  @OptBH (binV .gtr .none t17_10 t19_12) ⟨fun b20_13 =>
  Q .normal [(6, (.bool b20_13))] M⟩⟩⟩⟩⟩⟩⟩
theorem e33_3 (P : Program) (Q : Exit → Slots → Mem → Prop) (s : Slots) (M : Mem) : wpC P c33_3 Q s M = w33_3 P Q M (sget s 0) (sget s 1) (sget s 2) := by kernel_rfl
def c33_4 : ACode := (.seq c33_3 .ret)
def o33_5 : List AOper := [⟨some 7, (.mov (.tmp 1)), false, none⟩,
  ⟨some 8, (.mov (.tmp 0)), false, none⟩,
  ⟨some 9, (.bin .geq .none (.tmp 7) (.tmp 8)), true, none⟩]
def c33_6 : ACode := (.seq (.region o33_5 [0, 1, 2, 9]) (.cond (.tmp 9) c33_4 .skip))
def w33_6 (P : Program) (Q : Exit → Slots → Mem → Prop) (M : Mem) (v0 : V) (v1 : V) (v2 : V) : Prop :=
  @OptBH (binV .geq .none v1 v0) ⟨fun b9_3 =>
  @BIfH b9_3
  ⟨wpC P c33_4 Q [(0, v0), (1, v1), (2, v2), (9, (.bool b9_3))] M⟩
  ⟨Q .normal [(0, v0), (1, v1), (2, v2), (9, (.bool b9_3))] M⟩⟩
theorem e33_6 (P : Program) (Q : Exit → Slots → Mem → Prop) (s : Slots) (M : Mem) : wpC P c33_6 Q s M = w33_6 P Q M (sget s 0) (sget s 1) (sget s 2) := by kernel_rfl
def o33_7 : List AOper := [⟨some 22, (.mov (.tmp 2)), false, none⟩,
  ⟨some 23, (.bin .lss .none (.tmp 22) (.const (.int .i64 0))), true, none⟩,
  ⟨some 24, (.mov (.tmp 23)), true, none⟩,
  ⟨some 25, (.mov (.tmp 0)), false, some (24, true)⟩,
  ⟨some 26, (.conv .u64 (.tmp 25)), false, some (24, true)⟩,
  ⟨some 27, (.mov (.tmp 1)), false, some (24, true)⟩,
  ⟨some 28, (.conv .u64 (.tmp 27)), false, some (24, true)⟩,
  ⟨some 29, (.bin .sub .none (.tmp 26) (.tmp 28)), false, some (24, true)⟩,
  ⟨some 30, (.mov (.tmp 2)), false, some (24, true)⟩,
  ⟨some 31, (.conv .u64 (.tmp 30)), false, some (24, true)⟩,
  ⟨some 32, (.un .neg (.tmp 31)), false, some (24, true)⟩,
  ⟨some 33, (.bin .lss .none (.tmp 29) (.tmp 32)), true, some (24, true)⟩,
  ⟨some 34, (.pick (.tmp 24) (.tmp 33) (.const (.bool false))), true, none⟩,
  ⟨some 6, (.mov (.tmp 34)), true, none⟩]
def c33_8 : ACode := (.region o33_7 [6])
def w33_8 (_P : Program) (Q : Exit → Slots → Mem → Prop) (M : Mem) (v0 : V) (v1 : V) (v2 : V) : Prop :=
  @OptBH (binV .lss .none v2 (.int .i64 0)) ⟨fun b23_2 =>
  @BIfH b23_2
  ⟨@OptVH (convV .u64 v0) ⟨fun t26_5 =>
  @OptVH (convV .u64 v1) ⟨fun t28_7 =>
  @OptVH (binV .sub .none t26_5 t28_7) ⟨fun t29_8 =>
  @OptVH (convV .u64 v2) ⟨fun t31_10 =>
  @OptVH (unV .neg t31_10) ⟨fun t32_11 =>
  @OptBH (binV .lss .none t29_8 t32_11) ⟨fun b33_12 =>
  Q .normal [(6, (.bool b33_12))] M⟩⟩⟩⟩⟩⟩⟩
  ⟨Q .normal [(6, (.bool false))] M⟩⟩
theorem e33_8 (P : Program) (Q : Exit → Slots → Mem → Prop) (s : Slots) (M : Mem) : wpC P c33_8 Q s M = w33_8 P Q M (sget s 0) (sget s 1) (sget s 2) := by kernel_rfl
def c33_9 : ACode := (.seq c33_8 .ret)
def c33_10 : ACode := (.seq c33_6 c33_9)
def c33_11 : ACode := (.seq c33_1 c33_10)
def fn_product_later : AFn := ⟨35, [(.tmp 6)], c33_11⟩
theorem fn_product_later_ok : resFn PR h_product_later i_product_later = some fn_product_later := by kernel_rfl

def h_product_Covers_1 : Hints := ⟨[(0, [1, 2, 3]), (1, [2, 3]), (2, [])], [], []⟩
def o34_0 : List AOper := [⟨some 3, (.box 4 (.tmp 0)), false, none⟩]
def c34_1 : ACode := (.region o34_0 [1, 2, 3])
def w34_1 (_P : Program) (Q : Exit → Slots → Mem → Prop) (M : Mem) (v0 : V) (v1 : V) (v2 : V) : Prop :=
  @OptMH (boxV 4 v0 M) ⟨fun t3_1 M1 =>
  Q .normal [(1, v1), (2, v2), (3, t3_1)] M1⟩
theorem e34_1 (P : Program) (Q : Exit → Slots → Mem → Prop) (s : Slots) (M : Mem) : wpC P c34_1 Q s M = w34_1 P Q M (sget s 0) (sget s 1) (sget s 2) := by kernel_rfl
def o34_2 : List AOper := [⟨some 4, (.load 1 false (.tmp 1)), false, none⟩,
  ⟨some 5, (.fieldAddr 2 (.tmp 3)), false, none⟩,
  ⟨some 6, (.load 1 false (.tmp 5)), false, none⟩,
  ⟨some 7, (.conv .u64 (.tmp 6)), false, none⟩,
  ⟨some 8, (.call i_bitset_Set_Union [(.tmp 4), (.tmp 7)]), false, none⟩,
  ⟨none, (.store 1 (.tmp 1) (.tmp 8)), false, none⟩]
def c34_3 : ACode := (.region o34_2 [2, 3])
def w34_3 (P : Program) (Q : Exit → Slots → Mem → Prop) (M : Mem) (v1 : V) (v2 : V) (v3 : V) : Prop :=
  @OptVH (loadV 1 false v1 M) ⟨fun t4_1 =>
  @OptVH (moveV 2 v3) ⟨fun t5_2 =>
  @OptVH (loadV 1 false t5_2 M) ⟨fun t6_3 =>
  @OptVH (convV .u64 t6_3) ⟨fun t7_4 =>
  @CallH P i_bitset_Set_Union [t4_1, t7_4] M ⟨fun t8_5 M5 =>
  @OptMH (storeVM 1 v1 t8_5 M5) ⟨fun _tx_6 M6 =>
  Q .normal [(2, v2), (3, v3)] M6⟩⟩⟩⟩⟩⟩
theorem e34_3 (P : Program) (Q : Exit → Slots → Mem → Prop) (s : Slots) (M : Mem) : wpC P c34_3 Q s M = w34_3 P Q M (sget s 1) (sget s 2) (sget s 3) := by kernel_rfl
def o34_4 : List AOper := [⟨some 9, (.load 1 false (.tmp 2)), false, none⟩,
  ⟨some 10, (.fieldAddr 3 (.tmp 3)), false, none⟩,
  ⟨some 11, (.load 1 false (.tmp 10)), false, none⟩,
  ⟨some 12, (.conv .u64 (.tmp 11)), false, none⟩,
  ⟨some 13, (.call i_bitset_Set_Union [(.tmp 9), (.tmp 12)]), false, none⟩,
  ⟨none, (.store 1 (.tmp 2) (.tmp 13)), false, none⟩]
def c34_5 : ACode := (.region o34_4 [])
def w34_5 (P : Program) (Q : Exit → Slots → Mem → Prop) (M : Mem) (v2 : V) (v3 : V) : Prop :=
  @OptVH (loadV 1 false v2 M) ⟨fun t9_1 =>
  @OptVH (moveV 3 v3) ⟨fun t10_2 =>
  @OptVH (loadV 1 false t10_2 M) ⟨fun t11_3 =>
  @OptVH (convV .u64 t11_3) ⟨fun t12_4 =>
  @CallH P i_bitset_Set_Union [t9_1, t12_4] M ⟨fun t13_5 M5 =>
  @OptMH (storeVM 1 v2 t13_5 M5) ⟨fun _tx_6 M6 =>
  Q .normal [] M6⟩⟩⟩⟩⟩⟩
theorem e34_5 (P : Program) (Q : Exit → Slots → Mem → Prop) (s : Slots) (M : Mem) : wpC P c34_5 Q s M = w34_5 P Q M (sget s 2) (sget s 3) := by kernel_rfl
def c34_6 : ACode := (.seq c34_3 c34_5)
def c34_7 : ACode := (.seq c34_1 c34_6)
def fn_product_Covers_1 : AFn := ⟨14, [], c34_7⟩
theorem fn_product_Covers_1_ok : resFn PR h_product_Covers_1 i_product_Covers_1 = some fn_product_Covers_1 := by kernel_rfl

def h_bitset_Set_Union : Hints := ⟨[(0, [0, 1]), (1, [4])], [], []⟩
def o35_0 : List AOper := [⟨some 4, (.mov (.const (.int .u64 0))), false, none⟩]
def c35_1 : ACode := (.region o35_0 [0, 1])
def w35_1 (_P : Program) (Q : Exit → Slots → Mem → Prop) (M : Mem) (v0 : V) (v1 : V) : Prop :=
  Q .normal [(0, v0), (1, v1)] M
theorem e35_1 (P : Program) (Q : Exit → Slots → Mem → Prop) (s : Slots) (M : Mem) : wpC P c35_1 Q s M = w35_1 P Q M (sget s 0) (sget s 1) := by kernel_rfl
def o35_2 : List AOper := [⟨some 5, (.mov (.tmp 0)), false, none⟩,
  ⟨some 6, (.mov (.tmp 1)), false, none⟩,
  ⟨some 7, (.bin .or .none (.tmp 5) (.tmp 6)), false, none⟩,
  ⟨some 4, (.mov (.tmp 7)), false, none⟩]
def c35_3 : ACode := (.region o35_2 [4])
def w35_3 (_P : Program) (Q : Exit → Slots → Mem → Prop) (M : Mem) (v0 : V) (v1 : V) : Prop :=
  @OptVH (binV .or .none v0 v1) ⟨fun t7_3 =>
  Q .normal [(4, t7_3)] M⟩
theorem e35_3 (P : Program) (Q : Exit → Slots → Mem → Prop) (s : Slots) (M : Mem) : wpC P c35_3 Q s M = w35_3 P Q M (sget s 0) (sget s 1) := by kernel_rfl
def c35_4 : ACode := (.seq c35_3 .ret)
def c35_5 : ACode := (.seq c35_1 c35_4)
def fn_bitset_Set_Union : AFn := ⟨8, [(.tmp 4)], c35_5⟩
theorem fn_bitset_Set_Union_ok : resFn PR h_bitset_Set_Union i_bitset_Set_Union = some fn_bitset_Set_Union := by kernel_rfl

def h_bitset_Set_Len : Hints := ⟨[(0, [0]), (1, [0, 3]), (2, [0, 3, 5]), (3, [2]), (4, [0, 3]), (5, [0, 3])], [(2, [0, 3])], []⟩
def o36_0 : List AOper := [⟨some 2, (.mov (.const (.int .i64 0))), false, none⟩]
def c36_1 : ACode := (.region o36_0 [0])
def w36_1 (_P : Program) (Q : Exit → Slots → Mem → Prop) (M : Mem) (v0 : V) : Prop :=
  Q .normal [(0, v0)] M
theorem e36_1 (P : Program) (Q : Exit → Slots → Mem → Prop) (s : Slots) (M : Mem) : wpC P c36_1 Q s M = w36_1 P Q M (sget s 0) := by kernel_rfl
def o36_2 : List AOper := [⟨some 3, (.mov (.const (.int .i64 0))), false, none⟩]
def c36_3 : ACode := (.region o36_2 [0, 3])
def w36_3 (_P : Program) (Q : Exit → Slots → Mem → Prop) (M : Mem) (v0 : V) : Prop :=
  Q .normal [(0, v0), (3, (.int .i64 0))] M
theorem e36_3 (P : Program) (Q : Exit → Slots → Mem → Prop) (s : Slots) (M : Mem) : wpC P c36_3 Q s M = w36_3 P Q M (sget s 0) := by kernel_rfl
def o36_4 : List AOper := [⟨some 6, (.mov (.tmp 3)), false, none⟩,
  ⟨some 2, (.mov (.tmp 6)), false, none⟩]
def c36_5 : ACode := (.region o36_4 [2])
def w36_5 (_P : Program) (Q : Exit → Slots → Mem → Prop) (M : Mem) (v3 : V) : Prop :=
  Q .normal [(2, v3)] M
theorem e36_5 (P : Program) (Q : Exit → Slots → Mem → Prop) (s : Slots) (M : Mem) : wpC P c36_5 Q s M = w36_5 P Q M (sget s 3) := by kernel_rfl
def c36_6 : ACode := (.seq c36_5 .ret)
def o36_7 : List AOper := [⟨some 4, (.mov (.tmp 0)), false, none⟩,
  ⟨some 5, (.bin .eql .none (.tmp 4) (.const (.int .u64 0))), true, none⟩]
def c36_8 : ACode := (.seq (.region o36_7 [0, 3, 5]) (.cond (.tmp 5) c36_6 .skip))
def w36_8 (P : Program) (Q : Exit → Slots → Mem → Prop) (M : Mem) (v0 : V) (v3 : V) : Prop :=
  @OptBH (binV .eql .none v0 (.int .u64 0)) ⟨fun b5_2 =>
  @BIfH b5_2
  ⟨wpC P c36_6 Q [(0, v0), (3, v3), (5, (.bool b5_2))] M⟩
  ⟨Q .normal [(0, v0), (3, v3), (5, (.bool b5_2))] M⟩⟩
theorem e36_8 (P : Program) (Q : Exit → Slots → Mem → Prop) (s : Slots) (M : Mem) : wpC P c36_8 Q s M = w36_8 P Q M (sget s 0) (sget s 3) := by kernel_rfl
def o36_9 : List AOper := [⟨some 7, (.mov (.tmp 0)), false, none⟩,
  ⟨some 8, (.mov (.tmp 0)), false, none⟩,
  ⟨some 9, (.bin .sub .none (.tmp 8) (.const (.int .u64 1))), false, none⟩,
  ⟨some 10, (.bin .and .none (.tmp 7) (.tmp 9)), false, none⟩,
  ⟨some 0, (.mov (.tmp 10)), false, none⟩]
def c36_10 : ACode := (.region o36_9 [0, 3])
def w36_10 (_P : Program) (Q : Exit → Slots → Mem → Prop) (M : Mem) (v0 : V) (v3 : V) : Prop :=
  @OptVH (binV .sub .none v0 (.int .u64 1)) ⟨fun t9_3 =>
  @OptVH (binV .and .none v0 t9_3) ⟨fun t10_4 =>
  Q .normal [(0, t10_4), (3, v3)] M⟩⟩
theorem e36_10 (P : Program) (Q : Exit → Slots → Mem → Prop) (s : Slots) (M : Mem) : wpC P c36_10 Q s M = w36_10 P Q M (sget s 0) (sget s 3) := by kernel_rfl
def o36_11 : List AOper := [⟨some 11, (.mov (.tmp 3)), false, none⟩,
  ⟨some 12, (.bin .add .none (.tmp 11) (.const (.int .i64 1))), false, none⟩,
  ⟨some 3, (.mov (.tmp 12)), false, none⟩]
def c36_12 : ACode := (.region o36_11 [0, 3])
def w36_12 (_P : Program) (Q : Exit → Slots → Mem → Prop) (M : Mem) (v0 : V) (v3 : V) : Prop :=
  @OptVH (binV .add .none v3 (.int .i64 1)) ⟨fun t12_2 =>
  Q .normal [(0, v0), (3, t12_2)] M⟩
theorem e36_12 (P : Program) (Q : Exit → Slots → Mem → Prop) (s : Slots) (M : Mem) : wpC P c36_12 Q s M = w36_12 P Q M (sget s 0) (sget s 3) := by kernel_rfl
def c36_13 : ACode := (.seq c36_12 (.goto 0))
def c36_14 : ACode := (.seq c36_10 c36_13)
def c36_15 : ACode := (.seq c36_8 c36_14)
def c36_16 : ACode := (.seq .label c36_15)
def c36_17 : ACode := (.seq c36_3 c36_16)
def o36_18 : List AOper := [⟨some 6, (.mov (.tmp 3)), false, none⟩,
  ⟨some 2, (.mov (.tmp 6)), false, none⟩]
def c36_19 : ACode := (.region o36_18 [2])
def w36_19 (_P : Program) (Q : Exit → Slots → Mem → Prop) (M : Mem) (v3 : V) : Prop :=
  Q .normal [(2, v3)] M
theorem e36_19 (P : Program) (Q : Exit → Slots → Mem → Prop) (s : Slots) (M : Mem) : wpC P c36_19 Q s M = w36_19 P Q M (sget s 3) := by kernel_rfl
def c36_20 : ACode := (.seq c36_19 .ret)
def o36_21 : List AOper := [⟨some 4, (.mov (.tmp 0)), false, none⟩,
  ⟨some 5, (.bin .eql .none (.tmp 4) (.const (.int .u64 0))), true, none⟩]
def c36_22 : ACode := (.seq (.region o36_21 [0, 3, 5]) (.cond (.tmp 5) c36_20 .skip))
def w36_22 (P : Program) (Q : Exit → Slots → Mem → Prop) (M : Mem) (v0 : V) (v3 : V) : Prop :=
  @OptBH (binV .eql .none v0 (.int .u64 0)) ⟨fun b5_2 =>
  @BIfH b5_2
  ⟨wpC P c36_20 Q [(0, v0), (3, v3), (5, (.bool b5_2))] M⟩
  ⟨Q .normal [(0, v0), (3, v3), (5, (.bool b5_2))] M⟩⟩
theorem e36_22 (P : Program) (Q : Exit → Slots → Mem → Prop) (s : Slots) (M : Mem) : wpC P c36_22 Q s M = w36_22 P Q M (sget s 0) (sget s 3) := by kernel_rfl
def o36_23 : List AOper := [⟨some 7, (.mov (.tmp 0)), false, none⟩,
  ⟨some 8, (.mov (.tmp 0)), false, none⟩,
  ⟨some 9, (.bin .sub .none (.tmp 8) (.const (.int .u64 1))), false, none⟩,
  ⟨some 10, (.bin .and .none (.tmp 7) (.tmp 9)), false, none⟩,
  ⟨some 0, (.mov (.tmp 10)), false, none⟩]
def c36_24 : ACode := (.region o36_23 [0, 3])
def w36_24 (_P : Program) (Q : Exit → Slots → Mem → Prop) (M : Mem) (v0 : V) (v3 : V) : Prop :=
  @OptVH (binV .sub .none v0 (.int .u64 1)) ⟨fun t9_3 =>
  @OptVH (binV .and .none v0 t9_3) ⟨fun t10_4 =>
  Q .normal [(0, t10_4), (3, v3)] M⟩⟩
theorem e36_24 (P : Program) (Q : Exit → Slots → Mem → Prop) (s : Slots) (M : Mem) : wpC P c36_24 Q s M = w36_24 P Q M (sget s 0) (sget s 3) := by kernel_rfl
def o36_25 : List AOper := [⟨some 11, (.mov (.tmp 3)), false, none⟩,
  ⟨some 12, (.bin .add .none (.tmp 11) (.const (.int .i64 1))), false, none⟩,
  ⟨some 3, (.mov (.tmp 12)), false, none⟩]
def c36_26 : ACode := (.region o36_25 [0, 3])
def w36_26 (_P : Program) (Q : Exit → Slots → Mem → Prop) (M : Mem) (v0 : V) (v3 : V) : Prop :=
  @OptVH (binV .add .none v3 (.int .i64 1)) ⟨fun t12_2 =>
  Q .normal [(0, v0), (3, t12_2)] M⟩
theorem e36_26 (P : Program) (Q : Exit → Slots → Mem → Prop) (s : Slots) (M : Mem) : wpC P c36_26 Q s M = w36_26 P Q M (sget s 0) (sget s 3) := by kernel_rfl
def c36_27 : ACode := (.seq c36_26 (.goto 0))
def c36_28 : ACode := (.seq c36_24 c36_27)
def c36_29 : ACode := (.seq c36_22 c36_28)
def c36_30 : ACode := (.seq .skip c36_29)
def c36_31 : ACode := (.scope 0 [0, 3] c36_17 c36_30)
def c36_32 : ACode := (.seq c36_1 c36_31)
def fn_bitset_Set_Len : AFn := ⟨13, [(.tmp 2)], c36_32⟩
theorem fn_bitset_Set_Len_ok : resFn PR h_bitset_Set_Len i_bitset_Set_Len = some fn_bitset_Set_Len := by kernel_rfl

def h_bitset_Set_Within : Hints := ⟨[(0, [0, 1]), (1, [4])], [], []⟩
def o37_0 : List AOper := [⟨some 4, (.mov (.const (.bool false))), true, none⟩]
def c37_1 : ACode := (.region o37_0 [0, 1])
def w37_1 (_P : Program) (Q : Exit → Slots → Mem → Prop) (M : Mem) (v0 : V) (v1 : V) : Prop :=
  Q .normal [(0, v0), (1, v1)] M
theorem e37_1 (P : Program) (Q : Exit → Slots → Mem → Prop) (s : Slots) (M : Mem) : wpC P c37_1 Q s M = w37_1 P Q M (sget s 0) (sget s 1) := by kernel_rfl
def o37_2 : List AOper := [⟨some 5, (.mov (.tmp 0)), false, none⟩,
  ⟨some 6, (.mov (.tmp 1)), false, none⟩,
  ⟨some 7, (.bin .andNot .none (.tmp 5) (.tmp 6)), false, none⟩,
  ⟨some 8, (.bin .eql .none (.tmp 7) (.const (.int .u64 0))), true, none⟩,
  ⟨some 4, (.mov (.tmp 8)), true, none⟩]
def c37_3 : ACode := (.region o37_2 [4])
def w37_3 (_P : Program) (Q : Exit → Slots → Mem → Prop) (M : Mem) (v0 : V) (v1 : V) : Prop :=
  @OptVH (binV .andNot .none v0 v1) ⟨fun t7_3 =>
  @OptBH (binV .eql .none t7_3 (.int .u64 0)) ⟨fun b8_4 =>
  Q .normal [(4, (.bool b8_4))] M⟩⟩
theorem e37_3 (P : Program) (Q : Exit → Slots → Mem → Prop) (s : Slots) (M : Mem) : wpC P c37_3 Q s M = w37_3 P Q M (sget s 0) (sget s 1) := by kernel_rfl
def c37_4 : ACode := (.seq c37_3 .ret)
def c37_5 : ACode := (.seq c37_1 c37_4)
def fn_bitset_Set_Within : AFn := ⟨9, [(.tmp 4)], c37_5⟩
theorem fn_bitset_Set_Within_ok : resFn PR h_bitset_Set_Within i_bitset_Set_Within = some fn_bitset_Set_Within := by kernel_rfl

def h_fare_within : Hints := ⟨[(0, [0, 1, 2]), (1, [6])], [], []⟩
def o38_0 : List AOper := [⟨some 6, (.mov (.const (.bool false))), true, none⟩]
def c38_1 : ACode := (.region o38_0 [0, 1, 2])
def w38_1 (_P : Program) (Q : Exit → Slots → Mem → Prop) (M : Mem) (v0 : V) (v1 : V) (v2 : V) : Prop :=
  Q .normal [(0, v0), (1, v1), (2, v2)] M
theorem e38_1 (P : Program) (Q : Exit → Slots → Mem → Prop) (s : Slots) (M : Mem) : wpC P c38_1 Q s M = w38_1 P Q M (sget s 0) (sget s 1) (sget s 2) := by kernel_rfl
def o38_2 : List AOper := [⟨some 7, (.mov (.tmp 1)), false, none⟩,
  ⟨some 8, (.mov (.tmp 0)), false, none⟩,
  ⟨some 9, (.bin .leq .none (.tmp 7) (.tmp 8)), true, none⟩,
  ⟨some 10, (.mov (.tmp 9)), true, none⟩,
  ⟨some 11, (.mov (.tmp 1)), false, some (10, false)⟩,
  ⟨some 12, (.conv .u64 (.tmp 11)), false, some (10, false)⟩,
  ⟨some 13, (.mov (.tmp 0)), false, some (10, false)⟩,
  ⟨some 14, (.conv .u64 (.tmp 13)), false, some (10, false)⟩,
  ⟨some 15, (.bin .sub .none (.tmp 12) (.tmp 14)), false, some (10, false)⟩,
  ⟨some 16, (.mov (.tmp 2)), false, some (10, false)⟩,
  ⟨some 17, (.conv .u64 (.tmp 16)), false, some (10, false)⟩,
  ⟨some 18, (.bin .leq .none (.tmp 15) (.tmp 17)), true, some (10, false)⟩,
  ⟨some 19, (.pick (.tmp 10) (.const (.bool true)) (.tmp 18)), true, none⟩,
  ⟨some 6, (.mov (.tmp 19)), true, none⟩]
def c38_3 : ACode := (.region o38_2 [6])
def w38_3 (_P : Program) (Q : Exit → Slots → Mem → Prop) (M : Mem) (v0 : V) (v1 : V) (v2 : V) : Prop :=
  @OptBH (binV .leq .none v1 v0) ⟨fun b9_3 =>
  @BIfH b9_3
  ⟨Q .normal [(6, (.bool true))] M⟩
  ⟨@OptVH (convV .u64 v1) ⟨fun t12_8 =>
  @OptVH (convV .u64 v0) ⟨fun t14_10 =>
  @OptVH (binV .sub .none t12_8 t14_10) ⟨fun t15_11 =>
  @OptVH (convV .u64 v2) ⟨fun t17_13 =>
  @OptBH (binV .leq .none t15_11 t17_13) ⟨fun b18_14 =>
  Q .normal [(6, (.bool b18_14))] M⟩⟩⟩⟩⟩⟩⟩
theorem e38_3 (P : Program) (Q : Exit → Slots → Mem → Prop) (s : Slots) (M : Mem) : wpC P c38_3 Q s M = w38_3 P Q M (sget s 0) (sget s 1) (sget s 2) := by kernel_rfl
def c38_4 : ACode := (.seq c38_3 .ret)
def c38_5 : ACode := (.seq c38_1 c38_4)
def fn_fare_within : AFn := ⟨20, [(.tmp 6)], c38_5⟩
theorem fn_fare_within_ok : resFn PR h_fare_within i_fare_within = some fn_fare_within := by kernel_rfl

def tabL : List (Nat × AFn × Bool) := [(3, fn_transitlaw35_FareTexts, false), (4, fn_transitlaw35_small, false), (5, fn_transitlaw35_exampleHolds, false), (7, fn_transitref35_Text, false), (8, fn_fare_Price, false), (9, fn_transitref35_Same, false), (10, fn_fare_valid, false), (11, fn_fare_validPrice, false), (15, fn_transitref35_Valid, false), (16, fn_transitref35_number, false), (17, fn_fare_divide, false), (18, fn_fare_capped, false), (19, fn_product_Check, false), (22, fn_transitref26_Fares, false), (23, fn_fare_divide_1, false), (24, fn_product_Covers, false), (25, fn_fare_ticketPrice, false), (26, fn_fare_rest_better, false), (27, fn_product_within, false), (28, fn_ident_Valid, false), (31, fn_transitref26_in, false), (32, fn_transitref26_ValidID, false), (33, fn_product_later, false), (34, fn_product_Covers_1, false), (35, fn_bitset_Set_Union, false), (36, fn_bitset_Set_Len, false), (37, fn_bitset_Set_Within, false), (38, fn_fare_within, false)]
theorem tab_ok : TabOK PR (tabOf tabL) := tabOf_cons fn_transitlaw35_FareTexts_ok (tabOf_cons fn_transitlaw35_small_ok (tabOf_cons fn_transitlaw35_exampleHolds_ok (tabOf_cons fn_transitref35_Text_ok (tabOf_cons fn_fare_Price_ok (tabOf_cons fn_transitref35_Same_ok (tabOf_cons fn_fare_valid_ok (tabOf_cons fn_fare_validPrice_ok (tabOf_cons fn_transitref35_Valid_ok (tabOf_cons fn_transitref35_number_ok (tabOf_cons fn_fare_divide_ok (tabOf_cons fn_fare_capped_ok (tabOf_cons fn_product_Check_ok (tabOf_cons fn_transitref26_Fares_ok (tabOf_cons fn_fare_divide_1_ok (tabOf_cons fn_product_Covers_ok (tabOf_cons fn_fare_ticketPrice_ok (tabOf_cons fn_fare_rest_better_ok (tabOf_cons fn_product_within_ok (tabOf_cons fn_ident_Valid_ok (tabOf_cons fn_transitref26_in_ok (tabOf_cons fn_transitref26_ValidID_ok (tabOf_cons fn_product_later_ok (tabOf_cons fn_product_Covers_1_ok (tabOf_cons fn_bitset_Set_Union_ok (tabOf_cons fn_bitset_Set_Len_ok (tabOf_cons fn_bitset_Set_Within_ok (tabOf_cons fn_fare_within_ok (tabOf_nil))))))))))))))))))))))))))))

end Go.Vm.C
