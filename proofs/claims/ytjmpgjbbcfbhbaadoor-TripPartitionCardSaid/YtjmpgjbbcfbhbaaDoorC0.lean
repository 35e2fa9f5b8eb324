/- The abstract code of the functions that the statements reach, printed by a program, each with the equation that it is what the loaded program says. Part 0. -/
import Derived.Test.YtjmpgjbbcfbhbaaDoorProg
import Derived.Test.YtjmpgjbbcfbhbaaDoorVm2
import Derived.KernelRfl
namespace Go.Vm.C
open Go.Vm

abbrev i_main_main : Nat := 0
abbrev i_gosem_cut : Nat := 1
abbrev i_gosem_cut_init : Nat := 2
abbrev i_transitlaw17_TripChecks : Nat := 3
abbrev i_transitlaw17_TripFinds : Nat := 4
abbrev i_transitlaw17_TripPatterns : Nat := 5
abbrev i_transitlaw17_TripGroups : Nat := 6
abbrev i_transitlaw17_TripOvertakes : Nat := 7
abbrev i_transitlaw17_TripConnects : Nat := 8
abbrev i_transitlaw17_TripPartition : Nat := 9
abbrev i_transitlaw17_TripFollows : Nat := 10
abbrev i_transitlaw17_TripPasses : Nat := 11
abbrev i_transitlaw17_table : Nat := 12
abbrev i_transitlaw17_exampleHolds : Nat := 13
abbrev i_trip_Check : Nat := 14
abbrev i_transitref17_Check : Nat := 15
abbrev i_trip_Find : Nat := 16
abbrev i_transitref17_Find : Nat := 17
abbrev i_transitlaw17_small : Nat := 18
abbrev i_trip_Pattern : Nat := 19
abbrev i_trip_SamePattern : Nat := 20
abbrev i_transitref17_SamePattern : Nat := 21
abbrev i_trip_Groups : Nat := 22
abbrev i_transitref17_Group : Nat := 23
abbrev i_transitlaw17_same : Nat := 24
abbrev i_trip_Overtakes : Nat := 25
abbrev i_transitref17_Overtakes : Nat := 26
abbrev i_trip_Between : Nat := 27
abbrev i_transitref17_Connects : Nat := 28
abbrev i_transitlaw17_passes : Nat := 29
abbrev i_transitlaw17_example : Nat := 30
abbrev i_ident_Valid : Nat := 31
abbrev i_call_Check : Nat := 32
abbrev i_transitref17_one : Nat := 33
abbrev i_trip_key : Nat := 34
abbrev i_transitref17_event : Nat := 35
abbrev i_trip_connects : Nat := 36
abbrev i_call_one : Nat := 37
abbrev i_transitref05_Valid : Nat := 38
abbrev i_transitref17_calls : Nat := 39
abbrev i_strconv_AppendInt : Nat := 40
abbrev i_internal_strconv_AppendInt : Nat := 41
abbrev i_internal_strconv_AppendUint : Nat := 42
abbrev i_internal_strconv_small : Nat := 43
abbrev i_internal_strconv_numDigits : Nat := 44
abbrev i_internal_strconv_formatBase10 : Nat := 45
abbrev i_internal_strconv_formatBits : Nat := 46
abbrev i_internal_strconv_log10Pow2 : Nat := 47
abbrev i_math_bits_Len64 : Nat := 48
abbrev i_internal_strconv_bool2_int : Nat := 49
abbrev i_internal_strconv_isPowerOfTwo : Nat := 50
abbrev i_math_bits_TrailingZeros : Nat := 51
abbrev i_math_bits_TrailingZeros32 : Nat := 52
abbrev i_math_bits_TrailingZeros64 : Nat := 53
abbrev i_runtime_boundsError_Error : Nat := 54
abbrev i_runtime_boundsError_RuntimeError : Nat := 55
abbrev i_runtime_errorString_Error : Nat := 56
abbrev i_runtime_errorString_RuntimeError : Nat := 57
abbrev i_runtime_plainError_Error : Nat := 58
abbrev i_runtime_plainError_RuntimeError : Nat := 59
abbrev i_runtime_errorAddressString_Error : Nat := 60
abbrev i_runtime_errorAddressString_RuntimeError : Nat := 61
abbrev i_runtime_TypeAssertionError_Error : Nat := 62
abbrev i_runtime_TypeAssertionError_RuntimeError : Nat := 63
abbrev i_runtime_PanicNilError_Error : Nat := 64
abbrev i_runtime_PanicNilError_RuntimeError : Nat := 65
abbrev i_internal_abi_Type_Align : Nat := 66
abbrev i_internal_runtime_maps_unhashableTypeError_Error : Nat := 67
abbrev i_internal_runtime_maps_unhashableTypeError_RuntimeError : Nat := 68
abbrev i_internal_abi_Kind_String : Nat := 69
abbrev i_var_s_door_gosem_cut_vars_holds_initialisers_alone_see_the_manifest_s_row_cutvarsword_look_11_test_files_too : Nat := 70
abbrev i_var_s_door_internal_strconv_uint64pow10_is_laid_by_its_own_initialiser_plain_data_look_11 : Nat := 71
abbrev i_var_s_door_math_bits_deBruijn32tab_is_laid_by_its_own_initialiser_plain_data_look_11 : Nat := 72
abbrev i_var_s_door_math_bits_deBruijn64tab_is_laid_by_its_own_initialiser_plain_data_look_11 : Nat := 73
abbrev i_var_s_door_the_look_of_gosem_cut_vars_went_over_the_folder_that_the_caller_named_as_the_repository_s_root_look_11 : Nat := 74
abbrev i_gosem_cut_vars : Nat := 75
noncomputable abbrev PR : Program := Go.Proofs.Tryd.prog

def h_transitlaw17_TripChecks : Hints := ⟨[(0, [0, 3]), (1, [0, 3, 11]), (2, [4]), (3, [0, 3, 5, 6]), (4, [5, 6, 7, 8]), (5, [4])], [], []⟩
def o3_0 : List AOper := [⟨some 3, (.box 3 (.tmp 1)), false, none⟩,
  ⟨some 4, (.mov (.const (.bool false))), true, none⟩]
def c3_1 : ACode := (.region o3_0 [0, 3])
def w3_1 (_P : Program) (Q : Exit → Slots → Mem → Prop) (M : Mem) (v0 : V) (v1 : V) : Prop :=
  @OptMH (boxV 3 v1 M) ⟨fun t3_1 M1 =>
  Q .normal [(0, v0), (3, t3_1)] M1⟩
theorem e3_1 (P : Program) (Q : Exit → Slots → Mem → Prop) (s : Slots) (M : Mem) : wpC P c3_1 Q s M = w3_1 P Q M (sget s 0) (sget s 1) := by kernel_rfl
def o3_2 : List AOper := [⟨some 12, (.call i_transitlaw17_exampleHolds []), true, none⟩,
  ⟨some 4, (.mov (.tmp 12)), true, none⟩]
def c3_3 : ACode := (.region o3_2 [4])
def w3_3 (P : Program) (Q : Exit → Slots → Mem → Prop) (M : Mem) : Prop :=
  @CallH P i_transitlaw17_exampleHolds [] M ⟨fun t12_1 M1 => @OptBH (some t12_1) ⟨fun b12_1 =>
  Q .normal [(4, (.bool b12_1))] M1⟩⟩
theorem e3_3 (P : Program) (Q : Exit → Slots → Mem → Prop) (s : Slots) (M : Mem) : wpC P c3_3 Q s M = w3_3 P Q M := by kernel_rfl
def c3_4 : ACode := (.seq c3_3 .ret)
def o3_5 : List AOper := [⟨some 9, (.mov (.tmp 0)), false, none⟩,
  ⟨some 10, (.call i_transitlaw17_table [(.tmp 9), (.const (.int .i64 260))]), true, none⟩,
  ⟨some 11, (.un .not (.tmp 10)), true, none⟩]
def c3_6 : ACode := (.seq (.region o3_5 [0, 3, 11]) (.cond (.tmp 11) c3_4 .skip))
def w3_6 (P : Program) (Q : Exit → Slots → Mem → Prop) (M : Mem) (v0 : V) (v3 : V) : Prop :=
  @CallH P i_transitlaw17_table [v0, (.int .i64 260)] M ⟨fun t10_2 M2 => @OptBH (some t10_2) ⟨fun b10_2 =>
  @OptBH (unV .not (.bool b10_2)) ⟨fun b11_3 =>
  @BIfH b11_3
  ⟨wpC P c3_4 Q [(0, v0), (3, v3), (11, (.bool b11_3))] M2⟩
  ⟨Q .normal [(0, v0), (3, v3), (11, (.bool b11_3))] M2⟩⟩⟩⟩
theorem e3_6 (P : Program) (Q : Exit → Slots → Mem → Prop) (s : Slots) (M : Mem) : wpC P c3_6 Q s M = w3_6 P Q M (sget s 0) (sget s 3) := by kernel_rfl
def o3_7 : List AOper := [⟨some 14, (.mov (.tmp 0)), false, none⟩,
  ⟨some 15, (.fieldAddr 0 (.tmp 3)), false, none⟩,
  ⟨some 16, (.load 1 false (.tmp 15)), false, none⟩,
  ⟨some 17, (.fieldAddr 1 (.tmp 3)), false, none⟩,
  ⟨some 18, (.load 1 false (.tmp 17)), false, none⟩,
  ⟨some 19, (.fieldAddr 2 (.tmp 3)), false, none⟩,
  ⟨some 20, (.load 1 false (.tmp 19)), false, none⟩,
  ⟨some 21, (.call i_trip_Check [(.tmp 14), (.tmp 16), (.tmp 18), (.tmp 20)]), false, none⟩,
  ⟨some 13, (.mov (.tmp 21)), false, none⟩,
  ⟨some 22, (.extract (.tmp 13) 0), false, none⟩,
  ⟨some 23, (.extract (.tmp 13) 1), false, none⟩,
  ⟨some 5, (.mov (.tmp 22)), false, none⟩,
  ⟨some 6, (.mov (.tmp 23)), false, none⟩]
def c3_8 : ACode := (.region o3_7 [0, 3, 5, 6])
def w3_8 (P : Program) (Q : Exit → Slots → Mem → Prop) (M : Mem) (v0 : V) (v3 : V) : Prop :=
  @OptVH (moveV 0 v3) ⟨fun t15_2 =>
  @OptVH (loadV 1 false t15_2 M) ⟨fun t16_3 =>
  @OptVH (moveV 1 v3) ⟨fun t17_4 =>
  @OptVH (loadV 1 false t17_4 M) ⟨fun t18_5 =>
  @OptVH (moveV 2 v3) ⟨fun t19_6 =>
  @OptVH (loadV 1 false t19_6 M) ⟨fun t20_7 =>
  @CallH P i_trip_Check [v0, t16_3, t18_5, t20_7] M ⟨fun t21_8 M8 =>
  @OptVH (extractV t21_8 0) ⟨fun t22_10 =>
  @OptVH (extractV t21_8 1) ⟨fun t23_11 =>
  Q .normal [(0, v0), (3, v3), (5, t22_10), (6, t23_11)] M8⟩⟩⟩⟩⟩⟩⟩⟩⟩
theorem e3_8 (P : Program) (Q : Exit → Slots → Mem → Prop) (s : Slots) (M : Mem) : wpC P c3_8 Q s M = w3_8 P Q M (sget s 0) (sget s 3) := by kernel_rfl
def o3_9 : List AOper := [⟨some 25, (.mov (.tmp 0)), false, none⟩,
  ⟨some 26, (.fieldAddr 0 (.tmp 3)), false, none⟩,
  ⟨some 27, (.load 1 false (.tmp 26)), false, none⟩,
  ⟨some 28, (.fieldAddr 1 (.tmp 3)), false, none⟩,
  ⟨some 29, (.load 1 false (.tmp 28)), false, none⟩,
  ⟨some 30, (.fieldAddr 2 (.tmp 3)), false, none⟩,
  ⟨some 31, (.load 1 false (.tmp 30)), false, none⟩,
  ⟨some 32, (.call i_transitref17_Check [(.tmp 25), (.tmp 27), (.tmp 29), (.tmp 31)]), false, none⟩,
  ⟨some 24, (.mov (.tmp 32)), false, none⟩,
  ⟨some 33, (.extract (.tmp 24) 0), false, none⟩,
  ⟨some 34, (.extract (.tmp 24) 1), false, none⟩,
  ⟨some 7, (.mov (.tmp 33)), false, none⟩,
  ⟨some 8, (.mov (.tmp 34)), false, none⟩]
def c3_10 : ACode := (.region o3_9 [5, 6, 7, 8])
def w3_10 (P : Program) (Q : Exit → Slots → Mem → Prop) (M : Mem) (v0 : V) (v3 : V) (v5 : V) (v6 : V) : Prop :=
  @OptVH (moveV 0 v3) ⟨fun t26_2 =>
  @OptVH (loadV 1 false t26_2 M) ⟨fun t27_3 =>
  @OptVH (moveV 1 v3) ⟨fun t28_4 =>
  @OptVH (loadV 1 false t28_4 M) ⟨fun t29_5 =>
  @OptVH (moveV 2 v3) ⟨fun t30_6 =>
  @OptVH (loadV 1 false t30_6 M) ⟨fun t31_7 =>
  @CallH P i_transitref17_Check [v0, t27_3, t29_5, t31_7] M ⟨fun t32_8 M8 =>
  @OptVH (extractV t32_8 0) ⟨fun t33_10 =>
  @OptVH (extractV t32_8 1) ⟨fun t34_11 =>
  Q .normal [(5, v5), (6, v6), (7, t33_10), (8, t34_11)] M8⟩⟩⟩⟩⟩⟩⟩⟩⟩
theorem e3_10 (P : Program) (Q : Exit → Slots → Mem → Prop) (s : Slots) (M : Mem) : wpC P c3_10 Q s M = w3_10 P Q M (sget s 0) (sget s 3) (sget s 5) (sget s 6) := by kernel_rfl
def o3_11 : List AOper := [⟨some 35, (.mov (.tmp 5)), false, none⟩,
  ⟨some 36, (.mov (.tmp 7)), false, none⟩,
  ⟨some 37, (.bin .eql .none (.tmp 35) (.tmp 36)), true, none⟩,
  ⟨some 38, (.mov (.tmp 37)), true, none⟩,
  ⟨some 39, (.mov (.tmp 6)), false, some (38, true)⟩,
  ⟨some 40, (.mov (.tmp 8)), false, some (38, true)⟩,
  ⟨some 41, (.bin .eql .none (.tmp 39) (.tmp 40)), true, some (38, true)⟩,
  ⟨some 42, (.pick (.tmp 38) (.tmp 41) (.const (.bool false))), true, none⟩,
  ⟨some 43, (.mov (.tmp 42)), true, none⟩,
  ⟨some 44, (.call i_transitlaw17_exampleHolds []), true, some (43, true)⟩,
  ⟨some 45, (.pick (.tmp 43) (.tmp 44) (.const (.bool false))), true, none⟩,
  ⟨some 4, (.mov (.tmp 45)), true, none⟩]
def c3_12 : ACode := (.region o3_11 [4])
def w3_12 (P : Program) (Q : Exit → Slots → Mem → Prop) (M : Mem) (v5 : V) (v6 : V) (v7 : V) (v8 : V) : Prop :=
  @OptBH (binV .eql .none v5 v7) ⟨fun b37_3 =>
  @BIfH b37_3
  ⟨@OptBH (binV .eql .none v6 v8) ⟨fun b41_7 =>
  @BIfH b41_7
  ⟨@CallH P i_transitlaw17_exampleHolds [] M ⟨fun t44_10 M10 => @OptBH (some t44_10) ⟨fun b44_10 =>
  Q .normal [(4, (.bool b44_10))] M10⟩⟩⟩
  ⟨Q .normal [(4, (.bool false))] M⟩⟩⟩
  ⟨Q .normal [(4, (.bool false))] M⟩⟩
theorem e3_12 (P : Program) (Q : Exit → Slots → Mem → Prop) (s : Slots) (M : Mem) : wpC P c3_12 Q s M = w3_12 P Q M (sget s 5) (sget s 6) (sget s 7) (sget s 8) := by kernel_rfl
def c3_13 : ACode := (.seq c3_12 .ret)
def c3_14 : ACode := (.seq c3_10 c3_13)
def c3_15 : ACode := (.seq c3_8 c3_14)
def c3_16 : ACode := (.seq c3_6 c3_15)
def c3_17 : ACode := (.seq c3_1 c3_16)
def fn_transitlaw17_TripChecks : AFn := ⟨46, [(.tmp 4)], c3_17⟩
theorem fn_transitlaw17_TripChecks_ok : resFn PR h_transitlaw17_TripChecks i_transitlaw17_TripChecks = some fn_transitlaw17_TripChecks := by kernel_rfl

def h_transitlaw17_TripFinds : Hints := ⟨[(0, [0, 1]), (1, [0, 1, 15]), (2, [4]), (3, [0, 1, 5, 6]), (4, [5, 6, 7]), (5, [5, 6, 7, 27]), (6, [4]), (7, [4])], [], []⟩
def o4_0 : List AOper := [⟨some 4, (.mov (.const (.bool false))), true, none⟩]
def c4_1 : ACode := (.region o4_0 [0, 1])
def w4_1 (_P : Program) (Q : Exit → Slots → Mem → Prop) (M : Mem) (v0 : V) (v1 : V) : Prop :=
  Q .normal [(0, v0), (1, v1)] M
theorem e4_1 (P : Program) (Q : Exit → Slots → Mem → Prop) (s : Slots) (M : Mem) : wpC P c4_1 Q s M = w4_1 P Q M (sget s 0) (sget s 1) := by kernel_rfl
def o4_2 : List AOper := [⟨some 16, (.call i_transitlaw17_exampleHolds []), true, none⟩,
  ⟨some 4, (.mov (.tmp 16)), true, none⟩]
def c4_3 : ACode := (.region o4_2 [4])
def w4_3 (P : Program) (Q : Exit → Slots → Mem → Prop) (M : Mem) : Prop :=
  @CallH P i_transitlaw17_exampleHolds [] M ⟨fun t16_1 M1 => @OptBH (some t16_1) ⟨fun b16_1 =>
  Q .normal [(4, (.bool b16_1))] M1⟩⟩
theorem e4_3 (P : Program) (Q : Exit → Slots → Mem → Prop) (s : Slots) (M : Mem) : wpC P c4_3 Q s M = w4_3 P Q M := by kernel_rfl
def c4_4 : ACode := (.seq c4_3 .ret)
def o4_5 : List AOper := [⟨some 8, (.mov (.tmp 0)), false, none⟩,
  ⟨some 9, (.call i_transitlaw17_table [(.tmp 8), (.const (.int .i64 60))]), true, none⟩,
  ⟨some 10, (.un .not (.tmp 9)), true, none⟩,
  ⟨some 11, (.mov (.tmp 10)), true, none⟩,
  ⟨some 12, (.mov (.tmp 1)), false, some (11, false)⟩,
  ⟨some 13, (.lenStr (.tmp 12)), false, some (11, false)⟩,
  ⟨some 14, (.bin .gtr .none (.tmp 13) (.const (.int .i64 1024))), true, some (11, false)⟩,
  ⟨some 15, (.pick (.tmp 11) (.const (.bool true)) (.tmp 14)), true, none⟩]
def c4_6 : ACode := (.seq (.region o4_5 [0, 1, 15]) (.cond (.tmp 15) c4_4 .skip))
def w4_6 (P : Program) (Q : Exit → Slots → Mem → Prop) (M : Mem) (v0 : V) (v1 : V) : Prop :=
  @CallH P i_transitlaw17_table [v0, (.int .i64 60)] M ⟨fun t9_2 M2 => @OptBH (some t9_2) ⟨fun b9_2 =>
  @OptBH (unV .not (.bool b9_2)) ⟨fun b10_3 =>
  @BIfH b10_3
  ⟨wpC P c4_4 Q [(0, v0), (1, v1), (15, (.bool true))] M2⟩
  ⟨@OptVH (lenStrV v1) ⟨fun t13_7 =>
  @OptBH (binV .gtr .none t13_7 (.int .i64 1024)) ⟨fun b14_8 =>
  @BIfH b14_8
  ⟨wpC P c4_4 Q [(0, v0), (1, v1), (15, (.bool b14_8))] M2⟩
  ⟨Q .normal [(0, v0), (1, v1), (15, (.bool b14_8))] M2⟩⟩⟩⟩⟩⟩⟩
theorem e4_6 (P : Program) (Q : Exit → Slots → Mem → Prop) (s : Slots) (M : Mem) : wpC P c4_6 Q s M = w4_6 P Q M (sget s 0) (sget s 1) := by kernel_rfl
def o4_7 : List AOper := [⟨some 18, (.mov (.tmp 0)), false, none⟩,
  ⟨some 19, (.mov (.tmp 1)), false, none⟩,
  ⟨some 20, (.call i_trip_Find [(.tmp 18), (.tmp 19)]), false, none⟩,
  ⟨some 17, (.mov (.tmp 20)), false, none⟩,
  ⟨some 21, (.extract (.tmp 17) 0), false, none⟩,
  ⟨some 22, (.extract (.tmp 17) 1), true, none⟩,
  ⟨some 5, (.mov (.tmp 21)), false, none⟩,
  ⟨some 6, (.mov (.tmp 22)), true, none⟩]
def c4_8 : ACode := (.region o4_7 [0, 1, 5, 6])
def w4_8 (P : Program) (Q : Exit → Slots → Mem → Prop) (M : Mem) (v0 : V) (v1 : V) : Prop :=
  @CallH P i_trip_Find [v0, v1] M ⟨fun t20_3 M3 =>
  @OptVH (extractV t20_3 0) ⟨fun t21_5 =>
  @OptBH (extractV t20_3 1) ⟨fun b22_6 =>
  Q .normal [(0, v0), (1, v1), (5, t21_5), (6, (.bool b22_6))] M3⟩⟩⟩
theorem e4_8 (P : Program) (Q : Exit → Slots → Mem → Prop) (s : Slots) (M : Mem) : wpC P c4_8 Q s M = w4_8 P Q M (sget s 0) (sget s 1) := by kernel_rfl
def o4_9 : List AOper := [⟨some 23, (.mov (.tmp 0)), false, none⟩,
  ⟨some 24, (.mov (.tmp 1)), false, none⟩,
  ⟨some 25, (.call i_transitref17_Find [(.tmp 23), (.tmp 24)]), false, none⟩,
  ⟨some 7, (.mov (.tmp 25)), false, none⟩]
def c4_10 : ACode := (.region o4_9 [5, 6, 7])
def w4_10 (P : Program) (Q : Exit → Slots → Mem → Prop) (M : Mem) (v0 : V) (v1 : V) (v5 : V) (v6 : V) : Prop :=
  @CallH P i_transitref17_Find [v0, v1] M ⟨fun t25_3 M3 =>
  Q .normal [(5, v5), (6, v6), (7, t25_3)] M3⟩
theorem e4_10 (P : Program) (Q : Exit → Slots → Mem → Prop) (s : Slots) (M : Mem) : wpC P c4_10 Q s M = w4_10 P Q M (sget s 0) (sget s 1) (sget s 5) (sget s 6) := by kernel_rfl
def o4_11 : List AOper := [⟨some 28, (.mov (.tmp 5)), false, none⟩,
  ⟨some 29, (.bin .eql .none (.tmp 28) (.const (.int .i64 0))), true, none⟩,
  ⟨some 30, (.mov (.tmp 29)), true, none⟩,
  ⟨some 31, (.mov (.tmp 6)), true, some (30, true)⟩,
  ⟨some 32, (.un .not (.tmp 31)), true, some (30, true)⟩,
  ⟨some 33, (.pick (.tmp 30) (.tmp 32) (.const (.bool false))), true, none⟩,
  ⟨some 34, (.mov (.tmp 33)), true, none⟩,
  ⟨some 35, (.call i_transitlaw17_exampleHolds []), true, some (34, true)⟩,
  ⟨some 36, (.pick (.tmp 34) (.tmp 35) (.const (.bool false))), true, none⟩,
  ⟨some 4, (.mov (.tmp 36)), true, none⟩]
def c4_12 : ACode := (.region o4_11 [4])
def w4_12 (P : Program) (Q : Exit → Slots → Mem → Prop) (M : Mem) (v5 : V) (v6 : V) : Prop :=
  @OptBH (binV .eql .none v5 (.int .i64 0)) ⟨fun b29_2 =>
  @BIfH b29_2
  ⟨@OptBH (some v6) ⟨fun b31_4 =>
  @OptBH (unV .not (.bool b31_4)) ⟨fun b32_5 =>
  @BIfH b32_5
  ⟨@CallH P i_transitlaw17_exampleHolds [] M ⟨fun t35_8 M8 => @OptBH (some t35_8) ⟨fun b35_8 =>
  Q .normal [(4, (.bool b35_8))] M8⟩⟩⟩
  ⟨Q .normal [(4, (.bool false))] M⟩⟩⟩⟩
  ⟨Q .normal [(4, (.bool false))] M⟩⟩
theorem e4_12 (P : Program) (Q : Exit → Slots → Mem → Prop) (s : Slots) (M : Mem) : wpC P c4_12 Q s M = w4_12 P Q M (sget s 5) (sget s 6) := by kernel_rfl
def c4_13 : ACode := (.seq c4_12 .ret)
def o4_14 : List AOper := [⟨some 26, (.mov (.tmp 7)), false, none⟩,
  ⟨some 27, (.bin .lss .none (.tmp 26) (.const (.int .i64 0))), true, none⟩]
def c4_15 : ACode := (.seq (.region o4_14 [5, 6, 7, 27]) (.cond (.tmp 27) c4_13 .skip))
def w4_15 (P : Program) (Q : Exit → Slots → Mem → Prop) (M : Mem) (v5 : V) (v6 : V) (v7 : V) : Prop :=
  @OptBH (binV .lss .none v7 (.int .i64 0)) ⟨fun b27_2 =>
  @BIfH b27_2
  ⟨wpC P c4_13 Q [(5, v5), (6, v6), (7, v7), (27, (.bool b27_2))] M⟩
  ⟨Q .normal [(5, v5), (6, v6), (7, v7), (27, (.bool b27_2))] M⟩⟩
theorem e4_15 (P : Program) (Q : Exit → Slots → Mem → Prop) (s : Slots) (M : Mem) : wpC P c4_15 Q s M = w4_15 P Q M (sget s 5) (sget s 6) (sget s 7) := by kernel_rfl
def o4_16 : List AOper := [⟨some 37, (.mov (.tmp 5)), false, none⟩,
  ⟨some 38, (.mov (.tmp 7)), false, none⟩,
  ⟨some 39, (.bin .eql .none (.tmp 37) (.tmp 38)), true, none⟩,
  ⟨some 40, (.mov (.tmp 39)), true, none⟩,
  ⟨some 41, (.mov (.tmp 6)), true, some (40, true)⟩,
  ⟨some 42, (.pick (.tmp 40) (.tmp 41) (.const (.bool false))), true, none⟩,
  ⟨some 43, (.mov (.tmp 42)), true, none⟩,
  ⟨some 44, (.call i_transitlaw17_exampleHolds []), true, some (43, true)⟩,
  ⟨some 45, (.pick (.tmp 43) (.tmp 44) (.const (.bool false))), true, none⟩,
  ⟨some 4, (.mov (.tmp 45)), true, none⟩]
def c4_17 : ACode := (.region o4_16 [4])
def w4_17 (P : Program) (Q : Exit → Slots → Mem → Prop) (M : Mem) (v5 : V) (v6 : V) (v7 : V) : Prop :=
  @OptBH (binV .eql .none v5 v7) ⟨fun b39_3 =>
  @BIfH b39_3
  ⟨@OptBH (some v6) ⟨fun b41_5 =>
  @BIfH b41_5
  ⟨@CallH P i_transitlaw17_exampleHolds [] M ⟨fun t44_8 M8 => @OptBH (some t44_8) ⟨fun b44_8 =>
  Q .normal [(4, (.bool b44_8))] M8⟩⟩⟩
  ⟨Q .normal [(4, (.bool false))] M⟩⟩⟩
  ⟨Q .normal [(4, (.bool false))] M⟩⟩
theorem e4_17 (P : Program) (Q : Exit → Slots → Mem → Prop) (s : Slots) (M : Mem) : wpC P c4_17 Q s M = w4_17 P Q M (sget s 5) (sget s 6) (sget s 7) := by kernel_rfl
def c4_18 : ACode := (.seq c4_17 .ret)
def c4_19 : ACode := (.seq c4_15 c4_18)
def c4_20 : ACode := (.seq c4_10 c4_19)
def c4_21 : ACode := (.seq c4_8 c4_20)
def c4_22 : ACode := (.seq c4_6 c4_21)
def c4_23 : ACode := (.seq c4_1 c4_22)
def fn_transitlaw17_TripFinds : AFn := ⟨46, [(.tmp 4)], c4_23⟩
theorem fn_transitlaw17_TripFinds_ok : resFn PR h_transitlaw17_TripFinds i_transitlaw17_TripFinds = some fn_transitlaw17_TripFinds := by kernel_rfl

def h_transitlaw17_TripPatterns : Hints := ⟨[(0, [2, 3]), (1, [2, 3, 14]), (2, [4]), (3, [2, 3, 5]), (4, [2, 3, 5, 23]), (5, [4]), (6, [2, 3, 5, 6]), (7, [2, 3, 5, 6, 27]), (8, [2, 3, 5, 6]), (9, [2, 3, 5, 6, 40]), (10, [4]), (11, [4])], [(7, [2, 3, 5, 6])], []⟩
def o5_0 : List AOper := [⟨some 2, (.box 5 (.tmp 0)), false, none⟩,
  ⟨some 3, (.box 5 (.tmp 1)), false, none⟩,
  ⟨some 4, (.mov (.const (.bool false))), true, none⟩]
def c5_1 : ACode := (.region o5_0 [2, 3])
def w5_1 (_P : Program) (Q : Exit → Slots → Mem → Prop) (M : Mem) (v0 : V) (v1 : V) : Prop :=
  @OptMH (boxV 5 v0 M) ⟨fun t2_1 M1 =>
  @OptMH (boxV 5 v1 M1) ⟨fun t3_2 M2 =>
  Q .normal [(2, t2_1), (3, t3_2)] M2⟩⟩
theorem e5_1 (P : Program) (Q : Exit → Slots → Mem → Prop) (s : Slots) (M : Mem) : wpC P c5_1 Q s M = w5_1 P Q M (sget s 0) (sget s 1) := by kernel_rfl
def o5_2 : List AOper := [⟨some 15, (.call i_transitlaw17_exampleHolds []), true, none⟩,
  ⟨some 4, (.mov (.tmp 15)), true, none⟩]
def c5_3 : ACode := (.region o5_2 [4])
def w5_3 (P : Program) (Q : Exit → Slots → Mem → Prop) (M : Mem) : Prop :=
  @CallH P i_transitlaw17_exampleHolds [] M ⟨fun t15_1 M1 => @OptBH (some t15_1) ⟨fun b15_1 =>
  Q .normal [(4, (.bool b15_1))] M1⟩⟩
theorem e5_3 (P : Program) (Q : Exit → Slots → Mem → Prop) (s : Slots) (M : Mem) : wpC P c5_3 Q s M = w5_3 P Q M := by kernel_rfl
def c5_4 : ACode := (.seq c5_3 .ret)
def o5_5 : List AOper := [⟨some 7, (.load 5 true (.tmp 2)), false, none⟩,
  ⟨some 8, (.call i_transitlaw17_small [(.tmp 7)]), true, none⟩,
  ⟨some 9, (.un .not (.tmp 8)), true, none⟩,
  ⟨some 10, (.mov (.tmp 9)), true, none⟩,
  ⟨some 11, (.load 5 true (.tmp 3)), false, some (10, false)⟩,
  ⟨some 12, (.call i_transitlaw17_small [(.tmp 11)]), true, some (10, false)⟩,
  ⟨some 13, (.un .not (.tmp 12)), true, some (10, false)⟩,
  ⟨some 14, (.pick (.tmp 10) (.const (.bool true)) (.tmp 13)), true, none⟩]
def c5_6 : ACode := (.seq (.region o5_5 [2, 3, 14]) (.cond (.tmp 14) c5_4 .skip))
def w5_6 (P : Program) (Q : Exit → Slots → Mem → Prop) (M : Mem) (v2 : V) (v3 : V) : Prop :=
  @OptVH (loadV 5 true v2 M) ⟨fun t7_1 =>
  @CallH P i_transitlaw17_small [t7_1] M ⟨fun t8_2 M2 => @OptBH (some t8_2) ⟨fun b8_2 =>
  @OptBH (unV .not (.bool b8_2)) ⟨fun b9_3 =>
  @BIfH b9_3
  ⟨wpC P c5_4 Q [(2, v2), (3, v3), (14, (.bool true))] M2⟩
  ⟨@OptVH (loadV 5 true v3 M2) ⟨fun t11_6 =>
  @CallH P i_transitlaw17_small [t11_6] M2 ⟨fun t12_7 M7 => @OptBH (some t12_7) ⟨fun b12_7 =>
  @OptBH (unV .not (.bool b12_7)) ⟨fun b13_8 =>
  @BIfH b13_8
  ⟨wpC P c5_4 Q [(2, v2), (3, v3), (14, (.bool b13_8))] M7⟩
  ⟨Q .normal [(2, v2), (3, v3), (14, (.bool b13_8))] M7⟩⟩⟩⟩⟩⟩⟩⟩⟩⟩
theorem e5_6 (P : Program) (Q : Exit → Slots → Mem → Prop) (s : Slots) (M : Mem) : wpC P c5_6 Q s M = w5_6 P Q M (sget s 2) (sget s 3) := by kernel_rfl
def o5_7 : List AOper := [⟨some 16, (.load 5 true (.tmp 2)), false, none⟩,
  ⟨some 17, (.call i_trip_Pattern [(.tmp 16)]), false, none⟩,
  ⟨some 5, (.mov (.tmp 17)), false, none⟩]
def c5_8 : ACode := (.region o5_7 [2, 3, 5])
def w5_8 (P : Program) (Q : Exit → Slots → Mem → Prop) (M : Mem) (v2 : V) (v3 : V) : Prop :=
  @OptVH (loadV 5 true v2 M) ⟨fun t16_1 =>
  @CallH P i_trip_Pattern [t16_1] M ⟨fun t17_2 M2 =>
  Q .normal [(2, v2), (3, v3), (5, t17_2)] M2⟩⟩
theorem e5_8 (P : Program) (Q : Exit → Slots → Mem → Prop) (s : Slots) (M : Mem) : wpC P c5_8 Q s M = w5_8 P Q M (sget s 2) (sget s 3) := by kernel_rfl
def o5_9 : List AOper := [⟨some 4, (.mov (.const (.bool false))), true, none⟩]
def c5_10 : ACode := (.region o5_9 [4])
def w5_10 (_P : Program) (Q : Exit → Slots → Mem → Prop) (M : Mem) : Prop :=
  Q .normal [(4, (.bool false))] M
theorem e5_10 (P : Program) (Q : Exit → Slots → Mem → Prop) (s : Slots) (M : Mem) : wpC P c5_10 Q s M = w5_10 P Q M := by kernel_rfl
def c5_11 : ACode := (.seq c5_10 .ret)
def o5_12 : List AOper := [⟨some 18, (.mov (.tmp 5)), false, none⟩,
  ⟨some 19, (.lenSl (.tmp 18)), false, none⟩,
  ⟨some 20, (.fieldAddr 4 (.tmp 2)), false, none⟩,
  ⟨some 21, (.load 1 false (.tmp 20)), false, none⟩,
  ⟨some 22, (.lenSl (.tmp 21)), false, none⟩,
  ⟨some 23, (.bin .neq .none (.tmp 19) (.tmp 22)), true, none⟩]
def c5_13 : ACode := (.seq (.region o5_12 [2, 3, 5, 23]) (.cond (.tmp 23) c5_11 .skip))
def w5_13 (P : Program) (Q : Exit → Slots → Mem → Prop) (M : Mem) (v2 : V) (v3 : V) (v5 : V) : Prop :=
  @OptVH (lenV v5 M) ⟨fun t19_2 =>
  @OptVH (moveV 4 v2) ⟨fun t20_3 =>
  @OptVH (loadV 1 false t20_3 M) ⟨fun t21_4 =>
  @OptVH (lenV t21_4 M) ⟨fun t22_5 =>
  @OptBH (binV .neq .none t19_2 t22_5) ⟨fun b23_6 =>
  @BIfH b23_6
  ⟨wpC P c5_11 Q [(2, v2), (3, v3), (5, v5), (23, (.bool b23_6))] M⟩
  ⟨Q .normal [(2, v2), (3, v3), (5, v5), (23, (.bool b23_6))] M⟩⟩⟩⟩⟩⟩
theorem e5_13 (P : Program) (Q : Exit → Slots → Mem → Prop) (s : Slots) (M : Mem) : wpC P c5_13 Q s M = w5_13 P Q M (sget s 2) (sget s 3) (sget s 5) := by kernel_rfl
def o5_14 : List AOper := [⟨some 6, (.mov (.const (.int .i64 0))), false, none⟩]
def c5_15 : ACode := (.region o5_14 [2, 3, 5, 6])
def w5_15 (_P : Program) (Q : Exit → Slots → Mem → Prop) (M : Mem) (v2 : V) (v3 : V) (v5 : V) : Prop :=
  Q .normal [(2, v2), (3, v3), (5, v5), (6, (.int .i64 0))] M
theorem e5_15 (P : Program) (Q : Exit → Slots → Mem → Prop) (s : Slots) (M : Mem) : wpC P c5_15 Q s M = w5_15 P Q M (sget s 2) (sget s 3) (sget s 5) := by kernel_rfl
def o5_16 : List AOper := [⟨some 24, (.mov (.tmp 6)), false, none⟩,
  ⟨some 25, (.mov (.tmp 5)), false, none⟩,
  ⟨some 26, (.lenSl (.tmp 25)), false, none⟩,
  ⟨some 27, (.bin .lss .none (.tmp 24) (.tmp 26)), true, none⟩]
def c5_17 : ACode := (.seq (.region o5_16 [2, 3, 5, 6, 27]) (.cond (.tmp 27) .skip (.exit 0)))
def w5_17 (_P : Program) (Q : Exit → Slots → Mem → Prop) (M : Mem) (v2 : V) (v3 : V) (v5 : V) (v6 : V) : Prop :=
  @OptVH (lenV v5 M) ⟨fun t26_3 =>
  @OptBH (binV .lss .none v6 t26_3) ⟨fun b27_4 =>
  @BIfH b27_4
  ⟨Q .normal [(2, v2), (3, v3), (5, v5), (6, v6), (27, (.bool b27_4))] M⟩
  ⟨Q (.exit 0) [(2, v2), (3, v3), (5, v5), (6, v6), (27, (.bool b27_4))] M⟩⟩⟩
theorem e5_17 (P : Program) (Q : Exit → Slots → Mem → Prop) (s : Slots) (M : Mem) : wpC P c5_17 Q s M = w5_17 P Q M (sget s 2) (sget s 3) (sget s 5) (sget s 6) := by kernel_rfl
def o5_18 : List AOper := [⟨some 4, (.mov (.const (.bool false))), true, none⟩]
def c5_19 : ACode := (.region o5_18 [4])
def w5_19 (_P : Program) (Q : Exit → Slots → Mem → Prop) (M : Mem) : Prop :=
  Q .normal [(4, (.bool false))] M
theorem e5_19 (P : Program) (Q : Exit → Slots → Mem → Prop) (s : Slots) (M : Mem) : wpC P c5_19 Q s M = w5_19 P Q M := by kernel_rfl
def c5_20 : ACode := (.seq c5_19 .ret)
def o5_21 : List AOper := [⟨some 30, (.mov (.tmp 5)), false, none⟩,
  ⟨some 31, (.mov (.tmp 6)), false, none⟩,
  ⟨some 32, (.indexSl 1 (.tmp 30) (.tmp 31)), false, none⟩,
  ⟨some 33, (.load 1 false (.tmp 32)), false, none⟩,
  ⟨some 34, (.fieldAddr 4 (.tmp 2)), false, none⟩,
  ⟨some 35, (.load 1 false (.tmp 34)), false, none⟩,
  ⟨some 36, (.mov (.tmp 6)), false, none⟩,
  ⟨some 37, (.indexSl 5 (.tmp 35) (.tmp 36)), false, none⟩,
  ⟨some 38, (.fieldAddr 0 (.tmp 37)), false, none⟩,
  ⟨some 39, (.load 1 false (.tmp 38)), false, none⟩,
  ⟨some 40, (.bin .neq .none (.tmp 33) (.tmp 39)), true, none⟩]
def c5_22 : ACode := (.seq (.mixed o5_21 [true, true, true, true, true, true, true, true, true, true, true] [2, 3, 5, 6, 40]) (.cond (.tmp 40) c5_20 .skip))
def w5_22 (P : Program) (Q : Exit → Slots → Mem → Prop) (M : Mem) (v2 : V) (v3 : V) (v5 : V) (v6 : V) : Prop :=
  @OptVH (indexSlV 1 v5 v6 M) ⟨fun t32_3 =>
  @OptVH (loadV 1 false t32_3 M) ⟨fun t33_4 =>
  @OptVH (moveV 4 v2) ⟨fun t34_5 =>
  @OptVH (loadV 1 false t34_5 M) ⟨fun t35_6 =>
  @OptVH (indexSlV 5 t35_6 v6 M) ⟨fun t37_8 =>
  @OptVH (moveV 0 t37_8) ⟨fun t38_9 =>
  @OptVH (loadV 1 false t38_9 M) ⟨fun t39_10 =>
  @OptBH (binV .neq .none t33_4 t39_10) ⟨fun b40_11 =>
  @BIfH b40_11
  ⟨wpC P c5_20 Q [(2, v2), (3, v3), (5, v5), (6, v6), (40, (.bool b40_11))] M⟩
  ⟨Q .normal [(2, v2), (3, v3), (5, v5), (6, v6), (40, (.bool b40_11))] M⟩⟩⟩⟩⟩⟩⟩⟩⟩
theorem e5_22 (P : Program) (Q : Exit → Slots → Mem → Prop) (s : Slots) (M : Mem) : wpC P c5_22 Q s M = w5_22 P Q M (sget s 2) (sget s 3) (sget s 5) (sget s 6) := by kernel_rfl
def c5_23 : ACode := (.block 1 c5_22)
def o5_24 : List AOper := [⟨some 28, (.mov (.tmp 6)), false, none⟩,
  ⟨some 29, (.bin .add .none (.tmp 28) (.const (.int .i64 1))), false, none⟩,
  ⟨some 6, (.mov (.tmp 29)), false, none⟩]
def c5_25 : ACode := (.region o5_24 [2, 3, 5, 6])
def w5_25 (_P : Program) (Q : Exit → Slots → Mem → Prop) (M : Mem) (v2 : V) (v3 : V) (v5 : V) (v6 : V) : Prop :=
  @OptVH (binV .add .none v6 (.int .i64 1)) ⟨fun t29_2 =>
  Q .normal [(2, v2), (3, v3), (5, v5), (6, t29_2)] M⟩
theorem e5_25 (P : Program) (Q : Exit → Slots → Mem → Prop) (s : Slots) (M : Mem) : wpC P c5_25 Q s M = w5_25 P Q M (sget s 2) (sget s 3) (sget s 5) (sget s 6) := by kernel_rfl
def c5_26 : ACode := (.seq c5_23 c5_25)
def c5_27 : ACode := (.seq c5_17 c5_26)
def c5_28 : ACode := (.loop [2, 3, 5, 6] c5_27)
def c5_29 : ACode := (.block 0 c5_28)
def c5_30 : ACode := (.seq c5_15 c5_29)
def o5_31 : List AOper := [⟨some 41, (.load 5 true (.tmp 2)), false, none⟩,
  ⟨some 42, (.load 5 true (.tmp 3)), false, none⟩,
  ⟨some 43, (.call i_trip_SamePattern [(.tmp 41), (.tmp 42)]), true, none⟩,
  ⟨some 44, (.load 5 true (.tmp 2)), false, none⟩,
  ⟨some 45, (.load 5 true (.tmp 3)), false, none⟩,
  ⟨some 46, (.call i_transitref17_SamePattern [(.tmp 44), (.tmp 45)]), true, none⟩,
  ⟨some 47, (.bin .eql .bool (.tmp 43) (.tmp 46)), true, none⟩,
  ⟨some 48, (.mov (.tmp 47)), true, none⟩,
  ⟨some 49, (.call i_transitlaw17_exampleHolds []), true, some (48, true)⟩,
  ⟨some 50, (.pick (.tmp 48) (.tmp 49) (.const (.bool false))), true, none⟩,
  ⟨some 4, (.mov (.tmp 50)), true, none⟩]
def c5_32 : ACode := (.mixed o5_31 [true, true, true, true, true, false, true, true, false, true, true] [4])
def w5_32 (P : Program) (Q : Exit → Slots → Mem → Prop) (M : Mem) (v2 : V) (v3 : V) : Prop :=
  @OptVH (loadV 5 true v2 M) ⟨fun t41_1 =>
  @OptVH (loadV 5 true v3 M) ⟨fun t42_2 =>
  @CallQ P i_trip_SamePattern [t41_1, t42_2] M ⟨fun t43_3 M3 => @OptBH (some t43_3) ⟨fun b43_3 =>
  @OptVH (loadV 5 true v2 M3) ⟨fun t44_4 =>
  @OptVH (loadV 5 true v3 M3) ⟨fun t45_5 =>
  @CallH P i_transitref17_SamePattern [t44_4, t45_5] M3 ⟨fun t46_6 M6 => @OptBH (some t46_6) ⟨fun b46_6 =>
  @OptBH (binV .eql .bool (.bool b43_3) (.bool b46_6)) ⟨fun b47_7 =>
  @BIfH b47_7
  ⟨@CallH P i_transitlaw17_exampleHolds [] M6 ⟨fun t49_9 M9 => @OptBH (some t49_9) ⟨fun b49_9 =>
  Q .normal [(4, (.bool b49_9))] M9⟩⟩⟩
  ⟨Q .normal [(4, (.bool false))] M6⟩⟩⟩⟩⟩⟩⟩⟩⟩⟩
theorem e5_32 (P : Program) (Q : Exit → Slots → Mem → Prop) (s : Slots) (M : Mem) : wpC P c5_32 Q s M = w5_32 P Q M (sget s 2) (sget s 3) := by kernel_rfl
def c5_33 : ACode := (.seq c5_32 .ret)
def c5_34 : ACode := (.seq c5_30 c5_33)
def c5_35 : ACode := (.seq c5_13 c5_34)
def c5_36 : ACode := (.seq c5_8 c5_35)
def c5_37 : ACode := (.seq c5_6 c5_36)
def c5_38 : ACode := (.seq c5_1 c5_37)
def fn_transitlaw17_TripPatterns : AFn := ⟨51, [(.tmp 4)], c5_38⟩
theorem fn_transitlaw17_TripPatterns_ok : resFn PR h_transitlaw17_TripPatterns i_transitlaw17_TripPatterns = some fn_transitlaw17_TripPatterns := by kernel_rfl

def h_transitlaw17_TripGroups : Hints := ⟨[(0, [0]), (1, [0, 9]), (2, [2]), (3, [0, 3]), (4, [0, 3, 4]), (5, [0, 3, 4, 5]), (6, [0, 3, 4, 5, 16]), (7, [0, 3, 4, 5]), (8, [0, 3, 4, 5, 6]), (9, [0, 3, 4, 5, 6, 24]), (10, [0, 3, 4, 5, 37]), (11, [2]), (12, [0, 3, 4, 5]), (13, [2])], [(6, [0, 3, 4, 5])], []⟩
def o6_0 : List AOper := [⟨some 2, (.mov (.const (.bool false))), true, none⟩]
def c6_1 : ACode := (.region o6_0 [0])
def w6_1 (_P : Program) (Q : Exit → Slots → Mem → Prop) (M : Mem) (v0 : V) : Prop :=
  Q .normal [(0, v0)] M
theorem e6_1 (P : Program) (Q : Exit → Slots → Mem → Prop) (s : Slots) (M : Mem) : wpC P c6_1 Q s M = w6_1 P Q M (sget s 0) := by kernel_rfl
def o6_2 : List AOper := [⟨some 10, (.call i_transitlaw17_exampleHolds []), true, none⟩,
  ⟨some 2, (.mov (.tmp 10)), true, none⟩]
def c6_3 : ACode := (.region o6_2 [2])
def w6_3 (P : Program) (Q : Exit → Slots → Mem → Prop) (M : Mem) : Prop :=
  @CallH P i_transitlaw17_exampleHolds [] M ⟨fun t10_1 M1 => @OptBH (some t10_1) ⟨fun b10_1 =>
  Q .normal [(2, (.bool b10_1))] M1⟩⟩
theorem e6_3 (P : Program) (Q : Exit → Slots → Mem → Prop) (s : Slots) (M : Mem) : wpC P c6_3 Q s M = w6_3 P Q M := by kernel_rfl
def c6_4 : ACode := (.seq c6_3 .ret)
def o6_5 : List AOper := [⟨some 7, (.mov (.tmp 0)), false, none⟩,
  ⟨some 8, (.call i_transitlaw17_table [(.tmp 7), (.const (.int .i64 40))]), true, none⟩,
  ⟨some 9, (.un .not (.tmp 8)), true, none⟩]
def c6_6 : ACode := (.seq (.region o6_5 [0, 9]) (.cond (.tmp 9) c6_4 .skip))
def w6_6 (P : Program) (Q : Exit → Slots → Mem → Prop) (M : Mem) (v0 : V) : Prop :=
  @CallH P i_transitlaw17_table [v0, (.int .i64 40)] M ⟨fun t8_2 M2 => @OptBH (some t8_2) ⟨fun b8_2 =>
  @OptBH (unV .not (.bool b8_2)) ⟨fun b9_3 =>
  @BIfH b9_3
  ⟨wpC P c6_4 Q [(0, v0), (9, (.bool b9_3))] M2⟩
  ⟨Q .normal [(0, v0), (9, (.bool b9_3))] M2⟩⟩⟩⟩
theorem e6_6 (P : Program) (Q : Exit → Slots → Mem → Prop) (s : Slots) (M : Mem) : wpC P c6_6 Q s M = w6_6 P Q M (sget s 0) := by kernel_rfl
def o6_7 : List AOper := [⟨some 11, (.mov (.tmp 0)), false, none⟩,
  ⟨some 12, (.call i_trip_Groups [(.tmp 11)]), false, none⟩,
  ⟨some 3, (.mov (.tmp 12)), false, none⟩]
def c6_8 : ACode := (.region o6_7 [0, 3])
def w6_8 (P : Program) (Q : Exit → Slots → Mem → Prop) (M : Mem) (v0 : V) : Prop :=
  @CallH P i_trip_Groups [v0] M ⟨fun t12_2 M2 =>
  Q .normal [(0, v0), (3, t12_2)] M2⟩
theorem e6_8 (P : Program) (Q : Exit → Slots → Mem → Prop) (s : Slots) (M : Mem) : wpC P c6_8 Q s M = w6_8 P Q M (sget s 0) := by kernel_rfl
def o6_9 : List AOper := [⟨some 4, (.mov (.const (.int .i64 0))), false, none⟩]
def c6_10 : ACode := (.region o6_9 [0, 3, 4])
def w6_10 (_P : Program) (Q : Exit → Slots → Mem → Prop) (M : Mem) (v0 : V) (v3 : V) : Prop :=
  Q .normal [(0, v0), (3, v3), (4, (.int .i64 0))] M
theorem e6_10 (P : Program) (Q : Exit → Slots → Mem → Prop) (s : Slots) (M : Mem) : wpC P c6_10 Q s M = w6_10 P Q M (sget s 0) (sget s 3) := by kernel_rfl
def o6_11 : List AOper := [⟨some 5, (.mov (.const (.int .i64 0))), false, none⟩]
def c6_12 : ACode := (.region o6_11 [0, 3, 4, 5])
def w6_12 (_P : Program) (Q : Exit → Slots → Mem → Prop) (M : Mem) (v0 : V) (v3 : V) (v4 : V) : Prop :=
  Q .normal [(0, v0), (3, v3), (4, v4), (5, (.int .i64 0))] M
theorem e6_12 (P : Program) (Q : Exit → Slots → Mem → Prop) (s : Slots) (M : Mem) : wpC P c6_12 Q s M = w6_12 P Q M (sget s 0) (sget s 3) (sget s 4) := by kernel_rfl
def o6_13 : List AOper := [⟨some 13, (.mov (.tmp 5)), false, none⟩,
  ⟨some 14, (.mov (.tmp 0)), false, none⟩,
  ⟨some 15, (.lenSl (.tmp 14)), false, none⟩,
  ⟨some 16, (.bin .lss .none (.tmp 13) (.tmp 15)), true, none⟩]
def c6_14 : ACode := (.seq (.region o6_13 [0, 3, 4, 5, 16]) (.cond (.tmp 16) .skip (.exit 0)))
def w6_14 (_P : Program) (Q : Exit → Slots → Mem → Prop) (M : Mem) (v0 : V) (v3 : V) (v4 : V) (v5 : V) : Prop :=
  @OptVH (lenV v0 M) ⟨fun t15_3 =>
  @OptBH (binV .lss .none v5 t15_3) ⟨fun b16_4 =>
  @BIfH b16_4
  ⟨Q .normal [(0, v0), (3, v3), (4, v4), (5, v5), (16, (.bool b16_4))] M⟩
  ⟨Q (.exit 0) [(0, v0), (3, v3), (4, v4), (5, v5), (16, (.bool b16_4))] M⟩⟩⟩
theorem e6_14 (P : Program) (Q : Exit → Slots → Mem → Prop) (s : Slots) (M : Mem) : wpC P c6_14 Q s M = w6_14 P Q M (sget s 0) (sget s 3) (sget s 4) (sget s 5) := by kernel_rfl
def o6_15 : List AOper := [⟨some 19, (.mov (.tmp 0)), false, none⟩,
  ⟨some 20, (.mov (.tmp 5)), false, none⟩,
  ⟨some 21, (.call i_transitref17_Group [(.tmp 19), (.tmp 20)]), false, none⟩,
  ⟨some 6, (.mov (.tmp 21)), false, none⟩]
def c6_16 : ACode := (.region o6_15 [0, 3, 4, 5, 6])
def w6_16 (P : Program) (Q : Exit → Slots → Mem → Prop) (M : Mem) (v0 : V) (v3 : V) (v4 : V) (v5 : V) : Prop :=
  @CallH P i_transitref17_Group [v0, v5] M ⟨fun t21_3 M3 =>
  Q .normal [(0, v0), (3, v3), (4, v4), (5, v5), (6, t21_3)] M3⟩
theorem e6_16 (P : Program) (Q : Exit → Slots → Mem → Prop) (s : Slots) (M : Mem) : wpC P c6_16 Q s M = w6_16 P Q M (sget s 0) (sget s 3) (sget s 4) (sget s 5) := by kernel_rfl
def o6_17 : List AOper := [⟨some 22, (.mov (.tmp 6)), false, none⟩,
  ⟨some 23, (.lenSl (.tmp 22)), false, none⟩,
  ⟨some 24, (.bin .eql .none (.tmp 23) (.const (.int .i64 0))), true, none⟩]
def c6_18 : ACode := (.seq (.region o6_17 [0, 3, 4, 5, 6, 24]) (.cond (.tmp 24) (.exit 1) .skip))
def w6_18 (_P : Program) (Q : Exit → Slots → Mem → Prop) (M : Mem) (v0 : V) (v3 : V) (v4 : V) (v5 : V) (v6 : V) : Prop :=
  @OptVH (lenV v6 M) ⟨fun t23_2 =>
  @OptBH (binV .eql .none t23_2 (.int .i64 0)) ⟨fun b24_3 =>
  @BIfH b24_3
  ⟨Q (.exit 1) [(0, v0), (3, v3), (4, v4), (5, v5), (6, v6), (24, (.bool b24_3))] M⟩
  ⟨Q .normal [(0, v0), (3, v3), (4, v4), (5, v5), (6, v6), (24, (.bool b24_3))] M⟩⟩⟩
theorem e6_18 (P : Program) (Q : Exit → Slots → Mem → Prop) (s : Slots) (M : Mem) : wpC P c6_18 Q s M = w6_18 P Q M (sget s 0) (sget s 3) (sget s 4) (sget s 5) (sget s 6) := by kernel_rfl
def o6_19 : List AOper := [⟨some 2, (.mov (.const (.bool false))), true, none⟩]
def c6_20 : ACode := (.region o6_19 [2])
def w6_20 (_P : Program) (Q : Exit → Slots → Mem → Prop) (M : Mem) : Prop :=
  Q .normal [(2, (.bool false))] M
theorem e6_20 (P : Program) (Q : Exit → Slots → Mem → Prop) (s : Slots) (M : Mem) : wpC P c6_20 Q s M = w6_20 P Q M := by kernel_rfl
def c6_21 : ACode := (.seq c6_20 .ret)
def o6_22 : List AOper := [⟨some 25, (.mov (.tmp 4)), false, none⟩,
  ⟨some 26, (.mov (.tmp 3)), false, none⟩,
  ⟨some 27, (.lenSl (.tmp 26)), false, none⟩,
  ⟨some 28, (.bin .geq .none (.tmp 25) (.tmp 27)), true, none⟩,
  ⟨some 29, (.mov (.tmp 28)), true, none⟩,
  ⟨some 30, (.mov (.tmp 3)), false, some (29, false)⟩,
  ⟨some 31, (.mov (.tmp 4)), false, some (29, false)⟩,
  ⟨some 32, (.indexSl 1 (.tmp 30) (.tmp 31)), false, some (29, false)⟩,
  ⟨some 33, (.load 1 false (.tmp 32)), false, some (29, false)⟩,
  ⟨some 34, (.mov (.tmp 6)), false, some (29, false)⟩,
  ⟨some 35, (.call i_transitlaw17_same [(.tmp 33), (.tmp 34)]), true, some (29, false)⟩,
  ⟨some 36, (.un .not (.tmp 35)), true, some (29, false)⟩,
  ⟨some 37, (.pick (.tmp 29) (.const (.bool true)) (.tmp 36)), true, none⟩]
def c6_23 : ACode := (.seq (.region o6_22 [0, 3, 4, 5, 37]) (.cond (.tmp 37) c6_21 .skip))
def w6_23 (P : Program) (Q : Exit → Slots → Mem → Prop) (M : Mem) (v0 : V) (v3 : V) (v4 : V) (v5 : V) (v6 : V) : Prop :=
  @OptVH (lenV v3 M) ⟨fun t27_3 =>
  @OptBH (binV .geq .none v4 t27_3) ⟨fun b28_4 =>
  @BIfH b28_4
  ⟨wpC P c6_21 Q [(0, v0), (3, v3), (4, v4), (5, v5), (37, (.bool true))] M⟩
  ⟨@OptVH (indexSlV 1 v3 v4 M) ⟨fun t32_9 =>
  @OptVH (loadV 1 false t32_9 M) ⟨fun t33_10 =>
  @CallH P i_transitlaw17_same [t33_10, v6] M ⟨fun t35_12 M12 => @OptBH (some t35_12) ⟨fun b35_12 =>
  @OptBH (unV .not (.bool b35_12)) ⟨fun b36_13 =>
  @BIfH b36_13
  ⟨wpC P c6_21 Q [(0, v0), (3, v3), (4, v4), (5, v5), (37, (.bool b36_13))] M12⟩
  ⟨Q .normal [(0, v0), (3, v3), (4, v4), (5, v5), (37, (.bool b36_13))] M12⟩⟩⟩⟩⟩⟩⟩⟩⟩
theorem e6_23 (P : Program) (Q : Exit → Slots → Mem → Prop) (s : Slots) (M : Mem) : wpC P c6_23 Q s M = w6_23 P Q M (sget s 0) (sget s 3) (sget s 4) (sget s 5) (sget s 6) := by kernel_rfl
def o6_24 : List AOper := [⟨some 38, (.mov (.tmp 4)), false, none⟩,
  ⟨some 39, (.bin .add .none (.tmp 38) (.const (.int .i64 1))), false, none⟩,
  ⟨some 4, (.mov (.tmp 39)), false, none⟩]
def c6_25 : ACode := (.region o6_24 [0, 3, 4, 5])
def w6_25 (_P : Program) (Q : Exit → Slots → Mem → Prop) (M : Mem) (v0 : V) (v3 : V) (v4 : V) (v5 : V) : Prop :=
  @OptVH (binV .add .none v4 (.int .i64 1)) ⟨fun t39_2 =>
  Q .normal [(0, v0), (3, v3), (4, t39_2), (5, v5)] M⟩
theorem e6_25 (P : Program) (Q : Exit → Slots → Mem → Prop) (s : Slots) (M : Mem) : wpC P c6_25 Q s M = w6_25 P Q M (sget s 0) (sget s 3) (sget s 4) (sget s 5) := by kernel_rfl
def c6_26 : ACode := (.seq c6_23 c6_25)
def c6_27 : ACode := (.seq c6_18 c6_26)
def c6_28 : ACode := (.seq c6_16 c6_27)
def c6_29 : ACode := (.block 1 c6_28)
def o6_30 : List AOper := [⟨some 17, (.mov (.tmp 5)), false, none⟩,
  ⟨some 18, (.bin .add .none (.tmp 17) (.const (.int .i64 1))), false, none⟩,
  ⟨some 5, (.mov (.tmp 18)), false, none⟩]
def c6_31 : ACode := (.region o6_30 [0, 3, 4, 5])
def w6_31 (_P : Program) (Q : Exit → Slots → Mem → Prop) (M : Mem) (v0 : V) (v3 : V) (v4 : V) (v5 : V) : Prop :=
  @OptVH (binV .add .none v5 (.int .i64 1)) ⟨fun t18_2 =>
  Q .normal [(0, v0), (3, v3), (4, v4), (5, t18_2)] M⟩
theorem e6_31 (P : Program) (Q : Exit → Slots → Mem → Prop) (s : Slots) (M : Mem) : wpC P c6_31 Q s M = w6_31 P Q M (sget s 0) (sget s 3) (sget s 4) (sget s 5) := by kernel_rfl
def c6_32 : ACode := (.seq c6_29 c6_31)
def c6_33 : ACode := (.seq c6_14 c6_32)
def c6_34 : ACode := (.loop [0, 3, 4, 5] c6_33)
def c6_35 : ACode := (.block 0 c6_34)
def c6_36 : ACode := (.seq c6_12 c6_35)
def o6_37 : List AOper := [⟨some 40, (.mov (.tmp 4)), false, none⟩,
  ⟨some 41, (.mov (.tmp 3)), false, none⟩,
  ⟨some 42, (.lenSl (.tmp 41)), false, none⟩,
  ⟨some 43, (.bin .eql .none (.tmp 40) (.tmp 42)), true, none⟩,
  ⟨some 44, (.mov (.tmp 43)), true, none⟩,
  ⟨some 45, (.call i_transitlaw17_exampleHolds []), true, some (44, true)⟩,
  ⟨some 46, (.pick (.tmp 44) (.tmp 45) (.const (.bool false))), true, none⟩,
  ⟨some 2, (.mov (.tmp 46)), true, none⟩]
def c6_38 : ACode := (.region o6_37 [2])
def w6_38 (P : Program) (Q : Exit → Slots → Mem → Prop) (M : Mem) (v3 : V) (v4 : V) : Prop :=
  @OptVH (lenV v3 M) ⟨fun t42_3 =>
  @OptBH (binV .eql .none v4 t42_3) ⟨fun b43_4 =>
  @BIfH b43_4
  ⟨@CallH P i_transitlaw17_exampleHolds [] M ⟨fun t45_6 M6 => @OptBH (some t45_6) ⟨fun b45_6 =>
  Q .normal [(2, (.bool b45_6))] M6⟩⟩⟩
  ⟨Q .normal [(2, (.bool false))] M⟩⟩⟩
theorem e6_38 (P : Program) (Q : Exit → Slots → Mem → Prop) (s : Slots) (M : Mem) : wpC P c6_38 Q s M = w6_38 P Q M (sget s 3) (sget s 4) := by kernel_rfl
def c6_39 : ACode := (.seq c6_38 .ret)
def c6_40 : ACode := (.seq c6_36 c6_39)
def c6_41 : ACode := (.seq c6_10 c6_40)
def c6_42 : ACode := (.seq c6_8 c6_41)
def c6_43 : ACode := (.seq c6_6 c6_42)
def c6_44 : ACode := (.seq c6_1 c6_43)
def fn_transitlaw17_TripGroups : AFn := ⟨47, [(.tmp 2)], c6_44⟩
theorem fn_transitlaw17_TripGroups_ok : resFn PR h_transitlaw17_TripGroups i_transitlaw17_TripGroups = some fn_transitlaw17_TripGroups := by kernel_rfl

def h_transitlaw17_TripOvertakes : Hints := ⟨[(0, [2, 3]), (1, [2, 3, 12]), (2, [4]), (3, [4])], [], []⟩
def o7_0 : List AOper := [⟨some 2, (.box 5 (.tmp 0)), false, none⟩,
  ⟨some 3, (.box 5 (.tmp 1)), false, none⟩,
  ⟨some 4, (.mov (.const (.bool false))), true, none⟩]
def c7_1 : ACode := (.region o7_0 [2, 3])
def w7_1 (_P : Program) (Q : Exit → Slots → Mem → Prop) (M : Mem) (v0 : V) (v1 : V) : Prop :=
  @OptMH (boxV 5 v0 M) ⟨fun t2_1 M1 =>
  @OptMH (boxV 5 v1 M1) ⟨fun t3_2 M2 =>
  Q .normal [(2, t2_1), (3, t3_2)] M2⟩⟩
theorem e7_1 (P : Program) (Q : Exit → Slots → Mem → Prop) (s : Slots) (M : Mem) : wpC P c7_1 Q s M = w7_1 P Q M (sget s 0) (sget s 1) := by kernel_rfl
def o7_2 : List AOper := [⟨some 13, (.call i_transitlaw17_exampleHolds []), true, none⟩,
  ⟨some 4, (.mov (.tmp 13)), true, none⟩]
def c7_3 : ACode := (.region o7_2 [4])
def w7_3 (P : Program) (Q : Exit → Slots → Mem → Prop) (M : Mem) : Prop :=
  @CallH P i_transitlaw17_exampleHolds [] M ⟨fun t13_1 M1 => @OptBH (some t13_1) ⟨fun b13_1 =>
  Q .normal [(4, (.bool b13_1))] M1⟩⟩
theorem e7_3 (P : Program) (Q : Exit → Slots → Mem → Prop) (s : Slots) (M : Mem) : wpC P c7_3 Q s M = w7_3 P Q M := by kernel_rfl
def c7_4 : ACode := (.seq c7_3 .ret)
def o7_5 : List AOper := [⟨some 5, (.load 5 true (.tmp 2)), false, none⟩,
  ⟨some 6, (.call i_transitlaw17_small [(.tmp 5)]), true, none⟩,
  ⟨some 7, (.un .not (.tmp 6)), true, none⟩,
  ⟨some 8, (.mov (.tmp 7)), true, none⟩,
  ⟨some 9, (.load 5 true (.tmp 3)), false, some (8, false)⟩,
  ⟨some 10, (.call i_transitlaw17_small [(.tmp 9)]), true, some (8, false)⟩,
  ⟨some 11, (.un .not (.tmp 10)), true, some (8, false)⟩,
  ⟨some 12, (.pick (.tmp 8) (.const (.bool true)) (.tmp 11)), true, none⟩]
def c7_6 : ACode := (.seq (.region o7_5 [2, 3, 12]) (.cond (.tmp 12) c7_4 .skip))
def w7_6 (P : Program) (Q : Exit → Slots → Mem → Prop) (M : Mem) (v2 : V) (v3 : V) : Prop :=
  @OptVH (loadV 5 true v2 M) ⟨fun t5_1 =>
  @CallH P i_transitlaw17_small [t5_1] M ⟨fun t6_2 M2 => @OptBH (some t6_2) ⟨fun b6_2 =>
  @OptBH (unV .not (.bool b6_2)) ⟨fun b7_3 =>
  @BIfH b7_3
  ⟨wpC P c7_4 Q [(2, v2), (3, v3), (12, (.bool true))] M2⟩
  ⟨@OptVH (loadV 5 true v3 M2) ⟨fun t9_6 =>
  @CallH P i_transitlaw17_small [t9_6] M2 ⟨fun t10_7 M7 => @OptBH (some t10_7) ⟨fun b10_7 =>
  @OptBH (unV .not (.bool b10_7)) ⟨fun b11_8 =>
  @BIfH b11_8
  ⟨wpC P c7_4 Q [(2, v2), (3, v3), (12, (.bool b11_8))] M7⟩
  ⟨Q .normal [(2, v2), (3, v3), (12, (.bool b11_8))] M7⟩⟩⟩⟩⟩⟩⟩⟩⟩⟩
theorem e7_6 (P : Program) (Q : Exit → Slots → Mem → Prop) (s : Slots) (M : Mem) : wpC P c7_6 Q s M = w7_6 P Q M (sget s 2) (sget s 3) := by kernel_rfl
def o7_7 : List AOper := [⟨some 14, (.load 5 true (.tmp 2)), false, none⟩,
  ⟨some 15, (.load 5 true (.tmp 3)), false, none⟩,
  ⟨some 16, (.call i_trip_Overtakes [(.tmp 14), (.tmp 15)]), true, none⟩,
  ⟨some 17, (.load 5 true (.tmp 2)), false, none⟩,
  ⟨some 18, (.load 5 true (.tmp 3)), false, none⟩,
  ⟨some 19, (.call i_transitref17_Overtakes [(.tmp 17), (.tmp 18)]), true, none⟩,
  ⟨some 20, (.bin .eql .bool (.tmp 16) (.tmp 19)), true, none⟩,
  ⟨some 21, (.mov (.tmp 20)), true, none⟩,
  ⟨some 22, (.call i_transitlaw17_exampleHolds []), true, some (21, true)⟩,
  ⟨some 23, (.pick (.tmp 21) (.tmp 22) (.const (.bool false))), true, none⟩,
  ⟨some 4, (.mov (.tmp 23)), true, none⟩]
def c7_8 : ACode := (.mixed o7_7 [true, true, true, true, true, false, true, true, false, true, true] [4])
def w7_8 (P : Program) (Q : Exit → Slots → Mem → Prop) (M : Mem) (v2 : V) (v3 : V) : Prop :=
  @OptVH (loadV 5 true v2 M) ⟨fun t14_1 =>
  @OptVH (loadV 5 true v3 M) ⟨fun t15_2 =>
  @CallQ P i_trip_Overtakes [t14_1, t15_2] M ⟨fun t16_3 M3 => @OptBH (some t16_3) ⟨fun b16_3 =>
  @OptVH (loadV 5 true v2 M3) ⟨fun t17_4 =>
  @OptVH (loadV 5 true v3 M3) ⟨fun t18_5 =>
  @CallH P i_transitref17_Overtakes [t17_4, t18_5] M3 ⟨fun t19_6 M6 => @OptBH (some t19_6) ⟨fun b19_6 =>
  @OptBH (binV .eql .bool (.bool b16_3) (.bool b19_6)) ⟨fun b20_7 =>
  @BIfH b20_7
  ⟨@CallH P i_transitlaw17_exampleHolds [] M6 ⟨fun t22_9 M9 => @OptBH (some t22_9) ⟨fun b22_9 =>
  Q .normal [(4, (.bool b22_9))] M9⟩⟩⟩
  ⟨Q .normal [(4, (.bool false))] M6⟩⟩⟩⟩⟩⟩⟩⟩⟩⟩
theorem e7_8 (P : Program) (Q : Exit → Slots → Mem → Prop) (s : Slots) (M : Mem) : wpC P c7_8 Q s M = w7_8 P Q M (sget s 2) (sget s 3) := by kernel_rfl
def c7_9 : ACode := (.seq c7_8 .ret)
def c7_10 : ACode := (.seq c7_6 c7_9)
def c7_11 : ACode := (.seq c7_1 c7_10)
def fn_transitlaw17_TripOvertakes : AFn := ⟨24, [(.tmp 4)], c7_11⟩
theorem fn_transitlaw17_TripOvertakes_ok : resFn PR h_transitlaw17_TripOvertakes i_transitlaw17_TripOvertakes = some fn_transitlaw17_TripOvertakes := by kernel_rfl

def h_transitlaw17_TripConnects : Hints := ⟨[(0, [0, 1, 2]), (1, [0, 1, 2, 12]), (2, [6]), (3, [0, 1, 2, 7]), (4, [0, 1, 2, 7, 8]), (5, [0, 1, 2, 7, 8, 9]), (6, [0, 1, 2, 7, 8, 9, 21]), (7, [0, 1, 2, 7, 8, 9]), (8, [0, 1, 2, 7, 8, 9, 31]), (9, [0, 1, 2, 7, 8, 9, 43]), (10, [6]), (11, [0, 1, 2, 7, 8, 9]), (12, [6])], [(6, [0, 1, 2, 7, 8, 9])], []⟩
def o8_0 : List AOper := [⟨some 6, (.mov (.const (.bool false))), true, none⟩]
def c8_1 : ACode := (.region o8_0 [0, 1, 2])
def w8_1 (_P : Program) (Q : Exit → Slots → Mem → Prop) (M : Mem) (v0 : V) (v1 : V) (v2 : V) : Prop :=
  Q .normal [(0, v0), (1, v1), (2, v2)] M
theorem e8_1 (P : Program) (Q : Exit → Slots → Mem → Prop) (s : Slots) (M : Mem) : wpC P c8_1 Q s M = w8_1 P Q M (sget s 0) (sget s 1) (sget s 2) := by kernel_rfl
def o8_2 : List AOper := [⟨some 13, (.call i_transitlaw17_exampleHolds []), true, none⟩,
  ⟨some 6, (.mov (.tmp 13)), true, none⟩]
def c8_3 : ACode := (.region o8_2 [6])
def w8_3 (P : Program) (Q : Exit → Slots → Mem → Prop) (M : Mem) : Prop :=
  @CallH P i_transitlaw17_exampleHolds [] M ⟨fun t13_1 M1 => @OptBH (some t13_1) ⟨fun b13_1 =>
  Q .normal [(6, (.bool b13_1))] M1⟩⟩
theorem e8_3 (P : Program) (Q : Exit → Slots → Mem → Prop) (s : Slots) (M : Mem) : wpC P c8_3 Q s M = w8_3 P Q M := by kernel_rfl
def c8_4 : ACode := (.seq c8_3 .ret)
def o8_5 : List AOper := [⟨some 10, (.mov (.tmp 0)), false, none⟩,
  ⟨some 11, (.call i_transitlaw17_table [(.tmp 10), (.const (.int .i64 40))]), true, none⟩,
  ⟨some 12, (.un .not (.tmp 11)), true, none⟩]
def c8_6 : ACode := (.seq (.region o8_5 [0, 1, 2, 12]) (.cond (.tmp 12) c8_4 .skip))
def w8_6 (P : Program) (Q : Exit → Slots → Mem → Prop) (M : Mem) (v0 : V) (v1 : V) (v2 : V) : Prop :=
  @CallH P i_transitlaw17_table [v0, (.int .i64 40)] M ⟨fun t11_2 M2 => @OptBH (some t11_2) ⟨fun b11_2 =>
  @OptBH (unV .not (.bool b11_2)) ⟨fun b12_3 =>
  @BIfH b12_3
  ⟨wpC P c8_4 Q [(0, v0), (1, v1), (2, v2), (12, (.bool b12_3))] M2⟩
  ⟨Q .normal [(0, v0), (1, v1), (2, v2), (12, (.bool b12_3))] M2⟩⟩⟩⟩
theorem e8_6 (P : Program) (Q : Exit → Slots → Mem → Prop) (s : Slots) (M : Mem) : wpC P c8_6 Q s M = w8_6 P Q M (sget s 0) (sget s 1) (sget s 2) := by kernel_rfl
def o8_7 : List AOper := [⟨some 14, (.mov (.tmp 0)), false, none⟩,
  ⟨some 15, (.mov (.tmp 1)), false, none⟩,
  ⟨some 16, (.mov (.tmp 2)), false, none⟩,
  ⟨some 17, (.call i_trip_Between [(.tmp 14), (.tmp 15), (.tmp 16)]), false, none⟩,
  ⟨some 7, (.mov (.tmp 17)), false, none⟩]
def c8_8 : ACode := (.region o8_7 [0, 1, 2, 7])
def w8_8 (P : Program) (Q : Exit → Slots → Mem → Prop) (M : Mem) (v0 : V) (v1 : V) (v2 : V) : Prop :=
  @CallH P i_trip_Between [v0, v1, v2] M ⟨fun t17_4 M4 =>
  Q .normal [(0, v0), (1, v1), (2, v2), (7, t17_4)] M4⟩
theorem e8_8 (P : Program) (Q : Exit → Slots → Mem → Prop) (s : Slots) (M : Mem) : wpC P c8_8 Q s M = w8_8 P Q M (sget s 0) (sget s 1) (sget s 2) := by kernel_rfl
def o8_9 : List AOper := [⟨some 8, (.mov (.const (.int .i64 0))), false, none⟩]
def c8_10 : ACode := (.region o8_9 [0, 1, 2, 7, 8])
def w8_10 (_P : Program) (Q : Exit → Slots → Mem → Prop) (M : Mem) (v0 : V) (v1 : V) (v2 : V) (v7 : V) : Prop :=
  Q .normal [(0, v0), (1, v1), (2, v2), (7, v7), (8, (.int .i64 0))] M
theorem e8_10 (P : Program) (Q : Exit → Slots → Mem → Prop) (s : Slots) (M : Mem) : wpC P c8_10 Q s M = w8_10 P Q M (sget s 0) (sget s 1) (sget s 2) (sget s 7) := by kernel_rfl
def o8_11 : List AOper := [⟨some 9, (.mov (.const (.int .i64 0))), false, none⟩]
def c8_12 : ACode := (.region o8_11 [0, 1, 2, 7, 8, 9])
def w8_12 (_P : Program) (Q : Exit → Slots → Mem → Prop) (M : Mem) (v0 : V) (v1 : V) (v2 : V) (v7 : V) (v8 : V) : Prop :=
  Q .normal [(0, v0), (1, v1), (2, v2), (7, v7), (8, v8), (9, (.int .i64 0))] M
theorem e8_12 (P : Program) (Q : Exit → Slots → Mem → Prop) (s : Slots) (M : Mem) : wpC P c8_12 Q s M = w8_12 P Q M (sget s 0) (sget s 1) (sget s 2) (sget s 7) (sget s 8) := by kernel_rfl
def o8_13 : List AOper := [⟨some 18, (.mov (.tmp 9)), false, none⟩,
  ⟨some 19, (.mov (.tmp 0)), false, none⟩,
  ⟨some 20, (.lenSl (.tmp 19)), false, none⟩,
  ⟨some 21, (.bin .lss .none (.tmp 18) (.tmp 20)), true, none⟩]
def c8_14 : ACode := (.seq (.region o8_13 [0, 1, 2, 7, 8, 9, 21]) (.cond (.tmp 21) .skip (.exit 0)))
def w8_14 (_P : Program) (Q : Exit → Slots → Mem → Prop) (M : Mem) (v0 : V) (v1 : V) (v2 : V) (v7 : V) (v8 : V) (v9 : V) : Prop :=
  @OptVH (lenV v0 M) ⟨fun t20_3 =>
  @OptBH (binV .lss .none v9 t20_3) ⟨fun b21_4 =>
  @BIfH b21_4
  ⟨Q .normal [(0, v0), (1, v1), (2, v2), (7, v7), (8, v8), (9, v9), (21, (.bool b21_4))] M⟩
  ⟨Q (.exit 0) [(0, v0), (1, v1), (2, v2), (7, v7), (8, v8), (9, v9), (21, (.bool b21_4))] M⟩⟩⟩
theorem e8_14 (P : Program) (Q : Exit → Slots → Mem → Prop) (s : Slots) (M : Mem) : wpC P c8_14 Q s M = w8_14 P Q M (sget s 0) (sget s 1) (sget s 2) (sget s 7) (sget s 8) (sget s 9) := by kernel_rfl
def o8_15 : List AOper := [⟨some 24, (.mov (.tmp 0)), false, none⟩,
  ⟨some 25, (.mov (.tmp 9)), false, none⟩,
  ⟨some 26, (.indexSl 5 (.tmp 24) (.tmp 25)), false, none⟩,
  ⟨some 27, (.load 5 true (.tmp 26)), false, none⟩,
  ⟨some 28, (.mov (.tmp 1)), false, none⟩,
  ⟨some 29, (.mov (.tmp 2)), false, none⟩,
  ⟨some 30, (.call i_transitref17_Connects [(.tmp 27), (.tmp 28), (.tmp 29)]), true, none⟩,
  ⟨some 31, (.un .not (.tmp 30)), true, none⟩]
def c8_16 : ACode := (.seq (.region o8_15 [0, 1, 2, 7, 8, 9, 31]) (.cond (.tmp 31) (.exit 1) .skip))
def w8_16 (P : Program) (Q : Exit → Slots → Mem → Prop) (M : Mem) (v0 : V) (v1 : V) (v2 : V) (v7 : V) (v8 : V) (v9 : V) : Prop :=
  @OptVH (indexSlV 5 v0 v9 M) ⟨fun t26_3 =>
  @OptVH (loadV 5 true t26_3 M) ⟨fun t27_4 =>
  @CallH P i_transitref17_Connects [t27_4, v1, v2] M ⟨fun t30_7 M7 => @OptBH (some t30_7) ⟨fun b30_7 =>
  @OptBH (unV .not (.bool b30_7)) ⟨fun b31_8 =>
  @BIfH b31_8
  ⟨Q (.exit 1) [(0, v0), (1, v1), (2, v2), (7, v7), (8, v8), (9, v9), (31, (.bool b31_8))] M7⟩
  ⟨Q .normal [(0, v0), (1, v1), (2, v2), (7, v7), (8, v8), (9, v9), (31, (.bool b31_8))] M7⟩⟩⟩⟩⟩⟩
theorem e8_16 (P : Program) (Q : Exit → Slots → Mem → Prop) (s : Slots) (M : Mem) : wpC P c8_16 Q s M = w8_16 P Q M (sget s 0) (sget s 1) (sget s 2) (sget s 7) (sget s 8) (sget s 9) := by kernel_rfl
def o8_17 : List AOper := [⟨some 6, (.mov (.const (.bool false))), true, none⟩]
def c8_18 : ACode := (.region o8_17 [6])
def w8_18 (_P : Program) (Q : Exit → Slots → Mem → Prop) (M : Mem) : Prop :=
  Q .normal [(6, (.bool false))] M
theorem e8_18 (P : Program) (Q : Exit → Slots → Mem → Prop) (s : Slots) (M : Mem) : wpC P c8_18 Q s M = w8_18 P Q M := by kernel_rfl
def c8_19 : ACode := (.seq c8_18 .ret)
def o8_20 : List AOper := [⟨some 32, (.mov (.tmp 8)), false, none⟩,
  ⟨some 33, (.mov (.tmp 7)), false, none⟩,
  ⟨some 34, (.lenSl (.tmp 33)), false, none⟩,
  ⟨some 35, (.bin .geq .none (.tmp 32) (.tmp 34)), true, none⟩,
  ⟨some 36, (.mov (.tmp 35)), true, none⟩,
  ⟨some 37, (.mov (.tmp 7)), false, some (36, false)⟩,
  ⟨some 38, (.mov (.tmp 8)), false, some (36, false)⟩,
  ⟨some 39, (.indexSl 1 (.tmp 37) (.tmp 38)), false, some (36, false)⟩,
  ⟨some 40, (.load 1 false (.tmp 39)), false, some (36, false)⟩,
  ⟨some 41, (.mov (.tmp 9)), false, some (36, false)⟩,
  ⟨some 42, (.bin .neq .none (.tmp 40) (.tmp 41)), true, some (36, false)⟩,
  ⟨some 43, (.pick (.tmp 36) (.const (.bool true)) (.tmp 42)), true, none⟩]
def c8_21 : ACode := (.seq (.region o8_20 [0, 1, 2, 7, 8, 9, 43]) (.cond (.tmp 43) c8_19 .skip))
def w8_21 (P : Program) (Q : Exit → Slots → Mem → Prop) (M : Mem) (v0 : V) (v1 : V) (v2 : V) (v7 : V) (v8 : V) (v9 : V) : Prop :=
  @OptVH (lenV v7 M) ⟨fun t34_3 =>
  @OptBH (binV .geq .none v8 t34_3) ⟨fun b35_4 =>
  @BIfH b35_4
  ⟨wpC P c8_19 Q [(0, v0), (1, v1), (2, v2), (7, v7), (8, v8), (9, v9), (43, (.bool true))] M⟩
  ⟨@OptVH (indexSlV 1 v7 v8 M) ⟨fun t39_9 =>
  @OptVH (loadV 1 false t39_9 M) ⟨fun t40_10 =>
  @OptBH (binV .neq .none t40_10 v9) ⟨fun b42_12 =>
  @BIfH b42_12
  ⟨wpC P c8_19 Q [(0, v0), (1, v1), (2, v2), (7, v7), (8, v8), (9, v9), (43, (.bool b42_12))] M⟩
  ⟨Q .normal [(0, v0), (1, v1), (2, v2), (7, v7), (8, v8), (9, v9), (43, (.bool b42_12))] M⟩⟩⟩⟩⟩⟩⟩
theorem e8_21 (P : Program) (Q : Exit → Slots → Mem → Prop) (s : Slots) (M : Mem) : wpC P c8_21 Q s M = w8_21 P Q M (sget s 0) (sget s 1) (sget s 2) (sget s 7) (sget s 8) (sget s 9) := by kernel_rfl
def o8_22 : List AOper := [⟨some 44, (.mov (.tmp 8)), false, none⟩,
  ⟨some 45, (.bin .add .none (.tmp 44) (.const (.int .i64 1))), false, none⟩,
  ⟨some 8, (.mov (.tmp 45)), false, none⟩]
def c8_23 : ACode := (.region o8_22 [0, 1, 2, 7, 8, 9])
def w8_23 (_P : Program) (Q : Exit → Slots → Mem → Prop) (M : Mem) (v0 : V) (v1 : V) (v2 : V) (v7 : V) (v8 : V) (v9 : V) : Prop :=
  @OptVH (binV .add .none v8 (.int .i64 1)) ⟨fun t45_2 =>
  Q .normal [(0, v0), (1, v1), (2, v2), (7, v7), (8, t45_2), (9, v9)] M⟩
theorem e8_23 (P : Program) (Q : Exit → Slots → Mem → Prop) (s : Slots) (M : Mem) : wpC P c8_23 Q s M = w8_23 P Q M (sget s 0) (sget s 1) (sget s 2) (sget s 7) (sget s 8) (sget s 9) := by kernel_rfl
def c8_24 : ACode := (.seq c8_21 c8_23)
def c8_25 : ACode := (.seq c8_16 c8_24)
def c8_26 : ACode := (.block 1 c8_25)
def o8_27 : List AOper := [⟨some 22, (.mov (.tmp 9)), false, none⟩,
  ⟨some 23, (.bin .add .none (.tmp 22) (.const (.int .i64 1))), false, none⟩,
  ⟨some 9, (.mov (.tmp 23)), false, none⟩]
def c8_28 : ACode := (.region o8_27 [0, 1, 2, 7, 8, 9])
def w8_28 (_P : Program) (Q : Exit → Slots → Mem → Prop) (M : Mem) (v0 : V) (v1 : V) (v2 : V) (v7 : V) (v8 : V) (v9 : V) : Prop :=
  @OptVH (binV .add .none v9 (.int .i64 1)) ⟨fun t23_2 =>
  Q .normal [(0, v0), (1, v1), (2, v2), (7, v7), (8, v8), (9, t23_2)] M⟩
theorem e8_28 (P : Program) (Q : Exit → Slots → Mem → Prop) (s : Slots) (M : Mem) : wpC P c8_28 Q s M = w8_28 P Q M (sget s 0) (sget s 1) (sget s 2) (sget s 7) (sget s 8) (sget s 9) := by kernel_rfl
def c8_29 : ACode := (.seq c8_26 c8_28)
def c8_30 : ACode := (.seq c8_14 c8_29)
def c8_31 : ACode := (.loop [0, 1, 2, 7, 8, 9] c8_30)
def c8_32 : ACode := (.block 0 c8_31)
def c8_33 : ACode := (.seq c8_12 c8_32)
def o8_34 : List AOper := [⟨some 46, (.mov (.tmp 8)), false, none⟩,
  ⟨some 47, (.mov (.tmp 7)), false, none⟩,
  ⟨some 48, (.lenSl (.tmp 47)), false, none⟩,
  ⟨some 49, (.bin .eql .none (.tmp 46) (.tmp 48)), true, none⟩,
  ⟨some 50, (.mov (.tmp 49)), true, none⟩,
  ⟨some 51, (.call i_transitlaw17_exampleHolds []), true, some (50, true)⟩,
  ⟨some 52, (.pick (.tmp 50) (.tmp 51) (.const (.bool false))), true, none⟩,
  ⟨some 6, (.mov (.tmp 52)), true, none⟩]
def c8_35 : ACode := (.region o8_34 [6])
def w8_35 (P : Program) (Q : Exit → Slots → Mem → Prop) (M : Mem) (v7 : V) (v8 : V) : Prop :=
  @OptVH (lenV v7 M) ⟨fun t48_3 =>
  @OptBH (binV .eql .none v8 t48_3) ⟨fun b49_4 =>
  @BIfH b49_4
  ⟨@CallH P i_transitlaw17_exampleHolds [] M ⟨fun t51_6 M6 => @OptBH (some t51_6) ⟨fun b51_6 =>
  Q .normal [(6, (.bool b51_6))] M6⟩⟩⟩
  ⟨Q .normal [(6, (.bool false))] M⟩⟩⟩
theorem e8_35 (P : Program) (Q : Exit → Slots → Mem → Prop) (s : Slots) (M : Mem) : wpC P c8_35 Q s M = w8_35 P Q M (sget s 7) (sget s 8) := by kernel_rfl
def c8_36 : ACode := (.seq c8_35 .ret)
def c8_37 : ACode := (.seq c8_33 c8_36)
def c8_38 : ACode := (.seq c8_10 c8_37)
def c8_39 : ACode := (.seq c8_8 c8_38)
def c8_40 : ACode := (.seq c8_6 c8_39)
def c8_41 : ACode := (.seq c8_1 c8_40)
def fn_transitlaw17_TripConnects : AFn := ⟨53, [(.tmp 6)], c8_41⟩
theorem fn_transitlaw17_TripConnects_ok : resFn PR h_transitlaw17_TripConnects i_transitlaw17_TripConnects = some fn_transitlaw17_TripConnects := by kernel_rfl

def h_transitlaw17_TripPartition : Hints := ⟨[(0, [0, 1, 2]), (1, [0, 1, 2, 35]), (2, [6]), (3, [0, 1, 2, 7]), (4, [0, 1, 2, 7, 8, 9, 10]), (5, [0, 1, 2, 7, 8, 9, 10, 11]), (6, [0, 1, 2, 7, 8, 9, 10, 11, 42]), (7, [0, 1, 2, 7, 8, 9, 10, 11]), (8, [0, 1, 2, 7, 8, 9, 10, 11]), (9, [0, 1, 2, 7, 8, 9, 10, 11, 12]), (10, [0, 1, 2, 7, 8, 9, 10, 11, 12, 58]), (11, [0, 1, 2, 7, 8, 9, 10, 11, 12]), (12, [0, 1, 2, 7, 8, 9, 10, 11, 12, 69]), (13, [0, 1, 2, 7, 8, 9, 10, 11, 12]), (14, [0, 1, 2, 7, 8, 9, 10, 11, 12, 79]), (15, [0, 1, 2, 7, 8, 9, 10, 11, 12]), (16, [6])], [(6, [0, 1, 2, 7, 8, 9, 10, 11]), (10, [0, 1, 2, 7, 8, 9, 10, 11, 12])], []⟩
def o9_0 : List AOper := [⟨some 6, (.mov (.const (.bool false))), true, none⟩]
def c9_1 : ACode := (.region o9_0 [0, 1, 2])
def w9_1 (_P : Program) (Q : Exit → Slots → Mem → Prop) (M : Mem) (v0 : V) (v1 : V) (v2 : V) : Prop :=
  Q .normal [(0, v0), (1, v1), (2, v2)] M
theorem e9_1 (P : Program) (Q : Exit → Slots → Mem → Prop) (s : Slots) (M : Mem) : wpC P c9_1 Q s M = w9_1 P Q M (sget s 0) (sget s 1) (sget s 2) := by kernel_rfl
def o9_2 : List AOper := [⟨some 36, (.call i_transitlaw17_exampleHolds []), true, none⟩,
  ⟨some 6, (.mov (.tmp 36)), true, none⟩]
def c9_3 : ACode := (.region o9_2 [6])
def w9_3 (P : Program) (Q : Exit → Slots → Mem → Prop) (M : Mem) : Prop :=
  @CallH P i_transitlaw17_exampleHolds [] M ⟨fun t36_1 M1 => @OptBH (some t36_1) ⟨fun b36_1 =>
  Q .normal [(6, (.bool b36_1))] M1⟩⟩
theorem e9_3 (P : Program) (Q : Exit → Slots → Mem → Prop) (s : Slots) (M : Mem) : wpC P c9_3 Q s M = w9_3 P Q M := by kernel_rfl
def c9_4 : ACode := (.seq c9_3 .ret)
def o9_5 : List AOper := [⟨some 13, (.mov (.tmp 0)), false, none⟩,
  ⟨some 14, (.call i_transitlaw17_table [(.tmp 13), (.const (.int .i64 40))]), true, none⟩,
  ⟨some 15, (.un .not (.tmp 14)), true, none⟩,
  ⟨some 16, (.mov (.tmp 15)), true, none⟩,
  ⟨some 17, (.mov (.tmp 1)), false, some (16, false)⟩,
  ⟨some 18, (.bin .lss .none (.tmp 17) (.const (.int .i64 0))), true, some (16, false)⟩,
  ⟨some 19, (.pick (.tmp 16) (.const (.bool true)) (.tmp 18)), true, none⟩,
  ⟨some 20, (.mov (.tmp 19)), true, none⟩,
  ⟨some 21, (.mov (.tmp 1)), false, some (20, false)⟩,
  ⟨some 22, (.mov (.tmp 0)), false, some (20, false)⟩,
  ⟨some 23, (.lenSl (.tmp 22)), false, some (20, false)⟩,
  ⟨some 24, (.bin .geq .none (.tmp 21) (.tmp 23)), true, some (20, false)⟩,
  ⟨some 25, (.pick (.tmp 20) (.const (.bool true)) (.tmp 24)), true, none⟩,
  ⟨some 26, (.mov (.tmp 25)), true, none⟩,
  ⟨some 27, (.mov (.tmp 2)), false, some (26, false)⟩,
  ⟨some 28, (.bin .lss .none (.tmp 27) (.const (.int .i64 0))), true, some (26, false)⟩,
  ⟨some 29, (.pick (.tmp 26) (.const (.bool true)) (.tmp 28)), true, none⟩,
  ⟨some 30, (.mov (.tmp 29)), true, none⟩,
  ⟨some 31, (.mov (.tmp 2)), false, some (30, false)⟩,
  ⟨some 32, (.mov (.tmp 0)), false, some (30, false)⟩,
  ⟨some 33, (.lenSl (.tmp 32)), false, some (30, false)⟩,
  ⟨some 34, (.bin .geq .none (.tmp 31) (.tmp 33)), true, some (30, false)⟩,
  ⟨some 35, (.pick (.tmp 30) (.const (.bool true)) (.tmp 34)), true, none⟩]
def c9_6 : ACode := (.seq (.region o9_5 [0, 1, 2, 35]) (.cond (.tmp 35) c9_4 .skip))
def w9_6 (P : Program) (Q : Exit → Slots → Mem → Prop) (M : Mem) (v0 : V) (v1 : V) (v2 : V) : Prop :=
  @CallH P i_transitlaw17_table [v0, (.int .i64 40)] M ⟨fun t14_2 M2 => @OptBH (some t14_2) ⟨fun b14_2 =>
  @OptBH (unV .not (.bool b14_2)) ⟨fun b15_3 =>
  @BIfH b15_3
  ⟨wpC P c9_4 Q [(0, v0), (1, v1), (2, v2), (35, (.bool true))] M2⟩
  ⟨@OptBH (binV .lss .none v1 (.int .i64 0)) ⟨fun b18_13 =>
  @BIfH b18_13
  ⟨wpC P c9_4 Q [(0, v0), (1, v1), (2, v2), (35, (.bool true))] M2⟩
  ⟨@OptVH (lenV v0 M2) ⟨fun t23_23 =>
  @OptBH (binV .geq .none v1 t23_23) ⟨fun b24_24 =>
  @BIfH b24_24
  ⟨wpC P c9_4 Q [(0, v0), (1, v1), (2, v2), (35, (.bool true))] M2⟩
  ⟨@OptBH (binV .lss .none v2 (.int .i64 0)) ⟨fun b28_31 =>
  @BIfH b28_31
  ⟨wpC P c9_4 Q [(0, v0), (1, v1), (2, v2), (35, (.bool true))] M2⟩
  ⟨@OptVH (lenV v0 M2) ⟨fun t33_37 =>
  @OptBH (binV .geq .none v2 t33_37) ⟨fun b34_38 =>
  @BIfH b34_38
  ⟨wpC P c9_4 Q [(0, v0), (1, v1), (2, v2), (35, (.bool b34_38))] M2⟩
  ⟨Q .normal [(0, v0), (1, v1), (2, v2), (35, (.bool b34_38))] M2⟩⟩⟩⟩⟩⟩⟩⟩⟩⟩⟩⟩⟩⟩
theorem e9_6 (P : Program) (Q : Exit → Slots → Mem → Prop) (s : Slots) (M : Mem) : wpC P c9_6 Q s M = w9_6 P Q M (sget s 0) (sget s 1) (sget s 2) := by kernel_rfl
def o9_7 : List AOper := [⟨some 37, (.mov (.tmp 0)), false, none⟩,
  ⟨some 38, (.call i_trip_Groups [(.tmp 37)]), false, none⟩,
  ⟨some 7, (.mov (.tmp 38)), false, none⟩]
def c9_8 : ACode := (.region o9_7 [0, 1, 2, 7])
def w9_8 (P : Program) (Q : Exit → Slots → Mem → Prop) (M : Mem) (v0 : V) (v1 : V) (v2 : V) : Prop :=
  @CallH P i_trip_Groups [v0] M ⟨fun t38_2 M2 =>
  Q .normal [(0, v0), (1, v1), (2, v2), (7, t38_2)] M2⟩
theorem e9_8 (P : Program) (Q : Exit → Slots → Mem → Prop) (s : Slots) (M : Mem) : wpC P c9_8 Q s M = w9_8 P Q M (sget s 0) (sget s 1) (sget s 2) := by kernel_rfl
def o9_9 : List AOper := [⟨some 8, (.mov (.const (.int .i64 (-1)))), false, none⟩,
  ⟨some 9, (.mov (.const (.int .i64 (-1)))), false, none⟩,
  ⟨some 10, (.mov (.const (.int .i64 0))), false, none⟩]
def c9_10 : ACode := (.region o9_9 [0, 1, 2, 7, 8, 9, 10])
def w9_10 (_P : Program) (Q : Exit → Slots → Mem → Prop) (M : Mem) (v0 : V) (v1 : V) (v2 : V) (v7 : V) : Prop :=
  Q .normal [(0, v0), (1, v1), (2, v2), (7, v7), (8, (.int .i64 (-1))), (9, (.int .i64 (-1))), (10, (.int .i64 0))] M
theorem e9_10 (P : Program) (Q : Exit → Slots → Mem → Prop) (s : Slots) (M : Mem) : wpC P c9_10 Q s M = w9_10 P Q M (sget s 0) (sget s 1) (sget s 2) (sget s 7) := by kernel_rfl
def o9_11 : List AOper := [⟨some 11, (.mov (.const (.int .i64 0))), false, none⟩]
def c9_12 : ACode := (.region o9_11 [0, 1, 2, 7, 8, 9, 10, 11])
def w9_12 (_P : Program) (Q : Exit → Slots → Mem → Prop) (M : Mem) (v0 : V) (v1 : V) (v2 : V) (v7 : V) (v8 : V) (v9 : V) (v10 : V) : Prop :=
  Q .normal [(0, v0), (1, v1), (2, v2), (7, v7), (8, v8), (9, v9), (10, v10), (11, (.int .i64 0))] M
theorem e9_12 (P : Program) (Q : Exit → Slots → Mem → Prop) (s : Slots) (M : Mem) : wpC P c9_12 Q s M = w9_12 P Q M (sget s 0) (sget s 1) (sget s 2) (sget s 7) (sget s 8) (sget s 9) (sget s 10) := by kernel_rfl
def o9_13 : List AOper := [⟨some 39, (.mov (.tmp 11)), false, none⟩,
  ⟨some 40, (.mov (.tmp 7)), false, none⟩,
  ⟨some 41, (.lenSl (.tmp 40)), false, none⟩,
  ⟨some 42, (.bin .lss .none (.tmp 39) (.tmp 41)), true, none⟩]
def c9_14 : ACode := (.seq (.region o9_13 [0, 1, 2, 7, 8, 9, 10, 11, 42]) (.cond (.tmp 42) .skip (.exit 0)))
def w9_14 (_P : Program) (Q : Exit → Slots → Mem → Prop) (M : Mem) (v0 : V) (v1 : V) (v2 : V) (v7 : V) (v8 : V) (v9 : V) (v10 : V) (v11 : V) : Prop :=
  @OptVH (lenV v7 M) ⟨fun t41_3 =>
  @OptBH (binV .lss .none v11 t41_3) ⟨fun b42_4 =>
  @BIfH b42_4
  ⟨Q .normal [(0, v0), (1, v1), (2, v2), (7, v7), (8, v8), (9, v9), (10, v10), (11, v11), (42, (.bool b42_4))] M⟩
  ⟨Q (.exit 0) [(0, v0), (1, v1), (2, v2), (7, v7), (8, v8), (9, v9), (10, v10), (11, v11), (42, (.bool b42_4))] M⟩⟩⟩
theorem e9_14 (P : Program) (Q : Exit → Slots → Mem → Prop) (s : Slots) (M : Mem) : wpC P c9_14 Q s M = w9_14 P Q M (sget s 0) (sget s 1) (sget s 2) (sget s 7) (sget s 8) (sget s 9) (sget s 10) (sget s 11) := by kernel_rfl
def o9_15 : List AOper := [⟨some 45, (.mov (.tmp 10)), false, none⟩,
  ⟨some 46, (.mov (.tmp 7)), false, none⟩,
  ⟨some 47, (.mov (.tmp 11)), false, none⟩,
  ⟨some 48, (.indexSl 1 (.tmp 46) (.tmp 47)), false, none⟩,
  ⟨some 49, (.load 1 false (.tmp 48)), false, none⟩,
  ⟨some 50, (.lenSl (.tmp 49)), false, none⟩,
  ⟨some 51, (.bin .add .none (.tmp 45) (.tmp 50)), false, none⟩,
  ⟨some 10, (.mov (.tmp 51)), false, none⟩]
def c9_16 : ACode := (.region o9_15 [0, 1, 2, 7, 8, 9, 10, 11])
def w9_16 (_P : Program) (Q : Exit → Slots → Mem → Prop) (M : Mem) (v0 : V) (v1 : V) (v2 : V) (v7 : V) (v8 : V) (v9 : V) (v10 : V) (v11 : V) : Prop :=
  @OptVH (indexSlV 1 v7 v11 M) ⟨fun t48_4 =>
  @OptVH (loadV 1 false t48_4 M) ⟨fun t49_5 =>
  @OptVH (lenV t49_5 M) ⟨fun t50_6 =>
  @OptVH (binV .add .none v10 t50_6) ⟨fun t51_7 =>
  Q .normal [(0, v0), (1, v1), (2, v2), (7, v7), (8, v8), (9, v9), (10, t51_7), (11, v11)] M⟩⟩⟩⟩
theorem e9_16 (P : Program) (Q : Exit → Slots → Mem → Prop) (s : Slots) (M : Mem) : wpC P c9_16 Q s M = w9_16 P Q M (sget s 0) (sget s 1) (sget s 2) (sget s 7) (sget s 8) (sget s 9) (sget s 10) (sget s 11) := by kernel_rfl
def o9_17 : List AOper := [⟨some 12, (.mov (.const (.int .i64 0))), false, none⟩]
def c9_18 : ACode := (.region o9_17 [0, 1, 2, 7, 8, 9, 10, 11, 12])
def w9_18 (_P : Program) (Q : Exit → Slots → Mem → Prop) (M : Mem) (v0 : V) (v1 : V) (v2 : V) (v7 : V) (v8 : V) (v9 : V) (v10 : V) (v11 : V) : Prop :=
  Q .normal [(0, v0), (1, v1), (2, v2), (7, v7), (8, v8), (9, v9), (10, v10), (11, v11), (12, (.int .i64 0))] M
theorem e9_18 (P : Program) (Q : Exit → Slots → Mem → Prop) (s : Slots) (M : Mem) : wpC P c9_18 Q s M = w9_18 P Q M (sget s 0) (sget s 1) (sget s 2) (sget s 7) (sget s 8) (sget s 9) (sget s 10) (sget s 11) := by kernel_rfl
def o9_19 : List AOper := [⟨some 52, (.mov (.tmp 12)), false, none⟩,
  ⟨some 53, (.mov (.tmp 7)), false, none⟩,
  ⟨some 54, (.mov (.tmp 11)), false, none⟩,
  ⟨some 55, (.indexSl 1 (.tmp 53) (.tmp 54)), false, none⟩,
  ⟨some 56, (.load 1 false (.tmp 55)), false, none⟩,
  ⟨some 57, (.lenSl (.tmp 56)), false, none⟩,
  ⟨some 58, (.bin .lss .none (.tmp 52) (.tmp 57)), true, none⟩]
def c9_20 : ACode := (.seq (.region o9_19 [0, 1, 2, 7, 8, 9, 10, 11, 12, 58]) (.cond (.tmp 58) .skip (.exit 2)))
def w9_20 (_P : Program) (Q : Exit → Slots → Mem → Prop) (M : Mem) (v0 : V) (v1 : V) (v2 : V) (v7 : V) (v8 : V) (v9 : V) (v10 : V) (v11 : V) (v12 : V) : Prop :=
  @OptVH (indexSlV 1 v7 v11 M) ⟨fun t55_4 =>
  @OptVH (loadV 1 false t55_4 M) ⟨fun t56_5 =>
  @OptVH (lenV t56_5 M) ⟨fun t57_6 =>
  @OptBH (binV .lss .none v12 t57_6) ⟨fun b58_7 =>
  @BIfH b58_7
  ⟨Q .normal [(0, v0), (1, v1), (2, v2), (7, v7), (8, v8), (9, v9), (10, v10), (11, v11), (12, v12), (58, (.bool b58_7))] M⟩
  ⟨Q (.exit 2) [(0, v0), (1, v1), (2, v2), (7, v7), (8, v8), (9, v9), (10, v10), (11, v11), (12, v12), (58, (.bool b58_7))] M⟩⟩⟩⟩⟩
theorem e9_20 (P : Program) (Q : Exit → Slots → Mem → Prop) (s : Slots) (M : Mem) : wpC P c9_20 Q s M = w9_20 P Q M (sget s 0) (sget s 1) (sget s 2) (sget s 7) (sget s 8) (sget s 9) (sget s 10) (sget s 11) (sget s 12) := by kernel_rfl
def o9_21 : List AOper := [⟨some 70, (.mov (.tmp 11)), false, none⟩,
  ⟨some 8, (.mov (.tmp 70)), false, none⟩]
def c9_22 : ACode := (.region o9_21 [0, 1, 2, 7, 8, 9, 10, 11, 12])
def w9_22 (_P : Program) (Q : Exit → Slots → Mem → Prop) (M : Mem) (v0 : V) (v1 : V) (v2 : V) (v7 : V) (v9 : V) (v10 : V) (v11 : V) (v12 : V) : Prop :=
  Q .normal [(0, v0), (1, v1), (2, v2), (7, v7), (8, v11), (9, v9), (10, v10), (11, v11), (12, v12)] M
theorem e9_22 (P : Program) (Q : Exit → Slots → Mem → Prop) (s : Slots) (M : Mem) : wpC P c9_22 Q s M = w9_22 P Q M (sget s 0) (sget s 1) (sget s 2) (sget s 7) (sget s 9) (sget s 10) (sget s 11) (sget s 12) := by kernel_rfl
def o9_23 : List AOper := [⟨some 61, (.mov (.tmp 7)), false, none⟩,
  ⟨some 62, (.mov (.tmp 11)), false, none⟩,
  ⟨some 63, (.indexSl 1 (.tmp 61) (.tmp 62)), false, none⟩,
  ⟨some 64, (.load 1 false (.tmp 63)), false, none⟩,
  ⟨some 65, (.mov (.tmp 12)), false, none⟩,
  ⟨some 66, (.indexSl 1 (.tmp 64) (.tmp 65)), false, none⟩,
  ⟨some 67, (.load 1 false (.tmp 66)), false, none⟩,
  ⟨some 68, (.mov (.tmp 1)), false, none⟩,
  ⟨some 69, (.bin .eql .none (.tmp 67) (.tmp 68)), true, none⟩]
def c9_24 : ACode := (.seq (.region o9_23 [0, 1, 2, 7, 8, 9, 10, 11, 12, 69]) (.cond (.tmp 69) c9_22 .skip))
def w9_24 (P : Program) (Q : Exit → Slots → Mem → Prop) (M : Mem) (v0 : V) (v1 : V) (v2 : V) (v7 : V) (v8 : V) (v9 : V) (v10 : V) (v11 : V) (v12 : V) : Prop :=
  @OptVH (indexSlV 1 v7 v11 M) ⟨fun t63_3 =>
  @OptVH (loadV 1 false t63_3 M) ⟨fun t64_4 =>
  @OptVH (indexSlV 1 t64_4 v12 M) ⟨fun t66_6 =>
  @OptVH (loadV 1 false t66_6 M) ⟨fun t67_7 =>
  @OptBH (binV .eql .none t67_7 v1) ⟨fun b69_9 =>
  @BIfH b69_9
  ⟨wpC P c9_22 Q [(0, v0), (1, v1), (2, v2), (7, v7), (8, v8), (9, v9), (10, v10), (11, v11), (12, v12), (69, (.bool b69_9))] M⟩
  ⟨Q .normal [(0, v0), (1, v1), (2, v2), (7, v7), (8, v8), (9, v9), (10, v10), (11, v11), (12, v12), (69, (.bool b69_9))] M⟩⟩⟩⟩⟩⟩
theorem e9_24 (P : Program) (Q : Exit → Slots → Mem → Prop) (s : Slots) (M : Mem) : wpC P c9_24 Q s M = w9_24 P Q M (sget s 0) (sget s 1) (sget s 2) (sget s 7) (sget s 8) (sget s 9) (sget s 10) (sget s 11) (sget s 12) := by kernel_rfl
def o9_25 : List AOper := [⟨some 80, (.mov (.tmp 11)), false, none⟩,
  ⟨some 9, (.mov (.tmp 80)), false, none⟩]
def c9_26 : ACode := (.region o9_25 [0, 1, 2, 7, 8, 9, 10, 11, 12])
def w9_26 (_P : Program) (Q : Exit → Slots → Mem → Prop) (M : Mem) (v0 : V) (v1 : V) (v2 : V) (v7 : V) (v8 : V) (v10 : V) (v11 : V) (v12 : V) : Prop :=
  Q .normal [(0, v0), (1, v1), (2, v2), (7, v7), (8, v8), (9, v11), (10, v10), (11, v11), (12, v12)] M
theorem e9_26 (P : Program) (Q : Exit → Slots → Mem → Prop) (s : Slots) (M : Mem) : wpC P c9_26 Q s M = w9_26 P Q M (sget s 0) (sget s 1) (sget s 2) (sget s 7) (sget s 8) (sget s 10) (sget s 11) (sget s 12) := by kernel_rfl
def o9_27 : List AOper := [⟨some 71, (.mov (.tmp 7)), false, none⟩,
  ⟨some 72, (.mov (.tmp 11)), false, none⟩,
  ⟨some 73, (.indexSl 1 (.tmp 71) (.tmp 72)), false, none⟩,
  ⟨some 74, (.load 1 false (.tmp 73)), false, none⟩,
  ⟨some 75, (.mov (.tmp 12)), false, none⟩,
  ⟨some 76, (.indexSl 1 (.tmp 74) (.tmp 75)), false, none⟩,
  ⟨some 77, (.load 1 false (.tmp 76)), false, none⟩,
  ⟨some 78, (.mov (.tmp 2)), false, none⟩,
  ⟨some 79, (.bin .eql .none (.tmp 77) (.tmp 78)), true, none⟩]
def c9_28 : ACode := (.seq (.region o9_27 [0, 1, 2, 7, 8, 9, 10, 11, 12, 79]) (.cond (.tmp 79) c9_26 .skip))
def w9_28 (P : Program) (Q : Exit → Slots → Mem → Prop) (M : Mem) (v0 : V) (v1 : V) (v2 : V) (v7 : V) (v8 : V) (v9 : V) (v10 : V) (v11 : V) (v12 : V) : Prop :=
  @OptVH (indexSlV 1 v7 v11 M) ⟨fun t73_3 =>
  @OptVH (loadV 1 false t73_3 M) ⟨fun t74_4 =>
  @OptVH (indexSlV 1 t74_4 v12 M) ⟨fun t76_6 =>
  @OptVH (loadV 1 false t76_6 M) ⟨fun t77_7 =>
  @OptBH (binV .eql .none t77_7 v2) ⟨fun b79_9 =>
  @BIfH b79_9
  ⟨wpC P c9_26 Q [(0, v0), (1, v1), (2, v2), (7, v7), (8, v8), (9, v9), (10, v10), (11, v11), (12, v12), (79, (.bool b79_9))] M⟩
  ⟨Q .normal [(0, v0), (1, v1), (2, v2), (7, v7), (8, v8), (9, v9), (10, v10), (11, v11), (12, v12), (79, (.bool b79_9))] M⟩⟩⟩⟩⟩⟩
theorem e9_28 (P : Program) (Q : Exit → Slots → Mem → Prop) (s : Slots) (M : Mem) : wpC P c9_28 Q s M = w9_28 P Q M (sget s 0) (sget s 1) (sget s 2) (sget s 7) (sget s 8) (sget s 9) (sget s 10) (sget s 11) (sget s 12) := by kernel_rfl
def c9_29 : ACode := (.seq c9_24 c9_28)
def c9_30 : ACode := (.block 3 c9_29)
def o9_31 : List AOper := [⟨some 59, (.mov (.tmp 12)), false, none⟩,
  ⟨some 60, (.bin .add .none (.tmp 59) (.const (.int .i64 1))), false, none⟩,
  ⟨some 12, (.mov (.tmp 60)), false, none⟩]
def c9_32 : ACode := (.region o9_31 [0, 1, 2, 7, 8, 9, 10, 11, 12])
def w9_32 (_P : Program) (Q : Exit → Slots → Mem → Prop) (M : Mem) (v0 : V) (v1 : V) (v2 : V) (v7 : V) (v8 : V) (v9 : V) (v10 : V) (v11 : V) (v12 : V) : Prop :=
  @OptVH (binV .add .none v12 (.int .i64 1)) ⟨fun t60_2 =>
  Q .normal [(0, v0), (1, v1), (2, v2), (7, v7), (8, v8), (9, v9), (10, v10), (11, v11), (12, t60_2)] M⟩
theorem e9_32 (P : Program) (Q : Exit → Slots → Mem → Prop) (s : Slots) (M : Mem) : wpC P c9_32 Q s M = w9_32 P Q M (sget s 0) (sget s 1) (sget s 2) (sget s 7) (sget s 8) (sget s 9) (sget s 10) (sget s 11) (sget s 12) := by kernel_rfl
def c9_33 : ACode := (.seq c9_30 c9_32)
def c9_34 : ACode := (.seq c9_20 c9_33)
def c9_35 : ACode := (.loop [0, 1, 2, 7, 8, 9, 10, 11, 12] c9_34)
def c9_36 : ACode := (.block 2 c9_35)
def c9_37 : ACode := (.seq c9_18 c9_36)
def c9_38 : ACode := (.seq c9_16 c9_37)
def c9_39 : ACode := (.block 1 c9_38)
def o9_40 : List AOper := [⟨some 43, (.mov (.tmp 11)), false, none⟩,
  ⟨some 44, (.bin .add .none (.tmp 43) (.const (.int .i64 1))), false, none⟩,
  ⟨some 11, (.mov (.tmp 44)), false, none⟩]
def c9_41 : ACode := (.region o9_40 [0, 1, 2, 7, 8, 9, 10, 11])
def w9_41 (_P : Program) (Q : Exit → Slots → Mem → Prop) (M : Mem) (v0 : V) (v1 : V) (v2 : V) (v7 : V) (v8 : V) (v9 : V) (v10 : V) (v11 : V) : Prop :=
  @OptVH (binV .add .none v11 (.int .i64 1)) ⟨fun t44_2 =>
  Q .normal [(0, v0), (1, v1), (2, v2), (7, v7), (8, v8), (9, v9), (10, v10), (11, t44_2)] M⟩
theorem e9_41 (P : Program) (Q : Exit → Slots → Mem → Prop) (s : Slots) (M : Mem) : wpC P c9_41 Q s M = w9_41 P Q M (sget s 0) (sget s 1) (sget s 2) (sget s 7) (sget s 8) (sget s 9) (sget s 10) (sget s 11) := by kernel_rfl
def c9_42 : ACode := (.seq c9_39 c9_41)
def c9_43 : ACode := (.seq c9_14 c9_42)
def c9_44 : ACode := (.loop [0, 1, 2, 7, 8, 9, 10, 11] c9_43)
def c9_45 : ACode := (.block 0 c9_44)
def c9_46 : ACode := (.seq c9_12 c9_45)
def o9_47 : List AOper := [⟨some 81, (.mov (.tmp 10)), false, none⟩,
  ⟨some 82, (.mov (.tmp 0)), false, none⟩,
  ⟨some 83, (.lenSl (.tmp 82)), false, none⟩,
  ⟨some 84, (.bin .eql .none (.tmp 81) (.tmp 83)), true, none⟩,
  ⟨some 85, (.mov (.tmp 84)), true, none⟩,
  ⟨some 86, (.mov (.tmp 8)), false, some (85, true)⟩,
  ⟨some 87, (.bin .geq .none (.tmp 86) (.const (.int .i64 0))), true, some (85, true)⟩,
  ⟨some 88, (.pick (.tmp 85) (.tmp 87) (.const (.bool false))), true, none⟩,
  ⟨some 89, (.mov (.tmp 88)), true, none⟩,
  ⟨some 90, (.mov (.tmp 9)), false, some (89, true)⟩,
  ⟨some 91, (.bin .geq .none (.tmp 90) (.const (.int .i64 0))), true, some (89, true)⟩,
  ⟨some 92, (.pick (.tmp 89) (.tmp 91) (.const (.bool false))), true, none⟩,
  ⟨some 93, (.mov (.tmp 92)), true, none⟩,
  ⟨some 94, (.mov (.tmp 8)), false, some (93, true)⟩,
  ⟨some 95, (.mov (.tmp 9)), false, some (93, true)⟩,
  ⟨some 96, (.bin .eql .none (.tmp 94) (.tmp 95)), true, some (93, true)⟩,
  ⟨some 97, (.mov (.tmp 0)), false, some (93, true)⟩,
  ⟨some 98, (.mov (.tmp 1)), false, some (93, true)⟩,
  ⟨some 99, (.indexSl 5 (.tmp 97) (.tmp 98)), false, some (93, true)⟩,
  ⟨some 100, (.load 5 true (.tmp 99)), false, some (93, true)⟩,
  ⟨some 101, (.mov (.tmp 0)), false, some (93, true)⟩,
  ⟨some 102, (.mov (.tmp 2)), false, some (93, true)⟩,
  ⟨some 103, (.indexSl 5 (.tmp 101) (.tmp 102)), false, some (93, true)⟩,
  ⟨some 104, (.load 5 true (.tmp 103)), false, some (93, true)⟩,
  ⟨some 105, (.call i_trip_SamePattern [(.tmp 100), (.tmp 104)]), true, some (93, true)⟩,
  ⟨some 106, (.bin .eql .bool (.tmp 96) (.tmp 105)), true, some (93, true)⟩,
  ⟨some 107, (.pick (.tmp 93) (.tmp 106) (.const (.bool false))), true, none⟩,
  ⟨some 108, (.mov (.tmp 107)), true, none⟩,
  ⟨some 109, (.call i_transitlaw17_exampleHolds []), true, some (108, true)⟩,
  ⟨some 110, (.pick (.tmp 108) (.tmp 109) (.const (.bool false))), true, none⟩,
  ⟨some 6, (.mov (.tmp 110)), true, none⟩]
def c9_48 : ACode := (.mixed o9_47 [true, true, true, true, true, true, true, true, true, true, true, true, true, true, true, true, true, true, true, true, true, true, true, true, true, true, true, true, false, true, true] [6])
def w9_48 (P : Program) (Q : Exit → Slots → Mem → Prop) (M : Mem) (v0 : V) (v1 : V) (v2 : V) (v8 : V) (v9 : V) (v10 : V) : Prop :=
  @OptVH (lenV v0 M) ⟨fun t83_3 =>
  @OptBH (binV .eql .none v10 t83_3) ⟨fun b84_4 =>
  @BIfH b84_4
  ⟨@OptBH (binV .geq .none v8 (.int .i64 0)) ⟨fun b87_7 =>
  @BIfH b87_7
  ⟨@OptBH (binV .geq .none v9 (.int .i64 0)) ⟨fun b91_11 =>
  @BIfH b91_11
  ⟨@OptBH (binV .eql .none v8 v9) ⟨fun b96_16 =>
  @OptVH (indexSlV 5 v0 v1 M) ⟨fun t99_19 =>
  @OptVH (loadV 5 true t99_19 M) ⟨fun t100_20 =>
  @OptVH (indexSlV 5 v0 v2 M) ⟨fun t103_23 =>
  @OptVH (loadV 5 true t103_23 M) ⟨fun t104_24 =>
  @CallQ P i_trip_SamePattern [t100_20, t104_24] M ⟨fun t105_25 M25 => @OptBH (some t105_25) ⟨fun b105_25 =>
  @OptBH (binV .eql .bool (.bool b96_16) (.bool b105_25)) ⟨fun b106_26 =>
  @BIfH b106_26
  ⟨@CallH P i_transitlaw17_exampleHolds [] M25 ⟨fun t109_29 M29 => @OptBH (some t109_29) ⟨fun b109_29 =>
  Q .normal [(6, (.bool b109_29))] M29⟩⟩⟩
  ⟨Q .normal [(6, (.bool false))] M25⟩⟩⟩⟩⟩⟩⟩⟩⟩⟩
  ⟨Q .normal [(6, (.bool false))] M⟩⟩⟩
  ⟨Q .normal [(6, (.bool false))] M⟩⟩⟩
  ⟨Q .normal [(6, (.bool false))] M⟩⟩⟩
theorem e9_48 (P : Program) (Q : Exit → Slots → Mem → Prop) (s : Slots) (M : Mem) : wpC P c9_48 Q s M = w9_48 P Q M (sget s 0) (sget s 1) (sget s 2) (sget s 8) (sget s 9) (sget s 10) := by kernel_rfl
def c9_49 : ACode := (.seq c9_48 .ret)
def c9_50 : ACode := (.seq c9_46 c9_49)
def c9_51 : ACode := (.seq c9_10 c9_50)
def c9_52 : ACode := (.seq c9_8 c9_51)
def c9_53 : ACode := (.seq c9_6 c9_52)
def c9_54 : ACode := (.seq c9_1 c9_53)
def fn_transitlaw17_TripPartition : AFn := ⟨111, [(.tmp 6)], c9_54⟩
theorem fn_transitlaw17_TripPartition_ok : resFn PR h_transitlaw17_TripPartition i_transitlaw17_TripPartition = some fn_transitlaw17_TripPartition := by kernel_rfl

def h_transitlaw17_TripFollows : Hints := ⟨[(0, [1, 2]), (1, [1, 2, 18]), (2, [4]), (3, [1, 2, 5]), (4, [1, 2, 5]), (5, [1, 2, 5, 6]), (6, [1, 2, 5, 6, 26]), (7, [1, 2, 5, 6]), (8, [1, 2, 5, 6, 7]), (9, [1, 2, 5, 6, 7, 51]), (10, [4]), (11, [1, 2, 5, 6, 7]), (12, [1, 2, 5, 6, 7]), (13, [1, 2, 5, 6]), (14, [4])], [(6, [1, 2, 5, 6])], []⟩
def o10_0 : List AOper := [⟨some 2, (.box 5 (.tmp 0)), false, none⟩,
  ⟨some 4, (.mov (.const (.bool false))), true, none⟩]
def c10_1 : ACode := (.region o10_0 [1, 2])
def w10_1 (_P : Program) (Q : Exit → Slots → Mem → Prop) (M : Mem) (v0 : V) (v1 : V) : Prop :=
  @OptMH (boxV 5 v0 M) ⟨fun t2_1 M1 =>
  Q .normal [(1, v1), (2, t2_1)] M1⟩
theorem e10_1 (P : Program) (Q : Exit → Slots → Mem → Prop) (s : Slots) (M : Mem) : wpC P c10_1 Q s M = w10_1 P Q M (sget s 0) (sget s 1) := by kernel_rfl
def o10_2 : List AOper := [⟨some 19, (.call i_transitlaw17_exampleHolds []), true, none⟩,
  ⟨some 4, (.mov (.tmp 19)), true, none⟩]
def c10_3 : ACode := (.region o10_2 [4])
def w10_3 (P : Program) (Q : Exit → Slots → Mem → Prop) (M : Mem) : Prop :=
  @CallH P i_transitlaw17_exampleHolds [] M ⟨fun t19_1 M1 => @OptBH (some t19_1) ⟨fun b19_1 =>
  Q .normal [(4, (.bool b19_1))] M1⟩⟩
theorem e10_3 (P : Program) (Q : Exit → Slots → Mem → Prop) (s : Slots) (M : Mem) : wpC P c10_3 Q s M = w10_3 P Q M := by kernel_rfl
def c10_4 : ACode := (.seq c10_3 .ret)
def o10_5 : List AOper := [⟨some 8, (.load 5 true (.tmp 2)), false, none⟩,
  ⟨some 9, (.call i_transitlaw17_small [(.tmp 8)]), true, none⟩,
  ⟨some 10, (.un .not (.tmp 9)), true, none⟩,
  ⟨some 11, (.mov (.tmp 10)), true, none⟩,
  ⟨some 12, (.mov (.tmp 1)), false, some (11, false)⟩,
  ⟨some 13, (.bin .lss .none (.tmp 12) (.const (.int .i64 (-1099511627776)))), true, some (11, false)⟩,
  ⟨some 14, (.pick (.tmp 11) (.const (.bool true)) (.tmp 13)), true, none⟩,
  ⟨some 15, (.mov (.tmp 14)), true, none⟩,
  ⟨some 16, (.mov (.tmp 1)), false, some (15, false)⟩,
  ⟨some 17, (.bin .gtr .none (.tmp 16) (.const (.int .i64 1099511627776))), true, some (15, false)⟩,
  ⟨some 18, (.pick (.tmp 15) (.const (.bool true)) (.tmp 17)), true, none⟩]
def c10_6 : ACode := (.seq (.region o10_5 [1, 2, 18]) (.cond (.tmp 18) c10_4 .skip))
def w10_6 (P : Program) (Q : Exit → Slots → Mem → Prop) (M : Mem) (v1 : V) (v2 : V) : Prop :=
  @OptVH (loadV 5 true v2 M) ⟨fun t8_1 =>
  @CallH P i_transitlaw17_small [t8_1] M ⟨fun t9_2 M2 => @OptBH (some t9_2) ⟨fun b9_2 =>
  @OptBH (unV .not (.bool b9_2)) ⟨fun b10_3 =>
  @BIfH b10_3
  ⟨wpC P c10_4 Q [(1, v1), (2, v2), (18, (.bool true))] M2⟩
  ⟨@OptBH (binV .lss .none v1 (.int .i64 (-1099511627776))) ⟨fun b13_9 =>
  @BIfH b13_9
  ⟨wpC P c10_4 Q [(1, v1), (2, v2), (18, (.bool true))] M2⟩
  ⟨@OptBH (binV .gtr .none v1 (.int .i64 1099511627776)) ⟨fun b17_14 =>
  @BIfH b17_14
  ⟨wpC P c10_4 Q [(1, v1), (2, v2), (18, (.bool b17_14))] M2⟩
  ⟨Q .normal [(1, v1), (2, v2), (18, (.bool b17_14))] M2⟩⟩⟩⟩⟩⟩⟩⟩⟩
theorem e10_6 (P : Program) (Q : Exit → Slots → Mem → Prop) (s : Slots) (M : Mem) : wpC P c10_6 Q s M = w10_6 P Q M (sget s 1) (sget s 2) := by kernel_rfl
def o10_7 : List AOper := [⟨some 20, (.load 5 true (.tmp 2)), false, none⟩,
  ⟨some 5, (.alloc [(.str []), (.int .i64 0), (.int .i64 0), (.bool false), (.slice [] .nil)]), false, none⟩,
  ⟨none, (.store 5 (.tmp 5) (.tmp 20)), false, none⟩]
def c10_8 : ACode := (.region o10_7 [1, 2, 5])
def w10_8 (_P : Program) (Q : Exit → Slots → Mem → Prop) (M : Mem) (v1 : V) (v2 : V) : Prop :=
  @OptVH (loadV 5 true v2 M) ⟨fun t20_1 =>
  @OptMH (allocV [(.str []), (.int .i64 0), (.int .i64 0), (.bool false), (.slice [] .nil)] M) ⟨fun t5_2 M2 =>
  @OptMH (storeVM 5 t5_2 t20_1 M2) ⟨fun _tx_3 M3 =>
  Q .normal [(1, v1), (2, v2), (5, t5_2)] M3⟩⟩⟩
theorem e10_8 (P : Program) (Q : Exit → Slots → Mem → Prop) (s : Slots) (M : Mem) : wpC P c10_8 Q s M = w10_8 P Q M (sget s 1) (sget s 2) := by kernel_rfl
def o10_9 : List AOper := [⟨some 21, (.fieldAddr 4 (.tmp 5)), false, none⟩,
  ⟨none, (.store 1 (.tmp 21) (.const (.slice [] .nil))), false, none⟩]
def c10_10 : ACode := (.region o10_9 [1, 2, 5])
def w10_10 (_P : Program) (Q : Exit → Slots → Mem → Prop) (M : Mem) (v1 : V) (v2 : V) (v5 : V) : Prop :=
  @OptVH (moveV 4 v5) ⟨fun t21_1 =>
  @OptMH (storeVM 1 t21_1 (.slice [] .nil) M) ⟨fun _tx_2 M2 =>
  Q .normal [(1, v1), (2, v2), (5, v5)] M2⟩⟩
theorem e10_10 (P : Program) (Q : Exit → Slots → Mem → Prop) (s : Slots) (M : Mem) : wpC P c10_10 Q s M = w10_10 P Q M (sget s 1) (sget s 2) (sget s 5) := by kernel_rfl
def o10_11 : List AOper := [⟨some 6, (.mov (.const (.int .i64 0))), false, none⟩]
def c10_12 : ACode := (.region o10_11 [1, 2, 5, 6])
def w10_12 (_P : Program) (Q : Exit → Slots → Mem → Prop) (M : Mem) (v1 : V) (v2 : V) (v5 : V) : Prop :=
  Q .normal [(1, v1), (2, v2), (5, v5), (6, (.int .i64 0))] M
theorem e10_12 (P : Program) (Q : Exit → Slots → Mem → Prop) (s : Slots) (M : Mem) : wpC P c10_12 Q s M = w10_12 P Q M (sget s 1) (sget s 2) (sget s 5) := by kernel_rfl
def o10_13 : List AOper := [⟨some 22, (.mov (.tmp 6)), false, none⟩,
  ⟨some 23, (.fieldAddr 4 (.tmp 2)), false, none⟩,
  ⟨some 24, (.load 1 false (.tmp 23)), false, none⟩,
  ⟨some 25, (.lenSl (.tmp 24)), false, none⟩,
  ⟨some 26, (.bin .lss .none (.tmp 22) (.tmp 25)), true, none⟩]
def c10_14 : ACode := (.seq (.region o10_13 [1, 2, 5, 6, 26]) (.cond (.tmp 26) .skip (.exit 0)))
def w10_14 (_P : Program) (Q : Exit → Slots → Mem → Prop) (M : Mem) (v1 : V) (v2 : V) (v5 : V) (v6 : V) : Prop :=
  @OptVH (moveV 4 v2) ⟨fun t23_2 =>
  @OptVH (loadV 1 false t23_2 M) ⟨fun t24_3 =>
  @OptVH (lenV t24_3 M) ⟨fun t25_4 =>
  @OptBH (binV .lss .none v6 t25_4) ⟨fun b26_5 =>
  @BIfH b26_5
  ⟨Q .normal [(1, v1), (2, v2), (5, v5), (6, v6), (26, (.bool b26_5))] M⟩
  ⟨Q (.exit 0) [(1, v1), (2, v2), (5, v5), (6, v6), (26, (.bool b26_5))] M⟩⟩⟩⟩⟩
theorem e10_14 (P : Program) (Q : Exit → Slots → Mem → Prop) (s : Slots) (M : Mem) : wpC P c10_14 Q s M = w10_14 P Q M (sget s 1) (sget s 2) (sget s 5) (sget s 6) := by kernel_rfl
def o10_15 : List AOper := [⟨some 29, (.fieldAddr 4 (.tmp 2)), false, none⟩,
  ⟨some 30, (.load 1 false (.tmp 29)), false, none⟩,
  ⟨some 31, (.mov (.tmp 6)), false, none⟩,
  ⟨some 32, (.indexSl 5 (.tmp 30) (.tmp 31)), false, none⟩,
  ⟨some 33, (.load 5 true (.tmp 32)), false, none⟩,
  ⟨some 7, (.alloc [(.int .i64 0), (.int .i64 0), (.int .i64 0), (.bool false), (.bool false)]), false, none⟩,
  ⟨none, (.store 5 (.tmp 7) (.tmp 33)), false, none⟩]
def c10_16 : ACode := (.region o10_15 [1, 2, 5, 6, 7])
def w10_16 (_P : Program) (Q : Exit → Slots → Mem → Prop) (M : Mem) (v1 : V) (v2 : V) (v5 : V) (v6 : V) : Prop :=
  @OptVH (moveV 4 v2) ⟨fun t29_1 =>
  @OptVH (loadV 1 false t29_1 M) ⟨fun t30_2 =>
  @OptVH (indexSlV 5 t30_2 v6 M) ⟨fun t32_4 =>
  @OptVH (loadV 5 true t32_4 M) ⟨fun t33_5 =>
  @OptMH (allocV [(.int .i64 0), (.int .i64 0), (.int .i64 0), (.bool false), (.bool false)] M) ⟨fun t7_6 M6 =>
  @OptMH (storeVM 5 t7_6 t33_5 M6) ⟨fun _tx_7 M7 =>
  Q .normal [(1, v1), (2, v2), (5, v5), (6, v6), (7, t7_6)] M7⟩⟩⟩⟩⟩⟩
theorem e10_16 (P : Program) (Q : Exit → Slots → Mem → Prop) (s : Slots) (M : Mem) : wpC P c10_16 Q s M = w10_16 P Q M (sget s 1) (sget s 2) (sget s 5) (sget s 6) := by kernel_rfl
def o10_17 : List AOper := [⟨some 52, (.call i_transitlaw17_exampleHolds []), true, none⟩,
  ⟨some 4, (.mov (.tmp 52)), true, none⟩]
def c10_18 : ACode := (.region o10_17 [4])
def w10_18 (P : Program) (Q : Exit → Slots → Mem → Prop) (M : Mem) : Prop :=
  @CallH P i_transitlaw17_exampleHolds [] M ⟨fun t52_1 M1 => @OptBH (some t52_1) ⟨fun b52_1 =>
  Q .normal [(4, (.bool b52_1))] M1⟩⟩
theorem e10_18 (P : Program) (Q : Exit → Slots → Mem → Prop) (s : Slots) (M : Mem) : wpC P c10_18 Q s M = w10_18 P Q M := by kernel_rfl
def c10_19 : ACode := (.seq c10_18 .ret)
def o10_20 : List AOper := [⟨some 34, (.fieldAddr 1 (.tmp 7)), false, none⟩,
  ⟨some 35, (.load 1 false (.tmp 34)), false, none⟩,
  ⟨some 36, (.bin .lss .none (.tmp 35) (.const (.int .i64 (-1099511627776)))), true, none⟩,
  ⟨some 37, (.mov (.tmp 36)), true, none⟩,
  ⟨some 38, (.fieldAddr 1 (.tmp 7)), false, some (37, false)⟩,
  ⟨some 39, (.load 1 false (.tmp 38)), false, some (37, false)⟩,
  ⟨some 40, (.bin .gtr .none (.tmp 39) (.const (.int .i64 1099511627776))), true, some (37, false)⟩,
  ⟨some 41, (.pick (.tmp 37) (.const (.bool true)) (.tmp 40)), true, none⟩,
  ⟨some 42, (.mov (.tmp 41)), true, none⟩,
  ⟨some 43, (.fieldAddr 2 (.tmp 7)), false, some (42, false)⟩,
  ⟨some 44, (.load 1 false (.tmp 43)), false, some (42, false)⟩,
  ⟨some 45, (.bin .lss .none (.tmp 44) (.const (.int .i64 (-1099511627776)))), true, some (42, false)⟩,
  ⟨some 46, (.pick (.tmp 42) (.const (.bool true)) (.tmp 45)), true, none⟩,
  ⟨some 47, (.mov (.tmp 46)), true, none⟩,
  ⟨some 48, (.fieldAddr 2 (.tmp 7)), false, some (47, false)⟩,
  ⟨some 49, (.load 1 false (.tmp 48)), false, some (47, false)⟩,
  ⟨some 50, (.bin .gtr .none (.tmp 49) (.const (.int .i64 1099511627776))), true, some (47, false)⟩,
  ⟨some 51, (.pick (.tmp 47) (.const (.bool true)) (.tmp 50)), true, none⟩]
def c10_21 : ACode := (.seq (.region o10_20 [1, 2, 5, 6, 7, 51]) (.cond (.tmp 51) c10_19 .skip))
def w10_21 (P : Program) (Q : Exit → Slots → Mem → Prop) (M : Mem) (v1 : V) (v2 : V) (v5 : V) (v6 : V) (v7 : V) : Prop :=
  @OptVH (moveV 1 v7) ⟨fun t34_1 =>
  @OptVH (loadV 1 false t34_1 M) ⟨fun t35_2 =>
  @OptBH (binV .lss .none t35_2 (.int .i64 (-1099511627776))) ⟨fun b36_3 =>
  @BIfH b36_3
  ⟨wpC P c10_19 Q [(1, v1), (2, v2), (5, v5), (6, v6), (7, v7), (51, (.bool true))] M⟩
  ⟨@OptVH (moveV 1 v7) ⟨fun t38_10 =>
  @OptVH (loadV 1 false t38_10 M) ⟨fun t39_11 =>
  @OptBH (binV .gtr .none t39_11 (.int .i64 1099511627776)) ⟨fun b40_12 =>
  @BIfH b40_12
  ⟨wpC P c10_19 Q [(1, v1), (2, v2), (5, v5), (6, v6), (7, v7), (51, (.bool true))] M⟩
  ⟨@OptVH (moveV 2 v7) ⟨fun t43_18 =>
  @OptVH (loadV 1 false t43_18 M) ⟨fun t44_19 =>
  @OptBH (binV .lss .none t44_19 (.int .i64 (-1099511627776))) ⟨fun b45_20 =>
  @BIfH b45_20
  ⟨wpC P c10_19 Q [(1, v1), (2, v2), (5, v5), (6, v6), (7, v7), (51, (.bool true))] M⟩
  ⟨@OptVH (moveV 2 v7) ⟨fun t48_24 =>
  @OptVH (loadV 1 false t48_24 M) ⟨fun t49_25 =>
  @OptBH (binV .gtr .none t49_25 (.int .i64 1099511627776)) ⟨fun b50_26 =>
  @BIfH b50_26
  ⟨wpC P c10_19 Q [(1, v1), (2, v2), (5, v5), (6, v6), (7, v7), (51, (.bool b50_26))] M⟩
  ⟨Q .normal [(1, v1), (2, v2), (5, v5), (6, v6), (7, v7), (51, (.bool b50_26))] M⟩⟩⟩⟩⟩⟩⟩⟩⟩⟩⟩⟩⟩⟩⟩⟩
theorem e10_21 (P : Program) (Q : Exit → Slots → Mem → Prop) (s : Slots) (M : Mem) : wpC P c10_21 Q s M = w10_21 P Q M (sget s 1) (sget s 2) (sget s 5) (sget s 6) (sget s 7) := by kernel_rfl
def o10_22 : List AOper := [⟨some 53, (.fieldAddr 1 (.tmp 7)), false, none⟩,
  ⟨some 54, (.load 1 false (.tmp 53)), false, none⟩,
  ⟨some 55, (.mov (.tmp 1)), false, none⟩,
  ⟨some 56, (.bin .add .none (.tmp 54) (.tmp 55)), false, none⟩,
  ⟨some 57, (.fieldAddr 1 (.tmp 7)), false, none⟩,
  ⟨none, (.store 1 (.tmp 57) (.tmp 56)), false, none⟩]
def c10_23 : ACode := (.region o10_22 [1, 2, 5, 6, 7])
def w10_23 (_P : Program) (Q : Exit → Slots → Mem → Prop) (M : Mem) (v1 : V) (v2 : V) (v5 : V) (v6 : V) (v7 : V) : Prop :=
  @OptVH (moveV 1 v7) ⟨fun t53_1 =>
  @OptVH (loadV 1 false t53_1 M) ⟨fun t54_2 =>
  @OptVH (binV .add .none t54_2 v1) ⟨fun t56_4 =>
  @OptVH (moveV 1 v7) ⟨fun t57_5 =>
  @OptMH (storeVM 1 t57_5 t56_4 M) ⟨fun _tx_6 M6 =>
  Q .normal [(1, v1), (2, v2), (5, v5), (6, v6), (7, v7)] M6⟩⟩⟩⟩⟩
theorem e10_23 (P : Program) (Q : Exit → Slots → Mem → Prop) (s : Slots) (M : Mem) : wpC P c10_23 Q s M = w10_23 P Q M (sget s 1) (sget s 2) (sget s 5) (sget s 6) (sget s 7) := by kernel_rfl
def o10_24 : List AOper := [⟨some 58, (.fieldAddr 2 (.tmp 7)), false, none⟩,
  ⟨some 59, (.load 1 false (.tmp 58)), false, none⟩,
  ⟨some 60, (.mov (.tmp 1)), false, none⟩,
  ⟨some 61, (.bin .add .none (.tmp 59) (.tmp 60)), false, none⟩,
  ⟨some 62, (.fieldAddr 2 (.tmp 7)), false, none⟩,
  ⟨none, (.store 1 (.tmp 62) (.tmp 61)), false, none⟩]
def c10_25 : ACode := (.region o10_24 [1, 2, 5, 6, 7])
def w10_25 (_P : Program) (Q : Exit → Slots → Mem → Prop) (M : Mem) (v1 : V) (v2 : V) (v5 : V) (v6 : V) (v7 : V) : Prop :=
  @OptVH (moveV 2 v7) ⟨fun t58_1 =>
  @OptVH (loadV 1 false t58_1 M) ⟨fun t59_2 =>
  @OptVH (binV .add .none t59_2 v1) ⟨fun t61_4 =>
  @OptVH (moveV 2 v7) ⟨fun t62_5 =>
  @OptMH (storeVM 1 t62_5 t61_4 M) ⟨fun _tx_6 M6 =>
  Q .normal [(1, v1), (2, v2), (5, v5), (6, v6), (7, v7)] M6⟩⟩⟩⟩⟩
theorem e10_25 (P : Program) (Q : Exit → Slots → Mem → Prop) (s : Slots) (M : Mem) : wpC P c10_25 Q s M = w10_25 P Q M (sget s 1) (sget s 2) (sget s 5) (sget s 6) (sget s 7) := by kernel_rfl
def o10_26 : List AOper := [⟨some 63, (.fieldAddr 4 (.tmp 5)), false, none⟩,
  ⟨some 64, (.load 1 false (.tmp 63)), false, none⟩,
  ⟨some 65, (.load 5 true (.tmp 7)), false, none⟩,
  ⟨some 66, (.buildSlice [(.int .i64 0), (.int .i64 0), (.int .i64 0), (.bool false), (.bool false)] 5 1 [(0, (5, (.tmp 65)))]), false, none⟩,
  ⟨some 67, (.append false 5 32 (.tmp 64) (.tmp 66)), false, none⟩,
  ⟨some 68, (.fieldAddr 4 (.tmp 5)), false, none⟩,
  ⟨none, (.store 1 (.tmp 68) (.tmp 67)), false, none⟩]
def c10_27 : ACode := (.region o10_26 [1, 2, 5, 6])
def w10_27 (_P : Program) (Q : Exit → Slots → Mem → Prop) (M : Mem) (v1 : V) (v2 : V) (v5 : V) (v6 : V) (v7 : V) : Prop :=
  @OptVH (moveV 4 v5) ⟨fun t63_1 =>
  @OptVH (loadV 1 false t63_1 M) ⟨fun t64_2 =>
  @OptVH (loadV 5 true v7 M) ⟨fun t65_3 =>
  @OptVH (buildSliceV [(.int .i64 0), (.int .i64 0), (.int .i64 0), (.bool false), (.bool false)] 5 1 [(0, 5, t65_3)]) ⟨fun t66_4 =>
  @OptMH (appV false 5 32 t64_2 t66_4 M) ⟨fun t67_5 M5 =>
  @OptVH (moveV 4 v5) ⟨fun t68_6 =>
  @OptMH (storeVM 1 t68_6 t67_5 M5) ⟨fun _tx_7 M7 =>
  Q .normal [(1, v1), (2, v2), (5, v5), (6, v6)] M7⟩⟩⟩⟩⟩⟩⟩
theorem e10_27 (P : Program) (Q : Exit → Slots → Mem → Prop) (s : Slots) (M : Mem) : wpC P c10_27 Q s M = w10_27 P Q M (sget s 1) (sget s 2) (sget s 5) (sget s 6) (sget s 7) := by kernel_rfl
def c10_28 : ACode := (.seq c10_25 c10_27)
def c10_29 : ACode := (.seq c10_23 c10_28)
def c10_30 : ACode := (.seq c10_21 c10_29)
def c10_31 : ACode := (.seq c10_16 c10_30)
def c10_32 : ACode := (.block 1 c10_31)
def o10_33 : List AOper := [⟨some 27, (.mov (.tmp 6)), false, none⟩,
  ⟨some 28, (.bin .add .none (.tmp 27) (.const (.int .i64 1))), false, none⟩,
  ⟨some 6, (.mov (.tmp 28)), false, none⟩]
def c10_34 : ACode := (.region o10_33 [1, 2, 5, 6])
def w10_34 (_P : Program) (Q : Exit → Slots → Mem → Prop) (M : Mem) (v1 : V) (v2 : V) (v5 : V) (v6 : V) : Prop :=
  @OptVH (binV .add .none v6 (.int .i64 1)) ⟨fun t28_2 =>
  Q .normal [(1, v1), (2, v2), (5, v5), (6, t28_2)] M⟩
theorem e10_34 (P : Program) (Q : Exit → Slots → Mem → Prop) (s : Slots) (M : Mem) : wpC P c10_34 Q s M = w10_34 P Q M (sget s 1) (sget s 2) (sget s 5) (sget s 6) := by kernel_rfl
def c10_35 : ACode := (.seq c10_32 c10_34)
def c10_36 : ACode := (.seq c10_14 c10_35)
def c10_37 : ACode := (.loop [1, 2, 5, 6] c10_36)
def c10_38 : ACode := (.block 0 c10_37)
def c10_39 : ACode := (.seq c10_12 c10_38)
def o10_40 : List AOper := [⟨some 69, (.load 5 true (.tmp 2)), false, none⟩,
  ⟨some 70, (.load 5 true (.tmp 5)), false, none⟩,
  ⟨some 71, (.call i_trip_SamePattern [(.tmp 69), (.tmp 70)]), true, none⟩,
  ⟨some 72, (.mov (.tmp 71)), true, none⟩,
  ⟨some 73, (.load 5 true (.tmp 2)), false, some (72, true)⟩,
  ⟨some 74, (.load 5 true (.tmp 5)), false, some (72, true)⟩,
  ⟨some 75, (.call i_trip_Overtakes [(.tmp 73), (.tmp 74)]), true, some (72, true)⟩,
  ⟨some 76, (.un .not (.tmp 75)), true, some (72, true)⟩,
  ⟨some 77, (.pick (.tmp 72) (.tmp 76) (.const (.bool false))), true, none⟩,
  ⟨some 78, (.mov (.tmp 77)), true, none⟩,
  ⟨some 79, (.load 5 true (.tmp 5)), false, some (78, true)⟩,
  ⟨some 80, (.load 5 true (.tmp 2)), false, some (78, true)⟩,
  ⟨some 81, (.call i_trip_Overtakes [(.tmp 79), (.tmp 80)]), true, some (78, true)⟩,
  ⟨some 82, (.un .not (.tmp 81)), true, some (78, true)⟩,
  ⟨some 83, (.pick (.tmp 78) (.tmp 82) (.const (.bool false))), true, none⟩,
  ⟨some 84, (.mov (.tmp 83)), true, none⟩,
  ⟨some 85, (.load 5 true (.tmp 2)), false, some (84, true)⟩,
  ⟨some 86, (.load 5 true (.tmp 2)), false, some (84, true)⟩,
  ⟨some 87, (.call i_trip_Overtakes [(.tmp 85), (.tmp 86)]), true, some (84, true)⟩,
  ⟨some 88, (.un .not (.tmp 87)), true, some (84, true)⟩,
  ⟨some 89, (.pick (.tmp 84) (.tmp 88) (.const (.bool false))), true, none⟩,
  ⟨some 90, (.mov (.tmp 89)), true, none⟩,
  ⟨some 91, (.call i_transitlaw17_exampleHolds []), true, some (90, true)⟩,
  ⟨some 92, (.pick (.tmp 90) (.tmp 91) (.const (.bool false))), true, none⟩,
  ⟨some 4, (.mov (.tmp 92)), true, none⟩]
def c10_41 : ACode := (.region o10_40 [4])
def w10_41 (P : Program) (Q : Exit → Slots → Mem → Prop) (M : Mem) (v2 : V) (v5 : V) : Prop :=
  @OptVH (loadV 5 true v2 M) ⟨fun t69_1 =>
  @OptVH (loadV 5 true v5 M) ⟨fun t70_2 =>
  @CallH P i_trip_SamePattern [t69_1, t70_2] M ⟨fun t71_3 M3 => @OptBH (some t71_3) ⟨fun b71_3 =>
  @BIfH b71_3
  ⟨@OptVH (loadV 5 true v2 M3) ⟨fun t73_5 =>
  @OptVH (loadV 5 true v5 M3) ⟨fun t74_6 =>
  @CallH P i_trip_Overtakes [t73_5, t74_6] M3 ⟨fun t75_7 M7 => @OptBH (some t75_7) ⟨fun b75_7 =>
  @OptBH (unV .not (.bool b75_7)) ⟨fun b76_8 =>
  @BIfH b76_8
  ⟨@OptVH (loadV 5 true v5 M7) ⟨fun t79_11 =>
  @OptVH (loadV 5 true v2 M7) ⟨fun t80_12 =>
  @CallH P i_trip_Overtakes [t79_11, t80_12] M7 ⟨fun t81_13 M13 => @OptBH (some t81_13) ⟨fun b81_13 =>
  @OptBH (unV .not (.bool b81_13)) ⟨fun b82_14 =>
  @BIfH b82_14
  ⟨@OptVH (loadV 5 true v2 M13) ⟨fun t85_17 =>
  @OptVH (loadV 5 true v2 M13) ⟨fun t86_18 =>
  @CallH P i_trip_Overtakes [t85_17, t86_18] M13 ⟨fun t87_19 M19 => @OptBH (some t87_19) ⟨fun b87_19 =>
  @OptBH (unV .not (.bool b87_19)) ⟨fun b88_20 =>
  @BIfH b88_20
  ⟨@CallH P i_transitlaw17_exampleHolds [] M19 ⟨fun t91_23 M23 => @OptBH (some t91_23) ⟨fun b91_23 =>
  Q .normal [(4, (.bool b91_23))] M23⟩⟩⟩
  ⟨Q .normal [(4, (.bool false))] M19⟩⟩⟩⟩⟩⟩⟩
  ⟨Q .normal [(4, (.bool false))] M13⟩⟩⟩⟩⟩⟩⟩
  ⟨Q .normal [(4, (.bool false))] M7⟩⟩⟩⟩⟩⟩⟩
  ⟨Q .normal [(4, (.bool false))] M3⟩⟩⟩⟩⟩
theorem e10_41 (P : Program) (Q : Exit → Slots → Mem → Prop) (s : Slots) (M : Mem) : wpC P c10_41 Q s M = w10_41 P Q M (sget s 2) (sget s 5) := by kernel_rfl
def c10_42 : ACode := (.seq c10_41 .ret)
def c10_43 : ACode := (.seq c10_39 c10_42)
def c10_44 : ACode := (.seq c10_10 c10_43)
def c10_45 : ACode := (.seq c10_8 c10_44)
def c10_46 : ACode := (.seq c10_6 c10_45)
def c10_47 : ACode := (.seq c10_1 c10_46)
def fn_transitlaw17_TripFollows : AFn := ⟨93, [(.tmp 4)], c10_47⟩
theorem fn_transitlaw17_TripFollows_ok : resFn PR h_transitlaw17_TripFollows i_transitlaw17_TripFollows = some fn_transitlaw17_TripFollows := by kernel_rfl

def h_transitlaw17_TripPasses : Hints := ⟨[(0, [0, 1, 2]), (1, [0, 1, 2, 11]), (2, [6]), (3, [0, 1, 2, 7]), (4, [0, 1, 2, 7, 8]), (5, [0, 1, 2, 7, 8, 20]), (6, [0, 1, 2, 7, 8]), (7, [0, 1, 2, 7, 8, 50]), (8, [6]), (9, [6])], [(5, [0, 1, 2, 7, 8])], []⟩
def o11_0 : List AOper := [⟨some 6, (.mov (.const (.bool false))), true, none⟩]
def c11_1 : ACode := (.region o11_0 [0, 1, 2])
def w11_1 (_P : Program) (Q : Exit → Slots → Mem → Prop) (M : Mem) (v0 : V) (v1 : V) (v2 : V) : Prop :=
  Q .normal [(0, v0), (1, v1), (2, v2)] M
theorem e11_1 (P : Program) (Q : Exit → Slots → Mem → Prop) (s : Slots) (M : Mem) : wpC P c11_1 Q s M = w11_1 P Q M (sget s 0) (sget s 1) (sget s 2) := by kernel_rfl
def o11_2 : List AOper := [⟨some 12, (.call i_transitlaw17_exampleHolds []), true, none⟩,
  ⟨some 6, (.mov (.tmp 12)), true, none⟩]
def c11_3 : ACode := (.region o11_2 [6])
def w11_3 (P : Program) (Q : Exit → Slots → Mem → Prop) (M : Mem) : Prop :=
  @CallH P i_transitlaw17_exampleHolds [] M ⟨fun t12_1 M1 => @OptBH (some t12_1) ⟨fun b12_1 =>
  Q .normal [(6, (.bool b12_1))] M1⟩⟩
theorem e11_3 (P : Program) (Q : Exit → Slots → Mem → Prop) (s : Slots) (M : Mem) : wpC P c11_3 Q s M = w11_3 P Q M := by kernel_rfl
def c11_4 : ACode := (.seq c11_3 .ret)
def o11_5 : List AOper := [⟨some 9, (.mov (.tmp 0)), false, none⟩,
  ⟨some 10, (.call i_transitlaw17_table [(.tmp 9), (.const (.int .i64 40))]), true, none⟩,
  ⟨some 11, (.un .not (.tmp 10)), true, none⟩]
def c11_6 : ACode := (.seq (.region o11_5 [0, 1, 2, 11]) (.cond (.tmp 11) c11_4 .skip))
def w11_6 (P : Program) (Q : Exit → Slots → Mem → Prop) (M : Mem) (v0 : V) (v1 : V) (v2 : V) : Prop :=
  @CallH P i_transitlaw17_table [v0, (.int .i64 40)] M ⟨fun t10_2 M2 => @OptBH (some t10_2) ⟨fun b10_2 =>
  @OptBH (unV .not (.bool b10_2)) ⟨fun b11_3 =>
  @BIfH b11_3
  ⟨wpC P c11_4 Q [(0, v0), (1, v1), (2, v2), (11, (.bool b11_3))] M2⟩
  ⟨Q .normal [(0, v0), (1, v1), (2, v2), (11, (.bool b11_3))] M2⟩⟩⟩⟩
theorem e11_6 (P : Program) (Q : Exit → Slots → Mem → Prop) (s : Slots) (M : Mem) : wpC P c11_6 Q s M = w11_6 P Q M (sget s 0) (sget s 1) (sget s 2) := by kernel_rfl
def o11_7 : List AOper := [⟨some 13, (.mov (.tmp 0)), false, none⟩,
  ⟨some 14, (.mov (.tmp 1)), false, none⟩,
  ⟨some 15, (.mov (.tmp 2)), false, none⟩,
  ⟨some 16, (.call i_trip_Between [(.tmp 13), (.tmp 14), (.tmp 15)]), false, none⟩,
  ⟨some 7, (.mov (.tmp 16)), false, none⟩]
def c11_8 : ACode := (.region o11_7 [0, 1, 2, 7])
def w11_8 (P : Program) (Q : Exit → Slots → Mem → Prop) (M : Mem) (v0 : V) (v1 : V) (v2 : V) : Prop :=
  @CallH P i_trip_Between [v0, v1, v2] M ⟨fun t16_4 M4 =>
  Q .normal [(0, v0), (1, v1), (2, v2), (7, t16_4)] M4⟩
theorem e11_8 (P : Program) (Q : Exit → Slots → Mem → Prop) (s : Slots) (M : Mem) : wpC P c11_8 Q s M = w11_8 P Q M (sget s 0) (sget s 1) (sget s 2) := by kernel_rfl
def o11_9 : List AOper := [⟨some 8, (.mov (.const (.int .i64 0))), false, none⟩]
def c11_10 : ACode := (.region o11_9 [0, 1, 2, 7, 8])
def w11_10 (_P : Program) (Q : Exit → Slots → Mem → Prop) (M : Mem) (v0 : V) (v1 : V) (v2 : V) (v7 : V) : Prop :=
  Q .normal [(0, v0), (1, v1), (2, v2), (7, v7), (8, (.int .i64 0))] M
theorem e11_10 (P : Program) (Q : Exit → Slots → Mem → Prop) (s : Slots) (M : Mem) : wpC P c11_10 Q s M = w11_10 P Q M (sget s 0) (sget s 1) (sget s 2) (sget s 7) := by kernel_rfl
def o11_11 : List AOper := [⟨some 17, (.mov (.tmp 8)), false, none⟩,
  ⟨some 18, (.mov (.tmp 7)), false, none⟩,
  ⟨some 19, (.lenSl (.tmp 18)), false, none⟩,
  ⟨some 20, (.bin .lss .none (.tmp 17) (.tmp 19)), true, none⟩]
def c11_12 : ACode := (.seq (.region o11_11 [0, 1, 2, 7, 8, 20]) (.cond (.tmp 20) .skip (.exit 0)))
def w11_12 (_P : Program) (Q : Exit → Slots → Mem → Prop) (M : Mem) (v0 : V) (v1 : V) (v2 : V) (v7 : V) (v8 : V) : Prop :=
  @OptVH (lenV v7 M) ⟨fun t19_3 =>
  @OptBH (binV .lss .none v8 t19_3) ⟨fun b20_4 =>
  @BIfH b20_4
  ⟨Q .normal [(0, v0), (1, v1), (2, v2), (7, v7), (8, v8), (20, (.bool b20_4))] M⟩
  ⟨Q (.exit 0) [(0, v0), (1, v1), (2, v2), (7, v7), (8, v8), (20, (.bool b20_4))] M⟩⟩⟩
theorem e11_12 (P : Program) (Q : Exit → Slots → Mem → Prop) (s : Slots) (M : Mem) : wpC P c11_12 Q s M = w11_12 P Q M (sget s 0) (sget s 1) (sget s 2) (sget s 7) (sget s 8) := by kernel_rfl
def o11_13 : List AOper := [⟨some 6, (.mov (.const (.bool false))), true, none⟩]
def c11_14 : ACode := (.region o11_13 [6])
def w11_14 (_P : Program) (Q : Exit → Slots → Mem → Prop) (M : Mem) : Prop :=
  Q .normal [(6, (.bool false))] M
theorem e11_14 (P : Program) (Q : Exit → Slots → Mem → Prop) (s : Slots) (M : Mem) : wpC P c11_14 Q s M = w11_14 P Q M := by kernel_rfl
def c11_15 : ACode := (.seq c11_14 .ret)
def o11_16 : List AOper := [⟨some 23, (.mov (.tmp 7)), false, none⟩,
  ⟨some 24, (.mov (.tmp 8)), false, none⟩,
  ⟨some 25, (.indexSl 1 (.tmp 23) (.tmp 24)), false, none⟩,
  ⟨some 26, (.load 1 false (.tmp 25)), false, none⟩,
  ⟨some 27, (.bin .lss .none (.tmp 26) (.const (.int .i64 0))), true, none⟩,
  ⟨some 28, (.mov (.tmp 27)), true, none⟩,
  ⟨some 29, (.mov (.tmp 7)), false, some (28, false)⟩,
  ⟨some 30, (.mov (.tmp 8)), false, some (28, false)⟩,
  ⟨some 31, (.indexSl 1 (.tmp 29) (.tmp 30)), false, some (28, false)⟩,
  ⟨some 32, (.load 1 false (.tmp 31)), false, some (28, false)⟩,
  ⟨some 33, (.mov (.tmp 0)), false, some (28, false)⟩,
  ⟨some 34, (.lenSl (.tmp 33)), false, some (28, false)⟩,
  ⟨some 35, (.bin .geq .none (.tmp 32) (.tmp 34)), true, some (28, false)⟩,
  ⟨some 36, (.pick (.tmp 28) (.const (.bool true)) (.tmp 35)), true, none⟩,
  ⟨some 37, (.mov (.tmp 36)), true, none⟩,
  ⟨some 38, (.mov (.tmp 0)), false, some (37, false)⟩,
  ⟨some 39, (.mov (.tmp 7)), false, some (37, false)⟩,
  ⟨some 40, (.mov (.tmp 8)), false, some (37, false)⟩,
  ⟨some 41, (.indexSl 1 (.tmp 39) (.tmp 40)), false, some (37, false)⟩,
  ⟨some 42, (.load 1 false (.tmp 41)), false, some (37, false)⟩,
  ⟨some 43, (.indexSl 5 (.tmp 38) (.tmp 42)), false, some (37, false)⟩,
  ⟨some 44, (.load 5 true (.tmp 43)), false, some (37, false)⟩,
  ⟨some 45, (.call i_trip_Pattern [(.tmp 44)]), false, some (37, false)⟩,
  ⟨some 46, (.mov (.tmp 1)), false, some (37, false)⟩,
  ⟨some 47, (.mov (.tmp 2)), false, some (37, false)⟩,
  ⟨some 48, (.call i_transitlaw17_passes [(.tmp 45), (.tmp 46), (.tmp 47)]), true, some (37, false)⟩,
  ⟨some 49, (.un .not (.tmp 48)), true, some (37, false)⟩,
  ⟨some 50, (.pick (.tmp 37) (.const (.bool true)) (.tmp 49)), true, none⟩]
def c11_17 : ACode := (.seq (.region o11_16 [0, 1, 2, 7, 8, 50]) (.cond (.tmp 50) c11_15 .skip))
def w11_17 (P : Program) (Q : Exit → Slots → Mem → Prop) (M : Mem) (v0 : V) (v1 : V) (v2 : V) (v7 : V) (v8 : V) : Prop :=
  @OptVH (indexSlV 1 v7 v8 M) ⟨fun t25_3 =>
  @OptVH (loadV 1 false t25_3 M) ⟨fun t26_4 =>
  @OptBH (binV .lss .none t26_4 (.int .i64 0)) ⟨fun b27_5 =>
  @BIfH b27_5
  ⟨wpC P c11_15 Q [(0, v0), (1, v1), (2, v2), (7, v7), (8, v8), (50, (.bool true))] M⟩
  ⟨@OptVH (indexSlV 1 v7 v8 M) ⟨fun t31_12 =>
  @OptVH (loadV 1 false t31_12 M) ⟨fun t32_13 =>
  @OptVH (lenV v0 M) ⟨fun t34_15 =>
  @OptBH (binV .geq .none t32_13 t34_15) ⟨fun b35_16 =>
  @BIfH b35_16
  ⟨wpC P c11_15 Q [(0, v0), (1, v1), (2, v2), (7, v7), (8, v8), (50, (.bool true))] M⟩
  ⟨@OptVH (indexSlV 1 v7 v8 M) ⟨fun t41_23 =>
  @OptVH (loadV 1 false t41_23 M) ⟨fun t42_24 =>
  @OptVH (indexSlV 5 v0 t42_24 M) ⟨fun t43_25 =>
  @OptVH (loadV 5 true t43_25 M) ⟨fun t44_26 =>
  @CallH P i_trip_Pattern [t44_26] M ⟨fun t45_27 M27 =>
  @CallH P i_transitlaw17_passes [t45_27, v1, v2] M27 ⟨fun t48_30 M30 => @OptBH (some t48_30) ⟨fun b48_30 =>
  @OptBH (unV .not (.bool b48_30)) ⟨fun b49_31 =>
  @BIfH b49_31
  ⟨wpC P c11_15 Q [(0, v0), (1, v1), (2, v2), (7, v7), (8, v8), (50, (.bool b49_31))] M30⟩
  ⟨Q .normal [(0, v0), (1, v1), (2, v2), (7, v7), (8, v8), (50, (.bool b49_31))] M30⟩⟩⟩⟩⟩⟩⟩⟩⟩⟩⟩⟩⟩⟩⟩⟩⟩⟩
theorem e11_17 (P : Program) (Q : Exit → Slots → Mem → Prop) (s : Slots) (M : Mem) : wpC P c11_17 Q s M = w11_17 P Q M (sget s 0) (sget s 1) (sget s 2) (sget s 7) (sget s 8) := by kernel_rfl
def c11_18 : ACode := (.block 1 c11_17)
def o11_19 : List AOper := [⟨some 21, (.mov (.tmp 8)), false, none⟩,
  ⟨some 22, (.bin .add .none (.tmp 21) (.const (.int .i64 1))), false, none⟩,
  ⟨some 8, (.mov (.tmp 22)), false, none⟩]
def c11_20 : ACode := (.region o11_19 [0, 1, 2, 7, 8])
def w11_20 (_P : Program) (Q : Exit → Slots → Mem → Prop) (M : Mem) (v0 : V) (v1 : V) (v2 : V) (v7 : V) (v8 : V) : Prop :=
  @OptVH (binV .add .none v8 (.int .i64 1)) ⟨fun t22_2 =>
  Q .normal [(0, v0), (1, v1), (2, v2), (7, v7), (8, t22_2)] M⟩
theorem e11_20 (P : Program) (Q : Exit → Slots → Mem → Prop) (s : Slots) (M : Mem) : wpC P c11_20 Q s M = w11_20 P Q M (sget s 0) (sget s 1) (sget s 2) (sget s 7) (sget s 8) := by kernel_rfl
def c11_21 : ACode := (.seq c11_18 c11_20)
def c11_22 : ACode := (.seq c11_12 c11_21)
def c11_23 : ACode := (.loop [0, 1, 2, 7, 8] c11_22)
def c11_24 : ACode := (.block 0 c11_23)
def c11_25 : ACode := (.seq c11_10 c11_24)
def o11_26 : List AOper := [⟨some 51, (.call i_transitlaw17_exampleHolds []), true, none⟩,
  ⟨some 6, (.mov (.tmp 51)), true, none⟩]
def c11_27 : ACode := (.region o11_26 [6])
def w11_27 (P : Program) (Q : Exit → Slots → Mem → Prop) (M : Mem) : Prop :=
  @CallH P i_transitlaw17_exampleHolds [] M ⟨fun t51_1 M1 => @OptBH (some t51_1) ⟨fun b51_1 =>
  Q .normal [(6, (.bool b51_1))] M1⟩⟩
theorem e11_27 (P : Program) (Q : Exit → Slots → Mem → Prop) (s : Slots) (M : Mem) : wpC P c11_27 Q s M = w11_27 P Q M := by kernel_rfl
def c11_28 : ACode := (.seq c11_27 .ret)
def c11_29 : ACode := (.seq c11_25 c11_28)
def c11_30 : ACode := (.seq c11_8 c11_29)
def c11_31 : ACode := (.seq c11_6 c11_30)
def c11_32 : ACode := (.seq c11_1 c11_31)
def fn_transitlaw17_TripPasses : AFn := ⟨52, [(.tmp 6)], c11_32⟩
theorem fn_transitlaw17_TripPasses_ok : resFn PR h_transitlaw17_TripPasses i_transitlaw17_TripPasses = some fn_transitlaw17_TripPasses := by kernel_rfl

def h_transitlaw17_table : Hints := ⟨[(0, [0, 1]), (1, [0, 9]), (2, [4]), (3, [0, 5]), (4, [0, 5, 13]), (5, [0, 5]), (6, [0, 5, 21]), (7, [4]), (8, [4])], [(4, [0, 5])], []⟩
def o12_0 : List AOper := [⟨some 4, (.mov (.const (.bool false))), true, none⟩]
def c12_1 : ACode := (.region o12_0 [0, 1])
def w12_1 (_P : Program) (Q : Exit → Slots → Mem → Prop) (M : Mem) (v0 : V) (v1 : V) : Prop :=
  Q .normal [(0, v0), (1, v1)] M
theorem e12_1 (P : Program) (Q : Exit → Slots → Mem → Prop) (s : Slots) (M : Mem) : wpC P c12_1 Q s M = w12_1 P Q M (sget s 0) (sget s 1) := by kernel_rfl
def o12_2 : List AOper := [⟨some 4, (.mov (.const (.bool false))), true, none⟩]
def c12_3 : ACode := (.region o12_2 [4])
def w12_3 (_P : Program) (Q : Exit → Slots → Mem → Prop) (M : Mem) : Prop :=
  Q .normal [(4, (.bool false))] M
theorem e12_3 (P : Program) (Q : Exit → Slots → Mem → Prop) (s : Slots) (M : Mem) : wpC P c12_3 Q s M = w12_3 P Q M := by kernel_rfl
def c12_4 : ACode := (.seq c12_3 .ret)
def o12_5 : List AOper := [⟨some 6, (.mov (.tmp 0)), false, none⟩,
  ⟨some 7, (.lenSl (.tmp 6)), false, none⟩,
  ⟨some 8, (.mov (.tmp 1)), false, none⟩,
  ⟨some 9, (.bin .gtr .none (.tmp 7) (.tmp 8)), true, none⟩]
def c12_6 : ACode := (.seq (.region o12_5 [0, 9]) (.cond (.tmp 9) c12_4 .skip))
def w12_6 (P : Program) (Q : Exit → Slots → Mem → Prop) (M : Mem) (v0 : V) (v1 : V) : Prop :=
  @OptVH (lenV v0 M) ⟨fun t7_2 =>
  @OptBH (binV .gtr .none t7_2 v1) ⟨fun b9_4 =>
  @BIfH b9_4
  ⟨wpC P c12_4 Q [(0, v0), (9, (.bool b9_4))] M⟩
  ⟨Q .normal [(0, v0), (9, (.bool b9_4))] M⟩⟩⟩
theorem e12_6 (P : Program) (Q : Exit → Slots → Mem → Prop) (s : Slots) (M : Mem) : wpC P c12_6 Q s M = w12_6 P Q M (sget s 0) (sget s 1) := by kernel_rfl
def o12_7 : List AOper := [⟨some 5, (.mov (.const (.int .i64 0))), false, none⟩]
def c12_8 : ACode := (.region o12_7 [0, 5])
def w12_8 (_P : Program) (Q : Exit → Slots → Mem → Prop) (M : Mem) (v0 : V) : Prop :=
  Q .normal [(0, v0), (5, (.int .i64 0))] M
theorem e12_8 (P : Program) (Q : Exit → Slots → Mem → Prop) (s : Slots) (M : Mem) : wpC P c12_8 Q s M = w12_8 P Q M (sget s 0) := by kernel_rfl
def o12_9 : List AOper := [⟨some 10, (.mov (.tmp 5)), false, none⟩,
  ⟨some 11, (.mov (.tmp 0)), false, none⟩,
  ⟨some 12, (.lenSl (.tmp 11)), false, none⟩,
  ⟨some 13, (.bin .lss .none (.tmp 10) (.tmp 12)), true, none⟩]
def c12_10 : ACode := (.seq (.region o12_9 [0, 5, 13]) (.cond (.tmp 13) .skip (.exit 0)))
def w12_10 (_P : Program) (Q : Exit → Slots → Mem → Prop) (M : Mem) (v0 : V) (v5 : V) : Prop :=
  @OptVH (lenV v0 M) ⟨fun t12_3 =>
  @OptBH (binV .lss .none v5 t12_3) ⟨fun b13_4 =>
  @BIfH b13_4
  ⟨Q .normal [(0, v0), (5, v5), (13, (.bool b13_4))] M⟩
  ⟨Q (.exit 0) [(0, v0), (5, v5), (13, (.bool b13_4))] M⟩⟩⟩
theorem e12_10 (P : Program) (Q : Exit → Slots → Mem → Prop) (s : Slots) (M : Mem) : wpC P c12_10 Q s M = w12_10 P Q M (sget s 0) (sget s 5) := by kernel_rfl
def o12_11 : List AOper := [⟨some 4, (.mov (.const (.bool false))), true, none⟩]
def c12_12 : ACode := (.region o12_11 [4])
def w12_12 (_P : Program) (Q : Exit → Slots → Mem → Prop) (M : Mem) : Prop :=
  Q .normal [(4, (.bool false))] M
theorem e12_12 (P : Program) (Q : Exit → Slots → Mem → Prop) (s : Slots) (M : Mem) : wpC P c12_12 Q s M = w12_12 P Q M := by kernel_rfl
def c12_13 : ACode := (.seq c12_12 .ret)
def o12_14 : List AOper := [⟨some 16, (.mov (.tmp 0)), false, none⟩,
  ⟨some 17, (.mov (.tmp 5)), false, none⟩,
  ⟨some 18, (.indexSl 5 (.tmp 16) (.tmp 17)), false, none⟩,
  ⟨some 19, (.load 5 true (.tmp 18)), false, none⟩,
  ⟨some 20, (.call i_transitlaw17_small [(.tmp 19)]), true, none⟩,
  ⟨some 21, (.un .not (.tmp 20)), true, none⟩]
def c12_15 : ACode := (.seq (.region o12_14 [0, 5, 21]) (.cond (.tmp 21) c12_13 .skip))
def w12_15 (P : Program) (Q : Exit → Slots → Mem → Prop) (M : Mem) (v0 : V) (v5 : V) : Prop :=
  @OptVH (indexSlV 5 v0 v5 M) ⟨fun t18_3 =>
  @OptVH (loadV 5 true t18_3 M) ⟨fun t19_4 =>
  @CallH P i_transitlaw17_small [t19_4] M ⟨fun t20_5 M5 => @OptBH (some t20_5) ⟨fun b20_5 =>
  @OptBH (unV .not (.bool b20_5)) ⟨fun b21_6 =>
  @BIfH b21_6
  ⟨wpC P c12_13 Q [(0, v0), (5, v5), (21, (.bool b21_6))] M5⟩
  ⟨Q .normal [(0, v0), (5, v5), (21, (.bool b21_6))] M5⟩⟩⟩⟩⟩⟩
theorem e12_15 (P : Program) (Q : Exit → Slots → Mem → Prop) (s : Slots) (M : Mem) : wpC P c12_15 Q s M = w12_15 P Q M (sget s 0) (sget s 5) := by kernel_rfl
def c12_16 : ACode := (.block 1 c12_15)
def o12_17 : List AOper := [⟨some 14, (.mov (.tmp 5)), false, none⟩,
  ⟨some 15, (.bin .add .none (.tmp 14) (.const (.int .i64 1))), false, none⟩,
  ⟨some 5, (.mov (.tmp 15)), false, none⟩]
def c12_18 : ACode := (.region o12_17 [0, 5])
def w12_18 (_P : Program) (Q : Exit → Slots → Mem → Prop) (M : Mem) (v0 : V) (v5 : V) : Prop :=
  @OptVH (binV .add .none v5 (.int .i64 1)) ⟨fun t15_2 =>
  Q .normal [(0, v0), (5, t15_2)] M⟩
theorem e12_18 (P : Program) (Q : Exit → Slots → Mem → Prop) (s : Slots) (M : Mem) : wpC P c12_18 Q s M = w12_18 P Q M (sget s 0) (sget s 5) := by kernel_rfl
def c12_19 : ACode := (.seq c12_16 c12_18)
def c12_20 : ACode := (.seq c12_10 c12_19)
def c12_21 : ACode := (.loop [0, 5] c12_20)
def c12_22 : ACode := (.block 0 c12_21)
def c12_23 : ACode := (.seq c12_8 c12_22)
def o12_24 : List AOper := [⟨some 4, (.mov (.const (.bool true))), true, none⟩]
def c12_25 : ACode := (.region o12_24 [4])
def w12_25 (_P : Program) (Q : Exit → Slots → Mem → Prop) (M : Mem) : Prop :=
  Q .normal [(4, (.bool true))] M
theorem e12_25 (P : Program) (Q : Exit → Slots → Mem → Prop) (s : Slots) (M : Mem) : wpC P c12_25 Q s M = w12_25 P Q M := by kernel_rfl
def c12_26 : ACode := (.seq c12_25 .ret)
def c12_27 : ACode := (.seq c12_23 c12_26)
def c12_28 : ACode := (.seq c12_6 c12_27)
def c12_29 : ACode := (.seq c12_1 c12_28)
def fn_transitlaw17_table : AFn := ⟨22, [(.tmp 4)], c12_29⟩
theorem fn_transitlaw17_table_ok : resFn PR h_transitlaw17_table i_transitlaw17_table = some fn_transitlaw17_table := by kernel_rfl

def h_transitlaw17_exampleHolds : Hints := ⟨[(0, []), (1, [1]), (2, [1, 2]), (3, [1, 2, 3, 4]), (4, [1, 2, 3, 4, 5, 6]), (5, [1, 2, 3, 4, 5, 6, 7, 8]), (6, [1, 2, 3, 4, 5, 6, 7, 8, 29]), (7, [0]), (8, [0])], [], []⟩
def o13_0 : List AOper := [⟨some 0, (.mov (.const (.bool false))), true, none⟩]
def c13_1 : ACode := (.region o13_0 [])
def w13_1 (_P : Program) (Q : Exit → Slots → Mem → Prop) (M : Mem) : Prop :=
  Q .normal [] M
theorem e13_1 (P : Program) (Q : Exit → Slots → Mem → Prop) (s : Slots) (M : Mem) : wpC P c13_1 Q s M = w13_1 P Q M := by kernel_rfl
def o13_2 : List AOper := [⟨some 9, (.call i_transitlaw17_example []), false, none⟩,
  ⟨some 1, (.mov (.tmp 9)), false, none⟩]
def c13_3 : ACode := (.region o13_2 [1])
def w13_3 (P : Program) (Q : Exit → Slots → Mem → Prop) (M : Mem) : Prop :=
  @CallH P i_transitlaw17_example [] M ⟨fun t9_1 M1 =>
  Q .normal [(1, t9_1)] M1⟩
theorem e13_3 (P : Program) (Q : Exit → Slots → Mem → Prop) (s : Slots) (M : Mem) : wpC P c13_3 Q s M = w13_3 P Q M := by kernel_rfl
def o13_4 : List AOper := [⟨some 10, (.mov (.tmp 1)), false, none⟩,
  ⟨some 11, (.call i_trip_Groups [(.tmp 10)]), false, none⟩,
  ⟨some 2, (.mov (.tmp 11)), false, none⟩]
def c13_5 : ACode := (.region o13_4 [1, 2])
def w13_5 (P : Program) (Q : Exit → Slots → Mem → Prop) (M : Mem) (v1 : V) : Prop :=
  @CallH P i_trip_Groups [v1] M ⟨fun t11_2 M2 =>
  Q .normal [(1, v1), (2, t11_2)] M2⟩
theorem e13_5 (P : Program) (Q : Exit → Slots → Mem → Prop) (s : Slots) (M : Mem) : wpC P c13_5 Q s M = w13_5 P Q M (sget s 1) := by kernel_rfl
def o13_6 : List AOper := [⟨some 13, (.mov (.tmp 1)), false, none⟩,
  ⟨some 14, (.call i_trip_Check [(.tmp 13), (.const (.int .i64 3)), (.const (.int .i64 1)), (.const (.int .i64 1))]), false, none⟩,
  ⟨some 12, (.mov (.tmp 14)), false, none⟩,
  ⟨some 15, (.extract (.tmp 12) 0), false, none⟩,
  ⟨some 16, (.extract (.tmp 12) 1), false, none⟩,
  ⟨some 3, (.mov (.tmp 15)), false, none⟩,
  ⟨some 4, (.mov (.tmp 16)), false, none⟩]
def c13_7 : ACode := (.region o13_6 [1, 2, 3, 4])
def w13_7 (P : Program) (Q : Exit → Slots → Mem → Prop) (M : Mem) (v1 : V) (v2 : V) : Prop :=
  @CallH P i_trip_Check [v1, (.int .i64 3), (.int .i64 1), (.int .i64 1)] M ⟨fun t14_2 M2 =>
  @OptVH (extractV t14_2 0) ⟨fun t15_4 =>
  @OptVH (extractV t14_2 1) ⟨fun t16_5 =>
  Q .normal [(1, v1), (2, v2), (3, t15_4), (4, t16_5)] M2⟩⟩⟩
theorem e13_7 (P : Program) (Q : Exit → Slots → Mem → Prop) (s : Slots) (M : Mem) : wpC P c13_7 Q s M = w13_7 P Q M (sget s 1) (sget s 2) := by kernel_rfl
def o13_8 : List AOper := [⟨some 18, (.mov (.tmp 1)), false, none⟩,
  ⟨some 19, (.call i_trip_Check [(.tmp 18), (.const (.int .i64 2)), (.const (.int .i64 1)), (.const (.int .i64 1))]), false, none⟩,
  ⟨some 17, (.mov (.tmp 19)), false, none⟩,
  ⟨some 20, (.extract (.tmp 17) 0), false, none⟩,
  ⟨some 21, (.extract (.tmp 17) 1), false, none⟩,
  ⟨some 5, (.mov (.tmp 20)), false, none⟩,
  ⟨some 6, (.mov (.tmp 21)), false, none⟩]
def c13_9 : ACode := (.region o13_8 [1, 2, 3, 4, 5, 6])
def w13_9 (P : Program) (Q : Exit → Slots → Mem → Prop) (M : Mem) (v1 : V) (v2 : V) (v3 : V) (v4 : V) : Prop :=
  @CallH P i_trip_Check [v1, (.int .i64 2), (.int .i64 1), (.int .i64 1)] M ⟨fun t19_2 M2 =>
  @OptVH (extractV t19_2 0) ⟨fun t20_4 =>
  @OptVH (extractV t19_2 1) ⟨fun t21_5 =>
  Q .normal [(1, v1), (2, v2), (3, v3), (4, v4), (5, t20_4), (6, t21_5)] M2⟩⟩⟩
theorem e13_9 (P : Program) (Q : Exit → Slots → Mem → Prop) (s : Slots) (M : Mem) : wpC P c13_9 Q s M = w13_9 P Q M (sget s 1) (sget s 2) (sget s 3) (sget s 4) := by kernel_rfl
def o13_10 : List AOper := [⟨some 23, (.mov (.tmp 1)), false, none⟩,
  ⟨some 24, (.call i_trip_Find [(.tmp 23), (.const (.str [98]))]), false, none⟩,
  ⟨some 22, (.mov (.tmp 24)), false, none⟩,
  ⟨some 25, (.extract (.tmp 22) 0), false, none⟩,
  ⟨some 26, (.extract (.tmp 22) 1), true, none⟩,
  ⟨some 7, (.mov (.tmp 25)), false, none⟩,
  ⟨some 8, (.mov (.tmp 26)), true, none⟩]
def c13_11 : ACode := (.region o13_10 [1, 2, 3, 4, 5, 6, 7, 8])
def w13_11 (P : Program) (Q : Exit → Slots → Mem → Prop) (M : Mem) (v1 : V) (v2 : V) (v3 : V) (v4 : V) (v5 : V) (v6 : V) : Prop :=
  @CallH P i_trip_Find [v1, (.str [98])] M ⟨fun t24_2 M2 =>
  @OptVH (extractV t24_2 0) ⟨fun t25_4 =>
  @OptBH (extractV t24_2 1) ⟨fun b26_5 =>
  Q .normal [(1, v1), (2, v2), (3, v3), (4, v4), (5, v5), (6, v6), (7, t25_4), (8, (.bool b26_5))] M2⟩⟩⟩
theorem e13_11 (P : Program) (Q : Exit → Slots → Mem → Prop) (s : Slots) (M : Mem) : wpC P c13_11 Q s M = w13_11 P Q M (sget s 1) (sget s 2) (sget s 3) (sget s 4) (sget s 5) (sget s 6) := by kernel_rfl
def o13_12 : List AOper := [⟨some 0, (.mov (.const (.bool false))), true, none⟩]
def c13_13 : ACode := (.region o13_12 [0])
def w13_13 (_P : Program) (Q : Exit → Slots → Mem → Prop) (M : Mem) : Prop :=
  Q .normal [(0, (.bool false))] M
theorem e13_13 (P : Program) (Q : Exit → Slots → Mem → Prop) (s : Slots) (M : Mem) : wpC P c13_13 Q s M = w13_13 P Q M := by kernel_rfl
def c13_14 : ACode := (.seq c13_13 .ret)
def o13_15 : List AOper := [⟨some 27, (.mov (.tmp 2)), false, none⟩,
  ⟨some 28, (.lenSl (.tmp 27)), false, none⟩,
  ⟨some 29, (.bin .neq .none (.tmp 28) (.const (.int .i64 2))), true, none⟩]
def c13_16 : ACode := (.seq (.region o13_15 [1, 2, 3, 4, 5, 6, 7, 8, 29]) (.cond (.tmp 29) c13_14 .skip))
def w13_16 (P : Program) (Q : Exit → Slots → Mem → Prop) (M : Mem) (v1 : V) (v2 : V) (v3 : V) (v4 : V) (v5 : V) (v6 : V) (v7 : V) (v8 : V) : Prop :=
  @OptVH (lenV v2 M) ⟨fun t28_2 =>
  @OptBH (binV .neq .none t28_2 (.int .i64 2)) ⟨fun b29_3 =>
  @BIfH b29_3
  ⟨wpC P c13_14 Q [(1, v1), (2, v2), (3, v3), (4, v4), (5, v5), (6, v6), (7, v7), (8, v8), (29, (.bool b29_3))] M⟩
  ⟨Q .normal [(1, v1), (2, v2), (3, v3), (4, v4), (5, v5), (6, v6), (7, v7), (8, v8), (29, (.bool b29_3))] M⟩⟩⟩
theorem e13_16 (P : Program) (Q : Exit → Slots → Mem → Prop) (s : Slots) (M : Mem) : wpC P c13_16 Q s M = w13_16 P Q M (sget s 1) (sget s 2) (sget s 3) (sget s 4) (sget s 5) (sget s 6) (sget s 7) (sget s 8) := by kernel_rfl
def o13_17 : List AOper := [⟨some 30, (.mov (.tmp 2)), false, none⟩,
  ⟨some 31, (.indexSl 1 (.tmp 30) (.const (.int .i64 0))), false, none⟩,
  ⟨some 32, (.load 1 false (.tmp 31)), false, none⟩,
  ⟨some 33, (.buildSlice [(.int .i64 0), (.int .i64 0)] 1 2 [(0, (1, (.const (.int .i64 0)))), (1, (1, (.const (.int .i64 2))))]), false, none⟩,
  ⟨some 34, (.call i_transitlaw17_same [(.tmp 32), (.tmp 33)]), true, none⟩,
  ⟨some 35, (.mov (.tmp 34)), true, none⟩,
  ⟨some 36, (.mov (.tmp 2)), false, some (35, true)⟩,
  ⟨some 37, (.indexSl 1 (.tmp 36) (.const (.int .i64 1))), false, some (35, true)⟩,
  ⟨some 38, (.load 1 false (.tmp 37)), false, some (35, true)⟩,
  ⟨some 39, (.buildSlice [(.int .i64 0)] 1 1 [(0, (1, (.const (.int .i64 1))))]), false, some (35, true)⟩,
  ⟨some 40, (.call i_transitlaw17_same [(.tmp 38), (.tmp 39)]), true, some (35, true)⟩,
  ⟨some 41, (.pick (.tmp 35) (.tmp 40) (.const (.bool false))), true, none⟩,
  ⟨some 42, (.mov (.tmp 41)), true, none⟩,
  ⟨some 43, (.mov (.tmp 1)), false, some (42, true)⟩,
  ⟨some 44, (.call i_trip_Between [(.tmp 43), (.const (.int .i64 0)), (.const (.int .i64 2))]), false, some (42, true)⟩,
  ⟨some 45, (.buildSlice [(.int .i64 0), (.int .i64 0), (.int .i64 0)] 1 3 [(0, (1, (.const (.int .i64 0)))), (1, (1, (.const (.int .i64 1)))), (2, (1, (.const (.int .i64 2))))]), false, some (42, true)⟩,
  ⟨some 46, (.call i_transitlaw17_same [(.tmp 44), (.tmp 45)]), true, some (42, true)⟩,
  ⟨some 47, (.pick (.tmp 42) (.tmp 46) (.const (.bool false))), true, none⟩,
  ⟨some 48, (.mov (.tmp 47)), true, none⟩,
  ⟨some 49, (.mov (.tmp 1)), false, some (48, true)⟩,
  ⟨some 50, (.call i_trip_Between [(.tmp 49), (.const (.int .i64 1)), (.const (.int .i64 2))]), false, some (48, true)⟩,
  ⟨some 51, (.buildSlice [(.int .i64 0), (.int .i64 0)] 1 2 [(0, (1, (.const (.int .i64 0)))), (1, (1, (.const (.int .i64 2))))]), false, some (48, true)⟩,
  ⟨some 52, (.call i_transitlaw17_same [(.tmp 50), (.tmp 51)]), true, some (48, true)⟩,
  ⟨some 53, (.pick (.tmp 48) (.tmp 52) (.const (.bool false))), true, none⟩,
  ⟨some 54, (.mov (.tmp 53)), true, none⟩,
  ⟨some 55, (.mov (.tmp 1)), false, some (54, true)⟩,
  ⟨some 56, (.call i_trip_Between [(.tmp 55), (.const (.int .i64 0)), (.const (.int .i64 1))]), false, some (54, true)⟩,
  ⟨some 57, (.lenSl (.tmp 56)), false, some (54, true)⟩,
  ⟨some 58, (.bin .eql .none (.tmp 57) (.const (.int .i64 0))), true, some (54, true)⟩,
  ⟨some 59, (.pick (.tmp 54) (.tmp 58) (.const (.bool false))), true, none⟩,
  ⟨some 60, (.mov (.tmp 59)), true, none⟩,
  ⟨some 61, (.mov (.tmp 1)), false, some (60, true)⟩,
  ⟨some 62, (.indexSl 5 (.tmp 61) (.const (.int .i64 2))), false, some (60, true)⟩,
  ⟨some 63, (.load 5 true (.tmp 62)), false, some (60, true)⟩,
  ⟨some 64, (.mov (.tmp 1)), false, some (60, true)⟩,
  ⟨some 65, (.indexSl 5 (.tmp 64) (.const (.int .i64 0))), false, some (60, true)⟩,
  ⟨some 66, (.load 5 true (.tmp 65)), false, some (60, true)⟩,
  ⟨some 67, (.call i_trip_Overtakes [(.tmp 63), (.tmp 66)]), true, some (60, true)⟩,
  ⟨some 68, (.pick (.tmp 60) (.tmp 67) (.const (.bool false))), true, none⟩,
  ⟨some 69, (.mov (.tmp 68)), true, none⟩,
  ⟨some 70, (.mov (.tmp 1)), false, some (69, true)⟩,
  ⟨some 71, (.indexSl 5 (.tmp 70) (.const (.int .i64 0))), false, some (69, true)⟩,
  ⟨some 72, (.load 5 true (.tmp 71)), false, some (69, true)⟩,
  ⟨some 73, (.mov (.tmp 1)), false, some (69, true)⟩,
  ⟨some 74, (.indexSl 5 (.tmp 73) (.const (.int .i64 2))), false, some (69, true)⟩,
  ⟨some 75, (.load 5 true (.tmp 74)), false, some (69, true)⟩,
  ⟨some 76, (.call i_trip_Overtakes [(.tmp 72), (.tmp 75)]), true, some (69, true)⟩,
  ⟨some 77, (.un .not (.tmp 76)), true, some (69, true)⟩,
  ⟨some 78, (.pick (.tmp 69) (.tmp 77) (.const (.bool false))), true, none⟩,
  ⟨some 79, (.mov (.tmp 78)), true, none⟩,
  ⟨some 80, (.mov (.tmp 1)), false, some (79, true)⟩,
  ⟨some 81, (.indexSl 5 (.tmp 80) (.const (.int .i64 0))), false, some (79, true)⟩,
  ⟨some 82, (.load 5 true (.tmp 81)), false, some (79, true)⟩,
  ⟨some 83, (.mov (.tmp 1)), false, some (79, true)⟩,
  ⟨some 84, (.indexSl 5 (.tmp 83) (.const (.int .i64 1))), false, some (79, true)⟩,
  ⟨some 85, (.load 5 true (.tmp 84)), false, some (79, true)⟩,
  ⟨some 86, (.call i_trip_Overtakes [(.tmp 82), (.tmp 85)]), true, some (79, true)⟩,
  ⟨some 87, (.un .not (.tmp 86)), true, some (79, true)⟩,
  ⟨some 88, (.pick (.tmp 79) (.tmp 87) (.const (.bool false))), true, none⟩,
  ⟨some 89, (.mov (.tmp 88)), true, none⟩,
  ⟨some 90, (.mov (.tmp 3)), false, some (89, true)⟩,
  ⟨some 91, (.bin .eql .none (.tmp 90) (.const (.int .i64 0))), true, some (89, true)⟩,
  ⟨some 92, (.pick (.tmp 89) (.tmp 91) (.const (.bool false))), true, none⟩,
  ⟨some 93, (.mov (.tmp 92)), true, none⟩,
  ⟨some 94, (.mov (.tmp 4)), false, some (93, true)⟩,
  ⟨some 95, (.bin .eql .none (.tmp 94) (.const (.int .i64 0))), true, some (93, true)⟩,
  ⟨some 96, (.pick (.tmp 93) (.tmp 95) (.const (.bool false))), true, none⟩,
  ⟨some 97, (.mov (.tmp 96)), true, none⟩,
  ⟨some 98, (.mov (.tmp 5)), false, some (97, true)⟩,
  ⟨some 99, (.bin .eql .none (.tmp 98) (.const (.int .i64 0))), true, some (97, true)⟩,
  ⟨some 100, (.pick (.tmp 97) (.tmp 99) (.const (.bool false))), true, none⟩,
  ⟨some 101, (.mov (.tmp 100)), true, none⟩,
  ⟨some 102, (.mov (.tmp 6)), false, some (101, true)⟩,
  ⟨some 103, (.bin .eql .none (.tmp 102) (.const (.int .i64 9))), true, some (101, true)⟩,
  ⟨some 104, (.pick (.tmp 101) (.tmp 103) (.const (.bool false))), true, none⟩,
  ⟨some 105, (.mov (.tmp 104)), true, none⟩,
  ⟨some 106, (.mov (.tmp 7)), false, some (105, true)⟩,
  ⟨some 107, (.bin .eql .none (.tmp 106) (.const (.int .i64 1))), true, some (105, true)⟩,
  ⟨some 108, (.pick (.tmp 105) (.tmp 107) (.const (.bool false))), true, none⟩,
  ⟨some 109, (.mov (.tmp 108)), true, none⟩,
  ⟨some 110, (.mov (.tmp 8)), true, some (109, true)⟩,
  ⟨some 111, (.pick (.tmp 109) (.tmp 110) (.const (.bool false))), true, none⟩,
  ⟨some 112, (.mov (.tmp 111)), true, none⟩,
  ⟨some 113, (.mov (.tmp 1)), false, some (112, true)⟩,
  ⟨some 114, (.indexSl 5 (.tmp 113) (.const (.int .i64 0))), false, some (112, true)⟩,
  ⟨some 115, (.load 5 true (.tmp 114)), false, some (112, true)⟩,
  ⟨some 116, (.call i_trip_Pattern [(.tmp 115)]), false, some (112, true)⟩,
  ⟨some 117, (.buildSlice [(.int .i64 0), (.int .i64 0), (.int .i64 0)] 1 3 [(0, (1, (.const (.int .i64 0)))), (1, (1, (.const (.int .i64 1)))), (2, (1, (.const (.int .i64 2))))]), false, some (112, true)⟩,
  ⟨some 118, (.call i_transitlaw17_same [(.tmp 116), (.tmp 117)]), true, some (112, true)⟩,
  ⟨some 119, (.pick (.tmp 112) (.tmp 118) (.const (.bool false))), true, none⟩,
  ⟨some 120, (.mov (.tmp 119)), true, none⟩,
  ⟨some 121, (.mov (.tmp 1)), false, some (120, true)⟩,
  ⟨some 122, (.indexSl 5 (.tmp 121) (.const (.int .i64 0))), false, some (120, true)⟩,
  ⟨some 123, (.load 5 true (.tmp 122)), false, some (120, true)⟩,
  ⟨some 124, (.mov (.tmp 1)), false, some (120, true)⟩,
  ⟨some 125, (.indexSl 5 (.tmp 124) (.const (.int .i64 2))), false, some (120, true)⟩,
  ⟨some 126, (.load 5 true (.tmp 125)), false, some (120, true)⟩,
  ⟨some 127, (.call i_trip_SamePattern [(.tmp 123), (.tmp 126)]), true, some (120, true)⟩,
  ⟨some 128, (.pick (.tmp 120) (.tmp 127) (.const (.bool false))), true, none⟩,
  ⟨some 0, (.mov (.tmp 128)), true, none⟩]
def c13_18 : ACode := (.mixed o13_17 [true, true, true, true, false, true, true, true, true, true, false, true, true, true, true, true, false, true, true, true, true, true, false, true, true, true, false, true, true, true, true, true, true, true, true, true, true, false, true, true, true, true, true, true, true, true, false, true, true, true, true, true, true, true, true, true, false, true, true, true, true, true, true, true, true, true, true, true, true, true, true, true, true, true, true, true, true, true, true, true, true, true, true, true, true, true, true, true, false, true, true, true, true, true, true, true, true, false, true, true] [0])
def w13_18 (P : Program) (Q : Exit → Slots → Mem → Prop) (M : Mem) (v1 : V) (v2 : V) (v3 : V) (v4 : V) (v5 : V) (v6 : V) (v7 : V) (v8 : V) : Prop :=
  @OptVH (indexSlV 1 v2 (.int .i64 0) M) ⟨fun t31_2 =>
  @OptVH (loadV 1 false t31_2 M) ⟨fun t32_3 =>
  @OptVH (buildSliceV [(.int .i64 0), (.int .i64 0)] 1 2 [(0, 1, (.int .i64 0)), (1, 1, (.int .i64 2))]) ⟨fun t33_4 =>
  @CallH P i_transitlaw17_same [t32_3, t33_4] M ⟨fun t34_5 M5 => @OptBH (some t34_5) ⟨fun b34_5 =>
  @BIfH b34_5
  ⟨@OptVH (indexSlV 1 v2 (.int .i64 1) M5) ⟨fun t37_8 =>
  @OptVH (loadV 1 false t37_8 M5) ⟨fun t38_9 =>
  @OptVH (buildSliceV [(.int .i64 0)] 1 1 [(0, 1, (.int .i64 1))]) ⟨fun t39_10 =>
  @CallH P i_transitlaw17_same [t38_9, t39_10] M5 ⟨fun t40_11 M11 => @OptBH (some t40_11) ⟨fun b40_11 =>
  @BIfH b40_11
  ⟨@CallQ P i_trip_Between [v1, (.int .i64 0), (.int .i64 2)] M11 ⟨fun t44_15 M15 =>
  @OptVH (buildSliceV [(.int .i64 0), (.int .i64 0), (.int .i64 0)] 1 3 [(0, 1, (.int .i64 0)), (1, 1, (.int .i64 1)), (2, 1, (.int .i64 2))]) ⟨fun t45_16 =>
  @CallH P i_transitlaw17_same [t44_15, t45_16] M15 ⟨fun t46_17 M17 => @OptBH (some t46_17) ⟨fun b46_17 =>
  @BIfH b46_17
  ⟨@CallQ P i_trip_Between [v1, (.int .i64 1), (.int .i64 2)] M17 ⟨fun t50_21 M21 =>
  @OptVH (buildSliceV [(.int .i64 0), (.int .i64 0)] 1 2 [(0, 1, (.int .i64 0)), (1, 1, (.int .i64 2))]) ⟨fun t51_22 =>
  @CallH P i_transitlaw17_same [t50_21, t51_22] M21 ⟨fun t52_23 M23 => @OptBH (some t52_23) ⟨fun b52_23 =>
  @BIfH b52_23
  ⟨@CallH P i_trip_Between [v1, (.int .i64 0), (.int .i64 1)] M23 ⟨fun t56_27 M27 =>
  @OptVH (lenV t56_27 M27) ⟨fun t57_28 =>
  @OptBH (binV .eql .none t57_28 (.int .i64 0)) ⟨fun b58_29 =>
  @BIfH b58_29
  ⟨@OptVH (indexSlV 5 v1 (.int .i64 2) M27) ⟨fun t62_33 =>
  @OptVH (loadV 5 true t62_33 M27) ⟨fun t63_34 =>
  @OptVH (indexSlV 5 v1 (.int .i64 0) M27) ⟨fun t65_36 =>
  @OptVH (loadV 5 true t65_36 M27) ⟨fun t66_37 =>
  @CallH P i_trip_Overtakes [t63_34, t66_37] M27 ⟨fun t67_38 M38 => @OptBH (some t67_38) ⟨fun b67_38 =>
  @BIfH b67_38
  ⟨@OptVH (indexSlV 5 v1 (.int .i64 0) M38) ⟨fun t71_42 =>
  @OptVH (loadV 5 true t71_42 M38) ⟨fun t72_43 =>
  @OptVH (indexSlV 5 v1 (.int .i64 2) M38) ⟨fun t74_45 =>
  @OptVH (loadV 5 true t74_45 M38) ⟨fun t75_46 =>
  @CallH P i_trip_Overtakes [t72_43, t75_46] M38 ⟨fun t76_47 M47 => @OptBH (some t76_47) ⟨fun b76_47 =>
  @OptBH (unV .not (.bool b76_47)) ⟨fun b77_48 =>
  @BIfH b77_48
  ⟨@OptVH (indexSlV 5 v1 (.int .i64 0) M47) ⟨fun t81_52 =>
  @OptVH (loadV 5 true t81_52 M47) ⟨fun t82_53 =>
  @OptVH (indexSlV 5 v1 (.int .i64 1) M47) ⟨fun t84_55 =>
  @OptVH (loadV 5 true t84_55 M47) ⟨fun t85_56 =>
  @CallH P i_trip_Overtakes [t82_53, t85_56] M47 ⟨fun t86_57 M57 => @OptBH (some t86_57) ⟨fun b86_57 =>
  @OptBH (unV .not (.bool b86_57)) ⟨fun b87_58 =>
  @BIfH b87_58
  ⟨@OptBH (binV .eql .none v3 (.int .i64 0)) ⟨fun b91_62 =>
  @BIfH b91_62
  ⟨@OptBH (binV .eql .none v4 (.int .i64 0)) ⟨fun b95_66 =>
  @BIfH b95_66
  ⟨@OptBH (binV .eql .none v5 (.int .i64 0)) ⟨fun b99_70 =>
  @BIfH b99_70
  ⟨@OptBH (binV .eql .none v6 (.int .i64 9)) ⟨fun b103_74 =>
  @BIfH b103_74
  ⟨@OptBH (binV .eql .none v7 (.int .i64 1)) ⟨fun b107_78 =>
  @BIfH b107_78
  ⟨@OptBH (some v8) ⟨fun b110_81 =>
  @BIfH b110_81
  ⟨@OptVH (indexSlV 5 v1 (.int .i64 0) M57) ⟨fun t114_85 =>
  @OptVH (loadV 5 true t114_85 M57) ⟨fun t115_86 =>
  @CallQ P i_trip_Pattern [t115_86] M57 ⟨fun t116_87 M87 =>
  @OptVH (buildSliceV [(.int .i64 0), (.int .i64 0), (.int .i64 0)] 1 3 [(0, 1, (.int .i64 0)), (1, 1, (.int .i64 1)), (2, 1, (.int .i64 2))]) ⟨fun t117_88 =>
  @CallH P i_transitlaw17_same [t116_87, t117_88] M87 ⟨fun t118_89 M89 => @OptBH (some t118_89) ⟨fun b118_89 =>
  @BIfH b118_89
  ⟨@OptVH (indexSlV 5 v1 (.int .i64 0) M89) ⟨fun t122_93 =>
  @OptVH (loadV 5 true t122_93 M89) ⟨fun t123_94 =>
  @OptVH (indexSlV 5 v1 (.int .i64 2) M89) ⟨fun t125_96 =>
  @OptVH (loadV 5 true t125_96 M89) ⟨fun t126_97 =>
  @CallH P i_trip_SamePattern [t123_94, t126_97] M89 ⟨fun t127_98 M98 => @OptBH (some t127_98) ⟨fun b127_98 =>
  Q .normal [(0, (.bool b127_98))] M98⟩⟩⟩⟩⟩⟩⟩
  ⟨Q .normal [(0, (.bool false))] M89⟩⟩⟩⟩⟩⟩⟩⟩
  ⟨Q .normal [(0, (.bool false))] M57⟩⟩⟩
  ⟨Q .normal [(0, (.bool false))] M57⟩⟩⟩
  ⟨Q .normal [(0, (.bool false))] M57⟩⟩⟩
  ⟨Q .normal [(0, (.bool false))] M57⟩⟩⟩
  ⟨Q .normal [(0, (.bool false))] M57⟩⟩⟩
  ⟨Q .normal [(0, (.bool false))] M57⟩⟩⟩
  ⟨Q .normal [(0, (.bool false))] M57⟩⟩⟩⟩⟩⟩⟩⟩⟩
  ⟨Q .normal [(0, (.bool false))] M47⟩⟩⟩⟩⟩⟩⟩⟩⟩
  ⟨Q .normal [(0, (.bool false))] M38⟩⟩⟩⟩⟩⟩⟩⟩
  ⟨Q .normal [(0, (.bool false))] M27⟩⟩⟩⟩⟩
  ⟨Q .normal [(0, (.bool false))] M23⟩⟩⟩⟩⟩⟩
  ⟨Q .normal [(0, (.bool false))] M17⟩⟩⟩⟩⟩⟩
  ⟨Q .normal [(0, (.bool false))] M11⟩⟩⟩⟩⟩⟩⟩
  ⟨Q .normal [(0, (.bool false))] M5⟩⟩⟩⟩⟩⟩
theorem e13_18 (P : Program) (Q : Exit → Slots → Mem → Prop) (s : Slots) (M : Mem) : wpC P c13_18 Q s M = w13_18 P Q M (sget s 1) (sget s 2) (sget s 3) (sget s 4) (sget s 5) (sget s 6) (sget s 7) (sget s 8) := by kernel_rfl
def c13_19 : ACode := (.seq c13_18 .ret)
def c13_20 : ACode := (.seq c13_16 c13_19)
def c13_21 : ACode := (.seq c13_11 c13_20)
def c13_22 : ACode := (.seq c13_9 c13_21)
def c13_23 : ACode := (.seq c13_7 c13_22)
def c13_24 : ACode := (.seq c13_5 c13_23)
def c13_25 : ACode := (.seq c13_3 c13_24)
def c13_26 : ACode := (.seq c13_1 c13_25)
def fn_transitlaw17_exampleHolds : AFn := ⟨129, [(.tmp 0)], c13_26⟩
theorem fn_transitlaw17_exampleHolds_ok : resFn PR h_transitlaw17_exampleHolds i_transitlaw17_exampleHolds = some fn_transitlaw17_exampleHolds := by kernel_rfl

def h_trip_Check : Hints := ⟨[(0, [0, 1, 2, 3]), (1, [0, 1, 2, 3, 17]), (2, [8, 9]), (3, [0, 1, 2, 3, 10]), (4, [1, 2, 3, 10, 19, 20, 21]), (5, [1, 2, 3, 10, 19, 20, 21, 22]), (6, [1, 2, 3, 10, 11, 12, 19, 20, 21]), (7, [1, 2, 3, 10, 11, 12, 19, 20, 21, 26]), (8, [8, 9]), (9, [1, 2, 3, 10, 11, 12, 19, 20, 21, 32]), (10, [8, 9]), (11, [1, 2, 3, 10, 11, 12, 19, 20, 21, 38]), (12, [1, 2, 3, 10, 11, 12, 19, 20, 21, 38]), (13, [8, 9]), (14, [1, 2, 3, 10, 11, 12, 14, 19, 20, 21]), (15, [1, 2, 3, 10, 11, 12, 14, 19, 20, 21, 66]), (16, [8, 9]), (17, [1, 2, 3, 10, 19, 20, 21]), (18, [1, 2, 3, 10, 19, 20, 21]), (19, [8, 9])], [(5, [1, 2, 3, 10, 19, 20, 21])], []⟩
def o14_0 : List AOper := [⟨some 8, (.mov (.const (.int .i64 0))), false, none⟩,
  ⟨some 9, (.mov (.const (.int .i64 0))), false, none⟩]
def c14_1 : ACode := (.region o14_0 [0, 1, 2, 3])
def w14_1 (_P : Program) (Q : Exit → Slots → Mem → Prop) (M : Mem) (v0 : V) (v1 : V) (v2 : V) (v3 : V) : Prop :=
  Q .normal [(0, v0), (1, v1), (2, v2), (3, v3)] M
theorem e14_1 (P : Program) (Q : Exit → Slots → Mem → Prop) (s : Slots) (M : Mem) : wpC P c14_1 Q s M = w14_1 P Q M (sget s 0) (sget s 1) (sget s 2) (sget s 3) := by kernel_rfl
def o14_2 : List AOper := [⟨some 8, (.mov (.const (.int .i64 0))), false, none⟩,
  ⟨some 9, (.mov (.const (.int .i64 5))), false, none⟩]
def c14_3 : ACode := (.region o14_2 [8, 9])
def w14_3 (_P : Program) (Q : Exit → Slots → Mem → Prop) (M : Mem) : Prop :=
  Q .normal [(8, (.int .i64 0)), (9, (.int .i64 5))] M
theorem e14_3 (P : Program) (Q : Exit → Slots → Mem → Prop) (s : Slots) (M : Mem) : wpC P c14_3 Q s M = w14_3 P Q M := by kernel_rfl
def c14_4 : ACode := (.seq c14_3 .ret)
def o14_5 : List AOper := [⟨some 15, (.mov (.tmp 0)), false, none⟩,
  ⟨some 16, (.lenSl (.tmp 15)), false, none⟩,
  ⟨some 17, (.bin .gtr .none (.tmp 16) (.const (.int .i64 256))), true, none⟩]
def c14_6 : ACode := (.seq (.region o14_5 [0, 1, 2, 3, 17]) (.cond (.tmp 17) c14_4 .skip))
def w14_6 (P : Program) (Q : Exit → Slots → Mem → Prop) (M : Mem) (v0 : V) (v1 : V) (v2 : V) (v3 : V) : Prop :=
  @OptVH (lenV v0 M) ⟨fun t16_2 =>
  @OptBH (binV .gtr .none t16_2 (.int .i64 256)) ⟨fun b17_3 =>
  @BIfH b17_3
  ⟨wpC P c14_4 Q [(0, v0), (1, v1), (2, v2), (3, v3), (17, (.bool b17_3))] M⟩
  ⟨Q .normal [(0, v0), (1, v1), (2, v2), (3, v3), (17, (.bool b17_3))] M⟩⟩⟩
theorem e14_6 (P : Program) (Q : Exit → Slots → Mem → Prop) (s : Slots) (M : Mem) : wpC P c14_6 Q s M = w14_6 P Q M (sget s 0) (sget s 1) (sget s 2) (sget s 3) := by kernel_rfl
def o14_7 : List AOper := [⟨some 18, (.makeMap none), false, none⟩,
  ⟨some 10, (.mov (.tmp 18)), false, none⟩]
def c14_8 : ACode := (.region o14_7 [0, 1, 2, 3, 10])
def w14_8 (_P : Program) (Q : Exit → Slots → Mem → Prop) (M : Mem) (v0 : V) (v1 : V) (v2 : V) (v3 : V) : Prop :=
  @OptMH (makeMapV none M) ⟨fun t18_1 M1 =>
  Q .normal [(0, v0), (1, v1), (2, v2), (3, v3), (10, t18_1)] M1⟩
theorem e14_8 (P : Program) (Q : Exit → Slots → Mem → Prop) (s : Slots) (M : Mem) : wpC P c14_8 Q s M = w14_8 P Q M (sget s 0) (sget s 1) (sget s 2) (sget s 3) := by kernel_rfl
def o14_9 : List AOper := [⟨some 19, (.mov (.tmp 0)), false, none⟩,
  ⟨some 20, (.lenSl (.tmp 19)), false, none⟩,
  ⟨some 21, (.mov (.const (.int .i64 0))), false, none⟩]
def c14_10 : ACode := (.region o14_9 [1, 2, 3, 10, 19, 20, 21])
def w14_10 (_P : Program) (Q : Exit → Slots → Mem → Prop) (M : Mem) (v0 : V) (v1 : V) (v2 : V) (v3 : V) (v10 : V) : Prop :=
  @OptVH (lenV v0 M) ⟨fun t20_2 =>
  Q .normal [(1, v1), (2, v2), (3, v3), (10, v10), (19, v0), (20, t20_2), (21, (.int .i64 0))] M⟩
theorem e14_10 (P : Program) (Q : Exit → Slots → Mem → Prop) (s : Slots) (M : Mem) : wpC P c14_10 Q s M = w14_10 P Q M (sget s 0) (sget s 1) (sget s 2) (sget s 3) (sget s 10) := by kernel_rfl
def o14_11 : List AOper := [⟨some 22, (.bin .lss .none (.tmp 21) (.tmp 20)), false, none⟩]
def c14_12 : ACode := (.region o14_11 [1, 2, 3, 10, 19, 20, 21, 22])
def w14_12 (_P : Program) (Q : Exit → Slots → Mem → Prop) (M : Mem) (v1 : V) (v2 : V) (v3 : V) (v10 : V) (v19 : V) (v20 : V) (v21 : V) : Prop :=
  @OptVH (binV .lss .none v21 v20) ⟨fun t22_1 =>
  Q .normal [(1, v1), (2, v2), (3, v3), (10, v10), (19, v19), (20, v20), (21, v21), (22, t22_1)] M⟩
theorem e14_12 (P : Program) (Q : Exit → Slots → Mem → Prop) (s : Slots) (M : Mem) : wpC P c14_12 Q s M = w14_12 P Q M (sget s 1) (sget s 2) (sget s 3) (sget s 10) (sget s 19) (sget s 20) (sget s 21) := by kernel_rfl
def c14_13 : ACode := (.cond (.tmp 22) .skip (.exit 0))
def o14_14 : List AOper := [⟨some 23, (.mov (.tmp 21)), false, none⟩,
  ⟨some 24, (.indexSl 5 (.tmp 19) (.tmp 21)), false, none⟩,
  ⟨some 25, (.load 5 true (.tmp 24)), false, none⟩,
  ⟨some 12, (.alloc [(.str []), (.int .i64 0), (.int .i64 0), (.bool false), (.slice [] .nil)]), false, none⟩,
  ⟨some 11, (.mov (.tmp 23)), false, none⟩,
  ⟨none, (.store 5 (.tmp 12) (.tmp 25)), false, none⟩]
def c14_15 : ACode := (.region o14_14 [1, 2, 3, 10, 11, 12, 19, 20, 21])
def w14_15 (_P : Program) (Q : Exit → Slots → Mem → Prop) (M : Mem) (v1 : V) (v2 : V) (v3 : V) (v10 : V) (v19 : V) (v20 : V) (v21 : V) : Prop :=
  @OptVH (indexSlV 5 v19 v21 M) ⟨fun t24_2 =>
  @OptVH (loadV 5 true t24_2 M) ⟨fun t25_3 =>
  @OptMH (allocV [(.str []), (.int .i64 0), (.int .i64 0), (.bool false), (.slice [] .nil)] M) ⟨fun t12_4 M4 =>
  @OptMH (storeVM 5 t12_4 t25_3 M4) ⟨fun _tx_6 M6 =>
  Q .normal [(1, v1), (2, v2), (3, v3), (10, v10), (11, v21), (12, t12_4), (19, v19), (20, v20), (21, v21)] M6⟩⟩⟩⟩
theorem e14_15 (P : Program) (Q : Exit → Slots → Mem → Prop) (s : Slots) (M : Mem) : wpC P c14_15 Q s M = w14_15 P Q M (sget s 1) (sget s 2) (sget s 3) (sget s 10) (sget s 19) (sget s 20) (sget s 21) := by kernel_rfl
def o14_16 : List AOper := [⟨some 31, (.mov (.tmp 11)), false, none⟩,
  ⟨some 8, (.mov (.tmp 31)), false, none⟩,
  ⟨some 9, (.mov (.const (.int .i64 12))), false, none⟩]
def c14_17 : ACode := (.region o14_16 [8, 9])
def w14_17 (_P : Program) (Q : Exit → Slots → Mem → Prop) (M : Mem) (v11 : V) : Prop :=
  Q .normal [(8, v11), (9, (.int .i64 12))] M
theorem e14_17 (P : Program) (Q : Exit → Slots → Mem → Prop) (s : Slots) (M : Mem) : wpC P c14_17 Q s M = w14_17 P Q M (sget s 11) := by kernel_rfl
def c14_18 : ACode := (.seq c14_17 .ret)
def o14_19 : List AOper := [⟨some 37, (.mov (.tmp 11)), false, none⟩,
  ⟨some 8, (.mov (.tmp 37)), false, none⟩,
  ⟨some 9, (.mov (.const (.int .i64 6))), false, none⟩]
def c14_20 : ACode := (.region o14_19 [8, 9])
def w14_20 (_P : Program) (Q : Exit → Slots → Mem → Prop) (M : Mem) (v11 : V) : Prop :=
  Q .normal [(8, v11), (9, (.int .i64 6))] M
theorem e14_20 (P : Program) (Q : Exit → Slots → Mem → Prop) (s : Slots) (M : Mem) : wpC P c14_20 Q s M = w14_20 P Q M (sget s 11) := by kernel_rfl
def c14_21 : ACode := (.seq c14_20 .ret)
def o14_22 : List AOper := [⟨some 48, (.fieldAddr 2 (.tmp 12)), false, none⟩,
  ⟨some 49, (.load 1 false (.tmp 48)), false, none⟩,
  ⟨some 50, (.bin .lss .none (.tmp 49) (.const (.int .i64 0))), true, none⟩,
  ⟨some 51, (.mov (.tmp 50)), true, none⟩,
  ⟨some 52, (.fieldAddr 2 (.tmp 12)), false, some (51, false)⟩,
  ⟨some 53, (.load 1 false (.tmp 52)), false, some (51, false)⟩,
  ⟨some 54, (.mov (.tmp 3)), false, some (51, false)⟩,
  ⟨some 55, (.bin .geq .none (.tmp 53) (.tmp 54)), true, some (51, false)⟩,
  ⟨some 56, (.pick (.tmp 51) (.const (.bool true)) (.tmp 55)), true, none⟩,
  ⟨some 38, (.mov (.tmp 56)), true, none⟩]
def c14_23 : ACode := (.region o14_22 [1, 2, 3, 10, 11, 12, 19, 20, 21, 38])
def w14_23 (_P : Program) (Q : Exit → Slots → Mem → Prop) (M : Mem) (v1 : V) (v2 : V) (v3 : V) (v10 : V) (v11 : V) (v12 : V) (v19 : V) (v20 : V) (v21 : V) : Prop :=
  @OptVH (moveV 2 v12) ⟨fun t48_1 =>
  @OptVH (loadV 1 false t48_1 M) ⟨fun t49_2 =>
  @OptBH (binV .lss .none t49_2 (.int .i64 0)) ⟨fun b50_3 =>
  @BIfH b50_3
  ⟨Q .normal [(1, v1), (2, v2), (3, v3), (10, v10), (11, v11), (12, v12), (19, v19), (20, v20), (21, v21), (38, (.bool true))] M⟩
  ⟨@OptVH (moveV 2 v12) ⟨fun t52_7 =>
  @OptVH (loadV 1 false t52_7 M) ⟨fun t53_8 =>
  @OptBH (binV .geq .none t53_8 v3) ⟨fun b55_10 =>
  Q .normal [(1, v1), (2, v2), (3, v3), (10, v10), (11, v11), (12, v12), (19, v19), (20, v20), (21, v21), (38, (.bool b55_10))] M⟩⟩⟩⟩⟩⟩⟩
theorem e14_23 (P : Program) (Q : Exit → Slots → Mem → Prop) (s : Slots) (M : Mem) : wpC P c14_23 Q s M = w14_23 P Q M (sget s 1) (sget s 2) (sget s 3) (sget s 10) (sget s 11) (sget s 12) (sget s 19) (sget s 20) (sget s 21) := by kernel_rfl
def o14_24 : List AOper := [⟨some 39, (.fieldAddr 1 (.tmp 12)), false, none⟩,
  ⟨some 40, (.load 1 false (.tmp 39)), false, none⟩,
  ⟨some 41, (.bin .lss .none (.tmp 40) (.const (.int .i64 0))), true, none⟩,
  ⟨some 42, (.mov (.tmp 41)), true, none⟩,
  ⟨some 43, (.fieldAddr 1 (.tmp 12)), false, some (42, false)⟩,
  ⟨some 44, (.load 1 false (.tmp 43)), false, some (42, false)⟩,
  ⟨some 45, (.mov (.tmp 2)), false, some (42, false)⟩,
  ⟨some 46, (.bin .geq .none (.tmp 44) (.tmp 45)), true, some (42, false)⟩,
  ⟨some 47, (.pick (.tmp 42) (.const (.bool true)) (.tmp 46)), true, none⟩,
  ⟨some 38, (.mov (.tmp 47)), true, none⟩]
def c14_25 : ACode := (.seq (.region o14_24 [1, 2, 3, 10, 11, 12, 19, 20, 21, 38]) (.cond (.tmp 38) .skip c14_23))
def w14_25 (P : Program) (Q : Exit → Slots → Mem → Prop) (M : Mem) (v1 : V) (v2 : V) (v3 : V) (v10 : V) (v11 : V) (v12 : V) (v19 : V) (v20 : V) (v21 : V) : Prop :=
  @OptVH (moveV 1 v12) ⟨fun t39_1 =>
  @OptVH (loadV 1 false t39_1 M) ⟨fun t40_2 =>
  @OptBH (binV .lss .none t40_2 (.int .i64 0)) ⟨fun b41_3 =>
  @BIfH b41_3
  ⟨Q .normal [(1, v1), (2, v2), (3, v3), (10, v10), (11, v11), (12, v12), (19, v19), (20, v20), (21, v21), (38, (.bool true))] M⟩
  ⟨@OptVH (moveV 1 v12) ⟨fun t43_7 =>
  @OptVH (loadV 1 false t43_7 M) ⟨fun t44_8 =>
  @OptBH (binV .geq .none t44_8 v2) ⟨fun b46_10 =>
  @BIfH b46_10
  ⟨Q .normal [(1, v1), (2, v2), (3, v3), (10, v10), (11, v11), (12, v12), (19, v19), (20, v20), (21, v21), (38, (.bool b46_10))] M⟩
  ⟨wpC P c14_23 Q [(1, v1), (2, v2), (3, v3), (10, v10), (11, v11), (12, v12), (19, v19), (20, v20), (21, v21), (38, (.bool b46_10))] M⟩⟩⟩⟩⟩⟩⟩⟩
theorem e14_25 (P : Program) (Q : Exit → Slots → Mem → Prop) (s : Slots) (M : Mem) : wpC P c14_25 Q s M = w14_25 P Q M (sget s 1) (sget s 2) (sget s 3) (sget s 10) (sget s 11) (sget s 12) (sget s 19) (sget s 20) (sget s 21) := by kernel_rfl
def o14_26 : List AOper := [⟨some 57, (.mov (.tmp 11)), false, none⟩,
  ⟨some 8, (.mov (.tmp 57)), false, none⟩,
  ⟨some 9, (.mov (.const (.int .i64 9))), false, none⟩]
def c14_27 : ACode := (.region o14_26 [8, 9])
def w14_27 (_P : Program) (Q : Exit → Slots → Mem → Prop) (M : Mem) (v11 : V) : Prop :=
  Q .normal [(8, v11), (9, (.int .i64 9))] M
theorem e14_27 (P : Program) (Q : Exit → Slots → Mem → Prop) (s : Slots) (M : Mem) : wpC P c14_27 Q s M = w14_27 P Q M (sget s 11) := by kernel_rfl
def c14_28 : ACode := (.seq c14_27 .ret)
def c14_29 : ACode := (.cond (.tmp 38) c14_28 .skip)
def c14_30 : ACode := (.seq c14_25 c14_29)
def o14_31 : List AOper := [⟨some 33, (.mov (.tmp 10)), false, none⟩,
  ⟨some 34, (.fieldAddr 0 (.tmp 12)), false, none⟩,
  ⟨some 35, (.load 1 false (.tmp 34)), false, none⟩,
  ⟨some 36, (.lookup .str [(.bool false)] false false (.tmp 33) (.tmp 35)), true, none⟩,
  ⟨some 32, (.mov (.tmp 36)), true, none⟩]
def c14_32 : ACode := (.seq (.region o14_31 [1, 2, 3, 10, 11, 12, 19, 20, 21, 32]) (.cond (.tmp 32) c14_21 c14_30))
def w14_32 (P : Program) (Q : Exit → Slots → Mem → Prop) (M : Mem) (v1 : V) (v2 : V) (v3 : V) (v10 : V) (v11 : V) (v12 : V) (v19 : V) (v20 : V) (v21 : V) : Prop :=
  @OptVH (moveV 0 v12) ⟨fun t34_2 =>
  @OptVH (loadV 1 false t34_2 M) ⟨fun t35_3 =>
  @OptBH (lookupV .str [(.bool false)] false false v10 t35_3 M) ⟨fun b36_4 =>
  @BIfH b36_4
  ⟨wpC P c14_21 Q [(1, v1), (2, v2), (3, v3), (10, v10), (11, v11), (12, v12), (19, v19), (20, v20), (21, v21), (32, (.bool b36_4))] M⟩
  ⟨wpC P c14_30 Q [(1, v1), (2, v2), (3, v3), (10, v10), (11, v11), (12, v12), (19, v19), (20, v20), (21, v21), (32, (.bool b36_4))] M⟩⟩⟩⟩
theorem e14_32 (P : Program) (Q : Exit → Slots → Mem → Prop) (s : Slots) (M : Mem) : wpC P c14_32 Q s M = w14_32 P Q M (sget s 1) (sget s 2) (sget s 3) (sget s 10) (sget s 11) (sget s 12) (sget s 19) (sget s 20) (sget s 21) := by kernel_rfl
def o14_33 : List AOper := [⟨some 27, (.fieldAddr 0 (.tmp 12)), false, none⟩,
  ⟨some 28, (.load 1 false (.tmp 27)), false, none⟩,
  ⟨some 29, (.call i_ident_Valid [(.tmp 28)]), true, none⟩,
  ⟨some 30, (.un .not (.tmp 29)), true, none⟩,
  ⟨some 26, (.mov (.tmp 30)), true, none⟩]
def c14_34 : ACode := (.seq (.region o14_33 [1, 2, 3, 10, 11, 12, 19, 20, 21, 26]) (.cond (.tmp 26) c14_18 c14_32))
def w14_34 (P : Program) (Q : Exit → Slots → Mem → Prop) (M : Mem) (v1 : V) (v2 : V) (v3 : V) (v10 : V) (v11 : V) (v12 : V) (v19 : V) (v20 : V) (v21 : V) : Prop :=
  @OptVH (moveV 0 v12) ⟨fun t27_1 =>
  @OptVH (loadV 1 false t27_1 M) ⟨fun t28_2 =>
  @CallH P i_ident_Valid [t28_2] M ⟨fun t29_3 M3 => @OptBH (some t29_3) ⟨fun b29_3 =>
  @OptBH (unV .not (.bool b29_3)) ⟨fun b30_4 =>
  @BIfH b30_4
  ⟨wpC P c14_18 Q [(1, v1), (2, v2), (3, v3), (10, v10), (11, v11), (12, v12), (19, v19), (20, v20), (21, v21), (26, (.bool b30_4))] M3⟩
  ⟨wpC P c14_32 Q [(1, v1), (2, v2), (3, v3), (10, v10), (11, v11), (12, v12), (19, v19), (20, v20), (21, v21), (26, (.bool b30_4))] M3⟩⟩⟩⟩⟩⟩
theorem e14_34 (P : Program) (Q : Exit → Slots → Mem → Prop) (s : Slots) (M : Mem) : wpC P c14_34 Q s M = w14_34 P Q M (sget s 1) (sget s 2) (sget s 3) (sget s 10) (sget s 11) (sget s 12) (sget s 19) (sget s 20) (sget s 21) := by kernel_rfl
def c14_35 : ACode := (.block 2 c14_34)
def o14_36 : List AOper := [⟨some 59, (.fieldAddr 4 (.tmp 12)), false, none⟩,
  ⟨some 60, (.load 1 false (.tmp 59)), false, none⟩,
  ⟨some 61, (.mov (.tmp 1)), false, none⟩,
  ⟨some 62, (.call i_call_Check [(.tmp 60), (.tmp 61), (.const (.int .i64 0)), (.const (.int .i64 172800))]), false, none⟩,
  ⟨some 58, (.mov (.tmp 62)), false, none⟩,
  ⟨some 63, (.extract (.tmp 58) 0), false, none⟩,
  ⟨some 64, (.extract (.tmp 58) 1), false, none⟩,
  ⟨some 13, (.mov (.tmp 63)), false, none⟩,
  ⟨some 14, (.mov (.tmp 64)), false, none⟩]
def c14_37 : ACode := (.region o14_36 [1, 2, 3, 10, 11, 12, 14, 19, 20, 21])
def w14_37 (P : Program) (Q : Exit → Slots → Mem → Prop) (M : Mem) (v1 : V) (v2 : V) (v3 : V) (v10 : V) (v11 : V) (v12 : V) (v19 : V) (v20 : V) (v21 : V) : Prop :=
  @OptVH (moveV 4 v12) ⟨fun t59_1 =>
  @OptVH (loadV 1 false t59_1 M) ⟨fun t60_2 =>
  @CallH P i_call_Check [t60_2, v1, (.int .i64 0), (.int .i64 172800)] M ⟨fun t62_4 M4 =>
  @OptVH (extractV t62_4 0) ⟨fun _t63_6 =>
  @OptVH (extractV t62_4 1) ⟨fun t64_7 =>
  Q .normal [(1, v1), (2, v2), (3, v3), (10, v10), (11, v11), (12, v12), (14, t64_7), (19, v19), (20, v20), (21, v21)] M4⟩⟩⟩⟩⟩
theorem e14_37 (P : Program) (Q : Exit → Slots → Mem → Prop) (s : Slots) (M : Mem) : wpC P c14_37 Q s M = w14_37 P Q M (sget s 1) (sget s 2) (sget s 3) (sget s 10) (sget s 11) (sget s 12) (sget s 19) (sget s 20) (sget s 21) := by kernel_rfl
def o14_38 : List AOper := [⟨some 67, (.mov (.tmp 11)), false, none⟩,
  ⟨some 68, (.mov (.tmp 14)), false, none⟩,
  ⟨some 8, (.mov (.tmp 67)), false, none⟩,
  ⟨some 9, (.mov (.tmp 68)), false, none⟩]
def c14_39 : ACode := (.region o14_38 [8, 9])
def w14_39 (_P : Program) (Q : Exit → Slots → Mem → Prop) (M : Mem) (v11 : V) (v14 : V) : Prop :=
  Q .normal [(8, v11), (9, v14)] M
theorem e14_39 (P : Program) (Q : Exit → Slots → Mem → Prop) (s : Slots) (M : Mem) : wpC P c14_39 Q s M = w14_39 P Q M (sget s 11) (sget s 14) := by kernel_rfl
def c14_40 : ACode := (.seq c14_39 .ret)
def o14_41 : List AOper := [⟨some 65, (.mov (.tmp 14)), false, none⟩,
  ⟨some 66, (.bin .neq .none (.tmp 65) (.const (.int .i64 0))), true, none⟩]
def c14_42 : ACode := (.seq (.region o14_41 [1, 2, 3, 10, 11, 12, 14, 19, 20, 21, 66]) (.cond (.tmp 66) c14_40 .skip))
def w14_42 (P : Program) (Q : Exit → Slots → Mem → Prop) (M : Mem) (v1 : V) (v2 : V) (v3 : V) (v10 : V) (v11 : V) (v12 : V) (v14 : V) (v19 : V) (v20 : V) (v21 : V) : Prop :=
  @OptBH (binV .neq .none v14 (.int .i64 0)) ⟨fun b66_2 =>
  @BIfH b66_2
  ⟨wpC P c14_40 Q [(1, v1), (2, v2), (3, v3), (10, v10), (11, v11), (12, v12), (14, v14), (19, v19), (20, v20), (21, v21), (66, (.bool b66_2))] M⟩
  ⟨Q .normal [(1, v1), (2, v2), (3, v3), (10, v10), (11, v11), (12, v12), (14, v14), (19, v19), (20, v20), (21, v21), (66, (.bool b66_2))] M⟩⟩
theorem e14_42 (P : Program) (Q : Exit → Slots → Mem → Prop) (s : Slots) (M : Mem) : wpC P c14_42 Q s M = w14_42 P Q M (sget s 1) (sget s 2) (sget s 3) (sget s 10) (sget s 11) (sget s 12) (sget s 14) (sget s 19) (sget s 20) (sget s 21) := by kernel_rfl
def c14_43 : ACode := (.seq c14_37 c14_42)
def o14_44 : List AOper := [⟨some 69, (.mov (.tmp 10)), false, none⟩,
  ⟨some 70, (.fieldAddr 0 (.tmp 12)), false, none⟩,
  ⟨some 71, (.load 1 false (.tmp 70)), false, none⟩,
  ⟨none, (.mapUpdate .str (.tmp 69) (.tmp 71) (.const (.bool true))), false, none⟩]
def c14_45 : ACode := (.region o14_44 [1, 2, 3, 10, 19, 20, 21])
def w14_45 (_P : Program) (Q : Exit → Slots → Mem → Prop) (M : Mem) (v1 : V) (v2 : V) (v3 : V) (v10 : V) (v12 : V) (v19 : V) (v20 : V) (v21 : V) : Prop :=
  @OptVH (moveV 0 v12) ⟨fun t70_2 =>
  @OptVH (loadV 1 false t70_2 M) ⟨fun t71_3 =>
  @OptMH (mapUpdateVM .str v10 t71_3 (.bool true) M) ⟨fun _tx_4 M4 =>
  Q .normal [(1, v1), (2, v2), (3, v3), (10, v10), (19, v19), (20, v20), (21, v21)] M4⟩⟩⟩
theorem e14_45 (P : Program) (Q : Exit → Slots → Mem → Prop) (s : Slots) (M : Mem) : wpC P c14_45 Q s M = w14_45 P Q M (sget s 1) (sget s 2) (sget s 3) (sget s 10) (sget s 12) (sget s 19) (sget s 20) (sget s 21) := by kernel_rfl
def c14_46 : ACode := (.seq c14_43 c14_45)
def c14_47 : ACode := (.seq c14_35 c14_46)
def c14_48 : ACode := (.seq c14_15 c14_47)
def c14_49 : ACode := (.block 1 c14_48)
def o14_50 : List AOper := [⟨some 72, (.bin .add .none (.tmp 21) (.const (.int .i64 1))), false, none⟩,
  ⟨some 21, (.mov (.tmp 72)), false, none⟩]
def c14_51 : ACode := (.region o14_50 [1, 2, 3, 10, 19, 20, 21])
def w14_51 (_P : Program) (Q : Exit → Slots → Mem → Prop) (M : Mem) (v1 : V) (v2 : V) (v3 : V) (v10 : V) (v19 : V) (v20 : V) (v21 : V) : Prop :=
  @OptVH (binV .add .none v21 (.int .i64 1)) ⟨fun t72_1 =>
  Q .normal [(1, v1), (2, v2), (3, v3), (10, v10), (19, v19), (20, v20), (21, t72_1)] M⟩
theorem e14_51 (P : Program) (Q : Exit → Slots → Mem → Prop) (s : Slots) (M : Mem) : wpC P c14_51 Q s M = w14_51 P Q M (sget s 1) (sget s 2) (sget s 3) (sget s 10) (sget s 19) (sget s 20) (sget s 21) := by kernel_rfl
def c14_52 : ACode := (.seq c14_49 c14_51)
def c14_53 : ACode := (.seq c14_13 c14_52)
def c14_54 : ACode := (.seq c14_12 c14_53)
def c14_55 : ACode := (.loop [1, 2, 3, 10, 19, 20, 21] c14_54)
def c14_56 : ACode := (.block 0 c14_55)
def c14_57 : ACode := (.seq c14_10 c14_56)
def o14_58 : List AOper := [⟨some 8, (.mov (.const (.int .i64 0))), false, none⟩,
  ⟨some 9, (.mov (.const (.int .i64 0))), false, none⟩]
def c14_59 : ACode := (.region o14_58 [8, 9])
def w14_59 (_P : Program) (Q : Exit → Slots → Mem → Prop) (M : Mem) : Prop :=
  Q .normal [(8, (.int .i64 0)), (9, (.int .i64 0))] M
theorem e14_59 (P : Program) (Q : Exit → Slots → Mem → Prop) (s : Slots) (M : Mem) : wpC P c14_59 Q s M = w14_59 P Q M := by kernel_rfl
def c14_60 : ACode := (.seq c14_59 .ret)
def c14_61 : ACode := (.seq c14_57 c14_60)
def c14_62 : ACode := (.seq c14_8 c14_61)
def c14_63 : ACode := (.seq c14_6 c14_62)
def c14_64 : ACode := (.seq c14_1 c14_63)
def fn_trip_Check : AFn := ⟨73, [(.tmp 8), (.tmp 9)], c14_64⟩
theorem fn_trip_Check_ok : resFn PR h_trip_Check i_trip_Check = some fn_trip_Check := by kernel_rfl

def h_transitref17_Check : Hints := ⟨[(0, [0, 1, 2, 3]), (1, [0, 1, 2, 3, 14]), (2, [8, 9]), (3, [0, 1, 2, 3, 10]), (4, [0, 1, 2, 3, 10, 18]), (5, [0, 1, 2, 3, 10]), (6, [0, 1, 2, 3, 10, 11]), (7, [0, 1, 2, 3, 10, 11, 28]), (8, [8, 9]), (9, [8, 9])], [(4, [0, 1, 2, 3, 10])], []⟩
def o15_0 : List AOper := [⟨some 8, (.mov (.const (.int .i64 0))), false, none⟩,
  ⟨some 9, (.mov (.const (.int .i64 0))), false, none⟩]
def c15_1 : ACode := (.region o15_0 [0, 1, 2, 3])
def w15_1 (_P : Program) (Q : Exit → Slots → Mem → Prop) (M : Mem) (v0 : V) (v1 : V) (v2 : V) (v3 : V) : Prop :=
  Q .normal [(0, v0), (1, v1), (2, v2), (3, v3)] M
theorem e15_1 (P : Program) (Q : Exit → Slots → Mem → Prop) (s : Slots) (M : Mem) : wpC P c15_1 Q s M = w15_1 P Q M (sget s 0) (sget s 1) (sget s 2) (sget s 3) := by kernel_rfl
def o15_2 : List AOper := [⟨some 8, (.mov (.const (.int .i64 0))), false, none⟩,
  ⟨some 9, (.mov (.const (.int .i64 5))), false, none⟩]
def c15_3 : ACode := (.region o15_2 [8, 9])
def w15_3 (_P : Program) (Q : Exit → Slots → Mem → Prop) (M : Mem) : Prop :=
  Q .normal [(8, (.int .i64 0)), (9, (.int .i64 5))] M
theorem e15_3 (P : Program) (Q : Exit → Slots → Mem → Prop) (s : Slots) (M : Mem) : wpC P c15_3 Q s M = w15_3 P Q M := by kernel_rfl
def c15_4 : ACode := (.seq c15_3 .ret)
def o15_5 : List AOper := [⟨some 12, (.mov (.tmp 0)), false, none⟩,
  ⟨some 13, (.lenSl (.tmp 12)), false, none⟩,
  ⟨some 14, (.bin .gtr .none (.tmp 13) (.const (.int .i64 256))), true, none⟩]
def c15_6 : ACode := (.seq (.region o15_5 [0, 1, 2, 3, 14]) (.cond (.tmp 14) c15_4 .skip))
def w15_6 (P : Program) (Q : Exit → Slots → Mem → Prop) (M : Mem) (v0 : V) (v1 : V) (v2 : V) (v3 : V) : Prop :=
  @OptVH (lenV v0 M) ⟨fun t13_2 =>
  @OptBH (binV .gtr .none t13_2 (.int .i64 256)) ⟨fun b14_3 =>
  @BIfH b14_3
  ⟨wpC P c15_4 Q [(0, v0), (1, v1), (2, v2), (3, v3), (14, (.bool b14_3))] M⟩
  ⟨Q .normal [(0, v0), (1, v1), (2, v2), (3, v3), (14, (.bool b14_3))] M⟩⟩⟩
theorem e15_6 (P : Program) (Q : Exit → Slots → Mem → Prop) (s : Slots) (M : Mem) : wpC P c15_6 Q s M = w15_6 P Q M (sget s 0) (sget s 1) (sget s 2) (sget s 3) := by kernel_rfl
def o15_7 : List AOper := [⟨some 10, (.mov (.const (.int .i64 0))), false, none⟩]
def c15_8 : ACode := (.region o15_7 [0, 1, 2, 3, 10])
def w15_8 (_P : Program) (Q : Exit → Slots → Mem → Prop) (M : Mem) (v0 : V) (v1 : V) (v2 : V) (v3 : V) : Prop :=
  Q .normal [(0, v0), (1, v1), (2, v2), (3, v3), (10, (.int .i64 0))] M
theorem e15_8 (P : Program) (Q : Exit → Slots → Mem → Prop) (s : Slots) (M : Mem) : wpC P c15_8 Q s M = w15_8 P Q M (sget s 0) (sget s 1) (sget s 2) (sget s 3) := by kernel_rfl
def o15_9 : List AOper := [⟨some 15, (.mov (.tmp 10)), false, none⟩,
  ⟨some 16, (.mov (.tmp 0)), false, none⟩,
  ⟨some 17, (.lenSl (.tmp 16)), false, none⟩,
  ⟨some 18, (.bin .lss .none (.tmp 15) (.tmp 17)), true, none⟩]
def c15_10 : ACode := (.seq (.region o15_9 [0, 1, 2, 3, 10, 18]) (.cond (.tmp 18) .skip (.exit 0)))
def w15_10 (_P : Program) (Q : Exit → Slots → Mem → Prop) (M : Mem) (v0 : V) (v1 : V) (v2 : V) (v3 : V) (v10 : V) : Prop :=
  @OptVH (lenV v0 M) ⟨fun t17_3 =>
  @OptBH (binV .lss .none v10 t17_3) ⟨fun b18_4 =>
  @BIfH b18_4
  ⟨Q .normal [(0, v0), (1, v1), (2, v2), (3, v3), (10, v10), (18, (.bool b18_4))] M⟩
  ⟨Q (.exit 0) [(0, v0), (1, v1), (2, v2), (3, v3), (10, v10), (18, (.bool b18_4))] M⟩⟩⟩
theorem e15_10 (P : Program) (Q : Exit → Slots → Mem → Prop) (s : Slots) (M : Mem) : wpC P c15_10 Q s M = w15_10 P Q M (sget s 0) (sget s 1) (sget s 2) (sget s 3) (sget s 10) := by kernel_rfl
def o15_11 : List AOper := [⟨some 21, (.mov (.tmp 0)), false, none⟩,
  ⟨some 22, (.mov (.tmp 10)), false, none⟩,
  ⟨some 23, (.mov (.tmp 1)), false, none⟩,
  ⟨some 24, (.mov (.tmp 2)), false, none⟩,
  ⟨some 25, (.mov (.tmp 3)), false, none⟩,
  ⟨some 26, (.call i_transitref17_one [(.tmp 21), (.tmp 22), (.tmp 23), (.tmp 24), (.tmp 25)]), false, none⟩,
  ⟨some 11, (.mov (.tmp 26)), false, none⟩]
def c15_12 : ACode := (.region o15_11 [0, 1, 2, 3, 10, 11])
def w15_12 (P : Program) (Q : Exit → Slots → Mem → Prop) (M : Mem) (v0 : V) (v1 : V) (v2 : V) (v3 : V) (v10 : V) : Prop :=
  @CallH P i_transitref17_one [v0, v10, v1, v2, v3] M ⟨fun t26_6 M6 =>
  Q .normal [(0, v0), (1, v1), (2, v2), (3, v3), (10, v10), (11, t26_6)] M6⟩
theorem e15_12 (P : Program) (Q : Exit → Slots → Mem → Prop) (s : Slots) (M : Mem) : wpC P c15_12 Q s M = w15_12 P Q M (sget s 0) (sget s 1) (sget s 2) (sget s 3) (sget s 10) := by kernel_rfl
def o15_13 : List AOper := [⟨some 29, (.mov (.tmp 10)), false, none⟩,
  ⟨some 30, (.mov (.tmp 11)), false, none⟩,
  ⟨some 8, (.mov (.tmp 29)), false, none⟩,
  ⟨some 9, (.mov (.tmp 30)), false, none⟩]
def c15_14 : ACode := (.region o15_13 [8, 9])
def w15_14 (_P : Program) (Q : Exit → Slots → Mem → Prop) (M : Mem) (v10 : V) (v11 : V) : Prop :=
  Q .normal [(8, v10), (9, v11)] M
theorem e15_14 (P : Program) (Q : Exit → Slots → Mem → Prop) (s : Slots) (M : Mem) : wpC P c15_14 Q s M = w15_14 P Q M (sget s 10) (sget s 11) := by kernel_rfl
def c15_15 : ACode := (.seq c15_14 .ret)
def o15_16 : List AOper := [⟨some 27, (.mov (.tmp 11)), false, none⟩,
  ⟨some 28, (.bin .neq .none (.tmp 27) (.const (.int .i64 0))), true, none⟩]
def c15_17 : ACode := (.seq (.region o15_16 [0, 1, 2, 3, 10, 11, 28]) (.cond (.tmp 28) c15_15 .skip))
def w15_17 (P : Program) (Q : Exit → Slots → Mem → Prop) (M : Mem) (v0 : V) (v1 : V) (v2 : V) (v3 : V) (v10 : V) (v11 : V) : Prop :=
  @OptBH (binV .neq .none v11 (.int .i64 0)) ⟨fun b28_2 =>
  @BIfH b28_2
  ⟨wpC P c15_15 Q [(0, v0), (1, v1), (2, v2), (3, v3), (10, v10), (11, v11), (28, (.bool b28_2))] M⟩
  ⟨Q .normal [(0, v0), (1, v1), (2, v2), (3, v3), (10, v10), (11, v11), (28, (.bool b28_2))] M⟩⟩
theorem e15_17 (P : Program) (Q : Exit → Slots → Mem → Prop) (s : Slots) (M : Mem) : wpC P c15_17 Q s M = w15_17 P Q M (sget s 0) (sget s 1) (sget s 2) (sget s 3) (sget s 10) (sget s 11) := by kernel_rfl
def c15_18 : ACode := (.seq c15_12 c15_17)
def c15_19 : ACode := (.block 1 c15_18)
def o15_20 : List AOper := [⟨some 19, (.mov (.tmp 10)), false, none⟩,
  ⟨some 20, (.bin .add .none (.tmp 19) (.const (.int .i64 1))), false, none⟩,
  ⟨some 10, (.mov (.tmp 20)), false, none⟩]
def c15_21 : ACode := (.region o15_20 [0, 1, 2, 3, 10])
def w15_21 (_P : Program) (Q : Exit → Slots → Mem → Prop) (M : Mem) (v0 : V) (v1 : V) (v2 : V) (v3 : V) (v10 : V) : Prop :=
  @OptVH (binV .add .none v10 (.int .i64 1)) ⟨fun t20_2 =>
  Q .normal [(0, v0), (1, v1), (2, v2), (3, v3), (10, t20_2)] M⟩
theorem e15_21 (P : Program) (Q : Exit → Slots → Mem → Prop) (s : Slots) (M : Mem) : wpC P c15_21 Q s M = w15_21 P Q M (sget s 0) (sget s 1) (sget s 2) (sget s 3) (sget s 10) := by kernel_rfl
def c15_22 : ACode := (.seq c15_19 c15_21)
def c15_23 : ACode := (.seq c15_10 c15_22)
def c15_24 : ACode := (.loop [0, 1, 2, 3, 10] c15_23)
def c15_25 : ACode := (.block 0 c15_24)
def c15_26 : ACode := (.seq c15_8 c15_25)
def o15_27 : List AOper := [⟨some 8, (.mov (.const (.int .i64 0))), false, none⟩,
  ⟨some 9, (.mov (.const (.int .i64 0))), false, none⟩]
def c15_28 : ACode := (.region o15_27 [8, 9])
def w15_28 (_P : Program) (Q : Exit → Slots → Mem → Prop) (M : Mem) : Prop :=
  Q .normal [(8, (.int .i64 0)), (9, (.int .i64 0))] M
theorem e15_28 (P : Program) (Q : Exit → Slots → Mem → Prop) (s : Slots) (M : Mem) : wpC P c15_28 Q s M = w15_28 P Q M := by kernel_rfl
def c15_29 : ACode := (.seq c15_28 .ret)
def c15_30 : ACode := (.seq c15_26 c15_29)
def c15_31 : ACode := (.seq c15_6 c15_30)
def c15_32 : ACode := (.seq c15_1 c15_31)
def fn_transitref17_Check : AFn := ⟨31, [(.tmp 8), (.tmp 9)], c15_32⟩
theorem fn_transitref17_Check_ok : resFn PR h_transitref17_Check i_transitref17_Check = some fn_transitref17_Check := by kernel_rfl

def h_trip_Find : Hints := ⟨[(0, [0, 1]), (1, [0, 1, 8, 9]), (2, [0, 1, 8, 9, 10]), (3, [0, 1, 6, 8, 9]), (4, [0, 1, 6, 8, 9, 18]), (5, [4, 5]), (6, [0, 1, 8, 9]), (7, [4, 5])], [(2, [0, 1, 8, 9])], []⟩
def o16_0 : List AOper := [⟨some 4, (.mov (.const (.int .i64 0))), false, none⟩,
  ⟨some 5, (.mov (.const (.bool false))), true, none⟩]
def c16_1 : ACode := (.region o16_0 [0, 1])
def w16_1 (_P : Program) (Q : Exit → Slots → Mem → Prop) (M : Mem) (v0 : V) (v1 : V) : Prop :=
  Q .normal [(0, v0), (1, v1)] M
theorem e16_1 (P : Program) (Q : Exit → Slots → Mem → Prop) (s : Slots) (M : Mem) : wpC P c16_1 Q s M = w16_1 P Q M (sget s 0) (sget s 1) := by kernel_rfl
def o16_2 : List AOper := [⟨some 7, (.mov (.tmp 0)), false, none⟩,
  ⟨some 8, (.lenSl (.tmp 7)), false, none⟩,
  ⟨some 9, (.mov (.const (.int .i64 0))), false, none⟩]
def c16_3 : ACode := (.region o16_2 [0, 1, 8, 9])
def w16_3 (_P : Program) (Q : Exit → Slots → Mem → Prop) (M : Mem) (v0 : V) (v1 : V) : Prop :=
  @OptVH (lenV v0 M) ⟨fun t8_2 =>
  Q .normal [(0, v0), (1, v1), (8, t8_2), (9, (.int .i64 0))] M⟩
theorem e16_3 (P : Program) (Q : Exit → Slots → Mem → Prop) (s : Slots) (M : Mem) : wpC P c16_3 Q s M = w16_3 P Q M (sget s 0) (sget s 1) := by kernel_rfl
def o16_4 : List AOper := [⟨some 10, (.bin .lss .none (.tmp 9) (.tmp 8)), false, none⟩]
def c16_5 : ACode := (.region o16_4 [0, 1, 8, 9, 10])
def w16_5 (_P : Program) (Q : Exit → Slots → Mem → Prop) (M : Mem) (v0 : V) (v1 : V) (v8 : V) (v9 : V) : Prop :=
  @OptVH (binV .lss .none v9 v8) ⟨fun t10_1 =>
  Q .normal [(0, v0), (1, v1), (8, v8), (9, v9), (10, t10_1)] M⟩
theorem e16_5 (P : Program) (Q : Exit → Slots → Mem → Prop) (s : Slots) (M : Mem) : wpC P c16_5 Q s M = w16_5 P Q M (sget s 0) (sget s 1) (sget s 8) (sget s 9) := by kernel_rfl
def c16_6 : ACode := (.cond (.tmp 10) .skip (.exit 0))
def o16_7 : List AOper := [⟨some 11, (.mov (.tmp 9)), false, none⟩,
  ⟨some 6, (.mov (.tmp 11)), false, none⟩]
def c16_8 : ACode := (.region o16_7 [0, 1, 6, 8, 9])
def w16_8 (_P : Program) (Q : Exit → Slots → Mem → Prop) (M : Mem) (v0 : V) (v1 : V) (v8 : V) (v9 : V) : Prop :=
  Q .normal [(0, v0), (1, v1), (6, v9), (8, v8), (9, v9)] M
theorem e16_8 (P : Program) (Q : Exit → Slots → Mem → Prop) (s : Slots) (M : Mem) : wpC P c16_8 Q s M = w16_8 P Q M (sget s 0) (sget s 1) (sget s 8) (sget s 9) := by kernel_rfl
def o16_9 : List AOper := [⟨some 19, (.mov (.tmp 6)), false, none⟩,
  ⟨some 4, (.mov (.tmp 19)), false, none⟩,
  ⟨some 5, (.mov (.const (.bool true))), true, none⟩]
def c16_10 : ACode := (.region o16_9 [4, 5])
def w16_10 (_P : Program) (Q : Exit → Slots → Mem → Prop) (M : Mem) (v6 : V) : Prop :=
  Q .normal [(4, v6), (5, (.bool true))] M
theorem e16_10 (P : Program) (Q : Exit → Slots → Mem → Prop) (s : Slots) (M : Mem) : wpC P c16_10 Q s M = w16_10 P Q M (sget s 6) := by kernel_rfl
def c16_11 : ACode := (.seq c16_10 .ret)
def o16_12 : List AOper := [⟨some 12, (.mov (.tmp 0)), false, none⟩,
  ⟨some 13, (.mov (.tmp 6)), false, none⟩,
  ⟨some 14, (.indexSl 5 (.tmp 12) (.tmp 13)), false, none⟩,
  ⟨some 15, (.fieldAddr 0 (.tmp 14)), false, none⟩,
  ⟨some 16, (.load 1 false (.tmp 15)), false, none⟩,
  ⟨some 17, (.mov (.tmp 1)), false, none⟩,
  ⟨some 18, (.bin .eql .none (.tmp 16) (.tmp 17)), true, none⟩]
def c16_13 : ACode := (.seq (.region o16_12 [0, 1, 6, 8, 9, 18]) (.cond (.tmp 18) c16_11 .skip))
def w16_13 (P : Program) (Q : Exit → Slots → Mem → Prop) (M : Mem) (v0 : V) (v1 : V) (v6 : V) (v8 : V) (v9 : V) : Prop :=
  @OptVH (indexSlV 5 v0 v6 M) ⟨fun t14_3 =>
  @OptVH (moveV 0 t14_3) ⟨fun t15_4 =>
  @OptVH (loadV 1 false t15_4 M) ⟨fun t16_5 =>
  @OptBH (binV .eql .none t16_5 v1) ⟨fun b18_7 =>
  @BIfH b18_7
  ⟨wpC P c16_11 Q [(0, v0), (1, v1), (6, v6), (8, v8), (9, v9), (18, (.bool b18_7))] M⟩
  ⟨Q .normal [(0, v0), (1, v1), (6, v6), (8, v8), (9, v9), (18, (.bool b18_7))] M⟩⟩⟩⟩⟩
theorem e16_13 (P : Program) (Q : Exit → Slots → Mem → Prop) (s : Slots) (M : Mem) : wpC P c16_13 Q s M = w16_13 P Q M (sget s 0) (sget s 1) (sget s 6) (sget s 8) (sget s 9) := by kernel_rfl
def c16_14 : ACode := (.seq c16_8 c16_13)
def c16_15 : ACode := (.block 1 c16_14)
def o16_16 : List AOper := [⟨some 20, (.bin .add .none (.tmp 9) (.const (.int .i64 1))), false, none⟩,
  ⟨some 9, (.mov (.tmp 20)), false, none⟩]
def c16_17 : ACode := (.region o16_16 [0, 1, 8, 9])
def w16_17 (_P : Program) (Q : Exit → Slots → Mem → Prop) (M : Mem) (v0 : V) (v1 : V) (v8 : V) (v9 : V) : Prop :=
  @OptVH (binV .add .none v9 (.int .i64 1)) ⟨fun t20_1 =>
  Q .normal [(0, v0), (1, v1), (8, v8), (9, t20_1)] M⟩
theorem e16_17 (P : Program) (Q : Exit → Slots → Mem → Prop) (s : Slots) (M : Mem) : wpC P c16_17 Q s M = w16_17 P Q M (sget s 0) (sget s 1) (sget s 8) (sget s 9) := by kernel_rfl
def c16_18 : ACode := (.seq c16_15 c16_17)
def c16_19 : ACode := (.seq c16_6 c16_18)
def c16_20 : ACode := (.seq c16_5 c16_19)
def c16_21 : ACode := (.loop [0, 1, 8, 9] c16_20)
def c16_22 : ACode := (.block 0 c16_21)
def c16_23 : ACode := (.seq c16_3 c16_22)
def o16_24 : List AOper := [⟨some 4, (.mov (.const (.int .i64 0))), false, none⟩,
  ⟨some 5, (.mov (.const (.bool false))), true, none⟩]
def c16_25 : ACode := (.region o16_24 [4, 5])
def w16_25 (_P : Program) (Q : Exit → Slots → Mem → Prop) (M : Mem) : Prop :=
  Q .normal [(4, (.int .i64 0)), (5, (.bool false))] M
theorem e16_25 (P : Program) (Q : Exit → Slots → Mem → Prop) (s : Slots) (M : Mem) : wpC P c16_25 Q s M = w16_25 P Q M := by kernel_rfl
def c16_26 : ACode := (.seq c16_25 .ret)
def c16_27 : ACode := (.seq c16_23 c16_26)
def c16_28 : ACode := (.seq c16_1 c16_27)
def fn_trip_Find : AFn := ⟨21, [(.tmp 4), (.tmp 5)], c16_28⟩
theorem fn_trip_Find_ok : resFn PR h_trip_Find i_trip_Find = some fn_trip_Find := by kernel_rfl

def h_transitref17_Find : Hints := ⟨[(0, [0, 1]), (1, [0, 1, 5]), (2, [0, 1, 5, 9]), (3, [0, 1, 5]), (4, [0, 1, 5, 18]), (5, [4]), (6, [4])], [(2, [0, 1, 5])], []⟩
def o17_0 : List AOper := [⟨some 4, (.mov (.const (.int .i64 0))), false, none⟩]
def c17_1 : ACode := (.region o17_0 [0, 1])
def w17_1 (_P : Program) (Q : Exit → Slots → Mem → Prop) (M : Mem) (v0 : V) (v1 : V) : Prop :=
  Q .normal [(0, v0), (1, v1)] M
theorem e17_1 (P : Program) (Q : Exit → Slots → Mem → Prop) (s : Slots) (M : Mem) : wpC P c17_1 Q s M = w17_1 P Q M (sget s 0) (sget s 1) := by kernel_rfl
def o17_2 : List AOper := [⟨some 5, (.mov (.const (.int .i64 0))), false, none⟩]
def c17_3 : ACode := (.region o17_2 [0, 1, 5])
def w17_3 (_P : Program) (Q : Exit → Slots → Mem → Prop) (M : Mem) (v0 : V) (v1 : V) : Prop :=
  Q .normal [(0, v0), (1, v1), (5, (.int .i64 0))] M
theorem e17_3 (P : Program) (Q : Exit → Slots → Mem → Prop) (s : Slots) (M : Mem) : wpC P c17_3 Q s M = w17_3 P Q M (sget s 0) (sget s 1) := by kernel_rfl
def o17_4 : List AOper := [⟨some 6, (.mov (.tmp 5)), false, none⟩,
  ⟨some 7, (.mov (.tmp 0)), false, none⟩,
  ⟨some 8, (.lenSl (.tmp 7)), false, none⟩,
  ⟨some 9, (.bin .lss .none (.tmp 6) (.tmp 8)), true, none⟩]
def c17_5 : ACode := (.seq (.region o17_4 [0, 1, 5, 9]) (.cond (.tmp 9) .skip (.exit 0)))
def w17_5 (_P : Program) (Q : Exit → Slots → Mem → Prop) (M : Mem) (v0 : V) (v1 : V) (v5 : V) : Prop :=
  @OptVH (lenV v0 M) ⟨fun t8_3 =>
  @OptBH (binV .lss .none v5 t8_3) ⟨fun b9_4 =>
  @BIfH b9_4
  ⟨Q .normal [(0, v0), (1, v1), (5, v5), (9, (.bool b9_4))] M⟩
  ⟨Q (.exit 0) [(0, v0), (1, v1), (5, v5), (9, (.bool b9_4))] M⟩⟩⟩
theorem e17_5 (P : Program) (Q : Exit → Slots → Mem → Prop) (s : Slots) (M : Mem) : wpC P c17_5 Q s M = w17_5 P Q M (sget s 0) (sget s 1) (sget s 5) := by kernel_rfl
def o17_6 : List AOper := [⟨some 19, (.mov (.tmp 5)), false, none⟩,
  ⟨some 4, (.mov (.tmp 19)), false, none⟩]
def c17_7 : ACode := (.region o17_6 [4])
def w17_7 (_P : Program) (Q : Exit → Slots → Mem → Prop) (M : Mem) (v5 : V) : Prop :=
  Q .normal [(4, v5)] M
theorem e17_7 (P : Program) (Q : Exit → Slots → Mem → Prop) (s : Slots) (M : Mem) : wpC P c17_7 Q s M = w17_7 P Q M (sget s 5) := by kernel_rfl
def c17_8 : ACode := (.seq c17_7 .ret)
def o17_9 : List AOper := [⟨some 12, (.mov (.tmp 0)), false, none⟩,
  ⟨some 13, (.mov (.tmp 5)), false, none⟩,
  ⟨some 14, (.indexSl 5 (.tmp 12) (.tmp 13)), false, none⟩,
  ⟨some 15, (.fieldAddr 0 (.tmp 14)), false, none⟩,
  ⟨some 16, (.load 1 false (.tmp 15)), false, none⟩,
  ⟨some 17, (.mov (.tmp 1)), false, none⟩,
  ⟨some 18, (.bin .eql .none (.tmp 16) (.tmp 17)), true, none⟩]
def c17_10 : ACode := (.seq (.region o17_9 [0, 1, 5, 18]) (.cond (.tmp 18) c17_8 .skip))
def w17_10 (P : Program) (Q : Exit → Slots → Mem → Prop) (M : Mem) (v0 : V) (v1 : V) (v5 : V) : Prop :=
  @OptVH (indexSlV 5 v0 v5 M) ⟨fun t14_3 =>
  @OptVH (moveV 0 t14_3) ⟨fun t15_4 =>
  @OptVH (loadV 1 false t15_4 M) ⟨fun t16_5 =>
  @OptBH (binV .eql .none t16_5 v1) ⟨fun b18_7 =>
  @BIfH b18_7
  ⟨wpC P c17_8 Q [(0, v0), (1, v1), (5, v5), (18, (.bool b18_7))] M⟩
  ⟨Q .normal [(0, v0), (1, v1), (5, v5), (18, (.bool b18_7))] M⟩⟩⟩⟩⟩
theorem e17_10 (P : Program) (Q : Exit → Slots → Mem → Prop) (s : Slots) (M : Mem) : wpC P c17_10 Q s M = w17_10 P Q M (sget s 0) (sget s 1) (sget s 5) := by kernel_rfl
def c17_11 : ACode := (.block 1 c17_10)
def o17_12 : List AOper := [⟨some 10, (.mov (.tmp 5)), false, none⟩,
  ⟨some 11, (.bin .add .none (.tmp 10) (.const (.int .i64 1))), false, none⟩,
  ⟨some 5, (.mov (.tmp 11)), false, none⟩]
def c17_13 : ACode := (.region o17_12 [0, 1, 5])
def w17_13 (_P : Program) (Q : Exit → Slots → Mem → Prop) (M : Mem) (v0 : V) (v1 : V) (v5 : V) : Prop :=
  @OptVH (binV .add .none v5 (.int .i64 1)) ⟨fun t11_2 =>
  Q .normal [(0, v0), (1, v1), (5, t11_2)] M⟩
theorem e17_13 (P : Program) (Q : Exit → Slots → Mem → Prop) (s : Slots) (M : Mem) : wpC P c17_13 Q s M = w17_13 P Q M (sget s 0) (sget s 1) (sget s 5) := by kernel_rfl
def c17_14 : ACode := (.seq c17_11 c17_13)
def c17_15 : ACode := (.seq c17_5 c17_14)
def c17_16 : ACode := (.loop [0, 1, 5] c17_15)
def c17_17 : ACode := (.block 0 c17_16)
def c17_18 : ACode := (.seq c17_3 c17_17)
def o17_19 : List AOper := [⟨some 4, (.mov (.const (.int .i64 (-1)))), false, none⟩]
def c17_20 : ACode := (.region o17_19 [4])
def w17_20 (_P : Program) (Q : Exit → Slots → Mem → Prop) (M : Mem) : Prop :=
  Q .normal [(4, (.int .i64 (-1)))] M
theorem e17_20 (P : Program) (Q : Exit → Slots → Mem → Prop) (s : Slots) (M : Mem) : wpC P c17_20 Q s M = w17_20 P Q M := by kernel_rfl
def c17_21 : ACode := (.seq c17_20 .ret)
def c17_22 : ACode := (.seq c17_18 c17_21)
def c17_23 : ACode := (.seq c17_1 c17_22)
def fn_transitref17_Find : AFn := ⟨20, [(.tmp 4)], c17_23⟩
theorem fn_transitref17_Find_ok : resFn PR h_transitref17_Find i_transitref17_Find = some fn_transitref17_Find := by kernel_rfl

def h_transitlaw17_small : Hints := ⟨[(0, [1]), (1, [2])], [], []⟩
def o18_0 : List AOper := [⟨some 1, (.box 5 (.tmp 0)), false, none⟩,
  ⟨some 2, (.mov (.const (.bool false))), true, none⟩]
def c18_1 : ACode := (.region o18_0 [1])
def w18_1 (_P : Program) (Q : Exit → Slots → Mem → Prop) (M : Mem) (v0 : V) : Prop :=
  @OptMH (boxV 5 v0 M) ⟨fun t1_1 M1 =>
  Q .normal [(1, t1_1)] M1⟩
theorem e18_1 (P : Program) (Q : Exit → Slots → Mem → Prop) (s : Slots) (M : Mem) : wpC P c18_1 Q s M = w18_1 P Q M (sget s 0) := by kernel_rfl
def o18_2 : List AOper := [⟨some 3, (.fieldAddr 0 (.tmp 1)), false, none⟩,
  ⟨some 4, (.load 1 false (.tmp 3)), false, none⟩,
  ⟨some 5, (.lenStr (.tmp 4)), false, none⟩,
  ⟨some 6, (.bin .leq .none (.tmp 5) (.const (.int .i64 1024))), true, none⟩,
  ⟨some 7, (.mov (.tmp 6)), true, none⟩,
  ⟨some 8, (.fieldAddr 4 (.tmp 1)), false, some (7, true)⟩,
  ⟨some 9, (.load 1 false (.tmp 8)), false, some (7, true)⟩,
  ⟨some 10, (.lenSl (.tmp 9)), false, some (7, true)⟩,
  ⟨some 11, (.bin .leq .none (.tmp 10) (.const (.int .i64 40))), true, some (7, true)⟩,
  ⟨some 12, (.pick (.tmp 7) (.tmp 11) (.const (.bool false))), true, none⟩,
  ⟨some 2, (.mov (.tmp 12)), true, none⟩]
def c18_3 : ACode := (.region o18_2 [2])
def w18_3 (_P : Program) (Q : Exit → Slots → Mem → Prop) (M : Mem) (v1 : V) : Prop :=
  @OptVH (moveV 0 v1) ⟨fun t3_1 =>
  @OptVH (loadV 1 false t3_1 M) ⟨fun t4_2 =>
  @OptVH (lenStrV t4_2) ⟨fun t5_3 =>
  @OptBH (binV .leq .none t5_3 (.int .i64 1024)) ⟨fun b6_4 =>
  @BIfH b6_4
  ⟨@OptVH (moveV 4 v1) ⟨fun t8_6 =>
  @OptVH (loadV 1 false t8_6 M) ⟨fun t9_7 =>
  @OptVH (lenV t9_7 M) ⟨fun t10_8 =>
  @OptBH (binV .leq .none t10_8 (.int .i64 40)) ⟨fun b11_9 =>
  Q .normal [(2, (.bool b11_9))] M⟩⟩⟩⟩⟩
  ⟨Q .normal [(2, (.bool false))] M⟩⟩⟩⟩⟩
theorem e18_3 (P : Program) (Q : Exit → Slots → Mem → Prop) (s : Slots) (M : Mem) : wpC P c18_3 Q s M = w18_3 P Q M (sget s 1) := by kernel_rfl
def c18_4 : ACode := (.seq c18_3 .ret)
def c18_5 : ACode := (.seq c18_1 c18_4)
def fn_transitlaw17_small : AFn := ⟨13, [(.tmp 2)], c18_5⟩
theorem fn_transitlaw17_small_ok : resFn PR h_transitlaw17_small i_transitlaw17_small = some fn_transitlaw17_small := by kernel_rfl

def h_trip_Pattern : Hints := ⟨[(0, [1]), (1, [1, 3]), (2, [3, 11, 12, 13]), (3, [3, 11, 12, 13, 14]), (4, [3, 5, 11, 12, 13]), (5, [3, 11, 12, 13]), (6, [3, 11, 12, 13]), (7, [2])], [(3, [3, 11, 12, 13])], []⟩
def o19_0 : List AOper := [⟨some 1, (.box 5 (.tmp 0)), false, none⟩,
  ⟨some 2, (.mov (.const (.slice [] .nil))), false, none⟩]
def c19_1 : ACode := (.region o19_0 [1])
def w19_1 (_P : Program) (Q : Exit → Slots → Mem → Prop) (M : Mem) (v0 : V) : Prop :=
  @OptMH (boxV 5 v0 M) ⟨fun t1_1 M1 =>
  Q .normal [(1, t1_1)] M1⟩
theorem e19_1 (P : Program) (Q : Exit → Slots → Mem → Prop) (s : Slots) (M : Mem) : wpC P c19_1 Q s M = w19_1 P Q M (sget s 0) := by kernel_rfl
def o19_2 : List AOper := [⟨some 6, (.fieldAddr 4 (.tmp 1)), false, none⟩,
  ⟨some 7, (.load 1 false (.tmp 6)), false, none⟩,
  ⟨some 8, (.lenSl (.tmp 7)), false, none⟩,
  ⟨some 9, (.makeSlice [(.int .i64 0)] 1 8 (.const (.int .i64 0)) (.tmp 8)), false, none⟩,
  ⟨some 3, (.mov (.tmp 9)), false, none⟩]
def c19_3 : ACode := (.region o19_2 [1, 3])
def w19_3 (_P : Program) (Q : Exit → Slots → Mem → Prop) (M : Mem) (v1 : V) : Prop :=
  @OptVH (moveV 4 v1) ⟨fun t6_1 =>
  @OptVH (loadV 1 false t6_1 M) ⟨fun t7_2 =>
  @OptVH (lenV t7_2 M) ⟨fun t8_3 =>
  @OptMH (makeSliceV [(.int .i64 0)] 1 8 (.int .i64 0) t8_3 M) ⟨fun t9_4 M4 =>
  Q .normal [(1, v1), (3, t9_4)] M4⟩⟩⟩⟩
theorem e19_3 (P : Program) (Q : Exit → Slots → Mem → Prop) (s : Slots) (M : Mem) : wpC P c19_3 Q s M = w19_3 P Q M (sget s 1) := by kernel_rfl
def o19_4 : List AOper := [⟨some 10, (.fieldAddr 4 (.tmp 1)), false, none⟩,
  ⟨some 11, (.load 1 false (.tmp 10)), false, none⟩,
  ⟨some 12, (.lenSl (.tmp 11)), false, none⟩,
  ⟨some 13, (.mov (.const (.int .i64 0))), false, none⟩]
def c19_5 : ACode := (.region o19_4 [3, 11, 12, 13])
def w19_5 (_P : Program) (Q : Exit → Slots → Mem → Prop) (M : Mem) (v1 : V) (v3 : V) : Prop :=
  @OptVH (moveV 4 v1) ⟨fun t10_1 =>
  @OptVH (loadV 1 false t10_1 M) ⟨fun t11_2 =>
  @OptVH (lenV t11_2 M) ⟨fun t12_3 =>
  Q .normal [(3, v3), (11, t11_2), (12, t12_3), (13, (.int .i64 0))] M⟩⟩⟩
theorem e19_5 (P : Program) (Q : Exit → Slots → Mem → Prop) (s : Slots) (M : Mem) : wpC P c19_5 Q s M = w19_5 P Q M (sget s 1) (sget s 3) := by kernel_rfl
def o19_6 : List AOper := [⟨some 14, (.bin .lss .none (.tmp 13) (.tmp 12)), false, none⟩]
def c19_7 : ACode := (.region o19_6 [3, 11, 12, 13, 14])
def w19_7 (_P : Program) (Q : Exit → Slots → Mem → Prop) (M : Mem) (v3 : V) (v11 : V) (v12 : V) (v13 : V) : Prop :=
  @OptVH (binV .lss .none v13 v12) ⟨fun t14_1 =>
  Q .normal [(3, v3), (11, v11), (12, v12), (13, v13), (14, t14_1)] M⟩
theorem e19_7 (P : Program) (Q : Exit → Slots → Mem → Prop) (s : Slots) (M : Mem) : wpC P c19_7 Q s M = w19_7 P Q M (sget s 3) (sget s 11) (sget s 12) (sget s 13) := by kernel_rfl
def c19_8 : ACode := (.cond (.tmp 14) .skip (.exit 0))
def o19_9 : List AOper := [⟨some 15, (.indexSl 5 (.tmp 11) (.tmp 13)), false, none⟩,
  ⟨some 16, (.load 5 true (.tmp 15)), false, none⟩,
  ⟨some 5, (.alloc [(.int .i64 0), (.int .i64 0), (.int .i64 0), (.bool false), (.bool false)]), false, none⟩,
  ⟨none, (.store 5 (.tmp 5) (.tmp 16)), false, none⟩]
def c19_10 : ACode := (.region o19_9 [3, 5, 11, 12, 13])
def w19_10 (_P : Program) (Q : Exit → Slots → Mem → Prop) (M : Mem) (v3 : V) (v11 : V) (v12 : V) (v13 : V) : Prop :=
  @OptVH (indexSlV 5 v11 v13 M) ⟨fun t15_1 =>
  @OptVH (loadV 5 true t15_1 M) ⟨fun t16_2 =>
  @OptMH (allocV [(.int .i64 0), (.int .i64 0), (.int .i64 0), (.bool false), (.bool false)] M) ⟨fun t5_3 M3 =>
  @OptMH (storeVM 5 t5_3 t16_2 M3) ⟨fun _tx_4 M4 =>
  Q .normal [(3, v3), (5, t5_3), (11, v11), (12, v12), (13, v13)] M4⟩⟩⟩⟩
theorem e19_10 (P : Program) (Q : Exit → Slots → Mem → Prop) (s : Slots) (M : Mem) : wpC P c19_10 Q s M = w19_10 P Q M (sget s 3) (sget s 11) (sget s 12) (sget s 13) := by kernel_rfl
def o19_11 : List AOper := [⟨some 17, (.mov (.tmp 3)), false, none⟩,
  ⟨some 18, (.fieldAddr 0 (.tmp 5)), false, none⟩,
  ⟨some 19, (.load 1 false (.tmp 18)), false, none⟩,
  ⟨some 20, (.buildSlice [(.int .i64 0)] 1 1 [(0, (1, (.tmp 19)))]), false, none⟩,
  ⟨some 21, (.append false 1 8 (.tmp 17) (.tmp 20)), false, none⟩,
  ⟨some 3, (.mov (.tmp 21)), false, none⟩]
def c19_12 : ACode := (.region o19_11 [3, 11, 12, 13])
def w19_12 (_P : Program) (Q : Exit → Slots → Mem → Prop) (M : Mem) (v3 : V) (v5 : V) (v11 : V) (v12 : V) (v13 : V) : Prop :=
  @OptVH (moveV 0 v5) ⟨fun t18_2 =>
  @OptVH (loadV 1 false t18_2 M) ⟨fun t19_3 =>
  @OptVH (buildSliceV [(.int .i64 0)] 1 1 [(0, 1, t19_3)]) ⟨fun t20_4 =>
  @OptMH (appV false 1 8 v3 t20_4 M) ⟨fun t21_5 M5 =>
  Q .normal [(3, t21_5), (11, v11), (12, v12), (13, v13)] M5⟩⟩⟩⟩
theorem e19_12 (P : Program) (Q : Exit → Slots → Mem → Prop) (s : Slots) (M : Mem) : wpC P c19_12 Q s M = w19_12 P Q M (sget s 3) (sget s 5) (sget s 11) (sget s 12) (sget s 13) := by kernel_rfl
def c19_13 : ACode := (.seq c19_10 c19_12)
def c19_14 : ACode := (.block 1 c19_13)
def o19_15 : List AOper := [⟨some 22, (.bin .add .none (.tmp 13) (.const (.int .i64 1))), false, none⟩,
  ⟨some 13, (.mov (.tmp 22)), false, none⟩]
def c19_16 : ACode := (.region o19_15 [3, 11, 12, 13])
def w19_16 (_P : Program) (Q : Exit → Slots → Mem → Prop) (M : Mem) (v3 : V) (v11 : V) (v12 : V) (v13 : V) : Prop :=
  @OptVH (binV .add .none v13 (.int .i64 1)) ⟨fun t22_1 =>
  Q .normal [(3, v3), (11, v11), (12, v12), (13, t22_1)] M⟩
theorem e19_16 (P : Program) (Q : Exit → Slots → Mem → Prop) (s : Slots) (M : Mem) : wpC P c19_16 Q s M = w19_16 P Q M (sget s 3) (sget s 11) (sget s 12) (sget s 13) := by kernel_rfl
def c19_17 : ACode := (.seq c19_14 c19_16)
def c19_18 : ACode := (.seq c19_8 c19_17)
def c19_19 : ACode := (.seq c19_7 c19_18)
def c19_20 : ACode := (.loop [3, 11, 12, 13] c19_19)
def c19_21 : ACode := (.block 0 c19_20)
def c19_22 : ACode := (.seq c19_5 c19_21)
def o19_23 : List AOper := [⟨some 23, (.mov (.tmp 3)), false, none⟩,
  ⟨some 2, (.mov (.tmp 23)), false, none⟩]
def c19_24 : ACode := (.region o19_23 [2])
def w19_24 (_P : Program) (Q : Exit → Slots → Mem → Prop) (M : Mem) (v3 : V) : Prop :=
  Q .normal [(2, v3)] M
theorem e19_24 (P : Program) (Q : Exit → Slots → Mem → Prop) (s : Slots) (M : Mem) : wpC P c19_24 Q s M = w19_24 P Q M (sget s 3) := by kernel_rfl
def c19_25 : ACode := (.seq c19_24 .ret)
def c19_26 : ACode := (.seq c19_22 c19_25)
def c19_27 : ACode := (.seq c19_3 c19_26)
def c19_28 : ACode := (.seq c19_1 c19_27)
def fn_trip_Pattern : AFn := ⟨24, [(.tmp 2)], c19_28⟩
theorem fn_trip_Pattern_ok : resFn PR h_trip_Pattern i_trip_Pattern = some fn_trip_Pattern := by kernel_rfl

def h_trip_SamePattern : Hints := ⟨[(0, [2, 3]), (1, [2, 3, 14]), (2, [4]), (3, [2, 3, 17, 18]), (4, [2, 3, 17, 18, 19]), (5, [2, 3, 5, 17, 18]), (6, [2, 3, 6, 7, 17, 18]), (7, [2, 3, 17, 18, 49]), (8, [4]), (9, [2, 3, 17, 18]), (10, [4])], [(4, [2, 3, 17, 18])], []⟩
def o20_0 : List AOper := [⟨some 2, (.box 5 (.tmp 0)), false, none⟩,
  ⟨some 3, (.box 5 (.tmp 1)), false, none⟩,
  ⟨some 4, (.mov (.const (.bool false))), true, none⟩]
def c20_1 : ACode := (.region o20_0 [2, 3])
def w20_1 (_P : Program) (Q : Exit → Slots → Mem → Prop) (M : Mem) (v0 : V) (v1 : V) : Prop :=
  @OptMH (boxV 5 v0 M) ⟨fun t2_1 M1 =>
  @OptMH (boxV 5 v1 M1) ⟨fun t3_2 M2 =>
  Q .normal [(2, t2_1), (3, t3_2)] M2⟩⟩
theorem e20_1 (P : Program) (Q : Exit → Slots → Mem → Prop) (s : Slots) (M : Mem) : wpC P c20_1 Q s M = w20_1 P Q M (sget s 0) (sget s 1) := by kernel_rfl
def o20_2 : List AOper := [⟨some 4, (.mov (.const (.bool false))), true, none⟩]
def c20_3 : ACode := (.region o20_2 [4])
def w20_3 (_P : Program) (Q : Exit → Slots → Mem → Prop) (M : Mem) : Prop :=
  Q .normal [(4, (.bool false))] M
theorem e20_3 (P : Program) (Q : Exit → Slots → Mem → Prop) (s : Slots) (M : Mem) : wpC P c20_3 Q s M = w20_3 P Q M := by kernel_rfl
def c20_4 : ACode := (.seq c20_3 .ret)
def o20_5 : List AOper := [⟨some 8, (.fieldAddr 4 (.tmp 2)), false, none⟩,
  ⟨some 9, (.load 1 false (.tmp 8)), false, none⟩,
  ⟨some 10, (.lenSl (.tmp 9)), false, none⟩,
  ⟨some 11, (.fieldAddr 4 (.tmp 3)), false, none⟩,
  ⟨some 12, (.load 1 false (.tmp 11)), false, none⟩,
  ⟨some 13, (.lenSl (.tmp 12)), false, none⟩,
  ⟨some 14, (.bin .neq .none (.tmp 10) (.tmp 13)), true, none⟩]
def c20_6 : ACode := (.seq (.region o20_5 [2, 3, 14]) (.cond (.tmp 14) c20_4 .skip))
def w20_6 (P : Program) (Q : Exit → Slots → Mem → Prop) (M : Mem) (v2 : V) (v3 : V) : Prop :=
  @OptVH (moveV 4 v2) ⟨fun t8_1 =>
  @OptVH (loadV 1 false t8_1 M) ⟨fun t9_2 =>
  @OptVH (lenV t9_2 M) ⟨fun t10_3 =>
  @OptVH (moveV 4 v3) ⟨fun t11_4 =>
  @OptVH (loadV 1 false t11_4 M) ⟨fun t12_5 =>
  @OptVH (lenV t12_5 M) ⟨fun t13_6 =>
  @OptBH (binV .neq .none t10_3 t13_6) ⟨fun b14_7 =>
  @BIfH b14_7
  ⟨wpC P c20_4 Q [(2, v2), (3, v3), (14, (.bool b14_7))] M⟩
  ⟨Q .normal [(2, v2), (3, v3), (14, (.bool b14_7))] M⟩⟩⟩⟩⟩⟩⟩⟩
theorem e20_6 (P : Program) (Q : Exit → Slots → Mem → Prop) (s : Slots) (M : Mem) : wpC P c20_6 Q s M = w20_6 P Q M (sget s 2) (sget s 3) := by kernel_rfl
def o20_7 : List AOper := [⟨some 15, (.fieldAddr 4 (.tmp 2)), false, none⟩,
  ⟨some 16, (.load 1 false (.tmp 15)), false, none⟩,
  ⟨some 17, (.lenSl (.tmp 16)), false, none⟩,
  ⟨some 18, (.mov (.const (.int .i64 0))), false, none⟩]
def c20_8 : ACode := (.region o20_7 [2, 3, 17, 18])
def w20_8 (_P : Program) (Q : Exit → Slots → Mem → Prop) (M : Mem) (v2 : V) (v3 : V) : Prop :=
  @OptVH (moveV 4 v2) ⟨fun t15_1 =>
  @OptVH (loadV 1 false t15_1 M) ⟨fun t16_2 =>
  @OptVH (lenV t16_2 M) ⟨fun t17_3 =>
  Q .normal [(2, v2), (3, v3), (17, t17_3), (18, (.int .i64 0))] M⟩⟩⟩
theorem e20_8 (P : Program) (Q : Exit → Slots → Mem → Prop) (s : Slots) (M : Mem) : wpC P c20_8 Q s M = w20_8 P Q M (sget s 2) (sget s 3) := by kernel_rfl
def o20_9 : List AOper := [⟨some 19, (.bin .lss .none (.tmp 18) (.tmp 17)), true, none⟩]
def c20_10 : ACode := (.region o20_9 [2, 3, 17, 18, 19])
def w20_10 (_P : Program) (Q : Exit → Slots → Mem → Prop) (M : Mem) (v2 : V) (v3 : V) (v17 : V) (v18 : V) : Prop :=
  @OptBH (binV .lss .none v18 v17) ⟨fun b19_1 =>
  Q .normal [(2, v2), (3, v3), (17, v17), (18, v18), (19, (.bool b19_1))] M⟩
theorem e20_10 (P : Program) (Q : Exit → Slots → Mem → Prop) (s : Slots) (M : Mem) : wpC P c20_10 Q s M = w20_10 P Q M (sget s 2) (sget s 3) (sget s 17) (sget s 18) := by kernel_rfl
def c20_11 : ACode := (.cond (.tmp 19) .skip (.exit 0))
def o20_12 : List AOper := [⟨some 20, (.mov (.tmp 18)), false, none⟩,
  ⟨some 5, (.mov (.tmp 20)), false, none⟩]
def c20_13 : ACode := (.region o20_12 [2, 3, 5, 17, 18])
def w20_13 (_P : Program) (Q : Exit → Slots → Mem → Prop) (M : Mem) (v2 : V) (v3 : V) (v17 : V) (v18 : V) : Prop :=
  Q .normal [(2, v2), (3, v3), (5, v18), (17, v17), (18, v18)] M
theorem e20_13 (P : Program) (Q : Exit → Slots → Mem → Prop) (s : Slots) (M : Mem) : wpC P c20_13 Q s M = w20_13 P Q M (sget s 2) (sget s 3) (sget s 17) (sget s 18) := by kernel_rfl
def o20_14 : List AOper := [⟨some 21, (.fieldAddr 4 (.tmp 2)), false, none⟩,
  ⟨some 22, (.load 1 false (.tmp 21)), false, none⟩,
  ⟨some 23, (.mov (.tmp 5)), false, none⟩,
  ⟨some 24, (.indexSl 5 (.tmp 22) (.tmp 23)), false, none⟩,
  ⟨some 25, (.load 5 true (.tmp 24)), false, none⟩,
  ⟨some 26, (.fieldAddr 4 (.tmp 3)), false, none⟩,
  ⟨some 27, (.load 1 false (.tmp 26)), false, none⟩,
  ⟨some 28, (.mov (.tmp 5)), false, none⟩,
  ⟨some 29, (.indexSl 5 (.tmp 27) (.tmp 28)), false, none⟩,
  ⟨some 30, (.load 5 true (.tmp 29)), false, none⟩,
  ⟨some 6, (.alloc [(.int .i64 0), (.int .i64 0), (.int .i64 0), (.bool false), (.bool false)]), false, none⟩,
  ⟨some 7, (.alloc [(.int .i64 0), (.int .i64 0), (.int .i64 0), (.bool false), (.bool false)]), false, none⟩,
  ⟨none, (.store 5 (.tmp 6) (.tmp 25)), false, none⟩,
  ⟨none, (.store 5 (.tmp 7) (.tmp 30)), false, none⟩]
def c20_15 : ACode := (.float o20_14 [none, none, none, none, none, none, none, none, none, none, (some [0, 1, 2, 3, 4, 5, 6, 7, 8, 9]), (some [0, 1, 2, 3, 4, 5, 6, 7, 8, 9]), (some [5, 6, 7, 8, 9]), (some [])] [2, 3, 6, 7, 17, 18])
def w20_15 (_P : Program) (Q : Exit → Slots → Mem → Prop) (M : Mem) (v2 : V) (v3 : V) (v5 : V) (v17 : V) (v18 : V) : Prop :=
  @OptVH (moveV 4 v2) ⟨fun t21_1 =>
  @OptVH (loadV 1 false t21_1 M) ⟨fun t22_2 =>
  @OptVH (indexSlV 5 t22_2 v5 M) ⟨fun t24_4 =>
  @OptVH (loadV 5 true t24_4 M) ⟨fun t25_5 =>
  @OptVH (moveV 4 v3) ⟨fun t26_6 =>
  @OptVH (loadV 1 false t26_6 M) ⟨fun t27_7 =>
  @OptVH (indexSlV 5 t27_7 v5 M) ⟨fun t29_9 =>
  @OptVH (loadV 5 true t29_9 M) ⟨fun t30_10 =>
  @OptMH (allocV [(.int .i64 0), (.int .i64 0), (.int .i64 0), (.bool false), (.bool false)] M) ⟨fun t6_11 M11 =>
  (moveV 4 v2 = some t21_1 ∧ loadV 1 false t21_1 M11 = some t22_2 ∧ some v5 = some v5 ∧ indexSlV 5 t22_2 v5 M11 = some t24_4 ∧ loadV 5 true t24_4 M11 = some t25_5 ∧ moveV 4 v3 = some t26_6 ∧ loadV 1 false t26_6 M11 = some t27_7 ∧ some v5 = some v5 ∧ indexSlV 5 t27_7 v5 M11 = some t29_9 ∧ loadV 5 true t29_9 M11 = some t30_10 ∧ True) ∧ (@OptMH (allocV [(.int .i64 0), (.int .i64 0), (.int .i64 0), (.bool false), (.bool false)] M11) ⟨fun t7_12 M12 =>
  (moveV 4 v2 = some t21_1 ∧ loadV 1 false t21_1 M12 = some t22_2 ∧ some v5 = some v5 ∧ indexSlV 5 t22_2 v5 M12 = some t24_4 ∧ loadV 5 true t24_4 M12 = some t25_5 ∧ moveV 4 v3 = some t26_6 ∧ loadV 1 false t26_6 M12 = some t27_7 ∧ some v5 = some v5 ∧ indexSlV 5 t27_7 v5 M12 = some t29_9 ∧ loadV 5 true t29_9 M12 = some t30_10 ∧ True) ∧ (@OptMH (storeVM 5 t6_11 t25_5 M12) ⟨fun _tx_13 M13 =>
  (moveV 4 v3 = some t26_6 ∧ loadV 1 false t26_6 M13 = some t27_7 ∧ some v5 = some v5 ∧ indexSlV 5 t27_7 v5 M13 = some t29_9 ∧ loadV 5 true t29_9 M13 = some t30_10 ∧ True) ∧ (@OptMH (storeVM 5 t7_12 t30_10 M13) ⟨fun _tx_14 M14 =>
  (True) ∧ (Q .normal [(2, v2), (3, v3), (6, t6_11), (7, t7_12), (17, v17), (18, v18)] M14)⟩)⟩)⟩)⟩⟩⟩⟩⟩⟩⟩⟩⟩
theorem e20_15 (P : Program) (Q : Exit → Slots → Mem → Prop) (s : Slots) (M : Mem) : wpC P c20_15 Q s M = w20_15 P Q M (sget s 2) (sget s 3) (sget s 5) (sget s 17) (sget s 18) := by kernel_rfl
def o20_16 : List AOper := [⟨some 4, (.mov (.const (.bool false))), true, none⟩]
def c20_17 : ACode := (.region o20_16 [4])
def w20_17 (_P : Program) (Q : Exit → Slots → Mem → Prop) (M : Mem) : Prop :=
  Q .normal [(4, (.bool false))] M
theorem e20_17 (P : Program) (Q : Exit → Slots → Mem → Prop) (s : Slots) (M : Mem) : wpC P c20_17 Q s M = w20_17 P Q M := by kernel_rfl
def c20_18 : ACode := (.seq c20_17 .ret)
def o20_19 : List AOper := [⟨some 31, (.fieldAddr 0 (.tmp 6)), false, none⟩,
  ⟨some 32, (.load 1 false (.tmp 31)), false, none⟩,
  ⟨some 33, (.fieldAddr 0 (.tmp 7)), false, none⟩,
  ⟨some 34, (.load 1 false (.tmp 33)), false, none⟩,
  ⟨some 35, (.bin .neq .none (.tmp 32) (.tmp 34)), true, none⟩,
  ⟨some 36, (.mov (.tmp 35)), true, none⟩,
  ⟨some 37, (.fieldAddr 3 (.tmp 6)), false, some (36, false)⟩,
  ⟨some 38, (.load 1 false (.tmp 37)), true, some (36, false)⟩,
  ⟨some 39, (.fieldAddr 3 (.tmp 7)), false, some (36, false)⟩,
  ⟨some 40, (.load 1 false (.tmp 39)), true, some (36, false)⟩,
  ⟨some 41, (.bin .neq .bool (.tmp 38) (.tmp 40)), true, some (36, false)⟩,
  ⟨some 42, (.pick (.tmp 36) (.const (.bool true)) (.tmp 41)), true, none⟩,
  ⟨some 43, (.mov (.tmp 42)), true, none⟩,
  ⟨some 44, (.fieldAddr 4 (.tmp 6)), false, some (43, false)⟩,
  ⟨some 45, (.load 1 false (.tmp 44)), true, some (43, false)⟩,
  ⟨some 46, (.fieldAddr 4 (.tmp 7)), false, some (43, false)⟩,
  ⟨some 47, (.load 1 false (.tmp 46)), true, some (43, false)⟩,
  ⟨some 48, (.bin .neq .bool (.tmp 45) (.tmp 47)), true, some (43, false)⟩,
  ⟨some 49, (.pick (.tmp 43) (.const (.bool true)) (.tmp 48)), true, none⟩]
def c20_20 : ACode := (.seq (.region o20_19 [2, 3, 17, 18, 49]) (.cond (.tmp 49) c20_18 .skip))
def w20_20 (P : Program) (Q : Exit → Slots → Mem → Prop) (M : Mem) (v2 : V) (v3 : V) (v6 : V) (v7 : V) (v17 : V) (v18 : V) : Prop :=
  @OptVH (moveV 0 v6) ⟨fun t31_1 =>
  @OptVH (loadV 1 false t31_1 M) ⟨fun t32_2 =>
  @OptVH (moveV 0 v7) ⟨fun t33_3 =>
  @OptVH (loadV 1 false t33_3 M) ⟨fun t34_4 =>
  @OptBH (binV .neq .none t32_2 t34_4) ⟨fun b35_5 =>
  @BIfH b35_5
  ⟨wpC P c20_18 Q [(2, v2), (3, v3), (17, v17), (18, v18), (49, (.bool true))] M⟩
  ⟨@OptVH (moveV 3 v6) ⟨fun t37_10 =>
  @OptBH (loadV 1 false t37_10 M) ⟨fun b38_11 =>
  @OptVH (moveV 3 v7) ⟨fun t39_12 =>
  @OptBH (loadV 1 false t39_12 M) ⟨fun b40_13 =>
  @OptBH (binV .neq .bool (.bool b38_11) (.bool b40_13)) ⟨fun b41_14 =>
  @BIfH b41_14
  ⟨wpC P c20_18 Q [(2, v2), (3, v3), (17, v17), (18, v18), (49, (.bool true))] M⟩
  ⟨@OptVH (moveV 4 v6) ⟨fun t44_18 =>
  @OptBH (loadV 1 false t44_18 M) ⟨fun b45_19 =>
  @OptVH (moveV 4 v7) ⟨fun t46_20 =>
  @OptBH (loadV 1 false t46_20 M) ⟨fun b47_21 =>
  @OptBH (binV .neq .bool (.bool b45_19) (.bool b47_21)) ⟨fun b48_22 =>
  @BIfH b48_22
  ⟨wpC P c20_18 Q [(2, v2), (3, v3), (17, v17), (18, v18), (49, (.bool b48_22))] M⟩
  ⟨Q .normal [(2, v2), (3, v3), (17, v17), (18, v18), (49, (.bool b48_22))] M⟩⟩⟩⟩⟩⟩⟩⟩⟩⟩⟩⟩⟩⟩⟩⟩⟩⟩
theorem e20_20 (P : Program) (Q : Exit → Slots → Mem → Prop) (s : Slots) (M : Mem) : wpC P c20_20 Q s M = w20_20 P Q M (sget s 2) (sget s 3) (sget s 6) (sget s 7) (sget s 17) (sget s 18) := by kernel_rfl
def c20_21 : ACode := (.seq c20_15 c20_20)
def c20_22 : ACode := (.seq c20_13 c20_21)
def c20_23 : ACode := (.block 1 c20_22)
def o20_24 : List AOper := [⟨some 50, (.bin .add .none (.tmp 18) (.const (.int .i64 1))), false, none⟩,
  ⟨some 18, (.mov (.tmp 50)), false, none⟩]
def c20_25 : ACode := (.region o20_24 [2, 3, 17, 18])
def w20_25 (_P : Program) (Q : Exit → Slots → Mem → Prop) (M : Mem) (v2 : V) (v3 : V) (v17 : V) (v18 : V) : Prop :=
  @OptVH (binV .add .none v18 (.int .i64 1)) ⟨fun t50_1 =>
  Q .normal [(2, v2), (3, v3), (17, v17), (18, t50_1)] M⟩
theorem e20_25 (P : Program) (Q : Exit → Slots → Mem → Prop) (s : Slots) (M : Mem) : wpC P c20_25 Q s M = w20_25 P Q M (sget s 2) (sget s 3) (sget s 17) (sget s 18) := by kernel_rfl
def c20_26 : ACode := (.seq c20_23 c20_25)
def c20_27 : ACode := (.seq c20_11 c20_26)
def c20_28 : ACode := (.seq c20_10 c20_27)
def c20_29 : ACode := (.loop [2, 3, 17, 18] c20_28)
def c20_30 : ACode := (.block 0 c20_29)
def c20_31 : ACode := (.seq c20_8 c20_30)
def o20_32 : List AOper := [⟨some 4, (.mov (.const (.bool true))), true, none⟩]
def c20_33 : ACode := (.region o20_32 [4])
def w20_33 (_P : Program) (Q : Exit → Slots → Mem → Prop) (M : Mem) : Prop :=
  Q .normal [(4, (.bool true))] M
theorem e20_33 (P : Program) (Q : Exit → Slots → Mem → Prop) (s : Slots) (M : Mem) : wpC P c20_33 Q s M = w20_33 P Q M := by kernel_rfl
def c20_34 : ACode := (.seq c20_33 .ret)
def c20_35 : ACode := (.seq c20_31 c20_34)
def c20_36 : ACode := (.seq c20_6 c20_35)
def c20_37 : ACode := (.seq c20_1 c20_36)
def fn_trip_SamePattern : AFn := ⟨51, [(.tmp 4)], c20_37⟩
theorem fn_trip_SamePattern_ok : resFn PR h_trip_SamePattern i_trip_SamePattern = some fn_trip_SamePattern := by kernel_rfl

def h_transitref17_SamePattern : Hints := ⟨[(0, [2, 3]), (1, [2, 3, 14]), (2, [4]), (3, [2, 3, 5]), (4, [2, 3, 5, 19]), (5, [2, 3, 5]), (6, [2, 3, 5, 6, 7]), (7, [2, 3, 5, 50]), (8, [4]), (9, [4])], [(4, [2, 3, 5])], []⟩
def o21_0 : List AOper := [⟨some 2, (.box 5 (.tmp 0)), false, none⟩,
  ⟨some 3, (.box 5 (.tmp 1)), false, none⟩,
  ⟨some 4, (.mov (.const (.bool false))), true, none⟩]
def c21_1 : ACode := (.region o21_0 [2, 3])
def w21_1 (_P : Program) (Q : Exit → Slots → Mem → Prop) (M : Mem) (v0 : V) (v1 : V) : Prop :=
  @OptMH (boxV 5 v0 M) ⟨fun t2_1 M1 =>
  @OptMH (boxV 5 v1 M1) ⟨fun t3_2 M2 =>
  Q .normal [(2, t2_1), (3, t3_2)] M2⟩⟩
theorem e21_1 (P : Program) (Q : Exit → Slots → Mem → Prop) (s : Slots) (M : Mem) : wpC P c21_1 Q s M = w21_1 P Q M (sget s 0) (sget s 1) := by kernel_rfl
def o21_2 : List AOper := [⟨some 4, (.mov (.const (.bool false))), true, none⟩]
def c21_3 : ACode := (.region o21_2 [4])
def w21_3 (_P : Program) (Q : Exit → Slots → Mem → Prop) (M : Mem) : Prop :=
  Q .normal [(4, (.bool false))] M
theorem e21_3 (P : Program) (Q : Exit → Slots → Mem → Prop) (s : Slots) (M : Mem) : wpC P c21_3 Q s M = w21_3 P Q M := by kernel_rfl
def c21_4 : ACode := (.seq c21_3 .ret)
def o21_5 : List AOper := [⟨some 8, (.fieldAddr 4 (.tmp 2)), false, none⟩,
  ⟨some 9, (.load 1 false (.tmp 8)), false, none⟩,
  ⟨some 10, (.lenSl (.tmp 9)), false, none⟩,
  ⟨some 11, (.fieldAddr 4 (.tmp 3)), false, none⟩,
  ⟨some 12, (.load 1 false (.tmp 11)), false, none⟩,
  ⟨some 13, (.lenSl (.tmp 12)), false, none⟩,
  ⟨some 14, (.bin .neq .none (.tmp 10) (.tmp 13)), true, none⟩]
def c21_6 : ACode := (.seq (.region o21_5 [2, 3, 14]) (.cond (.tmp 14) c21_4 .skip))
def w21_6 (P : Program) (Q : Exit → Slots → Mem → Prop) (M : Mem) (v2 : V) (v3 : V) : Prop :=
  @OptVH (moveV 4 v2) ⟨fun t8_1 =>
  @OptVH (loadV 1 false t8_1 M) ⟨fun t9_2 =>
  @OptVH (lenV t9_2 M) ⟨fun t10_3 =>
  @OptVH (moveV 4 v3) ⟨fun t11_4 =>
  @OptVH (loadV 1 false t11_4 M) ⟨fun t12_5 =>
  @OptVH (lenV t12_5 M) ⟨fun t13_6 =>
  @OptBH (binV .neq .none t10_3 t13_6) ⟨fun b14_7 =>
  @BIfH b14_7
  ⟨wpC P c21_4 Q [(2, v2), (3, v3), (14, (.bool b14_7))] M⟩
  ⟨Q .normal [(2, v2), (3, v3), (14, (.bool b14_7))] M⟩⟩⟩⟩⟩⟩⟩⟩
theorem e21_6 (P : Program) (Q : Exit → Slots → Mem → Prop) (s : Slots) (M : Mem) : wpC P c21_6 Q s M = w21_6 P Q M (sget s 2) (sget s 3) := by kernel_rfl
def o21_7 : List AOper := [⟨some 5, (.mov (.const (.int .i64 0))), false, none⟩]
def c21_8 : ACode := (.region o21_7 [2, 3, 5])
def w21_8 (_P : Program) (Q : Exit → Slots → Mem → Prop) (M : Mem) (v2 : V) (v3 : V) : Prop :=
  Q .normal [(2, v2), (3, v3), (5, (.int .i64 0))] M
theorem e21_8 (P : Program) (Q : Exit → Slots → Mem → Prop) (s : Slots) (M : Mem) : wpC P c21_8 Q s M = w21_8 P Q M (sget s 2) (sget s 3) := by kernel_rfl
def o21_9 : List AOper := [⟨some 15, (.mov (.tmp 5)), false, none⟩,
  ⟨some 16, (.fieldAddr 4 (.tmp 2)), false, none⟩,
  ⟨some 17, (.load 1 false (.tmp 16)), false, none⟩,
  ⟨some 18, (.lenSl (.tmp 17)), false, none⟩,
  ⟨some 19, (.bin .lss .none (.tmp 15) (.tmp 18)), true, none⟩]
def c21_10 : ACode := (.seq (.region o21_9 [2, 3, 5, 19]) (.cond (.tmp 19) .skip (.exit 0)))
def w21_10 (_P : Program) (Q : Exit → Slots → Mem → Prop) (M : Mem) (v2 : V) (v3 : V) (v5 : V) : Prop :=
  @OptVH (moveV 4 v2) ⟨fun t16_2 =>
  @OptVH (loadV 1 false t16_2 M) ⟨fun t17_3 =>
  @OptVH (lenV t17_3 M) ⟨fun t18_4 =>
  @OptBH (binV .lss .none v5 t18_4) ⟨fun b19_5 =>
  @BIfH b19_5
  ⟨Q .normal [(2, v2), (3, v3), (5, v5), (19, (.bool b19_5))] M⟩
  ⟨Q (.exit 0) [(2, v2), (3, v3), (5, v5), (19, (.bool b19_5))] M⟩⟩⟩⟩⟩
theorem e21_10 (P : Program) (Q : Exit → Slots → Mem → Prop) (s : Slots) (M : Mem) : wpC P c21_10 Q s M = w21_10 P Q M (sget s 2) (sget s 3) (sget s 5) := by kernel_rfl
def o21_11 : List AOper := [⟨some 22, (.fieldAddr 4 (.tmp 2)), false, none⟩,
  ⟨some 23, (.load 1 false (.tmp 22)), false, none⟩,
  ⟨some 24, (.mov (.tmp 5)), false, none⟩,
  ⟨some 25, (.indexSl 5 (.tmp 23) (.tmp 24)), false, none⟩,
  ⟨some 26, (.load 5 true (.tmp 25)), false, none⟩,
  ⟨some 27, (.fieldAddr 4 (.tmp 3)), false, none⟩,
  ⟨some 28, (.load 1 false (.tmp 27)), false, none⟩,
  ⟨some 29, (.mov (.tmp 5)), false, none⟩,
  ⟨some 30, (.indexSl 5 (.tmp 28) (.tmp 29)), false, none⟩,
  ⟨some 31, (.load 5 true (.tmp 30)), false, none⟩,
  ⟨some 6, (.alloc [(.int .i64 0), (.int .i64 0), (.int .i64 0), (.bool false), (.bool false)]), false, none⟩,
  ⟨some 7, (.alloc [(.int .i64 0), (.int .i64 0), (.int .i64 0), (.bool false), (.bool false)]), false, none⟩,
  ⟨none, (.store 5 (.tmp 6) (.tmp 26)), false, none⟩,
  ⟨none, (.store 5 (.tmp 7) (.tmp 31)), false, none⟩]
def c21_12 : ACode := (.float o21_11 [none, none, none, none, none, none, none, none, none, none, (some [0, 1, 2, 3, 4, 5, 6, 7, 8, 9]), (some [0, 1, 2, 3, 4, 5, 6, 7, 8, 9]), (some [5, 6, 7, 8, 9]), (some [])] [2, 3, 5, 6, 7])
def w21_12 (_P : Program) (Q : Exit → Slots → Mem → Prop) (M : Mem) (v2 : V) (v3 : V) (v5 : V) : Prop :=
  @OptVH (moveV 4 v2) ⟨fun t22_1 =>
  @OptVH (loadV 1 false t22_1 M) ⟨fun t23_2 =>
  @OptVH (indexSlV 5 t23_2 v5 M) ⟨fun t25_4 =>
  @OptVH (loadV 5 true t25_4 M) ⟨fun t26_5 =>
  @OptVH (moveV 4 v3) ⟨fun t27_6 =>
  @OptVH (loadV 1 false t27_6 M) ⟨fun t28_7 =>
  @OptVH (indexSlV 5 t28_7 v5 M) ⟨fun t30_9 =>
  @OptVH (loadV 5 true t30_9 M) ⟨fun t31_10 =>
  @OptMH (allocV [(.int .i64 0), (.int .i64 0), (.int .i64 0), (.bool false), (.bool false)] M) ⟨fun t6_11 M11 =>
  (moveV 4 v2 = some t22_1 ∧ loadV 1 false t22_1 M11 = some t23_2 ∧ some v5 = some v5 ∧ indexSlV 5 t23_2 v5 M11 = some t25_4 ∧ loadV 5 true t25_4 M11 = some t26_5 ∧ moveV 4 v3 = some t27_6 ∧ loadV 1 false t27_6 M11 = some t28_7 ∧ some v5 = some v5 ∧ indexSlV 5 t28_7 v5 M11 = some t30_9 ∧ loadV 5 true t30_9 M11 = some t31_10 ∧ True) ∧ (@OptMH (allocV [(.int .i64 0), (.int .i64 0), (.int .i64 0), (.bool false), (.bool false)] M11) ⟨fun t7_12 M12 =>
  (moveV 4 v2 = some t22_1 ∧ loadV 1 false t22_1 M12 = some t23_2 ∧ some v5 = some v5 ∧ indexSlV 5 t23_2 v5 M12 = some t25_4 ∧ loadV 5 true t25_4 M12 = some t26_5 ∧ moveV 4 v3 = some t27_6 ∧ loadV 1 false t27_6 M12 = some t28_7 ∧ some v5 = some v5 ∧ indexSlV 5 t28_7 v5 M12 = some t30_9 ∧ loadV 5 true t30_9 M12 = some t31_10 ∧ True) ∧ (@OptMH (storeVM 5 t6_11 t26_5 M12) ⟨fun _tx_13 M13 =>
  (moveV 4 v3 = some t27_6 ∧ loadV 1 false t27_6 M13 = some t28_7 ∧ some v5 = some v5 ∧ indexSlV 5 t28_7 v5 M13 = some t30_9 ∧ loadV 5 true t30_9 M13 = some t31_10 ∧ True) ∧ (@OptMH (storeVM 5 t7_12 t31_10 M13) ⟨fun _tx_14 M14 =>
  (True) ∧ (Q .normal [(2, v2), (3, v3), (5, v5), (6, t6_11), (7, t7_12)] M14)⟩)⟩)⟩)⟩⟩⟩⟩⟩⟩⟩⟩⟩
theorem e21_12 (P : Program) (Q : Exit → Slots → Mem → Prop) (s : Slots) (M : Mem) : wpC P c21_12 Q s M = w21_12 P Q M (sget s 2) (sget s 3) (sget s 5) := by kernel_rfl
def o21_13 : List AOper := [⟨some 4, (.mov (.const (.bool false))), true, none⟩]
def c21_14 : ACode := (.region o21_13 [4])
def w21_14 (_P : Program) (Q : Exit → Slots → Mem → Prop) (M : Mem) : Prop :=
  Q .normal [(4, (.bool false))] M
theorem e21_14 (P : Program) (Q : Exit → Slots → Mem → Prop) (s : Slots) (M : Mem) : wpC P c21_14 Q s M = w21_14 P Q M := by kernel_rfl
def c21_15 : ACode := (.seq c21_14 .ret)
def o21_16 : List AOper := [⟨some 32, (.fieldAddr 0 (.tmp 6)), false, none⟩,
  ⟨some 33, (.load 1 false (.tmp 32)), false, none⟩,
  ⟨some 34, (.fieldAddr 0 (.tmp 7)), false, none⟩,
  ⟨some 35, (.load 1 false (.tmp 34)), false, none⟩,
  ⟨some 36, (.bin .neq .none (.tmp 33) (.tmp 35)), true, none⟩,
  ⟨some 37, (.mov (.tmp 36)), true, none⟩,
  ⟨some 38, (.fieldAddr 3 (.tmp 6)), false, some (37, false)⟩,
  ⟨some 39, (.load 1 false (.tmp 38)), true, some (37, false)⟩,
  ⟨some 40, (.fieldAddr 3 (.tmp 7)), false, some (37, false)⟩,
  ⟨some 41, (.load 1 false (.tmp 40)), true, some (37, false)⟩,
  ⟨some 42, (.bin .neq .bool (.tmp 39) (.tmp 41)), true, some (37, false)⟩,
  ⟨some 43, (.pick (.tmp 37) (.const (.bool true)) (.tmp 42)), true, none⟩,
  ⟨some 44, (.mov (.tmp 43)), true, none⟩,
  ⟨some 45, (.fieldAddr 4 (.tmp 6)), false, some (44, false)⟩,
  ⟨some 46, (.load 1 false (.tmp 45)), true, some (44, false)⟩,
  ⟨some 47, (.fieldAddr 4 (.tmp 7)), false, some (44, false)⟩,
  ⟨some 48, (.load 1 false (.tmp 47)), true, some (44, false)⟩,
  ⟨some 49, (.bin .neq .bool (.tmp 46) (.tmp 48)), true, some (44, false)⟩,
  ⟨some 50, (.pick (.tmp 44) (.const (.bool true)) (.tmp 49)), true, none⟩]
def c21_17 : ACode := (.seq (.region o21_16 [2, 3, 5, 50]) (.cond (.tmp 50) c21_15 .skip))
def w21_17 (P : Program) (Q : Exit → Slots → Mem → Prop) (M : Mem) (v2 : V) (v3 : V) (v5 : V) (v6 : V) (v7 : V) : Prop :=
  @OptVH (moveV 0 v6) ⟨fun t32_1 =>
  @OptVH (loadV 1 false t32_1 M) ⟨fun t33_2 =>
  @OptVH (moveV 0 v7) ⟨fun t34_3 =>
  @OptVH (loadV 1 false t34_3 M) ⟨fun t35_4 =>
  @OptBH (binV .neq .none t33_2 t35_4) ⟨fun b36_5 =>
  @BIfH b36_5
  ⟨wpC P c21_15 Q [(2, v2), (3, v3), (5, v5), (50, (.bool true))] M⟩
  ⟨@OptVH (moveV 3 v6) ⟨fun t38_10 =>
  @OptBH (loadV 1 false t38_10 M) ⟨fun b39_11 =>
  @OptVH (moveV 3 v7) ⟨fun t40_12 =>
  @OptBH (loadV 1 false t40_12 M) ⟨fun b41_13 =>
  @OptBH (binV .neq .bool (.bool b39_11) (.bool b41_13)) ⟨fun b42_14 =>
  @BIfH b42_14
  ⟨wpC P c21_15 Q [(2, v2), (3, v3), (5, v5), (50, (.bool true))] M⟩
  ⟨@OptVH (moveV 4 v6) ⟨fun t45_18 =>
  @OptBH (loadV 1 false t45_18 M) ⟨fun b46_19 =>
  @OptVH (moveV 4 v7) ⟨fun t47_20 =>
  @OptBH (loadV 1 false t47_20 M) ⟨fun b48_21 =>
  @OptBH (binV .neq .bool (.bool b46_19) (.bool b48_21)) ⟨fun b49_22 =>
  @BIfH b49_22
  ⟨wpC P c21_15 Q [(2, v2), (3, v3), (5, v5), (50, (.bool b49_22))] M⟩
  ⟨Q .normal [(2, v2), (3, v3), (5, v5), (50, (.bool b49_22))] M⟩⟩⟩⟩⟩⟩⟩⟩⟩⟩⟩⟩⟩⟩⟩⟩⟩⟩
theorem e21_17 (P : Program) (Q : Exit → Slots → Mem → Prop) (s : Slots) (M : Mem) : wpC P c21_17 Q s M = w21_17 P Q M (sget s 2) (sget s 3) (sget s 5) (sget s 6) (sget s 7) := by kernel_rfl
def c21_18 : ACode := (.seq c21_12 c21_17)
def c21_19 : ACode := (.block 1 c21_18)
def o21_20 : List AOper := [⟨some 20, (.mov (.tmp 5)), false, none⟩,
  ⟨some 21, (.bin .add .none (.tmp 20) (.const (.int .i64 1))), false, none⟩,
  ⟨some 5, (.mov (.tmp 21)), false, none⟩]
def c21_21 : ACode := (.region o21_20 [2, 3, 5])
def w21_21 (_P : Program) (Q : Exit → Slots → Mem → Prop) (M : Mem) (v2 : V) (v3 : V) (v5 : V) : Prop :=
  @OptVH (binV .add .none v5 (.int .i64 1)) ⟨fun t21_2 =>
  Q .normal [(2, v2), (3, v3), (5, t21_2)] M⟩
theorem e21_21 (P : Program) (Q : Exit → Slots → Mem → Prop) (s : Slots) (M : Mem) : wpC P c21_21 Q s M = w21_21 P Q M (sget s 2) (sget s 3) (sget s 5) := by kernel_rfl
def c21_22 : ACode := (.seq c21_19 c21_21)
def c21_23 : ACode := (.seq c21_10 c21_22)
def c21_24 : ACode := (.loop [2, 3, 5] c21_23)
def c21_25 : ACode := (.block 0 c21_24)
def c21_26 : ACode := (.seq c21_8 c21_25)
def o21_27 : List AOper := [⟨some 4, (.mov (.const (.bool true))), true, none⟩]
def c21_28 : ACode := (.region o21_27 [4])
def w21_28 (_P : Program) (Q : Exit → Slots → Mem → Prop) (M : Mem) : Prop :=
  Q .normal [(4, (.bool true))] M
theorem e21_28 (P : Program) (Q : Exit → Slots → Mem → Prop) (s : Slots) (M : Mem) : wpC P c21_28 Q s M = w21_28 P Q M := by kernel_rfl
def c21_29 : ACode := (.seq c21_28 .ret)
def c21_30 : ACode := (.seq c21_26 c21_29)
def c21_31 : ACode := (.seq c21_6 c21_30)
def c21_32 : ACode := (.seq c21_1 c21_31)
def fn_transitref17_SamePattern : AFn := ⟨51, [(.tmp 4)], c21_32⟩
theorem fn_transitref17_SamePattern_ok : resFn PR h_transitref17_SamePattern i_transitref17_SamePattern = some fn_transitref17_SamePattern := by kernel_rfl

def h_trip_Groups : Hints := ⟨[(0, [0]), (1, [0, 3]), (2, [0, 3, 4]), (3, [3, 4, 11, 12, 13]), (4, [3, 4, 11, 12, 13, 14]), (5, [3, 4, 5, 6, 11, 12, 13]), (6, [3, 4, 5, 7, 11, 12, 13]), (7, [3, 4, 5, 7, 8, 9, 11, 12, 13]), (8, [3, 4, 5, 7, 8, 11, 12, 13, 27]), (9, [3, 4, 5, 7, 8, 11, 12, 13]), (10, [3, 4, 5, 8, 11, 12, 13]), (11, [3, 4, 5, 8, 11, 12, 13]), (12, [3, 4, 11, 12, 13]), (13, [3, 4, 11, 12, 13]), (14, [2])], [(4, [3, 4, 11, 12, 13])], [(2, [0, 5000])]⟩
def o22_0 : List AOper := [⟨some 2, (.mov (.const (.slice [] .nil))), false, none⟩]
def c22_1 : ACode := (.region o22_0 [0])
def w22_1 (_P : Program) (Q : Exit → Slots → Mem → Prop) (M : Mem) (v0 : V) : Prop :=
  Q .normal [(0, v0)] M
theorem e22_1 (P : Program) (Q : Exit → Slots → Mem → Prop) (s : Slots) (M : Mem) : wpC P c22_1 Q s M = w22_1 P Q M (sget s 0) := by kernel_rfl
def o22_2 : List AOper := [⟨some 10, (.makeMap none), false, none⟩,
  ⟨some 3, (.mov (.tmp 10)), false, none⟩]
def c22_3 : ACode := (.region o22_2 [0, 3])
def w22_3 (_P : Program) (Q : Exit → Slots → Mem → Prop) (M : Mem) (v0 : V) : Prop :=
  @OptMH (makeMapV none M) ⟨fun t10_1 M1 =>
  Q .normal [(0, v0), (3, t10_1)] M1⟩
theorem e22_3 (P : Program) (Q : Exit → Slots → Mem → Prop) (s : Slots) (M : Mem) : wpC P c22_3 Q s M = w22_3 P Q M (sget s 0) := by kernel_rfl
def o22_4 : List AOper := [⟨some 4, (.newarr 0), false, none⟩]
def c22_5 : ACode := (.region o22_4 [0, 3, 4])
def w22_5 (_P : Program) (Q : Exit → Slots → Mem → Prop) (M : Mem) (v0 : V) (v3 : V) : Prop :=
  @OptMH (newarrV 0 M) ⟨fun t4_1 M1 =>
  Q .normal [(0, v0), (3, v3), (4, t4_1)] M1⟩
theorem e22_5 (P : Program) (Q : Exit → Slots → Mem → Prop) (s : Slots) (M : Mem) : wpC P c22_5 Q s M = w22_5 P Q M (sget s 0) (sget s 3) := by kernel_rfl
def o22_6 : List AOper := [⟨some 11, (.mov (.tmp 0)), false, none⟩,
  ⟨some 12, (.lenSl (.tmp 11)), false, none⟩,
  ⟨some 13, (.mov (.const (.int .i64 0))), false, none⟩]
def c22_7 : ACode := (.region o22_6 [3, 4, 11, 12, 13])
def w22_7 (_P : Program) (Q : Exit → Slots → Mem → Prop) (M : Mem) (v0 : V) (v3 : V) (v4 : V) : Prop :=
  @OptVH (lenV v0 M) ⟨fun t12_2 =>
  Q .normal [(3, v3), (4, v4), (11, v0), (12, t12_2), (13, (.int .i64 0))] M⟩
theorem e22_7 (P : Program) (Q : Exit → Slots → Mem → Prop) (s : Slots) (M : Mem) : wpC P c22_7 Q s M = w22_7 P Q M (sget s 0) (sget s 3) (sget s 4) := by kernel_rfl
def o22_8 : List AOper := [⟨some 14, (.bin .lss .none (.tmp 13) (.tmp 12)), false, none⟩]
def c22_9 : ACode := (.region o22_8 [3, 4, 11, 12, 13, 14])
def w22_9 (_P : Program) (Q : Exit → Slots → Mem → Prop) (M : Mem) (v3 : V) (v4 : V) (v11 : V) (v12 : V) (v13 : V) : Prop :=
  @OptVH (binV .lss .none v13 v12) ⟨fun t14_1 =>
  Q .normal [(3, v3), (4, v4), (11, v11), (12, v12), (13, v13), (14, t14_1)] M⟩
theorem e22_9 (P : Program) (Q : Exit → Slots → Mem → Prop) (s : Slots) (M : Mem) : wpC P c22_9 Q s M = w22_9 P Q M (sget s 3) (sget s 4) (sget s 11) (sget s 12) (sget s 13) := by kernel_rfl
def c22_10 : ACode := (.cond (.tmp 14) .skip (.exit 0))
def o22_11 : List AOper := [⟨some 15, (.mov (.tmp 13)), false, none⟩,
  ⟨some 16, (.indexSl 5 (.tmp 11) (.tmp 13)), false, none⟩,
  ⟨some 17, (.load 5 true (.tmp 16)), false, none⟩,
  ⟨some 6, (.alloc [(.str []), (.int .i64 0), (.int .i64 0), (.bool false), (.slice [] .nil)]), false, none⟩,
  ⟨some 5, (.mov (.tmp 15)), false, none⟩,
  ⟨none, (.store 5 (.tmp 6) (.tmp 17)), false, none⟩]
def c22_12 : ACode := (.region o22_11 [3, 4, 5, 6, 11, 12, 13])
def w22_12 (_P : Program) (Q : Exit → Slots → Mem → Prop) (M : Mem) (v3 : V) (v4 : V) (v11 : V) (v12 : V) (v13 : V) : Prop :=
  @OptVH (indexSlV 5 v11 v13 M) ⟨fun t16_2 =>
  @OptVH (loadV 5 true t16_2 M) ⟨fun t17_3 =>
  @OptMH (allocV [(.str []), (.int .i64 0), (.int .i64 0), (.bool false), (.slice [] .nil)] M) ⟨fun t6_4 M4 =>
  @OptMH (storeVM 5 t6_4 t17_3 M4) ⟨fun _tx_6 M6 =>
  Q .normal [(3, v3), (4, v4), (5, v13), (6, t6_4), (11, v11), (12, v12), (13, v13)] M6⟩⟩⟩⟩
theorem e22_12 (P : Program) (Q : Exit → Slots → Mem → Prop) (s : Slots) (M : Mem) : wpC P c22_12 Q s M = w22_12 P Q M (sget s 3) (sget s 4) (sget s 11) (sget s 12) (sget s 13) := by kernel_rfl
def o22_13 : List AOper := [⟨some 18, (.load 5 true (.tmp 6)), false, none⟩,
  ⟨some 19, (.call i_trip_key [(.tmp 18)]), false, none⟩,
  ⟨some 7, (.mov (.tmp 19)), false, none⟩]
def c22_14 : ACode := (.region o22_13 [3, 4, 5, 7, 11, 12, 13])
def w22_14 (P : Program) (Q : Exit → Slots → Mem → Prop) (M : Mem) (v3 : V) (v4 : V) (v5 : V) (v6 : V) (v11 : V) (v12 : V) (v13 : V) : Prop :=
  @OptVH (loadV 5 true v6 M) ⟨fun t18_1 =>
  @CallH P i_trip_key [t18_1] M ⟨fun t19_2 M2 =>
  Q .normal [(3, v3), (4, v4), (5, v5), (7, t19_2), (11, v11), (12, v12), (13, v13)] M2⟩⟩
theorem e22_14 (P : Program) (Q : Exit → Slots → Mem → Prop) (s : Slots) (M : Mem) : wpC P c22_14 Q s M = w22_14 P Q M (sget s 3) (sget s 4) (sget s 5) (sget s 6) (sget s 11) (sget s 12) (sget s 13) := by kernel_rfl
def o22_15 : List AOper := [⟨some 21, (.mov (.tmp 3)), false, none⟩,
  ⟨some 22, (.mov (.tmp 7)), false, none⟩,
  ⟨some 23, (.lookup .str [(.int .i64 0)] false true (.tmp 21) (.tmp 22)), false, none⟩,
  ⟨some 20, (.mov (.tmp 23)), false, none⟩,
  ⟨some 24, (.extract (.tmp 20) 0), false, none⟩,
  ⟨some 25, (.extract (.tmp 20) 1), true, none⟩,
  ⟨some 8, (.mov (.tmp 24)), false, none⟩,
  ⟨some 9, (.mov (.tmp 25)), true, none⟩]
def c22_16 : ACode := (.region o22_15 [3, 4, 5, 7, 8, 9, 11, 12, 13])
def w22_16 (_P : Program) (Q : Exit → Slots → Mem → Prop) (M : Mem) (v3 : V) (v4 : V) (v5 : V) (v7 : V) (v11 : V) (v12 : V) (v13 : V) : Prop :=
  @OptVH (lookupV .str [(.int .i64 0)] false true v3 v7 M) ⟨fun t23_3 =>
  @OptVH (extractV t23_3 0) ⟨fun t24_5 =>
  @OptBH (extractV t23_3 1) ⟨fun b25_6 =>
  Q .normal [(3, v3), (4, v4), (5, v5), (7, v7), (8, t24_5), (9, (.bool b25_6)), (11, v11), (12, v12), (13, v13)] M⟩⟩⟩
theorem e22_16 (P : Program) (Q : Exit → Slots → Mem → Prop) (s : Slots) (M : Mem) : wpC P c22_16 Q s M = w22_16 P Q M (sget s 3) (sget s 4) (sget s 5) (sget s 7) (sget s 11) (sget s 12) (sget s 13) := by kernel_rfl
def o22_17 : List AOper := [⟨some 28, (.mov (.tmp 4)), false, none⟩,
  ⟨some 29, (.lenSl (.tmp 28)), false, none⟩,
  ⟨some 8, (.mov (.tmp 29)), false, none⟩]
def c22_18 : ACode := (.region o22_17 [3, 4, 5, 7, 8, 11, 12, 13])
def w22_18 (_P : Program) (Q : Exit → Slots → Mem → Prop) (M : Mem) (v3 : V) (v4 : V) (v5 : V) (v7 : V) (v11 : V) (v12 : V) (v13 : V) : Prop :=
  @OptVH (lenV v4 M) ⟨fun t29_2 =>
  Q .normal [(3, v3), (4, v4), (5, v5), (7, v7), (8, t29_2), (11, v11), (12, v12), (13, v13)] M⟩
theorem e22_18 (P : Program) (Q : Exit → Slots → Mem → Prop) (s : Slots) (M : Mem) : wpC P c22_18 Q s M = w22_18 P Q M (sget s 3) (sget s 4) (sget s 5) (sget s 7) (sget s 11) (sget s 12) (sget s 13) := by kernel_rfl
def o22_19 : List AOper := [⟨some 30, (.mov (.tmp 3)), false, none⟩,
  ⟨some 31, (.mov (.tmp 7)), false, none⟩,
  ⟨some 32, (.mov (.tmp 8)), false, none⟩,
  ⟨none, (.mapUpdate .str (.tmp 30) (.tmp 31) (.tmp 32)), false, none⟩]
def c22_20 : ACode := (.region o22_19 [3, 4, 5, 8, 11, 12, 13])
def w22_20 (_P : Program) (Q : Exit → Slots → Mem → Prop) (M : Mem) (v3 : V) (v4 : V) (v5 : V) (v7 : V) (v8 : V) (v11 : V) (v12 : V) (v13 : V) : Prop :=
  @OptMH (mapUpdateVM .str v3 v7 v8 M) ⟨fun _tx_4 M4 =>
  Q .normal [(3, v3), (4, v4), (5, v5), (8, v8), (11, v11), (12, v12), (13, v13)] M4⟩
theorem e22_20 (P : Program) (Q : Exit → Slots → Mem → Prop) (s : Slots) (M : Mem) : wpC P c22_20 Q s M = w22_20 P Q M (sget s 3) (sget s 4) (sget s 5) (sget s 7) (sget s 8) (sget s 11) (sget s 12) (sget s 13) := by kernel_rfl
def o22_21 : List AOper := [⟨some 33, (.mov (.tmp 4)), false, none⟩,
  ⟨some 34, (.buildSlice [(.slice [] .nil)] 1 1 [(0, (1, (.const (.slice [] .nil))))]), false, none⟩,
  ⟨some 35, (.append false 1 24 (.tmp 33) (.tmp 34)), false, none⟩,
  ⟨some 4, (.mov (.tmp 35)), false, none⟩]
def c22_22 : ACode := (.region o22_21 [3, 4, 5, 8, 11, 12, 13])
def w22_22 (_P : Program) (Q : Exit → Slots → Mem → Prop) (M : Mem) (v3 : V) (v4 : V) (v5 : V) (v8 : V) (v11 : V) (v12 : V) (v13 : V) : Prop :=
  @OptVH (buildSliceV [(.slice [] .nil)] 1 1 [(0, 1, (.slice [] .nil))]) ⟨fun t34_2 =>
  @OptMH (appV false 1 24 v4 t34_2 M) ⟨fun t35_3 M3 =>
  Q .normal [(3, v3), (4, t35_3), (5, v5), (8, v8), (11, v11), (12, v12), (13, v13)] M3⟩⟩
theorem e22_22 (P : Program) (Q : Exit → Slots → Mem → Prop) (s : Slots) (M : Mem) : wpC P c22_22 Q s M = w22_22 P Q M (sget s 3) (sget s 4) (sget s 5) (sget s 8) (sget s 11) (sget s 12) (sget s 13) := by kernel_rfl
def c22_23 : ACode := (.seq c22_20 c22_22)
def c22_24 : ACode := (.seq c22_18 c22_23)
def o22_25 : List AOper := [⟨some 26, (.mov (.tmp 9)), true, none⟩,
  ⟨some 27, (.un .not (.tmp 26)), true, none⟩]
def c22_26 : ACode := (.seq (.region o22_25 [3, 4, 5, 7, 8, 11, 12, 13, 27]) (.cond (.tmp 27) c22_24 .skip))
def w22_26 (P : Program) (Q : Exit → Slots → Mem → Prop) (M : Mem) (v3 : V) (v4 : V) (v5 : V) (v7 : V) (v8 : V) (v9 : V) (v11 : V) (v12 : V) (v13 : V) : Prop :=
  @OptBH (some v9) ⟨fun b26_1 =>
  @OptBH (unV .not (.bool b26_1)) ⟨fun b27_2 =>
  @BIfH b27_2
  ⟨wpC P c22_24 Q [(3, v3), (4, v4), (5, v5), (7, v7), (8, v8), (11, v11), (12, v12), (13, v13), (27, (.bool b27_2))] M⟩
  ⟨Q .normal [(3, v3), (4, v4), (5, v5), (7, v7), (8, v8), (11, v11), (12, v12), (13, v13), (27, (.bool b27_2))] M⟩⟩⟩
theorem e22_26 (P : Program) (Q : Exit → Slots → Mem → Prop) (s : Slots) (M : Mem) : wpC P c22_26 Q s M = w22_26 P Q M (sget s 3) (sget s 4) (sget s 5) (sget s 7) (sget s 8) (sget s 9) (sget s 11) (sget s 12) (sget s 13) := by kernel_rfl
def o22_27 : List AOper := [⟨some 36, (.mov (.tmp 4)), false, none⟩,
  ⟨some 37, (.mov (.tmp 8)), false, none⟩,
  ⟨some 38, (.mov (.tmp 4)), false, none⟩,
  ⟨some 39, (.mov (.tmp 8)), false, none⟩,
  ⟨some 40, (.indexSl 1 (.tmp 38) (.tmp 39)), false, none⟩,
  ⟨some 41, (.load 1 false (.tmp 40)), false, none⟩,
  ⟨some 42, (.mov (.tmp 5)), false, none⟩,
  ⟨some 43, (.buildSlice [(.int .i64 0)] 1 1 [(0, (1, (.tmp 42)))]), false, none⟩,
  ⟨some 44, (.append false 1 8 (.tmp 41) (.tmp 43)), false, none⟩,
  ⟨some 45, (.indexSl 1 (.tmp 36) (.tmp 37)), false, none⟩,
  ⟨none, (.store 1 (.tmp 45) (.tmp 44)), false, none⟩]
def c22_28 : ACode := (.region o22_27 [3, 4, 11, 12, 13])
def w22_28 (_P : Program) (Q : Exit → Slots → Mem → Prop) (M : Mem) (v3 : V) (v4 : V) (v5 : V) (v8 : V) (v11 : V) (v12 : V) (v13 : V) : Prop :=
  @OptVH (indexSlV 1 v4 v8 M) ⟨fun t40_5 =>
  @OptVH (loadV 1 false t40_5 M) ⟨fun t41_6 =>
  @OptVH (buildSliceV [(.int .i64 0)] 1 1 [(0, 1, v5)]) ⟨fun t43_8 =>
  @OptMH (appV false 1 8 t41_6 t43_8 M) ⟨fun t44_9 M9 =>
  @OptVH (indexSlV 1 v4 v8 M9) ⟨fun t45_10 =>
  @OptMH (storeVM 1 t45_10 t44_9 M9) ⟨fun _tx_11 M11 =>
  Q .normal [(3, v3), (4, v4), (11, v11), (12, v12), (13, v13)] M11⟩⟩⟩⟩⟩⟩
theorem e22_28 (P : Program) (Q : Exit → Slots → Mem → Prop) (s : Slots) (M : Mem) : wpC P c22_28 Q s M = w22_28 P Q M (sget s 3) (sget s 4) (sget s 5) (sget s 8) (sget s 11) (sget s 12) (sget s 13) := by kernel_rfl
def c22_29 : ACode := (.seq c22_26 c22_28)
def c22_30 : ACode := (.seq c22_16 c22_29)
def c22_31 : ACode := (.seq c22_14 c22_30)
def c22_32 : ACode := (.seq c22_12 c22_31)
def c22_33 : ACode := (.block 1 c22_32)
def o22_34 : List AOper := [⟨some 46, (.bin .add .none (.tmp 13) (.const (.int .i64 1))), false, none⟩,
  ⟨some 13, (.mov (.tmp 46)), false, none⟩]
def c22_35 : ACode := (.region o22_34 [3, 4, 11, 12, 13])
def w22_35 (_P : Program) (Q : Exit → Slots → Mem → Prop) (M : Mem) (v3 : V) (v4 : V) (v11 : V) (v12 : V) (v13 : V) : Prop :=
  @OptVH (binV .add .none v13 (.int .i64 1)) ⟨fun t46_1 =>
  Q .normal [(3, v3), (4, v4), (11, v11), (12, v12), (13, t46_1)] M⟩
theorem e22_35 (P : Program) (Q : Exit → Slots → Mem → Prop) (s : Slots) (M : Mem) : wpC P c22_35 Q s M = w22_35 P Q M (sget s 3) (sget s 4) (sget s 11) (sget s 12) (sget s 13) := by kernel_rfl
def c22_36 : ACode := (.seq c22_33 c22_35)
def c22_37 : ACode := (.seq c22_10 c22_36)
def c22_38 : ACode := (.seq c22_9 c22_37)
def c22_39 : ACode := (.loop [3, 4, 11, 12, 13] c22_38)
def c22_40 : ACode := (.block 0 c22_39)
def c22_41 : ACode := (.seq c22_7 c22_40)
def o22_42 : List AOper := [⟨some 47, (.mov (.tmp 4)), false, none⟩,
  ⟨some 2, (.mov (.tmp 47)), false, none⟩]
def c22_43 : ACode := (.region o22_42 [2])
def w22_43 (_P : Program) (Q : Exit → Slots → Mem → Prop) (M : Mem) (v4 : V) : Prop :=
  Q .normal [(2, v4)] M
theorem e22_43 (P : Program) (Q : Exit → Slots → Mem → Prop) (s : Slots) (M : Mem) : wpC P c22_43 Q s M = w22_43 P Q M (sget s 4) := by kernel_rfl
def c22_44 : ACode := (.seq c22_43 .ret)
def c22_45 : ACode := (.seq c22_41 c22_44)
def c22_46 : ACode := (.seq c22_5 c22_45)
def c22_47 : ACode := (.seq c22_3 c22_46)
def c22_48 : ACode := (.seq c22_1 c22_47)
def fn_trip_Groups : AFn := ⟨48, [(.tmp 2)], c22_48⟩
theorem fn_trip_Groups_ok : resFn PR h_trip_Groups i_trip_Groups = some fn_trip_Groups := by kernel_rfl

def h_transitref17_Group : Hints := ⟨[(0, [0, 1]), (1, [0, 1, 5]), (2, [0, 1, 5, 6]), (3, [0, 1, 5, 6, 10]), (4, [0, 1, 5, 6]), (5, [0, 1, 5, 6, 22]), (6, [0, 1, 5, 6, 25]), (7, [4]), (8, [0, 1, 5, 6]), (9, [4])], [(3, [0, 1, 5, 6])], [(1, [0])]⟩
def o23_0 : List AOper := [⟨some 4, (.mov (.const (.slice [] .nil))), false, none⟩]
def c23_1 : ACode := (.region o23_0 [0, 1])
def w23_1 (_P : Program) (Q : Exit → Slots → Mem → Prop) (M : Mem) (v0 : V) (v1 : V) : Prop :=
  Q .normal [(0, v0), (1, v1)] M
theorem e23_1 (P : Program) (Q : Exit → Slots → Mem → Prop) (s : Slots) (M : Mem) : wpC P c23_1 Q s M = w23_1 P Q M (sget s 0) (sget s 1) := by kernel_rfl
def o23_2 : List AOper := [⟨some 5, (.newarr 1), false, none⟩]
def c23_3 : ACode := (.region o23_2 [0, 1, 5])
def w23_3 (_P : Program) (Q : Exit → Slots → Mem → Prop) (M : Mem) (v0 : V) (v1 : V) : Prop :=
  @OptMH (newarrV 1 M) ⟨fun t5_1 M1 =>
  Q .normal [(0, v0), (1, v1), (5, t5_1)] M1⟩
theorem e23_3 (P : Program) (Q : Exit → Slots → Mem → Prop) (s : Slots) (M : Mem) : wpC P c23_3 Q s M = w23_3 P Q M (sget s 0) (sget s 1) := by kernel_rfl
def o23_4 : List AOper := [⟨some 6, (.mov (.const (.int .i64 0))), false, none⟩]
def c23_5 : ACode := (.region o23_4 [0, 1, 5, 6])
def w23_5 (_P : Program) (Q : Exit → Slots → Mem → Prop) (M : Mem) (v0 : V) (v1 : V) (v5 : V) : Prop :=
  Q .normal [(0, v0), (1, v1), (5, v5), (6, (.int .i64 0))] M
theorem e23_5 (P : Program) (Q : Exit → Slots → Mem → Prop) (s : Slots) (M : Mem) : wpC P c23_5 Q s M = w23_5 P Q M (sget s 0) (sget s 1) (sget s 5) := by kernel_rfl
def o23_6 : List AOper := [⟨some 7, (.mov (.tmp 6)), false, none⟩,
  ⟨some 8, (.mov (.tmp 0)), false, none⟩,
  ⟨some 9, (.lenSl (.tmp 8)), false, none⟩,
  ⟨some 10, (.bin .lss .none (.tmp 7) (.tmp 9)), true, none⟩]
def c23_7 : ACode := (.seq (.region o23_6 [0, 1, 5, 6, 10]) (.cond (.tmp 10) .skip (.exit 0)))
def w23_7 (_P : Program) (Q : Exit → Slots → Mem → Prop) (M : Mem) (v0 : V) (v1 : V) (v5 : V) (v6 : V) : Prop :=
  @OptVH (lenV v0 M) ⟨fun t9_3 =>
  @OptBH (binV .lss .none v6 t9_3) ⟨fun b10_4 =>
  @BIfH b10_4
  ⟨Q .normal [(0, v0), (1, v1), (5, v5), (6, v6), (10, (.bool b10_4))] M⟩
  ⟨Q (.exit 0) [(0, v0), (1, v1), (5, v5), (6, v6), (10, (.bool b10_4))] M⟩⟩⟩
theorem e23_7 (P : Program) (Q : Exit → Slots → Mem → Prop) (s : Slots) (M : Mem) : wpC P c23_7 Q s M = w23_7 P Q M (sget s 0) (sget s 1) (sget s 5) (sget s 6) := by kernel_rfl
def o23_8 : List AOper := [⟨some 13, (.mov (.tmp 0)), false, none⟩,
  ⟨some 14, (.mov (.tmp 6)), false, none⟩,
  ⟨some 15, (.indexSl 5 (.tmp 13) (.tmp 14)), false, none⟩,
  ⟨some 16, (.load 5 true (.tmp 15)), false, none⟩,
  ⟨some 17, (.mov (.tmp 0)), false, none⟩,
  ⟨some 18, (.mov (.tmp 1)), false, none⟩,
  ⟨some 19, (.indexSl 5 (.tmp 17) (.tmp 18)), false, none⟩,
  ⟨some 20, (.load 5 true (.tmp 19)), false, none⟩,
  ⟨some 21, (.call i_transitref17_SamePattern [(.tmp 16), (.tmp 20)]), true, none⟩,
  ⟨some 22, (.un .not (.tmp 21)), true, none⟩]
def c23_9 : ACode := (.seq (.mixed o23_8 [true, true, true, true, true, true, true, true, false, true] [0, 1, 5, 6, 22]) (.cond (.tmp 22) (.exit 1) .skip))
def w23_9 (P : Program) (Q : Exit → Slots → Mem → Prop) (M : Mem) (v0 : V) (v1 : V) (v5 : V) (v6 : V) : Prop :=
  @OptVH (indexSlV 5 v0 v6 M) ⟨fun t15_3 =>
  @OptVH (loadV 5 true t15_3 M) ⟨fun t16_4 =>
  @OptVH (indexSlV 5 v0 v1 M) ⟨fun t19_7 =>
  @OptVH (loadV 5 true t19_7 M) ⟨fun t20_8 =>
  @CallH P i_transitref17_SamePattern [t16_4, t20_8] M ⟨fun t21_9 M9 => @OptBH (some t21_9) ⟨fun b21_9 =>
  @OptBH (unV .not (.bool b21_9)) ⟨fun b22_10 =>
  @BIfH b22_10
  ⟨Q (.exit 1) [(0, v0), (1, v1), (5, v5), (6, v6), (22, (.bool b22_10))] M9⟩
  ⟨Q .normal [(0, v0), (1, v1), (5, v5), (6, v6), (22, (.bool b22_10))] M9⟩⟩⟩⟩⟩⟩⟩⟩
theorem e23_9 (P : Program) (Q : Exit → Slots → Mem → Prop) (s : Slots) (M : Mem) : wpC P c23_9 Q s M = w23_9 P Q M (sget s 0) (sget s 1) (sget s 5) (sget s 6) := by kernel_rfl
def o23_10 : List AOper := [⟨some 4, (.mov (.const (.slice [] .nil))), false, none⟩]
def c23_11 : ACode := (.region o23_10 [4])
def w23_11 (_P : Program) (Q : Exit → Slots → Mem → Prop) (M : Mem) : Prop :=
  Q .normal [(4, (.slice [] .nil))] M
theorem e23_11 (P : Program) (Q : Exit → Slots → Mem → Prop) (s : Slots) (M : Mem) : wpC P c23_11 Q s M = w23_11 P Q M := by kernel_rfl
def c23_12 : ACode := (.seq c23_11 .ret)
def o23_13 : List AOper := [⟨some 23, (.mov (.tmp 6)), false, none⟩,
  ⟨some 24, (.mov (.tmp 1)), false, none⟩,
  ⟨some 25, (.bin .lss .none (.tmp 23) (.tmp 24)), true, none⟩]
def c23_14 : ACode := (.seq (.region o23_13 [0, 1, 5, 6, 25]) (.cond (.tmp 25) c23_12 .skip))
def w23_14 (P : Program) (Q : Exit → Slots → Mem → Prop) (M : Mem) (v0 : V) (v1 : V) (v5 : V) (v6 : V) : Prop :=
  @OptBH (binV .lss .none v6 v1) ⟨fun b25_3 =>
  @BIfH b25_3
  ⟨wpC P c23_12 Q [(0, v0), (1, v1), (5, v5), (6, v6), (25, (.bool b25_3))] M⟩
  ⟨Q .normal [(0, v0), (1, v1), (5, v5), (6, v6), (25, (.bool b25_3))] M⟩⟩
theorem e23_14 (P : Program) (Q : Exit → Slots → Mem → Prop) (s : Slots) (M : Mem) : wpC P c23_14 Q s M = w23_14 P Q M (sget s 0) (sget s 1) (sget s 5) (sget s 6) := by kernel_rfl
def o23_15 : List AOper := [⟨some 26, (.mov (.tmp 5)), false, none⟩,
  ⟨some 27, (.mov (.tmp 6)), false, none⟩,
  ⟨some 28, (.buildSlice [(.int .i64 0)] 1 1 [(0, (1, (.tmp 27)))]), false, none⟩,
  ⟨some 29, (.append false 1 8 (.tmp 26) (.tmp 28)), false, none⟩,
  ⟨some 5, (.mov (.tmp 29)), false, none⟩]
def c23_16 : ACode := (.region o23_15 [0, 1, 5, 6])
def w23_16 (_P : Program) (Q : Exit → Slots → Mem → Prop) (M : Mem) (v0 : V) (v1 : V) (v5 : V) (v6 : V) : Prop :=
  @OptVH (buildSliceV [(.int .i64 0)] 1 1 [(0, 1, v6)]) ⟨fun t28_3 =>
  @OptMH (appV false 1 8 v5 t28_3 M) ⟨fun t29_4 M4 =>
  Q .normal [(0, v0), (1, v1), (5, t29_4), (6, v6)] M4⟩⟩
theorem e23_16 (P : Program) (Q : Exit → Slots → Mem → Prop) (s : Slots) (M : Mem) : wpC P c23_16 Q s M = w23_16 P Q M (sget s 0) (sget s 1) (sget s 5) (sget s 6) := by kernel_rfl
def c23_17 : ACode := (.seq c23_14 c23_16)
def c23_18 : ACode := (.seq c23_9 c23_17)
def c23_19 : ACode := (.block 1 c23_18)
def o23_20 : List AOper := [⟨some 11, (.mov (.tmp 6)), false, none⟩,
  ⟨some 12, (.bin .add .none (.tmp 11) (.const (.int .i64 1))), false, none⟩,
  ⟨some 6, (.mov (.tmp 12)), false, none⟩]
def c23_21 : ACode := (.region o23_20 [0, 1, 5, 6])
def w23_21 (_P : Program) (Q : Exit → Slots → Mem → Prop) (M : Mem) (v0 : V) (v1 : V) (v5 : V) (v6 : V) : Prop :=
  @OptVH (binV .add .none v6 (.int .i64 1)) ⟨fun t12_2 =>
  Q .normal [(0, v0), (1, v1), (5, v5), (6, t12_2)] M⟩
theorem e23_21 (P : Program) (Q : Exit → Slots → Mem → Prop) (s : Slots) (M : Mem) : wpC P c23_21 Q s M = w23_21 P Q M (sget s 0) (sget s 1) (sget s 5) (sget s 6) := by kernel_rfl
def c23_22 : ACode := (.seq c23_19 c23_21)
def c23_23 : ACode := (.seq c23_7 c23_22)
def c23_24 : ACode := (.loop [0, 1, 5, 6] c23_23)
def c23_25 : ACode := (.block 0 c23_24)
def c23_26 : ACode := (.seq c23_5 c23_25)
def o23_27 : List AOper := [⟨some 30, (.mov (.tmp 5)), false, none⟩,
  ⟨some 4, (.mov (.tmp 30)), false, none⟩]
def c23_28 : ACode := (.region o23_27 [4])
def w23_28 (_P : Program) (Q : Exit → Slots → Mem → Prop) (M : Mem) (v5 : V) : Prop :=
  Q .normal [(4, v5)] M
theorem e23_28 (P : Program) (Q : Exit → Slots → Mem → Prop) (s : Slots) (M : Mem) : wpC P c23_28 Q s M = w23_28 P Q M (sget s 5) := by kernel_rfl
def c23_29 : ACode := (.seq c23_28 .ret)
def c23_30 : ACode := (.seq c23_26 c23_29)
def c23_31 : ACode := (.seq c23_3 c23_30)
def c23_32 : ACode := (.seq c23_1 c23_31)
def fn_transitref17_Group : AFn := ⟨31, [(.tmp 4)], c23_32⟩
theorem fn_transitref17_Group_ok : resFn PR h_transitref17_Group i_transitref17_Group = some fn_transitref17_Group := by kernel_rfl

def h_transitlaw17_same : Hints := ⟨[(0, [0, 1]), (1, [0, 1, 10]), (2, [4]), (3, [0, 1, 5]), (4, [0, 1, 5, 14]), (5, [0, 1, 5]), (6, [0, 1, 5, 25]), (7, [4]), (8, [4])], [(4, [0, 1, 5])], []⟩
def o24_0 : List AOper := [⟨some 4, (.mov (.const (.bool false))), true, none⟩]
def c24_1 : ACode := (.region o24_0 [0, 1])
def w24_1 (_P : Program) (Q : Exit → Slots → Mem → Prop) (M : Mem) (v0 : V) (v1 : V) : Prop :=
  Q .normal [(0, v0), (1, v1)] M
theorem e24_1 (P : Program) (Q : Exit → Slots → Mem → Prop) (s : Slots) (M : Mem) : wpC P c24_1 Q s M = w24_1 P Q M (sget s 0) (sget s 1) := by kernel_rfl
def o24_2 : List AOper := [⟨some 4, (.mov (.const (.bool false))), true, none⟩]
def c24_3 : ACode := (.region o24_2 [4])
def w24_3 (_P : Program) (Q : Exit → Slots → Mem → Prop) (M : Mem) : Prop :=
  Q .normal [(4, (.bool false))] M
theorem e24_3 (P : Program) (Q : Exit → Slots → Mem → Prop) (s : Slots) (M : Mem) : wpC P c24_3 Q s M = w24_3 P Q M := by kernel_rfl
def c24_4 : ACode := (.seq c24_3 .ret)
def o24_5 : List AOper := [⟨some 6, (.mov (.tmp 0)), false, none⟩,
  ⟨some 7, (.lenSl (.tmp 6)), false, none⟩,
  ⟨some 8, (.mov (.tmp 1)), false, none⟩,
  ⟨some 9, (.lenSl (.tmp 8)), false, none⟩,
  ⟨some 10, (.bin .neq .none (.tmp 7) (.tmp 9)), true, none⟩]
def c24_6 : ACode := (.seq (.region o24_5 [0, 1, 10]) (.cond (.tmp 10) c24_4 .skip))
def w24_6 (P : Program) (Q : Exit → Slots → Mem → Prop) (M : Mem) (v0 : V) (v1 : V) : Prop :=
  @OptVH (lenV v0 M) ⟨fun t7_2 =>
  @OptVH (lenV v1 M) ⟨fun t9_4 =>
  @OptBH (binV .neq .none t7_2 t9_4) ⟨fun b10_5 =>
  @BIfH b10_5
  ⟨wpC P c24_4 Q [(0, v0), (1, v1), (10, (.bool b10_5))] M⟩
  ⟨Q .normal [(0, v0), (1, v1), (10, (.bool b10_5))] M⟩⟩⟩⟩
theorem e24_6 (P : Program) (Q : Exit → Slots → Mem → Prop) (s : Slots) (M : Mem) : wpC P c24_6 Q s M = w24_6 P Q M (sget s 0) (sget s 1) := by kernel_rfl
def o24_7 : List AOper := [⟨some 5, (.mov (.const (.int .i64 0))), false, none⟩]
def c24_8 : ACode := (.region o24_7 [0, 1, 5])
def w24_8 (_P : Program) (Q : Exit → Slots → Mem → Prop) (M : Mem) (v0 : V) (v1 : V) : Prop :=
  Q .normal [(0, v0), (1, v1), (5, (.int .i64 0))] M
theorem e24_8 (P : Program) (Q : Exit → Slots → Mem → Prop) (s : Slots) (M : Mem) : wpC P c24_8 Q s M = w24_8 P Q M (sget s 0) (sget s 1) := by kernel_rfl
def o24_9 : List AOper := [⟨some 11, (.mov (.tmp 5)), false, none⟩,
  ⟨some 12, (.mov (.tmp 0)), false, none⟩,
  ⟨some 13, (.lenSl (.tmp 12)), false, none⟩,
  ⟨some 14, (.bin .lss .none (.tmp 11) (.tmp 13)), true, none⟩]
def c24_10 : ACode := (.seq (.region o24_9 [0, 1, 5, 14]) (.cond (.tmp 14) .skip (.exit 0)))
def w24_10 (_P : Program) (Q : Exit → Slots → Mem → Prop) (M : Mem) (v0 : V) (v1 : V) (v5 : V) : Prop :=
  @OptVH (lenV v0 M) ⟨fun t13_3 =>
  @OptBH (binV .lss .none v5 t13_3) ⟨fun b14_4 =>
  @BIfH b14_4
  ⟨Q .normal [(0, v0), (1, v1), (5, v5), (14, (.bool b14_4))] M⟩
  ⟨Q (.exit 0) [(0, v0), (1, v1), (5, v5), (14, (.bool b14_4))] M⟩⟩⟩
theorem e24_10 (P : Program) (Q : Exit → Slots → Mem → Prop) (s : Slots) (M : Mem) : wpC P c24_10 Q s M = w24_10 P Q M (sget s 0) (sget s 1) (sget s 5) := by kernel_rfl
def o24_11 : List AOper := [⟨some 4, (.mov (.const (.bool false))), true, none⟩]
def c24_12 : ACode := (.region o24_11 [4])
def w24_12 (_P : Program) (Q : Exit → Slots → Mem → Prop) (M : Mem) : Prop :=
  Q .normal [(4, (.bool false))] M
theorem e24_12 (P : Program) (Q : Exit → Slots → Mem → Prop) (s : Slots) (M : Mem) : wpC P c24_12 Q s M = w24_12 P Q M := by kernel_rfl
def c24_13 : ACode := (.seq c24_12 .ret)
def o24_14 : List AOper := [⟨some 17, (.mov (.tmp 0)), false, none⟩,
  ⟨some 18, (.mov (.tmp 5)), false, none⟩,
  ⟨some 19, (.indexSl 1 (.tmp 17) (.tmp 18)), false, none⟩,
  ⟨some 20, (.load 1 false (.tmp 19)), false, none⟩,
  ⟨some 21, (.mov (.tmp 1)), false, none⟩,
  ⟨some 22, (.mov (.tmp 5)), false, none⟩,
  ⟨some 23, (.indexSl 1 (.tmp 21) (.tmp 22)), false, none⟩,
  ⟨some 24, (.load 1 false (.tmp 23)), false, none⟩,
  ⟨some 25, (.bin .neq .none (.tmp 20) (.tmp 24)), true, none⟩]
def c24_15 : ACode := (.seq (.mixed o24_14 [true, true, true, true, true, true, true, true, true] [0, 1, 5, 25]) (.cond (.tmp 25) c24_13 .skip))
def w24_15 (P : Program) (Q : Exit → Slots → Mem → Prop) (M : Mem) (v0 : V) (v1 : V) (v5 : V) : Prop :=
  @OptVH (indexSlV 1 v0 v5 M) ⟨fun t19_3 =>
  @OptVH (loadV 1 false t19_3 M) ⟨fun t20_4 =>
  @OptVH (indexSlV 1 v1 v5 M) ⟨fun t23_7 =>
  @OptVH (loadV 1 false t23_7 M) ⟨fun t24_8 =>
  @OptBH (binV .neq .none t20_4 t24_8) ⟨fun b25_9 =>
  @BIfH b25_9
  ⟨wpC P c24_13 Q [(0, v0), (1, v1), (5, v5), (25, (.bool b25_9))] M⟩
  ⟨Q .normal [(0, v0), (1, v1), (5, v5), (25, (.bool b25_9))] M⟩⟩⟩⟩⟩⟩
theorem e24_15 (P : Program) (Q : Exit → Slots → Mem → Prop) (s : Slots) (M : Mem) : wpC P c24_15 Q s M = w24_15 P Q M (sget s 0) (sget s 1) (sget s 5) := by kernel_rfl
def c24_16 : ACode := (.block 1 c24_15)
def o24_17 : List AOper := [⟨some 15, (.mov (.tmp 5)), false, none⟩,
  ⟨some 16, (.bin .add .none (.tmp 15) (.const (.int .i64 1))), false, none⟩,
  ⟨some 5, (.mov (.tmp 16)), false, none⟩]
def c24_18 : ACode := (.region o24_17 [0, 1, 5])
def w24_18 (_P : Program) (Q : Exit → Slots → Mem → Prop) (M : Mem) (v0 : V) (v1 : V) (v5 : V) : Prop :=
  @OptVH (binV .add .none v5 (.int .i64 1)) ⟨fun t16_2 =>
  Q .normal [(0, v0), (1, v1), (5, t16_2)] M⟩
theorem e24_18 (P : Program) (Q : Exit → Slots → Mem → Prop) (s : Slots) (M : Mem) : wpC P c24_18 Q s M = w24_18 P Q M (sget s 0) (sget s 1) (sget s 5) := by kernel_rfl
def c24_19 : ACode := (.seq c24_16 c24_18)
def c24_20 : ACode := (.seq c24_10 c24_19)
def c24_21 : ACode := (.loop [0, 1, 5] c24_20)
def c24_22 : ACode := (.block 0 c24_21)
def c24_23 : ACode := (.seq c24_8 c24_22)
def o24_24 : List AOper := [⟨some 4, (.mov (.const (.bool true))), true, none⟩]
def c24_25 : ACode := (.region o24_24 [4])
def w24_25 (_P : Program) (Q : Exit → Slots → Mem → Prop) (M : Mem) : Prop :=
  Q .normal [(4, (.bool true))] M
theorem e24_25 (P : Program) (Q : Exit → Slots → Mem → Prop) (s : Slots) (M : Mem) : wpC P c24_25 Q s M = w24_25 P Q M := by kernel_rfl
def c24_26 : ACode := (.seq c24_25 .ret)
def c24_27 : ACode := (.seq c24_23 c24_26)
def c24_28 : ACode := (.seq c24_6 c24_27)
def c24_29 : ACode := (.seq c24_1 c24_28)
def fn_transitlaw17_same : AFn := ⟨26, [(.tmp 4)], c24_29⟩
theorem fn_transitlaw17_same_ok : resFn PR h_transitlaw17_same i_transitlaw17_same = some fn_transitlaw17_same := by kernel_rfl

def h_trip_Overtakes : Hints := ⟨[(0, [2, 3]), (1, [2, 3, 14]), (2, [4]), (3, [2, 3, 5]), (4, [2, 3, 5, 17, 18]), (5, [2, 3, 5, 17, 18, 19]), (6, [2, 3, 5, 6, 17, 18]), (7, [2, 3, 5, 7, 8, 17, 18]), (8, [2, 3, 5, 17, 18, 41, 42]), (9, [2, 3, 5, 17, 18, 41, 42, 43]), (10, [2, 3, 5, 10, 17, 18, 41, 42]), (11, [2, 3, 5, 10, 17, 18, 41, 42, 52]), (12, [4]), (13, [2, 3, 5, 17, 18, 41, 42]), (14, [2, 3, 5, 17, 18, 41, 42]), (15, [2, 3, 5, 17, 18]), (16, [4])], [(5, [2, 3, 5, 17, 18]), (9, [2, 3, 5, 17, 18, 41, 42])], []⟩
def o25_0 : List AOper := [⟨some 2, (.box 5 (.tmp 0)), false, none⟩,
  ⟨some 3, (.box 5 (.tmp 1)), false, none⟩,
  ⟨some 4, (.mov (.const (.bool false))), true, none⟩]
def c25_1 : ACode := (.region o25_0 [2, 3])
def w25_1 (_P : Program) (Q : Exit → Slots → Mem → Prop) (M : Mem) (v0 : V) (v1 : V) : Prop :=
  @OptMH (boxV 5 v0 M) ⟨fun t2_1 M1 =>
  @OptMH (boxV 5 v1 M1) ⟨fun t3_2 M2 =>
  Q .normal [(2, t2_1), (3, t3_2)] M2⟩⟩
theorem e25_1 (P : Program) (Q : Exit → Slots → Mem → Prop) (s : Slots) (M : Mem) : wpC P c25_1 Q s M = w25_1 P Q M (sget s 0) (sget s 1) := by kernel_rfl
def o25_2 : List AOper := [⟨some 4, (.mov (.const (.bool false))), true, none⟩]
def c25_3 : ACode := (.region o25_2 [4])
def w25_3 (_P : Program) (Q : Exit → Slots → Mem → Prop) (M : Mem) : Prop :=
  Q .normal [(4, (.bool false))] M
theorem e25_3 (P : Program) (Q : Exit → Slots → Mem → Prop) (s : Slots) (M : Mem) : wpC P c25_3 Q s M = w25_3 P Q M := by kernel_rfl
def c25_4 : ACode := (.seq c25_3 .ret)
def o25_5 : List AOper := [⟨some 11, (.load 5 true (.tmp 2)), false, none⟩,
  ⟨some 12, (.load 5 true (.tmp 3)), false, none⟩,
  ⟨some 13, (.call i_trip_SamePattern [(.tmp 11), (.tmp 12)]), true, none⟩,
  ⟨some 14, (.un .not (.tmp 13)), true, none⟩]
def c25_6 : ACode := (.seq (.region o25_5 [2, 3, 14]) (.cond (.tmp 14) c25_4 .skip))
def w25_6 (P : Program) (Q : Exit → Slots → Mem → Prop) (M : Mem) (v2 : V) (v3 : V) : Prop :=
  @OptVH (loadV 5 true v2 M) ⟨fun t11_1 =>
  @OptVH (loadV 5 true v3 M) ⟨fun t12_2 =>
  @CallH P i_trip_SamePattern [t11_1, t12_2] M ⟨fun t13_3 M3 => @OptBH (some t13_3) ⟨fun b13_3 =>
  @OptBH (unV .not (.bool b13_3)) ⟨fun b14_4 =>
  @BIfH b14_4
  ⟨wpC P c25_4 Q [(2, v2), (3, v3), (14, (.bool b14_4))] M3⟩
  ⟨Q .normal [(2, v2), (3, v3), (14, (.bool b14_4))] M3⟩⟩⟩⟩⟩⟩
theorem e25_6 (P : Program) (Q : Exit → Slots → Mem → Prop) (s : Slots) (M : Mem) : wpC P c25_6 Q s M = w25_6 P Q M (sget s 2) (sget s 3) := by kernel_rfl
def o25_7 : List AOper := [⟨some 5, (.mov (.const (.bool false))), true, none⟩]
def c25_8 : ACode := (.region o25_7 [2, 3, 5])
def w25_8 (_P : Program) (Q : Exit → Slots → Mem → Prop) (M : Mem) (v2 : V) (v3 : V) : Prop :=
  Q .normal [(2, v2), (3, v3), (5, (.bool false))] M
theorem e25_8 (P : Program) (Q : Exit → Slots → Mem → Prop) (s : Slots) (M : Mem) : wpC P c25_8 Q s M = w25_8 P Q M (sget s 2) (sget s 3) := by kernel_rfl
def o25_9 : List AOper := [⟨some 15, (.fieldAddr 4 (.tmp 2)), false, none⟩,
  ⟨some 16, (.load 1 false (.tmp 15)), false, none⟩,
  ⟨some 17, (.lenSl (.tmp 16)), false, none⟩,
  ⟨some 18, (.mov (.const (.int .i64 0))), false, none⟩]
def c25_10 : ACode := (.region o25_9 [2, 3, 5, 17, 18])
def w25_10 (_P : Program) (Q : Exit → Slots → Mem → Prop) (M : Mem) (v2 : V) (v3 : V) (v5 : V) : Prop :=
  @OptVH (moveV 4 v2) ⟨fun t15_1 =>
  @OptVH (loadV 1 false t15_1 M) ⟨fun t16_2 =>
  @OptVH (lenV t16_2 M) ⟨fun t17_3 =>
  Q .normal [(2, v2), (3, v3), (5, v5), (17, t17_3), (18, (.int .i64 0))] M⟩⟩⟩
theorem e25_10 (P : Program) (Q : Exit → Slots → Mem → Prop) (s : Slots) (M : Mem) : wpC P c25_10 Q s M = w25_10 P Q M (sget s 2) (sget s 3) (sget s 5) := by kernel_rfl
def o25_11 : List AOper := [⟨some 19, (.bin .lss .none (.tmp 18) (.tmp 17)), true, none⟩]
def c25_12 : ACode := (.region o25_11 [2, 3, 5, 17, 18, 19])
def w25_12 (_P : Program) (Q : Exit → Slots → Mem → Prop) (M : Mem) (v2 : V) (v3 : V) (v5 : V) (v17 : V) (v18 : V) : Prop :=
  @OptBH (binV .lss .none v18 v17) ⟨fun b19_1 =>
  Q .normal [(2, v2), (3, v3), (5, v5), (17, v17), (18, v18), (19, (.bool b19_1))] M⟩
theorem e25_12 (P : Program) (Q : Exit → Slots → Mem → Prop) (s : Slots) (M : Mem) : wpC P c25_12 Q s M = w25_12 P Q M (sget s 2) (sget s 3) (sget s 5) (sget s 17) (sget s 18) := by kernel_rfl
def c25_13 : ACode := (.cond (.tmp 19) .skip (.exit 0))
def o25_14 : List AOper := [⟨some 20, (.mov (.tmp 18)), false, none⟩,
  ⟨some 6, (.mov (.tmp 20)), false, none⟩]
def c25_15 : ACode := (.region o25_14 [2, 3, 5, 6, 17, 18])
def w25_15 (_P : Program) (Q : Exit → Slots → Mem → Prop) (M : Mem) (v2 : V) (v3 : V) (v5 : V) (v17 : V) (v18 : V) : Prop :=
  Q .normal [(2, v2), (3, v3), (5, v5), (6, v18), (17, v17), (18, v18)] M
theorem e25_15 (P : Program) (Q : Exit → Slots → Mem → Prop) (s : Slots) (M : Mem) : wpC P c25_15 Q s M = w25_15 P Q M (sget s 2) (sget s 3) (sget s 5) (sget s 17) (sget s 18) := by kernel_rfl
def o25_16 : List AOper := [⟨some 21, (.fieldAddr 4 (.tmp 2)), false, none⟩,
  ⟨some 22, (.load 1 false (.tmp 21)), false, none⟩,
  ⟨some 23, (.mov (.tmp 6)), false, none⟩,
  ⟨some 24, (.indexSl 5 (.tmp 22) (.tmp 23)), false, none⟩,
  ⟨some 25, (.load 5 true (.tmp 24)), false, none⟩,
  ⟨some 26, (.fieldAddr 4 (.tmp 3)), false, none⟩,
  ⟨some 27, (.load 1 false (.tmp 26)), false, none⟩,
  ⟨some 28, (.mov (.tmp 6)), false, none⟩,
  ⟨some 29, (.indexSl 5 (.tmp 27) (.tmp 28)), false, none⟩,
  ⟨some 30, (.load 5 true (.tmp 29)), false, none⟩,
  ⟨some 7, (.alloc [(.int .i64 0), (.int .i64 0), (.int .i64 0), (.bool false), (.bool false)]), false, none⟩,
  ⟨some 8, (.alloc [(.int .i64 0), (.int .i64 0), (.int .i64 0), (.bool false), (.bool false)]), false, none⟩,
  ⟨none, (.store 5 (.tmp 7) (.tmp 25)), false, none⟩,
  ⟨none, (.store 5 (.tmp 8) (.tmp 30)), false, none⟩]
def c25_17 : ACode := (.float o25_16 [none, none, none, none, none, none, none, none, none, none, (some [0, 1, 2, 3, 4, 5, 6, 7, 8, 9]), (some [0, 1, 2, 3, 4, 5, 6, 7, 8, 9]), (some [5, 6, 7, 8, 9]), (some [])] [2, 3, 5, 7, 8, 17, 18])
def w25_17 (_P : Program) (Q : Exit → Slots → Mem → Prop) (M : Mem) (v2 : V) (v3 : V) (v5 : V) (v6 : V) (v17 : V) (v18 : V) : Prop :=
  @OptVH (moveV 4 v2) ⟨fun t21_1 =>
  @OptVH (loadV 1 false t21_1 M) ⟨fun t22_2 =>
  @OptVH (indexSlV 5 t22_2 v6 M) ⟨fun t24_4 =>
  @OptVH (loadV 5 true t24_4 M) ⟨fun t25_5 =>
  @OptVH (moveV 4 v3) ⟨fun t26_6 =>
  @OptVH (loadV 1 false t26_6 M) ⟨fun t27_7 =>
  @OptVH (indexSlV 5 t27_7 v6 M) ⟨fun t29_9 =>
  @OptVH (loadV 5 true t29_9 M) ⟨fun t30_10 =>
  @OptMH (allocV [(.int .i64 0), (.int .i64 0), (.int .i64 0), (.bool false), (.bool false)] M) ⟨fun t7_11 M11 =>
  (moveV 4 v2 = some t21_1 ∧ loadV 1 false t21_1 M11 = some t22_2 ∧ some v6 = some v6 ∧ indexSlV 5 t22_2 v6 M11 = some t24_4 ∧ loadV 5 true t24_4 M11 = some t25_5 ∧ moveV 4 v3 = some t26_6 ∧ loadV 1 false t26_6 M11 = some t27_7 ∧ some v6 = some v6 ∧ indexSlV 5 t27_7 v6 M11 = some t29_9 ∧ loadV 5 true t29_9 M11 = some t30_10 ∧ True) ∧ (@OptMH (allocV [(.int .i64 0), (.int .i64 0), (.int .i64 0), (.bool false), (.bool false)] M11) ⟨fun t8_12 M12 =>
  (moveV 4 v2 = some t21_1 ∧ loadV 1 false t21_1 M12 = some t22_2 ∧ some v6 = some v6 ∧ indexSlV 5 t22_2 v6 M12 = some t24_4 ∧ loadV 5 true t24_4 M12 = some t25_5 ∧ moveV 4 v3 = some t26_6 ∧ loadV 1 false t26_6 M12 = some t27_7 ∧ some v6 = some v6 ∧ indexSlV 5 t27_7 v6 M12 = some t29_9 ∧ loadV 5 true t29_9 M12 = some t30_10 ∧ True) ∧ (@OptMH (storeVM 5 t7_11 t25_5 M12) ⟨fun _tx_13 M13 =>
  (moveV 4 v3 = some t26_6 ∧ loadV 1 false t26_6 M13 = some t27_7 ∧ some v6 = some v6 ∧ indexSlV 5 t27_7 v6 M13 = some t29_9 ∧ loadV 5 true t29_9 M13 = some t30_10 ∧ True) ∧ (@OptMH (storeVM 5 t8_12 t30_10 M13) ⟨fun _tx_14 M14 =>
  (True) ∧ (Q .normal [(2, v2), (3, v3), (5, v5), (7, t7_11), (8, t8_12), (17, v17), (18, v18)] M14)⟩)⟩)⟩)⟩⟩⟩⟩⟩⟩⟩⟩⟩
theorem e25_17 (P : Program) (Q : Exit → Slots → Mem → Prop) (s : Slots) (M : Mem) : wpC P c25_17 Q s M = w25_17 P Q M (sget s 2) (sget s 3) (sget s 5) (sget s 6) (sget s 17) (sget s 18) := by kernel_rfl
def o25_18 : List AOper := [⟨some 31, (.fieldAddr 1 (.tmp 7)), false, none⟩,
  ⟨some 32, (.load 1 false (.tmp 31)), false, none⟩,
  ⟨some 33, (.fieldAddr 1 (.tmp 8)), false, none⟩,
  ⟨some 34, (.load 1 false (.tmp 33)), false, none⟩,
  ⟨some 35, (.build [(.int .i64 0), (.int .i64 0)] [(0, (1, (.tmp 32))), (1, (1, (.tmp 34)))]), false, none⟩,
  ⟨some 36, (.fieldAddr 2 (.tmp 7)), false, none⟩,
  ⟨some 37, (.load 1 false (.tmp 36)), false, none⟩,
  ⟨some 38, (.fieldAddr 2 (.tmp 8)), false, none⟩,
  ⟨some 39, (.load 1 false (.tmp 38)), false, none⟩,
  ⟨some 40, (.build [(.int .i64 0), (.int .i64 0)] [(0, (1, (.tmp 37))), (1, (1, (.tmp 39)))]), false, none⟩,
  ⟨some 41, (.build [(.int .i64 0), (.int .i64 0), (.int .i64 0), (.int .i64 0)] [(0, (2, (.tmp 35))), (2, (2, (.tmp 40)))]), false, none⟩,
  ⟨some 42, (.mov (.const (.int .i64 0))), false, none⟩]
def c25_19 : ACode := (.region o25_18 [2, 3, 5, 17, 18, 41, 42])
def w25_19 (_P : Program) (Q : Exit → Slots → Mem → Prop) (M : Mem) (v2 : V) (v3 : V) (v5 : V) (v7 : V) (v8 : V) (v17 : V) (v18 : V) : Prop :=
  @OptVH (moveV 1 v7) ⟨fun t31_1 =>
  @OptVH (loadV 1 false t31_1 M) ⟨fun t32_2 =>
  @OptVH (moveV 1 v8) ⟨fun t33_3 =>
  @OptVH (loadV 1 false t33_3 M) ⟨fun t34_4 =>
  @OptVH (buildV [(.int .i64 0), (.int .i64 0)] [(0, 1, t32_2), (1, 1, t34_4)]) ⟨fun t35_5 =>
  @OptVH (moveV 2 v7) ⟨fun t36_6 =>
  @OptVH (loadV 1 false t36_6 M) ⟨fun t37_7 =>
  @OptVH (moveV 2 v8) ⟨fun t38_8 =>
  @OptVH (loadV 1 false t38_8 M) ⟨fun t39_9 =>
  @OptVH (buildV [(.int .i64 0), (.int .i64 0)] [(0, 1, t37_7), (1, 1, t39_9)]) ⟨fun t40_10 =>
  @OptVH (buildV [(.int .i64 0), (.int .i64 0), (.int .i64 0), (.int .i64 0)] [(0, 2, t35_5), (2, 2, t40_10)]) ⟨fun t41_11 =>
  Q .normal [(2, v2), (3, v3), (5, v5), (17, v17), (18, v18), (41, t41_11), (42, (.int .i64 0))] M⟩⟩⟩⟩⟩⟩⟩⟩⟩⟩⟩
theorem e25_19 (P : Program) (Q : Exit → Slots → Mem → Prop) (s : Slots) (M : Mem) : wpC P c25_19 Q s M = w25_19 P Q M (sget s 2) (sget s 3) (sget s 5) (sget s 7) (sget s 8) (sget s 17) (sget s 18) := by kernel_rfl
def o25_20 : List AOper := [⟨some 43, (.bin .lss .none (.tmp 42) (.const (.int .i64 2))), false, none⟩]
def c25_21 : ACode := (.region o25_20 [2, 3, 5, 17, 18, 41, 42, 43])
def w25_21 (_P : Program) (Q : Exit → Slots → Mem → Prop) (M : Mem) (v2 : V) (v3 : V) (v5 : V) (v17 : V) (v18 : V) (v41 : V) (v42 : V) : Prop :=
  @OptVH (binV .lss .none v42 (.int .i64 2)) ⟨fun t43_1 =>
  Q .normal [(2, v2), (3, v3), (5, v5), (17, v17), (18, v18), (41, v41), (42, v42), (43, t43_1)] M⟩
theorem e25_21 (P : Program) (Q : Exit → Slots → Mem → Prop) (s : Slots) (M : Mem) : wpC P c25_21 Q s M = w25_21 P Q M (sget s 2) (sget s 3) (sget s 5) (sget s 17) (sget s 18) (sget s 41) (sget s 42) := by kernel_rfl
def c25_22 : ACode := (.cond (.tmp 43) .skip (.exit 2))
def o25_23 : List AOper := [⟨some 44, (.indexAgg 2 2 true (.tmp 41) (.tmp 42)), false, none⟩,
  ⟨some 10, (.alloc [(.int .i64 0), (.int .i64 0)]), false, none⟩,
  ⟨none, (.store 2 (.tmp 10) (.tmp 44)), false, none⟩]
def c25_24 : ACode := (.region o25_23 [2, 3, 5, 10, 17, 18, 41, 42])
def w25_24 (_P : Program) (Q : Exit → Slots → Mem → Prop) (M : Mem) (v2 : V) (v3 : V) (v5 : V) (v17 : V) (v18 : V) (v41 : V) (v42 : V) : Prop :=
  @OptVH (indexAggV 2 2 true v41 v42) ⟨fun t44_1 =>
  @OptMH (allocV [(.int .i64 0), (.int .i64 0)] M) ⟨fun t10_2 M2 =>
  @OptMH (storeVM 2 t10_2 t44_1 M2) ⟨fun _tx_3 M3 =>
  Q .normal [(2, v2), (3, v3), (5, v5), (10, t10_2), (17, v17), (18, v18), (41, v41), (42, v42)] M3⟩⟩⟩
theorem e25_24 (P : Program) (Q : Exit → Slots → Mem → Prop) (s : Slots) (M : Mem) : wpC P c25_24 Q s M = w25_24 P Q M (sget s 2) (sget s 3) (sget s 5) (sget s 17) (sget s 18) (sget s 41) (sget s 42) := by kernel_rfl
def o25_25 : List AOper := [⟨some 4, (.mov (.const (.bool true))), true, none⟩]
def c25_26 : ACode := (.region o25_25 [4])
def w25_26 (_P : Program) (Q : Exit → Slots → Mem → Prop) (M : Mem) : Prop :=
  Q .normal [(4, (.bool true))] M
theorem e25_26 (P : Program) (Q : Exit → Slots → Mem → Prop) (s : Slots) (M : Mem) : wpC P c25_26 Q s M = w25_26 P Q M := by kernel_rfl
def c25_27 : ACode := (.seq c25_26 .ret)
def o25_28 : List AOper := [⟨some 45, (.mov (.tmp 5)), true, none⟩,
  ⟨some 46, (.mov (.tmp 45)), true, none⟩,
  ⟨some 47, (.indexArr 2 1 (.tmp 10) (.const (.int .i64 0))), false, some (46, true)⟩,
  ⟨some 48, (.load 1 false (.tmp 47)), false, some (46, true)⟩,
  ⟨some 49, (.indexArr 2 1 (.tmp 10) (.const (.int .i64 1))), false, some (46, true)⟩,
  ⟨some 50, (.load 1 false (.tmp 49)), false, some (46, true)⟩,
  ⟨some 51, (.bin .lss .none (.tmp 48) (.tmp 50)), true, some (46, true)⟩,
  ⟨some 52, (.pick (.tmp 46) (.tmp 51) (.const (.bool false))), true, none⟩]
def c25_29 : ACode := (.seq (.region o25_28 [2, 3, 5, 10, 17, 18, 41, 42, 52]) (.cond (.tmp 52) c25_27 .skip))
def w25_29 (P : Program) (Q : Exit → Slots → Mem → Prop) (M : Mem) (v2 : V) (v3 : V) (v5 : V) (v10 : V) (v17 : V) (v18 : V) (v41 : V) (v42 : V) : Prop :=
  @OptBH (some v5) ⟨fun b45_1 =>
  @BIfH b45_1
  ⟨@OptVH (indexArrV 2 1 v10 (.int .i64 0)) ⟨fun t47_3 =>
  @OptVH (loadV 1 false t47_3 M) ⟨fun t48_4 =>
  @OptVH (indexArrV 2 1 v10 (.int .i64 1)) ⟨fun t49_5 =>
  @OptVH (loadV 1 false t49_5 M) ⟨fun t50_6 =>
  @OptBH (binV .lss .none t48_4 t50_6) ⟨fun b51_7 =>
  @BIfH b51_7
  ⟨wpC P c25_27 Q [(2, v2), (3, v3), (5, v5), (10, v10), (17, v17), (18, v18), (41, v41), (42, v42), (52, (.bool b51_7))] M⟩
  ⟨Q .normal [(2, v2), (3, v3), (5, v5), (10, v10), (17, v17), (18, v18), (41, v41), (42, v42), (52, (.bool b51_7))] M⟩⟩⟩⟩⟩⟩⟩
  ⟨Q .normal [(2, v2), (3, v3), (5, v5), (10, v10), (17, v17), (18, v18), (41, v41), (42, v42), (52, (.bool false))] M⟩⟩
theorem e25_29 (P : Program) (Q : Exit → Slots → Mem → Prop) (s : Slots) (M : Mem) : wpC P c25_29 Q s M = w25_29 P Q M (sget s 2) (sget s 3) (sget s 5) (sget s 10) (sget s 17) (sget s 18) (sget s 41) (sget s 42) := by kernel_rfl
def o25_30 : List AOper := [⟨some 53, (.mov (.tmp 5)), true, none⟩,
  ⟨some 54, (.mov (.tmp 53)), true, none⟩,
  ⟨some 55, (.indexArr 2 1 (.tmp 10) (.const (.int .i64 0))), false, some (54, false)⟩,
  ⟨some 56, (.load 1 false (.tmp 55)), false, some (54, false)⟩,
  ⟨some 57, (.indexArr 2 1 (.tmp 10) (.const (.int .i64 1))), false, some (54, false)⟩,
  ⟨some 58, (.load 1 false (.tmp 57)), false, some (54, false)⟩,
  ⟨some 59, (.bin .gtr .none (.tmp 56) (.tmp 58)), true, some (54, false)⟩,
  ⟨some 60, (.pick (.tmp 54) (.const (.bool true)) (.tmp 59)), true, none⟩,
  ⟨some 5, (.mov (.tmp 60)), true, none⟩]
def c25_31 : ACode := (.region o25_30 [2, 3, 5, 17, 18, 41, 42])
def w25_31 (_P : Program) (Q : Exit → Slots → Mem → Prop) (M : Mem) (v2 : V) (v3 : V) (v5 : V) (v10 : V) (v17 : V) (v18 : V) (v41 : V) (v42 : V) : Prop :=
  @OptBH (some v5) ⟨fun b53_1 =>
  @BIfH b53_1
  ⟨Q .normal [(2, v2), (3, v3), (5, (.bool true)), (17, v17), (18, v18), (41, v41), (42, v42)] M⟩
  ⟨@OptVH (indexArrV 2 1 v10 (.int .i64 0)) ⟨fun t55_5 =>
  @OptVH (loadV 1 false t55_5 M) ⟨fun t56_6 =>
  @OptVH (indexArrV 2 1 v10 (.int .i64 1)) ⟨fun t57_7 =>
  @OptVH (loadV 1 false t57_7 M) ⟨fun t58_8 =>
  @OptBH (binV .gtr .none t56_6 t58_8) ⟨fun b59_9 =>
  Q .normal [(2, v2), (3, v3), (5, (.bool b59_9)), (17, v17), (18, v18), (41, v41), (42, v42)] M⟩⟩⟩⟩⟩⟩⟩
theorem e25_31 (P : Program) (Q : Exit → Slots → Mem → Prop) (s : Slots) (M : Mem) : wpC P c25_31 Q s M = w25_31 P Q M (sget s 2) (sget s 3) (sget s 5) (sget s 10) (sget s 17) (sget s 18) (sget s 41) (sget s 42) := by kernel_rfl
def c25_32 : ACode := (.seq c25_29 c25_31)
def c25_33 : ACode := (.seq c25_24 c25_32)
def c25_34 : ACode := (.block 3 c25_33)
def o25_35 : List AOper := [⟨some 61, (.bin .add .none (.tmp 42) (.const (.int .i64 1))), false, none⟩,
  ⟨some 42, (.mov (.tmp 61)), false, none⟩]
def c25_36 : ACode := (.region o25_35 [2, 3, 5, 17, 18, 41, 42])
def w25_36 (_P : Program) (Q : Exit → Slots → Mem → Prop) (M : Mem) (v2 : V) (v3 : V) (v5 : V) (v17 : V) (v18 : V) (v41 : V) (v42 : V) : Prop :=
  @OptVH (binV .add .none v42 (.int .i64 1)) ⟨fun t61_1 =>
  Q .normal [(2, v2), (3, v3), (5, v5), (17, v17), (18, v18), (41, v41), (42, t61_1)] M⟩
theorem e25_36 (P : Program) (Q : Exit → Slots → Mem → Prop) (s : Slots) (M : Mem) : wpC P c25_36 Q s M = w25_36 P Q M (sget s 2) (sget s 3) (sget s 5) (sget s 17) (sget s 18) (sget s 41) (sget s 42) := by kernel_rfl
def c25_37 : ACode := (.seq c25_34 c25_36)
def c25_38 : ACode := (.seq c25_22 c25_37)
def c25_39 : ACode := (.seq c25_21 c25_38)
def c25_40 : ACode := (.loop [2, 3, 5, 17, 18, 41, 42] c25_39)
def c25_41 : ACode := (.block 2 c25_40)
def c25_42 : ACode := (.seq c25_19 c25_41)
def c25_43 : ACode := (.seq c25_17 c25_42)
def c25_44 : ACode := (.seq c25_15 c25_43)
def c25_45 : ACode := (.block 1 c25_44)
def o25_46 : List AOper := [⟨some 62, (.bin .add .none (.tmp 18) (.const (.int .i64 1))), false, none⟩,
  ⟨some 18, (.mov (.tmp 62)), false, none⟩]
def c25_47 : ACode := (.region o25_46 [2, 3, 5, 17, 18])
def w25_47 (_P : Program) (Q : Exit → Slots → Mem → Prop) (M : Mem) (v2 : V) (v3 : V) (v5 : V) (v17 : V) (v18 : V) : Prop :=
  @OptVH (binV .add .none v18 (.int .i64 1)) ⟨fun t62_1 =>
  Q .normal [(2, v2), (3, v3), (5, v5), (17, v17), (18, t62_1)] M⟩
theorem e25_47 (P : Program) (Q : Exit → Slots → Mem → Prop) (s : Slots) (M : Mem) : wpC P c25_47 Q s M = w25_47 P Q M (sget s 2) (sget s 3) (sget s 5) (sget s 17) (sget s 18) := by kernel_rfl
def c25_48 : ACode := (.seq c25_45 c25_47)
def c25_49 : ACode := (.seq c25_13 c25_48)
def c25_50 : ACode := (.seq c25_12 c25_49)
def c25_51 : ACode := (.loop [2, 3, 5, 17, 18] c25_50)
def c25_52 : ACode := (.block 0 c25_51)
def c25_53 : ACode := (.seq c25_10 c25_52)
def o25_54 : List AOper := [⟨some 4, (.mov (.const (.bool false))), true, none⟩]
def c25_55 : ACode := (.region o25_54 [4])
def w25_55 (_P : Program) (Q : Exit → Slots → Mem → Prop) (M : Mem) : Prop :=
  Q .normal [(4, (.bool false))] M
theorem e25_55 (P : Program) (Q : Exit → Slots → Mem → Prop) (s : Slots) (M : Mem) : wpC P c25_55 Q s M = w25_55 P Q M := by kernel_rfl
def c25_56 : ACode := (.seq c25_55 .ret)
def c25_57 : ACode := (.seq c25_53 c25_56)
def c25_58 : ACode := (.seq c25_8 c25_57)
def c25_59 : ACode := (.seq c25_6 c25_58)
def c25_60 : ACode := (.seq c25_1 c25_59)
def fn_trip_Overtakes : AFn := ⟨63, [(.tmp 4)], c25_60⟩
theorem fn_trip_Overtakes_ok : resFn PR h_trip_Overtakes i_trip_Overtakes = some fn_trip_Overtakes := by kernel_rfl

end Go.Vm.C
