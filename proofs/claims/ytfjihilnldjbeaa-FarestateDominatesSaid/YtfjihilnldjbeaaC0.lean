/- The abstract code of the functions that the statements reach, printed by a program, each with the equation that it is what the loaded program says. Part 0. -/
import Derived.Test.YtfjihilnldjbeaaProg
import Derived.Test.YtfjihilnldjbeaaVm2
import Derived.KernelRfl
namespace Go.Vm.C
open Go.Vm

abbrev i_main_main : Nat := 0
abbrev i_gosem_cut : Nat := 1
abbrev i_gosem_cut_init : Nat := 2
abbrev i_transitlaw36_FarestateStarts : Nat := 3
abbrev i_transitlaw36_FarestateLimits : Nat := 4
abbrev i_transitlaw36_FarestateExact : Nat := 5
abbrev i_transitlaw36_FarestateBranches : Nat := 6
abbrev i_transitlaw36_FarestateDominates : Nat := 7
abbrev i_transitlaw36_FarestateEquals : Nat := 8
abbrev i_transitlaw36_FarestateJoins : Nat := 9
abbrev i_transitlaw36_small : Nat := 10
abbrev i_transitlaw36_exampleHolds : Nat := 11
abbrev i_farestate_Start : Nat := 12
abbrev i_transitref35_Valid : Nat := 13
abbrev i_farestate_State_Price : Nat := 14
abbrev i_farestate_State_Rides : Nat := 15
abbrev i_farestate_State_Ride : Nat := 16
abbrev i_transitlaw36_made : Nat := 17
abbrev i_transitref36_Price : Nat := 18
abbrev i_farestate_State_Dominates : Nat := 19
abbrev i_transitref36_Holds : Nat := 20
abbrev i_transitlaw36_same : Nat := 21
abbrev i_transitlaw36_example : Nat := 22
abbrev i_product_Check : Nat := 23
abbrev i_transitref26_Fares : Nat := 24
abbrev i_farestate_State_list : Nat := 25
abbrev i_product_Covers : Nat := 26
abbrev i_farestate_State_price : Nat := 27
abbrev i_transitref35_Price : Nat := 28
abbrev i_farestate_sameFares : Nat := 29
abbrev i_farestate_closedBetter : Nat := 30
abbrev i_farestate_State_tickets : Nat := 31
abbrev i_farestate_open_replaces : Nat := 32
abbrev i_transitref36_joined : Nat := 33
abbrev i_product_within : Nat := 34
abbrev i_ident_Valid : Nat := 35
abbrev i_transitref26_in : Nat := 36
abbrev i_transitref26_ValidID : Nat := 37
abbrev i_product_later : Nat := 38
abbrev i_product_Covers_1 : Nat := 39
abbrev i_bitset_Set_Union : Nat := 40
abbrev i_bitset_Set_Len : Nat := 41
abbrev i_bitset_Set_Within : Nat := 42
abbrev i_farestate_within : Nat := 43
abbrev i_transitref35_Best : Nat := 44
abbrev i_transitref35_Capped : Nat := 45
abbrev i_transitref35_Sum : Nat := 46
abbrev i_math_bits_OnesCount64 : Nat := 47
abbrev i_transitref35_Covers : Nat := 48
abbrev i_transitref35_Ticket : Nat := 49
abbrev i_transitref35_better : Nat := 50
abbrev i_transitref35_bits : Nat := 51
abbrev i_transitref35_within : Nat := 52
abbrev i_runtime_boundsError_Error : Nat := 53
abbrev i_runtime_boundsError_RuntimeError : Nat := 54
abbrev i_runtime_errorString_Error : Nat := 55
abbrev i_runtime_errorString_RuntimeError : Nat := 56
abbrev i_runtime_plainError_Error : Nat := 57
abbrev i_runtime_plainError_RuntimeError : Nat := 58
abbrev i_runtime_errorAddressString_Error : Nat := 59
abbrev i_runtime_errorAddressString_RuntimeError : Nat := 60
abbrev i_runtime_TypeAssertionError_Error : Nat := 61
abbrev i_runtime_TypeAssertionError_RuntimeError : Nat := 62
abbrev i_runtime_PanicNilError_Error : Nat := 63
abbrev i_runtime_PanicNilError_RuntimeError : Nat := 64
abbrev i_internal_abi_Type_Align : Nat := 65
abbrev i_internal_runtime_maps_unhashableTypeError_Error : Nat := 66
abbrev i_internal_runtime_maps_unhashableTypeError_RuntimeError : Nat := 67
abbrev i_internal_abi_Kind_String : Nat := 68
noncomputable abbrev PR : Program := Go.Proofs.Try.prog

def h_transitlaw36_FarestateStarts : Hints := ⟨[(0, [1]), (1, [1, 9]), (2, [2]), (3, [1, 3, 4]), (4, [3, 4, 18]), (5, [2]), (6, [3, 33]), (7, [2]), (8, [3, 5, 6]), (9, [2])], [], []⟩
def o3_0 : List AOper := [⟨some 1, (.box 4 (.tmp 0)), false, none⟩,
  ⟨some 2, (.mov (.const (.bool false))), true, none⟩]
def c3_1 : ACode := (.region o3_0 [1])
def w3_1 (_P : Program) (Q : Exit → Slots → Mem → Prop) (M : Mem) (v0 : V) : Prop :=
  @OptMH (boxV 4 v0 M) ⟨fun t1_1 M1 =>
  Q .normal [(1, t1_1)] M1⟩
theorem e3_1 (P : Program) (Q : Exit → Slots → Mem → Prop) (s : Slots) (M : Mem) : wpC P c3_1 Q s M = w3_1 P Q M (sget s 0) := by kernel_rfl
def o3_2 : List AOper := [⟨some 10, (.call i_transitlaw36_exampleHolds []), true, none⟩,
  ⟨some 2, (.mov (.tmp 10)), true, none⟩]
def c3_3 : ACode := (.region o3_2 [2])
def w3_3 (P : Program) (Q : Exit → Slots → Mem → Prop) (M : Mem) : Prop :=
  @CallH P i_transitlaw36_exampleHolds [] M ⟨fun t10_1 M1 => @OptBH (some t10_1) ⟨fun b10_1 =>
  Q .normal [(2, (.bool b10_1))] M1⟩⟩
theorem e3_3 (P : Program) (Q : Exit → Slots → Mem → Prop) (s : Slots) (M : Mem) : wpC P c3_3 Q s M = w3_3 P Q M := by kernel_rfl
def c3_4 : ACode := (.seq c3_3 .ret)
def o3_5 : List AOper := [⟨some 7, (.load 4 true (.tmp 1)), false, none⟩,
  ⟨some 8, (.call i_transitlaw36_small [(.tmp 7)]), true, none⟩,
  ⟨some 9, (.un .not (.tmp 8)), true, none⟩]
def c3_6 : ACode := (.seq (.region o3_5 [1, 9]) (.cond (.tmp 9) c3_4 .skip))
def w3_6 (P : Program) (Q : Exit → Slots → Mem → Prop) (M : Mem) (v1 : V) : Prop :=
  @OptVH (loadV 4 true v1 M) ⟨fun t7_1 =>
  @CallH P i_transitlaw36_small [t7_1] M ⟨fun t8_2 M2 => @OptBH (some t8_2) ⟨fun b8_2 =>
  @OptBH (unV .not (.bool b8_2)) ⟨fun b9_3 =>
  @BIfH b9_3
  ⟨wpC P c3_4 Q [(1, v1), (9, (.bool b9_3))] M2⟩
  ⟨Q .normal [(1, v1), (9, (.bool b9_3))] M2⟩⟩⟩⟩⟩
theorem e3_6 (P : Program) (Q : Exit → Slots → Mem → Prop) (s : Slots) (M : Mem) : wpC P c3_6 Q s M = w3_6 P Q M (sget s 1) := by kernel_rfl
def o3_7 : List AOper := [⟨some 12, (.load 4 true (.tmp 1)), false, none⟩,
  ⟨some 13, (.call i_farestate_Start [(.tmp 12)]), false, none⟩,
  ⟨some 11, (.mov (.tmp 13)), false, none⟩,
  ⟨some 14, (.extract (.tmp 11) 0), false, none⟩,
  ⟨some 15, (.extract (.tmp 11) 1), false, none⟩,
  ⟨some 3, (.mov (.tmp 14)), false, none⟩,
  ⟨some 4, (.mov (.tmp 15)), false, none⟩]
def c3_8 : ACode := (.region o3_7 [1, 3, 4])
def w3_8 (P : Program) (Q : Exit → Slots → Mem → Prop) (M : Mem) (v1 : V) : Prop :=
  @OptVH (loadV 4 true v1 M) ⟨fun t12_1 =>
  @CallH P i_farestate_Start [t12_1] M ⟨fun t13_2 M2 =>
  @OptVH (extractV t13_2 0) ⟨fun t14_4 =>
  @OptVH (extractV t13_2 1) ⟨fun t15_5 =>
  Q .normal [(1, v1), (3, t14_4), (4, t15_5)] M2⟩⟩⟩⟩
theorem e3_8 (P : Program) (Q : Exit → Slots → Mem → Prop) (s : Slots) (M : Mem) : wpC P c3_8 Q s M = w3_8 P Q M (sget s 1) := by kernel_rfl
def o3_9 : List AOper := [⟨some 19, (.mov (.tmp 3)), false, none⟩,
  ⟨some 20, (.bin .eql .ptr (.tmp 19) (.const .nilp)), true, none⟩,
  ⟨some 21, (.mov (.tmp 20)), true, none⟩,
  ⟨some 22, (.mov (.tmp 4)), false, some (21, true)⟩,
  ⟨some 23, (.bin .eql .none (.tmp 22) (.const (.int .i64 20))), true, some (21, true)⟩,
  ⟨some 24, (.pick (.tmp 21) (.tmp 23) (.const (.bool false))), true, none⟩,
  ⟨some 25, (.mov (.tmp 24)), true, none⟩,
  ⟨some 26, (.call i_transitlaw36_exampleHolds []), true, some (25, true)⟩,
  ⟨some 27, (.pick (.tmp 25) (.tmp 26) (.const (.bool false))), true, none⟩,
  ⟨some 2, (.mov (.tmp 27)), true, none⟩]
def c3_10 : ACode := (.region o3_9 [2])
def w3_10 (P : Program) (Q : Exit → Slots → Mem → Prop) (M : Mem) (v3 : V) (v4 : V) : Prop :=
  @OptBH (binV .eql .ptr v3 .nilp) ⟨fun b20_2 =>
  @BIfH b20_2
  ⟨@OptBH (binV .eql .none v4 (.int .i64 20)) ⟨fun b23_5 =>
  @BIfH b23_5
  ⟨@CallH P i_transitlaw36_exampleHolds [] M ⟨fun t26_8 M8 => @OptBH (some t26_8) ⟨fun b26_8 =>
  Q .normal [(2, (.bool b26_8))] M8⟩⟩⟩
  ⟨Q .normal [(2, (.bool false))] M⟩⟩⟩
  ⟨Q .normal [(2, (.bool false))] M⟩⟩
theorem e3_10 (P : Program) (Q : Exit → Slots → Mem → Prop) (s : Slots) (M : Mem) : wpC P c3_10 Q s M = w3_10 P Q M (sget s 3) (sget s 4) := by kernel_rfl
def c3_11 : ACode := (.seq c3_10 .ret)
def o3_12 : List AOper := [⟨some 16, (.load 4 true (.tmp 1)), false, none⟩,
  ⟨some 17, (.call i_transitref35_Valid [(.tmp 16)]), true, none⟩,
  ⟨some 18, (.un .not (.tmp 17)), true, none⟩]
def c3_13 : ACode := (.seq (.region o3_12 [3, 4, 18]) (.cond (.tmp 18) c3_11 .skip))
def w3_13 (P : Program) (Q : Exit → Slots → Mem → Prop) (M : Mem) (v1 : V) (v3 : V) (v4 : V) : Prop :=
  @OptVH (loadV 4 true v1 M) ⟨fun t16_1 =>
  @CallH P i_transitref35_Valid [t16_1] M ⟨fun t17_2 M2 => @OptBH (some t17_2) ⟨fun b17_2 =>
  @OptBH (unV .not (.bool b17_2)) ⟨fun b18_3 =>
  @BIfH b18_3
  ⟨wpC P c3_11 Q [(3, v3), (4, v4), (18, (.bool b18_3))] M2⟩
  ⟨Q .normal [(3, v3), (4, v4), (18, (.bool b18_3))] M2⟩⟩⟩⟩⟩
theorem e3_13 (P : Program) (Q : Exit → Slots → Mem → Prop) (s : Slots) (M : Mem) : wpC P c3_13 Q s M = w3_13 P Q M (sget s 1) (sget s 3) (sget s 4) := by kernel_rfl
def o3_14 : List AOper := [⟨some 2, (.mov (.const (.bool false))), true, none⟩]
def c3_15 : ACode := (.region o3_14 [2])
def w3_15 (_P : Program) (Q : Exit → Slots → Mem → Prop) (M : Mem) : Prop :=
  Q .normal [(2, (.bool false))] M
theorem e3_15 (P : Program) (Q : Exit → Slots → Mem → Prop) (s : Slots) (M : Mem) : wpC P c3_15 Q s M = w3_15 P Q M := by kernel_rfl
def c3_16 : ACode := (.seq c3_15 .ret)
def o3_17 : List AOper := [⟨some 28, (.mov (.tmp 3)), false, none⟩,
  ⟨some 29, (.bin .eql .ptr (.tmp 28) (.const .nilp)), true, none⟩,
  ⟨some 30, (.mov (.tmp 29)), true, none⟩,
  ⟨some 31, (.mov (.tmp 4)), false, some (30, false)⟩,
  ⟨some 32, (.bin .neq .none (.tmp 31) (.const (.int .i64 0))), true, some (30, false)⟩,
  ⟨some 33, (.pick (.tmp 30) (.const (.bool true)) (.tmp 32)), true, none⟩]
def c3_18 : ACode := (.seq (.region o3_17 [3, 33]) (.cond (.tmp 33) c3_16 .skip))
def w3_18 (P : Program) (Q : Exit → Slots → Mem → Prop) (M : Mem) (v3 : V) (v4 : V) : Prop :=
  @OptBH (binV .eql .ptr v3 .nilp) ⟨fun b29_2 =>
  @BIfH b29_2
  ⟨wpC P c3_16 Q [(3, v3), (33, (.bool true))] M⟩
  ⟨@OptBH (binV .neq .none v4 (.int .i64 0)) ⟨fun b32_6 =>
  @BIfH b32_6
  ⟨wpC P c3_16 Q [(3, v3), (33, (.bool b32_6))] M⟩
  ⟨Q .normal [(3, v3), (33, (.bool b32_6))] M⟩⟩⟩⟩
theorem e3_18 (P : Program) (Q : Exit → Slots → Mem → Prop) (s : Slots) (M : Mem) : wpC P c3_18 Q s M = w3_18 P Q M (sget s 3) (sget s 4) := by kernel_rfl
def o3_19 : List AOper := [⟨some 35, (.mov (.tmp 3)), false, none⟩,
  ⟨some 36, (.call i_farestate_State_Price [(.tmp 35)]), false, none⟩,
  ⟨some 34, (.mov (.tmp 36)), false, none⟩,
  ⟨some 37, (.extract (.tmp 34) 0), false, none⟩,
  ⟨some 38, (.extract (.tmp 34) 1), true, none⟩,
  ⟨some 5, (.mov (.tmp 37)), false, none⟩,
  ⟨some 6, (.mov (.tmp 38)), true, none⟩]
def c3_20 : ACode := (.region o3_19 [3, 5, 6])
def w3_20 (P : Program) (Q : Exit → Slots → Mem → Prop) (M : Mem) (v3 : V) : Prop :=
  @CallH P i_farestate_State_Price [v3] M ⟨fun t36_2 M2 =>
  @OptVH (extractV t36_2 0) ⟨fun t37_4 =>
  @OptBH (extractV t36_2 1) ⟨fun b38_5 =>
  Q .normal [(3, v3), (5, t37_4), (6, (.bool b38_5))] M2⟩⟩⟩
theorem e3_20 (P : Program) (Q : Exit → Slots → Mem → Prop) (s : Slots) (M : Mem) : wpC P c3_20 Q s M = w3_20 P Q M (sget s 3) := by kernel_rfl
def o3_21 : List AOper := [⟨some 39, (.mov (.tmp 5)), false, none⟩,
  ⟨some 40, (.bin .eql .none (.tmp 39) (.const (.int .i64 0))), true, none⟩,
  ⟨some 41, (.mov (.tmp 40)), true, none⟩,
  ⟨some 42, (.mov (.tmp 6)), true, some (41, true)⟩,
  ⟨some 43, (.pick (.tmp 41) (.tmp 42) (.const (.bool false))), true, none⟩,
  ⟨some 44, (.mov (.tmp 43)), true, none⟩,
  ⟨some 45, (.mov (.tmp 3)), false, some (44, true)⟩,
  ⟨some 46, (.call i_farestate_State_Rides [(.tmp 45)]), false, some (44, true)⟩,
  ⟨some 47, (.bin .eql .none (.tmp 46) (.const (.int .i64 0))), true, some (44, true)⟩,
  ⟨some 48, (.pick (.tmp 44) (.tmp 47) (.const (.bool false))), true, none⟩,
  ⟨some 49, (.mov (.tmp 48)), true, none⟩,
  ⟨some 50, (.call i_transitlaw36_exampleHolds []), true, some (49, true)⟩,
  ⟨some 51, (.pick (.tmp 49) (.tmp 50) (.const (.bool false))), true, none⟩,
  ⟨some 2, (.mov (.tmp 51)), true, none⟩]
def c3_22 : ACode := (.region o3_21 [2])
def w3_22 (P : Program) (Q : Exit → Slots → Mem → Prop) (M : Mem) (v3 : V) (v5 : V) (v6 : V) : Prop :=
  @OptBH (binV .eql .none v5 (.int .i64 0)) ⟨fun b40_2 =>
  @BIfH b40_2
  ⟨@OptBH (some v6) ⟨fun b42_4 =>
  @BIfH b42_4
  ⟨@CallH P i_farestate_State_Rides [v3] M ⟨fun t46_8 M8 =>
  @OptBH (binV .eql .none t46_8 (.int .i64 0)) ⟨fun b47_9 =>
  @BIfH b47_9
  ⟨@CallH P i_transitlaw36_exampleHolds [] M8 ⟨fun t50_12 M12 => @OptBH (some t50_12) ⟨fun b50_12 =>
  Q .normal [(2, (.bool b50_12))] M12⟩⟩⟩
  ⟨Q .normal [(2, (.bool false))] M8⟩⟩⟩⟩
  ⟨Q .normal [(2, (.bool false))] M⟩⟩⟩
  ⟨Q .normal [(2, (.bool false))] M⟩⟩
theorem e3_22 (P : Program) (Q : Exit → Slots → Mem → Prop) (s : Slots) (M : Mem) : wpC P c3_22 Q s M = w3_22 P Q M (sget s 3) (sget s 5) (sget s 6) := by kernel_rfl
def c3_23 : ACode := (.seq c3_22 .ret)
def c3_24 : ACode := (.seq c3_20 c3_23)
def c3_25 : ACode := (.seq c3_18 c3_24)
def c3_26 : ACode := (.seq c3_13 c3_25)
def c3_27 : ACode := (.seq c3_8 c3_26)
def c3_28 : ACode := (.seq c3_6 c3_27)
def c3_29 : ACode := (.seq c3_1 c3_28)
def fn_transitlaw36_FarestateStarts : AFn := ⟨52, [(.tmp 2)], c3_29⟩
theorem fn_transitlaw36_FarestateStarts_ok : resFn PR h_transitlaw36_FarestateStarts i_transitlaw36_FarestateStarts = some fn_transitlaw36_FarestateStarts := by kernel_rfl

def h_transitlaw36_FarestateLimits : Hints := ⟨[(0, [1, 2]), (1, [1, 2, 22]), (2, [4]), (3, [1, 5, 6]), (4, [1, 5, 34]), (5, [4]), (6, [1, 5, 7]), (7, [1, 5, 7, 38]), (8, [1, 5, 7]), (9, [1, 5, 7, 8, 9]), (10, [1, 5, 7, 8, 9, 51]), (11, [4]), (12, [1, 7, 8, 84]), (13, [4]), (14, [1, 5, 7]), (15, [4])], [(7, [1, 5, 7])], []⟩
def o4_0 : List AOper := [⟨some 2, (.box 4 (.tmp 0)), false, none⟩,
  ⟨some 4, (.mov (.const (.bool false))), true, none⟩]
def c4_1 : ACode := (.region o4_0 [1, 2])
def w4_1 (_P : Program) (Q : Exit → Slots → Mem → Prop) (M : Mem) (v0 : V) (v1 : V) : Prop :=
  @OptMH (boxV 4 v0 M) ⟨fun t2_1 M1 =>
  Q .normal [(1, v1), (2, t2_1)] M1⟩
theorem e4_1 (P : Program) (Q : Exit → Slots → Mem → Prop) (s : Slots) (M : Mem) : wpC P c4_1 Q s M = w4_1 P Q M (sget s 0) (sget s 1) := by kernel_rfl
def o4_2 : List AOper := [⟨some 23, (.call i_transitlaw36_exampleHolds []), true, none⟩,
  ⟨some 4, (.mov (.tmp 23)), true, none⟩]
def c4_3 : ACode := (.region o4_2 [4])
def w4_3 (P : Program) (Q : Exit → Slots → Mem → Prop) (M : Mem) : Prop :=
  @CallH P i_transitlaw36_exampleHolds [] M ⟨fun t23_1 M1 => @OptBH (some t23_1) ⟨fun b23_1 =>
  Q .normal [(4, (.bool b23_1))] M1⟩⟩
theorem e4_3 (P : Program) (Q : Exit → Slots → Mem → Prop) (s : Slots) (M : Mem) : wpC P c4_3 Q s M = w4_3 P Q M := by kernel_rfl
def c4_4 : ACode := (.seq c4_3 .ret)
def o4_5 : List AOper := [⟨some 10, (.load 4 true (.tmp 2)), false, none⟩,
  ⟨some 11, (.call i_transitlaw36_small [(.tmp 10)]), true, none⟩,
  ⟨some 12, (.un .not (.tmp 11)), true, none⟩,
  ⟨some 13, (.mov (.tmp 12)), true, none⟩,
  ⟨some 14, (.mov (.tmp 1)), false, some (13, false)⟩,
  ⟨some 15, (.lenSl (.tmp 14)), false, some (13, false)⟩,
  ⟨some 16, (.bin .gtr .none (.tmp 15) (.const (.int .i64 20))), true, some (13, false)⟩,
  ⟨some 17, (.pick (.tmp 13) (.const (.bool true)) (.tmp 16)), true, none⟩,
  ⟨some 18, (.mov (.tmp 17)), true, none⟩,
  ⟨some 19, (.load 4 true (.tmp 2)), false, some (18, false)⟩,
  ⟨some 20, (.call i_transitref35_Valid [(.tmp 19)]), true, some (18, false)⟩,
  ⟨some 21, (.un .not (.tmp 20)), true, some (18, false)⟩,
  ⟨some 22, (.pick (.tmp 18) (.const (.bool true)) (.tmp 21)), true, none⟩]
def c4_6 : ACode := (.seq (.region o4_5 [1, 2, 22]) (.cond (.tmp 22) c4_4 .skip))
def w4_6 (P : Program) (Q : Exit → Slots → Mem → Prop) (M : Mem) (v1 : V) (v2 : V) : Prop :=
  @OptVH (loadV 4 true v2 M) ⟨fun t10_1 =>
  @CallH P i_transitlaw36_small [t10_1] M ⟨fun t11_2 M2 => @OptBH (some t11_2) ⟨fun b11_2 =>
  @OptBH (unV .not (.bool b11_2)) ⟨fun b12_3 =>
  @BIfH b12_3
  ⟨wpC P c4_4 Q [(1, v1), (2, v2), (22, (.bool true))] M2⟩
  ⟨@OptVH (lenV v1 M2) ⟨fun t15_9 =>
  @OptBH (binV .gtr .none t15_9 (.int .i64 20)) ⟨fun b16_10 =>
  @BIfH b16_10
  ⟨wpC P c4_4 Q [(1, v1), (2, v2), (22, (.bool true))] M2⟩
  ⟨@OptVH (loadV 4 true v2 M2) ⟨fun t19_14 =>
  @CallH P i_transitref35_Valid [t19_14] M2 ⟨fun t20_15 M15 => @OptBH (some t20_15) ⟨fun b20_15 =>
  @OptBH (unV .not (.bool b20_15)) ⟨fun b21_16 =>
  @BIfH b21_16
  ⟨wpC P c4_4 Q [(1, v1), (2, v2), (22, (.bool b21_16))] M15⟩
  ⟨Q .normal [(1, v1), (2, v2), (22, (.bool b21_16))] M15⟩⟩⟩⟩⟩⟩⟩⟩⟩⟩⟩⟩⟩
theorem e4_6 (P : Program) (Q : Exit → Slots → Mem → Prop) (s : Slots) (M : Mem) : wpC P c4_6 Q s M = w4_6 P Q M (sget s 1) (sget s 2) := by kernel_rfl
def o4_7 : List AOper := [⟨some 25, (.load 4 true (.tmp 2)), false, none⟩,
  ⟨some 26, (.call i_farestate_Start [(.tmp 25)]), false, none⟩,
  ⟨some 24, (.mov (.tmp 26)), false, none⟩,
  ⟨some 27, (.extract (.tmp 24) 0), false, none⟩,
  ⟨some 28, (.extract (.tmp 24) 1), false, none⟩,
  ⟨some 5, (.mov (.tmp 27)), false, none⟩,
  ⟨some 6, (.mov (.tmp 28)), false, none⟩]
def c4_8 : ACode := (.region o4_7 [1, 5, 6])
def w4_8 (P : Program) (Q : Exit → Slots → Mem → Prop) (M : Mem) (v1 : V) (v2 : V) : Prop :=
  @OptVH (loadV 4 true v2 M) ⟨fun t25_1 =>
  @CallH P i_farestate_Start [t25_1] M ⟨fun t26_2 M2 =>
  @OptVH (extractV t26_2 0) ⟨fun t27_4 =>
  @OptVH (extractV t26_2 1) ⟨fun t28_5 =>
  Q .normal [(1, v1), (5, t27_4), (6, t28_5)] M2⟩⟩⟩⟩
theorem e4_8 (P : Program) (Q : Exit → Slots → Mem → Prop) (s : Slots) (M : Mem) : wpC P c4_8 Q s M = w4_8 P Q M (sget s 1) (sget s 2) := by kernel_rfl
def o4_9 : List AOper := [⟨some 4, (.mov (.const (.bool false))), true, none⟩]
def c4_10 : ACode := (.region o4_9 [4])
def w4_10 (_P : Program) (Q : Exit → Slots → Mem → Prop) (M : Mem) : Prop :=
  Q .normal [(4, (.bool false))] M
theorem e4_10 (P : Program) (Q : Exit → Slots → Mem → Prop) (s : Slots) (M : Mem) : wpC P c4_10 Q s M = w4_10 P Q M := by kernel_rfl
def c4_11 : ACode := (.seq c4_10 .ret)
def o4_12 : List AOper := [⟨some 29, (.mov (.tmp 5)), false, none⟩,
  ⟨some 30, (.bin .eql .ptr (.tmp 29) (.const .nilp)), true, none⟩,
  ⟨some 31, (.mov (.tmp 30)), true, none⟩,
  ⟨some 32, (.mov (.tmp 6)), false, some (31, false)⟩,
  ⟨some 33, (.bin .neq .none (.tmp 32) (.const (.int .i64 0))), true, some (31, false)⟩,
  ⟨some 34, (.pick (.tmp 31) (.const (.bool true)) (.tmp 33)), true, none⟩]
def c4_13 : ACode := (.seq (.region o4_12 [1, 5, 34]) (.cond (.tmp 34) c4_11 .skip))
def w4_13 (P : Program) (Q : Exit → Slots → Mem → Prop) (M : Mem) (v1 : V) (v5 : V) (v6 : V) : Prop :=
  @OptBH (binV .eql .ptr v5 .nilp) ⟨fun b30_2 =>
  @BIfH b30_2
  ⟨wpC P c4_11 Q [(1, v1), (5, v5), (34, (.bool true))] M⟩
  ⟨@OptBH (binV .neq .none v6 (.int .i64 0)) ⟨fun b33_6 =>
  @BIfH b33_6
  ⟨wpC P c4_11 Q [(1, v1), (5, v5), (34, (.bool b33_6))] M⟩
  ⟨Q .normal [(1, v1), (5, v5), (34, (.bool b33_6))] M⟩⟩⟩⟩
theorem e4_13 (P : Program) (Q : Exit → Slots → Mem → Prop) (s : Slots) (M : Mem) : wpC P c4_13 Q s M = w4_13 P Q M (sget s 1) (sget s 5) (sget s 6) := by kernel_rfl
def o4_14 : List AOper := [⟨some 7, (.mov (.const (.int .i64 0))), false, none⟩]
def c4_15 : ACode := (.region o4_14 [1, 5, 7])
def w4_15 (_P : Program) (Q : Exit → Slots → Mem → Prop) (M : Mem) (v1 : V) (v5 : V) : Prop :=
  Q .normal [(1, v1), (5, v5), (7, (.int .i64 0))] M
theorem e4_15 (P : Program) (Q : Exit → Slots → Mem → Prop) (s : Slots) (M : Mem) : wpC P c4_15 Q s M = w4_15 P Q M (sget s 1) (sget s 5) := by kernel_rfl
def o4_16 : List AOper := [⟨some 35, (.mov (.tmp 7)), false, none⟩,
  ⟨some 36, (.mov (.tmp 1)), false, none⟩,
  ⟨some 37, (.lenSl (.tmp 36)), false, none⟩,
  ⟨some 38, (.bin .lss .none (.tmp 35) (.tmp 37)), true, none⟩]
def c4_17 : ACode := (.seq (.region o4_16 [1, 5, 7, 38]) (.cond (.tmp 38) .skip (.exit 0)))
def w4_17 (_P : Program) (Q : Exit → Slots → Mem → Prop) (M : Mem) (v1 : V) (v5 : V) (v7 : V) : Prop :=
  @OptVH (lenV v1 M) ⟨fun t37_3 =>
  @OptBH (binV .lss .none v7 t37_3) ⟨fun b38_4 =>
  @BIfH b38_4
  ⟨Q .normal [(1, v1), (5, v5), (7, v7), (38, (.bool b38_4))] M⟩
  ⟨Q (.exit 0) [(1, v1), (5, v5), (7, v7), (38, (.bool b38_4))] M⟩⟩⟩
theorem e4_17 (P : Program) (Q : Exit → Slots → Mem → Prop) (s : Slots) (M : Mem) : wpC P c4_17 Q s M = w4_17 P Q M (sget s 1) (sget s 5) (sget s 7) := by kernel_rfl
def o4_18 : List AOper := [⟨some 42, (.mov (.tmp 5)), false, none⟩,
  ⟨some 43, (.mov (.tmp 1)), false, none⟩,
  ⟨some 44, (.mov (.tmp 7)), false, none⟩,
  ⟨some 45, (.indexSl 4 (.tmp 43) (.tmp 44)), false, none⟩,
  ⟨some 46, (.load 4 true (.tmp 45)), false, none⟩,
  ⟨some 47, (.call i_farestate_State_Ride [(.tmp 42), (.tmp 46)]), false, none⟩,
  ⟨some 41, (.mov (.tmp 47)), false, none⟩,
  ⟨some 48, (.extract (.tmp 41) 0), false, none⟩,
  ⟨some 49, (.extract (.tmp 41) 1), false, none⟩,
  ⟨some 8, (.mov (.tmp 48)), false, none⟩,
  ⟨some 9, (.mov (.tmp 49)), false, none⟩]
def c4_19 : ACode := (.region o4_18 [1, 5, 7, 8, 9])
def w4_19 (P : Program) (Q : Exit → Slots → Mem → Prop) (M : Mem) (v1 : V) (v5 : V) (v7 : V) : Prop :=
  @OptVH (indexSlV 4 v1 v7 M) ⟨fun t45_4 =>
  @OptVH (loadV 4 true t45_4 M) ⟨fun t46_5 =>
  @CallH P i_farestate_State_Ride [v5, t46_5] M ⟨fun t47_6 M6 =>
  @OptVH (extractV t47_6 0) ⟨fun t48_8 =>
  @OptVH (extractV t47_6 1) ⟨fun t49_9 =>
  Q .normal [(1, v1), (5, v5), (7, v7), (8, t48_8), (9, t49_9)] M6⟩⟩⟩⟩⟩
theorem e4_19 (P : Program) (Q : Exit → Slots → Mem → Prop) (s : Slots) (M : Mem) : wpC P c4_19 Q s M = w4_19 P Q M (sget s 1) (sget s 5) (sget s 7) := by kernel_rfl
def o4_20 : List AOper := [⟨some 52, (.mov (.tmp 8)), false, none⟩,
  ⟨some 53, (.bin .eql .ptr (.tmp 52) (.const .nilp)), true, none⟩,
  ⟨some 54, (.mov (.tmp 53)), true, none⟩,
  ⟨some 55, (.mov (.tmp 9)), false, some (54, true)⟩,
  ⟨some 56, (.bin .eql .none (.tmp 55) (.const (.int .i64 33))), true, some (54, true)⟩,
  ⟨some 57, (.pick (.tmp 54) (.tmp 56) (.const (.bool false))), true, none⟩,
  ⟨some 58, (.mov (.tmp 57)), true, none⟩,
  ⟨some 59, (.mov (.tmp 5)), false, some (58, true)⟩,
  ⟨some 60, (.call i_farestate_State_Rides [(.tmp 59)]), false, some (58, true)⟩,
  ⟨some 61, (.bin .eql .none (.tmp 60) (.const (.int .i64 8))), true, some (58, true)⟩,
  ⟨some 62, (.pick (.tmp 58) (.tmp 61) (.const (.bool false))), true, none⟩,
  ⟨some 63, (.mov (.tmp 62)), true, none⟩,
  ⟨some 64, (.call i_transitlaw36_exampleHolds []), true, some (63, true)⟩,
  ⟨some 65, (.pick (.tmp 63) (.tmp 64) (.const (.bool false))), true, none⟩,
  ⟨some 4, (.mov (.tmp 65)), true, none⟩]
def c4_21 : ACode := (.region o4_20 [4])
def w4_21 (P : Program) (Q : Exit → Slots → Mem → Prop) (M : Mem) (v5 : V) (v8 : V) (v9 : V) : Prop :=
  @OptBH (binV .eql .ptr v8 .nilp) ⟨fun b53_2 =>
  @BIfH b53_2
  ⟨@OptBH (binV .eql .none v9 (.int .i64 33)) ⟨fun b56_5 =>
  @BIfH b56_5
  ⟨@CallH P i_farestate_State_Rides [v5] M ⟨fun t60_9 M9 =>
  @OptBH (binV .eql .none t60_9 (.int .i64 8)) ⟨fun b61_10 =>
  @BIfH b61_10
  ⟨@CallH P i_transitlaw36_exampleHolds [] M9 ⟨fun t64_13 M13 => @OptBH (some t64_13) ⟨fun b64_13 =>
  Q .normal [(4, (.bool b64_13))] M13⟩⟩⟩
  ⟨Q .normal [(4, (.bool false))] M9⟩⟩⟩⟩
  ⟨Q .normal [(4, (.bool false))] M⟩⟩⟩
  ⟨Q .normal [(4, (.bool false))] M⟩⟩
theorem e4_21 (P : Program) (Q : Exit → Slots → Mem → Prop) (s : Slots) (M : Mem) : wpC P c4_21 Q s M = w4_21 P Q M (sget s 5) (sget s 8) (sget s 9) := by kernel_rfl
def c4_22 : ACode := (.seq c4_21 .ret)
def o4_23 : List AOper := [⟨some 50, (.mov (.tmp 7)), false, none⟩,
  ⟨some 51, (.bin .geq .none (.tmp 50) (.const (.int .i64 8))), true, none⟩]
def c4_24 : ACode := (.seq (.region o4_23 [1, 5, 7, 8, 9, 51]) (.cond (.tmp 51) c4_22 .skip))
def w4_24 (P : Program) (Q : Exit → Slots → Mem → Prop) (M : Mem) (v1 : V) (v5 : V) (v7 : V) (v8 : V) (v9 : V) : Prop :=
  @OptBH (binV .geq .none v7 (.int .i64 8)) ⟨fun b51_2 =>
  @BIfH b51_2
  ⟨wpC P c4_22 Q [(1, v1), (5, v5), (7, v7), (8, v8), (9, v9), (51, (.bool b51_2))] M⟩
  ⟨Q .normal [(1, v1), (5, v5), (7, v7), (8, v8), (9, v9), (51, (.bool b51_2))] M⟩⟩
theorem e4_24 (P : Program) (Q : Exit → Slots → Mem → Prop) (s : Slots) (M : Mem) : wpC P c4_24 Q s M = w4_24 P Q M (sget s 1) (sget s 5) (sget s 7) (sget s 8) (sget s 9) := by kernel_rfl
def o4_25 : List AOper := [⟨some 4, (.mov (.const (.bool false))), true, none⟩]
def c4_26 : ACode := (.region o4_25 [4])
def w4_26 (_P : Program) (Q : Exit → Slots → Mem → Prop) (M : Mem) : Prop :=
  Q .normal [(4, (.bool false))] M
theorem e4_26 (P : Program) (Q : Exit → Slots → Mem → Prop) (s : Slots) (M : Mem) : wpC P c4_26 Q s M = w4_26 P Q M := by kernel_rfl
def c4_27 : ACode := (.seq c4_26 .ret)
def o4_28 : List AOper := [⟨some 66, (.mov (.tmp 8)), false, none⟩,
  ⟨some 67, (.bin .eql .ptr (.tmp 66) (.const .nilp)), true, none⟩,
  ⟨some 68, (.mov (.tmp 67)), true, none⟩,
  ⟨some 69, (.mov (.tmp 9)), false, some (68, false)⟩,
  ⟨some 70, (.bin .neq .none (.tmp 69) (.const (.int .i64 0))), true, some (68, false)⟩,
  ⟨some 71, (.pick (.tmp 68) (.const (.bool true)) (.tmp 70)), true, none⟩,
  ⟨some 72, (.mov (.tmp 71)), true, none⟩,
  ⟨some 73, (.mov (.tmp 8)), false, some (72, false)⟩,
  ⟨some 74, (.call i_farestate_State_Rides [(.tmp 73)]), false, some (72, false)⟩,
  ⟨some 75, (.mov (.tmp 7)), false, some (72, false)⟩,
  ⟨some 76, (.bin .add .none (.tmp 75) (.const (.int .i64 1))), false, some (72, false)⟩,
  ⟨some 77, (.bin .neq .none (.tmp 74) (.tmp 76)), true, some (72, false)⟩,
  ⟨some 78, (.pick (.tmp 72) (.const (.bool true)) (.tmp 77)), true, none⟩,
  ⟨some 79, (.mov (.tmp 78)), true, none⟩,
  ⟨some 80, (.mov (.tmp 5)), false, some (79, false)⟩,
  ⟨some 81, (.call i_farestate_State_Rides [(.tmp 80)]), false, some (79, false)⟩,
  ⟨some 82, (.mov (.tmp 7)), false, some (79, false)⟩,
  ⟨some 83, (.bin .neq .none (.tmp 81) (.tmp 82)), true, some (79, false)⟩,
  ⟨some 84, (.pick (.tmp 79) (.const (.bool true)) (.tmp 83)), true, none⟩]
def c4_29 : ACode := (.seq (.region o4_28 [1, 7, 8, 84]) (.cond (.tmp 84) c4_27 .skip))
def w4_29 (P : Program) (Q : Exit → Slots → Mem → Prop) (M : Mem) (v1 : V) (v5 : V) (v7 : V) (v8 : V) (v9 : V) : Prop :=
  @OptBH (binV .eql .ptr v8 .nilp) ⟨fun b67_2 =>
  @BIfH b67_2
  ⟨wpC P c4_27 Q [(1, v1), (7, v7), (8, v8), (84, (.bool true))] M⟩
  ⟨@OptBH (binV .neq .none v9 (.int .i64 0)) ⟨fun b70_10 =>
  @BIfH b70_10
  ⟨wpC P c4_27 Q [(1, v1), (7, v7), (8, v8), (84, (.bool true))] M⟩
  ⟨@CallH P i_farestate_State_Rides [v8] M ⟨fun t74_17 M17 =>
  @OptVH (binV .add .none v7 (.int .i64 1)) ⟨fun t76_19 =>
  @OptBH (binV .neq .none t74_17 t76_19) ⟨fun b77_20 =>
  @BIfH b77_20
  ⟨wpC P c4_27 Q [(1, v1), (7, v7), (8, v8), (84, (.bool true))] M17⟩
  ⟨@CallH P i_farestate_State_Rides [v5] M17 ⟨fun t81_25 M25 =>
  @OptBH (binV .neq .none t81_25 v7) ⟨fun b83_27 =>
  @BIfH b83_27
  ⟨wpC P c4_27 Q [(1, v1), (7, v7), (8, v8), (84, (.bool b83_27))] M25⟩
  ⟨Q .normal [(1, v1), (7, v7), (8, v8), (84, (.bool b83_27))] M25⟩⟩⟩⟩⟩⟩⟩⟩⟩⟩⟩
theorem e4_29 (P : Program) (Q : Exit → Slots → Mem → Prop) (s : Slots) (M : Mem) : wpC P c4_29 Q s M = w4_29 P Q M (sget s 1) (sget s 5) (sget s 7) (sget s 8) (sget s 9) := by kernel_rfl
def o4_30 : List AOper := [⟨some 85, (.mov (.tmp 8)), false, none⟩,
  ⟨some 5, (.mov (.tmp 85)), false, none⟩]
def c4_31 : ACode := (.region o4_30 [1, 5, 7])
def w4_31 (_P : Program) (Q : Exit → Slots → Mem → Prop) (M : Mem) (v1 : V) (v7 : V) (v8 : V) : Prop :=
  Q .normal [(1, v1), (5, v8), (7, v7)] M
theorem e4_31 (P : Program) (Q : Exit → Slots → Mem → Prop) (s : Slots) (M : Mem) : wpC P c4_31 Q s M = w4_31 P Q M (sget s 1) (sget s 7) (sget s 8) := by kernel_rfl
def c4_32 : ACode := (.seq c4_29 c4_31)
def c4_33 : ACode := (.seq c4_24 c4_32)
def c4_34 : ACode := (.seq c4_19 c4_33)
def c4_35 : ACode := (.block 1 c4_34)
def o4_36 : List AOper := [⟨some 39, (.mov (.tmp 7)), false, none⟩,
  ⟨some 40, (.bin .add .none (.tmp 39) (.const (.int .i64 1))), false, none⟩,
  ⟨some 7, (.mov (.tmp 40)), false, none⟩]
def c4_37 : ACode := (.region o4_36 [1, 5, 7])
def w4_37 (_P : Program) (Q : Exit → Slots → Mem → Prop) (M : Mem) (v1 : V) (v5 : V) (v7 : V) : Prop :=
  @OptVH (binV .add .none v7 (.int .i64 1)) ⟨fun t40_2 =>
  Q .normal [(1, v1), (5, v5), (7, t40_2)] M⟩
theorem e4_37 (P : Program) (Q : Exit → Slots → Mem → Prop) (s : Slots) (M : Mem) : wpC P c4_37 Q s M = w4_37 P Q M (sget s 1) (sget s 5) (sget s 7) := by kernel_rfl
def c4_38 : ACode := (.seq c4_35 c4_37)
def c4_39 : ACode := (.seq c4_17 c4_38)
def c4_40 : ACode := (.loop [1, 5, 7] c4_39)
def c4_41 : ACode := (.block 0 c4_40)
def c4_42 : ACode := (.seq c4_15 c4_41)
def o4_43 : List AOper := [⟨some 86, (.call i_transitlaw36_exampleHolds []), true, none⟩,
  ⟨some 4, (.mov (.tmp 86)), true, none⟩]
def c4_44 : ACode := (.region o4_43 [4])
def w4_44 (P : Program) (Q : Exit → Slots → Mem → Prop) (M : Mem) : Prop :=
  @CallH P i_transitlaw36_exampleHolds [] M ⟨fun t86_1 M1 => @OptBH (some t86_1) ⟨fun b86_1 =>
  Q .normal [(4, (.bool b86_1))] M1⟩⟩
theorem e4_44 (P : Program) (Q : Exit → Slots → Mem → Prop) (s : Slots) (M : Mem) : wpC P c4_44 Q s M = w4_44 P Q M := by kernel_rfl
def c4_45 : ACode := (.seq c4_44 .ret)
def c4_46 : ACode := (.seq c4_42 c4_45)
def c4_47 : ACode := (.seq c4_13 c4_46)
def c4_48 : ACode := (.seq c4_8 c4_47)
def c4_49 : ACode := (.seq c4_6 c4_48)
def c4_50 : ACode := (.seq c4_1 c4_49)
def fn_transitlaw36_FarestateLimits : AFn := ⟨87, [(.tmp 4)], c4_50⟩
theorem fn_transitlaw36_FarestateLimits_ok : resFn PR h_transitlaw36_FarestateLimits i_transitlaw36_FarestateLimits = some fn_transitlaw36_FarestateLimits := by kernel_rfl

def h_transitlaw36_FarestateExact : Hints := ⟨[(0, [1, 2]), (1, [1, 2, 24]), (2, [4]), (3, [1, 2, 5]), (4, [1, 2, 5, 29]), (5, [1, 2, 5]), (6, [1, 2, 5, 6, 7]), (7, [1, 2, 5, 6, 41]), (8, [4]), (9, [1, 2, 5, 8, 9]), (10, [1, 2, 5, 8, 9, 10, 11]), (11, [1, 2, 5, 62]), (12, [4]), (13, [4])], [(4, [1, 2, 5])], []⟩
def o5_0 : List AOper := [⟨some 2, (.box 4 (.tmp 0)), false, none⟩,
  ⟨some 4, (.mov (.const (.bool false))), true, none⟩]
def c5_1 : ACode := (.region o5_0 [1, 2])
def w5_1 (_P : Program) (Q : Exit → Slots → Mem → Prop) (M : Mem) (v0 : V) (v1 : V) : Prop :=
  @OptMH (boxV 4 v0 M) ⟨fun t2_1 M1 =>
  Q .normal [(1, v1), (2, t2_1)] M1⟩
theorem e5_1 (P : Program) (Q : Exit → Slots → Mem → Prop) (s : Slots) (M : Mem) : wpC P c5_1 Q s M = w5_1 P Q M (sget s 0) (sget s 1) := by kernel_rfl
def o5_2 : List AOper := [⟨some 25, (.call i_transitlaw36_exampleHolds []), true, none⟩,
  ⟨some 4, (.mov (.tmp 25)), true, none⟩]
def c5_3 : ACode := (.region o5_2 [4])
def w5_3 (P : Program) (Q : Exit → Slots → Mem → Prop) (M : Mem) : Prop :=
  @CallH P i_transitlaw36_exampleHolds [] M ⟨fun t25_1 M1 => @OptBH (some t25_1) ⟨fun b25_1 =>
  Q .normal [(4, (.bool b25_1))] M1⟩⟩
theorem e5_3 (P : Program) (Q : Exit → Slots → Mem → Prop) (s : Slots) (M : Mem) : wpC P c5_3 Q s M = w5_3 P Q M := by kernel_rfl
def c5_4 : ACode := (.seq c5_3 .ret)
def o5_5 : List AOper := [⟨some 12, (.load 4 true (.tmp 2)), false, none⟩,
  ⟨some 13, (.call i_transitlaw36_small [(.tmp 12)]), true, none⟩,
  ⟨some 14, (.un .not (.tmp 13)), true, none⟩,
  ⟨some 15, (.mov (.tmp 14)), true, none⟩,
  ⟨some 16, (.mov (.tmp 1)), false, some (15, false)⟩,
  ⟨some 17, (.lenSl (.tmp 16)), false, some (15, false)⟩,
  ⟨some 18, (.bin .gtr .none (.tmp 17) (.const (.int .i64 8))), true, some (15, false)⟩,
  ⟨some 19, (.pick (.tmp 15) (.const (.bool true)) (.tmp 18)), true, none⟩,
  ⟨some 20, (.mov (.tmp 19)), true, none⟩,
  ⟨some 21, (.load 4 true (.tmp 2)), false, some (20, false)⟩,
  ⟨some 22, (.call i_transitref35_Valid [(.tmp 21)]), true, some (20, false)⟩,
  ⟨some 23, (.un .not (.tmp 22)), true, some (20, false)⟩,
  ⟨some 24, (.pick (.tmp 20) (.const (.bool true)) (.tmp 23)), true, none⟩]
def c5_6 : ACode := (.seq (.region o5_5 [1, 2, 24]) (.cond (.tmp 24) c5_4 .skip))
def w5_6 (P : Program) (Q : Exit → Slots → Mem → Prop) (M : Mem) (v1 : V) (v2 : V) : Prop :=
  @OptVH (loadV 4 true v2 M) ⟨fun t12_1 =>
  @CallH P i_transitlaw36_small [t12_1] M ⟨fun t13_2 M2 => @OptBH (some t13_2) ⟨fun b13_2 =>
  @OptBH (unV .not (.bool b13_2)) ⟨fun b14_3 =>
  @BIfH b14_3
  ⟨wpC P c5_4 Q [(1, v1), (2, v2), (24, (.bool true))] M2⟩
  ⟨@OptVH (lenV v1 M2) ⟨fun t17_9 =>
  @OptBH (binV .gtr .none t17_9 (.int .i64 8)) ⟨fun b18_10 =>
  @BIfH b18_10
  ⟨wpC P c5_4 Q [(1, v1), (2, v2), (24, (.bool true))] M2⟩
  ⟨@OptVH (loadV 4 true v2 M2) ⟨fun t21_14 =>
  @CallH P i_transitref35_Valid [t21_14] M2 ⟨fun t22_15 M15 => @OptBH (some t22_15) ⟨fun b22_15 =>
  @OptBH (unV .not (.bool b22_15)) ⟨fun b23_16 =>
  @BIfH b23_16
  ⟨wpC P c5_4 Q [(1, v1), (2, v2), (24, (.bool b23_16))] M15⟩
  ⟨Q .normal [(1, v1), (2, v2), (24, (.bool b23_16))] M15⟩⟩⟩⟩⟩⟩⟩⟩⟩⟩⟩⟩⟩
theorem e5_6 (P : Program) (Q : Exit → Slots → Mem → Prop) (s : Slots) (M : Mem) : wpC P c5_6 Q s M = w5_6 P Q M (sget s 1) (sget s 2) := by kernel_rfl
def o5_7 : List AOper := [⟨some 5, (.mov (.const (.int .i64 0))), false, none⟩]
def c5_8 : ACode := (.region o5_7 [1, 2, 5])
def w5_8 (_P : Program) (Q : Exit → Slots → Mem → Prop) (M : Mem) (v1 : V) (v2 : V) : Prop :=
  Q .normal [(1, v1), (2, v2), (5, (.int .i64 0))] M
theorem e5_8 (P : Program) (Q : Exit → Slots → Mem → Prop) (s : Slots) (M : Mem) : wpC P c5_8 Q s M = w5_8 P Q M (sget s 1) (sget s 2) := by kernel_rfl
def o5_9 : List AOper := [⟨some 26, (.mov (.tmp 5)), false, none⟩,
  ⟨some 27, (.mov (.tmp 1)), false, none⟩,
  ⟨some 28, (.lenSl (.tmp 27)), false, none⟩,
  ⟨some 29, (.bin .leq .none (.tmp 26) (.tmp 28)), true, none⟩]
def c5_10 : ACode := (.seq (.region o5_9 [1, 2, 5, 29]) (.cond (.tmp 29) .skip (.exit 0)))
def w5_10 (_P : Program) (Q : Exit → Slots → Mem → Prop) (M : Mem) (v1 : V) (v2 : V) (v5 : V) : Prop :=
  @OptVH (lenV v1 M) ⟨fun t28_3 =>
  @OptBH (binV .leq .none v5 t28_3) ⟨fun b29_4 =>
  @BIfH b29_4
  ⟨Q .normal [(1, v1), (2, v2), (5, v5), (29, (.bool b29_4))] M⟩
  ⟨Q (.exit 0) [(1, v1), (2, v2), (5, v5), (29, (.bool b29_4))] M⟩⟩⟩
theorem e5_10 (P : Program) (Q : Exit → Slots → Mem → Prop) (s : Slots) (M : Mem) : wpC P c5_10 Q s M = w5_10 P Q M (sget s 1) (sget s 2) (sget s 5) := by kernel_rfl
def o5_11 : List AOper := [⟨some 33, (.load 4 true (.tmp 2)), false, none⟩,
  ⟨some 34, (.mov (.tmp 1)), false, none⟩,
  ⟨some 35, (.mov (.tmp 5)), false, none⟩,
  ⟨some 36, (.slice 4 (.tmp 34) none (some (.tmp 35)) none), false, none⟩,
  ⟨some 37, (.call i_transitlaw36_made [(.tmp 33), (.tmp 36)]), false, none⟩,
  ⟨some 32, (.mov (.tmp 37)), false, none⟩,
  ⟨some 38, (.extract (.tmp 32) 0), false, none⟩,
  ⟨some 39, (.extract (.tmp 32) 1), true, none⟩,
  ⟨some 6, (.mov (.tmp 38)), false, none⟩,
  ⟨some 7, (.mov (.tmp 39)), true, none⟩]
def c5_12 : ACode := (.mixed o5_11 [true, true, true, true, false, true, true, true, true, true] [1, 2, 5, 6, 7])
def w5_12 (P : Program) (Q : Exit → Slots → Mem → Prop) (M : Mem) (v1 : V) (v2 : V) (v5 : V) : Prop :=
  @OptVH (loadV 4 true v2 M) ⟨fun t33_1 =>
  @OptVH (sliceV 4 v1 none (some v5) none M) ⟨fun t36_4 =>
  @CallH P i_transitlaw36_made [t33_1, t36_4] M ⟨fun t37_5 M5 =>
  @OptVH (extractV t37_5 0) ⟨fun t38_7 =>
  @OptBH (extractV t37_5 1) ⟨fun b39_8 =>
  Q .normal [(1, v1), (2, v2), (5, v5), (6, t38_7), (7, (.bool b39_8))] M5⟩⟩⟩⟩⟩
theorem e5_12 (P : Program) (Q : Exit → Slots → Mem → Prop) (s : Slots) (M : Mem) : wpC P c5_12 Q s M = w5_12 P Q M (sget s 1) (sget s 2) (sget s 5) := by kernel_rfl
def o5_13 : List AOper := [⟨some 4, (.mov (.const (.bool false))), true, none⟩]
def c5_14 : ACode := (.region o5_13 [4])
def w5_14 (_P : Program) (Q : Exit → Slots → Mem → Prop) (M : Mem) : Prop :=
  Q .normal [(4, (.bool false))] M
theorem e5_14 (P : Program) (Q : Exit → Slots → Mem → Prop) (s : Slots) (M : Mem) : wpC P c5_14 Q s M = w5_14 P Q M := by kernel_rfl
def c5_15 : ACode := (.seq c5_14 .ret)
def o5_16 : List AOper := [⟨some 40, (.mov (.tmp 7)), true, none⟩,
  ⟨some 41, (.un .not (.tmp 40)), true, none⟩]
def c5_17 : ACode := (.seq (.region o5_16 [1, 2, 5, 6, 41]) (.cond (.tmp 41) c5_15 .skip))
def w5_17 (P : Program) (Q : Exit → Slots → Mem → Prop) (M : Mem) (v1 : V) (v2 : V) (v5 : V) (v6 : V) (v7 : V) : Prop :=
  @OptBH (some v7) ⟨fun b40_1 =>
  @OptBH (unV .not (.bool b40_1)) ⟨fun b41_2 =>
  @BIfH b41_2
  ⟨wpC P c5_15 Q [(1, v1), (2, v2), (5, v5), (6, v6), (41, (.bool b41_2))] M⟩
  ⟨Q .normal [(1, v1), (2, v2), (5, v5), (6, v6), (41, (.bool b41_2))] M⟩⟩⟩
theorem e5_17 (P : Program) (Q : Exit → Slots → Mem → Prop) (s : Slots) (M : Mem) : wpC P c5_17 Q s M = w5_17 P Q M (sget s 1) (sget s 2) (sget s 5) (sget s 6) (sget s 7) := by kernel_rfl
def o5_18 : List AOper := [⟨some 43, (.mov (.tmp 6)), false, none⟩,
  ⟨some 44, (.call i_farestate_State_Price [(.tmp 43)]), false, none⟩,
  ⟨some 42, (.mov (.tmp 44)), false, none⟩,
  ⟨some 45, (.extract (.tmp 42) 0), false, none⟩,
  ⟨some 46, (.extract (.tmp 42) 1), true, none⟩,
  ⟨some 8, (.mov (.tmp 45)), false, none⟩,
  ⟨some 9, (.mov (.tmp 46)), true, none⟩]
def c5_19 : ACode := (.region o5_18 [1, 2, 5, 8, 9])
def w5_19 (P : Program) (Q : Exit → Slots → Mem → Prop) (M : Mem) (v1 : V) (v2 : V) (v5 : V) (v6 : V) : Prop :=
  @CallH P i_farestate_State_Price [v6] M ⟨fun t44_2 M2 =>
  @OptVH (extractV t44_2 0) ⟨fun t45_4 =>
  @OptBH (extractV t44_2 1) ⟨fun b46_5 =>
  Q .normal [(1, v1), (2, v2), (5, v5), (8, t45_4), (9, (.bool b46_5))] M2⟩⟩⟩
theorem e5_19 (P : Program) (Q : Exit → Slots → Mem → Prop) (s : Slots) (M : Mem) : wpC P c5_19 Q s M = w5_19 P Q M (sget s 1) (sget s 2) (sget s 5) (sget s 6) := by kernel_rfl
def o5_20 : List AOper := [⟨some 48, (.load 4 true (.tmp 2)), false, none⟩,
  ⟨some 49, (.mov (.tmp 1)), false, none⟩,
  ⟨some 50, (.mov (.tmp 5)), false, none⟩,
  ⟨some 51, (.slice 4 (.tmp 49) none (some (.tmp 50)) none), false, none⟩,
  ⟨some 52, (.call i_transitref36_Price [(.tmp 48), (.tmp 51)]), false, none⟩,
  ⟨some 47, (.mov (.tmp 52)), false, none⟩,
  ⟨some 53, (.extract (.tmp 47) 0), false, none⟩,
  ⟨some 54, (.extract (.tmp 47) 1), true, none⟩,
  ⟨some 10, (.mov (.tmp 53)), false, none⟩,
  ⟨some 11, (.mov (.tmp 54)), true, none⟩]
def c5_21 : ACode := (.mixed o5_20 [true, true, true, true, false, true, true, true, true, true] [1, 2, 5, 8, 9, 10, 11])
def w5_21 (P : Program) (Q : Exit → Slots → Mem → Prop) (M : Mem) (v1 : V) (v2 : V) (v5 : V) (v8 : V) (v9 : V) : Prop :=
  @OptVH (loadV 4 true v2 M) ⟨fun t48_1 =>
  @OptVH (sliceV 4 v1 none (some v5) none M) ⟨fun t51_4 =>
  @CallH P i_transitref36_Price [t48_1, t51_4] M ⟨fun t52_5 M5 =>
  @OptVH (extractV t52_5 0) ⟨fun t53_7 =>
  @OptBH (extractV t52_5 1) ⟨fun b54_8 =>
  Q .normal [(1, v1), (2, v2), (5, v5), (8, v8), (9, v9), (10, t53_7), (11, (.bool b54_8))] M5⟩⟩⟩⟩⟩
theorem e5_21 (P : Program) (Q : Exit → Slots → Mem → Prop) (s : Slots) (M : Mem) : wpC P c5_21 Q s M = w5_21 P Q M (sget s 1) (sget s 2) (sget s 5) (sget s 8) (sget s 9) := by kernel_rfl
def o5_22 : List AOper := [⟨some 4, (.mov (.const (.bool false))), true, none⟩]
def c5_23 : ACode := (.region o5_22 [4])
def w5_23 (_P : Program) (Q : Exit → Slots → Mem → Prop) (M : Mem) : Prop :=
  Q .normal [(4, (.bool false))] M
theorem e5_23 (P : Program) (Q : Exit → Slots → Mem → Prop) (s : Slots) (M : Mem) : wpC P c5_23 Q s M = w5_23 P Q M := by kernel_rfl
def c5_24 : ACode := (.seq c5_23 .ret)
def o5_25 : List AOper := [⟨some 55, (.mov (.tmp 8)), false, none⟩,
  ⟨some 56, (.mov (.tmp 10)), false, none⟩,
  ⟨some 57, (.bin .neq .none (.tmp 55) (.tmp 56)), true, none⟩,
  ⟨some 58, (.mov (.tmp 57)), true, none⟩,
  ⟨some 59, (.mov (.tmp 9)), true, some (58, false)⟩,
  ⟨some 60, (.mov (.tmp 11)), true, some (58, false)⟩,
  ⟨some 61, (.bin .neq .bool (.tmp 59) (.tmp 60)), true, some (58, false)⟩,
  ⟨some 62, (.pick (.tmp 58) (.const (.bool true)) (.tmp 61)), true, none⟩]
def c5_26 : ACode := (.seq (.region o5_25 [1, 2, 5, 62]) (.cond (.tmp 62) c5_24 .skip))
def w5_26 (P : Program) (Q : Exit → Slots → Mem → Prop) (M : Mem) (v1 : V) (v2 : V) (v5 : V) (v8 : V) (v9 : V) (v10 : V) (v11 : V) : Prop :=
  @OptBH (binV .neq .none v8 v10) ⟨fun b57_3 =>
  @BIfH b57_3
  ⟨wpC P c5_24 Q [(1, v1), (2, v2), (5, v5), (62, (.bool true))] M⟩
  ⟨@OptBH (some v9) ⟨fun b59_6 =>
  @OptBH (some v11) ⟨fun b60_7 =>
  @OptBH (binV .neq .bool (.bool b59_6) (.bool b60_7)) ⟨fun b61_8 =>
  @BIfH b61_8
  ⟨wpC P c5_24 Q [(1, v1), (2, v2), (5, v5), (62, (.bool b61_8))] M⟩
  ⟨Q .normal [(1, v1), (2, v2), (5, v5), (62, (.bool b61_8))] M⟩⟩⟩⟩⟩⟩
theorem e5_26 (P : Program) (Q : Exit → Slots → Mem → Prop) (s : Slots) (M : Mem) : wpC P c5_26 Q s M = w5_26 P Q M (sget s 1) (sget s 2) (sget s 5) (sget s 8) (sget s 9) (sget s 10) (sget s 11) := by kernel_rfl
def c5_27 : ACode := (.seq c5_21 c5_26)
def c5_28 : ACode := (.seq c5_19 c5_27)
def c5_29 : ACode := (.seq c5_17 c5_28)
def c5_30 : ACode := (.seq c5_12 c5_29)
def c5_31 : ACode := (.block 1 c5_30)
def o5_32 : List AOper := [⟨some 30, (.mov (.tmp 5)), false, none⟩,
  ⟨some 31, (.bin .add .none (.tmp 30) (.const (.int .i64 1))), false, none⟩,
  ⟨some 5, (.mov (.tmp 31)), false, none⟩]
def c5_33 : ACode := (.region o5_32 [1, 2, 5])
def w5_33 (_P : Program) (Q : Exit → Slots → Mem → Prop) (M : Mem) (v1 : V) (v2 : V) (v5 : V) : Prop :=
  @OptVH (binV .add .none v5 (.int .i64 1)) ⟨fun t31_2 =>
  Q .normal [(1, v1), (2, v2), (5, t31_2)] M⟩
theorem e5_33 (P : Program) (Q : Exit → Slots → Mem → Prop) (s : Slots) (M : Mem) : wpC P c5_33 Q s M = w5_33 P Q M (sget s 1) (sget s 2) (sget s 5) := by kernel_rfl
def c5_34 : ACode := (.seq c5_31 c5_33)
def c5_35 : ACode := (.seq c5_10 c5_34)
def c5_36 : ACode := (.loop [1, 2, 5] c5_35)
def c5_37 : ACode := (.block 0 c5_36)
def c5_38 : ACode := (.seq c5_8 c5_37)
def o5_39 : List AOper := [⟨some 63, (.call i_transitlaw36_exampleHolds []), true, none⟩,
  ⟨some 4, (.mov (.tmp 63)), true, none⟩]
def c5_40 : ACode := (.region o5_39 [4])
def w5_40 (P : Program) (Q : Exit → Slots → Mem → Prop) (M : Mem) : Prop :=
  @CallH P i_transitlaw36_exampleHolds [] M ⟨fun t63_1 M1 => @OptBH (some t63_1) ⟨fun b63_1 =>
  Q .normal [(4, (.bool b63_1))] M1⟩⟩
theorem e5_40 (P : Program) (Q : Exit → Slots → Mem → Prop) (s : Slots) (M : Mem) : wpC P c5_40 Q s M = w5_40 P Q M := by kernel_rfl
def c5_41 : ACode := (.seq c5_40 .ret)
def c5_42 : ACode := (.seq c5_38 c5_41)
def c5_43 : ACode := (.seq c5_6 c5_42)
def c5_44 : ACode := (.seq c5_1 c5_43)
def fn_transitlaw36_FarestateExact : AFn := ⟨64, [(.tmp 4)], c5_44⟩
theorem fn_transitlaw36_FarestateExact_ok : resFn PR h_transitlaw36_FarestateExact i_transitlaw36_FarestateExact = some fn_transitlaw36_FarestateExact := by kernel_rfl

def h_transitlaw36_FarestateBranches : Hints := ⟨[(0, [1, 3, 5]), (1, [1, 3, 5, 33]), (2, [6]), (3, [1, 5, 7, 8]), (4, [1, 5, 7, 42]), (5, [6]), (6, [1, 5, 7, 9, 10]), (7, [1, 5, 7, 9, 10, 11, 12]), (8, [1, 5, 7, 9, 10, 11, 60]), (9, [6]), (10, [1, 5, 7, 9, 10, 11, 13, 14]), (11, [1, 5, 7, 9, 10, 11, 12, 13, 14, 15]), (12, [1, 5, 7, 9, 10, 11, 13, 14, 78]), (13, [6]), (14, [1, 5, 7, 9, 10, 11, 13, 14, 16, 17]), (15, [1, 5, 7, 9, 10, 11, 13, 14, 16, 17, 18, 19]), (16, [1, 7, 9, 10, 11, 12, 13, 14, 16, 17, 18, 19, 20]), (17, [1, 7, 9, 10, 11, 13, 14, 16, 17, 18, 19, 20, 101]), (18, [6]), (19, [6])], [], []⟩
def o6_0 : List AOper := [⟨some 3, (.box 4 (.tmp 0)), false, none⟩,
  ⟨some 5, (.box 8 (.tmp 2)), false, none⟩,
  ⟨some 6, (.mov (.const (.bool false))), true, none⟩]
def c6_1 : ACode := (.region o6_0 [1, 3, 5])
def w6_1 (_P : Program) (Q : Exit → Slots → Mem → Prop) (M : Mem) (v0 : V) (v1 : V) (v2 : V) : Prop :=
  @OptMH (boxV 4 v0 M) ⟨fun t3_1 M1 =>
  @OptMH (boxV 8 v2 M1) ⟨fun t5_2 M2 =>
  Q .normal [(1, v1), (3, t3_1), (5, t5_2)] M2⟩⟩
theorem e6_1 (P : Program) (Q : Exit → Slots → Mem → Prop) (s : Slots) (M : Mem) : wpC P c6_1 Q s M = w6_1 P Q M (sget s 0) (sget s 1) (sget s 2) := by kernel_rfl
def o6_2 : List AOper := [⟨some 34, (.call i_transitlaw36_exampleHolds []), true, none⟩,
  ⟨some 6, (.mov (.tmp 34)), true, none⟩]
def c6_3 : ACode := (.region o6_2 [6])
def w6_3 (P : Program) (Q : Exit → Slots → Mem → Prop) (M : Mem) : Prop :=
  @CallH P i_transitlaw36_exampleHolds [] M ⟨fun t34_1 M1 => @OptBH (some t34_1) ⟨fun b34_1 =>
  Q .normal [(6, (.bool b34_1))] M1⟩⟩
theorem e6_3 (P : Program) (Q : Exit → Slots → Mem → Prop) (s : Slots) (M : Mem) : wpC P c6_3 Q s M = w6_3 P Q M := by kernel_rfl
def c6_4 : ACode := (.seq c6_3 .ret)
def o6_5 : List AOper := [⟨some 21, (.load 4 true (.tmp 3)), false, none⟩,
  ⟨some 22, (.call i_transitlaw36_small [(.tmp 21)]), true, none⟩,
  ⟨some 23, (.un .not (.tmp 22)), true, none⟩,
  ⟨some 24, (.mov (.tmp 23)), true, none⟩,
  ⟨some 25, (.mov (.tmp 1)), false, some (24, false)⟩,
  ⟨some 26, (.lenSl (.tmp 25)), false, some (24, false)⟩,
  ⟨some 27, (.bin .geq .none (.tmp 26) (.const (.int .i64 8))), true, some (24, false)⟩,
  ⟨some 28, (.pick (.tmp 24) (.const (.bool true)) (.tmp 27)), true, none⟩,
  ⟨some 29, (.mov (.tmp 28)), true, none⟩,
  ⟨some 30, (.load 4 true (.tmp 3)), false, some (29, false)⟩,
  ⟨some 31, (.call i_transitref35_Valid [(.tmp 30)]), true, some (29, false)⟩,
  ⟨some 32, (.un .not (.tmp 31)), true, some (29, false)⟩,
  ⟨some 33, (.pick (.tmp 29) (.const (.bool true)) (.tmp 32)), true, none⟩]
def c6_6 : ACode := (.seq (.region o6_5 [1, 3, 5, 33]) (.cond (.tmp 33) c6_4 .skip))
def w6_6 (P : Program) (Q : Exit → Slots → Mem → Prop) (M : Mem) (v1 : V) (v3 : V) (v5 : V) : Prop :=
  @OptVH (loadV 4 true v3 M) ⟨fun t21_1 =>
  @CallH P i_transitlaw36_small [t21_1] M ⟨fun t22_2 M2 => @OptBH (some t22_2) ⟨fun b22_2 =>
  @OptBH (unV .not (.bool b22_2)) ⟨fun b23_3 =>
  @BIfH b23_3
  ⟨wpC P c6_4 Q [(1, v1), (3, v3), (5, v5), (33, (.bool true))] M2⟩
  ⟨@OptVH (lenV v1 M2) ⟨fun t26_9 =>
  @OptBH (binV .geq .none t26_9 (.int .i64 8)) ⟨fun b27_10 =>
  @BIfH b27_10
  ⟨wpC P c6_4 Q [(1, v1), (3, v3), (5, v5), (33, (.bool true))] M2⟩
  ⟨@OptVH (loadV 4 true v3 M2) ⟨fun t30_14 =>
  @CallH P i_transitref35_Valid [t30_14] M2 ⟨fun t31_15 M15 => @OptBH (some t31_15) ⟨fun b31_15 =>
  @OptBH (unV .not (.bool b31_15)) ⟨fun b32_16 =>
  @BIfH b32_16
  ⟨wpC P c6_4 Q [(1, v1), (3, v3), (5, v5), (33, (.bool b32_16))] M15⟩
  ⟨Q .normal [(1, v1), (3, v3), (5, v5), (33, (.bool b32_16))] M15⟩⟩⟩⟩⟩⟩⟩⟩⟩⟩⟩⟩⟩
theorem e6_6 (P : Program) (Q : Exit → Slots → Mem → Prop) (s : Slots) (M : Mem) : wpC P c6_6 Q s M = w6_6 P Q M (sget s 1) (sget s 3) (sget s 5) := by kernel_rfl
def o6_7 : List AOper := [⟨some 36, (.load 4 true (.tmp 3)), false, none⟩,
  ⟨some 37, (.mov (.tmp 1)), false, none⟩,
  ⟨some 38, (.call i_transitlaw36_made [(.tmp 36), (.tmp 37)]), false, none⟩,
  ⟨some 35, (.mov (.tmp 38)), false, none⟩,
  ⟨some 39, (.extract (.tmp 35) 0), false, none⟩,
  ⟨some 40, (.extract (.tmp 35) 1), true, none⟩,
  ⟨some 7, (.mov (.tmp 39)), false, none⟩,
  ⟨some 8, (.mov (.tmp 40)), true, none⟩]
def c6_8 : ACode := (.region o6_7 [1, 5, 7, 8])
def w6_8 (P : Program) (Q : Exit → Slots → Mem → Prop) (M : Mem) (v1 : V) (v3 : V) (v5 : V) : Prop :=
  @OptVH (loadV 4 true v3 M) ⟨fun t36_1 =>
  @CallH P i_transitlaw36_made [t36_1, v1] M ⟨fun t38_3 M3 =>
  @OptVH (extractV t38_3 0) ⟨fun t39_5 =>
  @OptBH (extractV t38_3 1) ⟨fun b40_6 =>
  Q .normal [(1, v1), (5, v5), (7, t39_5), (8, (.bool b40_6))] M3⟩⟩⟩⟩
theorem e6_8 (P : Program) (Q : Exit → Slots → Mem → Prop) (s : Slots) (M : Mem) : wpC P c6_8 Q s M = w6_8 P Q M (sget s 1) (sget s 3) (sget s 5) := by kernel_rfl
def o6_9 : List AOper := [⟨some 6, (.mov (.const (.bool false))), true, none⟩]
def c6_10 : ACode := (.region o6_9 [6])
def w6_10 (_P : Program) (Q : Exit → Slots → Mem → Prop) (M : Mem) : Prop :=
  Q .normal [(6, (.bool false))] M
theorem e6_10 (P : Program) (Q : Exit → Slots → Mem → Prop) (s : Slots) (M : Mem) : wpC P c6_10 Q s M = w6_10 P Q M := by kernel_rfl
def c6_11 : ACode := (.seq c6_10 .ret)
def o6_12 : List AOper := [⟨some 41, (.mov (.tmp 8)), true, none⟩,
  ⟨some 42, (.un .not (.tmp 41)), true, none⟩]
def c6_13 : ACode := (.seq (.region o6_12 [1, 5, 7, 42]) (.cond (.tmp 42) c6_11 .skip))
def w6_13 (P : Program) (Q : Exit → Slots → Mem → Prop) (M : Mem) (v1 : V) (v5 : V) (v7 : V) (v8 : V) : Prop :=
  @OptBH (some v8) ⟨fun b41_1 =>
  @OptBH (unV .not (.bool b41_1)) ⟨fun b42_2 =>
  @BIfH b42_2
  ⟨wpC P c6_11 Q [(1, v1), (5, v5), (7, v7), (42, (.bool b42_2))] M⟩
  ⟨Q .normal [(1, v1), (5, v5), (7, v7), (42, (.bool b42_2))] M⟩⟩⟩
theorem e6_13 (P : Program) (Q : Exit → Slots → Mem → Prop) (s : Slots) (M : Mem) : wpC P c6_13 Q s M = w6_13 P Q M (sget s 1) (sget s 5) (sget s 7) (sget s 8) := by kernel_rfl
def o6_14 : List AOper := [⟨some 44, (.mov (.tmp 7)), false, none⟩,
  ⟨some 45, (.call i_farestate_State_Price [(.tmp 44)]), false, none⟩,
  ⟨some 43, (.mov (.tmp 45)), false, none⟩,
  ⟨some 46, (.extract (.tmp 43) 0), false, none⟩,
  ⟨some 47, (.extract (.tmp 43) 1), true, none⟩,
  ⟨some 9, (.mov (.tmp 46)), false, none⟩,
  ⟨some 10, (.mov (.tmp 47)), true, none⟩]
def c6_15 : ACode := (.region o6_14 [1, 5, 7, 9, 10])
def w6_15 (P : Program) (Q : Exit → Slots → Mem → Prop) (M : Mem) (v1 : V) (v5 : V) (v7 : V) : Prop :=
  @CallH P i_farestate_State_Price [v7] M ⟨fun t45_2 M2 =>
  @OptVH (extractV t45_2 0) ⟨fun t46_4 =>
  @OptBH (extractV t45_2 1) ⟨fun b47_5 =>
  Q .normal [(1, v1), (5, v5), (7, v7), (9, t46_4), (10, (.bool b47_5))] M2⟩⟩⟩
theorem e6_15 (P : Program) (Q : Exit → Slots → Mem → Prop) (s : Slots) (M : Mem) : wpC P c6_15 Q s M = w6_15 P Q M (sget s 1) (sget s 5) (sget s 7) := by kernel_rfl
def o6_16 : List AOper := [⟨some 49, (.mov (.tmp 7)), false, none⟩,
  ⟨some 50, (.fieldAddr 0 (.tmp 5)), false, none⟩,
  ⟨some 51, (.load 4 true (.tmp 50)), false, none⟩,
  ⟨some 52, (.call i_farestate_State_Ride [(.tmp 49), (.tmp 51)]), false, none⟩,
  ⟨some 48, (.mov (.tmp 52)), false, none⟩,
  ⟨some 53, (.extract (.tmp 48) 0), false, none⟩,
  ⟨some 54, (.extract (.tmp 48) 1), false, none⟩,
  ⟨some 11, (.mov (.tmp 53)), false, none⟩,
  ⟨some 12, (.mov (.tmp 54)), false, none⟩]
def c6_17 : ACode := (.region o6_16 [1, 5, 7, 9, 10, 11, 12])
def w6_17 (P : Program) (Q : Exit → Slots → Mem → Prop) (M : Mem) (v1 : V) (v5 : V) (v7 : V) (v9 : V) (v10 : V) : Prop :=
  @OptVH (moveV 0 v5) ⟨fun t50_2 =>
  @OptVH (loadV 4 true t50_2 M) ⟨fun t51_3 =>
  @CallH P i_farestate_State_Ride [v7, t51_3] M ⟨fun t52_4 M4 =>
  @OptVH (extractV t52_4 0) ⟨fun t53_6 =>
  @OptVH (extractV t52_4 1) ⟨fun t54_7 =>
  Q .normal [(1, v1), (5, v5), (7, v7), (9, v9), (10, v10), (11, t53_6), (12, t54_7)] M4⟩⟩⟩⟩⟩
theorem e6_17 (P : Program) (Q : Exit → Slots → Mem → Prop) (s : Slots) (M : Mem) : wpC P c6_17 Q s M = w6_17 P Q M (sget s 1) (sget s 5) (sget s 7) (sget s 9) (sget s 10) := by kernel_rfl
def o6_18 : List AOper := [⟨some 6, (.mov (.const (.bool false))), true, none⟩]
def c6_19 : ACode := (.region o6_18 [6])
def w6_19 (_P : Program) (Q : Exit → Slots → Mem → Prop) (M : Mem) : Prop :=
  Q .normal [(6, (.bool false))] M
theorem e6_19 (P : Program) (Q : Exit → Slots → Mem → Prop) (s : Slots) (M : Mem) : wpC P c6_19 Q s M = w6_19 P Q M := by kernel_rfl
def c6_20 : ACode := (.seq c6_19 .ret)
def o6_21 : List AOper := [⟨some 55, (.mov (.tmp 11)), false, none⟩,
  ⟨some 56, (.bin .eql .ptr (.tmp 55) (.const .nilp)), true, none⟩,
  ⟨some 57, (.mov (.tmp 56)), true, none⟩,
  ⟨some 58, (.mov (.tmp 12)), false, some (57, false)⟩,
  ⟨some 59, (.bin .neq .none (.tmp 58) (.const (.int .i64 0))), true, some (57, false)⟩,
  ⟨some 60, (.pick (.tmp 57) (.const (.bool true)) (.tmp 59)), true, none⟩]
def c6_22 : ACode := (.seq (.region o6_21 [1, 5, 7, 9, 10, 11, 60]) (.cond (.tmp 60) c6_20 .skip))
def w6_22 (P : Program) (Q : Exit → Slots → Mem → Prop) (M : Mem) (v1 : V) (v5 : V) (v7 : V) (v9 : V) (v10 : V) (v11 : V) (v12 : V) : Prop :=
  @OptBH (binV .eql .ptr v11 .nilp) ⟨fun b56_2 =>
  @BIfH b56_2
  ⟨wpC P c6_20 Q [(1, v1), (5, v5), (7, v7), (9, v9), (10, v10), (11, v11), (60, (.bool true))] M⟩
  ⟨@OptBH (binV .neq .none v12 (.int .i64 0)) ⟨fun b59_6 =>
  @BIfH b59_6
  ⟨wpC P c6_20 Q [(1, v1), (5, v5), (7, v7), (9, v9), (10, v10), (11, v11), (60, (.bool b59_6))] M⟩
  ⟨Q .normal [(1, v1), (5, v5), (7, v7), (9, v9), (10, v10), (11, v11), (60, (.bool b59_6))] M⟩⟩⟩⟩
theorem e6_22 (P : Program) (Q : Exit → Slots → Mem → Prop) (s : Slots) (M : Mem) : wpC P c6_22 Q s M = w6_22 P Q M (sget s 1) (sget s 5) (sget s 7) (sget s 9) (sget s 10) (sget s 11) (sget s 12) := by kernel_rfl
def o6_23 : List AOper := [⟨some 62, (.mov (.tmp 11)), false, none⟩,
  ⟨some 63, (.call i_farestate_State_Price [(.tmp 62)]), false, none⟩,
  ⟨some 61, (.mov (.tmp 63)), false, none⟩,
  ⟨some 64, (.extract (.tmp 61) 0), false, none⟩,
  ⟨some 65, (.extract (.tmp 61) 1), true, none⟩,
  ⟨some 13, (.mov (.tmp 64)), false, none⟩,
  ⟨some 14, (.mov (.tmp 65)), true, none⟩]
def c6_24 : ACode := (.region o6_23 [1, 5, 7, 9, 10, 11, 13, 14])
def w6_24 (P : Program) (Q : Exit → Slots → Mem → Prop) (M : Mem) (v1 : V) (v5 : V) (v7 : V) (v9 : V) (v10 : V) (v11 : V) : Prop :=
  @CallH P i_farestate_State_Price [v11] M ⟨fun t63_2 M2 =>
  @OptVH (extractV t63_2 0) ⟨fun t64_4 =>
  @OptBH (extractV t63_2 1) ⟨fun b65_5 =>
  Q .normal [(1, v1), (5, v5), (7, v7), (9, v9), (10, v10), (11, v11), (13, t64_4), (14, (.bool b65_5))] M2⟩⟩⟩
theorem e6_24 (P : Program) (Q : Exit → Slots → Mem → Prop) (s : Slots) (M : Mem) : wpC P c6_24 Q s M = w6_24 P Q M (sget s 1) (sget s 5) (sget s 7) (sget s 9) (sget s 10) (sget s 11) := by kernel_rfl
def o6_25 : List AOper := [⟨some 67, (.mov (.tmp 7)), false, none⟩,
  ⟨some 68, (.fieldAddr 4 (.tmp 5)), false, none⟩,
  ⟨some 69, (.load 4 true (.tmp 68)), false, none⟩,
  ⟨some 70, (.call i_farestate_State_Ride [(.tmp 67), (.tmp 69)]), false, none⟩,
  ⟨some 66, (.mov (.tmp 70)), false, none⟩,
  ⟨some 71, (.extract (.tmp 66) 0), false, none⟩,
  ⟨some 72, (.extract (.tmp 66) 1), false, none⟩,
  ⟨some 15, (.mov (.tmp 71)), false, none⟩,
  ⟨some 12, (.mov (.tmp 72)), false, none⟩]
def c6_26 : ACode := (.region o6_25 [1, 5, 7, 9, 10, 11, 12, 13, 14, 15])
def w6_26 (P : Program) (Q : Exit → Slots → Mem → Prop) (M : Mem) (v1 : V) (v5 : V) (v7 : V) (v9 : V) (v10 : V) (v11 : V) (v13 : V) (v14 : V) : Prop :=
  @OptVH (moveV 4 v5) ⟨fun t68_2 =>
  @OptVH (loadV 4 true t68_2 M) ⟨fun t69_3 =>
  @CallH P i_farestate_State_Ride [v7, t69_3] M ⟨fun t70_4 M4 =>
  @OptVH (extractV t70_4 0) ⟨fun t71_6 =>
  @OptVH (extractV t70_4 1) ⟨fun t72_7 =>
  Q .normal [(1, v1), (5, v5), (7, v7), (9, v9), (10, v10), (11, v11), (12, t72_7), (13, v13), (14, v14), (15, t71_6)] M4⟩⟩⟩⟩⟩
theorem e6_26 (P : Program) (Q : Exit → Slots → Mem → Prop) (s : Slots) (M : Mem) : wpC P c6_26 Q s M = w6_26 P Q M (sget s 1) (sget s 5) (sget s 7) (sget s 9) (sget s 10) (sget s 11) (sget s 13) (sget s 14) := by kernel_rfl
def o6_27 : List AOper := [⟨some 6, (.mov (.const (.bool false))), true, none⟩]
def c6_28 : ACode := (.region o6_27 [6])
def w6_28 (_P : Program) (Q : Exit → Slots → Mem → Prop) (M : Mem) : Prop :=
  Q .normal [(6, (.bool false))] M
theorem e6_28 (P : Program) (Q : Exit → Slots → Mem → Prop) (s : Slots) (M : Mem) : wpC P c6_28 Q s M = w6_28 P Q M := by kernel_rfl
def c6_29 : ACode := (.seq c6_28 .ret)
def o6_30 : List AOper := [⟨some 73, (.mov (.tmp 15)), false, none⟩,
  ⟨some 74, (.bin .eql .ptr (.tmp 73) (.const .nilp)), true, none⟩,
  ⟨some 75, (.mov (.tmp 74)), true, none⟩,
  ⟨some 76, (.mov (.tmp 12)), false, some (75, false)⟩,
  ⟨some 77, (.bin .neq .none (.tmp 76) (.const (.int .i64 0))), true, some (75, false)⟩,
  ⟨some 78, (.pick (.tmp 75) (.const (.bool true)) (.tmp 77)), true, none⟩]
def c6_31 : ACode := (.seq (.region o6_30 [1, 5, 7, 9, 10, 11, 13, 14, 78]) (.cond (.tmp 78) c6_29 .skip))
def w6_31 (P : Program) (Q : Exit → Slots → Mem → Prop) (M : Mem) (v1 : V) (v5 : V) (v7 : V) (v9 : V) (v10 : V) (v11 : V) (v12 : V) (v13 : V) (v14 : V) (v15 : V) : Prop :=
  @OptBH (binV .eql .ptr v15 .nilp) ⟨fun b74_2 =>
  @BIfH b74_2
  ⟨wpC P c6_29 Q [(1, v1), (5, v5), (7, v7), (9, v9), (10, v10), (11, v11), (13, v13), (14, v14), (78, (.bool true))] M⟩
  ⟨@OptBH (binV .neq .none v12 (.int .i64 0)) ⟨fun b77_6 =>
  @BIfH b77_6
  ⟨wpC P c6_29 Q [(1, v1), (5, v5), (7, v7), (9, v9), (10, v10), (11, v11), (13, v13), (14, v14), (78, (.bool b77_6))] M⟩
  ⟨Q .normal [(1, v1), (5, v5), (7, v7), (9, v9), (10, v10), (11, v11), (13, v13), (14, v14), (78, (.bool b77_6))] M⟩⟩⟩⟩
theorem e6_31 (P : Program) (Q : Exit → Slots → Mem → Prop) (s : Slots) (M : Mem) : wpC P c6_31 Q s M = w6_31 P Q M (sget s 1) (sget s 5) (sget s 7) (sget s 9) (sget s 10) (sget s 11) (sget s 12) (sget s 13) (sget s 14) (sget s 15) := by kernel_rfl
def o6_32 : List AOper := [⟨some 80, (.mov (.tmp 11)), false, none⟩,
  ⟨some 81, (.call i_farestate_State_Price [(.tmp 80)]), false, none⟩,
  ⟨some 79, (.mov (.tmp 81)), false, none⟩,
  ⟨some 82, (.extract (.tmp 79) 0), false, none⟩,
  ⟨some 83, (.extract (.tmp 79) 1), true, none⟩,
  ⟨some 16, (.mov (.tmp 82)), false, none⟩,
  ⟨some 17, (.mov (.tmp 83)), true, none⟩]
def c6_33 : ACode := (.region o6_32 [1, 5, 7, 9, 10, 11, 13, 14, 16, 17])
def w6_33 (P : Program) (Q : Exit → Slots → Mem → Prop) (M : Mem) (v1 : V) (v5 : V) (v7 : V) (v9 : V) (v10 : V) (v11 : V) (v13 : V) (v14 : V) : Prop :=
  @CallH P i_farestate_State_Price [v11] M ⟨fun t81_2 M2 =>
  @OptVH (extractV t81_2 0) ⟨fun t82_4 =>
  @OptBH (extractV t81_2 1) ⟨fun b83_5 =>
  Q .normal [(1, v1), (5, v5), (7, v7), (9, v9), (10, v10), (11, v11), (13, v13), (14, v14), (16, t82_4), (17, (.bool b83_5))] M2⟩⟩⟩
theorem e6_33 (P : Program) (Q : Exit → Slots → Mem → Prop) (s : Slots) (M : Mem) : wpC P c6_33 Q s M = w6_33 P Q M (sget s 1) (sget s 5) (sget s 7) (sget s 9) (sget s 10) (sget s 11) (sget s 13) (sget s 14) := by kernel_rfl
def o6_34 : List AOper := [⟨some 85, (.mov (.tmp 7)), false, none⟩,
  ⟨some 86, (.call i_farestate_State_Price [(.tmp 85)]), false, none⟩,
  ⟨some 84, (.mov (.tmp 86)), false, none⟩,
  ⟨some 87, (.extract (.tmp 84) 0), false, none⟩,
  ⟨some 88, (.extract (.tmp 84) 1), true, none⟩,
  ⟨some 18, (.mov (.tmp 87)), false, none⟩,
  ⟨some 19, (.mov (.tmp 88)), true, none⟩]
def c6_35 : ACode := (.region o6_34 [1, 5, 7, 9, 10, 11, 13, 14, 16, 17, 18, 19])
def w6_35 (P : Program) (Q : Exit → Slots → Mem → Prop) (M : Mem) (v1 : V) (v5 : V) (v7 : V) (v9 : V) (v10 : V) (v11 : V) (v13 : V) (v14 : V) (v16 : V) (v17 : V) : Prop :=
  @CallH P i_farestate_State_Price [v7] M ⟨fun t86_2 M2 =>
  @OptVH (extractV t86_2 0) ⟨fun t87_4 =>
  @OptBH (extractV t86_2 1) ⟨fun b88_5 =>
  Q .normal [(1, v1), (5, v5), (7, v7), (9, v9), (10, v10), (11, v11), (13, v13), (14, v14), (16, v16), (17, v17), (18, t87_4), (19, (.bool b88_5))] M2⟩⟩⟩
theorem e6_35 (P : Program) (Q : Exit → Slots → Mem → Prop) (s : Slots) (M : Mem) : wpC P c6_35 Q s M = w6_35 P Q M (sget s 1) (sget s 5) (sget s 7) (sget s 9) (sget s 10) (sget s 11) (sget s 13) (sget s 14) (sget s 16) (sget s 17) := by kernel_rfl
def o6_36 : List AOper := [⟨some 90, (.mov (.tmp 7)), false, none⟩,
  ⟨some 91, (.fieldAddr 0 (.tmp 5)), false, none⟩,
  ⟨some 92, (.load 4 true (.tmp 91)), false, none⟩,
  ⟨some 93, (.call i_farestate_State_Ride [(.tmp 90), (.tmp 92)]), false, none⟩,
  ⟨some 89, (.mov (.tmp 93)), false, none⟩,
  ⟨some 94, (.extract (.tmp 89) 0), false, none⟩,
  ⟨some 95, (.extract (.tmp 89) 1), false, none⟩,
  ⟨some 20, (.mov (.tmp 94)), false, none⟩,
  ⟨some 12, (.mov (.tmp 95)), false, none⟩]
def c6_37 : ACode := (.region o6_36 [1, 7, 9, 10, 11, 12, 13, 14, 16, 17, 18, 19, 20])
def w6_37 (P : Program) (Q : Exit → Slots → Mem → Prop) (M : Mem) (v1 : V) (v5 : V) (v7 : V) (v9 : V) (v10 : V) (v11 : V) (v13 : V) (v14 : V) (v16 : V) (v17 : V) (v18 : V) (v19 : V) : Prop :=
  @OptVH (moveV 0 v5) ⟨fun t91_2 =>
  @OptVH (loadV 4 true t91_2 M) ⟨fun t92_3 =>
  @CallH P i_farestate_State_Ride [v7, t92_3] M ⟨fun t93_4 M4 =>
  @OptVH (extractV t93_4 0) ⟨fun t94_6 =>
  @OptVH (extractV t93_4 1) ⟨fun t95_7 =>
  Q .normal [(1, v1), (7, v7), (9, v9), (10, v10), (11, v11), (12, t95_7), (13, v13), (14, v14), (16, v16), (17, v17), (18, v18), (19, v19), (20, t94_6)] M4⟩⟩⟩⟩⟩
theorem e6_37 (P : Program) (Q : Exit → Slots → Mem → Prop) (s : Slots) (M : Mem) : wpC P c6_37 Q s M = w6_37 P Q M (sget s 1) (sget s 5) (sget s 7) (sget s 9) (sget s 10) (sget s 11) (sget s 13) (sget s 14) (sget s 16) (sget s 17) (sget s 18) (sget s 19) := by kernel_rfl
def o6_38 : List AOper := [⟨some 6, (.mov (.const (.bool false))), true, none⟩]
def c6_39 : ACode := (.region o6_38 [6])
def w6_39 (_P : Program) (Q : Exit → Slots → Mem → Prop) (M : Mem) : Prop :=
  Q .normal [(6, (.bool false))] M
theorem e6_39 (P : Program) (Q : Exit → Slots → Mem → Prop) (s : Slots) (M : Mem) : wpC P c6_39 Q s M = w6_39 P Q M := by kernel_rfl
def c6_40 : ACode := (.seq c6_39 .ret)
def o6_41 : List AOper := [⟨some 96, (.mov (.tmp 20)), false, none⟩,
  ⟨some 97, (.bin .eql .ptr (.tmp 96) (.const .nilp)), true, none⟩,
  ⟨some 98, (.mov (.tmp 97)), true, none⟩,
  ⟨some 99, (.mov (.tmp 12)), false, some (98, false)⟩,
  ⟨some 100, (.bin .neq .none (.tmp 99) (.const (.int .i64 0))), true, some (98, false)⟩,
  ⟨some 101, (.pick (.tmp 98) (.const (.bool true)) (.tmp 100)), true, none⟩]
def c6_42 : ACode := (.seq (.region o6_41 [1, 7, 9, 10, 11, 13, 14, 16, 17, 18, 19, 20, 101]) (.cond (.tmp 101) c6_40 .skip))
def w6_42 (P : Program) (Q : Exit → Slots → Mem → Prop) (M : Mem) (v1 : V) (v7 : V) (v9 : V) (v10 : V) (v11 : V) (v12 : V) (v13 : V) (v14 : V) (v16 : V) (v17 : V) (v18 : V) (v19 : V) (v20 : V) : Prop :=
  @OptBH (binV .eql .ptr v20 .nilp) ⟨fun b97_2 =>
  @BIfH b97_2
  ⟨wpC P c6_40 Q [(1, v1), (7, v7), (9, v9), (10, v10), (11, v11), (13, v13), (14, v14), (16, v16), (17, v17), (18, v18), (19, v19), (20, v20), (101, (.bool true))] M⟩
  ⟨@OptBH (binV .neq .none v12 (.int .i64 0)) ⟨fun b100_6 =>
  @BIfH b100_6
  ⟨wpC P c6_40 Q [(1, v1), (7, v7), (9, v9), (10, v10), (11, v11), (13, v13), (14, v14), (16, v16), (17, v17), (18, v18), (19, v19), (20, v20), (101, (.bool b100_6))] M⟩
  ⟨Q .normal [(1, v1), (7, v7), (9, v9), (10, v10), (11, v11), (13, v13), (14, v14), (16, v16), (17, v17), (18, v18), (19, v19), (20, v20), (101, (.bool b100_6))] M⟩⟩⟩⟩
theorem e6_42 (P : Program) (Q : Exit → Slots → Mem → Prop) (s : Slots) (M : Mem) : wpC P c6_42 Q s M = w6_42 P Q M (sget s 1) (sget s 7) (sget s 9) (sget s 10) (sget s 11) (sget s 12) (sget s 13) (sget s 14) (sget s 16) (sget s 17) (sget s 18) (sget s 19) (sget s 20) := by kernel_rfl
def o6_43 : List AOper := [⟨some 102, (.mov (.tmp 9)), false, none⟩,
  ⟨some 103, (.mov (.tmp 18)), false, none⟩,
  ⟨some 104, (.bin .eql .none (.tmp 102) (.tmp 103)), true, none⟩,
  ⟨some 105, (.mov (.tmp 104)), true, none⟩,
  ⟨some 106, (.mov (.tmp 10)), true, some (105, true)⟩,
  ⟨some 107, (.mov (.tmp 19)), true, some (105, true)⟩,
  ⟨some 108, (.bin .eql .bool (.tmp 106) (.tmp 107)), true, some (105, true)⟩,
  ⟨some 109, (.pick (.tmp 105) (.tmp 108) (.const (.bool false))), true, none⟩,
  ⟨some 110, (.mov (.tmp 109)), true, none⟩,
  ⟨some 111, (.mov (.tmp 13)), false, some (110, true)⟩,
  ⟨some 112, (.mov (.tmp 16)), false, some (110, true)⟩,
  ⟨some 113, (.bin .eql .none (.tmp 111) (.tmp 112)), true, some (110, true)⟩,
  ⟨some 114, (.pick (.tmp 110) (.tmp 113) (.const (.bool false))), true, none⟩,
  ⟨some 115, (.mov (.tmp 114)), true, none⟩,
  ⟨some 116, (.mov (.tmp 14)), true, some (115, true)⟩,
  ⟨some 117, (.mov (.tmp 17)), true, some (115, true)⟩,
  ⟨some 118, (.bin .eql .bool (.tmp 116) (.tmp 117)), true, some (115, true)⟩,
  ⟨some 119, (.pick (.tmp 115) (.tmp 118) (.const (.bool false))), true, none⟩,
  ⟨some 120, (.mov (.tmp 119)), true, none⟩,
  ⟨some 121, (.mov (.tmp 7)), false, some (120, true)⟩,
  ⟨some 122, (.call i_farestate_State_Rides [(.tmp 121)]), false, some (120, true)⟩,
  ⟨some 123, (.mov (.tmp 1)), false, some (120, true)⟩,
  ⟨some 124, (.lenSl (.tmp 123)), false, some (120, true)⟩,
  ⟨some 125, (.bin .eql .none (.tmp 122) (.tmp 124)), true, some (120, true)⟩,
  ⟨some 126, (.pick (.tmp 120) (.tmp 125) (.const (.bool false))), true, none⟩,
  ⟨some 127, (.mov (.tmp 126)), true, none⟩,
  ⟨some 128, (.mov (.tmp 11)), false, some (127, true)⟩,
  ⟨some 129, (.mov (.tmp 20)), false, some (127, true)⟩,
  ⟨some 130, (.call i_farestate_State_Dominates [(.tmp 128), (.tmp 129)]), true, some (127, true)⟩,
  ⟨some 131, (.pick (.tmp 127) (.tmp 130) (.const (.bool false))), true, none⟩,
  ⟨some 132, (.mov (.tmp 131)), true, none⟩,
  ⟨some 133, (.mov (.tmp 20)), false, some (132, true)⟩,
  ⟨some 134, (.mov (.tmp 11)), false, some (132, true)⟩,
  ⟨some 135, (.call i_farestate_State_Dominates [(.tmp 133), (.tmp 134)]), true, some (132, true)⟩,
  ⟨some 136, (.pick (.tmp 132) (.tmp 135) (.const (.bool false))), true, none⟩,
  ⟨some 137, (.mov (.tmp 136)), true, none⟩,
  ⟨some 138, (.call i_transitlaw36_exampleHolds []), true, some (137, true)⟩,
  ⟨some 139, (.pick (.tmp 137) (.tmp 138) (.const (.bool false))), true, none⟩,
  ⟨some 6, (.mov (.tmp 139)), true, none⟩]
def c6_44 : ACode := (.region o6_43 [6])
def w6_44 (P : Program) (Q : Exit → Slots → Mem → Prop) (M : Mem) (v1 : V) (v7 : V) (v9 : V) (v10 : V) (v11 : V) (v13 : V) (v14 : V) (v16 : V) (v17 : V) (v18 : V) (v19 : V) (v20 : V) : Prop :=
  @OptBH (binV .eql .none v9 v18) ⟨fun b104_3 =>
  @BIfH b104_3
  ⟨@OptBH (some v10) ⟨fun b106_5 =>
  @OptBH (some v19) ⟨fun b107_6 =>
  @OptBH (binV .eql .bool (.bool b106_5) (.bool b107_6)) ⟨fun b108_7 =>
  @BIfH b108_7
  ⟨@OptBH (binV .eql .none v13 v16) ⟨fun b113_12 =>
  @BIfH b113_12
  ⟨@OptBH (some v14) ⟨fun b116_15 =>
  @OptBH (some v17) ⟨fun b117_16 =>
  @OptBH (binV .eql .bool (.bool b116_15) (.bool b117_16)) ⟨fun b118_17 =>
  @BIfH b118_17
  ⟨@CallH P i_farestate_State_Rides [v7] M ⟨fun t122_21 M21 =>
  @OptVH (lenV v1 M21) ⟨fun t124_23 =>
  @OptBH (binV .eql .none t122_21 t124_23) ⟨fun b125_24 =>
  @BIfH b125_24
  ⟨@CallH P i_farestate_State_Dominates [v11, v20] M21 ⟨fun t130_29 M29 => @OptBH (some t130_29) ⟨fun b130_29 =>
  @BIfH b130_29
  ⟨@CallH P i_farestate_State_Dominates [v20, v11] M29 ⟨fun t135_34 M34 => @OptBH (some t135_34) ⟨fun b135_34 =>
  @BIfH b135_34
  ⟨@CallH P i_transitlaw36_exampleHolds [] M34 ⟨fun t138_37 M37 => @OptBH (some t138_37) ⟨fun b138_37 =>
  Q .normal [(6, (.bool b138_37))] M37⟩⟩⟩
  ⟨Q .normal [(6, (.bool false))] M34⟩⟩⟩⟩
  ⟨Q .normal [(6, (.bool false))] M29⟩⟩⟩⟩
  ⟨Q .normal [(6, (.bool false))] M21⟩⟩⟩⟩⟩
  ⟨Q .normal [(6, (.bool false))] M⟩⟩⟩⟩⟩
  ⟨Q .normal [(6, (.bool false))] M⟩⟩⟩
  ⟨Q .normal [(6, (.bool false))] M⟩⟩⟩⟩⟩
  ⟨Q .normal [(6, (.bool false))] M⟩⟩
theorem e6_44 (P : Program) (Q : Exit → Slots → Mem → Prop) (s : Slots) (M : Mem) : wpC P c6_44 Q s M = w6_44 P Q M (sget s 1) (sget s 7) (sget s 9) (sget s 10) (sget s 11) (sget s 13) (sget s 14) (sget s 16) (sget s 17) (sget s 18) (sget s 19) (sget s 20) := by kernel_rfl
def c6_45 : ACode := (.seq c6_44 .ret)
def c6_46 : ACode := (.seq c6_42 c6_45)
def c6_47 : ACode := (.seq c6_37 c6_46)
def c6_48 : ACode := (.seq c6_35 c6_47)
def c6_49 : ACode := (.seq c6_33 c6_48)
def c6_50 : ACode := (.seq c6_31 c6_49)
def c6_51 : ACode := (.seq c6_26 c6_50)
def c6_52 : ACode := (.seq c6_24 c6_51)
def c6_53 : ACode := (.seq c6_22 c6_52)
def c6_54 : ACode := (.seq c6_17 c6_53)
def c6_55 : ACode := (.seq c6_15 c6_54)
def c6_56 : ACode := (.seq c6_13 c6_55)
def c6_57 : ACode := (.seq c6_8 c6_56)
def c6_58 : ACode := (.seq c6_6 c6_57)
def c6_59 : ACode := (.seq c6_1 c6_58)
def fn_transitlaw36_FarestateBranches : AFn := ⟨140, [(.tmp 6)], c6_59⟩
theorem fn_transitlaw36_FarestateBranches_ok : resFn PR h_transitlaw36_FarestateBranches i_transitlaw36_FarestateBranches = some fn_transitlaw36_FarestateBranches := by kernel_rfl

def h_transitlaw36_FarestateDominates : Hints := ⟨[(0, [2, 3]), (1, [2, 3, 34]), (2, [4]), (3, [2, 3, 5, 6]), (4, [2, 3, 5, 6, 7, 8]), (5, [2, 3, 5, 7, 55]), (6, [4]), (7, [2, 3, 59]), (8, [4]), (9, [4])], [], []⟩
def o7_0 : List AOper := [⟨some 2, (.box 4 (.tmp 0)), false, none⟩,
  ⟨some 3, (.box 3 (.tmp 1)), false, none⟩,
  ⟨some 4, (.mov (.const (.bool false))), true, none⟩]
def c7_1 : ACode := (.region o7_0 [2, 3])
def w7_1 (_P : Program) (Q : Exit → Slots → Mem → Prop) (M : Mem) (v0 : V) (v1 : V) : Prop :=
  @OptMH (boxV 4 v0 M) ⟨fun t2_1 M1 =>
  @OptMH (boxV 3 v1 M1) ⟨fun t3_2 M2 =>
  Q .normal [(2, t2_1), (3, t3_2)] M2⟩⟩
theorem e7_1 (P : Program) (Q : Exit → Slots → Mem → Prop) (s : Slots) (M : Mem) : wpC P c7_1 Q s M = w7_1 P Q M (sget s 0) (sget s 1) := by kernel_rfl
def o7_2 : List AOper := [⟨some 35, (.call i_transitlaw36_exampleHolds []), true, none⟩,
  ⟨some 4, (.mov (.tmp 35)), true, none⟩]
def c7_3 : ACode := (.region o7_2 [4])
def w7_3 (P : Program) (Q : Exit → Slots → Mem → Prop) (M : Mem) : Prop :=
  @CallH P i_transitlaw36_exampleHolds [] M ⟨fun t35_1 M1 => @OptBH (some t35_1) ⟨fun b35_1 =>
  Q .normal [(4, (.bool b35_1))] M1⟩⟩
theorem e7_3 (P : Program) (Q : Exit → Slots → Mem → Prop) (s : Slots) (M : Mem) : wpC P c7_3 Q s M = w7_3 P Q M := by kernel_rfl
def c7_4 : ACode := (.seq c7_3 .ret)
def o7_5 : List AOper := [⟨some 9, (.load 4 true (.tmp 2)), false, none⟩,
  ⟨some 10, (.call i_transitlaw36_small [(.tmp 9)]), true, none⟩,
  ⟨some 11, (.un .not (.tmp 10)), true, none⟩,
  ⟨some 12, (.mov (.tmp 11)), true, none⟩,
  ⟨some 13, (.fieldAddr 0 (.tmp 3)), false, some (12, false)⟩,
  ⟨some 14, (.load 1 false (.tmp 13)), false, some (12, false)⟩,
  ⟨some 15, (.lenSl (.tmp 14)), false, some (12, false)⟩,
  ⟨some 16, (.bin .gtr .none (.tmp 15) (.const (.int .i64 8))), true, some (12, false)⟩,
  ⟨some 17, (.pick (.tmp 12) (.const (.bool true)) (.tmp 16)), true, none⟩,
  ⟨some 18, (.mov (.tmp 17)), true, none⟩,
  ⟨some 19, (.fieldAddr 1 (.tmp 3)), false, some (18, false)⟩,
  ⟨some 20, (.load 1 false (.tmp 19)), false, some (18, false)⟩,
  ⟨some 21, (.lenSl (.tmp 20)), false, some (18, false)⟩,
  ⟨some 22, (.bin .gtr .none (.tmp 21) (.const (.int .i64 8))), true, some (18, false)⟩,
  ⟨some 23, (.pick (.tmp 18) (.const (.bool true)) (.tmp 22)), true, none⟩,
  ⟨some 24, (.mov (.tmp 23)), true, none⟩,
  ⟨some 25, (.fieldAddr 2 (.tmp 3)), false, some (24, false)⟩,
  ⟨some 26, (.load 1 false (.tmp 25)), false, some (24, false)⟩,
  ⟨some 27, (.lenSl (.tmp 26)), false, some (24, false)⟩,
  ⟨some 28, (.bin .gtr .none (.tmp 27) (.const (.int .i64 8))), true, some (24, false)⟩,
  ⟨some 29, (.pick (.tmp 24) (.const (.bool true)) (.tmp 28)), true, none⟩,
  ⟨some 30, (.mov (.tmp 29)), true, none⟩,
  ⟨some 31, (.load 4 true (.tmp 2)), false, some (30, false)⟩,
  ⟨some 32, (.call i_transitref35_Valid [(.tmp 31)]), true, some (30, false)⟩,
  ⟨some 33, (.un .not (.tmp 32)), true, some (30, false)⟩,
  ⟨some 34, (.pick (.tmp 30) (.const (.bool true)) (.tmp 33)), true, none⟩]
def c7_6 : ACode := (.seq (.region o7_5 [2, 3, 34]) (.cond (.tmp 34) c7_4 .skip))
def w7_6 (P : Program) (Q : Exit → Slots → Mem → Prop) (M : Mem) (v2 : V) (v3 : V) : Prop :=
  @OptVH (loadV 4 true v2 M) ⟨fun t9_1 =>
  @CallH P i_transitlaw36_small [t9_1] M ⟨fun t10_2 M2 => @OptBH (some t10_2) ⟨fun b10_2 =>
  @OptBH (unV .not (.bool b10_2)) ⟨fun b11_3 =>
  @BIfH b11_3
  ⟨wpC P c7_4 Q [(2, v2), (3, v3), (34, (.bool true))] M2⟩
  ⟨@OptVH (moveV 0 v3) ⟨fun t13_12 =>
  @OptVH (loadV 1 false t13_12 M2) ⟨fun t14_13 =>
  @OptVH (lenV t14_13 M2) ⟨fun t15_14 =>
  @OptBH (binV .gtr .none t15_14 (.int .i64 8)) ⟨fun b16_15 =>
  @BIfH b16_15
  ⟨wpC P c7_4 Q [(2, v2), (3, v3), (34, (.bool true))] M2⟩
  ⟨@OptVH (moveV 1 v3) ⟨fun t19_23 =>
  @OptVH (loadV 1 false t19_23 M2) ⟨fun t20_24 =>
  @OptVH (lenV t20_24 M2) ⟨fun t21_25 =>
  @OptBH (binV .gtr .none t21_25 (.int .i64 8)) ⟨fun b22_26 =>
  @BIfH b22_26
  ⟨wpC P c7_4 Q [(2, v2), (3, v3), (34, (.bool true))] M2⟩
  ⟨@OptVH (moveV 2 v3) ⟨fun t25_32 =>
  @OptVH (loadV 1 false t25_32 M2) ⟨fun t26_33 =>
  @OptVH (lenV t26_33 M2) ⟨fun t27_34 =>
  @OptBH (binV .gtr .none t27_34 (.int .i64 8)) ⟨fun b28_35 =>
  @BIfH b28_35
  ⟨wpC P c7_4 Q [(2, v2), (3, v3), (34, (.bool true))] M2⟩
  ⟨@OptVH (loadV 4 true v2 M2) ⟨fun t31_39 =>
  @CallH P i_transitref35_Valid [t31_39] M2 ⟨fun t32_40 M40 => @OptBH (some t32_40) ⟨fun b32_40 =>
  @OptBH (unV .not (.bool b32_40)) ⟨fun b33_41 =>
  @BIfH b33_41
  ⟨wpC P c7_4 Q [(2, v2), (3, v3), (34, (.bool b33_41))] M40⟩
  ⟨Q .normal [(2, v2), (3, v3), (34, (.bool b33_41))] M40⟩⟩⟩⟩⟩⟩⟩⟩⟩⟩⟩⟩⟩⟩⟩⟩⟩⟩⟩⟩⟩⟩⟩⟩⟩
theorem e7_6 (P : Program) (Q : Exit → Slots → Mem → Prop) (s : Slots) (M : Mem) : wpC P c7_6 Q s M = w7_6 P Q M (sget s 2) (sget s 3) := by kernel_rfl
def o7_7 : List AOper := [⟨some 37, (.load 4 true (.tmp 2)), false, none⟩,
  ⟨some 38, (.fieldAddr 0 (.tmp 3)), false, none⟩,
  ⟨some 39, (.load 1 false (.tmp 38)), false, none⟩,
  ⟨some 40, (.call i_transitlaw36_made [(.tmp 37), (.tmp 39)]), false, none⟩,
  ⟨some 36, (.mov (.tmp 40)), false, none⟩,
  ⟨some 41, (.extract (.tmp 36) 0), false, none⟩,
  ⟨some 42, (.extract (.tmp 36) 1), true, none⟩,
  ⟨some 5, (.mov (.tmp 41)), false, none⟩,
  ⟨some 6, (.mov (.tmp 42)), true, none⟩]
def c7_8 : ACode := (.region o7_7 [2, 3, 5, 6])
def w7_8 (P : Program) (Q : Exit → Slots → Mem → Prop) (M : Mem) (v2 : V) (v3 : V) : Prop :=
  @OptVH (loadV 4 true v2 M) ⟨fun t37_1 =>
  @OptVH (moveV 0 v3) ⟨fun t38_2 =>
  @OptVH (loadV 1 false t38_2 M) ⟨fun t39_3 =>
  @CallH P i_transitlaw36_made [t37_1, t39_3] M ⟨fun t40_4 M4 =>
  @OptVH (extractV t40_4 0) ⟨fun t41_6 =>
  @OptBH (extractV t40_4 1) ⟨fun b42_7 =>
  Q .normal [(2, v2), (3, v3), (5, t41_6), (6, (.bool b42_7))] M4⟩⟩⟩⟩⟩⟩
theorem e7_8 (P : Program) (Q : Exit → Slots → Mem → Prop) (s : Slots) (M : Mem) : wpC P c7_8 Q s M = w7_8 P Q M (sget s 2) (sget s 3) := by kernel_rfl
def o7_9 : List AOper := [⟨some 44, (.load 4 true (.tmp 2)), false, none⟩,
  ⟨some 45, (.fieldAddr 1 (.tmp 3)), false, none⟩,
  ⟨some 46, (.load 1 false (.tmp 45)), false, none⟩,
  ⟨some 47, (.call i_transitlaw36_made [(.tmp 44), (.tmp 46)]), false, none⟩,
  ⟨some 43, (.mov (.tmp 47)), false, none⟩,
  ⟨some 48, (.extract (.tmp 43) 0), false, none⟩,
  ⟨some 49, (.extract (.tmp 43) 1), true, none⟩,
  ⟨some 7, (.mov (.tmp 48)), false, none⟩,
  ⟨some 8, (.mov (.tmp 49)), true, none⟩]
def c7_10 : ACode := (.region o7_9 [2, 3, 5, 6, 7, 8])
def w7_10 (P : Program) (Q : Exit → Slots → Mem → Prop) (M : Mem) (v2 : V) (v3 : V) (v5 : V) (v6 : V) : Prop :=
  @OptVH (loadV 4 true v2 M) ⟨fun t44_1 =>
  @OptVH (moveV 1 v3) ⟨fun t45_2 =>
  @OptVH (loadV 1 false t45_2 M) ⟨fun t46_3 =>
  @CallH P i_transitlaw36_made [t44_1, t46_3] M ⟨fun t47_4 M4 =>
  @OptVH (extractV t47_4 0) ⟨fun t48_6 =>
  @OptBH (extractV t47_4 1) ⟨fun b49_7 =>
  Q .normal [(2, v2), (3, v3), (5, v5), (6, v6), (7, t48_6), (8, (.bool b49_7))] M4⟩⟩⟩⟩⟩⟩
theorem e7_10 (P : Program) (Q : Exit → Slots → Mem → Prop) (s : Slots) (M : Mem) : wpC P c7_10 Q s M = w7_10 P Q M (sget s 2) (sget s 3) (sget s 5) (sget s 6) := by kernel_rfl
def o7_11 : List AOper := [⟨some 4, (.mov (.const (.bool false))), true, none⟩]
def c7_12 : ACode := (.region o7_11 [4])
def w7_12 (_P : Program) (Q : Exit → Slots → Mem → Prop) (M : Mem) : Prop :=
  Q .normal [(4, (.bool false))] M
theorem e7_12 (P : Program) (Q : Exit → Slots → Mem → Prop) (s : Slots) (M : Mem) : wpC P c7_12 Q s M = w7_12 P Q M := by kernel_rfl
def c7_13 : ACode := (.seq c7_12 .ret)
def o7_14 : List AOper := [⟨some 50, (.mov (.tmp 6)), true, none⟩,
  ⟨some 51, (.un .not (.tmp 50)), true, none⟩,
  ⟨some 52, (.mov (.tmp 51)), true, none⟩,
  ⟨some 53, (.mov (.tmp 8)), true, some (52, false)⟩,
  ⟨some 54, (.un .not (.tmp 53)), true, some (52, false)⟩,
  ⟨some 55, (.pick (.tmp 52) (.const (.bool true)) (.tmp 54)), true, none⟩]
def c7_15 : ACode := (.seq (.region o7_14 [2, 3, 5, 7, 55]) (.cond (.tmp 55) c7_13 .skip))
def w7_15 (P : Program) (Q : Exit → Slots → Mem → Prop) (M : Mem) (v2 : V) (v3 : V) (v5 : V) (v6 : V) (v7 : V) (v8 : V) : Prop :=
  @OptBH (some v6) ⟨fun b50_1 =>
  @OptBH (unV .not (.bool b50_1)) ⟨fun b51_2 =>
  @BIfH b51_2
  ⟨wpC P c7_13 Q [(2, v2), (3, v3), (5, v5), (7, v7), (55, (.bool true))] M⟩
  ⟨@OptBH (some v8) ⟨fun b53_5 =>
  @OptBH (unV .not (.bool b53_5)) ⟨fun b54_6 =>
  @BIfH b54_6
  ⟨wpC P c7_13 Q [(2, v2), (3, v3), (5, v5), (7, v7), (55, (.bool b54_6))] M⟩
  ⟨Q .normal [(2, v2), (3, v3), (5, v5), (7, v7), (55, (.bool b54_6))] M⟩⟩⟩⟩⟩⟩
theorem e7_15 (P : Program) (Q : Exit → Slots → Mem → Prop) (s : Slots) (M : Mem) : wpC P c7_15 Q s M = w7_15 P Q M (sget s 2) (sget s 3) (sget s 5) (sget s 6) (sget s 7) (sget s 8) := by kernel_rfl
def o7_16 : List AOper := [⟨some 60, (.call i_transitlaw36_exampleHolds []), true, none⟩,
  ⟨some 4, (.mov (.tmp 60)), true, none⟩]
def c7_17 : ACode := (.region o7_16 [4])
def w7_17 (P : Program) (Q : Exit → Slots → Mem → Prop) (M : Mem) : Prop :=
  @CallH P i_transitlaw36_exampleHolds [] M ⟨fun t60_1 M1 => @OptBH (some t60_1) ⟨fun b60_1 =>
  Q .normal [(4, (.bool b60_1))] M1⟩⟩
theorem e7_17 (P : Program) (Q : Exit → Slots → Mem → Prop) (s : Slots) (M : Mem) : wpC P c7_17 Q s M = w7_17 P Q M := by kernel_rfl
def c7_18 : ACode := (.seq c7_17 .ret)
def o7_19 : List AOper := [⟨some 56, (.mov (.tmp 5)), false, none⟩,
  ⟨some 57, (.mov (.tmp 7)), false, none⟩,
  ⟨some 58, (.call i_farestate_State_Dominates [(.tmp 56), (.tmp 57)]), true, none⟩,
  ⟨some 59, (.un .not (.tmp 58)), true, none⟩]
def c7_20 : ACode := (.seq (.region o7_19 [2, 3, 59]) (.cond (.tmp 59) c7_18 .skip))
def w7_20 (P : Program) (Q : Exit → Slots → Mem → Prop) (M : Mem) (v2 : V) (v3 : V) (v5 : V) (v7 : V) : Prop :=
  @CallH P i_farestate_State_Dominates [v5, v7] M ⟨fun t58_3 M3 => @OptBH (some t58_3) ⟨fun b58_3 =>
  @OptBH (unV .not (.bool b58_3)) ⟨fun b59_4 =>
  @BIfH b59_4
  ⟨wpC P c7_18 Q [(2, v2), (3, v3), (59, (.bool b59_4))] M3⟩
  ⟨Q .normal [(2, v2), (3, v3), (59, (.bool b59_4))] M3⟩⟩⟩⟩
theorem e7_20 (P : Program) (Q : Exit → Slots → Mem → Prop) (s : Slots) (M : Mem) : wpC P c7_20 Q s M = w7_20 P Q M (sget s 2) (sget s 3) (sget s 5) (sget s 7) := by kernel_rfl
def o7_21 : List AOper := [⟨some 61, (.load 4 true (.tmp 2)), false, none⟩,
  ⟨some 62, (.fieldAddr 0 (.tmp 3)), false, none⟩,
  ⟨some 63, (.load 1 false (.tmp 62)), false, none⟩,
  ⟨some 64, (.fieldAddr 1 (.tmp 3)), false, none⟩,
  ⟨some 65, (.load 1 false (.tmp 64)), false, none⟩,
  ⟨some 66, (.fieldAddr 2 (.tmp 3)), false, none⟩,
  ⟨some 67, (.load 1 false (.tmp 66)), false, none⟩,
  ⟨some 68, (.call i_transitref36_Holds [(.tmp 61), (.tmp 63), (.tmp 65), (.tmp 67)]), true, none⟩,
  ⟨some 69, (.mov (.tmp 68)), true, none⟩,
  ⟨some 70, (.load 4 true (.tmp 2)), false, some (69, true)⟩,
  ⟨some 71, (.fieldAddr 0 (.tmp 3)), false, some (69, true)⟩,
  ⟨some 72, (.load 1 false (.tmp 71)), false, some (69, true)⟩,
  ⟨some 73, (.fieldAddr 1 (.tmp 3)), false, some (69, true)⟩,
  ⟨some 74, (.load 1 false (.tmp 73)), false, some (69, true)⟩,
  ⟨some 75, (.call i_transitref36_Holds [(.tmp 70), (.tmp 72), (.tmp 74), (.const (.slice [] .nil))]), true, some (69, true)⟩,
  ⟨some 76, (.pick (.tmp 69) (.tmp 75) (.const (.bool false))), true, none⟩,
  ⟨some 77, (.mov (.tmp 76)), true, none⟩,
  ⟨some 78, (.call i_transitlaw36_exampleHolds []), true, some (77, true)⟩,
  ⟨some 79, (.pick (.tmp 77) (.tmp 78) (.const (.bool false))), true, none⟩,
  ⟨some 4, (.mov (.tmp 79)), true, none⟩]
def c7_22 : ACode := (.region o7_21 [4])
def w7_22 (P : Program) (Q : Exit → Slots → Mem → Prop) (M : Mem) (v2 : V) (v3 : V) : Prop :=
  @OptVH (loadV 4 true v2 M) ⟨fun t61_1 =>
  @OptVH (moveV 0 v3) ⟨fun t62_2 =>
  @OptVH (loadV 1 false t62_2 M) ⟨fun t63_3 =>
  @OptVH (moveV 1 v3) ⟨fun t64_4 =>
  @OptVH (loadV 1 false t64_4 M) ⟨fun t65_5 =>
  @OptVH (moveV 2 v3) ⟨fun t66_6 =>
  @OptVH (loadV 1 false t66_6 M) ⟨fun t67_7 =>
  @CallH P i_transitref36_Holds [t61_1, t63_3, t65_5, t67_7] M ⟨fun t68_8 M8 => @OptBH (some t68_8) ⟨fun b68_8 =>
  @BIfH b68_8
  ⟨@OptVH (loadV 4 true v2 M8) ⟨fun t70_10 =>
  @OptVH (moveV 0 v3) ⟨fun t71_11 =>
  @OptVH (loadV 1 false t71_11 M8) ⟨fun t72_12 =>
  @OptVH (moveV 1 v3) ⟨fun t73_13 =>
  @OptVH (loadV 1 false t73_13 M8) ⟨fun t74_14 =>
  @CallH P i_transitref36_Holds [t70_10, t72_12, t74_14, (.slice [] .nil)] M8 ⟨fun t75_15 M15 => @OptBH (some t75_15) ⟨fun b75_15 =>
  @BIfH b75_15
  ⟨@CallH P i_transitlaw36_exampleHolds [] M15 ⟨fun t78_18 M18 => @OptBH (some t78_18) ⟨fun b78_18 =>
  Q .normal [(4, (.bool b78_18))] M18⟩⟩⟩
  ⟨Q .normal [(4, (.bool false))] M15⟩⟩⟩⟩⟩⟩⟩⟩⟩
  ⟨Q .normal [(4, (.bool false))] M8⟩⟩⟩⟩⟩⟩⟩⟩⟩⟩
theorem e7_22 (P : Program) (Q : Exit → Slots → Mem → Prop) (s : Slots) (M : Mem) : wpC P c7_22 Q s M = w7_22 P Q M (sget s 2) (sget s 3) := by kernel_rfl
def c7_23 : ACode := (.seq c7_22 .ret)
def c7_24 : ACode := (.seq c7_20 c7_23)
def c7_25 : ACode := (.seq c7_15 c7_24)
def c7_26 : ACode := (.seq c7_10 c7_25)
def c7_27 : ACode := (.seq c7_8 c7_26)
def c7_28 : ACode := (.seq c7_6 c7_27)
def c7_29 : ACode := (.seq c7_1 c7_28)
def fn_transitlaw36_FarestateDominates : AFn := ⟨80, [(.tmp 4)], c7_29⟩
theorem fn_transitlaw36_FarestateDominates_ok : resFn PR h_transitlaw36_FarestateDominates i_transitlaw36_FarestateDominates = some fn_transitlaw36_FarestateDominates := by kernel_rfl

def h_transitlaw36_FarestateEquals : Hints := ⟨[(0, [1, 3, 5]), (1, [1, 3, 5, 35]), (2, [6]), (3, [1, 3, 5, 7, 8]), (4, [1, 3, 5, 7, 8, 9, 10]), (5, [3, 5, 7, 8, 9, 10, 11, 12]), (6, [3, 5, 7, 11, 76]), (7, [6]), (8, [7, 11, 79]), (9, [6]), (10, [6])], [], []⟩
def o8_0 : List AOper := [⟨some 3, (.box 4 (.tmp 0)), false, none⟩,
  ⟨some 5, (.box 4 (.tmp 2)), false, none⟩,
  ⟨some 6, (.mov (.const (.bool false))), true, none⟩]
def c8_1 : ACode := (.region o8_0 [1, 3, 5])
def w8_1 (_P : Program) (Q : Exit → Slots → Mem → Prop) (M : Mem) (v0 : V) (v1 : V) (v2 : V) : Prop :=
  @OptMH (boxV 4 v0 M) ⟨fun t3_1 M1 =>
  @OptMH (boxV 4 v2 M1) ⟨fun t5_2 M2 =>
  Q .normal [(1, v1), (3, t3_1), (5, t5_2)] M2⟩⟩
theorem e8_1 (P : Program) (Q : Exit → Slots → Mem → Prop) (s : Slots) (M : Mem) : wpC P c8_1 Q s M = w8_1 P Q M (sget s 0) (sget s 1) (sget s 2) := by kernel_rfl
def o8_2 : List AOper := [⟨some 36, (.call i_transitlaw36_exampleHolds []), true, none⟩,
  ⟨some 6, (.mov (.tmp 36)), true, none⟩]
def c8_3 : ACode := (.region o8_2 [6])
def w8_3 (P : Program) (Q : Exit → Slots → Mem → Prop) (M : Mem) : Prop :=
  @CallH P i_transitlaw36_exampleHolds [] M ⟨fun t36_1 M1 => @OptBH (some t36_1) ⟨fun b36_1 =>
  Q .normal [(6, (.bool b36_1))] M1⟩⟩
theorem e8_3 (P : Program) (Q : Exit → Slots → Mem → Prop) (s : Slots) (M : Mem) : wpC P c8_3 Q s M = w8_3 P Q M := by kernel_rfl
def c8_4 : ACode := (.seq c8_3 .ret)
def o8_5 : List AOper := [⟨some 13, (.load 4 true (.tmp 3)), false, none⟩,
  ⟨some 14, (.call i_transitlaw36_small [(.tmp 13)]), true, none⟩,
  ⟨some 15, (.un .not (.tmp 14)), true, none⟩,
  ⟨some 16, (.mov (.tmp 15)), true, none⟩,
  ⟨some 17, (.load 4 true (.tmp 5)), false, some (16, false)⟩,
  ⟨some 18, (.call i_transitlaw36_small [(.tmp 17)]), true, some (16, false)⟩,
  ⟨some 19, (.un .not (.tmp 18)), true, some (16, false)⟩,
  ⟨some 20, (.pick (.tmp 16) (.const (.bool true)) (.tmp 19)), true, none⟩,
  ⟨some 21, (.mov (.tmp 20)), true, none⟩,
  ⟨some 22, (.mov (.tmp 1)), false, some (21, false)⟩,
  ⟨some 23, (.lenSl (.tmp 22)), false, some (21, false)⟩,
  ⟨some 24, (.bin .gtr .none (.tmp 23) (.const (.int .i64 8))), true, some (21, false)⟩,
  ⟨some 25, (.pick (.tmp 21) (.const (.bool true)) (.tmp 24)), true, none⟩,
  ⟨some 26, (.mov (.tmp 25)), true, none⟩,
  ⟨some 27, (.load 4 true (.tmp 3)), false, some (26, false)⟩,
  ⟨some 28, (.call i_transitref35_Valid [(.tmp 27)]), true, some (26, false)⟩,
  ⟨some 29, (.un .not (.tmp 28)), true, some (26, false)⟩,
  ⟨some 30, (.pick (.tmp 26) (.const (.bool true)) (.tmp 29)), true, none⟩,
  ⟨some 31, (.mov (.tmp 30)), true, none⟩,
  ⟨some 32, (.load 4 true (.tmp 5)), false, some (31, false)⟩,
  ⟨some 33, (.call i_transitref35_Valid [(.tmp 32)]), true, some (31, false)⟩,
  ⟨some 34, (.un .not (.tmp 33)), true, some (31, false)⟩,
  ⟨some 35, (.pick (.tmp 31) (.const (.bool true)) (.tmp 34)), true, none⟩]
def c8_6 : ACode := (.seq (.region o8_5 [1, 3, 5, 35]) (.cond (.tmp 35) c8_4 .skip))
def w8_6 (P : Program) (Q : Exit → Slots → Mem → Prop) (M : Mem) (v1 : V) (v3 : V) (v5 : V) : Prop :=
  @OptVH (loadV 4 true v3 M) ⟨fun t13_1 =>
  @CallH P i_transitlaw36_small [t13_1] M ⟨fun t14_2 M2 => @OptBH (some t14_2) ⟨fun b14_2 =>
  @OptBH (unV .not (.bool b14_2)) ⟨fun b15_3 =>
  @BIfH b15_3
  ⟨wpC P c8_4 Q [(1, v1), (3, v3), (5, v5), (35, (.bool true))] M2⟩
  ⟨@OptVH (loadV 4 true v5 M2) ⟨fun t17_12 =>
  @CallH P i_transitlaw36_small [t17_12] M2 ⟨fun t18_13 M13 => @OptBH (some t18_13) ⟨fun b18_13 =>
  @OptBH (unV .not (.bool b18_13)) ⟨fun b19_14 =>
  @BIfH b19_14
  ⟨wpC P c8_4 Q [(1, v1), (3, v3), (5, v5), (35, (.bool true))] M13⟩
  ⟨@OptVH (lenV v1 M13) ⟨fun t23_23 =>
  @OptBH (binV .gtr .none t23_23 (.int .i64 8)) ⟨fun b24_24 =>
  @BIfH b24_24
  ⟨wpC P c8_4 Q [(1, v1), (3, v3), (5, v5), (35, (.bool true))] M13⟩
  ⟨@OptVH (loadV 4 true v3 M13) ⟨fun t27_30 =>
  @CallH P i_transitref35_Valid [t27_30] M13 ⟨fun t28_31 M31 => @OptBH (some t28_31) ⟨fun b28_31 =>
  @OptBH (unV .not (.bool b28_31)) ⟨fun b29_32 =>
  @BIfH b29_32
  ⟨wpC P c8_4 Q [(1, v1), (3, v3), (5, v5), (35, (.bool true))] M31⟩
  ⟨@OptVH (loadV 4 true v5 M31) ⟨fun t32_36 =>
  @CallH P i_transitref35_Valid [t32_36] M31 ⟨fun t33_37 M37 => @OptBH (some t33_37) ⟨fun b33_37 =>
  @OptBH (unV .not (.bool b33_37)) ⟨fun b34_38 =>
  @BIfH b34_38
  ⟨wpC P c8_4 Q [(1, v1), (3, v3), (5, v5), (35, (.bool b34_38))] M37⟩
  ⟨Q .normal [(1, v1), (3, v3), (5, v5), (35, (.bool b34_38))] M37⟩⟩⟩⟩⟩⟩⟩⟩⟩⟩⟩⟩⟩⟩⟩⟩⟩⟩⟩⟩⟩⟩⟩
theorem e8_6 (P : Program) (Q : Exit → Slots → Mem → Prop) (s : Slots) (M : Mem) : wpC P c8_6 Q s M = w8_6 P Q M (sget s 1) (sget s 3) (sget s 5) := by kernel_rfl
def o8_7 : List AOper := [⟨some 38, (.load 4 true (.tmp 3)), false, none⟩,
  ⟨some 39, (.mov (.tmp 1)), false, none⟩,
  ⟨some 40, (.call i_transitlaw36_made [(.tmp 38), (.tmp 39)]), false, none⟩,
  ⟨some 37, (.mov (.tmp 40)), false, none⟩,
  ⟨some 41, (.extract (.tmp 37) 0), false, none⟩,
  ⟨some 42, (.extract (.tmp 37) 1), true, none⟩,
  ⟨some 7, (.mov (.tmp 41)), false, none⟩,
  ⟨some 8, (.mov (.tmp 42)), true, none⟩]
def c8_8 : ACode := (.region o8_7 [1, 3, 5, 7, 8])
def w8_8 (P : Program) (Q : Exit → Slots → Mem → Prop) (M : Mem) (v1 : V) (v3 : V) (v5 : V) : Prop :=
  @OptVH (loadV 4 true v3 M) ⟨fun t38_1 =>
  @CallH P i_transitlaw36_made [t38_1, v1] M ⟨fun t40_3 M3 =>
  @OptVH (extractV t40_3 0) ⟨fun t41_5 =>
  @OptBH (extractV t40_3 1) ⟨fun b42_6 =>
  Q .normal [(1, v1), (3, v3), (5, v5), (7, t41_5), (8, (.bool b42_6))] M3⟩⟩⟩⟩
theorem e8_8 (P : Program) (Q : Exit → Slots → Mem → Prop) (s : Slots) (M : Mem) : wpC P c8_8 Q s M = w8_8 P Q M (sget s 1) (sget s 3) (sget s 5) := by kernel_rfl
def o8_9 : List AOper := [⟨some 44, (.load 4 true (.tmp 3)), false, none⟩,
  ⟨some 45, (.mov (.tmp 1)), false, none⟩,
  ⟨some 46, (.call i_transitlaw36_made [(.tmp 44), (.tmp 45)]), false, none⟩,
  ⟨some 43, (.mov (.tmp 46)), false, none⟩,
  ⟨some 47, (.extract (.tmp 43) 0), false, none⟩,
  ⟨some 48, (.extract (.tmp 43) 1), true, none⟩,
  ⟨some 9, (.mov (.tmp 47)), false, none⟩,
  ⟨some 10, (.mov (.tmp 48)), true, none⟩]
def c8_10 : ACode := (.region o8_9 [1, 3, 5, 7, 8, 9, 10])
def w8_10 (P : Program) (Q : Exit → Slots → Mem → Prop) (M : Mem) (v1 : V) (v3 : V) (v5 : V) (v7 : V) (v8 : V) : Prop :=
  @OptVH (loadV 4 true v3 M) ⟨fun t44_1 =>
  @CallH P i_transitlaw36_made [t44_1, v1] M ⟨fun t46_3 M3 =>
  @OptVH (extractV t46_3 0) ⟨fun t47_5 =>
  @OptBH (extractV t46_3 1) ⟨fun b48_6 =>
  Q .normal [(1, v1), (3, v3), (5, v5), (7, v7), (8, v8), (9, t47_5), (10, (.bool b48_6))] M3⟩⟩⟩⟩
theorem e8_10 (P : Program) (Q : Exit → Slots → Mem → Prop) (s : Slots) (M : Mem) : wpC P c8_10 Q s M = w8_10 P Q M (sget s 1) (sget s 3) (sget s 5) (sget s 7) (sget s 8) := by kernel_rfl
def o8_11 : List AOper := [⟨some 50, (.load 4 true (.tmp 5)), false, none⟩,
  ⟨some 51, (.mov (.tmp 1)), false, none⟩,
  ⟨some 52, (.call i_transitlaw36_made [(.tmp 50), (.tmp 51)]), false, none⟩,
  ⟨some 49, (.mov (.tmp 52)), false, none⟩,
  ⟨some 53, (.extract (.tmp 49) 0), false, none⟩,
  ⟨some 54, (.extract (.tmp 49) 1), true, none⟩,
  ⟨some 11, (.mov (.tmp 53)), false, none⟩,
  ⟨some 12, (.mov (.tmp 54)), true, none⟩]
def c8_12 : ACode := (.region o8_11 [3, 5, 7, 8, 9, 10, 11, 12])
def w8_12 (P : Program) (Q : Exit → Slots → Mem → Prop) (M : Mem) (v1 : V) (v3 : V) (v5 : V) (v7 : V) (v8 : V) (v9 : V) (v10 : V) : Prop :=
  @OptVH (loadV 4 true v5 M) ⟨fun t50_1 =>
  @CallH P i_transitlaw36_made [t50_1, v1] M ⟨fun t52_3 M3 =>
  @OptVH (extractV t52_3 0) ⟨fun t53_5 =>
  @OptBH (extractV t52_3 1) ⟨fun b54_6 =>
  Q .normal [(3, v3), (5, v5), (7, v7), (8, v8), (9, v9), (10, v10), (11, t53_5), (12, (.bool b54_6))] M3⟩⟩⟩⟩
theorem e8_12 (P : Program) (Q : Exit → Slots → Mem → Prop) (s : Slots) (M : Mem) : wpC P c8_12 Q s M = w8_12 P Q M (sget s 1) (sget s 3) (sget s 5) (sget s 7) (sget s 8) (sget s 9) (sget s 10) := by kernel_rfl
def o8_13 : List AOper := [⟨some 6, (.mov (.const (.bool false))), true, none⟩]
def c8_14 : ACode := (.region o8_13 [6])
def w8_14 (_P : Program) (Q : Exit → Slots → Mem → Prop) (M : Mem) : Prop :=
  Q .normal [(6, (.bool false))] M
theorem e8_14 (P : Program) (Q : Exit → Slots → Mem → Prop) (s : Slots) (M : Mem) : wpC P c8_14 Q s M = w8_14 P Q M := by kernel_rfl
def c8_15 : ACode := (.seq c8_14 .ret)
def o8_16 : List AOper := [⟨some 55, (.mov (.tmp 8)), true, none⟩,
  ⟨some 56, (.un .not (.tmp 55)), true, none⟩,
  ⟨some 57, (.mov (.tmp 56)), true, none⟩,
  ⟨some 58, (.mov (.tmp 10)), true, some (57, false)⟩,
  ⟨some 59, (.un .not (.tmp 58)), true, some (57, false)⟩,
  ⟨some 60, (.pick (.tmp 57) (.const (.bool true)) (.tmp 59)), true, none⟩,
  ⟨some 61, (.mov (.tmp 60)), true, none⟩,
  ⟨some 62, (.mov (.tmp 12)), true, some (61, false)⟩,
  ⟨some 63, (.un .not (.tmp 62)), true, some (61, false)⟩,
  ⟨some 64, (.pick (.tmp 61) (.const (.bool true)) (.tmp 63)), true, none⟩,
  ⟨some 65, (.mov (.tmp 64)), true, none⟩,
  ⟨some 66, (.mov (.tmp 7)), false, some (65, false)⟩,
  ⟨some 67, (.mov (.tmp 9)), false, some (65, false)⟩,
  ⟨some 68, (.call i_farestate_State_Dominates [(.tmp 66), (.tmp 67)]), true, some (65, false)⟩,
  ⟨some 69, (.un .not (.tmp 68)), true, some (65, false)⟩,
  ⟨some 70, (.pick (.tmp 65) (.const (.bool true)) (.tmp 69)), true, none⟩,
  ⟨some 71, (.mov (.tmp 70)), true, none⟩,
  ⟨some 72, (.mov (.tmp 9)), false, some (71, false)⟩,
  ⟨some 73, (.mov (.tmp 7)), false, some (71, false)⟩,
  ⟨some 74, (.call i_farestate_State_Dominates [(.tmp 72), (.tmp 73)]), true, some (71, false)⟩,
  ⟨some 75, (.un .not (.tmp 74)), true, some (71, false)⟩,
  ⟨some 76, (.pick (.tmp 71) (.const (.bool true)) (.tmp 75)), true, none⟩]
def c8_17 : ACode := (.seq (.region o8_16 [3, 5, 7, 11, 76]) (.cond (.tmp 76) c8_15 .skip))
def w8_17 (P : Program) (Q : Exit → Slots → Mem → Prop) (M : Mem) (v3 : V) (v5 : V) (v7 : V) (v8 : V) (v9 : V) (v10 : V) (v11 : V) (v12 : V) : Prop :=
  @OptBH (some v8) ⟨fun b55_1 =>
  @OptBH (unV .not (.bool b55_1)) ⟨fun b56_2 =>
  @BIfH b56_2
  ⟨wpC P c8_15 Q [(3, v3), (5, v5), (7, v7), (11, v11), (76, (.bool true))] M⟩
  ⟨@OptBH (some v10) ⟨fun b58_11 =>
  @OptBH (unV .not (.bool b58_11)) ⟨fun b59_12 =>
  @BIfH b59_12
  ⟨wpC P c8_15 Q [(3, v3), (5, v5), (7, v7), (11, v11), (76, (.bool true))] M⟩
  ⟨@OptBH (some v12) ⟨fun b62_20 =>
  @OptBH (unV .not (.bool b62_20)) ⟨fun b63_21 =>
  @BIfH b63_21
  ⟨wpC P c8_15 Q [(3, v3), (5, v5), (7, v7), (11, v11), (76, (.bool true))] M⟩
  ⟨@CallH P i_farestate_State_Dominates [v7, v9] M ⟨fun t68_29 M29 => @OptBH (some t68_29) ⟨fun b68_29 =>
  @OptBH (unV .not (.bool b68_29)) ⟨fun b69_30 =>
  @BIfH b69_30
  ⟨wpC P c8_15 Q [(3, v3), (5, v5), (7, v7), (11, v11), (76, (.bool true))] M29⟩
  ⟨@CallH P i_farestate_State_Dominates [v9, v7] M29 ⟨fun t74_36 M36 => @OptBH (some t74_36) ⟨fun b74_36 =>
  @OptBH (unV .not (.bool b74_36)) ⟨fun b75_37 =>
  @BIfH b75_37
  ⟨wpC P c8_15 Q [(3, v3), (5, v5), (7, v7), (11, v11), (76, (.bool b75_37))] M36⟩
  ⟨Q .normal [(3, v3), (5, v5), (7, v7), (11, v11), (76, (.bool b75_37))] M36⟩⟩⟩⟩⟩⟩⟩⟩⟩⟩⟩⟩⟩⟩⟩⟩⟩
theorem e8_17 (P : Program) (Q : Exit → Slots → Mem → Prop) (s : Slots) (M : Mem) : wpC P c8_17 Q s M = w8_17 P Q M (sget s 3) (sget s 5) (sget s 7) (sget s 8) (sget s 9) (sget s 10) (sget s 11) (sget s 12) := by kernel_rfl
def o8_18 : List AOper := [⟨some 80, (.mov (.tmp 7)), false, none⟩,
  ⟨some 81, (.mov (.tmp 11)), false, none⟩,
  ⟨some 82, (.call i_farestate_State_Dominates [(.tmp 80), (.tmp 81)]), true, none⟩,
  ⟨some 83, (.mov (.tmp 82)), true, none⟩,
  ⟨some 84, (.mov (.tmp 11)), false, some (83, true)⟩,
  ⟨some 85, (.mov (.tmp 7)), false, some (83, true)⟩,
  ⟨some 86, (.call i_farestate_State_Dominates [(.tmp 84), (.tmp 85)]), true, some (83, true)⟩,
  ⟨some 87, (.pick (.tmp 83) (.tmp 86) (.const (.bool false))), true, none⟩,
  ⟨some 88, (.mov (.tmp 87)), true, none⟩,
  ⟨some 89, (.call i_transitlaw36_exampleHolds []), true, some (88, true)⟩,
  ⟨some 90, (.pick (.tmp 88) (.tmp 89) (.const (.bool false))), true, none⟩,
  ⟨some 6, (.mov (.tmp 90)), true, none⟩]
def c8_19 : ACode := (.region o8_18 [6])
def w8_19 (P : Program) (Q : Exit → Slots → Mem → Prop) (M : Mem) (v7 : V) (v11 : V) : Prop :=
  @CallH P i_farestate_State_Dominates [v7, v11] M ⟨fun t82_3 M3 => @OptBH (some t82_3) ⟨fun b82_3 =>
  @BIfH b82_3
  ⟨@CallH P i_farestate_State_Dominates [v11, v7] M3 ⟨fun t86_7 M7 => @OptBH (some t86_7) ⟨fun b86_7 =>
  @BIfH b86_7
  ⟨@CallH P i_transitlaw36_exampleHolds [] M7 ⟨fun t89_10 M10 => @OptBH (some t89_10) ⟨fun b89_10 =>
  Q .normal [(6, (.bool b89_10))] M10⟩⟩⟩
  ⟨Q .normal [(6, (.bool false))] M7⟩⟩⟩⟩
  ⟨Q .normal [(6, (.bool false))] M3⟩⟩⟩
theorem e8_19 (P : Program) (Q : Exit → Slots → Mem → Prop) (s : Slots) (M : Mem) : wpC P c8_19 Q s M = w8_19 P Q M (sget s 7) (sget s 11) := by kernel_rfl
def c8_20 : ACode := (.seq c8_19 .ret)
def o8_21 : List AOper := [⟨some 77, (.load 4 true (.tmp 3)), false, none⟩,
  ⟨some 78, (.load 4 true (.tmp 5)), false, none⟩,
  ⟨some 79, (.call i_transitlaw36_same [(.tmp 77), (.tmp 78)]), true, none⟩]
def c8_22 : ACode := (.seq (.region o8_21 [7, 11, 79]) (.cond (.tmp 79) c8_20 .skip))
def w8_22 (P : Program) (Q : Exit → Slots → Mem → Prop) (M : Mem) (v3 : V) (v5 : V) (v7 : V) (v11 : V) : Prop :=
  @OptVH (loadV 4 true v3 M) ⟨fun t77_1 =>
  @OptVH (loadV 4 true v5 M) ⟨fun t78_2 =>
  @CallH P i_transitlaw36_same [t77_1, t78_2] M ⟨fun t79_3 M3 => @OptBH (some t79_3) ⟨fun b79_3 =>
  @BIfH b79_3
  ⟨wpC P c8_20 Q [(7, v7), (11, v11), (79, (.bool b79_3))] M3⟩
  ⟨Q .normal [(7, v7), (11, v11), (79, (.bool b79_3))] M3⟩⟩⟩⟩⟩
theorem e8_22 (P : Program) (Q : Exit → Slots → Mem → Prop) (s : Slots) (M : Mem) : wpC P c8_22 Q s M = w8_22 P Q M (sget s 3) (sget s 5) (sget s 7) (sget s 11) := by kernel_rfl
def o8_23 : List AOper := [⟨some 91, (.mov (.tmp 7)), false, none⟩,
  ⟨some 92, (.mov (.tmp 11)), false, none⟩,
  ⟨some 93, (.call i_farestate_State_Dominates [(.tmp 91), (.tmp 92)]), true, none⟩,
  ⟨some 94, (.un .not (.tmp 93)), true, none⟩,
  ⟨some 95, (.mov (.tmp 94)), true, none⟩,
  ⟨some 96, (.mov (.tmp 11)), false, some (95, true)⟩,
  ⟨some 97, (.mov (.tmp 7)), false, some (95, true)⟩,
  ⟨some 98, (.call i_farestate_State_Dominates [(.tmp 96), (.tmp 97)]), true, some (95, true)⟩,
  ⟨some 99, (.un .not (.tmp 98)), true, some (95, true)⟩,
  ⟨some 100, (.pick (.tmp 95) (.tmp 99) (.const (.bool false))), true, none⟩,
  ⟨some 101, (.mov (.tmp 100)), true, none⟩,
  ⟨some 102, (.call i_transitlaw36_exampleHolds []), true, some (101, true)⟩,
  ⟨some 103, (.pick (.tmp 101) (.tmp 102) (.const (.bool false))), true, none⟩,
  ⟨some 6, (.mov (.tmp 103)), true, none⟩]
def c8_24 : ACode := (.region o8_23 [6])
def w8_24 (P : Program) (Q : Exit → Slots → Mem → Prop) (M : Mem) (v7 : V) (v11 : V) : Prop :=
  @CallH P i_farestate_State_Dominates [v7, v11] M ⟨fun t93_3 M3 => @OptBH (some t93_3) ⟨fun b93_3 =>
  @OptBH (unV .not (.bool b93_3)) ⟨fun b94_4 =>
  @BIfH b94_4
  ⟨@CallH P i_farestate_State_Dominates [v11, v7] M3 ⟨fun t98_8 M8 => @OptBH (some t98_8) ⟨fun b98_8 =>
  @OptBH (unV .not (.bool b98_8)) ⟨fun b99_9 =>
  @BIfH b99_9
  ⟨@CallH P i_transitlaw36_exampleHolds [] M8 ⟨fun t102_12 M12 => @OptBH (some t102_12) ⟨fun b102_12 =>
  Q .normal [(6, (.bool b102_12))] M12⟩⟩⟩
  ⟨Q .normal [(6, (.bool false))] M8⟩⟩⟩⟩⟩
  ⟨Q .normal [(6, (.bool false))] M3⟩⟩⟩⟩
theorem e8_24 (P : Program) (Q : Exit → Slots → Mem → Prop) (s : Slots) (M : Mem) : wpC P c8_24 Q s M = w8_24 P Q M (sget s 7) (sget s 11) := by kernel_rfl
def c8_25 : ACode := (.seq c8_24 .ret)
def c8_26 : ACode := (.seq c8_22 c8_25)
def c8_27 : ACode := (.seq c8_17 c8_26)
def c8_28 : ACode := (.seq c8_12 c8_27)
def c8_29 : ACode := (.seq c8_10 c8_28)
def c8_30 : ACode := (.seq c8_8 c8_29)
def c8_31 : ACode := (.seq c8_6 c8_30)
def c8_32 : ACode := (.seq c8_1 c8_31)
def fn_transitlaw36_FarestateEquals : AFn := ⟨104, [(.tmp 6)], c8_32⟩
theorem fn_transitlaw36_FarestateEquals_ok : resFn PR h_transitlaw36_FarestateEquals i_transitlaw36_FarestateEquals = some fn_transitlaw36_FarestateEquals := by kernel_rfl

def h_transitlaw36_FarestateJoins : Hints := ⟨[(0, [1, 3, 5]), (1, [1, 3, 5, 31]), (2, [6]), (3, [3, 5, 7, 8]), (4, [5, 7, 8, 9, 10]), (5, [5, 7, 9, 51]), (6, [6]), (7, [7, 9, 11, 12]), (8, [7, 9, 11, 63]), (9, [6]), (10, [9, 11, 13, 14]), (11, [11, 13, 14, 15, 16]), (12, [13, 14, 15, 16, 17, 18]), (13, [6])], [], []⟩
def o9_0 : List AOper := [⟨some 3, (.box 4 (.tmp 0)), false, none⟩,
  ⟨some 5, (.box 4 (.tmp 2)), false, none⟩,
  ⟨some 6, (.mov (.const (.bool false))), true, none⟩]
def c9_1 : ACode := (.region o9_0 [1, 3, 5])
def w9_1 (_P : Program) (Q : Exit → Slots → Mem → Prop) (M : Mem) (v0 : V) (v1 : V) (v2 : V) : Prop :=
  @OptMH (boxV 4 v0 M) ⟨fun t3_1 M1 =>
  @OptMH (boxV 4 v2 M1) ⟨fun t5_2 M2 =>
  Q .normal [(1, v1), (3, t3_1), (5, t5_2)] M2⟩⟩
theorem e9_1 (P : Program) (Q : Exit → Slots → Mem → Prop) (s : Slots) (M : Mem) : wpC P c9_1 Q s M = w9_1 P Q M (sget s 0) (sget s 1) (sget s 2) := by kernel_rfl
def o9_2 : List AOper := [⟨some 32, (.call i_transitlaw36_exampleHolds []), true, none⟩,
  ⟨some 6, (.mov (.tmp 32)), true, none⟩]
def c9_3 : ACode := (.region o9_2 [6])
def w9_3 (P : Program) (Q : Exit → Slots → Mem → Prop) (M : Mem) : Prop :=
  @CallH P i_transitlaw36_exampleHolds [] M ⟨fun t32_1 M1 => @OptBH (some t32_1) ⟨fun b32_1 =>
  Q .normal [(6, (.bool b32_1))] M1⟩⟩
theorem e9_3 (P : Program) (Q : Exit → Slots → Mem → Prop) (s : Slots) (M : Mem) : wpC P c9_3 Q s M = w9_3 P Q M := by kernel_rfl
def c9_4 : ACode := (.seq c9_3 .ret)
def o9_5 : List AOper := [⟨some 19, (.load 4 true (.tmp 3)), false, none⟩,
  ⟨some 20, (.call i_transitlaw36_small [(.tmp 19)]), true, none⟩,
  ⟨some 21, (.un .not (.tmp 20)), true, none⟩,
  ⟨some 22, (.mov (.tmp 21)), true, none⟩,
  ⟨some 23, (.mov (.tmp 1)), false, some (22, false)⟩,
  ⟨some 24, (.lenSl (.tmp 23)), false, some (22, false)⟩,
  ⟨some 25, (.bin .geq .none (.tmp 24) (.const (.int .i64 8))), true, some (22, false)⟩,
  ⟨some 26, (.pick (.tmp 22) (.const (.bool true)) (.tmp 25)), true, none⟩,
  ⟨some 27, (.mov (.tmp 26)), true, none⟩,
  ⟨some 28, (.load 4 true (.tmp 3)), false, some (27, false)⟩,
  ⟨some 29, (.call i_transitref35_Valid [(.tmp 28)]), true, some (27, false)⟩,
  ⟨some 30, (.un .not (.tmp 29)), true, some (27, false)⟩,
  ⟨some 31, (.pick (.tmp 27) (.const (.bool true)) (.tmp 30)), true, none⟩]
def c9_6 : ACode := (.seq (.region o9_5 [1, 3, 5, 31]) (.cond (.tmp 31) c9_4 .skip))
def w9_6 (P : Program) (Q : Exit → Slots → Mem → Prop) (M : Mem) (v1 : V) (v3 : V) (v5 : V) : Prop :=
  @OptVH (loadV 4 true v3 M) ⟨fun t19_1 =>
  @CallH P i_transitlaw36_small [t19_1] M ⟨fun t20_2 M2 => @OptBH (some t20_2) ⟨fun b20_2 =>
  @OptBH (unV .not (.bool b20_2)) ⟨fun b21_3 =>
  @BIfH b21_3
  ⟨wpC P c9_4 Q [(1, v1), (3, v3), (5, v5), (31, (.bool true))] M2⟩
  ⟨@OptVH (lenV v1 M2) ⟨fun t24_9 =>
  @OptBH (binV .geq .none t24_9 (.int .i64 8)) ⟨fun b25_10 =>
  @BIfH b25_10
  ⟨wpC P c9_4 Q [(1, v1), (3, v3), (5, v5), (31, (.bool true))] M2⟩
  ⟨@OptVH (loadV 4 true v3 M2) ⟨fun t28_14 =>
  @CallH P i_transitref35_Valid [t28_14] M2 ⟨fun t29_15 M15 => @OptBH (some t29_15) ⟨fun b29_15 =>
  @OptBH (unV .not (.bool b29_15)) ⟨fun b30_16 =>
  @BIfH b30_16
  ⟨wpC P c9_4 Q [(1, v1), (3, v3), (5, v5), (31, (.bool b30_16))] M15⟩
  ⟨Q .normal [(1, v1), (3, v3), (5, v5), (31, (.bool b30_16))] M15⟩⟩⟩⟩⟩⟩⟩⟩⟩⟩⟩⟩⟩
theorem e9_6 (P : Program) (Q : Exit → Slots → Mem → Prop) (s : Slots) (M : Mem) : wpC P c9_6 Q s M = w9_6 P Q M (sget s 1) (sget s 3) (sget s 5) := by kernel_rfl
def o9_7 : List AOper := [⟨some 34, (.load 4 true (.tmp 3)), false, none⟩,
  ⟨some 35, (.mov (.tmp 1)), false, none⟩,
  ⟨some 36, (.call i_transitlaw36_made [(.tmp 34), (.tmp 35)]), false, none⟩,
  ⟨some 33, (.mov (.tmp 36)), false, none⟩,
  ⟨some 37, (.extract (.tmp 33) 0), false, none⟩,
  ⟨some 38, (.extract (.tmp 33) 1), true, none⟩,
  ⟨some 7, (.mov (.tmp 37)), false, none⟩,
  ⟨some 8, (.mov (.tmp 38)), true, none⟩]
def c9_8 : ACode := (.region o9_7 [3, 5, 7, 8])
def w9_8 (P : Program) (Q : Exit → Slots → Mem → Prop) (M : Mem) (v1 : V) (v3 : V) (v5 : V) : Prop :=
  @OptVH (loadV 4 true v3 M) ⟨fun t34_1 =>
  @CallH P i_transitlaw36_made [t34_1, v1] M ⟨fun t36_3 M3 =>
  @OptVH (extractV t36_3 0) ⟨fun t37_5 =>
  @OptBH (extractV t36_3 1) ⟨fun b38_6 =>
  Q .normal [(3, v3), (5, v5), (7, t37_5), (8, (.bool b38_6))] M3⟩⟩⟩⟩
theorem e9_8 (P : Program) (Q : Exit → Slots → Mem → Prop) (s : Slots) (M : Mem) : wpC P c9_8 Q s M = w9_8 P Q M (sget s 1) (sget s 3) (sget s 5) := by kernel_rfl
def o9_9 : List AOper := [⟨some 40, (.load 4 true (.tmp 3)), false, none⟩,
  ⟨some 41, (.load 4 true (.tmp 5)), false, none⟩,
  ⟨some 42, (.buildSlice [(.int .i64 0), (.int .i64 0), (.int .i64 0), (.int .i64 0)] 4 1 [(0, (4, (.tmp 41)))]), false, none⟩,
  ⟨some 43, (.call i_transitlaw36_made [(.tmp 40), (.tmp 42)]), false, none⟩,
  ⟨some 39, (.mov (.tmp 43)), false, none⟩,
  ⟨some 44, (.extract (.tmp 39) 0), false, none⟩,
  ⟨some 45, (.extract (.tmp 39) 1), true, none⟩,
  ⟨some 9, (.mov (.tmp 44)), false, none⟩,
  ⟨some 10, (.mov (.tmp 45)), true, none⟩]
def c9_10 : ACode := (.region o9_9 [5, 7, 8, 9, 10])
def w9_10 (P : Program) (Q : Exit → Slots → Mem → Prop) (M : Mem) (v3 : V) (v5 : V) (v7 : V) (v8 : V) : Prop :=
  @OptVH (loadV 4 true v3 M) ⟨fun t40_1 =>
  @OptVH (loadV 4 true v5 M) ⟨fun t41_2 =>
  @OptVH (buildSliceV [(.int .i64 0), (.int .i64 0), (.int .i64 0), (.int .i64 0)] 4 1 [(0, 4, t41_2)]) ⟨fun t42_3 =>
  @CallH P i_transitlaw36_made [t40_1, t42_3] M ⟨fun t43_4 M4 =>
  @OptVH (extractV t43_4 0) ⟨fun t44_6 =>
  @OptBH (extractV t43_4 1) ⟨fun b45_7 =>
  Q .normal [(5, v5), (7, v7), (8, v8), (9, t44_6), (10, (.bool b45_7))] M4⟩⟩⟩⟩⟩⟩
theorem e9_10 (P : Program) (Q : Exit → Slots → Mem → Prop) (s : Slots) (M : Mem) : wpC P c9_10 Q s M = w9_10 P Q M (sget s 3) (sget s 5) (sget s 7) (sget s 8) := by kernel_rfl
def o9_11 : List AOper := [⟨some 6, (.mov (.const (.bool false))), true, none⟩]
def c9_12 : ACode := (.region o9_11 [6])
def w9_12 (_P : Program) (Q : Exit → Slots → Mem → Prop) (M : Mem) : Prop :=
  Q .normal [(6, (.bool false))] M
theorem e9_12 (P : Program) (Q : Exit → Slots → Mem → Prop) (s : Slots) (M : Mem) : wpC P c9_12 Q s M = w9_12 P Q M := by kernel_rfl
def c9_13 : ACode := (.seq c9_12 .ret)
def o9_14 : List AOper := [⟨some 46, (.mov (.tmp 8)), true, none⟩,
  ⟨some 47, (.un .not (.tmp 46)), true, none⟩,
  ⟨some 48, (.mov (.tmp 47)), true, none⟩,
  ⟨some 49, (.mov (.tmp 10)), true, some (48, false)⟩,
  ⟨some 50, (.un .not (.tmp 49)), true, some (48, false)⟩,
  ⟨some 51, (.pick (.tmp 48) (.const (.bool true)) (.tmp 50)), true, none⟩]
def c9_15 : ACode := (.seq (.region o9_14 [5, 7, 9, 51]) (.cond (.tmp 51) c9_13 .skip))
def w9_15 (P : Program) (Q : Exit → Slots → Mem → Prop) (M : Mem) (v5 : V) (v7 : V) (v8 : V) (v9 : V) (v10 : V) : Prop :=
  @OptBH (some v8) ⟨fun b46_1 =>
  @OptBH (unV .not (.bool b46_1)) ⟨fun b47_2 =>
  @BIfH b47_2
  ⟨wpC P c9_13 Q [(5, v5), (7, v7), (9, v9), (51, (.bool true))] M⟩
  ⟨@OptBH (some v10) ⟨fun b49_5 =>
  @OptBH (unV .not (.bool b49_5)) ⟨fun b50_6 =>
  @BIfH b50_6
  ⟨wpC P c9_13 Q [(5, v5), (7, v7), (9, v9), (51, (.bool b50_6))] M⟩
  ⟨Q .normal [(5, v5), (7, v7), (9, v9), (51, (.bool b50_6))] M⟩⟩⟩⟩⟩⟩
theorem e9_15 (P : Program) (Q : Exit → Slots → Mem → Prop) (s : Slots) (M : Mem) : wpC P c9_15 Q s M = w9_15 P Q M (sget s 5) (sget s 7) (sget s 8) (sget s 9) (sget s 10) := by kernel_rfl
def o9_16 : List AOper := [⟨some 53, (.mov (.tmp 7)), false, none⟩,
  ⟨some 54, (.load 4 true (.tmp 5)), false, none⟩,
  ⟨some 55, (.call i_farestate_State_Ride [(.tmp 53), (.tmp 54)]), false, none⟩,
  ⟨some 52, (.mov (.tmp 55)), false, none⟩,
  ⟨some 56, (.extract (.tmp 52) 0), false, none⟩,
  ⟨some 57, (.extract (.tmp 52) 1), false, none⟩,
  ⟨some 11, (.mov (.tmp 56)), false, none⟩,
  ⟨some 12, (.mov (.tmp 57)), false, none⟩]
def c9_17 : ACode := (.region o9_16 [7, 9, 11, 12])
def w9_17 (P : Program) (Q : Exit → Slots → Mem → Prop) (M : Mem) (v5 : V) (v7 : V) (v9 : V) : Prop :=
  @OptVH (loadV 4 true v5 M) ⟨fun t54_2 =>
  @CallH P i_farestate_State_Ride [v7, t54_2] M ⟨fun t55_3 M3 =>
  @OptVH (extractV t55_3 0) ⟨fun t56_5 =>
  @OptVH (extractV t55_3 1) ⟨fun t57_6 =>
  Q .normal [(7, v7), (9, v9), (11, t56_5), (12, t57_6)] M3⟩⟩⟩⟩
theorem e9_17 (P : Program) (Q : Exit → Slots → Mem → Prop) (s : Slots) (M : Mem) : wpC P c9_17 Q s M = w9_17 P Q M (sget s 5) (sget s 7) (sget s 9) := by kernel_rfl
def o9_18 : List AOper := [⟨some 6, (.mov (.const (.bool false))), true, none⟩]
def c9_19 : ACode := (.region o9_18 [6])
def w9_19 (_P : Program) (Q : Exit → Slots → Mem → Prop) (M : Mem) : Prop :=
  Q .normal [(6, (.bool false))] M
theorem e9_19 (P : Program) (Q : Exit → Slots → Mem → Prop) (s : Slots) (M : Mem) : wpC P c9_19 Q s M = w9_19 P Q M := by kernel_rfl
def c9_20 : ACode := (.seq c9_19 .ret)
def o9_21 : List AOper := [⟨some 58, (.mov (.tmp 11)), false, none⟩,
  ⟨some 59, (.bin .eql .ptr (.tmp 58) (.const .nilp)), true, none⟩,
  ⟨some 60, (.mov (.tmp 59)), true, none⟩,
  ⟨some 61, (.mov (.tmp 12)), false, some (60, false)⟩,
  ⟨some 62, (.bin .neq .none (.tmp 61) (.const (.int .i64 0))), true, some (60, false)⟩,
  ⟨some 63, (.pick (.tmp 60) (.const (.bool true)) (.tmp 62)), true, none⟩]
def c9_22 : ACode := (.seq (.region o9_21 [7, 9, 11, 63]) (.cond (.tmp 63) c9_20 .skip))
def w9_22 (P : Program) (Q : Exit → Slots → Mem → Prop) (M : Mem) (v7 : V) (v9 : V) (v11 : V) (v12 : V) : Prop :=
  @OptBH (binV .eql .ptr v11 .nilp) ⟨fun b59_2 =>
  @BIfH b59_2
  ⟨wpC P c9_20 Q [(7, v7), (9, v9), (11, v11), (63, (.bool true))] M⟩
  ⟨@OptBH (binV .neq .none v12 (.int .i64 0)) ⟨fun b62_6 =>
  @BIfH b62_6
  ⟨wpC P c9_20 Q [(7, v7), (9, v9), (11, v11), (63, (.bool b62_6))] M⟩
  ⟨Q .normal [(7, v7), (9, v9), (11, v11), (63, (.bool b62_6))] M⟩⟩⟩⟩
theorem e9_22 (P : Program) (Q : Exit → Slots → Mem → Prop) (s : Slots) (M : Mem) : wpC P c9_22 Q s M = w9_22 P Q M (sget s 7) (sget s 9) (sget s 11) (sget s 12) := by kernel_rfl
def o9_23 : List AOper := [⟨some 65, (.mov (.tmp 7)), false, none⟩,
  ⟨some 66, (.call i_farestate_State_Price [(.tmp 65)]), false, none⟩,
  ⟨some 64, (.mov (.tmp 66)), false, none⟩,
  ⟨some 67, (.extract (.tmp 64) 0), false, none⟩,
  ⟨some 68, (.extract (.tmp 64) 1), true, none⟩,
  ⟨some 13, (.mov (.tmp 67)), false, none⟩,
  ⟨some 14, (.mov (.tmp 68)), true, none⟩]
def c9_24 : ACode := (.region o9_23 [9, 11, 13, 14])
def w9_24 (P : Program) (Q : Exit → Slots → Mem → Prop) (M : Mem) (v7 : V) (v9 : V) (v11 : V) : Prop :=
  @CallH P i_farestate_State_Price [v7] M ⟨fun t66_2 M2 =>
  @OptVH (extractV t66_2 0) ⟨fun t67_4 =>
  @OptBH (extractV t66_2 1) ⟨fun b68_5 =>
  Q .normal [(9, v9), (11, v11), (13, t67_4), (14, (.bool b68_5))] M2⟩⟩⟩
theorem e9_24 (P : Program) (Q : Exit → Slots → Mem → Prop) (s : Slots) (M : Mem) : wpC P c9_24 Q s M = w9_24 P Q M (sget s 7) (sget s 9) (sget s 11) := by kernel_rfl
def o9_25 : List AOper := [⟨some 70, (.mov (.tmp 9)), false, none⟩,
  ⟨some 71, (.call i_farestate_State_Price [(.tmp 70)]), false, none⟩,
  ⟨some 69, (.mov (.tmp 71)), false, none⟩,
  ⟨some 72, (.extract (.tmp 69) 0), false, none⟩,
  ⟨some 73, (.extract (.tmp 69) 1), true, none⟩,
  ⟨some 15, (.mov (.tmp 72)), false, none⟩,
  ⟨some 16, (.mov (.tmp 73)), true, none⟩]
def c9_26 : ACode := (.region o9_25 [11, 13, 14, 15, 16])
def w9_26 (P : Program) (Q : Exit → Slots → Mem → Prop) (M : Mem) (v9 : V) (v11 : V) (v13 : V) (v14 : V) : Prop :=
  @CallH P i_farestate_State_Price [v9] M ⟨fun t71_2 M2 =>
  @OptVH (extractV t71_2 0) ⟨fun t72_4 =>
  @OptBH (extractV t71_2 1) ⟨fun b73_5 =>
  Q .normal [(11, v11), (13, v13), (14, v14), (15, t72_4), (16, (.bool b73_5))] M2⟩⟩⟩
theorem e9_26 (P : Program) (Q : Exit → Slots → Mem → Prop) (s : Slots) (M : Mem) : wpC P c9_26 Q s M = w9_26 P Q M (sget s 9) (sget s 11) (sget s 13) (sget s 14) := by kernel_rfl
def o9_27 : List AOper := [⟨some 75, (.mov (.tmp 11)), false, none⟩,
  ⟨some 76, (.call i_farestate_State_Price [(.tmp 75)]), false, none⟩,
  ⟨some 74, (.mov (.tmp 76)), false, none⟩,
  ⟨some 77, (.extract (.tmp 74) 0), false, none⟩,
  ⟨some 78, (.extract (.tmp 74) 1), true, none⟩,
  ⟨some 17, (.mov (.tmp 77)), false, none⟩,
  ⟨some 18, (.mov (.tmp 78)), true, none⟩]
def c9_28 : ACode := (.region o9_27 [13, 14, 15, 16, 17, 18])
def w9_28 (P : Program) (Q : Exit → Slots → Mem → Prop) (M : Mem) (v11 : V) (v13 : V) (v14 : V) (v15 : V) (v16 : V) : Prop :=
  @CallH P i_farestate_State_Price [v11] M ⟨fun t76_2 M2 =>
  @OptVH (extractV t76_2 0) ⟨fun t77_4 =>
  @OptBH (extractV t76_2 1) ⟨fun b78_5 =>
  Q .normal [(13, v13), (14, v14), (15, v15), (16, v16), (17, t77_4), (18, (.bool b78_5))] M2⟩⟩⟩
theorem e9_28 (P : Program) (Q : Exit → Slots → Mem → Prop) (s : Slots) (M : Mem) : wpC P c9_28 Q s M = w9_28 P Q M (sget s 11) (sget s 13) (sget s 14) (sget s 15) (sget s 16) := by kernel_rfl
def o9_29 : List AOper := [⟨some 79, (.mov (.tmp 14)), true, none⟩,
  ⟨some 80, (.un .not (.tmp 79)), true, none⟩,
  ⟨some 81, (.mov (.tmp 80)), true, none⟩,
  ⟨some 82, (.mov (.tmp 16)), true, some (81, false)⟩,
  ⟨some 83, (.un .not (.tmp 82)), true, some (81, false)⟩,
  ⟨some 84, (.pick (.tmp 81) (.const (.bool true)) (.tmp 83)), true, none⟩,
  ⟨some 85, (.mov (.tmp 84)), true, none⟩,
  ⟨some 86, (.mov (.tmp 18)), true, some (85, false)⟩,
  ⟨some 87, (.mov (.tmp 86)), true, some (85, false)⟩,
  ⟨some 88, (.mov (.tmp 17)), false, some (87, true)⟩,
  ⟨some 89, (.mov (.tmp 13)), false, some (87, true)⟩,
  ⟨some 90, (.mov (.tmp 15)), false, some (87, true)⟩,
  ⟨some 91, (.bin .add .none (.tmp 89) (.tmp 90)), false, some (87, true)⟩,
  ⟨some 92, (.bin .leq .none (.tmp 88) (.tmp 91)), true, some (87, true)⟩,
  ⟨some 93, (.pick (.tmp 87) (.tmp 92) (.const (.bool false))), true, some (85, false)⟩,
  ⟨some 94, (.pick (.tmp 85) (.const (.bool true)) (.tmp 93)), true, none⟩,
  ⟨some 95, (.mov (.tmp 94)), true, none⟩,
  ⟨some 96, (.call i_transitlaw36_exampleHolds []), true, some (95, true)⟩,
  ⟨some 97, (.pick (.tmp 95) (.tmp 96) (.const (.bool false))), true, none⟩,
  ⟨some 6, (.mov (.tmp 97)), true, none⟩]
def c9_30 : ACode := (.region o9_29 [6])
def w9_30 (P : Program) (Q : Exit → Slots → Mem → Prop) (M : Mem) (v13 : V) (v14 : V) (v15 : V) (v16 : V) (v17 : V) (v18 : V) : Prop :=
  @OptBH (some v14) ⟨fun b79_1 =>
  @OptBH (unV .not (.bool b79_1)) ⟨fun b80_2 =>
  @BIfH b80_2
  ⟨@CallH P i_transitlaw36_exampleHolds [] M ⟨fun t96_8 M8 => @OptBH (some t96_8) ⟨fun b96_8 =>
  Q .normal [(6, (.bool b96_8))] M8⟩⟩⟩
  ⟨@OptBH (some v16) ⟨fun b82_11 =>
  @OptBH (unV .not (.bool b82_11)) ⟨fun b83_12 =>
  @BIfH b83_12
  ⟨@CallH P i_transitlaw36_exampleHolds [] M ⟨fun t96_17 M17 => @OptBH (some t96_17) ⟨fun b96_17 =>
  Q .normal [(6, (.bool b96_17))] M17⟩⟩⟩
  ⟨@OptBH (some v18) ⟨fun b86_20 =>
  @BIfH b86_20
  ⟨@OptVH (binV .add .none v13 v15) ⟨fun t91_25 =>
  @OptBH (binV .leq .none v17 t91_25) ⟨fun b92_26 =>
  @BIfH b92_26
  ⟨@CallH P i_transitlaw36_exampleHolds [] M ⟨fun t96_30 M30 => @OptBH (some t96_30) ⟨fun b96_30 =>
  Q .normal [(6, (.bool b96_30))] M30⟩⟩⟩
  ⟨Q .normal [(6, (.bool false))] M⟩⟩⟩⟩
  ⟨Q .normal [(6, (.bool false))] M⟩⟩⟩⟩⟩⟩⟩⟩
theorem e9_30 (P : Program) (Q : Exit → Slots → Mem → Prop) (s : Slots) (M : Mem) : wpC P c9_30 Q s M = w9_30 P Q M (sget s 13) (sget s 14) (sget s 15) (sget s 16) (sget s 17) (sget s 18) := by kernel_rfl
def c9_31 : ACode := (.seq c9_30 .ret)
def c9_32 : ACode := (.seq c9_28 c9_31)
def c9_33 : ACode := (.seq c9_26 c9_32)
def c9_34 : ACode := (.seq c9_24 c9_33)
def c9_35 : ACode := (.seq c9_22 c9_34)
def c9_36 : ACode := (.seq c9_17 c9_35)
def c9_37 : ACode := (.seq c9_15 c9_36)
def c9_38 : ACode := (.seq c9_10 c9_37)
def c9_39 : ACode := (.seq c9_8 c9_38)
def c9_40 : ACode := (.seq c9_6 c9_39)
def c9_41 : ACode := (.seq c9_1 c9_40)
def fn_transitlaw36_FarestateJoins : AFn := ⟨98, [(.tmp 6)], c9_41⟩
theorem fn_transitlaw36_FarestateJoins_ok : resFn PR h_transitlaw36_FarestateJoins i_transitlaw36_FarestateJoins = some fn_transitlaw36_FarestateJoins := by kernel_rfl

def h_transitlaw36_small : Hints := ⟨[(0, [1]), (1, [1, 7]), (2, [2]), (3, [1, 3]), (4, [1, 3, 12]), (5, [1, 3]), (6, [1, 3, 22]), (7, [2]), (8, [2])], [(4, [1, 3])], []⟩
def o10_0 : List AOper := [⟨some 1, (.box 4 (.tmp 0)), false, none⟩,
  ⟨some 2, (.mov (.const (.bool false))), true, none⟩]
def c10_1 : ACode := (.region o10_0 [1])
def w10_1 (_P : Program) (Q : Exit → Slots → Mem → Prop) (M : Mem) (v0 : V) : Prop :=
  @OptMH (boxV 4 v0 M) ⟨fun t1_1 M1 =>
  Q .normal [(1, t1_1)] M1⟩
theorem e10_1 (P : Program) (Q : Exit → Slots → Mem → Prop) (s : Slots) (M : Mem) : wpC P c10_1 Q s M = w10_1 P Q M (sget s 0) := by kernel_rfl
def o10_2 : List AOper := [⟨some 2, (.mov (.const (.bool false))), true, none⟩]
def c10_3 : ACode := (.region o10_2 [2])
def w10_3 (_P : Program) (Q : Exit → Slots → Mem → Prop) (M : Mem) : Prop :=
  Q .normal [(2, (.bool false))] M
theorem e10_3 (P : Program) (Q : Exit → Slots → Mem → Prop) (s : Slots) (M : Mem) : wpC P c10_3 Q s M = w10_3 P Q M := by kernel_rfl
def c10_4 : ACode := (.seq c10_3 .ret)
def o10_5 : List AOper := [⟨some 4, (.fieldAddr 0 (.tmp 1)), false, none⟩,
  ⟨some 5, (.load 1 false (.tmp 4)), false, none⟩,
  ⟨some 6, (.lenSl (.tmp 5)), false, none⟩,
  ⟨some 7, (.bin .gtr .none (.tmp 6) (.const (.int .i64 20))), true, none⟩]
def c10_6 : ACode := (.seq (.region o10_5 [1, 7]) (.cond (.tmp 7) c10_4 .skip))
def w10_6 (P : Program) (Q : Exit → Slots → Mem → Prop) (M : Mem) (v1 : V) : Prop :=
  @OptVH (moveV 0 v1) ⟨fun t4_1 =>
  @OptVH (loadV 1 false t4_1 M) ⟨fun t5_2 =>
  @OptVH (lenV t5_2 M) ⟨fun t6_3 =>
  @OptBH (binV .gtr .none t6_3 (.int .i64 20)) ⟨fun b7_4 =>
  @BIfH b7_4
  ⟨wpC P c10_4 Q [(1, v1), (7, (.bool b7_4))] M⟩
  ⟨Q .normal [(1, v1), (7, (.bool b7_4))] M⟩⟩⟩⟩⟩
theorem e10_6 (P : Program) (Q : Exit → Slots → Mem → Prop) (s : Slots) (M : Mem) : wpC P c10_6 Q s M = w10_6 P Q M (sget s 1) := by kernel_rfl
def o10_7 : List AOper := [⟨some 3, (.mov (.const (.int .i64 0))), false, none⟩]
def c10_8 : ACode := (.region o10_7 [1, 3])
def w10_8 (_P : Program) (Q : Exit → Slots → Mem → Prop) (M : Mem) (v1 : V) : Prop :=
  Q .normal [(1, v1), (3, (.int .i64 0))] M
theorem e10_8 (P : Program) (Q : Exit → Slots → Mem → Prop) (s : Slots) (M : Mem) : wpC P c10_8 Q s M = w10_8 P Q M (sget s 1) := by kernel_rfl
def o10_9 : List AOper := [⟨some 8, (.mov (.tmp 3)), false, none⟩,
  ⟨some 9, (.fieldAddr 0 (.tmp 1)), false, none⟩,
  ⟨some 10, (.load 1 false (.tmp 9)), false, none⟩,
  ⟨some 11, (.lenSl (.tmp 10)), false, none⟩,
  ⟨some 12, (.bin .lss .none (.tmp 8) (.tmp 11)), true, none⟩]
def c10_10 : ACode := (.seq (.region o10_9 [1, 3, 12]) (.cond (.tmp 12) .skip (.exit 0)))
def w10_10 (_P : Program) (Q : Exit → Slots → Mem → Prop) (M : Mem) (v1 : V) (v3 : V) : Prop :=
  @OptVH (moveV 0 v1) ⟨fun t9_2 =>
  @OptVH (loadV 1 false t9_2 M) ⟨fun t10_3 =>
  @OptVH (lenV t10_3 M) ⟨fun t11_4 =>
  @OptBH (binV .lss .none v3 t11_4) ⟨fun b12_5 =>
  @BIfH b12_5
  ⟨Q .normal [(1, v1), (3, v3), (12, (.bool b12_5))] M⟩
  ⟨Q (.exit 0) [(1, v1), (3, v3), (12, (.bool b12_5))] M⟩⟩⟩⟩⟩
theorem e10_10 (P : Program) (Q : Exit → Slots → Mem → Prop) (s : Slots) (M : Mem) : wpC P c10_10 Q s M = w10_10 P Q M (sget s 1) (sget s 3) := by kernel_rfl
def o10_11 : List AOper := [⟨some 2, (.mov (.const (.bool false))), true, none⟩]
def c10_12 : ACode := (.region o10_11 [2])
def w10_12 (_P : Program) (Q : Exit → Slots → Mem → Prop) (M : Mem) : Prop :=
  Q .normal [(2, (.bool false))] M
theorem e10_12 (P : Program) (Q : Exit → Slots → Mem → Prop) (s : Slots) (M : Mem) : wpC P c10_12 Q s M = w10_12 P Q M := by kernel_rfl
def c10_13 : ACode := (.seq c10_12 .ret)
def o10_14 : List AOper := [⟨some 15, (.fieldAddr 0 (.tmp 1)), false, none⟩,
  ⟨some 16, (.load 1 false (.tmp 15)), false, none⟩,
  ⟨some 17, (.mov (.tmp 3)), false, none⟩,
  ⟨some 18, (.indexSl 6 (.tmp 16) (.tmp 17)), false, none⟩,
  ⟨some 19, (.fieldAddr 0 (.tmp 18)), false, none⟩,
  ⟨some 20, (.load 1 false (.tmp 19)), false, none⟩,
  ⟨some 21, (.lenStr (.tmp 20)), false, none⟩,
  ⟨some 22, (.bin .gtr .none (.tmp 21) (.const (.int .i64 1024))), true, none⟩]
def c10_15 : ACode := (.seq (.region o10_14 [1, 3, 22]) (.cond (.tmp 22) c10_13 .skip))
def w10_15 (P : Program) (Q : Exit → Slots → Mem → Prop) (M : Mem) (v1 : V) (v3 : V) : Prop :=
  @OptVH (moveV 0 v1) ⟨fun t15_1 =>
  @OptVH (loadV 1 false t15_1 M) ⟨fun t16_2 =>
  @OptVH (indexSlV 6 t16_2 v3 M) ⟨fun t18_4 =>
  @OptVH (moveV 0 t18_4) ⟨fun t19_5 =>
  @OptVH (loadV 1 false t19_5 M) ⟨fun t20_6 =>
  @OptVH (lenStrV t20_6) ⟨fun t21_7 =>
  @OptBH (binV .gtr .none t21_7 (.int .i64 1024)) ⟨fun b22_8 =>
  @BIfH b22_8
  ⟨wpC P c10_13 Q [(1, v1), (3, v3), (22, (.bool b22_8))] M⟩
  ⟨Q .normal [(1, v1), (3, v3), (22, (.bool b22_8))] M⟩⟩⟩⟩⟩⟩⟩⟩
theorem e10_15 (P : Program) (Q : Exit → Slots → Mem → Prop) (s : Slots) (M : Mem) : wpC P c10_15 Q s M = w10_15 P Q M (sget s 1) (sget s 3) := by kernel_rfl
def c10_16 : ACode := (.block 1 c10_15)
def o10_17 : List AOper := [⟨some 13, (.mov (.tmp 3)), false, none⟩,
  ⟨some 14, (.bin .add .none (.tmp 13) (.const (.int .i64 1))), false, none⟩,
  ⟨some 3, (.mov (.tmp 14)), false, none⟩]
def c10_18 : ACode := (.region o10_17 [1, 3])
def w10_18 (_P : Program) (Q : Exit → Slots → Mem → Prop) (M : Mem) (v1 : V) (v3 : V) : Prop :=
  @OptVH (binV .add .none v3 (.int .i64 1)) ⟨fun t14_2 =>
  Q .normal [(1, v1), (3, t14_2)] M⟩
theorem e10_18 (P : Program) (Q : Exit → Slots → Mem → Prop) (s : Slots) (M : Mem) : wpC P c10_18 Q s M = w10_18 P Q M (sget s 1) (sget s 3) := by kernel_rfl
def c10_19 : ACode := (.seq c10_16 c10_18)
def c10_20 : ACode := (.seq c10_10 c10_19)
def c10_21 : ACode := (.loop [1, 3] c10_20)
def c10_22 : ACode := (.block 0 c10_21)
def c10_23 : ACode := (.seq c10_8 c10_22)
def o10_24 : List AOper := [⟨some 2, (.mov (.const (.bool true))), true, none⟩]
def c10_25 : ACode := (.region o10_24 [2])
def w10_25 (_P : Program) (Q : Exit → Slots → Mem → Prop) (M : Mem) : Prop :=
  Q .normal [(2, (.bool true))] M
theorem e10_25 (P : Program) (Q : Exit → Slots → Mem → Prop) (s : Slots) (M : Mem) : wpC P c10_25 Q s M = w10_25 P Q M := by kernel_rfl
def c10_26 : ACode := (.seq c10_25 .ret)
def c10_27 : ACode := (.seq c10_23 c10_26)
def c10_28 : ACode := (.seq c10_6 c10_27)
def c10_29 : ACode := (.seq c10_1 c10_28)
def fn_transitlaw36_small : AFn := ⟨23, [(.tmp 2)], c10_29⟩
theorem fn_transitlaw36_small_ok : resFn PR h_transitlaw36_small i_transitlaw36_small = some fn_transitlaw36_small := by kernel_rfl

def h_transitlaw36_exampleHolds : Hints := ⟨[(0, []), (1, [1]), (2, [1, 2, 3]), (3, [1, 2, 3, 4, 5]), (4, [1, 2, 3, 4, 5, 6, 7]), (5, [1, 2, 3, 4, 5, 6, 7, 8, 9]), (6, [1, 2, 3, 4, 5, 6, 7, 8, 9, 10, 11]), (7, [1, 2, 4, 6, 8, 10, 80]), (8, [0]), (9, [1, 2, 4, 6, 8, 10, 12, 13]), (10, [1, 2, 6, 8, 10, 12, 13, 14, 15]), (11, [1, 2, 6, 8, 10, 12, 13, 14, 15, 16, 17]), (12, [1, 2, 6, 8, 10, 12, 13, 14, 15, 16, 17, 18, 19]), (13, [1, 2, 6, 8, 10, 12, 13, 14, 15, 16, 17, 18, 19, 21]), (14, [1, 2, 6, 8, 10, 12, 13, 14, 15, 16, 17, 18, 19, 21, 22]), (15, [2, 6, 8, 10, 12, 13, 14, 15, 16, 17, 18, 19, 21, 22, 23, 24]), (16, [2, 6, 8, 10, 12, 13, 14, 15, 16, 17, 18, 19, 21, 22, 23, 24, 26]), (17, [0])], [], []⟩
def o11_0 : List AOper := [⟨some 0, (.mov (.const (.bool false))), true, none⟩]
def c11_1 : ACode := (.region o11_0 [])
def w11_1 (_P : Program) (Q : Exit → Slots → Mem → Prop) (M : Mem) : Prop :=
  Q .normal [] M
theorem e11_1 (P : Program) (Q : Exit → Slots → Mem → Prop) (s : Slots) (M : Mem) : wpC P c11_1 Q s M = w11_1 P Q M := by kernel_rfl
def o11_2 : List AOper := [⟨some 27, (.build [(.int .i64 0), (.int .i64 0), (.int .i64 0), (.int .i64 0)] [(0, (1, (.const (.int .i64 0)))), (1, (1, (.const (.int .i64 600)))), (2, (1, (.const (.int .i64 1)))), (3, (1, (.const (.int .i64 1))))]), false, none⟩,
  ⟨some 28, (.build [(.int .i64 0), (.int .i64 0), (.int .i64 0), (.int .i64 0)] [(0, (1, (.const (.int .i64 1800)))), (1, (1, (.const (.int .i64 2400)))), (2, (1, (.const (.int .i64 2)))), (3, (1, (.const (.int .i64 1))))]), false, none⟩,
  ⟨some 29, (.build [(.int .i64 0), (.int .i64 0), (.int .i64 0), (.int .i64 0)] [(0, (1, (.const (.int .i64 3000)))), (1, (1, (.const (.int .i64 3600)))), (2, (1, (.const (.int .i64 1)))), (3, (1, (.const (.int .i64 1))))]), false, none⟩,
  ⟨some 30, (.buildSlice [(.int .i64 0), (.int .i64 0), (.int .i64 0), (.int .i64 0), (.int .i64 0), (.int .i64 0), (.int .i64 0), (.int .i64 0), (.int .i64 0), (.int .i64 0), (.int .i64 0), (.int .i64 0)] 4 3 [(0, (4, (.tmp 27))), (4, (4, (.tmp 28))), (8, (4, (.tmp 29)))]), false, none⟩,
  ⟨some 1, (.mov (.tmp 30)), false, none⟩]
def c11_3 : ACode := (.region o11_2 [1])
def w11_3 (_P : Program) (Q : Exit → Slots → Mem → Prop) (M : Mem) : Prop :=
  @OptVH (buildV [(.int .i64 0), (.int .i64 0), (.int .i64 0), (.int .i64 0)] [(0, 1, (.int .i64 0)), (1, 1, (.int .i64 600)), (2, 1, (.int .i64 1)), (3, 1, (.int .i64 1))]) ⟨fun t27_1 =>
  @OptVH (buildV [(.int .i64 0), (.int .i64 0), (.int .i64 0), (.int .i64 0)] [(0, 1, (.int .i64 1800)), (1, 1, (.int .i64 2400)), (2, 1, (.int .i64 2)), (3, 1, (.int .i64 1))]) ⟨fun t28_2 =>
  @OptVH (buildV [(.int .i64 0), (.int .i64 0), (.int .i64 0), (.int .i64 0)] [(0, 1, (.int .i64 3000)), (1, 1, (.int .i64 3600)), (2, 1, (.int .i64 1)), (3, 1, (.int .i64 1))]) ⟨fun t29_3 =>
  @OptVH (buildSliceV [(.int .i64 0), (.int .i64 0), (.int .i64 0), (.int .i64 0), (.int .i64 0), (.int .i64 0), (.int .i64 0), (.int .i64 0), (.int .i64 0), (.int .i64 0), (.int .i64 0), (.int .i64 0)] 4 3 [(0, 4, t27_1), (4, 4, t28_2), (8, 4, t29_3)]) ⟨fun t30_4 =>
  Q .normal [(1, t30_4)] M⟩⟩⟩⟩
theorem e11_3 (P : Program) (Q : Exit → Slots → Mem → Prop) (s : Slots) (M : Mem) : wpC P c11_3 Q s M = w11_3 P Q M := by kernel_rfl
def o11_4 : List AOper := [⟨some 32, (.call i_transitlaw36_example []), false, none⟩,
  ⟨some 33, (.call i_transitlaw36_made [(.tmp 32), (.const (.slice [] .nil))]), false, none⟩,
  ⟨some 31, (.mov (.tmp 33)), false, none⟩,
  ⟨some 34, (.extract (.tmp 31) 0), false, none⟩,
  ⟨some 35, (.extract (.tmp 31) 1), true, none⟩,
  ⟨some 2, (.mov (.tmp 34)), false, none⟩,
  ⟨some 3, (.mov (.tmp 35)), true, none⟩]
def c11_5 : ACode := (.region o11_4 [1, 2, 3])
def w11_5 (P : Program) (Q : Exit → Slots → Mem → Prop) (M : Mem) (v1 : V) : Prop :=
  @CallH P i_transitlaw36_example [] M ⟨fun t32_1 M1 =>
  @CallH P i_transitlaw36_made [t32_1, (.slice [] .nil)] M1 ⟨fun t33_2 M2 =>
  @OptVH (extractV t33_2 0) ⟨fun t34_4 =>
  @OptBH (extractV t33_2 1) ⟨fun b35_5 =>
  Q .normal [(1, v1), (2, t34_4), (3, (.bool b35_5))] M2⟩⟩⟩⟩
theorem e11_5 (P : Program) (Q : Exit → Slots → Mem → Prop) (s : Slots) (M : Mem) : wpC P c11_5 Q s M = w11_5 P Q M (sget s 1) := by kernel_rfl
def o11_6 : List AOper := [⟨some 37, (.call i_transitlaw36_example []), false, none⟩,
  ⟨some 38, (.mov (.tmp 1)), false, none⟩,
  ⟨some 39, (.slice 4 (.tmp 38) none (some (.const (.int .i64 1))) none), false, none⟩,
  ⟨some 40, (.call i_transitlaw36_made [(.tmp 37), (.tmp 39)]), false, none⟩,
  ⟨some 36, (.mov (.tmp 40)), false, none⟩,
  ⟨some 41, (.extract (.tmp 36) 0), false, none⟩,
  ⟨some 42, (.extract (.tmp 36) 1), true, none⟩,
  ⟨some 4, (.mov (.tmp 41)), false, none⟩,
  ⟨some 5, (.mov (.tmp 42)), true, none⟩]
def c11_7 : ACode := (.mixed o11_6 [true, true, true, false, true, true, true, true, true] [1, 2, 3, 4, 5])
def w11_7 (P : Program) (Q : Exit → Slots → Mem → Prop) (M : Mem) (v1 : V) (v2 : V) (v3 : V) : Prop :=
  @CallQ P i_transitlaw36_example [] M ⟨fun t37_1 M1 =>
  @OptVH (sliceV 4 v1 none (some (.int .i64 1)) none M1) ⟨fun t39_3 =>
  @CallH P i_transitlaw36_made [t37_1, t39_3] M1 ⟨fun t40_4 M4 =>
  @OptVH (extractV t40_4 0) ⟨fun t41_6 =>
  @OptBH (extractV t40_4 1) ⟨fun b42_7 =>
  Q .normal [(1, v1), (2, v2), (3, v3), (4, t41_6), (5, (.bool b42_7))] M4⟩⟩⟩⟩⟩
theorem e11_7 (P : Program) (Q : Exit → Slots → Mem → Prop) (s : Slots) (M : Mem) : wpC P c11_7 Q s M = w11_7 P Q M (sget s 1) (sget s 2) (sget s 3) := by kernel_rfl
def o11_8 : List AOper := [⟨some 44, (.call i_transitlaw36_example []), false, none⟩,
  ⟨some 45, (.mov (.tmp 1)), false, none⟩,
  ⟨some 46, (.slice 4 (.tmp 45) none (some (.const (.int .i64 2))) none), false, none⟩,
  ⟨some 47, (.call i_transitlaw36_made [(.tmp 44), (.tmp 46)]), false, none⟩,
  ⟨some 43, (.mov (.tmp 47)), false, none⟩,
  ⟨some 48, (.extract (.tmp 43) 0), false, none⟩,
  ⟨some 49, (.extract (.tmp 43) 1), true, none⟩,
  ⟨some 6, (.mov (.tmp 48)), false, none⟩,
  ⟨some 7, (.mov (.tmp 49)), true, none⟩]
def c11_9 : ACode := (.mixed o11_8 [true, true, true, false, true, true, true, true, true] [1, 2, 3, 4, 5, 6, 7])
def w11_9 (P : Program) (Q : Exit → Slots → Mem → Prop) (M : Mem) (v1 : V) (v2 : V) (v3 : V) (v4 : V) (v5 : V) : Prop :=
  @CallQ P i_transitlaw36_example [] M ⟨fun t44_1 M1 =>
  @OptVH (sliceV 4 v1 none (some (.int .i64 2)) none M1) ⟨fun t46_3 =>
  @CallH P i_transitlaw36_made [t44_1, t46_3] M1 ⟨fun t47_4 M4 =>
  @OptVH (extractV t47_4 0) ⟨fun t48_6 =>
  @OptBH (extractV t47_4 1) ⟨fun b49_7 =>
  Q .normal [(1, v1), (2, v2), (3, v3), (4, v4), (5, v5), (6, t48_6), (7, (.bool b49_7))] M4⟩⟩⟩⟩⟩
theorem e11_9 (P : Program) (Q : Exit → Slots → Mem → Prop) (s : Slots) (M : Mem) : wpC P c11_9 Q s M = w11_9 P Q M (sget s 1) (sget s 2) (sget s 3) (sget s 4) (sget s 5) := by kernel_rfl
def o11_10 : List AOper := [⟨some 51, (.call i_transitlaw36_example []), false, none⟩,
  ⟨some 52, (.mov (.tmp 1)), false, none⟩,
  ⟨some 53, (.call i_transitlaw36_made [(.tmp 51), (.tmp 52)]), false, none⟩,
  ⟨some 50, (.mov (.tmp 53)), false, none⟩,
  ⟨some 54, (.extract (.tmp 50) 0), false, none⟩,
  ⟨some 55, (.extract (.tmp 50) 1), true, none⟩,
  ⟨some 8, (.mov (.tmp 54)), false, none⟩,
  ⟨some 9, (.mov (.tmp 55)), true, none⟩]
def c11_11 : ACode := (.region o11_10 [1, 2, 3, 4, 5, 6, 7, 8, 9])
def w11_11 (P : Program) (Q : Exit → Slots → Mem → Prop) (M : Mem) (v1 : V) (v2 : V) (v3 : V) (v4 : V) (v5 : V) (v6 : V) (v7 : V) : Prop :=
  @CallH P i_transitlaw36_example [] M ⟨fun t51_1 M1 =>
  @CallH P i_transitlaw36_made [t51_1, v1] M1 ⟨fun t53_3 M3 =>
  @OptVH (extractV t53_3 0) ⟨fun t54_5 =>
  @OptBH (extractV t53_3 1) ⟨fun b55_6 =>
  Q .normal [(1, v1), (2, v2), (3, v3), (4, v4), (5, v5), (6, v6), (7, v7), (8, t54_5), (9, (.bool b55_6))] M3⟩⟩⟩⟩
theorem e11_11 (P : Program) (Q : Exit → Slots → Mem → Prop) (s : Slots) (M : Mem) : wpC P c11_11 Q s M = w11_11 P Q M (sget s 1) (sget s 2) (sget s 3) (sget s 4) (sget s 5) (sget s 6) (sget s 7) := by kernel_rfl
def o11_12 : List AOper := [⟨some 57, (.call i_transitlaw36_example []), false, none⟩,
  ⟨some 58, (.mov (.tmp 1)), false, none⟩,
  ⟨some 59, (.slice 4 (.tmp 58) none (some (.const (.int .i64 2))) none), false, none⟩,
  ⟨some 60, (.call i_transitlaw36_made [(.tmp 57), (.tmp 59)]), false, none⟩,
  ⟨some 56, (.mov (.tmp 60)), false, none⟩,
  ⟨some 61, (.extract (.tmp 56) 0), false, none⟩,
  ⟨some 62, (.extract (.tmp 56) 1), true, none⟩,
  ⟨some 10, (.mov (.tmp 61)), false, none⟩,
  ⟨some 11, (.mov (.tmp 62)), true, none⟩]
def c11_13 : ACode := (.mixed o11_12 [true, true, true, false, true, true, true, true, true] [1, 2, 3, 4, 5, 6, 7, 8, 9, 10, 11])
def w11_13 (P : Program) (Q : Exit → Slots → Mem → Prop) (M : Mem) (v1 : V) (v2 : V) (v3 : V) (v4 : V) (v5 : V) (v6 : V) (v7 : V) (v8 : V) (v9 : V) : Prop :=
  @CallQ P i_transitlaw36_example [] M ⟨fun t57_1 M1 =>
  @OptVH (sliceV 4 v1 none (some (.int .i64 2)) none M1) ⟨fun t59_3 =>
  @CallH P i_transitlaw36_made [t57_1, t59_3] M1 ⟨fun t60_4 M4 =>
  @OptVH (extractV t60_4 0) ⟨fun t61_6 =>
  @OptBH (extractV t60_4 1) ⟨fun b62_7 =>
  Q .normal [(1, v1), (2, v2), (3, v3), (4, v4), (5, v5), (6, v6), (7, v7), (8, v8), (9, v9), (10, t61_6), (11, (.bool b62_7))] M4⟩⟩⟩⟩⟩
theorem e11_13 (P : Program) (Q : Exit → Slots → Mem → Prop) (s : Slots) (M : Mem) : wpC P c11_13 Q s M = w11_13 P Q M (sget s 1) (sget s 2) (sget s 3) (sget s 4) (sget s 5) (sget s 6) (sget s 7) (sget s 8) (sget s 9) := by kernel_rfl
def o11_14 : List AOper := [⟨some 0, (.mov (.const (.bool false))), true, none⟩]
def c11_15 : ACode := (.region o11_14 [0])
def w11_15 (_P : Program) (Q : Exit → Slots → Mem → Prop) (M : Mem) : Prop :=
  Q .normal [(0, (.bool false))] M
theorem e11_15 (P : Program) (Q : Exit → Slots → Mem → Prop) (s : Slots) (M : Mem) : wpC P c11_15 Q s M = w11_15 P Q M := by kernel_rfl
def c11_16 : ACode := (.seq c11_15 .ret)
def o11_17 : List AOper := [⟨some 63, (.mov (.tmp 3)), true, none⟩,
  ⟨some 64, (.un .not (.tmp 63)), true, none⟩,
  ⟨some 65, (.mov (.tmp 64)), true, none⟩,
  ⟨some 66, (.mov (.tmp 5)), true, some (65, false)⟩,
  ⟨some 67, (.un .not (.tmp 66)), true, some (65, false)⟩,
  ⟨some 68, (.pick (.tmp 65) (.const (.bool true)) (.tmp 67)), true, none⟩,
  ⟨some 69, (.mov (.tmp 68)), true, none⟩,
  ⟨some 70, (.mov (.tmp 7)), true, some (69, false)⟩,
  ⟨some 71, (.un .not (.tmp 70)), true, some (69, false)⟩,
  ⟨some 72, (.pick (.tmp 69) (.const (.bool true)) (.tmp 71)), true, none⟩,
  ⟨some 73, (.mov (.tmp 72)), true, none⟩,
  ⟨some 74, (.mov (.tmp 9)), true, some (73, false)⟩,
  ⟨some 75, (.un .not (.tmp 74)), true, some (73, false)⟩,
  ⟨some 76, (.pick (.tmp 73) (.const (.bool true)) (.tmp 75)), true, none⟩,
  ⟨some 77, (.mov (.tmp 76)), true, none⟩,
  ⟨some 78, (.mov (.tmp 11)), true, some (77, false)⟩,
  ⟨some 79, (.un .not (.tmp 78)), true, some (77, false)⟩,
  ⟨some 80, (.pick (.tmp 77) (.const (.bool true)) (.tmp 79)), true, none⟩]
def c11_18 : ACode := (.seq (.region o11_17 [1, 2, 4, 6, 8, 10, 80]) (.cond (.tmp 80) c11_16 .skip))
def w11_18 (P : Program) (Q : Exit → Slots → Mem → Prop) (M : Mem) (v1 : V) (v2 : V) (v3 : V) (v4 : V) (v5 : V) (v6 : V) (v7 : V) (v8 : V) (v9 : V) (v10 : V) (v11 : V) : Prop :=
  @OptBH (some v3) ⟨fun b63_1 =>
  @OptBH (unV .not (.bool b63_1)) ⟨fun b64_2 =>
  @BIfH b64_2
  ⟨wpC P c11_16 Q [(1, v1), (2, v2), (4, v4), (6, v6), (8, v8), (10, v10), (80, (.bool true))] M⟩
  ⟨@OptBH (some v5) ⟨fun b66_11 =>
  @OptBH (unV .not (.bool b66_11)) ⟨fun b67_12 =>
  @BIfH b67_12
  ⟨wpC P c11_16 Q [(1, v1), (2, v2), (4, v4), (6, v6), (8, v8), (10, v10), (80, (.bool true))] M⟩
  ⟨@OptBH (some v7) ⟨fun b70_20 =>
  @OptBH (unV .not (.bool b70_20)) ⟨fun b71_21 =>
  @BIfH b71_21
  ⟨wpC P c11_16 Q [(1, v1), (2, v2), (4, v4), (6, v6), (8, v8), (10, v10), (80, (.bool true))] M⟩
  ⟨@OptBH (some v9) ⟨fun b74_27 =>
  @OptBH (unV .not (.bool b74_27)) ⟨fun b75_28 =>
  @BIfH b75_28
  ⟨wpC P c11_16 Q [(1, v1), (2, v2), (4, v4), (6, v6), (8, v8), (10, v10), (80, (.bool true))] M⟩
  ⟨@OptBH (some v11) ⟨fun b78_32 =>
  @OptBH (unV .not (.bool b78_32)) ⟨fun b79_33 =>
  @BIfH b79_33
  ⟨wpC P c11_16 Q [(1, v1), (2, v2), (4, v4), (6, v6), (8, v8), (10, v10), (80, (.bool b79_33))] M⟩
  ⟨Q .normal [(1, v1), (2, v2), (4, v4), (6, v6), (8, v8), (10, v10), (80, (.bool b79_33))] M⟩⟩⟩⟩⟩⟩⟩⟩⟩⟩⟩⟩⟩⟩⟩
theorem e11_18 (P : Program) (Q : Exit → Slots → Mem → Prop) (s : Slots) (M : Mem) : wpC P c11_18 Q s M = w11_18 P Q M (sget s 1) (sget s 2) (sget s 3) (sget s 4) (sget s 5) (sget s 6) (sget s 7) (sget s 8) (sget s 9) (sget s 10) (sget s 11) := by kernel_rfl
def o11_19 : List AOper := [⟨some 82, (.mov (.tmp 2)), false, none⟩,
  ⟨some 83, (.call i_farestate_State_Price [(.tmp 82)]), false, none⟩,
  ⟨some 81, (.mov (.tmp 83)), false, none⟩,
  ⟨some 84, (.extract (.tmp 81) 0), false, none⟩,
  ⟨some 85, (.extract (.tmp 81) 1), true, none⟩,
  ⟨some 12, (.mov (.tmp 84)), false, none⟩,
  ⟨some 13, (.mov (.tmp 85)), true, none⟩]
def c11_20 : ACode := (.region o11_19 [1, 2, 4, 6, 8, 10, 12, 13])
def w11_20 (P : Program) (Q : Exit → Slots → Mem → Prop) (M : Mem) (v1 : V) (v2 : V) (v4 : V) (v6 : V) (v8 : V) (v10 : V) : Prop :=
  @CallH P i_farestate_State_Price [v2] M ⟨fun t83_2 M2 =>
  @OptVH (extractV t83_2 0) ⟨fun t84_4 =>
  @OptBH (extractV t83_2 1) ⟨fun b85_5 =>
  Q .normal [(1, v1), (2, v2), (4, v4), (6, v6), (8, v8), (10, v10), (12, t84_4), (13, (.bool b85_5))] M2⟩⟩⟩
theorem e11_20 (P : Program) (Q : Exit → Slots → Mem → Prop) (s : Slots) (M : Mem) : wpC P c11_20 Q s M = w11_20 P Q M (sget s 1) (sget s 2) (sget s 4) (sget s 6) (sget s 8) (sget s 10) := by kernel_rfl
def o11_21 : List AOper := [⟨some 87, (.mov (.tmp 4)), false, none⟩,
  ⟨some 88, (.call i_farestate_State_Price [(.tmp 87)]), false, none⟩,
  ⟨some 86, (.mov (.tmp 88)), false, none⟩,
  ⟨some 89, (.extract (.tmp 86) 0), false, none⟩,
  ⟨some 90, (.extract (.tmp 86) 1), true, none⟩,
  ⟨some 14, (.mov (.tmp 89)), false, none⟩,
  ⟨some 15, (.mov (.tmp 90)), true, none⟩]
def c11_22 : ACode := (.region o11_21 [1, 2, 6, 8, 10, 12, 13, 14, 15])
def w11_22 (P : Program) (Q : Exit → Slots → Mem → Prop) (M : Mem) (v1 : V) (v2 : V) (v4 : V) (v6 : V) (v8 : V) (v10 : V) (v12 : V) (v13 : V) : Prop :=
  @CallH P i_farestate_State_Price [v4] M ⟨fun t88_2 M2 =>
  @OptVH (extractV t88_2 0) ⟨fun t89_4 =>
  @OptBH (extractV t88_2 1) ⟨fun b90_5 =>
  Q .normal [(1, v1), (2, v2), (6, v6), (8, v8), (10, v10), (12, v12), (13, v13), (14, t89_4), (15, (.bool b90_5))] M2⟩⟩⟩
theorem e11_22 (P : Program) (Q : Exit → Slots → Mem → Prop) (s : Slots) (M : Mem) : wpC P c11_22 Q s M = w11_22 P Q M (sget s 1) (sget s 2) (sget s 4) (sget s 6) (sget s 8) (sget s 10) (sget s 12) (sget s 13) := by kernel_rfl
def o11_23 : List AOper := [⟨some 92, (.mov (.tmp 6)), false, none⟩,
  ⟨some 93, (.call i_farestate_State_Price [(.tmp 92)]), false, none⟩,
  ⟨some 91, (.mov (.tmp 93)), false, none⟩,
  ⟨some 94, (.extract (.tmp 91) 0), false, none⟩,
  ⟨some 95, (.extract (.tmp 91) 1), true, none⟩,
  ⟨some 16, (.mov (.tmp 94)), false, none⟩,
  ⟨some 17, (.mov (.tmp 95)), true, none⟩]
def c11_24 : ACode := (.region o11_23 [1, 2, 6, 8, 10, 12, 13, 14, 15, 16, 17])
def w11_24 (P : Program) (Q : Exit → Slots → Mem → Prop) (M : Mem) (v1 : V) (v2 : V) (v6 : V) (v8 : V) (v10 : V) (v12 : V) (v13 : V) (v14 : V) (v15 : V) : Prop :=
  @CallH P i_farestate_State_Price [v6] M ⟨fun t93_2 M2 =>
  @OptVH (extractV t93_2 0) ⟨fun t94_4 =>
  @OptBH (extractV t93_2 1) ⟨fun b95_5 =>
  Q .normal [(1, v1), (2, v2), (6, v6), (8, v8), (10, v10), (12, v12), (13, v13), (14, v14), (15, v15), (16, t94_4), (17, (.bool b95_5))] M2⟩⟩⟩
theorem e11_24 (P : Program) (Q : Exit → Slots → Mem → Prop) (s : Slots) (M : Mem) : wpC P c11_24 Q s M = w11_24 P Q M (sget s 1) (sget s 2) (sget s 6) (sget s 8) (sget s 10) (sget s 12) (sget s 13) (sget s 14) (sget s 15) := by kernel_rfl
def o11_25 : List AOper := [⟨some 97, (.mov (.tmp 8)), false, none⟩,
  ⟨some 98, (.call i_farestate_State_Price [(.tmp 97)]), false, none⟩,
  ⟨some 96, (.mov (.tmp 98)), false, none⟩,
  ⟨some 99, (.extract (.tmp 96) 0), false, none⟩,
  ⟨some 100, (.extract (.tmp 96) 1), true, none⟩,
  ⟨some 18, (.mov (.tmp 99)), false, none⟩,
  ⟨some 19, (.mov (.tmp 100)), true, none⟩]
def c11_26 : ACode := (.region o11_25 [1, 2, 6, 8, 10, 12, 13, 14, 15, 16, 17, 18, 19])
def w11_26 (P : Program) (Q : Exit → Slots → Mem → Prop) (M : Mem) (v1 : V) (v2 : V) (v6 : V) (v8 : V) (v10 : V) (v12 : V) (v13 : V) (v14 : V) (v15 : V) (v16 : V) (v17 : V) : Prop :=
  @CallH P i_farestate_State_Price [v8] M ⟨fun t98_2 M2 =>
  @OptVH (extractV t98_2 0) ⟨fun t99_4 =>
  @OptBH (extractV t98_2 1) ⟨fun b100_5 =>
  Q .normal [(1, v1), (2, v2), (6, v6), (8, v8), (10, v10), (12, v12), (13, v13), (14, v14), (15, v15), (16, v16), (17, v17), (18, t99_4), (19, (.bool b100_5))] M2⟩⟩⟩
theorem e11_26 (P : Program) (Q : Exit → Slots → Mem → Prop) (s : Slots) (M : Mem) : wpC P c11_26 Q s M = w11_26 P Q M (sget s 1) (sget s 2) (sget s 6) (sget s 8) (sget s 10) (sget s 12) (sget s 13) (sget s 14) (sget s 15) (sget s 16) (sget s 17) := by kernel_rfl
def o11_27 : List AOper := [⟨some 102, (.build [(.slice [] .nil), (.int .i64 0), (.int .i64 0), (.int .i64 0)] [(3, (1, (.const (.int .i64 (-1)))))]), false, none⟩,
  ⟨some 103, (.call i_farestate_Start [(.tmp 102)]), false, none⟩,
  ⟨some 101, (.mov (.tmp 103)), false, none⟩,
  ⟨some 104, (.extract (.tmp 101) 0), false, none⟩,
  ⟨some 105, (.extract (.tmp 101) 1), false, none⟩,
  ⟨some 20, (.mov (.tmp 104)), false, none⟩,
  ⟨some 21, (.mov (.tmp 105)), false, none⟩]
def c11_28 : ACode := (.region o11_27 [1, 2, 6, 8, 10, 12, 13, 14, 15, 16, 17, 18, 19, 21])
def w11_28 (P : Program) (Q : Exit → Slots → Mem → Prop) (M : Mem) (v1 : V) (v2 : V) (v6 : V) (v8 : V) (v10 : V) (v12 : V) (v13 : V) (v14 : V) (v15 : V) (v16 : V) (v17 : V) (v18 : V) (v19 : V) : Prop :=
  @OptVH (buildV [(.slice [] .nil), (.int .i64 0), (.int .i64 0), (.int .i64 0)] [(3, 1, (.int .i64 (-1)))]) ⟨fun t102_1 =>
  @CallH P i_farestate_Start [t102_1] M ⟨fun t103_2 M2 =>
  @OptVH (extractV t103_2 0) ⟨fun _t104_4 =>
  @OptVH (extractV t103_2 1) ⟨fun t105_5 =>
  Q .normal [(1, v1), (2, v2), (6, v6), (8, v8), (10, v10), (12, v12), (13, v13), (14, v14), (15, v15), (16, v16), (17, v17), (18, v18), (19, v19), (21, t105_5)] M2⟩⟩⟩⟩
theorem e11_28 (P : Program) (Q : Exit → Slots → Mem → Prop) (s : Slots) (M : Mem) : wpC P c11_28 Q s M = w11_28 P Q M (sget s 1) (sget s 2) (sget s 6) (sget s 8) (sget s 10) (sget s 12) (sget s 13) (sget s 14) (sget s 15) (sget s 16) (sget s 17) (sget s 18) (sget s 19) := by kernel_rfl
def o11_29 : List AOper := [⟨some 22, (.mov (.const .nilp)), false, none⟩]
def c11_30 : ACode := (.region o11_29 [1, 2, 6, 8, 10, 12, 13, 14, 15, 16, 17, 18, 19, 21, 22])
def w11_30 (_P : Program) (Q : Exit → Slots → Mem → Prop) (M : Mem) (v1 : V) (v2 : V) (v6 : V) (v8 : V) (v10 : V) (v12 : V) (v13 : V) (v14 : V) (v15 : V) (v16 : V) (v17 : V) (v18 : V) (v19 : V) (v21 : V) : Prop :=
  Q .normal [(1, v1), (2, v2), (6, v6), (8, v8), (10, v10), (12, v12), (13, v13), (14, v14), (15, v15), (16, v16), (17, v17), (18, v18), (19, v19), (21, v21), (22, .nilp)] M
theorem e11_30 (P : Program) (Q : Exit → Slots → Mem → Prop) (s : Slots) (M : Mem) : wpC P c11_30 Q s M = w11_30 P Q M (sget s 1) (sget s 2) (sget s 6) (sget s 8) (sget s 10) (sget s 12) (sget s 13) (sget s 14) (sget s 15) (sget s 16) (sget s 17) (sget s 18) (sget s 19) (sget s 21) := by kernel_rfl
def o11_31 : List AOper := [⟨some 107, (.mov (.tmp 22)), false, none⟩,
  ⟨some 108, (.mov (.tmp 1)), false, none⟩,
  ⟨some 109, (.indexSl 4 (.tmp 108) (.const (.int .i64 0))), false, none⟩,
  ⟨some 110, (.load 4 true (.tmp 109)), false, none⟩,
  ⟨some 111, (.call i_farestate_State_Ride [(.tmp 107), (.tmp 110)]), false, none⟩,
  ⟨some 106, (.mov (.tmp 111)), false, none⟩,
  ⟨some 112, (.extract (.tmp 106) 0), false, none⟩,
  ⟨some 113, (.extract (.tmp 106) 1), false, none⟩,
  ⟨some 23, (.mov (.tmp 112)), false, none⟩,
  ⟨some 24, (.mov (.tmp 113)), false, none⟩]
def c11_32 : ACode := (.region o11_31 [2, 6, 8, 10, 12, 13, 14, 15, 16, 17, 18, 19, 21, 22, 23, 24])
def w11_32 (P : Program) (Q : Exit → Slots → Mem → Prop) (M : Mem) (v1 : V) (v2 : V) (v6 : V) (v8 : V) (v10 : V) (v12 : V) (v13 : V) (v14 : V) (v15 : V) (v16 : V) (v17 : V) (v18 : V) (v19 : V) (v21 : V) (v22 : V) : Prop :=
  @OptVH (indexSlV 4 v1 (.int .i64 0) M) ⟨fun t109_3 =>
  @OptVH (loadV 4 true t109_3 M) ⟨fun t110_4 =>
  @CallH P i_farestate_State_Ride [v22, t110_4] M ⟨fun t111_5 M5 =>
  @OptVH (extractV t111_5 0) ⟨fun t112_7 =>
  @OptVH (extractV t111_5 1) ⟨fun t113_8 =>
  Q .normal [(2, v2), (6, v6), (8, v8), (10, v10), (12, v12), (13, v13), (14, v14), (15, v15), (16, v16), (17, v17), (18, v18), (19, v19), (21, v21), (22, v22), (23, t112_7), (24, t113_8)] M5⟩⟩⟩⟩⟩
theorem e11_32 (P : Program) (Q : Exit → Slots → Mem → Prop) (s : Slots) (M : Mem) : wpC P c11_32 Q s M = w11_32 P Q M (sget s 1) (sget s 2) (sget s 6) (sget s 8) (sget s 10) (sget s 12) (sget s 13) (sget s 14) (sget s 15) (sget s 16) (sget s 17) (sget s 18) (sget s 19) (sget s 21) (sget s 22) := by kernel_rfl
def o11_33 : List AOper := [⟨some 115, (.mov (.tmp 22)), false, none⟩,
  ⟨some 116, (.call i_farestate_State_Price [(.tmp 115)]), false, none⟩,
  ⟨some 114, (.mov (.tmp 116)), false, none⟩,
  ⟨some 117, (.extract (.tmp 114) 0), false, none⟩,
  ⟨some 118, (.extract (.tmp 114) 1), true, none⟩,
  ⟨some 25, (.mov (.tmp 117)), false, none⟩,
  ⟨some 26, (.mov (.tmp 118)), true, none⟩]
def c11_34 : ACode := (.region o11_33 [2, 6, 8, 10, 12, 13, 14, 15, 16, 17, 18, 19, 21, 22, 23, 24, 26])
def w11_34 (P : Program) (Q : Exit → Slots → Mem → Prop) (M : Mem) (v2 : V) (v6 : V) (v8 : V) (v10 : V) (v12 : V) (v13 : V) (v14 : V) (v15 : V) (v16 : V) (v17 : V) (v18 : V) (v19 : V) (v21 : V) (v22 : V) (v23 : V) (v24 : V) : Prop :=
  @CallH P i_farestate_State_Price [v22] M ⟨fun t116_2 M2 =>
  @OptVH (extractV t116_2 0) ⟨fun _t117_4 =>
  @OptBH (extractV t116_2 1) ⟨fun b118_5 =>
  Q .normal [(2, v2), (6, v6), (8, v8), (10, v10), (12, v12), (13, v13), (14, v14), (15, v15), (16, v16), (17, v17), (18, v18), (19, v19), (21, v21), (22, v22), (23, v23), (24, v24), (26, (.bool b118_5))] M2⟩⟩⟩
theorem e11_34 (P : Program) (Q : Exit → Slots → Mem → Prop) (s : Slots) (M : Mem) : wpC P c11_34 Q s M = w11_34 P Q M (sget s 2) (sget s 6) (sget s 8) (sget s 10) (sget s 12) (sget s 13) (sget s 14) (sget s 15) (sget s 16) (sget s 17) (sget s 18) (sget s 19) (sget s 21) (sget s 22) (sget s 23) (sget s 24) := by kernel_rfl
def o11_35 : List AOper := [⟨some 119, (.mov (.tmp 12)), false, none⟩,
  ⟨some 120, (.bin .eql .none (.tmp 119) (.const (.int .i64 0))), true, none⟩,
  ⟨some 121, (.mov (.tmp 120)), true, none⟩,
  ⟨some 122, (.mov (.tmp 13)), true, some (121, true)⟩,
  ⟨some 123, (.pick (.tmp 121) (.tmp 122) (.const (.bool false))), true, none⟩,
  ⟨some 124, (.mov (.tmp 123)), true, none⟩,
  ⟨some 125, (.mov (.tmp 14)), false, some (124, true)⟩,
  ⟨some 126, (.bin .eql .none (.tmp 125) (.const (.int .i64 200))), true, some (124, true)⟩,
  ⟨some 127, (.pick (.tmp 124) (.tmp 126) (.const (.bool false))), true, none⟩,
  ⟨some 128, (.mov (.tmp 127)), true, none⟩,
  ⟨some 129, (.mov (.tmp 15)), true, some (128, true)⟩,
  ⟨some 130, (.pick (.tmp 128) (.tmp 129) (.const (.bool false))), true, none⟩,
  ⟨some 131, (.mov (.tmp 130)), true, none⟩,
  ⟨some 132, (.mov (.tmp 16)), false, some (131, true)⟩,
  ⟨some 133, (.bin .eql .none (.tmp 132) (.const (.int .i64 350))), true, some (131, true)⟩,
  ⟨some 134, (.pick (.tmp 131) (.tmp 133) (.const (.bool false))), true, none⟩,
  ⟨some 135, (.mov (.tmp 134)), true, none⟩,
  ⟨some 136, (.mov (.tmp 17)), true, some (135, true)⟩,
  ⟨some 137, (.pick (.tmp 135) (.tmp 136) (.const (.bool false))), true, none⟩,
  ⟨some 138, (.mov (.tmp 137)), true, none⟩,
  ⟨some 139, (.mov (.tmp 18)), false, some (138, true)⟩,
  ⟨some 140, (.bin .eql .none (.tmp 139) (.const (.int .i64 350))), true, some (138, true)⟩,
  ⟨some 141, (.pick (.tmp 138) (.tmp 140) (.const (.bool false))), true, none⟩,
  ⟨some 142, (.mov (.tmp 141)), true, none⟩,
  ⟨some 143, (.mov (.tmp 19)), true, some (142, true)⟩,
  ⟨some 144, (.pick (.tmp 142) (.tmp 143) (.const (.bool false))), true, none⟩,
  ⟨some 145, (.mov (.tmp 144)), true, none⟩,
  ⟨some 146, (.mov (.tmp 8)), false, some (145, true)⟩,
  ⟨some 147, (.call i_farestate_State_Rides [(.tmp 146)]), false, some (145, true)⟩,
  ⟨some 148, (.bin .eql .none (.tmp 147) (.const (.int .i64 3))), true, some (145, true)⟩,
  ⟨some 149, (.pick (.tmp 145) (.tmp 148) (.const (.bool false))), true, none⟩,
  ⟨some 150, (.mov (.tmp 149)), true, none⟩,
  ⟨some 151, (.mov (.tmp 6)), false, some (150, true)⟩,
  ⟨some 152, (.mov (.tmp 2)), false, some (150, true)⟩,
  ⟨some 153, (.call i_farestate_State_Dominates [(.tmp 151), (.tmp 152)]), true, some (150, true)⟩,
  ⟨some 154, (.un .not (.tmp 153)), true, some (150, true)⟩,
  ⟨some 155, (.pick (.tmp 150) (.tmp 154) (.const (.bool false))), true, none⟩,
  ⟨some 156, (.mov (.tmp 155)), true, none⟩,
  ⟨some 157, (.mov (.tmp 6)), false, some (156, true)⟩,
  ⟨some 158, (.mov (.tmp 10)), false, some (156, true)⟩,
  ⟨some 159, (.call i_farestate_State_Dominates [(.tmp 157), (.tmp 158)]), true, some (156, true)⟩,
  ⟨some 160, (.pick (.tmp 156) (.tmp 159) (.const (.bool false))), true, none⟩,
  ⟨some 161, (.mov (.tmp 160)), true, none⟩,
  ⟨some 162, (.mov (.tmp 10)), false, some (161, true)⟩,
  ⟨some 163, (.mov (.tmp 6)), false, some (161, true)⟩,
  ⟨some 164, (.call i_farestate_State_Dominates [(.tmp 162), (.tmp 163)]), true, some (161, true)⟩,
  ⟨some 165, (.pick (.tmp 161) (.tmp 164) (.const (.bool false))), true, none⟩,
  ⟨some 166, (.mov (.tmp 165)), true, none⟩,
  ⟨some 167, (.mov (.tmp 21)), false, some (166, true)⟩,
  ⟨some 168, (.bin .eql .none (.tmp 167) (.const (.int .i64 20))), true, some (166, true)⟩,
  ⟨some 169, (.pick (.tmp 166) (.tmp 168) (.const (.bool false))), true, none⟩,
  ⟨some 170, (.mov (.tmp 169)), true, none⟩,
  ⟨some 171, (.mov (.tmp 23)), false, some (170, true)⟩,
  ⟨some 172, (.bin .eql .ptr (.tmp 171) (.const .nilp)), true, some (170, true)⟩,
  ⟨some 173, (.pick (.tmp 170) (.tmp 172) (.const (.bool false))), true, none⟩,
  ⟨some 174, (.mov (.tmp 173)), true, none⟩,
  ⟨some 175, (.mov (.tmp 24)), false, some (174, true)⟩,
  ⟨some 176, (.bin .eql .none (.tmp 175) (.const (.int .i64 40))), true, some (174, true)⟩,
  ⟨some 177, (.pick (.tmp 174) (.tmp 176) (.const (.bool false))), true, none⟩,
  ⟨some 178, (.mov (.tmp 177)), true, none⟩,
  ⟨some 179, (.mov (.tmp 26)), true, some (178, true)⟩,
  ⟨some 180, (.un .not (.tmp 179)), true, some (178, true)⟩,
  ⟨some 181, (.pick (.tmp 178) (.tmp 180) (.const (.bool false))), true, none⟩,
  ⟨some 182, (.mov (.tmp 181)), true, none⟩,
  ⟨some 183, (.mov (.tmp 22)), false, some (182, true)⟩,
  ⟨some 184, (.call i_farestate_State_Rides [(.tmp 183)]), false, some (182, true)⟩,
  ⟨some 185, (.bin .eql .none (.tmp 184) (.const (.int .i64 0))), true, some (182, true)⟩,
  ⟨some 186, (.pick (.tmp 182) (.tmp 185) (.const (.bool false))), true, none⟩,
  ⟨some 187, (.mov (.tmp 186)), true, none⟩,
  ⟨some 188, (.mov (.tmp 22)), false, some (187, true)⟩,
  ⟨some 189, (.mov (.tmp 2)), false, some (187, true)⟩,
  ⟨some 190, (.call i_farestate_State_Dominates [(.tmp 188), (.tmp 189)]), true, some (187, true)⟩,
  ⟨some 191, (.un .not (.tmp 190)), true, some (187, true)⟩,
  ⟨some 192, (.pick (.tmp 187) (.tmp 191) (.const (.bool false))), true, none⟩,
  ⟨some 193, (.mov (.tmp 192)), true, none⟩,
  ⟨some 194, (.mov (.tmp 2)), false, some (193, true)⟩,
  ⟨some 195, (.mov (.tmp 22)), false, some (193, true)⟩,
  ⟨some 196, (.call i_farestate_State_Dominates [(.tmp 194), (.tmp 195)]), true, some (193, true)⟩,
  ⟨some 197, (.un .not (.tmp 196)), true, some (193, true)⟩,
  ⟨some 198, (.pick (.tmp 193) (.tmp 197) (.const (.bool false))), true, none⟩,
  ⟨some 0, (.mov (.tmp 198)), true, none⟩]
def c11_36 : ACode := (.region o11_35 [0])
def w11_36 (P : Program) (Q : Exit → Slots → Mem → Prop) (M : Mem) (v2 : V) (v6 : V) (v8 : V) (v10 : V) (v12 : V) (v13 : V) (v14 : V) (v15 : V) (v16 : V) (v17 : V) (v18 : V) (v19 : V) (v21 : V) (v22 : V) (v23 : V) (v24 : V) (v26 : V) : Prop :=
  @OptBH (binV .eql .none v12 (.int .i64 0)) ⟨fun b120_2 =>
  @BIfH b120_2
  ⟨@OptBH (some v13) ⟨fun b122_4 =>
  @BIfH b122_4
  ⟨@OptBH (binV .eql .none v14 (.int .i64 200)) ⟨fun b126_8 =>
  @BIfH b126_8
  ⟨@OptBH (some v15) ⟨fun b129_11 =>
  @BIfH b129_11
  ⟨@OptBH (binV .eql .none v16 (.int .i64 350)) ⟨fun b133_15 =>
  @BIfH b133_15
  ⟨@OptBH (some v17) ⟨fun b136_18 =>
  @BIfH b136_18
  ⟨@OptBH (binV .eql .none v18 (.int .i64 350)) ⟨fun b140_22 =>
  @BIfH b140_22
  ⟨@OptBH (some v19) ⟨fun b143_25 =>
  @BIfH b143_25
  ⟨@CallH P i_farestate_State_Rides [v8] M ⟨fun t147_29 M29 =>
  @OptBH (binV .eql .none t147_29 (.int .i64 3)) ⟨fun b148_30 =>
  @BIfH b148_30
  ⟨@CallH P i_farestate_State_Dominates [v6, v2] M29 ⟨fun t153_35 M35 => @OptBH (some t153_35) ⟨fun b153_35 =>
  @OptBH (unV .not (.bool b153_35)) ⟨fun b154_36 =>
  @BIfH b154_36
  ⟨@CallH P i_farestate_State_Dominates [v6, v10] M35 ⟨fun t159_41 M41 => @OptBH (some t159_41) ⟨fun b159_41 =>
  @BIfH b159_41
  ⟨@CallH P i_farestate_State_Dominates [v10, v6] M41 ⟨fun t164_46 M46 => @OptBH (some t164_46) ⟨fun b164_46 =>
  @BIfH b164_46
  ⟨@OptBH (binV .eql .none v21 (.int .i64 20)) ⟨fun b168_50 =>
  @BIfH b168_50
  ⟨@OptBH (binV .eql .ptr v23 .nilp) ⟨fun b172_54 =>
  @BIfH b172_54
  ⟨@OptBH (binV .eql .none v24 (.int .i64 40)) ⟨fun b176_58 =>
  @BIfH b176_58
  ⟨@OptBH (some v26) ⟨fun b179_61 =>
  @OptBH (unV .not (.bool b179_61)) ⟨fun b180_62 =>
  @BIfH b180_62
  ⟨@CallH P i_farestate_State_Rides [v22] M46 ⟨fun t184_66 M66 =>
  @OptBH (binV .eql .none t184_66 (.int .i64 0)) ⟨fun b185_67 =>
  @BIfH b185_67
  ⟨@CallH P i_farestate_State_Dominates [v22, v2] M66 ⟨fun t190_72 M72 => @OptBH (some t190_72) ⟨fun b190_72 =>
  @OptBH (unV .not (.bool b190_72)) ⟨fun b191_73 =>
  @BIfH b191_73
  ⟨@CallH P i_farestate_State_Dominates [v2, v22] M72 ⟨fun t196_78 M78 => @OptBH (some t196_78) ⟨fun b196_78 =>
  @OptBH (unV .not (.bool b196_78)) ⟨fun b197_79 =>
  Q .normal [(0, (.bool b197_79))] M78⟩⟩⟩⟩
  ⟨Q .normal [(0, (.bool false))] M72⟩⟩⟩⟩⟩
  ⟨Q .normal [(0, (.bool false))] M66⟩⟩⟩⟩
  ⟨Q .normal [(0, (.bool false))] M46⟩⟩⟩⟩
  ⟨Q .normal [(0, (.bool false))] M46⟩⟩⟩
  ⟨Q .normal [(0, (.bool false))] M46⟩⟩⟩
  ⟨Q .normal [(0, (.bool false))] M46⟩⟩⟩
  ⟨Q .normal [(0, (.bool false))] M46⟩⟩⟩⟩
  ⟨Q .normal [(0, (.bool false))] M41⟩⟩⟩⟩
  ⟨Q .normal [(0, (.bool false))] M35⟩⟩⟩⟩⟩
  ⟨Q .normal [(0, (.bool false))] M29⟩⟩⟩⟩
  ⟨Q .normal [(0, (.bool false))] M⟩⟩⟩
  ⟨Q .normal [(0, (.bool false))] M⟩⟩⟩
  ⟨Q .normal [(0, (.bool false))] M⟩⟩⟩
  ⟨Q .normal [(0, (.bool false))] M⟩⟩⟩
  ⟨Q .normal [(0, (.bool false))] M⟩⟩⟩
  ⟨Q .normal [(0, (.bool false))] M⟩⟩⟩
  ⟨Q .normal [(0, (.bool false))] M⟩⟩⟩
  ⟨Q .normal [(0, (.bool false))] M⟩⟩
theorem e11_36 (P : Program) (Q : Exit → Slots → Mem → Prop) (s : Slots) (M : Mem) : wpC P c11_36 Q s M = w11_36 P Q M (sget s 2) (sget s 6) (sget s 8) (sget s 10) (sget s 12) (sget s 13) (sget s 14) (sget s 15) (sget s 16) (sget s 17) (sget s 18) (sget s 19) (sget s 21) (sget s 22) (sget s 23) (sget s 24) (sget s 26) := by kernel_rfl
def c11_37 : ACode := (.seq c11_36 .ret)
def c11_38 : ACode := (.seq c11_34 c11_37)
def c11_39 : ACode := (.seq c11_32 c11_38)
def c11_40 : ACode := (.seq c11_30 c11_39)
def c11_41 : ACode := (.seq c11_28 c11_40)
def c11_42 : ACode := (.seq c11_26 c11_41)
def c11_43 : ACode := (.seq c11_24 c11_42)
def c11_44 : ACode := (.seq c11_22 c11_43)
def c11_45 : ACode := (.seq c11_20 c11_44)
def c11_46 : ACode := (.seq c11_18 c11_45)
def c11_47 : ACode := (.seq c11_13 c11_46)
def c11_48 : ACode := (.seq c11_11 c11_47)
def c11_49 : ACode := (.seq c11_9 c11_48)
def c11_50 : ACode := (.seq c11_7 c11_49)
def c11_51 : ACode := (.seq c11_5 c11_50)
def c11_52 : ACode := (.seq c11_3 c11_51)
def c11_53 : ACode := (.seq c11_1 c11_52)
def fn_transitlaw36_exampleHolds : AFn := ⟨199, [(.tmp 0)], c11_53⟩
theorem fn_transitlaw36_exampleHolds_ok : resFn PR h_transitlaw36_exampleHolds i_transitlaw36_exampleHolds = some fn_transitlaw36_exampleHolds := by kernel_rfl

def h_farestate_Start : Hints := ⟨[(0, [1]), (1, [1, 5]), (2, [1, 13]), (3, [2, 3]), (4, [1, 6]), (5, [6]), (6, [2, 3])], [], []⟩
def o12_0 : List AOper := [⟨some 1, (.box 4 (.tmp 0)), false, none⟩,
  ⟨some 2, (.mov (.const .nilp)), false, none⟩,
  ⟨some 3, (.mov (.const (.int .i64 0))), false, none⟩]
def c12_1 : ACode := (.region o12_0 [1])
def w12_1 (_P : Program) (Q : Exit → Slots → Mem → Prop) (M : Mem) (v0 : V) : Prop :=
  @OptMH (boxV 4 v0 M) ⟨fun t1_1 M1 =>
  Q .normal [(1, t1_1)] M1⟩
theorem e12_1 (P : Program) (Q : Exit → Slots → Mem → Prop) (s : Slots) (M : Mem) : wpC P c12_1 Q s M = w12_1 P Q M (sget s 0) := by kernel_rfl
def o12_2 : List AOper := [⟨some 8, (.load 4 true (.tmp 1)), false, none⟩,
  ⟨some 9, (.call i_product_Check [(.tmp 8)]), false, none⟩,
  ⟨some 7, (.mov (.tmp 9)), false, none⟩,
  ⟨some 10, (.extract (.tmp 7) 0), false, none⟩,
  ⟨some 11, (.extract (.tmp 7) 1), false, none⟩,
  ⟨some 4, (.mov (.tmp 10)), false, none⟩,
  ⟨some 5, (.mov (.tmp 11)), false, none⟩]
def c12_3 : ACode := (.region o12_2 [1, 5])
def w12_3 (P : Program) (Q : Exit → Slots → Mem → Prop) (M : Mem) (v1 : V) : Prop :=
  @OptVH (loadV 4 true v1 M) ⟨fun t8_1 =>
  @CallH P i_product_Check [t8_1] M ⟨fun t9_2 M2 =>
  @OptVH (extractV t9_2 0) ⟨fun _t10_4 =>
  @OptVH (extractV t9_2 1) ⟨fun t11_5 =>
  Q .normal [(1, v1), (5, t11_5)] M2⟩⟩⟩⟩
theorem e12_3 (P : Program) (Q : Exit → Slots → Mem → Prop) (s : Slots) (M : Mem) : wpC P c12_3 Q s M = w12_3 P Q M (sget s 1) := by kernel_rfl
def o12_4 : List AOper := [⟨some 2, (.mov (.const .nilp)), false, none⟩,
  ⟨some 3, (.mov (.const (.int .i64 20))), false, none⟩]
def c12_5 : ACode := (.region o12_4 [2, 3])
def w12_5 (_P : Program) (Q : Exit → Slots → Mem → Prop) (M : Mem) : Prop :=
  Q .normal [(2, .nilp), (3, (.int .i64 20))] M
theorem e12_5 (P : Program) (Q : Exit → Slots → Mem → Prop) (s : Slots) (M : Mem) : wpC P c12_5 Q s M = w12_5 P Q M := by kernel_rfl
def c12_6 : ACode := (.seq c12_5 .ret)
def o12_7 : List AOper := [⟨some 12, (.mov (.tmp 5)), false, none⟩,
  ⟨some 13, (.bin .neq .none (.tmp 12) (.const (.int .i64 0))), true, none⟩]
def c12_8 : ACode := (.seq (.region o12_7 [1, 13]) (.cond (.tmp 13) c12_6 .skip))
def w12_8 (P : Program) (Q : Exit → Slots → Mem → Prop) (M : Mem) (v1 : V) (v5 : V) : Prop :=
  @OptBH (binV .neq .none v5 (.int .i64 0)) ⟨fun b13_2 =>
  @BIfH b13_2
  ⟨wpC P c12_6 Q [(1, v1), (13, (.bool b13_2))] M⟩
  ⟨Q .normal [(1, v1), (13, (.bool b13_2))] M⟩⟩
theorem e12_8 (P : Program) (Q : Exit → Slots → Mem → Prop) (s : Slots) (M : Mem) : wpC P c12_8 Q s M = w12_8 P Q M (sget s 1) (sget s 5) := by kernel_rfl
def c12_9 : ACode := (.seq c12_3 c12_8)
def o12_10 : List AOper := [⟨some 14, (.load 4 true (.tmp 1)), false, none⟩,
  ⟨some 6, (.alloc [(.slice [] .nil), (.int .i64 0), (.int .i64 0), (.int .i64 0)]), false, none⟩,
  ⟨none, (.store 4 (.tmp 6) (.tmp 14)), false, none⟩]
def c12_11 : ACode := (.region o12_10 [1, 6])
def w12_11 (_P : Program) (Q : Exit → Slots → Mem → Prop) (M : Mem) (v1 : V) : Prop :=
  @OptVH (loadV 4 true v1 M) ⟨fun t14_1 =>
  @OptMH (allocV [(.slice [] .nil), (.int .i64 0), (.int .i64 0), (.int .i64 0)] M) ⟨fun t6_2 M2 =>
  @OptMH (storeVM 4 t6_2 t14_1 M2) ⟨fun _tx_3 M3 =>
  Q .normal [(1, v1), (6, t6_2)] M3⟩⟩⟩
theorem e12_11 (P : Program) (Q : Exit → Slots → Mem → Prop) (s : Slots) (M : Mem) : wpC P c12_11 Q s M = w12_11 P Q M (sget s 1) := by kernel_rfl
def o12_12 : List AOper := [⟨some 15, (.fieldAddr 0 (.tmp 1)), false, none⟩,
  ⟨some 16, (.load 1 false (.tmp 15)), false, none⟩,
  ⟨some 17, (.append true 6 56 (.const (.slice [] .nil)) (.tmp 16)), false, none⟩,
  ⟨some 18, (.fieldAddr 0 (.tmp 6)), false, none⟩,
  ⟨none, (.store 1 (.tmp 18) (.tmp 17)), false, none⟩]
def c12_13 : ACode := (.region o12_12 [6])
def w12_13 (_P : Program) (Q : Exit → Slots → Mem → Prop) (M : Mem) (v1 : V) (v6 : V) : Prop :=
  @OptVH (moveV 0 v1) ⟨fun t15_1 =>
  @OptVH (loadV 1 false t15_1 M) ⟨fun t16_2 =>
  @OptMH (appV true 6 56 (.slice [] .nil) t16_2 M) ⟨fun t17_3 M3 =>
  @OptVH (moveV 0 v6) ⟨fun t18_4 =>
  @OptMH (storeVM 1 t18_4 t17_3 M3) ⟨fun _tx_5 M5 =>
  Q .normal [(6, v6)] M5⟩⟩⟩⟩⟩
theorem e12_13 (P : Program) (Q : Exit → Slots → Mem → Prop) (s : Slots) (M : Mem) : wpC P c12_13 Q s M = w12_13 P Q M (sget s 1) (sget s 6) := by kernel_rfl
def o12_14 : List AOper := [⟨some 19, (.build [.nilp, .nilp, (.int .i64 0), (.int .i64 0), (.int .i64 0), (.int .i64 0), (.int .i64 0), (.int .i64 0), (.int .i64 0), (.int .i64 0), (.int .i64 0), (.int .i64 0), (.int .i64 0), (.int .i64 0), (.int .i64 0), (.int .i64 0)] [(0, (1, (.tmp 6)))]), false, none⟩,
  ⟨some 20, (.box 16 (.tmp 19)), false, none⟩,
  ⟨some 2, (.mov (.tmp 20)), false, none⟩,
  ⟨some 3, (.mov (.const (.int .i64 0))), false, none⟩]
def c12_15 : ACode := (.region o12_14 [2, 3])
def w12_15 (_P : Program) (Q : Exit → Slots → Mem → Prop) (M : Mem) (v6 : V) : Prop :=
  @OptVH (buildV [.nilp, .nilp, (.int .i64 0), (.int .i64 0), (.int .i64 0), (.int .i64 0), (.int .i64 0), (.int .i64 0), (.int .i64 0), (.int .i64 0), (.int .i64 0), (.int .i64 0), (.int .i64 0), (.int .i64 0), (.int .i64 0), (.int .i64 0)] [(0, 1, v6)]) ⟨fun t19_1 =>
  @OptMH (boxV 16 t19_1 M) ⟨fun t20_2 M2 =>
  Q .normal [(2, t20_2), (3, (.int .i64 0))] M2⟩⟩
theorem e12_15 (P : Program) (Q : Exit → Slots → Mem → Prop) (s : Slots) (M : Mem) : wpC P c12_15 Q s M = w12_15 P Q M (sget s 6) := by kernel_rfl
def c12_16 : ACode := (.seq c12_15 .ret)
def c12_17 : ACode := (.seq c12_13 c12_16)
def c12_18 : ACode := (.seq c12_11 c12_17)
def c12_19 : ACode := (.seq c12_9 c12_18)
def c12_20 : ACode := (.seq c12_1 c12_19)
def fn_farestate_Start : AFn := ⟨21, [(.tmp 2), (.tmp 3)], c12_20⟩
theorem fn_farestate_Start_ok : resFn PR h_farestate_Start i_farestate_Start = some fn_farestate_Start := by kernel_rfl

def h_transitref35_Valid : Hints := ⟨[(0, [1]), (1, [4]), (2, [2])], [], []⟩
def o13_0 : List AOper := [⟨some 1, (.box 4 (.tmp 0)), false, none⟩,
  ⟨some 2, (.mov (.const (.bool false))), true, none⟩]
def c13_1 : ACode := (.region o13_0 [1])
def w13_1 (_P : Program) (Q : Exit → Slots → Mem → Prop) (M : Mem) (v0 : V) : Prop :=
  @OptMH (boxV 4 v0 M) ⟨fun t1_1 M1 =>
  Q .normal [(1, t1_1)] M1⟩
theorem e13_1 (P : Program) (Q : Exit → Slots → Mem → Prop) (s : Slots) (M : Mem) : wpC P c13_1 Q s M = w13_1 P Q M (sget s 0) := by kernel_rfl
def o13_2 : List AOper := [⟨some 6, (.load 4 true (.tmp 1)), false, none⟩,
  ⟨some 7, (.call i_transitref26_Fares [(.tmp 6)]), false, none⟩,
  ⟨some 5, (.mov (.tmp 7)), false, none⟩,
  ⟨some 8, (.extract (.tmp 5) 0), false, none⟩,
  ⟨some 9, (.extract (.tmp 5) 1), false, none⟩,
  ⟨some 3, (.mov (.tmp 8)), false, none⟩,
  ⟨some 4, (.mov (.tmp 9)), false, none⟩]
def c13_3 : ACode := (.region o13_2 [4])
def w13_3 (P : Program) (Q : Exit → Slots → Mem → Prop) (M : Mem) (v1 : V) : Prop :=
  @OptVH (loadV 4 true v1 M) ⟨fun t6_1 =>
  @CallH P i_transitref26_Fares [t6_1] M ⟨fun t7_2 M2 =>
  @OptVH (extractV t7_2 0) ⟨fun _t8_4 =>
  @OptVH (extractV t7_2 1) ⟨fun t9_5 =>
  Q .normal [(4, t9_5)] M2⟩⟩⟩⟩
theorem e13_3 (P : Program) (Q : Exit → Slots → Mem → Prop) (s : Slots) (M : Mem) : wpC P c13_3 Q s M = w13_3 P Q M (sget s 1) := by kernel_rfl
def o13_4 : List AOper := [⟨some 10, (.mov (.tmp 4)), false, none⟩,
  ⟨some 11, (.bin .eql .none (.tmp 10) (.const (.int .i64 0))), true, none⟩,
  ⟨some 2, (.mov (.tmp 11)), true, none⟩]
def c13_5 : ACode := (.region o13_4 [2])
def w13_5 (_P : Program) (Q : Exit → Slots → Mem → Prop) (M : Mem) (v4 : V) : Prop :=
  @OptBH (binV .eql .none v4 (.int .i64 0)) ⟨fun b11_2 =>
  Q .normal [(2, (.bool b11_2))] M⟩
theorem e13_5 (P : Program) (Q : Exit → Slots → Mem → Prop) (s : Slots) (M : Mem) : wpC P c13_5 Q s M = w13_5 P Q M (sget s 4) := by kernel_rfl
def c13_6 : ACode := (.seq c13_5 .ret)
def c13_7 : ACode := (.seq c13_3 c13_6)
def c13_8 : ACode := (.seq c13_1 c13_7)
def fn_transitref35_Valid : AFn := ⟨12, [(.tmp 2)], c13_8⟩
theorem fn_transitref35_Valid_ok : resFn PR h_transitref35_Valid i_transitref35_Valid = some fn_transitref35_Valid := by kernel_rfl

def h_farestate_State_Price : Hints := ⟨[(0, [0]), (1, [0, 18]), (2, [2, 3]), (3, [0, 4]), (4, [0, 4, 46]), (5, [2, 3]), (6, [2, 3])], [], []⟩
def o14_0 : List AOper := [⟨some 2, (.mov (.const (.int .i64 0))), false, none⟩,
  ⟨some 3, (.mov (.const (.bool false))), true, none⟩]
def c14_1 : ACode := (.region o14_0 [0])
def w14_1 (_P : Program) (Q : Exit → Slots → Mem → Prop) (M : Mem) (v0 : V) : Prop :=
  Q .normal [(0, v0)] M
theorem e14_1 (P : Program) (Q : Exit → Slots → Mem → Prop) (s : Slots) (M : Mem) : wpC P c14_1 Q s M = w14_1 P Q M (sget s 0) := by kernel_rfl
def o14_2 : List AOper := [⟨some 2, (.mov (.const (.int .i64 0))), false, none⟩,
  ⟨some 3, (.mov (.const (.bool false))), true, none⟩]
def c14_3 : ACode := (.region o14_2 [2, 3])
def w14_3 (_P : Program) (Q : Exit → Slots → Mem → Prop) (M : Mem) : Prop :=
  Q .normal [(2, (.int .i64 0)), (3, (.bool false))] M
theorem e14_3 (P : Program) (Q : Exit → Slots → Mem → Prop) (s : Slots) (M : Mem) : wpC P c14_3 Q s M = w14_3 P Q M := by kernel_rfl
def c14_4 : ACode := (.seq c14_3 .ret)
def o14_5 : List AOper := [⟨some 5, (.mov (.tmp 0)), false, none⟩,
  ⟨some 6, (.bin .eql .ptr (.tmp 5) (.const .nilp)), true, none⟩,
  ⟨some 7, (.mov (.tmp 6)), true, none⟩,
  ⟨some 8, (.mov (.tmp 0)), false, some (7, false)⟩,
  ⟨some 9, (.mov (.tmp 0)), false, some (7, false)⟩,
  ⟨some 10, (.nilCheck (.tmp 9)), false, some (7, false)⟩,
  ⟨some 11, (.fieldAddr 6 (.tmp 10)), false, some (7, false)⟩,
  ⟨some 12, (.load 1 false (.tmp 11)), false, some (7, false)⟩,
  ⟨some 13, (.nilCheck (.tmp 8)), false, some (7, false)⟩,
  ⟨some 14, (.fieldAddr 7 (.tmp 13)), false, some (7, false)⟩,
  ⟨some 15, (.indexArr 9 1 (.tmp 14) (.tmp 12)), false, some (7, false)⟩,
  ⟨some 16, (.load 1 false (.tmp 15)), false, some (7, false)⟩,
  ⟨some 17, (.bin .lss .none (.tmp 16) (.const (.int .i64 0))), true, some (7, false)⟩,
  ⟨some 18, (.pick (.tmp 7) (.const (.bool true)) (.tmp 17)), true, none⟩]
def c14_6 : ACode := (.seq (.mixed o14_5 [true, true, true, true, true, true, true, true, true, true, true, true, true, true] [0, 18]) (.cond (.tmp 18) c14_4 .skip))
def w14_6 (P : Program) (Q : Exit → Slots → Mem → Prop) (M : Mem) (v0 : V) : Prop :=
  @OptBH (binV .eql .ptr v0 .nilp) ⟨fun b6_2 =>
  @BIfH b6_2
  ⟨wpC P c14_4 Q [(0, v0), (18, (.bool true))] M⟩
  ⟨@OptVH (nilCheckV v0) ⟨fun t10_7 =>
  @OptVH (moveV 6 t10_7) ⟨fun t11_8 =>
  @OptVH (loadV 1 false t11_8 M) ⟨fun t12_9 =>
  @OptVH (nilCheckV v0) ⟨fun t13_10 =>
  @OptVH (moveV 7 t13_10) ⟨fun t14_11 =>
  @OptVH (indexArrV 9 1 t14_11 t12_9) ⟨fun t15_12 =>
  @OptVH (loadV 1 false t15_12 M) ⟨fun t16_13 =>
  @OptBH (binV .lss .none t16_13 (.int .i64 0)) ⟨fun b17_14 =>
  @BIfH b17_14
  ⟨wpC P c14_4 Q [(0, v0), (18, (.bool b17_14))] M⟩
  ⟨Q .normal [(0, v0), (18, (.bool b17_14))] M⟩⟩⟩⟩⟩⟩⟩⟩⟩⟩⟩
theorem e14_6 (P : Program) (Q : Exit → Slots → Mem → Prop) (s : Slots) (M : Mem) : wpC P c14_6 Q s M = w14_6 P Q M (sget s 0) := by kernel_rfl
def o14_7 : List AOper := [⟨some 19, (.mov (.tmp 0)), false, none⟩,
  ⟨some 20, (.mov (.tmp 0)), false, none⟩,
  ⟨some 21, (.nilCheck (.tmp 20)), false, none⟩,
  ⟨some 22, (.fieldAddr 6 (.tmp 21)), false, none⟩,
  ⟨some 23, (.load 1 false (.tmp 22)), false, none⟩,
  ⟨some 24, (.nilCheck (.tmp 19)), false, none⟩,
  ⟨some 25, (.fieldAddr 7 (.tmp 24)), false, none⟩,
  ⟨some 26, (.indexArr 9 1 (.tmp 25) (.tmp 23)), false, none⟩,
  ⟨some 27, (.load 1 false (.tmp 26)), false, none⟩,
  ⟨some 4, (.mov (.tmp 27)), false, none⟩]
def c14_8 : ACode := (.mixed o14_7 [true, true, true, true, true, true, true, true, true, true] [0, 4])
def w14_8 (_P : Program) (Q : Exit → Slots → Mem → Prop) (M : Mem) (v0 : V) : Prop :=
  @OptVH (nilCheckV v0) ⟨fun t21_3 =>
  @OptVH (moveV 6 t21_3) ⟨fun t22_4 =>
  @OptVH (loadV 1 false t22_4 M) ⟨fun t23_5 =>
  @OptVH (nilCheckV v0) ⟨fun t24_6 =>
  @OptVH (moveV 7 t24_6) ⟨fun t25_7 =>
  @OptVH (indexArrV 9 1 t25_7 t23_5) ⟨fun t26_8 =>
  @OptVH (loadV 1 false t26_8 M) ⟨fun t27_9 =>
  Q .normal [(0, v0), (4, t27_9)] M⟩⟩⟩⟩⟩⟩⟩
theorem e14_8 (P : Program) (Q : Exit → Slots → Mem → Prop) (s : Slots) (M : Mem) : wpC P c14_8 Q s M = w14_8 P Q M (sget s 0) := by kernel_rfl
def o14_9 : List AOper := [⟨some 47, (.mov (.tmp 4)), false, none⟩,
  ⟨some 2, (.mov (.tmp 47)), false, none⟩,
  ⟨some 3, (.mov (.const (.bool true))), true, none⟩]
def c14_10 : ACode := (.region o14_9 [2, 3])
def w14_10 (_P : Program) (Q : Exit → Slots → Mem → Prop) (M : Mem) (v4 : V) : Prop :=
  Q .normal [(2, v4), (3, (.bool true))] M
theorem e14_10 (P : Program) (Q : Exit → Slots → Mem → Prop) (s : Slots) (M : Mem) : wpC P c14_10 Q s M = w14_10 P Q M (sget s 4) := by kernel_rfl
def c14_11 : ACode := (.seq c14_10 .ret)
def o14_12 : List AOper := [⟨some 28, (.mov (.tmp 0)), false, none⟩,
  ⟨some 29, (.nilCheck (.tmp 28)), false, none⟩,
  ⟨some 30, (.fieldAddr 0 (.tmp 29)), false, none⟩,
  ⟨some 31, (.load 1 false (.tmp 30)), false, none⟩,
  ⟨some 32, (.nilCheck (.tmp 31)), false, none⟩,
  ⟨some 33, (.fieldAddr 3 (.tmp 32)), false, none⟩,
  ⟨some 34, (.load 1 false (.tmp 33)), false, none⟩,
  ⟨some 35, (.bin .eql .none (.tmp 34) (.const (.int .i64 0))), true, none⟩,
  ⟨some 36, (.mov (.tmp 35)), true, none⟩,
  ⟨some 37, (.mov (.tmp 4)), false, some (36, false)⟩,
  ⟨some 38, (.mov (.tmp 0)), false, some (36, false)⟩,
  ⟨some 39, (.nilCheck (.tmp 38)), false, some (36, false)⟩,
  ⟨some 40, (.fieldAddr 0 (.tmp 39)), false, some (36, false)⟩,
  ⟨some 41, (.load 1 false (.tmp 40)), false, some (36, false)⟩,
  ⟨some 42, (.nilCheck (.tmp 41)), false, some (36, false)⟩,
  ⟨some 43, (.fieldAddr 3 (.tmp 42)), false, some (36, false)⟩,
  ⟨some 44, (.load 1 false (.tmp 43)), false, some (36, false)⟩,
  ⟨some 45, (.bin .lss .none (.tmp 37) (.tmp 44)), true, some (36, false)⟩,
  ⟨some 46, (.pick (.tmp 36) (.const (.bool true)) (.tmp 45)), true, none⟩]
def c14_13 : ACode := (.seq (.region o14_12 [0, 4, 46]) (.cond (.tmp 46) c14_11 .skip))
def w14_13 (P : Program) (Q : Exit → Slots → Mem → Prop) (M : Mem) (v0 : V) (v4 : V) : Prop :=
  @OptVH (nilCheckV v0) ⟨fun t29_2 =>
  @OptVH (moveV 0 t29_2) ⟨fun t30_3 =>
  @OptVH (loadV 1 false t30_3 M) ⟨fun t31_4 =>
  @OptVH (nilCheckV t31_4) ⟨fun t32_5 =>
  @OptVH (moveV 3 t32_5) ⟨fun t33_6 =>
  @OptVH (loadV 1 false t33_6 M) ⟨fun t34_7 =>
  @OptBH (binV .eql .none t34_7 (.int .i64 0)) ⟨fun b35_8 =>
  @BIfH b35_8
  ⟨wpC P c14_11 Q [(0, v0), (4, v4), (46, (.bool true))] M⟩
  ⟨@OptVH (nilCheckV v0) ⟨fun t39_13 =>
  @OptVH (moveV 0 t39_13) ⟨fun t40_14 =>
  @OptVH (loadV 1 false t40_14 M) ⟨fun t41_15 =>
  @OptVH (nilCheckV t41_15) ⟨fun t42_16 =>
  @OptVH (moveV 3 t42_16) ⟨fun t43_17 =>
  @OptVH (loadV 1 false t43_17 M) ⟨fun t44_18 =>
  @OptBH (binV .lss .none v4 t44_18) ⟨fun b45_19 =>
  @BIfH b45_19
  ⟨wpC P c14_11 Q [(0, v0), (4, v4), (46, (.bool b45_19))] M⟩
  ⟨Q .normal [(0, v0), (4, v4), (46, (.bool b45_19))] M⟩⟩⟩⟩⟩⟩⟩⟩⟩⟩⟩⟩⟩⟩⟩⟩
theorem e14_13 (P : Program) (Q : Exit → Slots → Mem → Prop) (s : Slots) (M : Mem) : wpC P c14_13 Q s M = w14_13 P Q M (sget s 0) (sget s 4) := by kernel_rfl
def c14_14 : ACode := (.seq c14_8 c14_13)
def o14_15 : List AOper := [⟨some 48, (.mov (.tmp 0)), false, none⟩,
  ⟨some 49, (.nilCheck (.tmp 48)), false, none⟩,
  ⟨some 50, (.fieldAddr 0 (.tmp 49)), false, none⟩,
  ⟨some 51, (.load 1 false (.tmp 50)), false, none⟩,
  ⟨some 52, (.nilCheck (.tmp 51)), false, none⟩,
  ⟨some 53, (.fieldAddr 3 (.tmp 52)), false, none⟩,
  ⟨some 54, (.load 1 false (.tmp 53)), false, none⟩,
  ⟨some 2, (.mov (.tmp 54)), false, none⟩,
  ⟨some 3, (.mov (.const (.bool true))), true, none⟩]
def c14_16 : ACode := (.region o14_15 [2, 3])
def w14_16 (_P : Program) (Q : Exit → Slots → Mem → Prop) (M : Mem) (v0 : V) : Prop :=
  @OptVH (nilCheckV v0) ⟨fun t49_2 =>
  @OptVH (moveV 0 t49_2) ⟨fun t50_3 =>
  @OptVH (loadV 1 false t50_3 M) ⟨fun t51_4 =>
  @OptVH (nilCheckV t51_4) ⟨fun t52_5 =>
  @OptVH (moveV 3 t52_5) ⟨fun t53_6 =>
  @OptVH (loadV 1 false t53_6 M) ⟨fun t54_7 =>
  Q .normal [(2, t54_7), (3, (.bool true))] M⟩⟩⟩⟩⟩⟩
theorem e14_16 (P : Program) (Q : Exit → Slots → Mem → Prop) (s : Slots) (M : Mem) : wpC P c14_16 Q s M = w14_16 P Q M (sget s 0) := by kernel_rfl
def c14_17 : ACode := (.seq c14_16 .ret)
def c14_18 : ACode := (.seq c14_14 c14_17)
def c14_19 : ACode := (.seq c14_6 c14_18)
def c14_20 : ACode := (.seq c14_1 c14_19)
def fn_farestate_State_Price : AFn := ⟨55, [(.tmp 2), (.tmp 3)], c14_20⟩
theorem fn_farestate_State_Price_ok : resFn PR h_farestate_State_Price i_farestate_State_Price = some fn_farestate_State_Price := by kernel_rfl

def h_farestate_State_Rides : Hints := ⟨[(0, [0]), (1, [0, 4]), (2, [2]), (3, [2])], [], []⟩
def o15_0 : List AOper := [⟨some 2, (.mov (.const (.int .i64 0))), false, none⟩]
def c15_1 : ACode := (.region o15_0 [0])
def w15_1 (_P : Program) (Q : Exit → Slots → Mem → Prop) (M : Mem) (v0 : V) : Prop :=
  Q .normal [(0, v0)] M
theorem e15_1 (P : Program) (Q : Exit → Slots → Mem → Prop) (s : Slots) (M : Mem) : wpC P c15_1 Q s M = w15_1 P Q M (sget s 0) := by kernel_rfl
def o15_2 : List AOper := [⟨some 2, (.mov (.const (.int .i64 0))), false, none⟩]
def c15_3 : ACode := (.region o15_2 [2])
def w15_3 (_P : Program) (Q : Exit → Slots → Mem → Prop) (M : Mem) : Prop :=
  Q .normal [(2, (.int .i64 0))] M
theorem e15_3 (P : Program) (Q : Exit → Slots → Mem → Prop) (s : Slots) (M : Mem) : wpC P c15_3 Q s M = w15_3 P Q M := by kernel_rfl
def c15_4 : ACode := (.seq c15_3 .ret)
def o15_5 : List AOper := [⟨some 3, (.mov (.tmp 0)), false, none⟩,
  ⟨some 4, (.bin .eql .ptr (.tmp 3) (.const .nilp)), true, none⟩]
def c15_6 : ACode := (.seq (.region o15_5 [0, 4]) (.cond (.tmp 4) c15_4 .skip))
def w15_6 (P : Program) (Q : Exit → Slots → Mem → Prop) (M : Mem) (v0 : V) : Prop :=
  @OptBH (binV .eql .ptr v0 .nilp) ⟨fun b4_2 =>
  @BIfH b4_2
  ⟨wpC P c15_4 Q [(0, v0), (4, (.bool b4_2))] M⟩
  ⟨Q .normal [(0, v0), (4, (.bool b4_2))] M⟩⟩
theorem e15_6 (P : Program) (Q : Exit → Slots → Mem → Prop) (s : Slots) (M : Mem) : wpC P c15_6 Q s M = w15_6 P Q M (sget s 0) := by kernel_rfl
def o15_7 : List AOper := [⟨some 5, (.mov (.tmp 0)), false, none⟩,
  ⟨some 6, (.nilCheck (.tmp 5)), false, none⟩,
  ⟨some 7, (.fieldAddr 6 (.tmp 6)), false, none⟩,
  ⟨some 8, (.load 1 false (.tmp 7)), false, none⟩,
  ⟨some 2, (.mov (.tmp 8)), false, none⟩]
def c15_8 : ACode := (.region o15_7 [2])
def w15_8 (_P : Program) (Q : Exit → Slots → Mem → Prop) (M : Mem) (v0 : V) : Prop :=
  @OptVH (nilCheckV v0) ⟨fun t6_2 =>
  @OptVH (moveV 6 t6_2) ⟨fun t7_3 =>
  @OptVH (loadV 1 false t7_3 M) ⟨fun t8_4 =>
  Q .normal [(2, t8_4)] M⟩⟩⟩
theorem e15_8 (P : Program) (Q : Exit → Slots → Mem → Prop) (s : Slots) (M : Mem) : wpC P c15_8 Q s M = w15_8 P Q M (sget s 0) := by kernel_rfl
def c15_9 : ACode := (.seq c15_8 .ret)
def c15_10 : ACode := (.seq c15_6 c15_9)
def c15_11 : ACode := (.seq c15_1 c15_10)
def fn_farestate_State_Rides : AFn := ⟨9, [(.tmp 2)], c15_11⟩
theorem fn_farestate_State_Rides_ok : resFn PR h_farestate_State_Rides i_farestate_State_Rides = some fn_farestate_State_Rides := by kernel_rfl

def h_farestate_State_Ride : Hints := ⟨[(0, [0, 3]), (1, [0, 3, 14]), (2, [4, 5]), (3, [0, 3, 19]), (4, [4, 5]), (5, [0, 6]), (6, [0, 6, 7]), (7, [0, 6, 7, 8]), (8, [0, 6, 7, 8, 40, 41]), (9, [0, 6, 7, 8, 40, 41, 42]), (10, [0, 6, 7, 8, 9, 40, 41]), (11, [0, 6, 7, 8, 9, 40, 41, 50, 51, 52]), (12, [0, 6, 7, 8, 9, 40, 41, 50, 51, 52, 53]), (13, [0, 6, 7, 8, 9, 11, 40, 41, 50, 51, 52]), (14, [0, 6, 7, 8, 9, 11, 40, 41, 50, 51, 52, 70]), (15, [0, 6, 7, 8, 9, 12, 40, 41, 50, 51, 52]), (16, [0, 6, 7, 8, 9, 12, 40, 41, 50, 51, 52, 89]), (17, [0, 6, 7, 8, 9, 40, 41, 50, 51, 52]), (18, [0, 6, 7, 8, 9, 40, 41, 50, 51, 52]), (19, [0, 6, 7, 8, 40, 41]), (20, [6]), (21, [4, 5])], [(9, [0, 6, 7, 8, 40, 41]), (12, [0, 6, 7, 8, 9, 40, 41, 50, 51, 52])], []⟩
def o16_0 : List AOper := [⟨some 3, (.box 4 (.tmp 1)), false, none⟩,
  ⟨some 4, (.mov (.const .nilp)), false, none⟩,
  ⟨some 5, (.mov (.const (.int .i64 0))), false, none⟩]
def c16_1 : ACode := (.region o16_0 [0, 3])
def w16_1 (_P : Program) (Q : Exit → Slots → Mem → Prop) (M : Mem) (v0 : V) (v1 : V) : Prop :=
  @OptMH (boxV 4 v1 M) ⟨fun t3_1 M1 =>
  Q .normal [(0, v0), (3, t3_1)] M1⟩
theorem e16_1 (P : Program) (Q : Exit → Slots → Mem → Prop) (s : Slots) (M : Mem) : wpC P c16_1 Q s M = w16_1 P Q M (sget s 0) (sget s 1) := by kernel_rfl
def o16_2 : List AOper := [⟨some 4, (.mov (.const .nilp)), false, none⟩,
  ⟨some 5, (.mov (.const (.int .i64 40))), false, none⟩]
def c16_3 : ACode := (.region o16_2 [4, 5])
def w16_3 (_P : Program) (Q : Exit → Slots → Mem → Prop) (M : Mem) : Prop :=
  Q .normal [(4, .nilp), (5, (.int .i64 40))] M
theorem e16_3 (P : Program) (Q : Exit → Slots → Mem → Prop) (s : Slots) (M : Mem) : wpC P c16_3 Q s M = w16_3 P Q M := by kernel_rfl
def c16_4 : ACode := (.seq c16_3 .ret)
def o16_5 : List AOper := [⟨some 13, (.mov (.tmp 0)), false, none⟩,
  ⟨some 14, (.bin .eql .ptr (.tmp 13) (.const .nilp)), true, none⟩]
def c16_6 : ACode := (.seq (.region o16_5 [0, 3, 14]) (.cond (.tmp 14) c16_4 .skip))
def w16_6 (P : Program) (Q : Exit → Slots → Mem → Prop) (M : Mem) (v0 : V) (v3 : V) : Prop :=
  @OptBH (binV .eql .ptr v0 .nilp) ⟨fun b14_2 =>
  @BIfH b14_2
  ⟨wpC P c16_4 Q [(0, v0), (3, v3), (14, (.bool b14_2))] M⟩
  ⟨Q .normal [(0, v0), (3, v3), (14, (.bool b14_2))] M⟩⟩
theorem e16_6 (P : Program) (Q : Exit → Slots → Mem → Prop) (s : Slots) (M : Mem) : wpC P c16_6 Q s M = w16_6 P Q M (sget s 0) (sget s 3) := by kernel_rfl
def o16_7 : List AOper := [⟨some 4, (.mov (.const .nilp)), false, none⟩,
  ⟨some 5, (.mov (.const (.int .i64 33))), false, none⟩]
def c16_8 : ACode := (.region o16_7 [4, 5])
def w16_8 (_P : Program) (Q : Exit → Slots → Mem → Prop) (M : Mem) : Prop :=
  Q .normal [(4, .nilp), (5, (.int .i64 33))] M
theorem e16_8 (P : Program) (Q : Exit → Slots → Mem → Prop) (s : Slots) (M : Mem) : wpC P c16_8 Q s M = w16_8 P Q M := by kernel_rfl
def c16_9 : ACode := (.seq c16_8 .ret)
def o16_10 : List AOper := [⟨some 15, (.mov (.tmp 0)), false, none⟩,
  ⟨some 16, (.nilCheck (.tmp 15)), false, none⟩,
  ⟨some 17, (.fieldAddr 6 (.tmp 16)), false, none⟩,
  ⟨some 18, (.load 1 false (.tmp 17)), false, none⟩,
  ⟨some 19, (.bin .geq .none (.tmp 18) (.const (.int .i64 8))), true, none⟩]
def c16_11 : ACode := (.seq (.region o16_10 [0, 3, 19]) (.cond (.tmp 19) c16_9 .skip))
def w16_11 (P : Program) (Q : Exit → Slots → Mem → Prop) (M : Mem) (v0 : V) (v3 : V) : Prop :=
  @OptVH (nilCheckV v0) ⟨fun t16_2 =>
  @OptVH (moveV 6 t16_2) ⟨fun t17_3 =>
  @OptVH (loadV 1 false t17_3 M) ⟨fun t18_4 =>
  @OptBH (binV .geq .none t18_4 (.int .i64 8)) ⟨fun b19_5 =>
  @BIfH b19_5
  ⟨wpC P c16_9 Q [(0, v0), (3, v3), (19, (.bool b19_5))] M⟩
  ⟨Q .normal [(0, v0), (3, v3), (19, (.bool b19_5))] M⟩⟩⟩⟩⟩
theorem e16_11 (P : Program) (Q : Exit → Slots → Mem → Prop) (s : Slots) (M : Mem) : wpC P c16_11 Q s M = w16_11 P Q M (sget s 0) (sget s 3) := by kernel_rfl
def o16_12 : List AOper := [⟨some 20, (.mov (.tmp 0)), false, none⟩,
  ⟨some 21, (.nilCheck (.tmp 20)), false, none⟩,
  ⟨some 22, (.fieldAddr 0 (.tmp 21)), false, none⟩,
  ⟨some 23, (.load 1 false (.tmp 22)), false, none⟩,
  ⟨some 24, (.mov (.tmp 0)), false, none⟩,
  ⟨some 25, (.load 4 true (.tmp 3)), false, none⟩,
  ⟨some 26, (.mov (.tmp 0)), false, none⟩,
  ⟨some 27, (.nilCheck (.tmp 26)), false, none⟩,
  ⟨some 28, (.fieldAddr 6 (.tmp 27)), false, none⟩,
  ⟨some 29, (.load 1 false (.tmp 28)), false, none⟩,
  ⟨some 30, (.bin .add .none (.tmp 29) (.const (.int .i64 1))), false, none⟩,
  ⟨some 31, (.mov (.tmp 0)), false, none⟩,
  ⟨some 32, (.nilCheck (.tmp 31)), false, none⟩,
  ⟨some 33, (.fieldAddr 7 (.tmp 32)), false, none⟩,
  ⟨some 34, (.load 9 true (.tmp 33)), false, none⟩,
  ⟨some 35, (.build [.nilp, .nilp, (.int .i64 0), (.int .i64 0), (.int .i64 0), (.int .i64 0), (.int .i64 0), (.int .i64 0), (.int .i64 0), (.int .i64 0), (.int .i64 0), (.int .i64 0), (.int .i64 0), (.int .i64 0), (.int .i64 0), (.int .i64 0)] [(0, (1, (.tmp 23))), (1, (1, (.tmp 24))), (2, (4, (.tmp 25))), (6, (1, (.tmp 30))), (7, (9, (.tmp 34)))]), false, none⟩,
  ⟨some 36, (.box 16 (.tmp 35)), false, none⟩,
  ⟨some 6, (.mov (.tmp 36)), false, none⟩]
def c16_13 : ACode := (.mixed o16_12 [true, true, true, true, true, true, true, true, true, true, true, true, true, true, true, true, false, true] [0, 6])
def w16_13 (_P : Program) (Q : Exit → Slots → Mem → Prop) (M : Mem) (v0 : V) (v3 : V) : Prop :=
  @OptVH (nilCheckV v0) ⟨fun t21_2 =>
  @OptVH (moveV 0 t21_2) ⟨fun t22_3 =>
  @OptVH (loadV 1 false t22_3 M) ⟨fun t23_4 =>
  @OptVH (loadV 4 true v3 M) ⟨fun t25_6 =>
  @OptVH (nilCheckV v0) ⟨fun t27_8 =>
  @OptVH (moveV 6 t27_8) ⟨fun t28_9 =>
  @OptVH (loadV 1 false t28_9 M) ⟨fun t29_10 =>
  @OptVH (binV .add .none t29_10 (.int .i64 1)) ⟨fun t30_11 =>
  @OptVH (nilCheckV v0) ⟨fun t32_13 =>
  @OptVH (moveV 7 t32_13) ⟨fun t33_14 =>
  @OptVH (loadV 9 true t33_14 M) ⟨fun t34_15 =>
  @OptVH (buildV [.nilp, .nilp, (.int .i64 0), (.int .i64 0), (.int .i64 0), (.int .i64 0), (.int .i64 0), (.int .i64 0), (.int .i64 0), (.int .i64 0), (.int .i64 0), (.int .i64 0), (.int .i64 0), (.int .i64 0), (.int .i64 0), (.int .i64 0)] [(0, 1, t23_4), (1, 1, v0), (2, 4, t25_6), (6, 1, t30_11), (7, 9, t34_15)]) ⟨fun t35_16 =>
  @OptMH (boxV 16 t35_16 M) ⟨fun t36_17 M17 =>
  Q .normal [(0, v0), (6, t36_17)] M17⟩⟩⟩⟩⟩⟩⟩⟩⟩⟩⟩⟩⟩
theorem e16_13 (P : Program) (Q : Exit → Slots → Mem → Prop) (s : Slots) (M : Mem) : wpC P c16_13 Q s M = w16_13 P Q M (sget s 0) (sget s 3) := by kernel_rfl
def o16_14 : List AOper := [⟨some 37, (.mov (.tmp 6)), false, none⟩,
  ⟨some 38, (.call i_farestate_State_list [(.tmp 37)]), false, none⟩,
  ⟨some 7, (.mov (.tmp 38)), false, none⟩]
def c16_15 : ACode := (.region o16_14 [0, 6, 7])
def w16_15 (P : Program) (Q : Exit → Slots → Mem → Prop) (M : Mem) (v0 : V) (v6 : V) : Prop :=
  @CallH P i_farestate_State_list [v6] M ⟨fun t38_2 M2 =>
  Q .normal [(0, v0), (6, v6), (7, t38_2)] M2⟩
theorem e16_15 (P : Program) (Q : Exit → Slots → Mem → Prop) (s : Slots) (M : Mem) : wpC P c16_15 Q s M = w16_15 P Q M (sget s 0) (sget s 6) := by kernel_rfl
def o16_16 : List AOper := [⟨some 8, (.mov (.const (.int .i64 (-1)))), false, none⟩]
def c16_17 : ACode := (.region o16_16 [0, 6, 7, 8])
def w16_17 (_P : Program) (Q : Exit → Slots → Mem → Prop) (M : Mem) (v0 : V) (v6 : V) (v7 : V) : Prop :=
  Q .normal [(0, v0), (6, v6), (7, v7), (8, (.int .i64 (-1)))] M
theorem e16_17 (P : Program) (Q : Exit → Slots → Mem → Prop) (s : Slots) (M : Mem) : wpC P c16_17 Q s M = w16_17 P Q M (sget s 0) (sget s 6) (sget s 7) := by kernel_rfl
def o16_18 : List AOper := [⟨some 39, (.mov (.tmp 7)), false, none⟩,
  ⟨some 40, (.lenSl (.tmp 39)), false, none⟩,
  ⟨some 41, (.mov (.const (.int .i64 0))), false, none⟩]
def c16_19 : ACode := (.region o16_18 [0, 6, 7, 8, 40, 41])
def w16_19 (_P : Program) (Q : Exit → Slots → Mem → Prop) (M : Mem) (v0 : V) (v6 : V) (v7 : V) (v8 : V) : Prop :=
  @OptVH (lenV v7 M) ⟨fun t40_2 =>
  Q .normal [(0, v0), (6, v6), (7, v7), (8, v8), (40, t40_2), (41, (.int .i64 0))] M⟩
theorem e16_19 (P : Program) (Q : Exit → Slots → Mem → Prop) (s : Slots) (M : Mem) : wpC P c16_19 Q s M = w16_19 P Q M (sget s 0) (sget s 6) (sget s 7) (sget s 8) := by kernel_rfl
def o16_20 : List AOper := [⟨some 42, (.bin .lss .none (.tmp 41) (.tmp 40)), false, none⟩]
def c16_21 : ACode := (.region o16_20 [0, 6, 7, 8, 40, 41, 42])
def w16_21 (_P : Program) (Q : Exit → Slots → Mem → Prop) (M : Mem) (v0 : V) (v6 : V) (v7 : V) (v8 : V) (v40 : V) (v41 : V) : Prop :=
  @OptVH (binV .lss .none v41 v40) ⟨fun t42_1 =>
  Q .normal [(0, v0), (6, v6), (7, v7), (8, v8), (40, v40), (41, v41), (42, t42_1)] M⟩
theorem e16_21 (P : Program) (Q : Exit → Slots → Mem → Prop) (s : Slots) (M : Mem) : wpC P c16_21 Q s M = w16_21 P Q M (sget s 0) (sget s 6) (sget s 7) (sget s 8) (sget s 40) (sget s 41) := by kernel_rfl
def c16_22 : ACode := (.cond (.tmp 42) .skip (.exit 0))
def o16_23 : List AOper := [⟨some 43, (.mov (.tmp 41)), false, none⟩,
  ⟨some 9, (.mov (.tmp 43)), false, none⟩]
def c16_24 : ACode := (.region o16_23 [0, 6, 7, 8, 9, 40, 41])
def w16_24 (_P : Program) (Q : Exit → Slots → Mem → Prop) (M : Mem) (v0 : V) (v6 : V) (v7 : V) (v8 : V) (v40 : V) (v41 : V) : Prop :=
  Q .normal [(0, v0), (6, v6), (7, v7), (8, v8), (9, v41), (40, v40), (41, v41)] M
theorem e16_24 (P : Program) (Q : Exit → Slots → Mem → Prop) (s : Slots) (M : Mem) : wpC P c16_24 Q s M = w16_24 P Q M (sget s 0) (sget s 6) (sget s 7) (sget s 8) (sget s 40) (sget s 41) := by kernel_rfl
def o16_25 : List AOper := [⟨some 44, (.mov (.tmp 0)), false, none⟩,
  ⟨some 45, (.nilCheck (.tmp 44)), false, none⟩,
  ⟨some 46, (.fieldAddr 0 (.tmp 45)), false, none⟩,
  ⟨some 47, (.load 1 false (.tmp 46)), false, none⟩,
  ⟨some 48, (.nilCheck (.tmp 47)), false, none⟩,
  ⟨some 49, (.fieldAddr 0 (.tmp 48)), false, none⟩,
  ⟨some 50, (.load 1 false (.tmp 49)), false, none⟩,
  ⟨some 51, (.lenSl (.tmp 50)), false, none⟩,
  ⟨some 52, (.mov (.const (.int .i64 0))), false, none⟩]
def c16_26 : ACode := (.region o16_25 [0, 6, 7, 8, 9, 40, 41, 50, 51, 52])
def w16_26 (_P : Program) (Q : Exit → Slots → Mem → Prop) (M : Mem) (v0 : V) (v6 : V) (v7 : V) (v8 : V) (v9 : V) (v40 : V) (v41 : V) : Prop :=
  @OptVH (nilCheckV v0) ⟨fun t45_2 =>
  @OptVH (moveV 0 t45_2) ⟨fun t46_3 =>
  @OptVH (loadV 1 false t46_3 M) ⟨fun t47_4 =>
  @OptVH (nilCheckV t47_4) ⟨fun t48_5 =>
  @OptVH (moveV 0 t48_5) ⟨fun t49_6 =>
  @OptVH (loadV 1 false t49_6 M) ⟨fun t50_7 =>
  @OptVH (lenV t50_7 M) ⟨fun t51_8 =>
  Q .normal [(0, v0), (6, v6), (7, v7), (8, v8), (9, v9), (40, v40), (41, v41), (50, t50_7), (51, t51_8), (52, (.int .i64 0))] M⟩⟩⟩⟩⟩⟩⟩
theorem e16_26 (P : Program) (Q : Exit → Slots → Mem → Prop) (s : Slots) (M : Mem) : wpC P c16_26 Q s M = w16_26 P Q M (sget s 0) (sget s 6) (sget s 7) (sget s 8) (sget s 9) (sget s 40) (sget s 41) := by kernel_rfl
def o16_27 : List AOper := [⟨some 53, (.bin .lss .none (.tmp 52) (.tmp 51)), false, none⟩]
def c16_28 : ACode := (.region o16_27 [0, 6, 7, 8, 9, 40, 41, 50, 51, 52, 53])
def w16_28 (_P : Program) (Q : Exit → Slots → Mem → Prop) (M : Mem) (v0 : V) (v6 : V) (v7 : V) (v8 : V) (v9 : V) (v40 : V) (v41 : V) (v50 : V) (v51 : V) (v52 : V) : Prop :=
  @OptVH (binV .lss .none v52 v51) ⟨fun t53_1 =>
  Q .normal [(0, v0), (6, v6), (7, v7), (8, v8), (9, v9), (40, v40), (41, v41), (50, v50), (51, v51), (52, v52), (53, t53_1)] M⟩
theorem e16_28 (P : Program) (Q : Exit → Slots → Mem → Prop) (s : Slots) (M : Mem) : wpC P c16_28 Q s M = w16_28 P Q M (sget s 0) (sget s 6) (sget s 7) (sget s 8) (sget s 9) (sget s 40) (sget s 41) (sget s 50) (sget s 51) (sget s 52) := by kernel_rfl
def c16_29 : ACode := (.cond (.tmp 53) .skip (.exit 2))
def o16_30 : List AOper := [⟨some 54, (.indexSl 6 (.tmp 50) (.tmp 52)), false, none⟩,
  ⟨some 55, (.load 6 true (.tmp 54)), false, none⟩,
  ⟨some 11, (.alloc [(.str []), (.int .i64 0), (.int .i64 0), (.int .i64 0), (.int .i64 0), (.int .i64 0)]), false, none⟩,
  ⟨none, (.store 6 (.tmp 11) (.tmp 55)), false, none⟩]
def c16_31 : ACode := (.region o16_30 [0, 6, 7, 8, 9, 11, 40, 41, 50, 51, 52])
def w16_31 (_P : Program) (Q : Exit → Slots → Mem → Prop) (M : Mem) (v0 : V) (v6 : V) (v7 : V) (v8 : V) (v9 : V) (v40 : V) (v41 : V) (v50 : V) (v51 : V) (v52 : V) : Prop :=
  @OptVH (indexSlV 6 v50 v52 M) ⟨fun t54_1 =>
  @OptVH (loadV 6 true t54_1 M) ⟨fun t55_2 =>
  @OptMH (allocV [(.str []), (.int .i64 0), (.int .i64 0), (.int .i64 0), (.int .i64 0), (.int .i64 0)] M) ⟨fun t11_3 M3 =>
  @OptMH (storeVM 6 t11_3 t55_2 M3) ⟨fun _tx_4 M4 =>
  Q .normal [(0, v0), (6, v6), (7, v7), (8, v8), (9, v9), (11, t11_3), (40, v40), (41, v41), (50, v50), (51, v51), (52, v52)] M4⟩⟩⟩⟩
theorem e16_31 (P : Program) (Q : Exit → Slots → Mem → Prop) (s : Slots) (M : Mem) : wpC P c16_31 Q s M = w16_31 P Q M (sget s 0) (sget s 6) (sget s 7) (sget s 8) (sget s 9) (sget s 40) (sget s 41) (sget s 50) (sget s 51) (sget s 52) := by kernel_rfl
def o16_32 : List AOper := [⟨some 56, (.mov (.tmp 6)), false, none⟩,
  ⟨some 57, (.mov (.tmp 9)), false, none⟩,
  ⟨some 58, (.nilCheck (.tmp 56)), false, none⟩,
  ⟨some 59, (.fieldAddr 7 (.tmp 58)), false, none⟩,
  ⟨some 60, (.indexArr 9 1 (.tmp 59) (.tmp 57)), false, none⟩,
  ⟨some 61, (.load 1 false (.tmp 60)), false, none⟩,
  ⟨some 62, (.bin .lss .none (.tmp 61) (.const (.int .i64 0))), true, none⟩,
  ⟨some 63, (.mov (.tmp 62)), true, none⟩,
  ⟨some 64, (.load 6 true (.tmp 11)), false, some (63, false)⟩,
  ⟨some 65, (.mov (.tmp 7)), false, some (63, false)⟩,
  ⟨some 66, (.mov (.tmp 9)), false, some (63, false)⟩,
  ⟨some 67, (.slice 4 (.tmp 65) (some (.tmp 66)) none none), false, some (63, false)⟩,
  ⟨some 68, (.call i_product_Covers [(.tmp 64), (.tmp 67)]), true, some (63, false)⟩,
  ⟨some 69, (.un .not (.tmp 68)), true, some (63, false)⟩,
  ⟨some 70, (.pick (.tmp 63) (.const (.bool true)) (.tmp 69)), true, none⟩]
def c16_33 : ACode := (.seq (.mixed o16_32 [true, true, true, true, true, true, true, true, true, true, true, true, false, true, true] [0, 6, 7, 8, 9, 11, 40, 41, 50, 51, 52, 70]) (.cond (.tmp 70) (.exit 3) .skip))
def w16_33 (P : Program) (Q : Exit → Slots → Mem → Prop) (M : Mem) (v0 : V) (v6 : V) (v7 : V) (v8 : V) (v9 : V) (v11 : V) (v40 : V) (v41 : V) (v50 : V) (v51 : V) (v52 : V) : Prop :=
  @OptVH (nilCheckV v6) ⟨fun t58_3 =>
  @OptVH (moveV 7 t58_3) ⟨fun t59_4 =>
  @OptVH (indexArrV 9 1 t59_4 v9) ⟨fun t60_5 =>
  @OptVH (loadV 1 false t60_5 M) ⟨fun t61_6 =>
  @OptBH (binV .lss .none t61_6 (.int .i64 0)) ⟨fun b62_7 =>
  @BIfH b62_7
  ⟨Q (.exit 3) [(0, v0), (6, v6), (7, v7), (8, v8), (9, v9), (11, v11), (40, v40), (41, v41), (50, v50), (51, v51), (52, v52), (70, (.bool true))] M⟩
  ⟨@OptVH (loadV 6 true v11 M) ⟨fun t64_10 =>
  @OptVH (sliceV 4 v7 (some v9) none none M) ⟨fun t67_13 =>
  @CallH P i_product_Covers [t64_10, t67_13] M ⟨fun t68_14 M14 => @OptBH (some t68_14) ⟨fun b68_14 =>
  @OptBH (unV .not (.bool b68_14)) ⟨fun b69_15 =>
  @BIfH b69_15
  ⟨Q (.exit 3) [(0, v0), (6, v6), (7, v7), (8, v8), (9, v9), (11, v11), (40, v40), (41, v41), (50, v50), (51, v51), (52, v52), (70, (.bool b69_15))] M14⟩
  ⟨Q .normal [(0, v0), (6, v6), (7, v7), (8, v8), (9, v9), (11, v11), (40, v40), (41, v41), (50, v50), (51, v51), (52, v52), (70, (.bool b69_15))] M14⟩⟩⟩⟩⟩⟩⟩⟩⟩⟩⟩⟩
theorem e16_33 (P : Program) (Q : Exit → Slots → Mem → Prop) (s : Slots) (M : Mem) : wpC P c16_33 Q s M = w16_33 P Q M (sget s 0) (sget s 6) (sget s 7) (sget s 8) (sget s 9) (sget s 11) (sget s 40) (sget s 41) (sget s 50) (sget s 51) (sget s 52) := by kernel_rfl
def o16_34 : List AOper := [⟨some 71, (.mov (.tmp 6)), false, none⟩,
  ⟨some 72, (.mov (.tmp 9)), false, none⟩,
  ⟨some 73, (.nilCheck (.tmp 71)), false, none⟩,
  ⟨some 74, (.fieldAddr 7 (.tmp 73)), false, none⟩,
  ⟨some 75, (.indexArr 9 1 (.tmp 74) (.tmp 72)), false, none⟩,
  ⟨some 76, (.load 1 false (.tmp 75)), false, none⟩,
  ⟨some 77, (.mov (.tmp 6)), false, none⟩,
  ⟨some 78, (.load 6 true (.tmp 11)), false, none⟩,
  ⟨some 79, (.mov (.tmp 7)), false, none⟩,
  ⟨some 80, (.mov (.tmp 9)), false, none⟩,
  ⟨some 81, (.call i_farestate_State_price [(.tmp 77), (.tmp 78), (.tmp 79), (.tmp 80)]), false, none⟩,
  ⟨some 82, (.bin .add .none (.tmp 76) (.tmp 81)), false, none⟩,
  ⟨some 12, (.mov (.tmp 82)), false, none⟩]
def c16_35 : ACode := (.mixed o16_34 [true, true, true, true, true, true, true, true, true, true, true, true, true] [0, 6, 7, 8, 9, 12, 40, 41, 50, 51, 52])
def w16_35 (P : Program) (Q : Exit → Slots → Mem → Prop) (M : Mem) (v0 : V) (v6 : V) (v7 : V) (v8 : V) (v9 : V) (v11 : V) (v40 : V) (v41 : V) (v50 : V) (v51 : V) (v52 : V) : Prop :=
  @OptVH (nilCheckV v6) ⟨fun t73_3 =>
  @OptVH (moveV 7 t73_3) ⟨fun t74_4 =>
  @OptVH (indexArrV 9 1 t74_4 v9) ⟨fun t75_5 =>
  @OptVH (loadV 1 false t75_5 M) ⟨fun t76_6 =>
  @OptVH (loadV 6 true v11 M) ⟨fun t78_8 =>
  @CallQ P i_farestate_State_price [v6, t78_8, v7, v9] M ⟨fun t81_11 M11 =>
  @OptVH (binV .add .none t76_6 t81_11) ⟨fun t82_12 =>
  Q .normal [(0, v0), (6, v6), (7, v7), (8, v8), (9, v9), (12, t82_12), (40, v40), (41, v41), (50, v50), (51, v51), (52, v52)] M11⟩⟩⟩⟩⟩⟩⟩
theorem e16_35 (P : Program) (Q : Exit → Slots → Mem → Prop) (s : Slots) (M : Mem) : wpC P c16_35 Q s M = w16_35 P Q M (sget s 0) (sget s 6) (sget s 7) (sget s 8) (sget s 9) (sget s 11) (sget s 40) (sget s 41) (sget s 50) (sget s 51) (sget s 52) := by kernel_rfl
def o16_36 : List AOper := [⟨some 90, (.mov (.tmp 12)), false, none⟩,
  ⟨some 8, (.mov (.tmp 90)), false, none⟩]
def c16_37 : ACode := (.region o16_36 [0, 6, 7, 8, 9, 40, 41, 50, 51, 52])
def w16_37 (_P : Program) (Q : Exit → Slots → Mem → Prop) (M : Mem) (v0 : V) (v6 : V) (v7 : V) (v9 : V) (v12 : V) (v40 : V) (v41 : V) (v50 : V) (v51 : V) (v52 : V) : Prop :=
  Q .normal [(0, v0), (6, v6), (7, v7), (8, v12), (9, v9), (40, v40), (41, v41), (50, v50), (51, v51), (52, v52)] M
theorem e16_37 (P : Program) (Q : Exit → Slots → Mem → Prop) (s : Slots) (M : Mem) : wpC P c16_37 Q s M = w16_37 P Q M (sget s 0) (sget s 6) (sget s 7) (sget s 9) (sget s 12) (sget s 40) (sget s 41) (sget s 50) (sget s 51) (sget s 52) := by kernel_rfl
def o16_38 : List AOper := [⟨some 83, (.mov (.tmp 8)), false, none⟩,
  ⟨some 84, (.bin .lss .none (.tmp 83) (.const (.int .i64 0))), true, none⟩,
  ⟨some 85, (.mov (.tmp 84)), true, none⟩,
  ⟨some 86, (.mov (.tmp 12)), false, some (85, false)⟩,
  ⟨some 87, (.mov (.tmp 8)), false, some (85, false)⟩,
  ⟨some 88, (.bin .lss .none (.tmp 86) (.tmp 87)), true, some (85, false)⟩,
  ⟨some 89, (.pick (.tmp 85) (.const (.bool true)) (.tmp 88)), true, none⟩]
def c16_39 : ACode := (.seq (.region o16_38 [0, 6, 7, 8, 9, 12, 40, 41, 50, 51, 52, 89]) (.cond (.tmp 89) c16_37 .skip))
def w16_39 (P : Program) (Q : Exit → Slots → Mem → Prop) (M : Mem) (v0 : V) (v6 : V) (v7 : V) (v8 : V) (v9 : V) (v12 : V) (v40 : V) (v41 : V) (v50 : V) (v51 : V) (v52 : V) : Prop :=
  @OptBH (binV .lss .none v8 (.int .i64 0)) ⟨fun b84_2 =>
  @BIfH b84_2
  ⟨wpC P c16_37 Q [(0, v0), (6, v6), (7, v7), (8, v8), (9, v9), (12, v12), (40, v40), (41, v41), (50, v50), (51, v51), (52, v52), (89, (.bool true))] M⟩
  ⟨@OptBH (binV .lss .none v12 v8) ⟨fun b88_7 =>
  @BIfH b88_7
  ⟨wpC P c16_37 Q [(0, v0), (6, v6), (7, v7), (8, v8), (9, v9), (12, v12), (40, v40), (41, v41), (50, v50), (51, v51), (52, v52), (89, (.bool b88_7))] M⟩
  ⟨Q .normal [(0, v0), (6, v6), (7, v7), (8, v8), (9, v9), (12, v12), (40, v40), (41, v41), (50, v50), (51, v51), (52, v52), (89, (.bool b88_7))] M⟩⟩⟩⟩
theorem e16_39 (P : Program) (Q : Exit → Slots → Mem → Prop) (s : Slots) (M : Mem) : wpC P c16_39 Q s M = w16_39 P Q M (sget s 0) (sget s 6) (sget s 7) (sget s 8) (sget s 9) (sget s 12) (sget s 40) (sget s 41) (sget s 50) (sget s 51) (sget s 52) := by kernel_rfl
def c16_40 : ACode := (.seq c16_35 c16_39)
def c16_41 : ACode := (.seq c16_33 c16_40)
def c16_42 : ACode := (.seq c16_31 c16_41)
def c16_43 : ACode := (.block 3 c16_42)
def o16_44 : List AOper := [⟨some 91, (.bin .add .none (.tmp 52) (.const (.int .i64 1))), false, none⟩,
  ⟨some 52, (.mov (.tmp 91)), false, none⟩]
def c16_45 : ACode := (.region o16_44 [0, 6, 7, 8, 9, 40, 41, 50, 51, 52])
def w16_45 (_P : Program) (Q : Exit → Slots → Mem → Prop) (M : Mem) (v0 : V) (v6 : V) (v7 : V) (v8 : V) (v9 : V) (v40 : V) (v41 : V) (v50 : V) (v51 : V) (v52 : V) : Prop :=
  @OptVH (binV .add .none v52 (.int .i64 1)) ⟨fun t91_1 =>
  Q .normal [(0, v0), (6, v6), (7, v7), (8, v8), (9, v9), (40, v40), (41, v41), (50, v50), (51, v51), (52, t91_1)] M⟩
theorem e16_45 (P : Program) (Q : Exit → Slots → Mem → Prop) (s : Slots) (M : Mem) : wpC P c16_45 Q s M = w16_45 P Q M (sget s 0) (sget s 6) (sget s 7) (sget s 8) (sget s 9) (sget s 40) (sget s 41) (sget s 50) (sget s 51) (sget s 52) := by kernel_rfl
def c16_46 : ACode := (.seq c16_43 c16_45)
def c16_47 : ACode := (.seq c16_29 c16_46)
def c16_48 : ACode := (.seq c16_28 c16_47)
def c16_49 : ACode := (.loop [0, 6, 7, 8, 9, 40, 41, 50, 51, 52] c16_48)
def c16_50 : ACode := (.block 2 c16_49)
def c16_51 : ACode := (.seq c16_26 c16_50)
def c16_52 : ACode := (.seq c16_24 c16_51)
def c16_53 : ACode := (.block 1 c16_52)
def o16_54 : List AOper := [⟨some 92, (.bin .add .none (.tmp 41) (.const (.int .i64 1))), false, none⟩,
  ⟨some 41, (.mov (.tmp 92)), false, none⟩]
def c16_55 : ACode := (.region o16_54 [0, 6, 7, 8, 40, 41])
def w16_55 (_P : Program) (Q : Exit → Slots → Mem → Prop) (M : Mem) (v0 : V) (v6 : V) (v7 : V) (v8 : V) (v40 : V) (v41 : V) : Prop :=
  @OptVH (binV .add .none v41 (.int .i64 1)) ⟨fun t92_1 =>
  Q .normal [(0, v0), (6, v6), (7, v7), (8, v8), (40, v40), (41, t92_1)] M⟩
theorem e16_55 (P : Program) (Q : Exit → Slots → Mem → Prop) (s : Slots) (M : Mem) : wpC P c16_55 Q s M = w16_55 P Q M (sget s 0) (sget s 6) (sget s 7) (sget s 8) (sget s 40) (sget s 41) := by kernel_rfl
def c16_56 : ACode := (.seq c16_53 c16_55)
def c16_57 : ACode := (.seq c16_22 c16_56)
def c16_58 : ACode := (.seq c16_21 c16_57)
def c16_59 : ACode := (.loop [0, 6, 7, 8, 40, 41] c16_58)
def c16_60 : ACode := (.block 0 c16_59)
def c16_61 : ACode := (.seq c16_19 c16_60)
def o16_62 : List AOper := [⟨some 93, (.mov (.tmp 6)), false, none⟩,
  ⟨some 94, (.mov (.tmp 6)), false, none⟩,
  ⟨some 95, (.nilCheck (.tmp 94)), false, none⟩,
  ⟨some 96, (.fieldAddr 6 (.tmp 95)), false, none⟩,
  ⟨some 97, (.load 1 false (.tmp 96)), false, none⟩,
  ⟨some 98, (.mov (.tmp 8)), false, none⟩,
  ⟨some 99, (.nilCheck (.tmp 93)), false, none⟩,
  ⟨some 100, (.fieldAddr 7 (.tmp 99)), false, none⟩,
  ⟨some 101, (.indexArr 9 1 (.tmp 100) (.tmp 97)), false, none⟩,
  ⟨none, (.store 1 (.tmp 101) (.tmp 98)), false, none⟩]
def c16_63 : ACode := (.mixed o16_62 [true, true, true, true, true, true, true, true, true, false] [6])
def w16_63 (_P : Program) (Q : Exit → Slots → Mem → Prop) (M : Mem) (v6 : V) (v8 : V) : Prop :=
  @OptVH (nilCheckV v6) ⟨fun t95_3 =>
  @OptVH (moveV 6 t95_3) ⟨fun t96_4 =>
  @OptVH (loadV 1 false t96_4 M) ⟨fun t97_5 =>
  @OptVH (nilCheckV v6) ⟨fun t99_7 =>
  @OptVH (moveV 7 t99_7) ⟨fun t100_8 =>
  @OptVH (indexArrV 9 1 t100_8 t97_5) ⟨fun t101_9 =>
  @OptMH (storeVM 1 t101_9 v8 M) ⟨fun _tx_10 M10 =>
  Q .normal [(6, v6)] M10⟩⟩⟩⟩⟩⟩⟩
theorem e16_63 (P : Program) (Q : Exit → Slots → Mem → Prop) (s : Slots) (M : Mem) : wpC P c16_63 Q s M = w16_63 P Q M (sget s 6) (sget s 8) := by kernel_rfl
def o16_64 : List AOper := [⟨some 102, (.mov (.tmp 6)), false, none⟩,
  ⟨some 4, (.mov (.tmp 102)), false, none⟩,
  ⟨some 5, (.mov (.const (.int .i64 0))), false, none⟩]
def c16_65 : ACode := (.region o16_64 [4, 5])
def w16_65 (_P : Program) (Q : Exit → Slots → Mem → Prop) (M : Mem) (v6 : V) : Prop :=
  Q .normal [(4, v6), (5, (.int .i64 0))] M
theorem e16_65 (P : Program) (Q : Exit → Slots → Mem → Prop) (s : Slots) (M : Mem) : wpC P c16_65 Q s M = w16_65 P Q M (sget s 6) := by kernel_rfl
def c16_66 : ACode := (.seq c16_65 .ret)
def c16_67 : ACode := (.seq c16_63 c16_66)
def c16_68 : ACode := (.seq c16_61 c16_67)
def c16_69 : ACode := (.seq c16_17 c16_68)
def c16_70 : ACode := (.seq c16_15 c16_69)
def c16_71 : ACode := (.seq c16_13 c16_70)
def c16_72 : ACode := (.seq c16_11 c16_71)
def c16_73 : ACode := (.seq c16_6 c16_72)
def c16_74 : ACode := (.seq c16_1 c16_73)
def fn_farestate_State_Ride : AFn := ⟨103, [(.tmp 4), (.tmp 5)], c16_74⟩
theorem fn_farestate_State_Ride_ok : resFn PR h_farestate_State_Ride i_farestate_State_Ride = some fn_farestate_State_Ride := by kernel_rfl

def h_transitlaw36_made : Hints := ⟨[(0, [1, 2]), (1, [1, 6, 7]), (2, [1, 6, 19]), (3, [4, 5]), (4, [1, 6, 8]), (5, [1, 6, 8, 23]), (6, [1, 6, 8]), (7, [1, 6, 7, 8]), (8, [1, 6, 8, 40]), (9, [4, 5]), (10, [4, 5])], [(5, [1, 6, 8])], []⟩
def o17_0 : List AOper := [⟨some 2, (.box 4 (.tmp 0)), false, none⟩,
  ⟨some 4, (.mov (.const .nilp)), false, none⟩,
  ⟨some 5, (.mov (.const (.bool false))), true, none⟩]
def c17_1 : ACode := (.region o17_0 [1, 2])
def w17_1 (_P : Program) (Q : Exit → Slots → Mem → Prop) (M : Mem) (v0 : V) (v1 : V) : Prop :=
  @OptMH (boxV 4 v0 M) ⟨fun t2_1 M1 =>
  Q .normal [(1, v1), (2, t2_1)] M1⟩
theorem e17_1 (P : Program) (Q : Exit → Slots → Mem → Prop) (s : Slots) (M : Mem) : wpC P c17_1 Q s M = w17_1 P Q M (sget s 0) (sget s 1) := by kernel_rfl
def o17_2 : List AOper := [⟨some 10, (.load 4 true (.tmp 2)), false, none⟩,
  ⟨some 11, (.call i_farestate_Start [(.tmp 10)]), false, none⟩,
  ⟨some 9, (.mov (.tmp 11)), false, none⟩,
  ⟨some 12, (.extract (.tmp 9) 0), false, none⟩,
  ⟨some 13, (.extract (.tmp 9) 1), false, none⟩,
  ⟨some 6, (.mov (.tmp 12)), false, none⟩,
  ⟨some 7, (.mov (.tmp 13)), false, none⟩]
def c17_3 : ACode := (.region o17_2 [1, 6, 7])
def w17_3 (P : Program) (Q : Exit → Slots → Mem → Prop) (M : Mem) (v1 : V) (v2 : V) : Prop :=
  @OptVH (loadV 4 true v2 M) ⟨fun t10_1 =>
  @CallH P i_farestate_Start [t10_1] M ⟨fun t11_2 M2 =>
  @OptVH (extractV t11_2 0) ⟨fun t12_4 =>
  @OptVH (extractV t11_2 1) ⟨fun t13_5 =>
  Q .normal [(1, v1), (6, t12_4), (7, t13_5)] M2⟩⟩⟩⟩
theorem e17_3 (P : Program) (Q : Exit → Slots → Mem → Prop) (s : Slots) (M : Mem) : wpC P c17_3 Q s M = w17_3 P Q M (sget s 1) (sget s 2) := by kernel_rfl
def o17_4 : List AOper := [⟨some 4, (.mov (.const .nilp)), false, none⟩,
  ⟨some 5, (.mov (.const (.bool false))), true, none⟩]
def c17_5 : ACode := (.region o17_4 [4, 5])
def w17_5 (_P : Program) (Q : Exit → Slots → Mem → Prop) (M : Mem) : Prop :=
  Q .normal [(4, .nilp), (5, (.bool false))] M
theorem e17_5 (P : Program) (Q : Exit → Slots → Mem → Prop) (s : Slots) (M : Mem) : wpC P c17_5 Q s M = w17_5 P Q M := by kernel_rfl
def c17_6 : ACode := (.seq c17_5 .ret)
def o17_7 : List AOper := [⟨some 14, (.mov (.tmp 6)), false, none⟩,
  ⟨some 15, (.bin .eql .ptr (.tmp 14) (.const .nilp)), true, none⟩,
  ⟨some 16, (.mov (.tmp 15)), true, none⟩,
  ⟨some 17, (.mov (.tmp 7)), false, some (16, false)⟩,
  ⟨some 18, (.bin .neq .none (.tmp 17) (.const (.int .i64 0))), true, some (16, false)⟩,
  ⟨some 19, (.pick (.tmp 16) (.const (.bool true)) (.tmp 18)), true, none⟩]
def c17_8 : ACode := (.seq (.region o17_7 [1, 6, 19]) (.cond (.tmp 19) c17_6 .skip))
def w17_8 (P : Program) (Q : Exit → Slots → Mem → Prop) (M : Mem) (v1 : V) (v6 : V) (v7 : V) : Prop :=
  @OptBH (binV .eql .ptr v6 .nilp) ⟨fun b15_2 =>
  @BIfH b15_2
  ⟨wpC P c17_6 Q [(1, v1), (6, v6), (19, (.bool true))] M⟩
  ⟨@OptBH (binV .neq .none v7 (.int .i64 0)) ⟨fun b18_6 =>
  @BIfH b18_6
  ⟨wpC P c17_6 Q [(1, v1), (6, v6), (19, (.bool b18_6))] M⟩
  ⟨Q .normal [(1, v1), (6, v6), (19, (.bool b18_6))] M⟩⟩⟩⟩
theorem e17_8 (P : Program) (Q : Exit → Slots → Mem → Prop) (s : Slots) (M : Mem) : wpC P c17_8 Q s M = w17_8 P Q M (sget s 1) (sget s 6) (sget s 7) := by kernel_rfl
def o17_9 : List AOper := [⟨some 8, (.mov (.const (.int .i64 0))), false, none⟩]
def c17_10 : ACode := (.region o17_9 [1, 6, 8])
def w17_10 (_P : Program) (Q : Exit → Slots → Mem → Prop) (M : Mem) (v1 : V) (v6 : V) : Prop :=
  Q .normal [(1, v1), (6, v6), (8, (.int .i64 0))] M
theorem e17_10 (P : Program) (Q : Exit → Slots → Mem → Prop) (s : Slots) (M : Mem) : wpC P c17_10 Q s M = w17_10 P Q M (sget s 1) (sget s 6) := by kernel_rfl
def o17_11 : List AOper := [⟨some 20, (.mov (.tmp 8)), false, none⟩,
  ⟨some 21, (.mov (.tmp 1)), false, none⟩,
  ⟨some 22, (.lenSl (.tmp 21)), false, none⟩,
  ⟨some 23, (.bin .lss .none (.tmp 20) (.tmp 22)), true, none⟩]
def c17_12 : ACode := (.seq (.region o17_11 [1, 6, 8, 23]) (.cond (.tmp 23) .skip (.exit 0)))
def w17_12 (_P : Program) (Q : Exit → Slots → Mem → Prop) (M : Mem) (v1 : V) (v6 : V) (v8 : V) : Prop :=
  @OptVH (lenV v1 M) ⟨fun t22_3 =>
  @OptBH (binV .lss .none v8 t22_3) ⟨fun b23_4 =>
  @BIfH b23_4
  ⟨Q .normal [(1, v1), (6, v6), (8, v8), (23, (.bool b23_4))] M⟩
  ⟨Q (.exit 0) [(1, v1), (6, v6), (8, v8), (23, (.bool b23_4))] M⟩⟩⟩
theorem e17_12 (P : Program) (Q : Exit → Slots → Mem → Prop) (s : Slots) (M : Mem) : wpC P c17_12 Q s M = w17_12 P Q M (sget s 1) (sget s 6) (sget s 8) := by kernel_rfl
def o17_13 : List AOper := [⟨some 27, (.mov (.tmp 6)), false, none⟩,
  ⟨some 28, (.mov (.tmp 1)), false, none⟩,
  ⟨some 29, (.mov (.tmp 8)), false, none⟩,
  ⟨some 30, (.indexSl 4 (.tmp 28) (.tmp 29)), false, none⟩,
  ⟨some 31, (.load 4 true (.tmp 30)), false, none⟩,
  ⟨some 32, (.call i_farestate_State_Ride [(.tmp 27), (.tmp 31)]), false, none⟩,
  ⟨some 26, (.mov (.tmp 32)), false, none⟩,
  ⟨some 33, (.extract (.tmp 26) 0), false, none⟩,
  ⟨some 34, (.extract (.tmp 26) 1), false, none⟩,
  ⟨some 6, (.mov (.tmp 33)), false, none⟩,
  ⟨some 7, (.mov (.tmp 34)), false, none⟩]
def c17_14 : ACode := (.region o17_13 [1, 6, 7, 8])
def w17_14 (P : Program) (Q : Exit → Slots → Mem → Prop) (M : Mem) (v1 : V) (v6 : V) (v8 : V) : Prop :=
  @OptVH (indexSlV 4 v1 v8 M) ⟨fun t30_4 =>
  @OptVH (loadV 4 true t30_4 M) ⟨fun t31_5 =>
  @CallH P i_farestate_State_Ride [v6, t31_5] M ⟨fun t32_6 M6 =>
  @OptVH (extractV t32_6 0) ⟨fun t33_8 =>
  @OptVH (extractV t32_6 1) ⟨fun t34_9 =>
  Q .normal [(1, v1), (6, t33_8), (7, t34_9), (8, v8)] M6⟩⟩⟩⟩⟩
theorem e17_14 (P : Program) (Q : Exit → Slots → Mem → Prop) (s : Slots) (M : Mem) : wpC P c17_14 Q s M = w17_14 P Q M (sget s 1) (sget s 6) (sget s 8) := by kernel_rfl
def o17_15 : List AOper := [⟨some 4, (.mov (.const .nilp)), false, none⟩,
  ⟨some 5, (.mov (.const (.bool false))), true, none⟩]
def c17_16 : ACode := (.region o17_15 [4, 5])
def w17_16 (_P : Program) (Q : Exit → Slots → Mem → Prop) (M : Mem) : Prop :=
  Q .normal [(4, .nilp), (5, (.bool false))] M
theorem e17_16 (P : Program) (Q : Exit → Slots → Mem → Prop) (s : Slots) (M : Mem) : wpC P c17_16 Q s M = w17_16 P Q M := by kernel_rfl
def c17_17 : ACode := (.seq c17_16 .ret)
def o17_18 : List AOper := [⟨some 35, (.mov (.tmp 6)), false, none⟩,
  ⟨some 36, (.bin .eql .ptr (.tmp 35) (.const .nilp)), true, none⟩,
  ⟨some 37, (.mov (.tmp 36)), true, none⟩,
  ⟨some 38, (.mov (.tmp 7)), false, some (37, false)⟩,
  ⟨some 39, (.bin .neq .none (.tmp 38) (.const (.int .i64 0))), true, some (37, false)⟩,
  ⟨some 40, (.pick (.tmp 37) (.const (.bool true)) (.tmp 39)), true, none⟩]
def c17_19 : ACode := (.seq (.region o17_18 [1, 6, 8, 40]) (.cond (.tmp 40) c17_17 .skip))
def w17_19 (P : Program) (Q : Exit → Slots → Mem → Prop) (M : Mem) (v1 : V) (v6 : V) (v7 : V) (v8 : V) : Prop :=
  @OptBH (binV .eql .ptr v6 .nilp) ⟨fun b36_2 =>
  @BIfH b36_2
  ⟨wpC P c17_17 Q [(1, v1), (6, v6), (8, v8), (40, (.bool true))] M⟩
  ⟨@OptBH (binV .neq .none v7 (.int .i64 0)) ⟨fun b39_6 =>
  @BIfH b39_6
  ⟨wpC P c17_17 Q [(1, v1), (6, v6), (8, v8), (40, (.bool b39_6))] M⟩
  ⟨Q .normal [(1, v1), (6, v6), (8, v8), (40, (.bool b39_6))] M⟩⟩⟩⟩
theorem e17_19 (P : Program) (Q : Exit → Slots → Mem → Prop) (s : Slots) (M : Mem) : wpC P c17_19 Q s M = w17_19 P Q M (sget s 1) (sget s 6) (sget s 7) (sget s 8) := by kernel_rfl
def c17_20 : ACode := (.seq c17_14 c17_19)
def c17_21 : ACode := (.block 1 c17_20)
def o17_22 : List AOper := [⟨some 24, (.mov (.tmp 8)), false, none⟩,
  ⟨some 25, (.bin .add .none (.tmp 24) (.const (.int .i64 1))), false, none⟩,
  ⟨some 8, (.mov (.tmp 25)), false, none⟩]
def c17_23 : ACode := (.region o17_22 [1, 6, 8])
def w17_23 (_P : Program) (Q : Exit → Slots → Mem → Prop) (M : Mem) (v1 : V) (v6 : V) (v8 : V) : Prop :=
  @OptVH (binV .add .none v8 (.int .i64 1)) ⟨fun t25_2 =>
  Q .normal [(1, v1), (6, v6), (8, t25_2)] M⟩
theorem e17_23 (P : Program) (Q : Exit → Slots → Mem → Prop) (s : Slots) (M : Mem) : wpC P c17_23 Q s M = w17_23 P Q M (sget s 1) (sget s 6) (sget s 8) := by kernel_rfl
def c17_24 : ACode := (.seq c17_21 c17_23)
def c17_25 : ACode := (.seq c17_12 c17_24)
def c17_26 : ACode := (.loop [1, 6, 8] c17_25)
def c17_27 : ACode := (.block 0 c17_26)
def c17_28 : ACode := (.seq c17_10 c17_27)
def o17_29 : List AOper := [⟨some 41, (.mov (.tmp 6)), false, none⟩,
  ⟨some 4, (.mov (.tmp 41)), false, none⟩,
  ⟨some 5, (.mov (.const (.bool true))), true, none⟩]
def c17_30 : ACode := (.region o17_29 [4, 5])
def w17_30 (_P : Program) (Q : Exit → Slots → Mem → Prop) (M : Mem) (v6 : V) : Prop :=
  Q .normal [(4, v6), (5, (.bool true))] M
theorem e17_30 (P : Program) (Q : Exit → Slots → Mem → Prop) (s : Slots) (M : Mem) : wpC P c17_30 Q s M = w17_30 P Q M (sget s 6) := by kernel_rfl
def c17_31 : ACode := (.seq c17_30 .ret)
def c17_32 : ACode := (.seq c17_28 c17_31)
def c17_33 : ACode := (.seq c17_8 c17_32)
def c17_34 : ACode := (.seq c17_3 c17_33)
def c17_35 : ACode := (.seq c17_1 c17_34)
def fn_transitlaw36_made : AFn := ⟨42, [(.tmp 4), (.tmp 5)], c17_35⟩
theorem fn_transitlaw36_made_ok : resFn PR h_transitlaw36_made i_transitlaw36_made = some fn_transitlaw36_made := by kernel_rfl

def h_transitref36_Price : Hints := ⟨[(0, [1, 2]), (1, [6, 8]), (2, [4, 5])], [], []⟩
def o18_0 : List AOper := [⟨some 2, (.box 4 (.tmp 0)), false, none⟩,
  ⟨some 4, (.mov (.const (.int .i64 0))), false, none⟩,
  ⟨some 5, (.mov (.const (.bool false))), true, none⟩]
def c18_1 : ACode := (.region o18_0 [1, 2])
def w18_1 (_P : Program) (Q : Exit → Slots → Mem → Prop) (M : Mem) (v0 : V) (v1 : V) : Prop :=
  @OptMH (boxV 4 v0 M) ⟨fun t2_1 M1 =>
  Q .normal [(1, v1), (2, t2_1)] M1⟩
theorem e18_1 (P : Program) (Q : Exit → Slots → Mem → Prop) (s : Slots) (M : Mem) : wpC P c18_1 Q s M = w18_1 P Q M (sget s 0) (sget s 1) := by kernel_rfl
def o18_2 : List AOper := [⟨some 10, (.load 4 true (.tmp 2)), false, none⟩,
  ⟨some 11, (.mov (.tmp 1)), false, none⟩,
  ⟨some 12, (.call i_transitref35_Price [(.tmp 10), (.tmp 11)]), false, none⟩,
  ⟨some 9, (.mov (.tmp 12)), false, none⟩,
  ⟨some 13, (.extract (.tmp 9) 0), false, none⟩,
  ⟨some 14, (.extract (.tmp 9) 1), false, none⟩,
  ⟨some 15, (.extract (.tmp 9) 2), false, none⟩,
  ⟨some 6, (.mov (.tmp 13)), false, none⟩,
  ⟨some 7, (.mov (.tmp 14)), false, none⟩,
  ⟨some 8, (.mov (.tmp 15)), false, none⟩]
def c18_3 : ACode := (.region o18_2 [6, 8])
def w18_3 (P : Program) (Q : Exit → Slots → Mem → Prop) (M : Mem) (v1 : V) (v2 : V) : Prop :=
  @OptVH (loadV 4 true v2 M) ⟨fun t10_1 =>
  @CallH P i_transitref35_Price [t10_1, v1] M ⟨fun t12_3 M3 =>
  @OptVH (extractV t12_3 0) ⟨fun t13_5 =>
  @OptVH (extractV t12_3 1) ⟨fun _t14_6 =>
  @OptVH (extractV t12_3 2) ⟨fun t15_7 =>
  Q .normal [(6, t13_5), (8, t15_7)] M3⟩⟩⟩⟩⟩
theorem e18_3 (P : Program) (Q : Exit → Slots → Mem → Prop) (s : Slots) (M : Mem) : wpC P c18_3 Q s M = w18_3 P Q M (sget s 1) (sget s 2) := by kernel_rfl
def o18_4 : List AOper := [⟨some 16, (.mov (.tmp 6)), false, none⟩,
  ⟨some 17, (.mov (.tmp 8)), false, none⟩,
  ⟨some 18, (.bin .eql .none (.tmp 17) (.const (.int .i64 0))), true, none⟩,
  ⟨some 4, (.mov (.tmp 16)), false, none⟩,
  ⟨some 5, (.mov (.tmp 18)), true, none⟩]
def c18_5 : ACode := (.region o18_4 [4, 5])
def w18_5 (_P : Program) (Q : Exit → Slots → Mem → Prop) (M : Mem) (v6 : V) (v8 : V) : Prop :=
  @OptBH (binV .eql .none v8 (.int .i64 0)) ⟨fun b18_3 =>
  Q .normal [(4, v6), (5, (.bool b18_3))] M⟩
theorem e18_5 (P : Program) (Q : Exit → Slots → Mem → Prop) (s : Slots) (M : Mem) : wpC P c18_5 Q s M = w18_5 P Q M (sget s 6) (sget s 8) := by kernel_rfl
def c18_6 : ACode := (.seq c18_5 .ret)
def c18_7 : ACode := (.seq c18_3 c18_6)
def c18_8 : ACode := (.seq c18_1 c18_7)
def fn_transitref36_Price : AFn := ⟨19, [(.tmp 4), (.tmp 5)], c18_8⟩
theorem fn_transitref36_Price_ok : resFn PR h_transitref36_Price i_transitref36_Price = some fn_transitref36_Price := by kernel_rfl

def h_farestate_State_Dominates : Hints := ⟨[(0, [0, 1]), (1, [0, 1, 34]), (2, [4]), (3, [1, 5]), (4, [5, 38, 39, 40]), (5, [5, 38, 39, 40, 41]), (6, [5, 7, 38, 39, 40]), (7, [5, 7, 8, 38, 39, 40]), (8, [5, 7, 8, 38, 39, 40, 44, 45, 46]), (9, [5, 7, 8, 38, 39, 40, 44, 45, 46, 47]), (10, [5, 7, 8, 10, 38, 39, 40, 44, 45, 46]), (11, [5, 7, 8, 38, 39, 40, 44, 45, 46]), (12, [5, 7, 8, 38, 39, 40, 44, 45, 46]), (13, [5, 38, 39, 40, 58]), (14, [4]), (15, [5, 38, 39, 40]), (16, [4])], [(5, [5, 38, 39, 40]), (9, [5, 7, 8, 38, 39, 40, 44, 45, 46])], []⟩
def o19_0 : List AOper := [⟨some 4, (.mov (.const (.bool false))), true, none⟩]
def c19_1 : ACode := (.region o19_0 [0, 1])
def w19_1 (_P : Program) (Q : Exit → Slots → Mem → Prop) (M : Mem) (v0 : V) (v1 : V) : Prop :=
  Q .normal [(0, v0), (1, v1)] M
theorem e19_1 (P : Program) (Q : Exit → Slots → Mem → Prop) (s : Slots) (M : Mem) : wpC P c19_1 Q s M = w19_1 P Q M (sget s 0) (sget s 1) := by kernel_rfl
def o19_2 : List AOper := [⟨some 4, (.mov (.const (.bool false))), true, none⟩]
def c19_3 : ACode := (.region o19_2 [4])
def w19_3 (_P : Program) (Q : Exit → Slots → Mem → Prop) (M : Mem) : Prop :=
  Q .normal [(4, (.bool false))] M
theorem e19_3 (P : Program) (Q : Exit → Slots → Mem → Prop) (s : Slots) (M : Mem) : wpC P c19_3 Q s M = w19_3 P Q M := by kernel_rfl
def c19_4 : ACode := (.seq c19_3 .ret)
def o19_5 : List AOper := [⟨some 11, (.mov (.tmp 0)), false, none⟩,
  ⟨some 12, (.bin .eql .ptr (.tmp 11) (.const .nilp)), true, none⟩,
  ⟨some 13, (.mov (.tmp 12)), true, none⟩,
  ⟨some 14, (.mov (.tmp 1)), false, some (13, false)⟩,
  ⟨some 15, (.bin .eql .ptr (.tmp 14) (.const .nilp)), true, some (13, false)⟩,
  ⟨some 16, (.pick (.tmp 13) (.const (.bool true)) (.tmp 15)), true, none⟩,
  ⟨some 17, (.mov (.tmp 16)), true, none⟩,
  ⟨some 18, (.mov (.tmp 0)), false, some (17, false)⟩,
  ⟨some 19, (.nilCheck (.tmp 18)), false, some (17, false)⟩,
  ⟨some 20, (.fieldAddr 0 (.tmp 19)), false, some (17, false)⟩,
  ⟨some 21, (.load 1 false (.tmp 20)), false, some (17, false)⟩,
  ⟨some 22, (.mov (.tmp 1)), false, some (17, false)⟩,
  ⟨some 23, (.nilCheck (.tmp 22)), false, some (17, false)⟩,
  ⟨some 24, (.fieldAddr 0 (.tmp 23)), false, some (17, false)⟩,
  ⟨some 25, (.load 1 false (.tmp 24)), false, some (17, false)⟩,
  ⟨some 26, (.call i_farestate_sameFares [(.tmp 21), (.tmp 25)]), true, some (17, false)⟩,
  ⟨some 27, (.un .not (.tmp 26)), true, some (17, false)⟩,
  ⟨some 28, (.pick (.tmp 17) (.const (.bool true)) (.tmp 27)), true, none⟩,
  ⟨some 29, (.mov (.tmp 28)), true, none⟩,
  ⟨some 30, (.mov (.tmp 0)), false, some (29, false)⟩,
  ⟨some 31, (.mov (.tmp 1)), false, some (29, false)⟩,
  ⟨some 32, (.call i_farestate_closedBetter [(.tmp 30), (.tmp 31)]), true, some (29, false)⟩,
  ⟨some 33, (.un .not (.tmp 32)), true, some (29, false)⟩,
  ⟨some 34, (.pick (.tmp 29) (.const (.bool true)) (.tmp 33)), true, none⟩]
def c19_6 : ACode := (.seq (.mixed o19_5 [true, true, true, true, true, true, true, true, true, true, true, true, true, true, true, false, true, true, true, true, true, false, true, true] [0, 1, 34]) (.cond (.tmp 34) c19_4 .skip))
def w19_6 (P : Program) (Q : Exit → Slots → Mem → Prop) (M : Mem) (v0 : V) (v1 : V) : Prop :=
  @OptBH (binV .eql .ptr v0 .nilp) ⟨fun b12_2 =>
  @BIfH b12_2
  ⟨wpC P c19_4 Q [(0, v0), (1, v1), (34, (.bool true))] M⟩
  ⟨@OptBH (binV .eql .ptr v1 .nilp) ⟨fun b15_10 =>
  @BIfH b15_10
  ⟨wpC P c19_4 Q [(0, v0), (1, v1), (34, (.bool true))] M⟩
  ⟨@OptVH (nilCheckV v0) ⟨fun t19_17 =>
  @OptVH (moveV 0 t19_17) ⟨fun t20_18 =>
  @OptVH (loadV 1 false t20_18 M) ⟨fun t21_19 =>
  @OptVH (nilCheckV v1) ⟨fun t23_21 =>
  @OptVH (moveV 0 t23_21) ⟨fun t24_22 =>
  @OptVH (loadV 1 false t24_22 M) ⟨fun t25_23 =>
  @CallH P i_farestate_sameFares [t21_19, t25_23] M ⟨fun t26_24 M24 => @OptBH (some t26_24) ⟨fun b26_24 =>
  @OptBH (unV .not (.bool b26_24)) ⟨fun b27_25 =>
  @BIfH b27_25
  ⟨wpC P c19_4 Q [(0, v0), (1, v1), (34, (.bool true))] M24⟩
  ⟨@CallH P i_farestate_closedBetter [v0, v1] M24 ⟨fun t32_31 M31 => @OptBH (some t32_31) ⟨fun b32_31 =>
  @OptBH (unV .not (.bool b32_31)) ⟨fun b33_32 =>
  @BIfH b33_32
  ⟨wpC P c19_4 Q [(0, v0), (1, v1), (34, (.bool b33_32))] M31⟩
  ⟨Q .normal [(0, v0), (1, v1), (34, (.bool b33_32))] M31⟩⟩⟩⟩⟩⟩⟩⟩⟩⟩⟩⟩⟩⟩⟩⟩⟩⟩
theorem e19_6 (P : Program) (Q : Exit → Slots → Mem → Prop) (s : Slots) (M : Mem) : wpC P c19_6 Q s M = w19_6 P Q M (sget s 0) (sget s 1) := by kernel_rfl
def o19_7 : List AOper := [⟨some 35, (.mov (.tmp 0)), false, none⟩,
  ⟨some 36, (.call i_farestate_State_tickets [(.tmp 35)]), false, none⟩,
  ⟨some 5, (.mov (.tmp 36)), false, none⟩]
def c19_8 : ACode := (.region o19_7 [1, 5])
def w19_8 (P : Program) (Q : Exit → Slots → Mem → Prop) (M : Mem) (v0 : V) (v1 : V) : Prop :=
  @CallH P i_farestate_State_tickets [v0] M ⟨fun t36_2 M2 =>
  Q .normal [(1, v1), (5, t36_2)] M2⟩
theorem e19_8 (P : Program) (Q : Exit → Slots → Mem → Prop) (s : Slots) (M : Mem) : wpC P c19_8 Q s M = w19_8 P Q M (sget s 0) (sget s 1) := by kernel_rfl
def o19_9 : List AOper := [⟨some 37, (.mov (.tmp 1)), false, none⟩,
  ⟨some 38, (.call i_farestate_State_tickets [(.tmp 37)]), false, none⟩,
  ⟨some 39, (.lenSl (.tmp 38)), false, none⟩,
  ⟨some 40, (.mov (.const (.int .i64 0))), false, none⟩]
def c19_10 : ACode := (.region o19_9 [5, 38, 39, 40])
def w19_10 (P : Program) (Q : Exit → Slots → Mem → Prop) (M : Mem) (v1 : V) (v5 : V) : Prop :=
  @CallH P i_farestate_State_tickets [v1] M ⟨fun t38_2 M2 =>
  @OptVH (lenV t38_2 M2) ⟨fun t39_3 =>
  Q .normal [(5, v5), (38, t38_2), (39, t39_3), (40, (.int .i64 0))] M2⟩⟩
theorem e19_10 (P : Program) (Q : Exit → Slots → Mem → Prop) (s : Slots) (M : Mem) : wpC P c19_10 Q s M = w19_10 P Q M (sget s 1) (sget s 5) := by kernel_rfl
def o19_11 : List AOper := [⟨some 41, (.bin .lss .none (.tmp 40) (.tmp 39)), false, none⟩]
def c19_12 : ACode := (.region o19_11 [5, 38, 39, 40, 41])
def w19_12 (_P : Program) (Q : Exit → Slots → Mem → Prop) (M : Mem) (v5 : V) (v38 : V) (v39 : V) (v40 : V) : Prop :=
  @OptVH (binV .lss .none v40 v39) ⟨fun t41_1 =>
  Q .normal [(5, v5), (38, v38), (39, v39), (40, v40), (41, t41_1)] M⟩
theorem e19_12 (P : Program) (Q : Exit → Slots → Mem → Prop) (s : Slots) (M : Mem) : wpC P c19_12 Q s M = w19_12 P Q M (sget s 5) (sget s 38) (sget s 39) (sget s 40) := by kernel_rfl
def c19_13 : ACode := (.cond (.tmp 41) .skip (.exit 0))
def o19_14 : List AOper := [⟨some 42, (.indexSl 5 (.tmp 38) (.tmp 40)), false, none⟩,
  ⟨some 43, (.load 5 true (.tmp 42)), false, none⟩,
  ⟨some 7, (.alloc [(.int .i64 0), (.int .i64 0), (.int .i64 0), (.int .i64 0), (.int .u64 0)]), false, none⟩,
  ⟨none, (.store 5 (.tmp 7) (.tmp 43)), false, none⟩]
def c19_15 : ACode := (.region o19_14 [5, 7, 38, 39, 40])
def w19_15 (_P : Program) (Q : Exit → Slots → Mem → Prop) (M : Mem) (v5 : V) (v38 : V) (v39 : V) (v40 : V) : Prop :=
  @OptVH (indexSlV 5 v38 v40 M) ⟨fun t42_1 =>
  @OptVH (loadV 5 true t42_1 M) ⟨fun t43_2 =>
  @OptMH (allocV [(.int .i64 0), (.int .i64 0), (.int .i64 0), (.int .i64 0), (.int .u64 0)] M) ⟨fun t7_3 M3 =>
  @OptMH (storeVM 5 t7_3 t43_2 M3) ⟨fun _tx_4 M4 =>
  Q .normal [(5, v5), (7, t7_3), (38, v38), (39, v39), (40, v40)] M4⟩⟩⟩⟩
theorem e19_15 (P : Program) (Q : Exit → Slots → Mem → Prop) (s : Slots) (M : Mem) : wpC P c19_15 Q s M = w19_15 P Q M (sget s 5) (sget s 38) (sget s 39) (sget s 40) := by kernel_rfl
def o19_16 : List AOper := [⟨some 8, (.mov (.const (.bool false))), true, none⟩]
def c19_17 : ACode := (.region o19_16 [5, 7, 8, 38, 39, 40])
def w19_17 (_P : Program) (Q : Exit → Slots → Mem → Prop) (M : Mem) (v5 : V) (v7 : V) (v38 : V) (v39 : V) (v40 : V) : Prop :=
  Q .normal [(5, v5), (7, v7), (8, (.bool false)), (38, v38), (39, v39), (40, v40)] M
theorem e19_17 (P : Program) (Q : Exit → Slots → Mem → Prop) (s : Slots) (M : Mem) : wpC P c19_17 Q s M = w19_17 P Q M (sget s 5) (sget s 7) (sget s 38) (sget s 39) (sget s 40) := by kernel_rfl
def o19_18 : List AOper := [⟨some 44, (.mov (.tmp 5)), false, none⟩,
  ⟨some 45, (.lenSl (.tmp 44)), false, none⟩,
  ⟨some 46, (.mov (.const (.int .i64 0))), false, none⟩]
def c19_19 : ACode := (.region o19_18 [5, 7, 8, 38, 39, 40, 44, 45, 46])
def w19_19 (_P : Program) (Q : Exit → Slots → Mem → Prop) (M : Mem) (v5 : V) (v7 : V) (v8 : V) (v38 : V) (v39 : V) (v40 : V) : Prop :=
  @OptVH (lenV v5 M) ⟨fun t45_2 =>
  Q .normal [(5, v5), (7, v7), (8, v8), (38, v38), (39, v39), (40, v40), (44, v5), (45, t45_2), (46, (.int .i64 0))] M⟩
theorem e19_19 (P : Program) (Q : Exit → Slots → Mem → Prop) (s : Slots) (M : Mem) : wpC P c19_19 Q s M = w19_19 P Q M (sget s 5) (sget s 7) (sget s 8) (sget s 38) (sget s 39) (sget s 40) := by kernel_rfl
def o19_20 : List AOper := [⟨some 47, (.bin .lss .none (.tmp 46) (.tmp 45)), false, none⟩]
def c19_21 : ACode := (.region o19_20 [5, 7, 8, 38, 39, 40, 44, 45, 46, 47])
def w19_21 (_P : Program) (Q : Exit → Slots → Mem → Prop) (M : Mem) (v5 : V) (v7 : V) (v8 : V) (v38 : V) (v39 : V) (v40 : V) (v44 : V) (v45 : V) (v46 : V) : Prop :=
  @OptVH (binV .lss .none v46 v45) ⟨fun t47_1 =>
  Q .normal [(5, v5), (7, v7), (8, v8), (38, v38), (39, v39), (40, v40), (44, v44), (45, v45), (46, v46), (47, t47_1)] M⟩
theorem e19_21 (P : Program) (Q : Exit → Slots → Mem → Prop) (s : Slots) (M : Mem) : wpC P c19_21 Q s M = w19_21 P Q M (sget s 5) (sget s 7) (sget s 8) (sget s 38) (sget s 39) (sget s 40) (sget s 44) (sget s 45) (sget s 46) := by kernel_rfl
def c19_22 : ACode := (.cond (.tmp 47) .skip (.exit 2))
def o19_23 : List AOper := [⟨some 48, (.indexSl 5 (.tmp 44) (.tmp 46)), false, none⟩,
  ⟨some 49, (.load 5 true (.tmp 48)), false, none⟩,
  ⟨some 10, (.alloc [(.int .i64 0), (.int .i64 0), (.int .i64 0), (.int .i64 0), (.int .u64 0)]), false, none⟩,
  ⟨none, (.store 5 (.tmp 10) (.tmp 49)), false, none⟩]
def c19_24 : ACode := (.region o19_23 [5, 7, 8, 10, 38, 39, 40, 44, 45, 46])
def w19_24 (_P : Program) (Q : Exit → Slots → Mem → Prop) (M : Mem) (v5 : V) (v7 : V) (v8 : V) (v38 : V) (v39 : V) (v40 : V) (v44 : V) (v45 : V) (v46 : V) : Prop :=
  @OptVH (indexSlV 5 v44 v46 M) ⟨fun t48_1 =>
  @OptVH (loadV 5 true t48_1 M) ⟨fun t49_2 =>
  @OptMH (allocV [(.int .i64 0), (.int .i64 0), (.int .i64 0), (.int .i64 0), (.int .u64 0)] M) ⟨fun t10_3 M3 =>
  @OptMH (storeVM 5 t10_3 t49_2 M3) ⟨fun _tx_4 M4 =>
  Q .normal [(5, v5), (7, v7), (8, v8), (10, t10_3), (38, v38), (39, v39), (40, v40), (44, v44), (45, v45), (46, v46)] M4⟩⟩⟩⟩
theorem e19_24 (P : Program) (Q : Exit → Slots → Mem → Prop) (s : Slots) (M : Mem) : wpC P c19_24 Q s M = w19_24 P Q M (sget s 5) (sget s 7) (sget s 8) (sget s 38) (sget s 39) (sget s 40) (sget s 44) (sget s 45) (sget s 46) := by kernel_rfl
def o19_25 : List AOper := [⟨some 50, (.mov (.tmp 8)), true, none⟩,
  ⟨some 51, (.mov (.tmp 50)), true, none⟩,
  ⟨some 52, (.load 5 true (.tmp 10)), false, some (51, false)⟩,
  ⟨some 53, (.load 5 true (.tmp 7)), false, some (51, false)⟩,
  ⟨some 54, (.call i_farestate_open_replaces [(.tmp 52), (.tmp 53)]), true, some (51, false)⟩,
  ⟨some 55, (.pick (.tmp 51) (.const (.bool true)) (.tmp 54)), true, none⟩,
  ⟨some 8, (.mov (.tmp 55)), true, none⟩]
def c19_26 : ACode := (.region o19_25 [5, 7, 8, 38, 39, 40, 44, 45, 46])
def w19_26 (P : Program) (Q : Exit → Slots → Mem → Prop) (M : Mem) (v5 : V) (v7 : V) (v8 : V) (v10 : V) (v38 : V) (v39 : V) (v40 : V) (v44 : V) (v45 : V) (v46 : V) : Prop :=
  @OptBH (some v8) ⟨fun b50_1 =>
  @BIfH b50_1
  ⟨Q .normal [(5, v5), (7, v7), (8, (.bool true)), (38, v38), (39, v39), (40, v40), (44, v44), (45, v45), (46, v46)] M⟩
  ⟨@OptVH (loadV 5 true v10 M) ⟨fun t52_5 =>
  @OptVH (loadV 5 true v7 M) ⟨fun t53_6 =>
  @CallH P i_farestate_open_replaces [t52_5, t53_6] M ⟨fun t54_7 M7 => @OptBH (some t54_7) ⟨fun b54_7 =>
  Q .normal [(5, v5), (7, v7), (8, (.bool b54_7)), (38, v38), (39, v39), (40, v40), (44, v44), (45, v45), (46, v46)] M7⟩⟩⟩⟩⟩⟩
theorem e19_26 (P : Program) (Q : Exit → Slots → Mem → Prop) (s : Slots) (M : Mem) : wpC P c19_26 Q s M = w19_26 P Q M (sget s 5) (sget s 7) (sget s 8) (sget s 10) (sget s 38) (sget s 39) (sget s 40) (sget s 44) (sget s 45) (sget s 46) := by kernel_rfl
def c19_27 : ACode := (.seq c19_24 c19_26)
def c19_28 : ACode := (.block 3 c19_27)
def o19_29 : List AOper := [⟨some 56, (.bin .add .none (.tmp 46) (.const (.int .i64 1))), false, none⟩,
  ⟨some 46, (.mov (.tmp 56)), false, none⟩]
def c19_30 : ACode := (.region o19_29 [5, 7, 8, 38, 39, 40, 44, 45, 46])
def w19_30 (_P : Program) (Q : Exit → Slots → Mem → Prop) (M : Mem) (v5 : V) (v7 : V) (v8 : V) (v38 : V) (v39 : V) (v40 : V) (v44 : V) (v45 : V) (v46 : V) : Prop :=
  @OptVH (binV .add .none v46 (.int .i64 1)) ⟨fun t56_1 =>
  Q .normal [(5, v5), (7, v7), (8, v8), (38, v38), (39, v39), (40, v40), (44, v44), (45, v45), (46, t56_1)] M⟩
theorem e19_30 (P : Program) (Q : Exit → Slots → Mem → Prop) (s : Slots) (M : Mem) : wpC P c19_30 Q s M = w19_30 P Q M (sget s 5) (sget s 7) (sget s 8) (sget s 38) (sget s 39) (sget s 40) (sget s 44) (sget s 45) (sget s 46) := by kernel_rfl
def c19_31 : ACode := (.seq c19_28 c19_30)
def c19_32 : ACode := (.seq c19_22 c19_31)
def c19_33 : ACode := (.seq c19_21 c19_32)
def c19_34 : ACode := (.loop [5, 7, 8, 38, 39, 40, 44, 45, 46] c19_33)
def c19_35 : ACode := (.block 2 c19_34)
def c19_36 : ACode := (.seq c19_19 c19_35)
def o19_37 : List AOper := [⟨some 4, (.mov (.const (.bool false))), true, none⟩]
def c19_38 : ACode := (.region o19_37 [4])
def w19_38 (_P : Program) (Q : Exit → Slots → Mem → Prop) (M : Mem) : Prop :=
  Q .normal [(4, (.bool false))] M
theorem e19_38 (P : Program) (Q : Exit → Slots → Mem → Prop) (s : Slots) (M : Mem) : wpC P c19_38 Q s M = w19_38 P Q M := by kernel_rfl
def c19_39 : ACode := (.seq c19_38 .ret)
def o19_40 : List AOper := [⟨some 57, (.mov (.tmp 8)), true, none⟩,
  ⟨some 58, (.un .not (.tmp 57)), true, none⟩]
def c19_41 : ACode := (.seq (.region o19_40 [5, 38, 39, 40, 58]) (.cond (.tmp 58) c19_39 .skip))
def w19_41 (P : Program) (Q : Exit → Slots → Mem → Prop) (M : Mem) (v5 : V) (v8 : V) (v38 : V) (v39 : V) (v40 : V) : Prop :=
  @OptBH (some v8) ⟨fun b57_1 =>
  @OptBH (unV .not (.bool b57_1)) ⟨fun b58_2 =>
  @BIfH b58_2
  ⟨wpC P c19_39 Q [(5, v5), (38, v38), (39, v39), (40, v40), (58, (.bool b58_2))] M⟩
  ⟨Q .normal [(5, v5), (38, v38), (39, v39), (40, v40), (58, (.bool b58_2))] M⟩⟩⟩
theorem e19_41 (P : Program) (Q : Exit → Slots → Mem → Prop) (s : Slots) (M : Mem) : wpC P c19_41 Q s M = w19_41 P Q M (sget s 5) (sget s 8) (sget s 38) (sget s 39) (sget s 40) := by kernel_rfl
def c19_42 : ACode := (.seq c19_36 c19_41)
def c19_43 : ACode := (.seq c19_17 c19_42)
def c19_44 : ACode := (.seq c19_15 c19_43)
def c19_45 : ACode := (.block 1 c19_44)
def o19_46 : List AOper := [⟨some 59, (.bin .add .none (.tmp 40) (.const (.int .i64 1))), false, none⟩,
  ⟨some 40, (.mov (.tmp 59)), false, none⟩]
def c19_47 : ACode := (.region o19_46 [5, 38, 39, 40])
def w19_47 (_P : Program) (Q : Exit → Slots → Mem → Prop) (M : Mem) (v5 : V) (v38 : V) (v39 : V) (v40 : V) : Prop :=
  @OptVH (binV .add .none v40 (.int .i64 1)) ⟨fun t59_1 =>
  Q .normal [(5, v5), (38, v38), (39, v39), (40, t59_1)] M⟩
theorem e19_47 (P : Program) (Q : Exit → Slots → Mem → Prop) (s : Slots) (M : Mem) : wpC P c19_47 Q s M = w19_47 P Q M (sget s 5) (sget s 38) (sget s 39) (sget s 40) := by kernel_rfl
def c19_48 : ACode := (.seq c19_45 c19_47)
def c19_49 : ACode := (.seq c19_13 c19_48)
def c19_50 : ACode := (.seq c19_12 c19_49)
def c19_51 : ACode := (.loop [5, 38, 39, 40] c19_50)
def c19_52 : ACode := (.block 0 c19_51)
def c19_53 : ACode := (.seq c19_10 c19_52)
def o19_54 : List AOper := [⟨some 4, (.mov (.const (.bool true))), true, none⟩]
def c19_55 : ACode := (.region o19_54 [4])
def w19_55 (_P : Program) (Q : Exit → Slots → Mem → Prop) (M : Mem) : Prop :=
  Q .normal [(4, (.bool true))] M
theorem e19_55 (P : Program) (Q : Exit → Slots → Mem → Prop) (s : Slots) (M : Mem) : wpC P c19_55 Q s M = w19_55 P Q M := by kernel_rfl
def c19_56 : ACode := (.seq c19_55 .ret)
def c19_57 : ACode := (.seq c19_53 c19_56)
def c19_58 : ACode := (.seq c19_8 c19_57)
def c19_59 : ACode := (.seq c19_6 c19_58)
def c19_60 : ACode := (.seq c19_1 c19_59)
def fn_farestate_State_Dominates : AFn := ⟨60, [(.tmp 4)], c19_60⟩
theorem fn_farestate_State_Dominates_ok : resFn PR h_farestate_State_Dominates i_farestate_State_Dominates = some fn_farestate_State_Dominates := by kernel_rfl

def h_transitref36_Holds : Hints := ⟨[(0, [1, 2, 3, 4]), (1, [1, 2, 3, 4, 26]), (2, [8]), (3, [2, 3, 4, 9, 10]), (4, [9, 10, 11, 12]), (5, [8])], [], []⟩
def o20_0 : List AOper := [⟨some 4, (.box 4 (.tmp 0)), false, none⟩,
  ⟨some 8, (.mov (.const (.bool false))), true, none⟩]
def c20_1 : ACode := (.region o20_0 [1, 2, 3, 4])
def w20_1 (_P : Program) (Q : Exit → Slots → Mem → Prop) (M : Mem) (v0 : V) (v1 : V) (v2 : V) (v3 : V) : Prop :=
  @OptMH (boxV 4 v0 M) ⟨fun t4_1 M1 =>
  Q .normal [(1, v1), (2, v2), (3, v3), (4, t4_1)] M1⟩
theorem e20_1 (P : Program) (Q : Exit → Slots → Mem → Prop) (s : Slots) (M : Mem) : wpC P c20_1 Q s M = w20_1 P Q M (sget s 0) (sget s 1) (sget s 2) (sget s 3) := by kernel_rfl
def o20_2 : List AOper := [⟨some 8, (.mov (.const (.bool true))), true, none⟩]
def c20_3 : ACode := (.region o20_2 [8])
def w20_3 (_P : Program) (Q : Exit → Slots → Mem → Prop) (M : Mem) : Prop :=
  Q .normal [(8, (.bool true))] M
theorem e20_3 (P : Program) (Q : Exit → Slots → Mem → Prop) (s : Slots) (M : Mem) : wpC P c20_3 Q s M = w20_3 P Q M := by kernel_rfl
def c20_4 : ACode := (.seq c20_3 .ret)
def o20_5 : List AOper := [⟨some 13, (.mov (.tmp 1)), false, none⟩,
  ⟨some 14, (.lenSl (.tmp 13)), false, none⟩,
  ⟨some 15, (.mov (.tmp 3)), false, none⟩,
  ⟨some 16, (.lenSl (.tmp 15)), false, none⟩,
  ⟨some 17, (.bin .add .none (.tmp 14) (.tmp 16)), false, none⟩,
  ⟨some 18, (.bin .gtr .none (.tmp 17) (.const (.int .i64 8))), true, none⟩,
  ⟨some 19, (.mov (.tmp 18)), true, none⟩,
  ⟨some 20, (.mov (.tmp 2)), false, some (19, false)⟩,
  ⟨some 21, (.lenSl (.tmp 20)), false, some (19, false)⟩,
  ⟨some 22, (.mov (.tmp 3)), false, some (19, false)⟩,
  ⟨some 23, (.lenSl (.tmp 22)), false, some (19, false)⟩,
  ⟨some 24, (.bin .add .none (.tmp 21) (.tmp 23)), false, some (19, false)⟩,
  ⟨some 25, (.bin .gtr .none (.tmp 24) (.const (.int .i64 8))), true, some (19, false)⟩,
  ⟨some 26, (.pick (.tmp 19) (.const (.bool true)) (.tmp 25)), true, none⟩]
def c20_6 : ACode := (.seq (.region o20_5 [1, 2, 3, 4, 26]) (.cond (.tmp 26) c20_4 .skip))
def w20_6 (P : Program) (Q : Exit → Slots → Mem → Prop) (M : Mem) (v1 : V) (v2 : V) (v3 : V) (v4 : V) : Prop :=
  @OptVH (lenV v1 M) ⟨fun t14_2 =>
  @OptVH (lenV v3 M) ⟨fun t16_4 =>
  @OptVH (binV .add .none t14_2 t16_4) ⟨fun t17_5 =>
  @OptBH (binV .gtr .none t17_5 (.int .i64 8)) ⟨fun b18_6 =>
  @BIfH b18_6
  ⟨wpC P c20_4 Q [(1, v1), (2, v2), (3, v3), (4, v4), (26, (.bool true))] M⟩
  ⟨@OptVH (lenV v2 M) ⟨fun t21_10 =>
  @OptVH (lenV v3 M) ⟨fun t23_12 =>
  @OptVH (binV .add .none t21_10 t23_12) ⟨fun t24_13 =>
  @OptBH (binV .gtr .none t24_13 (.int .i64 8)) ⟨fun b25_14 =>
  @BIfH b25_14
  ⟨wpC P c20_4 Q [(1, v1), (2, v2), (3, v3), (4, v4), (26, (.bool b25_14))] M⟩
  ⟨Q .normal [(1, v1), (2, v2), (3, v3), (4, v4), (26, (.bool b25_14))] M⟩⟩⟩⟩⟩⟩⟩⟩⟩⟩
theorem e20_6 (P : Program) (Q : Exit → Slots → Mem → Prop) (s : Slots) (M : Mem) : wpC P c20_6 Q s M = w20_6 P Q M (sget s 1) (sget s 2) (sget s 3) (sget s 4) := by kernel_rfl
def o20_7 : List AOper := [⟨some 28, (.load 4 true (.tmp 4)), false, none⟩,
  ⟨some 29, (.mov (.tmp 1)), false, none⟩,
  ⟨some 30, (.mov (.tmp 3)), false, none⟩,
  ⟨some 31, (.call i_transitref36_joined [(.tmp 29), (.tmp 30)]), false, none⟩,
  ⟨some 32, (.call i_transitref36_Price [(.tmp 28), (.tmp 31)]), false, none⟩,
  ⟨some 27, (.mov (.tmp 32)), false, none⟩,
  ⟨some 33, (.extract (.tmp 27) 0), false, none⟩,
  ⟨some 34, (.extract (.tmp 27) 1), true, none⟩,
  ⟨some 9, (.mov (.tmp 33)), false, none⟩,
  ⟨some 10, (.mov (.tmp 34)), true, none⟩]
def c20_8 : ACode := (.mixed o20_7 [true, true, true, true, false, true, true, true, true, true] [2, 3, 4, 9, 10])
def w20_8 (P : Program) (Q : Exit → Slots → Mem → Prop) (M : Mem) (v1 : V) (v2 : V) (v3 : V) (v4 : V) : Prop :=
  @OptVH (loadV 4 true v4 M) ⟨fun t28_1 =>
  @CallQ P i_transitref36_joined [v1, v3] M ⟨fun t31_4 M4 =>
  @CallH P i_transitref36_Price [t28_1, t31_4] M4 ⟨fun t32_5 M5 =>
  @OptVH (extractV t32_5 0) ⟨fun t33_7 =>
  @OptBH (extractV t32_5 1) ⟨fun b34_8 =>
  Q .normal [(2, v2), (3, v3), (4, v4), (9, t33_7), (10, (.bool b34_8))] M5⟩⟩⟩⟩⟩
theorem e20_8 (P : Program) (Q : Exit → Slots → Mem → Prop) (s : Slots) (M : Mem) : wpC P c20_8 Q s M = w20_8 P Q M (sget s 1) (sget s 2) (sget s 3) (sget s 4) := by kernel_rfl
def o20_9 : List AOper := [⟨some 36, (.load 4 true (.tmp 4)), false, none⟩,
  ⟨some 37, (.mov (.tmp 2)), false, none⟩,
  ⟨some 38, (.mov (.tmp 3)), false, none⟩,
  ⟨some 39, (.call i_transitref36_joined [(.tmp 37), (.tmp 38)]), false, none⟩,
  ⟨some 40, (.call i_transitref36_Price [(.tmp 36), (.tmp 39)]), false, none⟩,
  ⟨some 35, (.mov (.tmp 40)), false, none⟩,
  ⟨some 41, (.extract (.tmp 35) 0), false, none⟩,
  ⟨some 42, (.extract (.tmp 35) 1), true, none⟩,
  ⟨some 11, (.mov (.tmp 41)), false, none⟩,
  ⟨some 12, (.mov (.tmp 42)), true, none⟩]
def c20_10 : ACode := (.mixed o20_9 [true, true, true, true, false, true, true, true, true, true] [9, 10, 11, 12])
def w20_10 (P : Program) (Q : Exit → Slots → Mem → Prop) (M : Mem) (v2 : V) (v3 : V) (v4 : V) (v9 : V) (v10 : V) : Prop :=
  @OptVH (loadV 4 true v4 M) ⟨fun t36_1 =>
  @CallQ P i_transitref36_joined [v2, v3] M ⟨fun t39_4 M4 =>
  @CallH P i_transitref36_Price [t36_1, t39_4] M4 ⟨fun t40_5 M5 =>
  @OptVH (extractV t40_5 0) ⟨fun t41_7 =>
  @OptBH (extractV t40_5 1) ⟨fun b42_8 =>
  Q .normal [(9, v9), (10, v10), (11, t41_7), (12, (.bool b42_8))] M5⟩⟩⟩⟩⟩
theorem e20_10 (P : Program) (Q : Exit → Slots → Mem → Prop) (s : Slots) (M : Mem) : wpC P c20_10 Q s M = w20_10 P Q M (sget s 2) (sget s 3) (sget s 4) (sget s 9) (sget s 10) := by kernel_rfl
def o20_11 : List AOper := [⟨some 43, (.mov (.tmp 12)), true, none⟩,
  ⟨some 44, (.un .not (.tmp 43)), true, none⟩,
  ⟨some 45, (.mov (.tmp 44)), true, none⟩,
  ⟨some 46, (.mov (.tmp 10)), true, some (45, false)⟩,
  ⟨some 47, (.mov (.tmp 46)), true, some (45, false)⟩,
  ⟨some 48, (.mov (.tmp 9)), false, some (47, true)⟩,
  ⟨some 49, (.mov (.tmp 11)), false, some (47, true)⟩,
  ⟨some 50, (.bin .leq .none (.tmp 48) (.tmp 49)), true, some (47, true)⟩,
  ⟨some 51, (.pick (.tmp 47) (.tmp 50) (.const (.bool false))), true, some (45, false)⟩,
  ⟨some 52, (.pick (.tmp 45) (.const (.bool true)) (.tmp 51)), true, none⟩,
  ⟨some 8, (.mov (.tmp 52)), true, none⟩]
def c20_12 : ACode := (.region o20_11 [8])
def w20_12 (_P : Program) (Q : Exit → Slots → Mem → Prop) (M : Mem) (v9 : V) (v10 : V) (v11 : V) (v12 : V) : Prop :=
  @OptBH (some v12) ⟨fun b43_1 =>
  @OptBH (unV .not (.bool b43_1)) ⟨fun b44_2 =>
  @BIfH b44_2
  ⟨Q .normal [(8, (.bool true))] M⟩
  ⟨@OptBH (some v10) ⟨fun b46_6 =>
  @BIfH b46_6
  ⟨@OptBH (binV .leq .none v9 v11) ⟨fun b50_10 =>
  Q .normal [(8, (.bool b50_10))] M⟩⟩
  ⟨Q .normal [(8, (.bool false))] M⟩⟩⟩⟩⟩
theorem e20_12 (P : Program) (Q : Exit → Slots → Mem → Prop) (s : Slots) (M : Mem) : wpC P c20_12 Q s M = w20_12 P Q M (sget s 9) (sget s 10) (sget s 11) (sget s 12) := by kernel_rfl
def c20_13 : ACode := (.seq c20_12 .ret)
def c20_14 : ACode := (.seq c20_10 c20_13)
def c20_15 : ACode := (.seq c20_8 c20_14)
def c20_16 : ACode := (.seq c20_6 c20_15)
def c20_17 : ACode := (.seq c20_1 c20_16)
def fn_transitref36_Holds : AFn := ⟨53, [(.tmp 8)], c20_17⟩
theorem fn_transitref36_Holds_ok : resFn PR h_transitref36_Holds i_transitref36_Holds = some fn_transitref36_Holds := by kernel_rfl

def h_transitlaw36_same : Hints := ⟨[(0, [2, 3]), (1, [2, 3, 33]), (2, [4]), (3, [2, 3, 5]), (4, [2, 3, 5, 38]), (5, [2, 3, 5]), (6, [2, 3, 5, 51]), (7, [4]), (8, [4])], [(4, [2, 3, 5])], []⟩
def o21_0 : List AOper := [⟨some 2, (.box 4 (.tmp 0)), false, none⟩,
  ⟨some 3, (.box 4 (.tmp 1)), false, none⟩,
  ⟨some 4, (.mov (.const (.bool false))), true, none⟩]
def c21_1 : ACode := (.region o21_0 [2, 3])
def w21_1 (_P : Program) (Q : Exit → Slots → Mem → Prop) (M : Mem) (v0 : V) (v1 : V) : Prop :=
  @OptMH (boxV 4 v0 M) ⟨fun t2_1 M1 =>
  @OptMH (boxV 4 v1 M1) ⟨fun t3_2 M2 =>
  Q .normal [(2, t2_1), (3, t3_2)] M2⟩⟩
theorem e21_1 (P : Program) (Q : Exit → Slots → Mem → Prop) (s : Slots) (M : Mem) : wpC P c21_1 Q s M = w21_1 P Q M (sget s 0) (sget s 1) := by kernel_rfl
def o21_2 : List AOper := [⟨some 4, (.mov (.const (.bool false))), true, none⟩]
def c21_3 : ACode := (.region o21_2 [4])
def w21_3 (_P : Program) (Q : Exit → Slots → Mem → Prop) (M : Mem) : Prop :=
  Q .normal [(4, (.bool false))] M
theorem e21_3 (P : Program) (Q : Exit → Slots → Mem → Prop) (s : Slots) (M : Mem) : wpC P c21_3 Q s M = w21_3 P Q M := by kernel_rfl
def c21_4 : ACode := (.seq c21_3 .ret)
def o21_5 : List AOper := [⟨some 6, (.fieldAddr 1 (.tmp 2)), false, none⟩,
  ⟨some 7, (.load 1 false (.tmp 6)), false, none⟩,
  ⟨some 8, (.fieldAddr 1 (.tmp 3)), false, none⟩,
  ⟨some 9, (.load 1 false (.tmp 8)), false, none⟩,
  ⟨some 10, (.bin .neq .none (.tmp 7) (.tmp 9)), true, none⟩,
  ⟨some 11, (.mov (.tmp 10)), true, none⟩,
  ⟨some 12, (.fieldAddr 2 (.tmp 2)), false, some (11, false)⟩,
  ⟨some 13, (.load 1 false (.tmp 12)), false, some (11, false)⟩,
  ⟨some 14, (.fieldAddr 2 (.tmp 3)), false, some (11, false)⟩,
  ⟨some 15, (.load 1 false (.tmp 14)), false, some (11, false)⟩,
  ⟨some 16, (.bin .neq .none (.tmp 13) (.tmp 15)), true, some (11, false)⟩,
  ⟨some 17, (.pick (.tmp 11) (.const (.bool true)) (.tmp 16)), true, none⟩,
  ⟨some 18, (.mov (.tmp 17)), true, none⟩,
  ⟨some 19, (.fieldAddr 3 (.tmp 2)), false, some (18, false)⟩,
  ⟨some 20, (.load 1 false (.tmp 19)), false, some (18, false)⟩,
  ⟨some 21, (.fieldAddr 3 (.tmp 3)), false, some (18, false)⟩,
  ⟨some 22, (.load 1 false (.tmp 21)), false, some (18, false)⟩,
  ⟨some 23, (.bin .neq .none (.tmp 20) (.tmp 22)), true, some (18, false)⟩,
  ⟨some 24, (.pick (.tmp 18) (.const (.bool true)) (.tmp 23)), true, none⟩,
  ⟨some 25, (.mov (.tmp 24)), true, none⟩,
  ⟨some 26, (.fieldAddr 0 (.tmp 2)), false, some (25, false)⟩,
  ⟨some 27, (.load 1 false (.tmp 26)), false, some (25, false)⟩,
  ⟨some 28, (.lenSl (.tmp 27)), false, some (25, false)⟩,
  ⟨some 29, (.fieldAddr 0 (.tmp 3)), false, some (25, false)⟩,
  ⟨some 30, (.load 1 false (.tmp 29)), false, some (25, false)⟩,
  ⟨some 31, (.lenSl (.tmp 30)), false, some (25, false)⟩,
  ⟨some 32, (.bin .neq .none (.tmp 28) (.tmp 31)), true, some (25, false)⟩,
  ⟨some 33, (.pick (.tmp 25) (.const (.bool true)) (.tmp 32)), true, none⟩]
def c21_6 : ACode := (.seq (.region o21_5 [2, 3, 33]) (.cond (.tmp 33) c21_4 .skip))
def w21_6 (P : Program) (Q : Exit → Slots → Mem → Prop) (M : Mem) (v2 : V) (v3 : V) : Prop :=
  @OptVH (moveV 1 v2) ⟨fun t6_1 =>
  @OptVH (loadV 1 false t6_1 M) ⟨fun t7_2 =>
  @OptVH (moveV 1 v3) ⟨fun t8_3 =>
  @OptVH (loadV 1 false t8_3 M) ⟨fun t9_4 =>
  @OptBH (binV .neq .none t7_2 t9_4) ⟨fun b10_5 =>
  @BIfH b10_5
  ⟨wpC P c21_4 Q [(2, v2), (3, v3), (33, (.bool true))] M⟩
  ⟨@OptVH (moveV 2 v2) ⟨fun t12_12 =>
  @OptVH (loadV 1 false t12_12 M) ⟨fun t13_13 =>
  @OptVH (moveV 2 v3) ⟨fun t14_14 =>
  @OptVH (loadV 1 false t14_14 M) ⟨fun t15_15 =>
  @OptBH (binV .neq .none t13_13 t15_15) ⟨fun b16_16 =>
  @BIfH b16_16
  ⟨wpC P c21_4 Q [(2, v2), (3, v3), (33, (.bool true))] M⟩
  ⟨@OptVH (moveV 3 v2) ⟨fun t19_22 =>
  @OptVH (loadV 1 false t19_22 M) ⟨fun t20_23 =>
  @OptVH (moveV 3 v3) ⟨fun t21_24 =>
  @OptVH (loadV 1 false t21_24 M) ⟨fun t22_25 =>
  @OptBH (binV .neq .none t20_23 t22_25) ⟨fun b23_26 =>
  @BIfH b23_26
  ⟨wpC P c21_4 Q [(2, v2), (3, v3), (33, (.bool true))] M⟩
  ⟨@OptVH (moveV 0 v2) ⟨fun t26_30 =>
  @OptVH (loadV 1 false t26_30 M) ⟨fun t27_31 =>
  @OptVH (lenV t27_31 M) ⟨fun t28_32 =>
  @OptVH (moveV 0 v3) ⟨fun t29_33 =>
  @OptVH (loadV 1 false t29_33 M) ⟨fun t30_34 =>
  @OptVH (lenV t30_34 M) ⟨fun t31_35 =>
  @OptBH (binV .neq .none t28_32 t31_35) ⟨fun b32_36 =>
  @BIfH b32_36
  ⟨wpC P c21_4 Q [(2, v2), (3, v3), (33, (.bool b32_36))] M⟩
  ⟨Q .normal [(2, v2), (3, v3), (33, (.bool b32_36))] M⟩⟩⟩⟩⟩⟩⟩⟩⟩⟩⟩⟩⟩⟩⟩⟩⟩⟩⟩⟩⟩⟩⟩⟩⟩⟩
theorem e21_6 (P : Program) (Q : Exit → Slots → Mem → Prop) (s : Slots) (M : Mem) : wpC P c21_6 Q s M = w21_6 P Q M (sget s 2) (sget s 3) := by kernel_rfl
def o21_7 : List AOper := [⟨some 5, (.mov (.const (.int .i64 0))), false, none⟩]
def c21_8 : ACode := (.region o21_7 [2, 3, 5])
def w21_8 (_P : Program) (Q : Exit → Slots → Mem → Prop) (M : Mem) (v2 : V) (v3 : V) : Prop :=
  Q .normal [(2, v2), (3, v3), (5, (.int .i64 0))] M
theorem e21_8 (P : Program) (Q : Exit → Slots → Mem → Prop) (s : Slots) (M : Mem) : wpC P c21_8 Q s M = w21_8 P Q M (sget s 2) (sget s 3) := by kernel_rfl
def o21_9 : List AOper := [⟨some 34, (.mov (.tmp 5)), false, none⟩,
  ⟨some 35, (.fieldAddr 0 (.tmp 2)), false, none⟩,
  ⟨some 36, (.load 1 false (.tmp 35)), false, none⟩,
  ⟨some 37, (.lenSl (.tmp 36)), false, none⟩,
  ⟨some 38, (.bin .lss .none (.tmp 34) (.tmp 37)), true, none⟩]
def c21_10 : ACode := (.seq (.region o21_9 [2, 3, 5, 38]) (.cond (.tmp 38) .skip (.exit 0)))
def w21_10 (_P : Program) (Q : Exit → Slots → Mem → Prop) (M : Mem) (v2 : V) (v3 : V) (v5 : V) : Prop :=
  @OptVH (moveV 0 v2) ⟨fun t35_2 =>
  @OptVH (loadV 1 false t35_2 M) ⟨fun t36_3 =>
  @OptVH (lenV t36_3 M) ⟨fun t37_4 =>
  @OptBH (binV .lss .none v5 t37_4) ⟨fun b38_5 =>
  @BIfH b38_5
  ⟨Q .normal [(2, v2), (3, v3), (5, v5), (38, (.bool b38_5))] M⟩
  ⟨Q (.exit 0) [(2, v2), (3, v3), (5, v5), (38, (.bool b38_5))] M⟩⟩⟩⟩⟩
theorem e21_10 (P : Program) (Q : Exit → Slots → Mem → Prop) (s : Slots) (M : Mem) : wpC P c21_10 Q s M = w21_10 P Q M (sget s 2) (sget s 3) (sget s 5) := by kernel_rfl
def o21_11 : List AOper := [⟨some 4, (.mov (.const (.bool false))), true, none⟩]
def c21_12 : ACode := (.region o21_11 [4])
def w21_12 (_P : Program) (Q : Exit → Slots → Mem → Prop) (M : Mem) : Prop :=
  Q .normal [(4, (.bool false))] M
theorem e21_12 (P : Program) (Q : Exit → Slots → Mem → Prop) (s : Slots) (M : Mem) : wpC P c21_12 Q s M = w21_12 P Q M := by kernel_rfl
def c21_13 : ACode := (.seq c21_12 .ret)
def o21_14 : List AOper := [⟨some 41, (.fieldAddr 0 (.tmp 2)), false, none⟩,
  ⟨some 42, (.load 1 false (.tmp 41)), false, none⟩,
  ⟨some 43, (.mov (.tmp 5)), false, none⟩,
  ⟨some 44, (.indexSl 6 (.tmp 42) (.tmp 43)), false, none⟩,
  ⟨some 45, (.load 6 true (.tmp 44)), false, none⟩,
  ⟨some 46, (.fieldAddr 0 (.tmp 3)), false, none⟩,
  ⟨some 47, (.load 1 false (.tmp 46)), false, none⟩,
  ⟨some 48, (.mov (.tmp 5)), false, none⟩,
  ⟨some 49, (.indexSl 6 (.tmp 47) (.tmp 48)), false, none⟩,
  ⟨some 50, (.load 6 true (.tmp 49)), false, none⟩,
  ⟨some 51, (.bin .neq (.cells [.str, .int, .int, .int, .int, .int]) (.tmp 45) (.tmp 50)), true, none⟩]
def c21_15 : ACode := (.seq (.mixed o21_14 [true, true, true, true, true, true, true, true, true, true, true] [2, 3, 5, 51]) (.cond (.tmp 51) c21_13 .skip))
def w21_15 (P : Program) (Q : Exit → Slots → Mem → Prop) (M : Mem) (v2 : V) (v3 : V) (v5 : V) : Prop :=
  @OptVH (moveV 0 v2) ⟨fun t41_1 =>
  @OptVH (loadV 1 false t41_1 M) ⟨fun t42_2 =>
  @OptVH (indexSlV 6 t42_2 v5 M) ⟨fun t44_4 =>
  @OptVH (loadV 6 true t44_4 M) ⟨fun t45_5 =>
  @OptVH (moveV 0 v3) ⟨fun t46_6 =>
  @OptVH (loadV 1 false t46_6 M) ⟨fun t47_7 =>
  @OptVH (indexSlV 6 t47_7 v5 M) ⟨fun t49_9 =>
  @OptVH (loadV 6 true t49_9 M) ⟨fun t50_10 =>
  @OptBH (binV .neq (.cells [.str, .int, .int, .int, .int, .int]) t45_5 t50_10) ⟨fun b51_11 =>
  @BIfH b51_11
  ⟨wpC P c21_13 Q [(2, v2), (3, v3), (5, v5), (51, (.bool b51_11))] M⟩
  ⟨Q .normal [(2, v2), (3, v3), (5, v5), (51, (.bool b51_11))] M⟩⟩⟩⟩⟩⟩⟩⟩⟩⟩
theorem e21_15 (P : Program) (Q : Exit → Slots → Mem → Prop) (s : Slots) (M : Mem) : wpC P c21_15 Q s M = w21_15 P Q M (sget s 2) (sget s 3) (sget s 5) := by kernel_rfl
def c21_16 : ACode := (.block 1 c21_15)
def o21_17 : List AOper := [⟨some 39, (.mov (.tmp 5)), false, none⟩,
  ⟨some 40, (.bin .add .none (.tmp 39) (.const (.int .i64 1))), false, none⟩,
  ⟨some 5, (.mov (.tmp 40)), false, none⟩]
def c21_18 : ACode := (.region o21_17 [2, 3, 5])
def w21_18 (_P : Program) (Q : Exit → Slots → Mem → Prop) (M : Mem) (v2 : V) (v3 : V) (v5 : V) : Prop :=
  @OptVH (binV .add .none v5 (.int .i64 1)) ⟨fun t40_2 =>
  Q .normal [(2, v2), (3, v3), (5, t40_2)] M⟩
theorem e21_18 (P : Program) (Q : Exit → Slots → Mem → Prop) (s : Slots) (M : Mem) : wpC P c21_18 Q s M = w21_18 P Q M (sget s 2) (sget s 3) (sget s 5) := by kernel_rfl
def c21_19 : ACode := (.seq c21_16 c21_18)
def c21_20 : ACode := (.seq c21_10 c21_19)
def c21_21 : ACode := (.loop [2, 3, 5] c21_20)
def c21_22 : ACode := (.block 0 c21_21)
def c21_23 : ACode := (.seq c21_8 c21_22)
def o21_24 : List AOper := [⟨some 4, (.mov (.const (.bool true))), true, none⟩]
def c21_25 : ACode := (.region o21_24 [4])
def w21_25 (_P : Program) (Q : Exit → Slots → Mem → Prop) (M : Mem) : Prop :=
  Q .normal [(4, (.bool true))] M
theorem e21_25 (P : Program) (Q : Exit → Slots → Mem → Prop) (s : Slots) (M : Mem) : wpC P c21_25 Q s M = w21_25 P Q M := by kernel_rfl
def c21_26 : ACode := (.seq c21_25 .ret)
def c21_27 : ACode := (.seq c21_23 c21_26)
def c21_28 : ACode := (.seq c21_6 c21_27)
def c21_29 : ACode := (.seq c21_1 c21_28)
def fn_transitlaw36_same : AFn := ⟨52, [(.tmp 4)], c21_29⟩
theorem fn_transitlaw36_same_ok : resFn PR h_transitlaw36_same i_transitlaw36_same = some fn_transitlaw36_same := by kernel_rfl

def h_transitlaw36_example : Hints := ⟨[(0, [0]), (1, [0])], [], []⟩
def o22_0 : List AOper := [⟨some 0, (.alloc [(.slice [] .nil), (.int .i64 0), (.int .i64 0), (.int .i64 0)]), false, none⟩]
def c22_1 : ACode := (.region o22_0 [0])
def w22_1 (_P : Program) (Q : Exit → Slots → Mem → Prop) (M : Mem) : Prop :=
  @OptMH (allocV [(.slice [] .nil), (.int .i64 0), (.int .i64 0), (.int .i64 0)] M) ⟨fun t0_1 M1 =>
  Q .normal [(0, t0_1)] M1⟩
theorem e22_1 (P : Program) (Q : Exit → Slots → Mem → Prop) (s : Slots) (M : Mem) : wpC P c22_1 Q s M = w22_1 P Q M := by kernel_rfl
def o22_2 : List AOper := [⟨some 1, (.build [(.str []), (.int .i64 0), (.int .i64 0), (.int .i64 0), (.int .i64 0), (.int .i64 0)] [(0, (1, (.const (.str [115, 105, 110, 103, 108, 101])))), (1, (1, (.const (.int .i64 200)))), (2, (1, (.const (.int .i64 1)))), (3, (1, (.const (.int .i64 16)))), (5, (1, (.const (.int .i64 255))))]), false, none⟩,
  ⟨some 2, (.build [(.str []), (.int .i64 0), (.int .i64 0), (.int .i64 0), (.int .i64 0), (.int .i64 0)] [(0, (1, (.const (.str [112, 97, 115, 115])))), (1, (1, (.const (.int .i64 350)))), (2, (1, (.const (.int .i64 3)))), (3, (1, (.const (.int .i64 16)))), (4, (1, (.const (.int .i64 3600)))), (5, (1, (.const (.int .i64 255))))]), false, none⟩,
  ⟨some 3, (.buildSlice [(.str []), (.int .i64 0), (.int .i64 0), (.int .i64 0), (.int .i64 0), (.int .i64 0), (.str []), (.int .i64 0), (.int .i64 0), (.int .i64 0), (.int .i64 0), (.int .i64 0)] 6 2 [(0, (6, (.tmp 1))), (6, (6, (.tmp 2)))]), false, none⟩,
  ⟨some 4, (.build [(.slice [] .nil), (.int .i64 0), (.int .i64 0), (.int .i64 0)] [(0, (1, (.tmp 3)))]), false, none⟩,
  ⟨none, (.store 4 (.tmp 0) (.tmp 4)), false, none⟩]
def c22_3 : ACode := (.region o22_2 [0])
def w22_3 (_P : Program) (Q : Exit → Slots → Mem → Prop) (M : Mem) (v0 : V) : Prop :=
  @OptVH (buildV [(.str []), (.int .i64 0), (.int .i64 0), (.int .i64 0), (.int .i64 0), (.int .i64 0)] [(0, 1, (.str [115, 105, 110, 103, 108, 101])), (1, 1, (.int .i64 200)), (2, 1, (.int .i64 1)), (3, 1, (.int .i64 16)), (5, 1, (.int .i64 255))]) ⟨fun t1_1 =>
  @OptVH (buildV [(.str []), (.int .i64 0), (.int .i64 0), (.int .i64 0), (.int .i64 0), (.int .i64 0)] [(0, 1, (.str [112, 97, 115, 115])), (1, 1, (.int .i64 350)), (2, 1, (.int .i64 3)), (3, 1, (.int .i64 16)), (4, 1, (.int .i64 3600)), (5, 1, (.int .i64 255))]) ⟨fun t2_2 =>
  @OptVH (buildSliceV [(.str []), (.int .i64 0), (.int .i64 0), (.int .i64 0), (.int .i64 0), (.int .i64 0), (.str []), (.int .i64 0), (.int .i64 0), (.int .i64 0), (.int .i64 0), (.int .i64 0)] 6 2 [(0, 6, t1_1), (6, 6, t2_2)]) ⟨fun t3_3 =>
  @OptVH (buildV [(.slice [] .nil), (.int .i64 0), (.int .i64 0), (.int .i64 0)] [(0, 1, t3_3)]) ⟨fun t4_4 =>
  @OptMH (storeVM 4 v0 t4_4 M) ⟨fun _tx_5 M5 =>
  Q .normal [(0, v0)] M5⟩⟩⟩⟩⟩
theorem e22_3 (P : Program) (Q : Exit → Slots → Mem → Prop) (s : Slots) (M : Mem) : wpC P c22_3 Q s M = w22_3 P Q M (sget s 0) := by kernel_rfl
def c22_4 : ACode := (.seq c22_3 .ret)
def c22_5 : ACode := (.seq c22_1 c22_4)
def fn_transitlaw36_example : AFn := ⟨5, [(.cell 0 4 true)], c22_5⟩
theorem fn_transitlaw36_example_ok : resFn PR h_transitlaw36_example i_transitlaw36_example = some fn_transitlaw36_example := by kernel_rfl

end Go.Vm.C
