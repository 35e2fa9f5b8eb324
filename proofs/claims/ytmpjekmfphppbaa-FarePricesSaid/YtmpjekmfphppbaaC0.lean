/- The abstract code of the functions that the statements reach, printed by a program, each with the equation that it is what the loaded program says. Part 0. -/
import Derived.Test.YtmpjekmfphppbaaProg
import Derived.Test.YtmpjekmfphppbaaVm2
import Derived.KernelRfl
namespace Go.Vm.C
open Go.Vm

abbrev i_main_main : Nat := 0
abbrev i_gosem_cut : Nat := 1
abbrev i_gosem_cut_init : Nat := 2
abbrev i_transitlaw35_FarePrices : Nat := 3
abbrev i_transitlaw35_FareExists : Nat := 4
abbrev i_transitlaw35_FareGrows : Nat := 5
abbrev i_transitlaw35_FareJoins : Nat := 6
abbrev i_transitlaw35_FareTotals : Nat := 7
abbrev i_transitlaw35_FareVerifies : Nat := 8
abbrev i_transitlaw35_FareMinimal : Nat := 9
abbrev i_transitlaw35_small : Nat := 10
abbrev i_transitlaw35_exampleHolds : Nat := 11
abbrev i_fare_Price : Nat := 12
abbrev i_transitref35_Price : Nat := 13
abbrev i_transitref35_Same : Nat := 14
abbrev i_fare_Total : Nat := 15
abbrev i_transitref35_Total : Nat := 16
abbrev i_fare_Verify : Nat := 17
abbrev i_transitref35_Verify : Nat := 18
abbrev i_fare_valid : Nat := 19
abbrev i_fare_divide : Nat := 20
abbrev i_fare_capped : Nat := 21
abbrev i_transitref35_Valid : Nat := 22
abbrev i_transitref35_Best : Nat := 23
abbrev i_transitref35_Capped : Nat := 24
abbrev i_transitref35_Sum : Nat := 25
abbrev i_fare_validPrice : Nat := 26
abbrev i_fare_check : Nat := 27
abbrev i_transitref35_one : Nat := 28
abbrev i_product_Check : Nat := 29
abbrev i_fare_divide_1 : Nat := 30
abbrev i_product_Covers : Nat := 31
abbrev i_fare_ticketPrice : Nat := 32
abbrev i_fare_rest_better : Nat := 33
abbrev i_transitref26_Fares : Nat := 34
abbrev i_transitref35_Covers : Nat := 35
abbrev i_transitref35_Ticket : Nat := 36
abbrev i_transitref35_better : Nat := 37
abbrev i_product_within : Nat := 38
abbrev i_ident_Valid : Nat := 39
abbrev i_product_later : Nat := 40
abbrev i_product_Covers_1 : Nat := 41
abbrev i_bitset_Set_Union : Nat := 42
abbrev i_bitset_Set_Len : Nat := 43
abbrev i_bitset_Set_Within : Nat := 44
abbrev i_fare_within : Nat := 45
abbrev i_transitref26_in : Nat := 46
abbrev i_transitref26_ValidID : Nat := 47
abbrev i_transitref35_bits : Nat := 48
abbrev i_transitref35_within : Nat := 49
abbrev i_runtime_boundsError_Error : Nat := 50
abbrev i_runtime_boundsError_RuntimeError : Nat := 51
abbrev i_runtime_errorString_Error : Nat := 52
abbrev i_runtime_errorString_RuntimeError : Nat := 53
abbrev i_runtime_plainError_Error : Nat := 54
abbrev i_runtime_plainError_RuntimeError : Nat := 55
abbrev i_runtime_errorAddressString_Error : Nat := 56
abbrev i_runtime_errorAddressString_RuntimeError : Nat := 57
abbrev i_runtime_TypeAssertionError_Error : Nat := 58
abbrev i_runtime_TypeAssertionError_RuntimeError : Nat := 59
abbrev i_runtime_PanicNilError_Error : Nat := 60
abbrev i_runtime_PanicNilError_RuntimeError : Nat := 61
abbrev i_internal_abi_Type_Align : Nat := 62
abbrev i_internal_runtime_maps_unhashableTypeError_Error : Nat := 63
abbrev i_internal_runtime_maps_unhashableTypeError_RuntimeError : Nat := 64
abbrev i_internal_abi_Kind_String : Nat := 65
noncomputable abbrev PR : Program := Go.Proofs.Try.prog

def h_transitlaw35_FarePrices : Hints := ⟨[(0, [1, 2]), (1, [1, 2, 14]), (2, [4]), (3, [1, 2, 5, 6, 7]), (4, [5, 6, 7, 8, 9, 10]), (5, [4])], [], []⟩
def o3_0 : List AOper := [⟨some 2, (.box 4 (.tmp 0)), false, none⟩,
  ⟨some 4, (.mov (.const (.bool false))), true, none⟩]
def c3_1 : ACode := (.region o3_0 [1, 2])
def w3_1 (_P : Program) (Q : Exit → Slots → Mem → Prop) (M : Mem) (v0 : V) (v1 : V) : Prop :=
  @OptMH (boxV 4 v0 M) ⟨fun t2_1 M1 =>
  Q .normal [(1, v1), (2, t2_1)] M1⟩
theorem e3_1 (P : Program) (Q : Exit → Slots → Mem → Prop) (s : Slots) (M : Mem) : wpC P c3_1 Q s M = w3_1 P Q M (sget s 0) (sget s 1) := by kernel_rfl
def o3_2 : List AOper := [⟨some 15, (.call i_transitlaw35_exampleHolds []), true, none⟩,
  ⟨some 4, (.mov (.tmp 15)), true, none⟩]
def c3_3 : ACode := (.region o3_2 [4])
def w3_3 (P : Program) (Q : Exit → Slots → Mem → Prop) (M : Mem) : Prop :=
  @CallH P i_transitlaw35_exampleHolds [] M ⟨fun t15_1 M1 => @OptBH (some t15_1) ⟨fun b15_1 =>
  Q .normal [(4, (.bool b15_1))] M1⟩⟩
theorem e3_3 (P : Program) (Q : Exit → Slots → Mem → Prop) (s : Slots) (M : Mem) : wpC P c3_3 Q s M = w3_3 P Q M := by kernel_rfl
def c3_4 : ACode := (.seq c3_3 .ret)
def o3_5 : List AOper := [⟨some 11, (.load 4 true (.tmp 2)), false, none⟩,
  ⟨some 12, (.mov (.tmp 1)), false, none⟩,
  ⟨some 13, (.call i_transitlaw35_small [(.tmp 11), (.tmp 12)]), true, none⟩,
  ⟨some 14, (.un .not (.tmp 13)), true, none⟩]
def c3_6 : ACode := (.seq (.region o3_5 [1, 2, 14]) (.cond (.tmp 14) c3_4 .skip))
def w3_6 (P : Program) (Q : Exit → Slots → Mem → Prop) (M : Mem) (v1 : V) (v2 : V) : Prop :=
  @OptVH (loadV 4 true v2 M) ⟨fun t11_1 =>
  @CallH P i_transitlaw35_small [t11_1, v1] M ⟨fun t13_3 M3 => @OptBH (some t13_3) ⟨fun b13_3 =>
  @OptBH (unV .not (.bool b13_3)) ⟨fun b14_4 =>
  @BIfH b14_4
  ⟨wpC P c3_4 Q [(1, v1), (2, v2), (14, (.bool b14_4))] M3⟩
  ⟨Q .normal [(1, v1), (2, v2), (14, (.bool b14_4))] M3⟩⟩⟩⟩⟩
theorem e3_6 (P : Program) (Q : Exit → Slots → Mem → Prop) (s : Slots) (M : Mem) : wpC P c3_6 Q s M = w3_6 P Q M (sget s 1) (sget s 2) := by kernel_rfl
def o3_7 : List AOper := [⟨some 17, (.load 4 true (.tmp 2)), false, none⟩,
  ⟨some 18, (.mov (.tmp 1)), false, none⟩,
  ⟨some 19, (.call i_fare_Price [(.tmp 17), (.tmp 18)]), false, none⟩,
  ⟨some 16, (.mov (.tmp 19)), false, none⟩,
  ⟨some 20, (.extract (.tmp 16) 0), false, none⟩,
  ⟨some 21, (.extract (.tmp 16) 1), false, none⟩,
  ⟨some 22, (.extract (.tmp 16) 2), false, none⟩,
  ⟨some 5, (.mov (.tmp 20)), false, none⟩,
  ⟨some 6, (.mov (.tmp 21)), false, none⟩,
  ⟨some 7, (.mov (.tmp 22)), false, none⟩]
def c3_8 : ACode := (.region o3_7 [1, 2, 5, 6, 7])
def w3_8 (P : Program) (Q : Exit → Slots → Mem → Prop) (M : Mem) (v1 : V) (v2 : V) : Prop :=
  @OptVH (loadV 4 true v2 M) ⟨fun t17_1 =>
  @CallH P i_fare_Price [t17_1, v1] M ⟨fun t19_3 M3 =>
  @OptVH (extractV t19_3 0) ⟨fun t20_5 =>
  @OptVH (extractV t19_3 1) ⟨fun t21_6 =>
  @OptVH (extractV t19_3 2) ⟨fun t22_7 =>
  Q .normal [(1, v1), (2, v2), (5, t20_5), (6, t21_6), (7, t22_7)] M3⟩⟩⟩⟩⟩
theorem e3_8 (P : Program) (Q : Exit → Slots → Mem → Prop) (s : Slots) (M : Mem) : wpC P c3_8 Q s M = w3_8 P Q M (sget s 1) (sget s 2) := by kernel_rfl
def o3_9 : List AOper := [⟨some 24, (.load 4 true (.tmp 2)), false, none⟩,
  ⟨some 25, (.mov (.tmp 1)), false, none⟩,
  ⟨some 26, (.call i_transitref35_Price [(.tmp 24), (.tmp 25)]), false, none⟩,
  ⟨some 23, (.mov (.tmp 26)), false, none⟩,
  ⟨some 27, (.extract (.tmp 23) 0), false, none⟩,
  ⟨some 28, (.extract (.tmp 23) 1), false, none⟩,
  ⟨some 29, (.extract (.tmp 23) 2), false, none⟩,
  ⟨some 8, (.mov (.tmp 27)), false, none⟩,
  ⟨some 9, (.mov (.tmp 28)), false, none⟩,
  ⟨some 10, (.mov (.tmp 29)), false, none⟩]
def c3_10 : ACode := (.region o3_9 [5, 6, 7, 8, 9, 10])
def w3_10 (P : Program) (Q : Exit → Slots → Mem → Prop) (M : Mem) (v1 : V) (v2 : V) (v5 : V) (v6 : V) (v7 : V) : Prop :=
  @OptVH (loadV 4 true v2 M) ⟨fun t24_1 =>
  @CallH P i_transitref35_Price [t24_1, v1] M ⟨fun t26_3 M3 =>
  @OptVH (extractV t26_3 0) ⟨fun t27_5 =>
  @OptVH (extractV t26_3 1) ⟨fun t28_6 =>
  @OptVH (extractV t26_3 2) ⟨fun t29_7 =>
  Q .normal [(5, v5), (6, v6), (7, v7), (8, t27_5), (9, t28_6), (10, t29_7)] M3⟩⟩⟩⟩⟩
theorem e3_10 (P : Program) (Q : Exit → Slots → Mem → Prop) (s : Slots) (M : Mem) : wpC P c3_10 Q s M = w3_10 P Q M (sget s 1) (sget s 2) (sget s 5) (sget s 6) (sget s 7) := by kernel_rfl
def o3_11 : List AOper := [⟨some 30, (.mov (.tmp 5)), false, none⟩,
  ⟨some 31, (.mov (.tmp 8)), false, none⟩,
  ⟨some 32, (.bin .eql .none (.tmp 30) (.tmp 31)), true, none⟩,
  ⟨some 33, (.mov (.tmp 32)), true, none⟩,
  ⟨some 34, (.mov (.tmp 6)), false, some (33, true)⟩,
  ⟨some 35, (.mov (.tmp 9)), false, some (33, true)⟩,
  ⟨some 36, (.call i_transitref35_Same [(.tmp 34), (.tmp 35)]), true, some (33, true)⟩,
  ⟨some 37, (.pick (.tmp 33) (.tmp 36) (.const (.bool false))), true, none⟩,
  ⟨some 38, (.mov (.tmp 37)), true, none⟩,
  ⟨some 39, (.mov (.tmp 7)), false, some (38, true)⟩,
  ⟨some 40, (.mov (.tmp 10)), false, some (38, true)⟩,
  ⟨some 41, (.bin .eql .none (.tmp 39) (.tmp 40)), true, some (38, true)⟩,
  ⟨some 42, (.pick (.tmp 38) (.tmp 41) (.const (.bool false))), true, none⟩,
  ⟨some 43, (.mov (.tmp 42)), true, none⟩,
  ⟨some 44, (.call i_transitlaw35_exampleHolds []), true, some (43, true)⟩,
  ⟨some 45, (.pick (.tmp 43) (.tmp 44) (.const (.bool false))), true, none⟩,
  ⟨some 4, (.mov (.tmp 45)), true, none⟩]
def c3_12 : ACode := (.region o3_11 [4])
def w3_12 (P : Program) (Q : Exit → Slots → Mem → Prop) (M : Mem) (v5 : V) (v6 : V) (v7 : V) (v8 : V) (v9 : V) (v10 : V) : Prop :=
  @OptBH (binV .eql .none v5 v8) ⟨fun b32_3 =>
  @BIfH b32_3
  ⟨@CallH P i_transitref35_Same [v6, v9] M ⟨fun t36_7 M7 => @OptBH (some t36_7) ⟨fun b36_7 =>
  @BIfH b36_7
  ⟨@OptBH (binV .eql .none v7 v10) ⟨fun b41_12 =>
  @BIfH b41_12
  ⟨@CallH P i_transitlaw35_exampleHolds [] M7 ⟨fun t44_15 M15 => @OptBH (some t44_15) ⟨fun b44_15 =>
  Q .normal [(4, (.bool b44_15))] M15⟩⟩⟩
  ⟨Q .normal [(4, (.bool false))] M7⟩⟩⟩
  ⟨Q .normal [(4, (.bool false))] M7⟩⟩⟩⟩
  ⟨Q .normal [(4, (.bool false))] M⟩⟩
theorem e3_12 (P : Program) (Q : Exit → Slots → Mem → Prop) (s : Slots) (M : Mem) : wpC P c3_12 Q s M = w3_12 P Q M (sget s 5) (sget s 6) (sget s 7) (sget s 8) (sget s 9) (sget s 10) := by kernel_rfl
def c3_13 : ACode := (.seq c3_12 .ret)
def c3_14 : ACode := (.seq c3_10 c3_13)
def c3_15 : ACode := (.seq c3_8 c3_14)
def c3_16 : ACode := (.seq c3_6 c3_15)
def c3_17 : ACode := (.seq c3_1 c3_16)
def fn_transitlaw35_FarePrices : AFn := ⟨46, [(.tmp 4)], c3_17⟩
theorem fn_transitlaw35_FarePrices_ok : resFn PR h_transitlaw35_FarePrices i_transitlaw35_FarePrices = some fn_transitlaw35_FarePrices := by kernel_rfl

def h_transitlaw35_FareExists : Hints := ⟨[(0, [1, 2]), (1, [1, 2, 21]), (2, [4]), (3, [1, 2, 7]), (4, [1, 2, 7, 8]), (5, [1, 2, 7, 8, 31, 32]), (6, [1, 2, 7, 8, 31, 32, 33]), (7, [1, 2, 7, 8, 9, 31, 32]), (8, [1, 2, 7, 8, 12, 31, 32]), (9, [1, 2, 7, 8, 12, 31, 32, 47]), (10, [4]), (11, [1, 2, 7, 8, 31, 32]), (12, [1, 2, 7, 8, 31, 32]), (13, [1, 7, 8, 68]), (14, [4]), (15, [4])], [(6, [1, 2, 7, 8, 31, 32])], []⟩
def o4_0 : List AOper := [⟨some 2, (.box 4 (.tmp 0)), false, none⟩,
  ⟨some 4, (.mov (.const (.bool false))), true, none⟩]
def c4_1 : ACode := (.region o4_0 [1, 2])
def w4_1 (_P : Program) (Q : Exit → Slots → Mem → Prop) (M : Mem) (v0 : V) (v1 : V) : Prop :=
  @OptMH (boxV 4 v0 M) ⟨fun t2_1 M1 =>
  Q .normal [(1, v1), (2, t2_1)] M1⟩
theorem e4_1 (P : Program) (Q : Exit → Slots → Mem → Prop) (s : Slots) (M : Mem) : wpC P c4_1 Q s M = w4_1 P Q M (sget s 0) (sget s 1) := by kernel_rfl
def o4_2 : List AOper := [⟨some 22, (.call i_transitlaw35_exampleHolds []), true, none⟩,
  ⟨some 4, (.mov (.tmp 22)), true, none⟩]
def c4_3 : ACode := (.region o4_2 [4])
def w4_3 (P : Program) (Q : Exit → Slots → Mem → Prop) (M : Mem) : Prop :=
  @CallH P i_transitlaw35_exampleHolds [] M ⟨fun t22_1 M1 => @OptBH (some t22_1) ⟨fun b22_1 =>
  Q .normal [(4, (.bool b22_1))] M1⟩⟩
theorem e4_3 (P : Program) (Q : Exit → Slots → Mem → Prop) (s : Slots) (M : Mem) : wpC P c4_3 Q s M = w4_3 P Q M := by kernel_rfl
def c4_4 : ACode := (.seq c4_3 .ret)
def o4_5 : List AOper := [⟨some 13, (.load 4 true (.tmp 2)), false, none⟩,
  ⟨some 14, (.mov (.tmp 1)), false, none⟩,
  ⟨some 15, (.call i_transitlaw35_small [(.tmp 13), (.tmp 14)]), true, none⟩,
  ⟨some 16, (.un .not (.tmp 15)), true, none⟩,
  ⟨some 17, (.mov (.tmp 16)), true, none⟩,
  ⟨some 18, (.mov (.tmp 1)), false, some (17, false)⟩,
  ⟨some 19, (.lenSl (.tmp 18)), false, some (17, false)⟩,
  ⟨some 20, (.bin .gtr .none (.tmp 19) (.const (.int .i64 8))), true, some (17, false)⟩,
  ⟨some 21, (.pick (.tmp 17) (.const (.bool true)) (.tmp 20)), true, none⟩]
def c4_6 : ACode := (.seq (.region o4_5 [1, 2, 21]) (.cond (.tmp 21) c4_4 .skip))
def w4_6 (P : Program) (Q : Exit → Slots → Mem → Prop) (M : Mem) (v1 : V) (v2 : V) : Prop :=
  @OptVH (loadV 4 true v2 M) ⟨fun t13_1 =>
  @CallH P i_transitlaw35_small [t13_1, v1] M ⟨fun t15_3 M3 => @OptBH (some t15_3) ⟨fun b15_3 =>
  @OptBH (unV .not (.bool b15_3)) ⟨fun b16_4 =>
  @BIfH b16_4
  ⟨wpC P c4_4 Q [(1, v1), (2, v2), (21, (.bool true))] M3⟩
  ⟨@OptVH (lenV v1 M3) ⟨fun t19_8 =>
  @OptBH (binV .gtr .none t19_8 (.int .i64 8)) ⟨fun b20_9 =>
  @BIfH b20_9
  ⟨wpC P c4_4 Q [(1, v1), (2, v2), (21, (.bool b20_9))] M3⟩
  ⟨Q .normal [(1, v1), (2, v2), (21, (.bool b20_9))] M3⟩⟩⟩⟩⟩⟩⟩⟩
theorem e4_6 (P : Program) (Q : Exit → Slots → Mem → Prop) (s : Slots) (M : Mem) : wpC P c4_6 Q s M = w4_6 P Q M (sget s 1) (sget s 2) := by kernel_rfl
def o4_7 : List AOper := [⟨some 24, (.load 4 true (.tmp 2)), false, none⟩,
  ⟨some 25, (.mov (.tmp 1)), false, none⟩,
  ⟨some 26, (.call i_fare_Price [(.tmp 24), (.tmp 25)]), false, none⟩,
  ⟨some 23, (.mov (.tmp 26)), false, none⟩,
  ⟨some 27, (.extract (.tmp 23) 0), false, none⟩,
  ⟨some 28, (.extract (.tmp 23) 1), false, none⟩,
  ⟨some 29, (.extract (.tmp 23) 2), false, none⟩,
  ⟨some 5, (.mov (.tmp 27)), false, none⟩,
  ⟨some 6, (.mov (.tmp 28)), false, none⟩,
  ⟨some 7, (.mov (.tmp 29)), false, none⟩]
def c4_8 : ACode := (.region o4_7 [1, 2, 7])
def w4_8 (P : Program) (Q : Exit → Slots → Mem → Prop) (M : Mem) (v1 : V) (v2 : V) : Prop :=
  @OptVH (loadV 4 true v2 M) ⟨fun t24_1 =>
  @CallH P i_fare_Price [t24_1, v1] M ⟨fun t26_3 M3 =>
  @OptVH (extractV t26_3 0) ⟨fun _t27_5 =>
  @OptVH (extractV t26_3 1) ⟨fun _t28_6 =>
  @OptVH (extractV t26_3 2) ⟨fun t29_7 =>
  Q .normal [(1, v1), (2, v2), (7, t29_7)] M3⟩⟩⟩⟩⟩
theorem e4_8 (P : Program) (Q : Exit → Slots → Mem → Prop) (s : Slots) (M : Mem) : wpC P c4_8 Q s M = w4_8 P Q M (sget s 1) (sget s 2) := by kernel_rfl
def o4_9 : List AOper := [⟨some 8, (.mov (.const (.bool true))), true, none⟩]
def c4_10 : ACode := (.region o4_9 [1, 2, 7, 8])
def w4_10 (_P : Program) (Q : Exit → Slots → Mem → Prop) (M : Mem) (v1 : V) (v2 : V) (v7 : V) : Prop :=
  Q .normal [(1, v1), (2, v2), (7, v7), (8, (.bool true))] M
theorem e4_10 (P : Program) (Q : Exit → Slots → Mem → Prop) (s : Slots) (M : Mem) : wpC P c4_10 Q s M = w4_10 P Q M (sget s 1) (sget s 2) (sget s 7) := by kernel_rfl
def o4_11 : List AOper := [⟨some 30, (.mov (.tmp 1)), false, none⟩,
  ⟨some 31, (.lenSl (.tmp 30)), false, none⟩,
  ⟨some 32, (.mov (.const (.int .i64 0))), false, none⟩]
def c4_12 : ACode := (.region o4_11 [1, 2, 7, 8, 31, 32])
def w4_12 (_P : Program) (Q : Exit → Slots → Mem → Prop) (M : Mem) (v1 : V) (v2 : V) (v7 : V) (v8 : V) : Prop :=
  @OptVH (lenV v1 M) ⟨fun t31_2 =>
  Q .normal [(1, v1), (2, v2), (7, v7), (8, v8), (31, t31_2), (32, (.int .i64 0))] M⟩
theorem e4_12 (P : Program) (Q : Exit → Slots → Mem → Prop) (s : Slots) (M : Mem) : wpC P c4_12 Q s M = w4_12 P Q M (sget s 1) (sget s 2) (sget s 7) (sget s 8) := by kernel_rfl
def o4_13 : List AOper := [⟨some 33, (.bin .lss .none (.tmp 32) (.tmp 31)), false, none⟩]
def c4_14 : ACode := (.region o4_13 [1, 2, 7, 8, 31, 32, 33])
def w4_14 (_P : Program) (Q : Exit → Slots → Mem → Prop) (M : Mem) (v1 : V) (v2 : V) (v7 : V) (v8 : V) (v31 : V) (v32 : V) : Prop :=
  @OptVH (binV .lss .none v32 v31) ⟨fun t33_1 =>
  Q .normal [(1, v1), (2, v2), (7, v7), (8, v8), (31, v31), (32, v32), (33, t33_1)] M⟩
theorem e4_14 (P : Program) (Q : Exit → Slots → Mem → Prop) (s : Slots) (M : Mem) : wpC P c4_14 Q s M = w4_14 P Q M (sget s 1) (sget s 2) (sget s 7) (sget s 8) (sget s 31) (sget s 32) := by kernel_rfl
def c4_15 : ACode := (.cond (.tmp 33) .skip (.exit 0))
def o4_16 : List AOper := [⟨some 34, (.mov (.tmp 32)), false, none⟩,
  ⟨some 9, (.mov (.tmp 34)), false, none⟩]
def c4_17 : ACode := (.region o4_16 [1, 2, 7, 8, 9, 31, 32])
def w4_17 (_P : Program) (Q : Exit → Slots → Mem → Prop) (M : Mem) (v1 : V) (v2 : V) (v7 : V) (v8 : V) (v31 : V) (v32 : V) : Prop :=
  Q .normal [(1, v1), (2, v2), (7, v7), (8, v8), (9, v32), (31, v31), (32, v32)] M
theorem e4_17 (P : Program) (Q : Exit → Slots → Mem → Prop) (s : Slots) (M : Mem) : wpC P c4_17 Q s M = w4_17 P Q M (sget s 1) (sget s 2) (sget s 7) (sget s 8) (sget s 31) (sget s 32) := by kernel_rfl
def o4_18 : List AOper := [⟨some 36, (.load 4 true (.tmp 2)), false, none⟩,
  ⟨some 37, (.mov (.tmp 1)), false, none⟩,
  ⟨some 38, (.mov (.tmp 9)), false, none⟩,
  ⟨some 39, (.mov (.tmp 9)), false, none⟩,
  ⟨some 40, (.bin .add .none (.tmp 39) (.const (.int .i64 1))), false, none⟩,
  ⟨some 41, (.slice 4 (.tmp 37) (some (.tmp 38)) (some (.tmp 40)) none), false, none⟩,
  ⟨some 42, (.call i_fare_Price [(.tmp 36), (.tmp 41)]), false, none⟩,
  ⟨some 35, (.mov (.tmp 42)), false, none⟩,
  ⟨some 43, (.extract (.tmp 35) 0), false, none⟩,
  ⟨some 44, (.extract (.tmp 35) 1), false, none⟩,
  ⟨some 45, (.extract (.tmp 35) 2), false, none⟩,
  ⟨some 10, (.mov (.tmp 43)), false, none⟩,
  ⟨some 11, (.mov (.tmp 44)), false, none⟩,
  ⟨some 12, (.mov (.tmp 45)), false, none⟩]
def c4_19 : ACode := (.mixed o4_18 [true, true, true, true, true, true, false, true, true, true, true, true, true, true] [1, 2, 7, 8, 12, 31, 32])
def w4_19 (P : Program) (Q : Exit → Slots → Mem → Prop) (M : Mem) (v1 : V) (v2 : V) (v7 : V) (v8 : V) (v9 : V) (v31 : V) (v32 : V) : Prop :=
  @OptVH (loadV 4 true v2 M) ⟨fun t36_1 =>
  @OptVH (binV .add .none v9 (.int .i64 1)) ⟨fun t40_5 =>
  @OptVH (sliceV 4 v1 (some v9) (some t40_5) none M) ⟨fun t41_6 =>
  @CallH P i_fare_Price [t36_1, t41_6] M ⟨fun t42_7 M7 =>
  @OptVH (extractV t42_7 0) ⟨fun _t43_9 =>
  @OptVH (extractV t42_7 1) ⟨fun _t44_10 =>
  @OptVH (extractV t42_7 2) ⟨fun t45_11 =>
  Q .normal [(1, v1), (2, v2), (7, v7), (8, v8), (12, t45_11), (31, v31), (32, v32)] M7⟩⟩⟩⟩⟩⟩⟩
theorem e4_19 (P : Program) (Q : Exit → Slots → Mem → Prop) (s : Slots) (M : Mem) : wpC P c4_19 Q s M = w4_19 P Q M (sget s 1) (sget s 2) (sget s 7) (sget s 8) (sget s 9) (sget s 31) (sget s 32) := by kernel_rfl
def o4_20 : List AOper := [⟨some 48, (.mov (.tmp 7)), false, none⟩,
  ⟨some 49, (.bin .eql .none (.tmp 48) (.const (.int .i64 20))), true, none⟩,
  ⟨some 50, (.mov (.tmp 49)), true, none⟩,
  ⟨some 51, (.call i_transitlaw35_exampleHolds []), true, some (50, true)⟩,
  ⟨some 52, (.pick (.tmp 50) (.tmp 51) (.const (.bool false))), true, none⟩,
  ⟨some 4, (.mov (.tmp 52)), true, none⟩]
def c4_21 : ACode := (.region o4_20 [4])
def w4_21 (P : Program) (Q : Exit → Slots → Mem → Prop) (M : Mem) (v7 : V) : Prop :=
  @OptBH (binV .eql .none v7 (.int .i64 20)) ⟨fun b49_2 =>
  @BIfH b49_2
  ⟨@CallH P i_transitlaw35_exampleHolds [] M ⟨fun t51_4 M4 => @OptBH (some t51_4) ⟨fun b51_4 =>
  Q .normal [(4, (.bool b51_4))] M4⟩⟩⟩
  ⟨Q .normal [(4, (.bool false))] M⟩⟩
theorem e4_21 (P : Program) (Q : Exit → Slots → Mem → Prop) (s : Slots) (M : Mem) : wpC P c4_21 Q s M = w4_21 P Q M (sget s 7) := by kernel_rfl
def c4_22 : ACode := (.seq c4_21 .ret)
def o4_23 : List AOper := [⟨some 46, (.mov (.tmp 12)), false, none⟩,
  ⟨some 47, (.bin .eql .none (.tmp 46) (.const (.int .i64 20))), true, none⟩]
def c4_24 : ACode := (.seq (.region o4_23 [1, 2, 7, 8, 12, 31, 32, 47]) (.cond (.tmp 47) c4_22 .skip))
def w4_24 (P : Program) (Q : Exit → Slots → Mem → Prop) (M : Mem) (v1 : V) (v2 : V) (v7 : V) (v8 : V) (v12 : V) (v31 : V) (v32 : V) : Prop :=
  @OptBH (binV .eql .none v12 (.int .i64 20)) ⟨fun b47_2 =>
  @BIfH b47_2
  ⟨wpC P c4_22 Q [(1, v1), (2, v2), (7, v7), (8, v8), (12, v12), (31, v31), (32, v32), (47, (.bool b47_2))] M⟩
  ⟨Q .normal [(1, v1), (2, v2), (7, v7), (8, v8), (12, v12), (31, v31), (32, v32), (47, (.bool b47_2))] M⟩⟩
theorem e4_24 (P : Program) (Q : Exit → Slots → Mem → Prop) (s : Slots) (M : Mem) : wpC P c4_24 Q s M = w4_24 P Q M (sget s 1) (sget s 2) (sget s 7) (sget s 8) (sget s 12) (sget s 31) (sget s 32) := by kernel_rfl
def o4_25 : List AOper := [⟨some 53, (.mov (.tmp 8)), true, none⟩,
  ⟨some 54, (.mov (.tmp 53)), true, none⟩,
  ⟨some 55, (.mov (.tmp 12)), false, some (54, true)⟩,
  ⟨some 56, (.bin .eql .none (.tmp 55) (.const (.int .i64 0))), true, some (54, true)⟩,
  ⟨some 57, (.pick (.tmp 54) (.tmp 56) (.const (.bool false))), true, none⟩,
  ⟨some 8, (.mov (.tmp 57)), true, none⟩]
def c4_26 : ACode := (.region o4_25 [1, 2, 7, 8, 31, 32])
def w4_26 (_P : Program) (Q : Exit → Slots → Mem → Prop) (M : Mem) (v1 : V) (v2 : V) (v7 : V) (v8 : V) (v12 : V) (v31 : V) (v32 : V) : Prop :=
  @OptBH (some v8) ⟨fun b53_1 =>
  @BIfH b53_1
  ⟨@OptBH (binV .eql .none v12 (.int .i64 0)) ⟨fun b56_4 =>
  Q .normal [(1, v1), (2, v2), (7, v7), (8, (.bool b56_4)), (31, v31), (32, v32)] M⟩⟩
  ⟨Q .normal [(1, v1), (2, v2), (7, v7), (8, (.bool false)), (31, v31), (32, v32)] M⟩⟩
theorem e4_26 (P : Program) (Q : Exit → Slots → Mem → Prop) (s : Slots) (M : Mem) : wpC P c4_26 Q s M = w4_26 P Q M (sget s 1) (sget s 2) (sget s 7) (sget s 8) (sget s 12) (sget s 31) (sget s 32) := by kernel_rfl
def c4_27 : ACode := (.seq c4_24 c4_26)
def c4_28 : ACode := (.seq c4_19 c4_27)
def c4_29 : ACode := (.seq c4_17 c4_28)
def c4_30 : ACode := (.block 1 c4_29)
def o4_31 : List AOper := [⟨some 58, (.bin .add .none (.tmp 32) (.const (.int .i64 1))), false, none⟩,
  ⟨some 32, (.mov (.tmp 58)), false, none⟩]
def c4_32 : ACode := (.region o4_31 [1, 2, 7, 8, 31, 32])
def w4_32 (_P : Program) (Q : Exit → Slots → Mem → Prop) (M : Mem) (v1 : V) (v2 : V) (v7 : V) (v8 : V) (v31 : V) (v32 : V) : Prop :=
  @OptVH (binV .add .none v32 (.int .i64 1)) ⟨fun t58_1 =>
  Q .normal [(1, v1), (2, v2), (7, v7), (8, v8), (31, v31), (32, t58_1)] M⟩
theorem e4_32 (P : Program) (Q : Exit → Slots → Mem → Prop) (s : Slots) (M : Mem) : wpC P c4_32 Q s M = w4_32 P Q M (sget s 1) (sget s 2) (sget s 7) (sget s 8) (sget s 31) (sget s 32) := by kernel_rfl
def c4_33 : ACode := (.seq c4_30 c4_32)
def c4_34 : ACode := (.seq c4_15 c4_33)
def c4_35 : ACode := (.seq c4_14 c4_34)
def c4_36 : ACode := (.loop [1, 2, 7, 8, 31, 32] c4_35)
def c4_37 : ACode := (.block 0 c4_36)
def c4_38 : ACode := (.seq c4_12 c4_37)
def o4_39 : List AOper := [⟨some 4, (.mov (.const (.bool false))), true, none⟩]
def c4_40 : ACode := (.region o4_39 [4])
def w4_40 (_P : Program) (Q : Exit → Slots → Mem → Prop) (M : Mem) : Prop :=
  Q .normal [(4, (.bool false))] M
theorem e4_40 (P : Program) (Q : Exit → Slots → Mem → Prop) (s : Slots) (M : Mem) : wpC P c4_40 Q s M = w4_40 P Q M := by kernel_rfl
def c4_41 : ACode := (.seq c4_40 .ret)
def o4_42 : List AOper := [⟨some 59, (.mov (.tmp 7)), false, none⟩,
  ⟨some 60, (.bin .neq .none (.tmp 59) (.const (.int .i64 0))), true, none⟩,
  ⟨some 61, (.mov (.tmp 60)), true, none⟩,
  ⟨some 62, (.mov (.tmp 7)), false, some (61, true)⟩,
  ⟨some 63, (.bin .neq .none (.tmp 62) (.const (.int .i64 34))), true, some (61, true)⟩,
  ⟨some 64, (.pick (.tmp 61) (.tmp 63) (.const (.bool false))), true, none⟩,
  ⟨some 65, (.mov (.tmp 64)), true, none⟩,
  ⟨some 66, (.mov (.tmp 7)), false, some (65, true)⟩,
  ⟨some 67, (.bin .neq .none (.tmp 66) (.const (.int .i64 20))), true, some (65, true)⟩,
  ⟨some 68, (.pick (.tmp 65) (.tmp 67) (.const (.bool false))), true, none⟩]
def c4_43 : ACode := (.seq (.region o4_42 [1, 7, 8, 68]) (.cond (.tmp 68) c4_41 .skip))
def w4_43 (P : Program) (Q : Exit → Slots → Mem → Prop) (M : Mem) (v1 : V) (v7 : V) (v8 : V) : Prop :=
  @OptBH (binV .neq .none v7 (.int .i64 0)) ⟨fun b60_2 =>
  @BIfH b60_2
  ⟨@OptBH (binV .neq .none v7 (.int .i64 34)) ⟨fun b63_5 =>
  @BIfH b63_5
  ⟨@OptBH (binV .neq .none v7 (.int .i64 20)) ⟨fun b67_9 =>
  @BIfH b67_9
  ⟨wpC P c4_41 Q [(1, v1), (7, v7), (8, v8), (68, (.bool b67_9))] M⟩
  ⟨Q .normal [(1, v1), (7, v7), (8, v8), (68, (.bool b67_9))] M⟩⟩⟩
  ⟨Q .normal [(1, v1), (7, v7), (8, v8), (68, (.bool false))] M⟩⟩⟩
  ⟨Q .normal [(1, v1), (7, v7), (8, v8), (68, (.bool false))] M⟩⟩
theorem e4_43 (P : Program) (Q : Exit → Slots → Mem → Prop) (s : Slots) (M : Mem) : wpC P c4_43 Q s M = w4_43 P Q M (sget s 1) (sget s 7) (sget s 8) := by kernel_rfl
def o4_44 : List AOper := [⟨some 69, (.mov (.tmp 7)), false, none⟩,
  ⟨some 70, (.bin .eql .none (.tmp 69) (.const (.int .i64 20))), true, none⟩,
  ⟨some 71, (.mov (.tmp 70)), true, none⟩,
  ⟨some 72, (.mov (.tmp 1)), false, some (71, true)⟩,
  ⟨some 73, (.lenSl (.tmp 72)), false, some (71, true)⟩,
  ⟨some 74, (.bin .eql .none (.tmp 73) (.const (.int .i64 0))), true, some (71, true)⟩,
  ⟨some 75, (.pick (.tmp 71) (.tmp 74) (.const (.bool false))), true, none⟩,
  ⟨some 76, (.mov (.tmp 75)), true, none⟩,
  ⟨some 77, (.mov (.tmp 7)), false, some (76, false)⟩,
  ⟨some 78, (.bin .eql .none (.tmp 77) (.const (.int .i64 0))), true, some (76, false)⟩,
  ⟨some 79, (.mov (.tmp 8)), true, some (76, false)⟩,
  ⟨some 80, (.bin .eql .bool (.tmp 78) (.tmp 79)), true, some (76, false)⟩,
  ⟨some 81, (.mov (.tmp 80)), true, some (76, false)⟩,
  ⟨some 82, (.call i_transitlaw35_exampleHolds []), true, some (81, true)⟩,
  ⟨some 83, (.pick (.tmp 81) (.tmp 82) (.const (.bool false))), true, some (76, false)⟩,
  ⟨some 84, (.pick (.tmp 76) (.const (.bool true)) (.tmp 83)), true, none⟩,
  ⟨some 4, (.mov (.tmp 84)), true, none⟩]
def c4_45 : ACode := (.region o4_44 [4])
def w4_45 (P : Program) (Q : Exit → Slots → Mem → Prop) (M : Mem) (v1 : V) (v7 : V) (v8 : V) : Prop :=
  @OptBH (binV .eql .none v7 (.int .i64 20)) ⟨fun b70_2 =>
  @BIfH b70_2
  ⟨@OptVH (lenV v1 M) ⟨fun t73_5 =>
  @OptBH (binV .eql .none t73_5 (.int .i64 0)) ⟨fun b74_6 =>
  @BIfH b74_6
  ⟨Q .normal [(4, (.bool true))] M⟩
  ⟨@OptBH (binV .eql .none v7 (.int .i64 0)) ⟨fun b78_12 =>
  @OptBH (some v8) ⟨fun b79_13 =>
  @OptBH (binV .eql .bool (.bool b78_12) (.bool b79_13)) ⟨fun b80_14 =>
  @BIfH b80_14
  ⟨@CallH P i_transitlaw35_exampleHolds [] M ⟨fun t82_16 M16 => @OptBH (some t82_16) ⟨fun b82_16 =>
  Q .normal [(4, (.bool b82_16))] M16⟩⟩⟩
  ⟨Q .normal [(4, (.bool false))] M⟩⟩⟩⟩⟩⟩⟩⟩
  ⟨@OptBH (binV .eql .none v7 (.int .i64 0)) ⟨fun b78_26 =>
  @OptBH (some v8) ⟨fun b79_27 =>
  @OptBH (binV .eql .bool (.bool b78_26) (.bool b79_27)) ⟨fun b80_28 =>
  @BIfH b80_28
  ⟨@CallH P i_transitlaw35_exampleHolds [] M ⟨fun t82_30 M30 => @OptBH (some t82_30) ⟨fun b82_30 =>
  Q .normal [(4, (.bool b82_30))] M30⟩⟩⟩
  ⟨Q .normal [(4, (.bool false))] M⟩⟩⟩⟩⟩⟩
theorem e4_45 (P : Program) (Q : Exit → Slots → Mem → Prop) (s : Slots) (M : Mem) : wpC P c4_45 Q s M = w4_45 P Q M (sget s 1) (sget s 7) (sget s 8) := by kernel_rfl
def c4_46 : ACode := (.seq c4_45 .ret)
def c4_47 : ACode := (.seq c4_43 c4_46)
def c4_48 : ACode := (.seq c4_38 c4_47)
def c4_49 : ACode := (.seq c4_10 c4_48)
def c4_50 : ACode := (.seq c4_8 c4_49)
def c4_51 : ACode := (.seq c4_6 c4_50)
def c4_52 : ACode := (.seq c4_1 c4_51)
def fn_transitlaw35_FareExists : AFn := ⟨85, [(.tmp 4)], c4_52⟩
theorem fn_transitlaw35_FareExists_ok : resFn PR h_transitlaw35_FareExists i_transitlaw35_FareExists = some fn_transitlaw35_FareExists := by kernel_rfl

def h_transitlaw35_FareGrows : Hints := ⟨[(0, [1, 2, 3]), (1, [1, 2, 3, 27]), (2, [6]), (3, [1, 2, 3, 7]), (4, [1, 2, 3, 7, 32]), (5, [1, 2, 3, 7]), (6, [1, 2, 3, 7, 46]), (7, [6]), (8, [1, 2, 3, 8, 10]), (9, [8, 10, 11, 13]), (10, [6])], [(4, [1, 2, 3, 7])], []⟩
def o5_0 : List AOper := [⟨some 3, (.box 4 (.tmp 0)), false, none⟩,
  ⟨some 6, (.mov (.const (.bool false))), true, none⟩]
def c5_1 : ACode := (.region o5_0 [1, 2, 3])
def w5_1 (_P : Program) (Q : Exit → Slots → Mem → Prop) (M : Mem) (v0 : V) (v1 : V) (v2 : V) : Prop :=
  @OptMH (boxV 4 v0 M) ⟨fun t3_1 M1 =>
  Q .normal [(1, v1), (2, v2), (3, t3_1)] M1⟩
theorem e5_1 (P : Program) (Q : Exit → Slots → Mem → Prop) (s : Slots) (M : Mem) : wpC P c5_1 Q s M = w5_1 P Q M (sget s 0) (sget s 1) (sget s 2) := by kernel_rfl
def o5_2 : List AOper := [⟨some 28, (.call i_transitlaw35_exampleHolds []), true, none⟩,
  ⟨some 6, (.mov (.tmp 28)), true, none⟩]
def c5_3 : ACode := (.region o5_2 [6])
def w5_3 (P : Program) (Q : Exit → Slots → Mem → Prop) (M : Mem) : Prop :=
  @CallH P i_transitlaw35_exampleHolds [] M ⟨fun t28_1 M1 => @OptBH (some t28_1) ⟨fun b28_1 =>
  Q .normal [(6, (.bool b28_1))] M1⟩⟩
theorem e5_3 (P : Program) (Q : Exit → Slots → Mem → Prop) (s : Slots) (M : Mem) : wpC P c5_3 Q s M = w5_3 P Q M := by kernel_rfl
def c5_4 : ACode := (.seq c5_3 .ret)
def o5_5 : List AOper := [⟨some 14, (.load 4 true (.tmp 3)), false, none⟩,
  ⟨some 15, (.mov (.tmp 1)), false, none⟩,
  ⟨some 16, (.call i_transitlaw35_small [(.tmp 14), (.tmp 15)]), true, none⟩,
  ⟨some 17, (.un .not (.tmp 16)), true, none⟩,
  ⟨some 18, (.mov (.tmp 17)), true, none⟩,
  ⟨some 19, (.mov (.tmp 2)), false, some (18, false)⟩,
  ⟨some 20, (.bin .lss .none (.tmp 19) (.const (.int .i64 0))), true, some (18, false)⟩,
  ⟨some 21, (.pick (.tmp 18) (.const (.bool true)) (.tmp 20)), true, none⟩,
  ⟨some 22, (.mov (.tmp 21)), true, none⟩,
  ⟨some 23, (.mov (.tmp 2)), false, some (22, false)⟩,
  ⟨some 24, (.mov (.tmp 1)), false, some (22, false)⟩,
  ⟨some 25, (.lenSl (.tmp 24)), false, some (22, false)⟩,
  ⟨some 26, (.bin .gtr .none (.tmp 23) (.tmp 25)), true, some (22, false)⟩,
  ⟨some 27, (.pick (.tmp 22) (.const (.bool true)) (.tmp 26)), true, none⟩]
def c5_6 : ACode := (.seq (.region o5_5 [1, 2, 3, 27]) (.cond (.tmp 27) c5_4 .skip))
def w5_6 (P : Program) (Q : Exit → Slots → Mem → Prop) (M : Mem) (v1 : V) (v2 : V) (v3 : V) : Prop :=
  @OptVH (loadV 4 true v3 M) ⟨fun t14_1 =>
  @CallH P i_transitlaw35_small [t14_1, v1] M ⟨fun t16_3 M3 => @OptBH (some t16_3) ⟨fun b16_3 =>
  @OptBH (unV .not (.bool b16_3)) ⟨fun b17_4 =>
  @BIfH b17_4
  ⟨wpC P c5_4 Q [(1, v1), (2, v2), (3, v3), (27, (.bool true))] M3⟩
  ⟨@OptBH (binV .lss .none v2 (.int .i64 0)) ⟨fun b20_10 =>
  @BIfH b20_10
  ⟨wpC P c5_4 Q [(1, v1), (2, v2), (3, v3), (27, (.bool true))] M3⟩
  ⟨@OptVH (lenV v1 M3) ⟨fun t25_16 =>
  @OptBH (binV .gtr .none v2 t25_16) ⟨fun b26_17 =>
  @BIfH b26_17
  ⟨wpC P c5_4 Q [(1, v1), (2, v2), (3, v3), (27, (.bool b26_17))] M3⟩
  ⟨Q .normal [(1, v1), (2, v2), (3, v3), (27, (.bool b26_17))] M3⟩⟩⟩⟩⟩⟩⟩⟩⟩⟩
theorem e5_6 (P : Program) (Q : Exit → Slots → Mem → Prop) (s : Slots) (M : Mem) : wpC P c5_6 Q s M = w5_6 P Q M (sget s 1) (sget s 2) (sget s 3) := by kernel_rfl
def o5_7 : List AOper := [⟨some 7, (.mov (.const (.int .i64 1))), false, none⟩]
def c5_8 : ACode := (.region o5_7 [1, 2, 3, 7])
def w5_8 (_P : Program) (Q : Exit → Slots → Mem → Prop) (M : Mem) (v1 : V) (v2 : V) (v3 : V) : Prop :=
  Q .normal [(1, v1), (2, v2), (3, v3), (7, (.int .i64 1))] M
theorem e5_8 (P : Program) (Q : Exit → Slots → Mem → Prop) (s : Slots) (M : Mem) : wpC P c5_8 Q s M = w5_8 P Q M (sget s 1) (sget s 2) (sget s 3) := by kernel_rfl
def o5_9 : List AOper := [⟨some 29, (.mov (.tmp 7)), false, none⟩,
  ⟨some 30, (.mov (.tmp 1)), false, none⟩,
  ⟨some 31, (.lenSl (.tmp 30)), false, none⟩,
  ⟨some 32, (.bin .lss .none (.tmp 29) (.tmp 31)), true, none⟩]
def c5_10 : ACode := (.seq (.region o5_9 [1, 2, 3, 7, 32]) (.cond (.tmp 32) .skip (.exit 0)))
def w5_10 (_P : Program) (Q : Exit → Slots → Mem → Prop) (M : Mem) (v1 : V) (v2 : V) (v3 : V) (v7 : V) : Prop :=
  @OptVH (lenV v1 M) ⟨fun t31_3 =>
  @OptBH (binV .lss .none v7 t31_3) ⟨fun b32_4 =>
  @BIfH b32_4
  ⟨Q .normal [(1, v1), (2, v2), (3, v3), (7, v7), (32, (.bool b32_4))] M⟩
  ⟨Q (.exit 0) [(1, v1), (2, v2), (3, v3), (7, v7), (32, (.bool b32_4))] M⟩⟩⟩
theorem e5_10 (P : Program) (Q : Exit → Slots → Mem → Prop) (s : Slots) (M : Mem) : wpC P c5_10 Q s M = w5_10 P Q M (sget s 1) (sget s 2) (sget s 3) (sget s 7) := by kernel_rfl
def o5_11 : List AOper := [⟨some 47, (.call i_transitlaw35_exampleHolds []), true, none⟩,
  ⟨some 6, (.mov (.tmp 47)), true, none⟩]
def c5_12 : ACode := (.region o5_11 [6])
def w5_12 (P : Program) (Q : Exit → Slots → Mem → Prop) (M : Mem) : Prop :=
  @CallH P i_transitlaw35_exampleHolds [] M ⟨fun t47_1 M1 => @OptBH (some t47_1) ⟨fun b47_1 =>
  Q .normal [(6, (.bool b47_1))] M1⟩⟩
theorem e5_12 (P : Program) (Q : Exit → Slots → Mem → Prop) (s : Slots) (M : Mem) : wpC P c5_12 Q s M = w5_12 P Q M := by kernel_rfl
def c5_13 : ACode := (.seq c5_12 .ret)
def o5_14 : List AOper := [⟨some 35, (.mov (.tmp 1)), false, none⟩,
  ⟨some 36, (.mov (.tmp 7)), false, none⟩,
  ⟨some 37, (.indexSl 4 (.tmp 35) (.tmp 36)), false, none⟩,
  ⟨some 38, (.fieldAddr 0 (.tmp 37)), false, none⟩,
  ⟨some 39, (.load 1 false (.tmp 38)), false, none⟩,
  ⟨some 40, (.mov (.tmp 1)), false, none⟩,
  ⟨some 41, (.mov (.tmp 7)), false, none⟩,
  ⟨some 42, (.bin .sub .none (.tmp 41) (.const (.int .i64 1))), false, none⟩,
  ⟨some 43, (.indexSl 4 (.tmp 40) (.tmp 42)), false, none⟩,
  ⟨some 44, (.fieldAddr 0 (.tmp 43)), false, none⟩,
  ⟨some 45, (.load 1 false (.tmp 44)), false, none⟩,
  ⟨some 46, (.bin .lss .none (.tmp 39) (.tmp 45)), true, none⟩]
def c5_15 : ACode := (.seq (.mixed o5_14 [true, true, true, true, true, true, true, true, true, true, true, true] [1, 2, 3, 7, 46]) (.cond (.tmp 46) c5_13 .skip))
def w5_15 (P : Program) (Q : Exit → Slots → Mem → Prop) (M : Mem) (v1 : V) (v2 : V) (v3 : V) (v7 : V) : Prop :=
  @OptVH (indexSlV 4 v1 v7 M) ⟨fun t37_3 =>
  @OptVH (moveV 0 t37_3) ⟨fun t38_4 =>
  @OptVH (loadV 1 false t38_4 M) ⟨fun t39_5 =>
  @OptVH (binV .sub .none v7 (.int .i64 1)) ⟨fun t42_8 =>
  @OptVH (indexSlV 4 v1 t42_8 M) ⟨fun t43_9 =>
  @OptVH (moveV 0 t43_9) ⟨fun t44_10 =>
  @OptVH (loadV 1 false t44_10 M) ⟨fun t45_11 =>
  @OptBH (binV .lss .none t39_5 t45_11) ⟨fun b46_12 =>
  @BIfH b46_12
  ⟨wpC P c5_13 Q [(1, v1), (2, v2), (3, v3), (7, v7), (46, (.bool b46_12))] M⟩
  ⟨Q .normal [(1, v1), (2, v2), (3, v3), (7, v7), (46, (.bool b46_12))] M⟩⟩⟩⟩⟩⟩⟩⟩⟩
theorem e5_15 (P : Program) (Q : Exit → Slots → Mem → Prop) (s : Slots) (M : Mem) : wpC P c5_15 Q s M = w5_15 P Q M (sget s 1) (sget s 2) (sget s 3) (sget s 7) := by kernel_rfl
def c5_16 : ACode := (.block 1 c5_15)
def o5_17 : List AOper := [⟨some 33, (.mov (.tmp 7)), false, none⟩,
  ⟨some 34, (.bin .add .none (.tmp 33) (.const (.int .i64 1))), false, none⟩,
  ⟨some 7, (.mov (.tmp 34)), false, none⟩]
def c5_18 : ACode := (.region o5_17 [1, 2, 3, 7])
def w5_18 (_P : Program) (Q : Exit → Slots → Mem → Prop) (M : Mem) (v1 : V) (v2 : V) (v3 : V) (v7 : V) : Prop :=
  @OptVH (binV .add .none v7 (.int .i64 1)) ⟨fun t34_2 =>
  Q .normal [(1, v1), (2, v2), (3, v3), (7, t34_2)] M⟩
theorem e5_18 (P : Program) (Q : Exit → Slots → Mem → Prop) (s : Slots) (M : Mem) : wpC P c5_18 Q s M = w5_18 P Q M (sget s 1) (sget s 2) (sget s 3) (sget s 7) := by kernel_rfl
def c5_19 : ACode := (.seq c5_16 c5_18)
def c5_20 : ACode := (.seq c5_10 c5_19)
def c5_21 : ACode := (.loop [1, 2, 3, 7] c5_20)
def c5_22 : ACode := (.block 0 c5_21)
def c5_23 : ACode := (.seq c5_8 c5_22)
def o5_24 : List AOper := [⟨some 49, (.load 4 true (.tmp 3)), false, none⟩,
  ⟨some 50, (.mov (.tmp 1)), false, none⟩,
  ⟨some 51, (.call i_fare_Price [(.tmp 49), (.tmp 50)]), false, none⟩,
  ⟨some 48, (.mov (.tmp 51)), false, none⟩,
  ⟨some 52, (.extract (.tmp 48) 0), false, none⟩,
  ⟨some 53, (.extract (.tmp 48) 1), false, none⟩,
  ⟨some 54, (.extract (.tmp 48) 2), false, none⟩,
  ⟨some 8, (.mov (.tmp 52)), false, none⟩,
  ⟨some 9, (.mov (.tmp 53)), false, none⟩,
  ⟨some 10, (.mov (.tmp 54)), false, none⟩]
def c5_25 : ACode := (.region o5_24 [1, 2, 3, 8, 10])
def w5_25 (P : Program) (Q : Exit → Slots → Mem → Prop) (M : Mem) (v1 : V) (v2 : V) (v3 : V) : Prop :=
  @OptVH (loadV 4 true v3 M) ⟨fun t49_1 =>
  @CallH P i_fare_Price [t49_1, v1] M ⟨fun t51_3 M3 =>
  @OptVH (extractV t51_3 0) ⟨fun t52_5 =>
  @OptVH (extractV t51_3 1) ⟨fun _t53_6 =>
  @OptVH (extractV t51_3 2) ⟨fun t54_7 =>
  Q .normal [(1, v1), (2, v2), (3, v3), (8, t52_5), (10, t54_7)] M3⟩⟩⟩⟩⟩
theorem e5_25 (P : Program) (Q : Exit → Slots → Mem → Prop) (s : Slots) (M : Mem) : wpC P c5_25 Q s M = w5_25 P Q M (sget s 1) (sget s 2) (sget s 3) := by kernel_rfl
def o5_26 : List AOper := [⟨some 56, (.load 4 true (.tmp 3)), false, none⟩,
  ⟨some 57, (.mov (.tmp 1)), false, none⟩,
  ⟨some 58, (.mov (.tmp 2)), false, none⟩,
  ⟨some 59, (.slice 4 (.tmp 57) none (some (.tmp 58)) none), false, none⟩,
  ⟨some 60, (.call i_fare_Price [(.tmp 56), (.tmp 59)]), false, none⟩,
  ⟨some 55, (.mov (.tmp 60)), false, none⟩,
  ⟨some 61, (.extract (.tmp 55) 0), false, none⟩,
  ⟨some 62, (.extract (.tmp 55) 1), false, none⟩,
  ⟨some 63, (.extract (.tmp 55) 2), false, none⟩,
  ⟨some 11, (.mov (.tmp 61)), false, none⟩,
  ⟨some 12, (.mov (.tmp 62)), false, none⟩,
  ⟨some 13, (.mov (.tmp 63)), false, none⟩]
def c5_27 : ACode := (.mixed o5_26 [true, true, true, true, false, true, true, true, true, true, true, true] [8, 10, 11, 13])
def w5_27 (P : Program) (Q : Exit → Slots → Mem → Prop) (M : Mem) (v1 : V) (v2 : V) (v3 : V) (v8 : V) (v10 : V) : Prop :=
  @OptVH (loadV 4 true v3 M) ⟨fun t56_1 =>
  @OptVH (sliceV 4 v1 none (some v2) none M) ⟨fun t59_4 =>
  @CallH P i_fare_Price [t56_1, t59_4] M ⟨fun t60_5 M5 =>
  @OptVH (extractV t60_5 0) ⟨fun t61_7 =>
  @OptVH (extractV t60_5 1) ⟨fun _t62_8 =>
  @OptVH (extractV t60_5 2) ⟨fun t63_9 =>
  Q .normal [(8, v8), (10, v10), (11, t61_7), (13, t63_9)] M5⟩⟩⟩⟩⟩⟩
theorem e5_27 (P : Program) (Q : Exit → Slots → Mem → Prop) (s : Slots) (M : Mem) : wpC P c5_27 Q s M = w5_27 P Q M (sget s 1) (sget s 2) (sget s 3) (sget s 8) (sget s 10) := by kernel_rfl
def o5_28 : List AOper := [⟨some 64, (.mov (.tmp 10)), false, none⟩,
  ⟨some 65, (.bin .neq .none (.tmp 64) (.const (.int .i64 0))), true, none⟩,
  ⟨some 66, (.mov (.tmp 65)), true, none⟩,
  ⟨some 67, (.mov (.tmp 13)), false, some (66, false)⟩,
  ⟨some 68, (.bin .eql .none (.tmp 67) (.const (.int .i64 0))), true, some (66, false)⟩,
  ⟨some 69, (.mov (.tmp 68)), true, some (66, false)⟩,
  ⟨some 70, (.mov (.tmp 11)), false, some (69, true)⟩,
  ⟨some 71, (.mov (.tmp 8)), false, some (69, true)⟩,
  ⟨some 72, (.bin .leq .none (.tmp 70) (.tmp 71)), true, some (69, true)⟩,
  ⟨some 73, (.pick (.tmp 69) (.tmp 72) (.const (.bool false))), true, some (66, false)⟩,
  ⟨some 74, (.pick (.tmp 66) (.const (.bool true)) (.tmp 73)), true, none⟩,
  ⟨some 75, (.mov (.tmp 74)), true, none⟩,
  ⟨some 76, (.call i_transitlaw35_exampleHolds []), true, some (75, true)⟩,
  ⟨some 77, (.pick (.tmp 75) (.tmp 76) (.const (.bool false))), true, none⟩,
  ⟨some 6, (.mov (.tmp 77)), true, none⟩]
def c5_29 : ACode := (.region o5_28 [6])
def w5_29 (P : Program) (Q : Exit → Slots → Mem → Prop) (M : Mem) (v8 : V) (v10 : V) (v11 : V) (v13 : V) : Prop :=
  @OptBH (binV .neq .none v10 (.int .i64 0)) ⟨fun b65_2 =>
  @BIfH b65_2
  ⟨@CallH P i_transitlaw35_exampleHolds [] M ⟨fun t76_6 M6 => @OptBH (some t76_6) ⟨fun b76_6 =>
  Q .normal [(6, (.bool b76_6))] M6⟩⟩⟩
  ⟨@OptBH (binV .eql .none v13 (.int .i64 0)) ⟨fun b68_10 =>
  @BIfH b68_10
  ⟨@OptBH (binV .leq .none v11 v8) ⟨fun b72_14 =>
  @BIfH b72_14
  ⟨@CallH P i_transitlaw35_exampleHolds [] M ⟨fun t76_18 M18 => @OptBH (some t76_18) ⟨fun b76_18 =>
  Q .normal [(6, (.bool b76_18))] M18⟩⟩⟩
  ⟨Q .normal [(6, (.bool false))] M⟩⟩⟩
  ⟨Q .normal [(6, (.bool false))] M⟩⟩⟩⟩
theorem e5_29 (P : Program) (Q : Exit → Slots → Mem → Prop) (s : Slots) (M : Mem) : wpC P c5_29 Q s M = w5_29 P Q M (sget s 8) (sget s 10) (sget s 11) (sget s 13) := by kernel_rfl
def c5_30 : ACode := (.seq c5_29 .ret)
def c5_31 : ACode := (.seq c5_27 c5_30)
def c5_32 : ACode := (.seq c5_25 c5_31)
def c5_33 : ACode := (.seq c5_23 c5_32)
def c5_34 : ACode := (.seq c5_6 c5_33)
def c5_35 : ACode := (.seq c5_1 c5_34)
def fn_transitlaw35_FareGrows : AFn := ⟨78, [(.tmp 6)], c5_35⟩
theorem fn_transitlaw35_FareGrows_ok : resFn PR h_transitlaw35_FareGrows i_transitlaw35_FareGrows = some fn_transitlaw35_FareGrows := by kernel_rfl

def h_transitlaw35_FareJoins : Hints := ⟨[(0, [1, 2, 3]), (1, [1, 2, 3, 34]), (2, [6]), (3, [1, 2, 3, 7, 9]), (4, [1, 2, 3, 7, 9, 10, 12]), (5, [7, 9, 10, 12, 13, 15]), (6, [7, 9, 10, 13, 66]), (7, [6]), (8, [6])], [], []⟩
def o6_0 : List AOper := [⟨some 3, (.box 4 (.tmp 0)), false, none⟩,
  ⟨some 6, (.mov (.const (.bool false))), true, none⟩]
def c6_1 : ACode := (.region o6_0 [1, 2, 3])
def w6_1 (_P : Program) (Q : Exit → Slots → Mem → Prop) (M : Mem) (v0 : V) (v1 : V) (v2 : V) : Prop :=
  @OptMH (boxV 4 v0 M) ⟨fun t3_1 M1 =>
  Q .normal [(1, v1), (2, v2), (3, t3_1)] M1⟩
theorem e6_1 (P : Program) (Q : Exit → Slots → Mem → Prop) (s : Slots) (M : Mem) : wpC P c6_1 Q s M = w6_1 P Q M (sget s 0) (sget s 1) (sget s 2) := by kernel_rfl
def o6_2 : List AOper := [⟨some 35, (.call i_transitlaw35_exampleHolds []), true, none⟩,
  ⟨some 6, (.mov (.tmp 35)), true, none⟩]
def c6_3 : ACode := (.region o6_2 [6])
def w6_3 (P : Program) (Q : Exit → Slots → Mem → Prop) (M : Mem) : Prop :=
  @CallH P i_transitlaw35_exampleHolds [] M ⟨fun t35_1 M1 => @OptBH (some t35_1) ⟨fun b35_1 =>
  Q .normal [(6, (.bool b35_1))] M1⟩⟩
theorem e6_3 (P : Program) (Q : Exit → Slots → Mem → Prop) (s : Slots) (M : Mem) : wpC P c6_3 Q s M = w6_3 P Q M := by kernel_rfl
def c6_4 : ACode := (.seq c6_3 .ret)
def o6_5 : List AOper := [⟨some 16, (.load 4 true (.tmp 3)), false, none⟩,
  ⟨some 17, (.mov (.tmp 1)), false, none⟩,
  ⟨some 18, (.call i_transitlaw35_small [(.tmp 16), (.tmp 17)]), true, none⟩,
  ⟨some 19, (.un .not (.tmp 18)), true, none⟩,
  ⟨some 20, (.mov (.tmp 19)), true, none⟩,
  ⟨some 21, (.mov (.tmp 1)), false, some (20, false)⟩,
  ⟨some 22, (.lenSl (.tmp 21)), false, some (20, false)⟩,
  ⟨some 23, (.bin .gtr .none (.tmp 22) (.const (.int .i64 8))), true, some (20, false)⟩,
  ⟨some 24, (.pick (.tmp 20) (.const (.bool true)) (.tmp 23)), true, none⟩,
  ⟨some 25, (.mov (.tmp 24)), true, none⟩,
  ⟨some 26, (.mov (.tmp 2)), false, some (25, false)⟩,
  ⟨some 27, (.bin .lss .none (.tmp 26) (.const (.int .i64 0))), true, some (25, false)⟩,
  ⟨some 28, (.pick (.tmp 25) (.const (.bool true)) (.tmp 27)), true, none⟩,
  ⟨some 29, (.mov (.tmp 28)), true, none⟩,
  ⟨some 30, (.mov (.tmp 2)), false, some (29, false)⟩,
  ⟨some 31, (.mov (.tmp 1)), false, some (29, false)⟩,
  ⟨some 32, (.lenSl (.tmp 31)), false, some (29, false)⟩,
  ⟨some 33, (.bin .gtr .none (.tmp 30) (.tmp 32)), true, some (29, false)⟩,
  ⟨some 34, (.pick (.tmp 29) (.const (.bool true)) (.tmp 33)), true, none⟩]
def c6_6 : ACode := (.seq (.region o6_5 [1, 2, 3, 34]) (.cond (.tmp 34) c6_4 .skip))
def w6_6 (P : Program) (Q : Exit → Slots → Mem → Prop) (M : Mem) (v1 : V) (v2 : V) (v3 : V) : Prop :=
  @OptVH (loadV 4 true v3 M) ⟨fun t16_1 =>
  @CallH P i_transitlaw35_small [t16_1, v1] M ⟨fun t18_3 M3 => @OptBH (some t18_3) ⟨fun b18_3 =>
  @OptBH (unV .not (.bool b18_3)) ⟨fun b19_4 =>
  @BIfH b19_4
  ⟨wpC P c6_4 Q [(1, v1), (2, v2), (3, v3), (34, (.bool true))] M3⟩
  ⟨@OptVH (lenV v1 M3) ⟨fun t22_12 =>
  @OptBH (binV .gtr .none t22_12 (.int .i64 8)) ⟨fun b23_13 =>
  @BIfH b23_13
  ⟨wpC P c6_4 Q [(1, v1), (2, v2), (3, v3), (34, (.bool true))] M3⟩
  ⟨@OptBH (binV .lss .none v2 (.int .i64 0)) ⟨fun b27_20 =>
  @BIfH b27_20
  ⟨wpC P c6_4 Q [(1, v1), (2, v2), (3, v3), (34, (.bool true))] M3⟩
  ⟨@OptVH (lenV v1 M3) ⟨fun t32_26 =>
  @OptBH (binV .gtr .none v2 t32_26) ⟨fun b33_27 =>
  @BIfH b33_27
  ⟨wpC P c6_4 Q [(1, v1), (2, v2), (3, v3), (34, (.bool b33_27))] M3⟩
  ⟨Q .normal [(1, v1), (2, v2), (3, v3), (34, (.bool b33_27))] M3⟩⟩⟩⟩⟩⟩⟩⟩⟩⟩⟩⟩⟩
theorem e6_6 (P : Program) (Q : Exit → Slots → Mem → Prop) (s : Slots) (M : Mem) : wpC P c6_6 Q s M = w6_6 P Q M (sget s 1) (sget s 2) (sget s 3) := by kernel_rfl
def o6_7 : List AOper := [⟨some 37, (.load 4 true (.tmp 3)), false, none⟩,
  ⟨some 38, (.mov (.tmp 1)), false, none⟩,
  ⟨some 39, (.call i_fare_Price [(.tmp 37), (.tmp 38)]), false, none⟩,
  ⟨some 36, (.mov (.tmp 39)), false, none⟩,
  ⟨some 40, (.extract (.tmp 36) 0), false, none⟩,
  ⟨some 41, (.extract (.tmp 36) 1), false, none⟩,
  ⟨some 42, (.extract (.tmp 36) 2), false, none⟩,
  ⟨some 7, (.mov (.tmp 40)), false, none⟩,
  ⟨some 8, (.mov (.tmp 41)), false, none⟩,
  ⟨some 9, (.mov (.tmp 42)), false, none⟩]
def c6_8 : ACode := (.region o6_7 [1, 2, 3, 7, 9])
def w6_8 (P : Program) (Q : Exit → Slots → Mem → Prop) (M : Mem) (v1 : V) (v2 : V) (v3 : V) : Prop :=
  @OptVH (loadV 4 true v3 M) ⟨fun t37_1 =>
  @CallH P i_fare_Price [t37_1, v1] M ⟨fun t39_3 M3 =>
  @OptVH (extractV t39_3 0) ⟨fun t40_5 =>
  @OptVH (extractV t39_3 1) ⟨fun _t41_6 =>
  @OptVH (extractV t39_3 2) ⟨fun t42_7 =>
  Q .normal [(1, v1), (2, v2), (3, v3), (7, t40_5), (9, t42_7)] M3⟩⟩⟩⟩⟩
theorem e6_8 (P : Program) (Q : Exit → Slots → Mem → Prop) (s : Slots) (M : Mem) : wpC P c6_8 Q s M = w6_8 P Q M (sget s 1) (sget s 2) (sget s 3) := by kernel_rfl
def o6_9 : List AOper := [⟨some 44, (.load 4 true (.tmp 3)), false, none⟩,
  ⟨some 45, (.mov (.tmp 1)), false, none⟩,
  ⟨some 46, (.mov (.tmp 2)), false, none⟩,
  ⟨some 47, (.slice 4 (.tmp 45) none (some (.tmp 46)) none), false, none⟩,
  ⟨some 48, (.call i_fare_Price [(.tmp 44), (.tmp 47)]), false, none⟩,
  ⟨some 43, (.mov (.tmp 48)), false, none⟩,
  ⟨some 49, (.extract (.tmp 43) 0), false, none⟩,
  ⟨some 50, (.extract (.tmp 43) 1), false, none⟩,
  ⟨some 51, (.extract (.tmp 43) 2), false, none⟩,
  ⟨some 10, (.mov (.tmp 49)), false, none⟩,
  ⟨some 11, (.mov (.tmp 50)), false, none⟩,
  ⟨some 12, (.mov (.tmp 51)), false, none⟩]
def c6_10 : ACode := (.mixed o6_9 [true, true, true, true, false, true, true, true, true, true, true, true] [1, 2, 3, 7, 9, 10, 12])
def w6_10 (P : Program) (Q : Exit → Slots → Mem → Prop) (M : Mem) (v1 : V) (v2 : V) (v3 : V) (v7 : V) (v9 : V) : Prop :=
  @OptVH (loadV 4 true v3 M) ⟨fun t44_1 =>
  @OptVH (sliceV 4 v1 none (some v2) none M) ⟨fun t47_4 =>
  @CallH P i_fare_Price [t44_1, t47_4] M ⟨fun t48_5 M5 =>
  @OptVH (extractV t48_5 0) ⟨fun t49_7 =>
  @OptVH (extractV t48_5 1) ⟨fun _t50_8 =>
  @OptVH (extractV t48_5 2) ⟨fun t51_9 =>
  Q .normal [(1, v1), (2, v2), (3, v3), (7, v7), (9, v9), (10, t49_7), (12, t51_9)] M5⟩⟩⟩⟩⟩⟩
theorem e6_10 (P : Program) (Q : Exit → Slots → Mem → Prop) (s : Slots) (M : Mem) : wpC P c6_10 Q s M = w6_10 P Q M (sget s 1) (sget s 2) (sget s 3) (sget s 7) (sget s 9) := by kernel_rfl
def o6_11 : List AOper := [⟨some 53, (.load 4 true (.tmp 3)), false, none⟩,
  ⟨some 54, (.mov (.tmp 1)), false, none⟩,
  ⟨some 55, (.mov (.tmp 2)), false, none⟩,
  ⟨some 56, (.slice 4 (.tmp 54) (some (.tmp 55)) none none), false, none⟩,
  ⟨some 57, (.call i_fare_Price [(.tmp 53), (.tmp 56)]), false, none⟩,
  ⟨some 52, (.mov (.tmp 57)), false, none⟩,
  ⟨some 58, (.extract (.tmp 52) 0), false, none⟩,
  ⟨some 59, (.extract (.tmp 52) 1), false, none⟩,
  ⟨some 60, (.extract (.tmp 52) 2), false, none⟩,
  ⟨some 13, (.mov (.tmp 58)), false, none⟩,
  ⟨some 14, (.mov (.tmp 59)), false, none⟩,
  ⟨some 15, (.mov (.tmp 60)), false, none⟩]
def c6_12 : ACode := (.mixed o6_11 [true, true, true, true, false, true, true, true, true, true, true, true] [7, 9, 10, 12, 13, 15])
def w6_12 (P : Program) (Q : Exit → Slots → Mem → Prop) (M : Mem) (v1 : V) (v2 : V) (v3 : V) (v7 : V) (v9 : V) (v10 : V) (v12 : V) : Prop :=
  @OptVH (loadV 4 true v3 M) ⟨fun t53_1 =>
  @OptVH (sliceV 4 v1 (some v2) none none M) ⟨fun t56_4 =>
  @CallH P i_fare_Price [t53_1, t56_4] M ⟨fun t57_5 M5 =>
  @OptVH (extractV t57_5 0) ⟨fun t58_7 =>
  @OptVH (extractV t57_5 1) ⟨fun _t59_8 =>
  @OptVH (extractV t57_5 2) ⟨fun t60_9 =>
  Q .normal [(7, v7), (9, v9), (10, v10), (12, v12), (13, t58_7), (15, t60_9)] M5⟩⟩⟩⟩⟩⟩
theorem e6_12 (P : Program) (Q : Exit → Slots → Mem → Prop) (s : Slots) (M : Mem) : wpC P c6_12 Q s M = w6_12 P Q M (sget s 1) (sget s 2) (sget s 3) (sget s 7) (sget s 9) (sget s 10) (sget s 12) := by kernel_rfl
def o6_13 : List AOper := [⟨some 67, (.call i_transitlaw35_exampleHolds []), true, none⟩,
  ⟨some 6, (.mov (.tmp 67)), true, none⟩]
def c6_14 : ACode := (.region o6_13 [6])
def w6_14 (P : Program) (Q : Exit → Slots → Mem → Prop) (M : Mem) : Prop :=
  @CallH P i_transitlaw35_exampleHolds [] M ⟨fun t67_1 M1 => @OptBH (some t67_1) ⟨fun b67_1 =>
  Q .normal [(6, (.bool b67_1))] M1⟩⟩
theorem e6_14 (P : Program) (Q : Exit → Slots → Mem → Prop) (s : Slots) (M : Mem) : wpC P c6_14 Q s M = w6_14 P Q M := by kernel_rfl
def c6_15 : ACode := (.seq c6_14 .ret)
def o6_16 : List AOper := [⟨some 61, (.mov (.tmp 12)), false, none⟩,
  ⟨some 62, (.bin .neq .none (.tmp 61) (.const (.int .i64 0))), true, none⟩,
  ⟨some 63, (.mov (.tmp 62)), true, none⟩,
  ⟨some 64, (.mov (.tmp 15)), false, some (63, false)⟩,
  ⟨some 65, (.bin .neq .none (.tmp 64) (.const (.int .i64 0))), true, some (63, false)⟩,
  ⟨some 66, (.pick (.tmp 63) (.const (.bool true)) (.tmp 65)), true, none⟩]
def c6_17 : ACode := (.seq (.region o6_16 [7, 9, 10, 13, 66]) (.cond (.tmp 66) c6_15 .skip))
def w6_17 (P : Program) (Q : Exit → Slots → Mem → Prop) (M : Mem) (v7 : V) (v9 : V) (v10 : V) (v12 : V) (v13 : V) (v15 : V) : Prop :=
  @OptBH (binV .neq .none v12 (.int .i64 0)) ⟨fun b62_2 =>
  @BIfH b62_2
  ⟨wpC P c6_15 Q [(7, v7), (9, v9), (10, v10), (13, v13), (66, (.bool true))] M⟩
  ⟨@OptBH (binV .neq .none v15 (.int .i64 0)) ⟨fun b65_6 =>
  @BIfH b65_6
  ⟨wpC P c6_15 Q [(7, v7), (9, v9), (10, v10), (13, v13), (66, (.bool b65_6))] M⟩
  ⟨Q .normal [(7, v7), (9, v9), (10, v10), (13, v13), (66, (.bool b65_6))] M⟩⟩⟩⟩
theorem e6_17 (P : Program) (Q : Exit → Slots → Mem → Prop) (s : Slots) (M : Mem) : wpC P c6_17 Q s M = w6_17 P Q M (sget s 7) (sget s 9) (sget s 10) (sget s 12) (sget s 13) (sget s 15) := by kernel_rfl
def o6_18 : List AOper := [⟨some 68, (.mov (.tmp 9)), false, none⟩,
  ⟨some 69, (.bin .eql .none (.tmp 68) (.const (.int .i64 0))), true, none⟩,
  ⟨some 70, (.mov (.tmp 69)), true, none⟩,
  ⟨some 71, (.mov (.tmp 10)), false, some (70, true)⟩,
  ⟨some 72, (.bin .geq .none (.tmp 71) (.const (.int .i64 0))), true, some (70, true)⟩,
  ⟨some 73, (.pick (.tmp 70) (.tmp 72) (.const (.bool false))), true, none⟩,
  ⟨some 74, (.mov (.tmp 73)), true, none⟩,
  ⟨some 75, (.mov (.tmp 10)), false, some (74, true)⟩,
  ⟨some 76, (.bin .leq .none (.tmp 75) (.const (.int .i64 1073741824))), true, some (74, true)⟩,
  ⟨some 77, (.pick (.tmp 74) (.tmp 76) (.const (.bool false))), true, none⟩,
  ⟨some 78, (.mov (.tmp 77)), true, none⟩,
  ⟨some 79, (.mov (.tmp 13)), false, some (78, true)⟩,
  ⟨some 80, (.bin .geq .none (.tmp 79) (.const (.int .i64 0))), true, some (78, true)⟩,
  ⟨some 81, (.pick (.tmp 78) (.tmp 80) (.const (.bool false))), true, none⟩,
  ⟨some 82, (.mov (.tmp 81)), true, none⟩,
  ⟨some 83, (.mov (.tmp 13)), false, some (82, true)⟩,
  ⟨some 84, (.bin .leq .none (.tmp 83) (.const (.int .i64 1073741824))), true, some (82, true)⟩,
  ⟨some 85, (.pick (.tmp 82) (.tmp 84) (.const (.bool false))), true, none⟩,
  ⟨some 86, (.mov (.tmp 85)), true, none⟩,
  ⟨some 87, (.mov (.tmp 7)), false, some (86, true)⟩,
  ⟨some 88, (.mov (.tmp 10)), false, some (86, true)⟩,
  ⟨some 89, (.mov (.tmp 13)), false, some (86, true)⟩,
  ⟨some 90, (.bin .add .none (.tmp 88) (.tmp 89)), false, some (86, true)⟩,
  ⟨some 91, (.bin .leq .none (.tmp 87) (.tmp 90)), true, some (86, true)⟩,
  ⟨some 92, (.pick (.tmp 86) (.tmp 91) (.const (.bool false))), true, none⟩,
  ⟨some 93, (.mov (.tmp 92)), true, none⟩,
  ⟨some 94, (.call i_transitlaw35_exampleHolds []), true, some (93, true)⟩,
  ⟨some 95, (.pick (.tmp 93) (.tmp 94) (.const (.bool false))), true, none⟩,
  ⟨some 6, (.mov (.tmp 95)), true, none⟩]
def c6_19 : ACode := (.region o6_18 [6])
def w6_19 (P : Program) (Q : Exit → Slots → Mem → Prop) (M : Mem) (v7 : V) (v9 : V) (v10 : V) (v13 : V) : Prop :=
  @OptBH (binV .eql .none v9 (.int .i64 0)) ⟨fun b69_2 =>
  @BIfH b69_2
  ⟨@OptBH (binV .geq .none v10 (.int .i64 0)) ⟨fun b72_5 =>
  @BIfH b72_5
  ⟨@OptBH (binV .leq .none v10 (.int .i64 1073741824)) ⟨fun b76_9 =>
  @BIfH b76_9
  ⟨@OptBH (binV .geq .none v13 (.int .i64 0)) ⟨fun b80_13 =>
  @BIfH b80_13
  ⟨@OptBH (binV .leq .none v13 (.int .i64 1073741824)) ⟨fun b84_17 =>
  @BIfH b84_17
  ⟨@OptVH (binV .add .none v10 v13) ⟨fun t90_23 =>
  @OptBH (binV .leq .none v7 t90_23) ⟨fun b91_24 =>
  @BIfH b91_24
  ⟨@CallH P i_transitlaw35_exampleHolds [] M ⟨fun t94_27 M27 => @OptBH (some t94_27) ⟨fun b94_27 =>
  Q .normal [(6, (.bool b94_27))] M27⟩⟩⟩
  ⟨Q .normal [(6, (.bool false))] M⟩⟩⟩⟩
  ⟨Q .normal [(6, (.bool false))] M⟩⟩⟩
  ⟨Q .normal [(6, (.bool false))] M⟩⟩⟩
  ⟨Q .normal [(6, (.bool false))] M⟩⟩⟩
  ⟨Q .normal [(6, (.bool false))] M⟩⟩⟩
  ⟨Q .normal [(6, (.bool false))] M⟩⟩
theorem e6_19 (P : Program) (Q : Exit → Slots → Mem → Prop) (s : Slots) (M : Mem) : wpC P c6_19 Q s M = w6_19 P Q M (sget s 7) (sget s 9) (sget s 10) (sget s 13) := by kernel_rfl
def c6_20 : ACode := (.seq c6_19 .ret)
def c6_21 : ACode := (.seq c6_17 c6_20)
def c6_22 : ACode := (.seq c6_12 c6_21)
def c6_23 : ACode := (.seq c6_10 c6_22)
def c6_24 : ACode := (.seq c6_8 c6_23)
def c6_25 : ACode := (.seq c6_6 c6_24)
def c6_26 : ACode := (.seq c6_1 c6_25)
def fn_transitlaw35_FareJoins : AFn := ⟨96, [(.tmp 6)], c6_26⟩
theorem fn_transitlaw35_FareJoins_ok : resFn PR h_transitlaw35_FareJoins i_transitlaw35_FareJoins = some fn_transitlaw35_FareJoins := by kernel_rfl

def h_transitlaw35_FareTotals : Hints := ⟨[(0, [1, 2]), (1, [1, 2, 16]), (2, [4]), (3, [1, 2, 5, 6]), (4, [5, 6, 7, 8]), (5, [4])], [], []⟩
def o7_0 : List AOper := [⟨some 2, (.box 4 (.tmp 0)), false, none⟩,
  ⟨some 4, (.mov (.const (.bool false))), true, none⟩]
def c7_1 : ACode := (.region o7_0 [1, 2])
def w7_1 (_P : Program) (Q : Exit → Slots → Mem → Prop) (M : Mem) (v0 : V) (v1 : V) : Prop :=
  @OptMH (boxV 4 v0 M) ⟨fun t2_1 M1 =>
  Q .normal [(1, v1), (2, t2_1)] M1⟩
theorem e7_1 (P : Program) (Q : Exit → Slots → Mem → Prop) (s : Slots) (M : Mem) : wpC P c7_1 Q s M = w7_1 P Q M (sget s 0) (sget s 1) := by kernel_rfl
def o7_2 : List AOper := [⟨some 17, (.call i_transitlaw35_exampleHolds []), true, none⟩,
  ⟨some 4, (.mov (.tmp 17)), true, none⟩]
def c7_3 : ACode := (.region o7_2 [4])
def w7_3 (P : Program) (Q : Exit → Slots → Mem → Prop) (M : Mem) : Prop :=
  @CallH P i_transitlaw35_exampleHolds [] M ⟨fun t17_1 M1 => @OptBH (some t17_1) ⟨fun b17_1 =>
  Q .normal [(4, (.bool b17_1))] M1⟩⟩
theorem e7_3 (P : Program) (Q : Exit → Slots → Mem → Prop) (s : Slots) (M : Mem) : wpC P c7_3 Q s M = w7_3 P Q M := by kernel_rfl
def c7_4 : ACode := (.seq c7_3 .ret)
def o7_5 : List AOper := [⟨some 9, (.load 4 true (.tmp 2)), false, none⟩,
  ⟨some 10, (.call i_transitlaw35_small [(.tmp 9), (.const (.slice [] .nil))]), true, none⟩,
  ⟨some 11, (.un .not (.tmp 10)), true, none⟩,
  ⟨some 12, (.mov (.tmp 11)), true, none⟩,
  ⟨some 13, (.mov (.tmp 1)), false, some (12, false)⟩,
  ⟨some 14, (.lenSl (.tmp 13)), false, some (12, false)⟩,
  ⟨some 15, (.bin .gtr .none (.tmp 14) (.const (.int .i64 40))), true, some (12, false)⟩,
  ⟨some 16, (.pick (.tmp 12) (.const (.bool true)) (.tmp 15)), true, none⟩]
def c7_6 : ACode := (.seq (.region o7_5 [1, 2, 16]) (.cond (.tmp 16) c7_4 .skip))
def w7_6 (P : Program) (Q : Exit → Slots → Mem → Prop) (M : Mem) (v1 : V) (v2 : V) : Prop :=
  @OptVH (loadV 4 true v2 M) ⟨fun t9_1 =>
  @CallH P i_transitlaw35_small [t9_1, (.slice [] .nil)] M ⟨fun t10_2 M2 => @OptBH (some t10_2) ⟨fun b10_2 =>
  @OptBH (unV .not (.bool b10_2)) ⟨fun b11_3 =>
  @BIfH b11_3
  ⟨wpC P c7_4 Q [(1, v1), (2, v2), (16, (.bool true))] M2⟩
  ⟨@OptVH (lenV v1 M2) ⟨fun t14_7 =>
  @OptBH (binV .gtr .none t14_7 (.int .i64 40)) ⟨fun b15_8 =>
  @BIfH b15_8
  ⟨wpC P c7_4 Q [(1, v1), (2, v2), (16, (.bool b15_8))] M2⟩
  ⟨Q .normal [(1, v1), (2, v2), (16, (.bool b15_8))] M2⟩⟩⟩⟩⟩⟩⟩⟩
theorem e7_6 (P : Program) (Q : Exit → Slots → Mem → Prop) (s : Slots) (M : Mem) : wpC P c7_6 Q s M = w7_6 P Q M (sget s 1) (sget s 2) := by kernel_rfl
def o7_7 : List AOper := [⟨some 19, (.load 4 true (.tmp 2)), false, none⟩,
  ⟨some 20, (.mov (.tmp 1)), false, none⟩,
  ⟨some 21, (.call i_fare_Total [(.tmp 19), (.tmp 20)]), false, none⟩,
  ⟨some 18, (.mov (.tmp 21)), false, none⟩,
  ⟨some 22, (.extract (.tmp 18) 0), false, none⟩,
  ⟨some 23, (.extract (.tmp 18) 1), true, none⟩,
  ⟨some 5, (.mov (.tmp 22)), false, none⟩,
  ⟨some 6, (.mov (.tmp 23)), true, none⟩]
def c7_8 : ACode := (.region o7_7 [1, 2, 5, 6])
def w7_8 (P : Program) (Q : Exit → Slots → Mem → Prop) (M : Mem) (v1 : V) (v2 : V) : Prop :=
  @OptVH (loadV 4 true v2 M) ⟨fun t19_1 =>
  @CallH P i_fare_Total [t19_1, v1] M ⟨fun t21_3 M3 =>
  @OptVH (extractV t21_3 0) ⟨fun t22_5 =>
  @OptBH (extractV t21_3 1) ⟨fun b23_6 =>
  Q .normal [(1, v1), (2, v2), (5, t22_5), (6, (.bool b23_6))] M3⟩⟩⟩⟩
theorem e7_8 (P : Program) (Q : Exit → Slots → Mem → Prop) (s : Slots) (M : Mem) : wpC P c7_8 Q s M = w7_8 P Q M (sget s 1) (sget s 2) := by kernel_rfl
def o7_9 : List AOper := [⟨some 25, (.load 4 true (.tmp 2)), false, none⟩,
  ⟨some 26, (.mov (.tmp 1)), false, none⟩,
  ⟨some 27, (.call i_transitref35_Total [(.tmp 25), (.tmp 26)]), false, none⟩,
  ⟨some 24, (.mov (.tmp 27)), false, none⟩,
  ⟨some 28, (.extract (.tmp 24) 0), false, none⟩,
  ⟨some 29, (.extract (.tmp 24) 1), true, none⟩,
  ⟨some 7, (.mov (.tmp 28)), false, none⟩,
  ⟨some 8, (.mov (.tmp 29)), true, none⟩]
def c7_10 : ACode := (.region o7_9 [5, 6, 7, 8])
def w7_10 (P : Program) (Q : Exit → Slots → Mem → Prop) (M : Mem) (v1 : V) (v2 : V) (v5 : V) (v6 : V) : Prop :=
  @OptVH (loadV 4 true v2 M) ⟨fun t25_1 =>
  @CallH P i_transitref35_Total [t25_1, v1] M ⟨fun t27_3 M3 =>
  @OptVH (extractV t27_3 0) ⟨fun t28_5 =>
  @OptBH (extractV t27_3 1) ⟨fun b29_6 =>
  Q .normal [(5, v5), (6, v6), (7, t28_5), (8, (.bool b29_6))] M3⟩⟩⟩⟩
theorem e7_10 (P : Program) (Q : Exit → Slots → Mem → Prop) (s : Slots) (M : Mem) : wpC P c7_10 Q s M = w7_10 P Q M (sget s 1) (sget s 2) (sget s 5) (sget s 6) := by kernel_rfl
def o7_11 : List AOper := [⟨some 30, (.mov (.tmp 5)), false, none⟩,
  ⟨some 31, (.mov (.tmp 7)), false, none⟩,
  ⟨some 32, (.bin .eql .none (.tmp 30) (.tmp 31)), true, none⟩,
  ⟨some 33, (.mov (.tmp 32)), true, none⟩,
  ⟨some 34, (.mov (.tmp 6)), true, some (33, true)⟩,
  ⟨some 35, (.mov (.tmp 8)), true, some (33, true)⟩,
  ⟨some 36, (.bin .eql .bool (.tmp 34) (.tmp 35)), true, some (33, true)⟩,
  ⟨some 37, (.pick (.tmp 33) (.tmp 36) (.const (.bool false))), true, none⟩,
  ⟨some 38, (.mov (.tmp 37)), true, none⟩,
  ⟨some 39, (.call i_transitlaw35_exampleHolds []), true, some (38, true)⟩,
  ⟨some 40, (.pick (.tmp 38) (.tmp 39) (.const (.bool false))), true, none⟩,
  ⟨some 4, (.mov (.tmp 40)), true, none⟩]
def c7_12 : ACode := (.region o7_11 [4])
def w7_12 (P : Program) (Q : Exit → Slots → Mem → Prop) (M : Mem) (v5 : V) (v6 : V) (v7 : V) (v8 : V) : Prop :=
  @OptBH (binV .eql .none v5 v7) ⟨fun b32_3 =>
  @BIfH b32_3
  ⟨@OptBH (some v6) ⟨fun b34_5 =>
  @OptBH (some v8) ⟨fun b35_6 =>
  @OptBH (binV .eql .bool (.bool b34_5) (.bool b35_6)) ⟨fun b36_7 =>
  @BIfH b36_7
  ⟨@CallH P i_transitlaw35_exampleHolds [] M ⟨fun t39_10 M10 => @OptBH (some t39_10) ⟨fun b39_10 =>
  Q .normal [(4, (.bool b39_10))] M10⟩⟩⟩
  ⟨Q .normal [(4, (.bool false))] M⟩⟩⟩⟩⟩
  ⟨Q .normal [(4, (.bool false))] M⟩⟩
theorem e7_12 (P : Program) (Q : Exit → Slots → Mem → Prop) (s : Slots) (M : Mem) : wpC P c7_12 Q s M = w7_12 P Q M (sget s 5) (sget s 6) (sget s 7) (sget s 8) := by kernel_rfl
def c7_13 : ACode := (.seq c7_12 .ret)
def c7_14 : ACode := (.seq c7_10 c7_13)
def c7_15 : ACode := (.seq c7_8 c7_14)
def c7_16 : ACode := (.seq c7_6 c7_15)
def c7_17 : ACode := (.seq c7_1 c7_16)
def fn_transitlaw35_FareTotals : AFn := ⟨41, [(.tmp 4)], c7_17⟩
theorem fn_transitlaw35_FareTotals_ok : resFn PR h_transitlaw35_FareTotals i_transitlaw35_FareTotals = some fn_transitlaw35_FareTotals := by kernel_rfl

def h_transitlaw35_FareVerifies : Hints := ⟨[(0, [1, 2, 3]), (1, [1, 2, 3, 19]), (2, [6]), (3, [1, 2, 3, 7, 8]), (4, [7, 8, 9, 10]), (5, [6])], [], []⟩
def o8_0 : List AOper := [⟨some 3, (.box 4 (.tmp 0)), false, none⟩,
  ⟨some 6, (.mov (.const (.bool false))), true, none⟩]
def c8_1 : ACode := (.region o8_0 [1, 2, 3])
def w8_1 (_P : Program) (Q : Exit → Slots → Mem → Prop) (M : Mem) (v0 : V) (v1 : V) (v2 : V) : Prop :=
  @OptMH (boxV 4 v0 M) ⟨fun t3_1 M1 =>
  Q .normal [(1, v1), (2, v2), (3, t3_1)] M1⟩
theorem e8_1 (P : Program) (Q : Exit → Slots → Mem → Prop) (s : Slots) (M : Mem) : wpC P c8_1 Q s M = w8_1 P Q M (sget s 0) (sget s 1) (sget s 2) := by kernel_rfl
def o8_2 : List AOper := [⟨some 20, (.call i_transitlaw35_exampleHolds []), true, none⟩,
  ⟨some 6, (.mov (.tmp 20)), true, none⟩]
def c8_3 : ACode := (.region o8_2 [6])
def w8_3 (P : Program) (Q : Exit → Slots → Mem → Prop) (M : Mem) : Prop :=
  @CallH P i_transitlaw35_exampleHolds [] M ⟨fun t20_1 M1 => @OptBH (some t20_1) ⟨fun b20_1 =>
  Q .normal [(6, (.bool b20_1))] M1⟩⟩
theorem e8_3 (P : Program) (Q : Exit → Slots → Mem → Prop) (s : Slots) (M : Mem) : wpC P c8_3 Q s M = w8_3 P Q M := by kernel_rfl
def c8_4 : ACode := (.seq c8_3 .ret)
def o8_5 : List AOper := [⟨some 11, (.load 4 true (.tmp 3)), false, none⟩,
  ⟨some 12, (.mov (.tmp 1)), false, none⟩,
  ⟨some 13, (.call i_transitlaw35_small [(.tmp 11), (.tmp 12)]), true, none⟩,
  ⟨some 14, (.un .not (.tmp 13)), true, none⟩,
  ⟨some 15, (.mov (.tmp 14)), true, none⟩,
  ⟨some 16, (.mov (.tmp 2)), false, some (15, false)⟩,
  ⟨some 17, (.lenSl (.tmp 16)), false, some (15, false)⟩,
  ⟨some 18, (.bin .gtr .none (.tmp 17) (.const (.int .i64 40))), true, some (15, false)⟩,
  ⟨some 19, (.pick (.tmp 15) (.const (.bool true)) (.tmp 18)), true, none⟩]
def c8_6 : ACode := (.seq (.region o8_5 [1, 2, 3, 19]) (.cond (.tmp 19) c8_4 .skip))
def w8_6 (P : Program) (Q : Exit → Slots → Mem → Prop) (M : Mem) (v1 : V) (v2 : V) (v3 : V) : Prop :=
  @OptVH (loadV 4 true v3 M) ⟨fun t11_1 =>
  @CallH P i_transitlaw35_small [t11_1, v1] M ⟨fun t13_3 M3 => @OptBH (some t13_3) ⟨fun b13_3 =>
  @OptBH (unV .not (.bool b13_3)) ⟨fun b14_4 =>
  @BIfH b14_4
  ⟨wpC P c8_4 Q [(1, v1), (2, v2), (3, v3), (19, (.bool true))] M3⟩
  ⟨@OptVH (lenV v2 M3) ⟨fun t17_8 =>
  @OptBH (binV .gtr .none t17_8 (.int .i64 40)) ⟨fun b18_9 =>
  @BIfH b18_9
  ⟨wpC P c8_4 Q [(1, v1), (2, v2), (3, v3), (19, (.bool b18_9))] M3⟩
  ⟨Q .normal [(1, v1), (2, v2), (3, v3), (19, (.bool b18_9))] M3⟩⟩⟩⟩⟩⟩⟩⟩
theorem e8_6 (P : Program) (Q : Exit → Slots → Mem → Prop) (s : Slots) (M : Mem) : wpC P c8_6 Q s M = w8_6 P Q M (sget s 1) (sget s 2) (sget s 3) := by kernel_rfl
def o8_7 : List AOper := [⟨some 22, (.load 4 true (.tmp 3)), false, none⟩,
  ⟨some 23, (.mov (.tmp 1)), false, none⟩,
  ⟨some 24, (.mov (.tmp 2)), false, none⟩,
  ⟨some 25, (.call i_fare_Verify [(.tmp 22), (.tmp 23), (.tmp 24)]), false, none⟩,
  ⟨some 21, (.mov (.tmp 25)), false, none⟩,
  ⟨some 26, (.extract (.tmp 21) 0), false, none⟩,
  ⟨some 27, (.extract (.tmp 21) 1), false, none⟩,
  ⟨some 7, (.mov (.tmp 26)), false, none⟩,
  ⟨some 8, (.mov (.tmp 27)), false, none⟩]
def c8_8 : ACode := (.region o8_7 [1, 2, 3, 7, 8])
def w8_8 (P : Program) (Q : Exit → Slots → Mem → Prop) (M : Mem) (v1 : V) (v2 : V) (v3 : V) : Prop :=
  @OptVH (loadV 4 true v3 M) ⟨fun t22_1 =>
  @CallH P i_fare_Verify [t22_1, v1, v2] M ⟨fun t25_4 M4 =>
  @OptVH (extractV t25_4 0) ⟨fun t26_6 =>
  @OptVH (extractV t25_4 1) ⟨fun t27_7 =>
  Q .normal [(1, v1), (2, v2), (3, v3), (7, t26_6), (8, t27_7)] M4⟩⟩⟩⟩
theorem e8_8 (P : Program) (Q : Exit → Slots → Mem → Prop) (s : Slots) (M : Mem) : wpC P c8_8 Q s M = w8_8 P Q M (sget s 1) (sget s 2) (sget s 3) := by kernel_rfl
def o8_9 : List AOper := [⟨some 29, (.load 4 true (.tmp 3)), false, none⟩,
  ⟨some 30, (.mov (.tmp 1)), false, none⟩,
  ⟨some 31, (.mov (.tmp 2)), false, none⟩,
  ⟨some 32, (.call i_transitref35_Verify [(.tmp 29), (.tmp 30), (.tmp 31)]), false, none⟩,
  ⟨some 28, (.mov (.tmp 32)), false, none⟩,
  ⟨some 33, (.extract (.tmp 28) 0), false, none⟩,
  ⟨some 34, (.extract (.tmp 28) 1), false, none⟩,
  ⟨some 9, (.mov (.tmp 33)), false, none⟩,
  ⟨some 10, (.mov (.tmp 34)), false, none⟩]
def c8_10 : ACode := (.region o8_9 [7, 8, 9, 10])
def w8_10 (P : Program) (Q : Exit → Slots → Mem → Prop) (M : Mem) (v1 : V) (v2 : V) (v3 : V) (v7 : V) (v8 : V) : Prop :=
  @OptVH (loadV 4 true v3 M) ⟨fun t29_1 =>
  @CallH P i_transitref35_Verify [t29_1, v1, v2] M ⟨fun t32_4 M4 =>
  @OptVH (extractV t32_4 0) ⟨fun t33_6 =>
  @OptVH (extractV t32_4 1) ⟨fun t34_7 =>
  Q .normal [(7, v7), (8, v8), (9, t33_6), (10, t34_7)] M4⟩⟩⟩⟩
theorem e8_10 (P : Program) (Q : Exit → Slots → Mem → Prop) (s : Slots) (M : Mem) : wpC P c8_10 Q s M = w8_10 P Q M (sget s 1) (sget s 2) (sget s 3) (sget s 7) (sget s 8) := by kernel_rfl
def o8_11 : List AOper := [⟨some 35, (.mov (.tmp 7)), false, none⟩,
  ⟨some 36, (.mov (.tmp 9)), false, none⟩,
  ⟨some 37, (.bin .eql .none (.tmp 35) (.tmp 36)), true, none⟩,
  ⟨some 38, (.mov (.tmp 37)), true, none⟩,
  ⟨some 39, (.mov (.tmp 8)), false, some (38, true)⟩,
  ⟨some 40, (.mov (.tmp 10)), false, some (38, true)⟩,
  ⟨some 41, (.bin .eql .none (.tmp 39) (.tmp 40)), true, some (38, true)⟩,
  ⟨some 42, (.pick (.tmp 38) (.tmp 41) (.const (.bool false))), true, none⟩,
  ⟨some 43, (.mov (.tmp 42)), true, none⟩,
  ⟨some 44, (.call i_transitlaw35_exampleHolds []), true, some (43, true)⟩,
  ⟨some 45, (.pick (.tmp 43) (.tmp 44) (.const (.bool false))), true, none⟩,
  ⟨some 6, (.mov (.tmp 45)), true, none⟩]
def c8_12 : ACode := (.region o8_11 [6])
def w8_12 (P : Program) (Q : Exit → Slots → Mem → Prop) (M : Mem) (v7 : V) (v8 : V) (v9 : V) (v10 : V) : Prop :=
  @OptBH (binV .eql .none v7 v9) ⟨fun b37_3 =>
  @BIfH b37_3
  ⟨@OptBH (binV .eql .none v8 v10) ⟨fun b41_7 =>
  @BIfH b41_7
  ⟨@CallH P i_transitlaw35_exampleHolds [] M ⟨fun t44_10 M10 => @OptBH (some t44_10) ⟨fun b44_10 =>
  Q .normal [(6, (.bool b44_10))] M10⟩⟩⟩
  ⟨Q .normal [(6, (.bool false))] M⟩⟩⟩
  ⟨Q .normal [(6, (.bool false))] M⟩⟩
theorem e8_12 (P : Program) (Q : Exit → Slots → Mem → Prop) (s : Slots) (M : Mem) : wpC P c8_12 Q s M = w8_12 P Q M (sget s 7) (sget s 8) (sget s 9) (sget s 10) := by kernel_rfl
def c8_13 : ACode := (.seq c8_12 .ret)
def c8_14 : ACode := (.seq c8_10 c8_13)
def c8_15 : ACode := (.seq c8_8 c8_14)
def c8_16 : ACode := (.seq c8_6 c8_15)
def c8_17 : ACode := (.seq c8_1 c8_16)
def fn_transitlaw35_FareVerifies : AFn := ⟨46, [(.tmp 6)], c8_17⟩
theorem fn_transitlaw35_FareVerifies_ok : resFn PR h_transitlaw35_FareVerifies i_transitlaw35_FareVerifies = some fn_transitlaw35_FareVerifies := by kernel_rfl

def h_transitlaw35_FareMinimal : Hints := ⟨[(0, [1, 2, 3]), (1, [1, 2, 3, 24]), (2, [6]), (3, [1, 2, 3, 7, 8, 9]), (4, [1, 3, 7, 8, 9, 10, 11]), (5, [1, 3, 7, 8, 10, 11, 41]), (6, [6]), (7, [3, 7, 8, 10, 11, 12, 13]), (8, [7, 10, 11, 12, 13, 14, 15]), (9, [6])], [], []⟩
def o9_0 : List AOper := [⟨some 3, (.box 4 (.tmp 0)), false, none⟩,
  ⟨some 6, (.mov (.const (.bool false))), true, none⟩]
def c9_1 : ACode := (.region o9_0 [1, 2, 3])
def w9_1 (_P : Program) (Q : Exit → Slots → Mem → Prop) (M : Mem) (v0 : V) (v1 : V) (v2 : V) : Prop :=
  @OptMH (boxV 4 v0 M) ⟨fun t3_1 M1 =>
  Q .normal [(1, v1), (2, v2), (3, t3_1)] M1⟩
theorem e9_1 (P : Program) (Q : Exit → Slots → Mem → Prop) (s : Slots) (M : Mem) : wpC P c9_1 Q s M = w9_1 P Q M (sget s 0) (sget s 1) (sget s 2) := by kernel_rfl
def o9_2 : List AOper := [⟨some 25, (.call i_transitlaw35_exampleHolds []), true, none⟩,
  ⟨some 6, (.mov (.tmp 25)), true, none⟩]
def c9_3 : ACode := (.region o9_2 [6])
def w9_3 (P : Program) (Q : Exit → Slots → Mem → Prop) (M : Mem) : Prop :=
  @CallH P i_transitlaw35_exampleHolds [] M ⟨fun t25_1 M1 => @OptBH (some t25_1) ⟨fun b25_1 =>
  Q .normal [(6, (.bool b25_1))] M1⟩⟩
theorem e9_3 (P : Program) (Q : Exit → Slots → Mem → Prop) (s : Slots) (M : Mem) : wpC P c9_3 Q s M = w9_3 P Q M := by kernel_rfl
def c9_4 : ACode := (.seq c9_3 .ret)
def o9_5 : List AOper := [⟨some 16, (.load 4 true (.tmp 3)), false, none⟩,
  ⟨some 17, (.mov (.tmp 1)), false, none⟩,
  ⟨some 18, (.call i_transitlaw35_small [(.tmp 16), (.tmp 17)]), true, none⟩,
  ⟨some 19, (.un .not (.tmp 18)), true, none⟩,
  ⟨some 20, (.mov (.tmp 19)), true, none⟩,
  ⟨some 21, (.mov (.tmp 2)), false, some (20, false)⟩,
  ⟨some 22, (.lenSl (.tmp 21)), false, some (20, false)⟩,
  ⟨some 23, (.bin .gtr .none (.tmp 22) (.const (.int .i64 40))), true, some (20, false)⟩,
  ⟨some 24, (.pick (.tmp 20) (.const (.bool true)) (.tmp 23)), true, none⟩]
def c9_6 : ACode := (.seq (.region o9_5 [1, 2, 3, 24]) (.cond (.tmp 24) c9_4 .skip))
def w9_6 (P : Program) (Q : Exit → Slots → Mem → Prop) (M : Mem) (v1 : V) (v2 : V) (v3 : V) : Prop :=
  @OptVH (loadV 4 true v3 M) ⟨fun t16_1 =>
  @CallH P i_transitlaw35_small [t16_1, v1] M ⟨fun t18_3 M3 => @OptBH (some t18_3) ⟨fun b18_3 =>
  @OptBH (unV .not (.bool b18_3)) ⟨fun b19_4 =>
  @BIfH b19_4
  ⟨wpC P c9_4 Q [(1, v1), (2, v2), (3, v3), (24, (.bool true))] M3⟩
  ⟨@OptVH (lenV v2 M3) ⟨fun t22_8 =>
  @OptBH (binV .gtr .none t22_8 (.int .i64 40)) ⟨fun b23_9 =>
  @BIfH b23_9
  ⟨wpC P c9_4 Q [(1, v1), (2, v2), (3, v3), (24, (.bool b23_9))] M3⟩
  ⟨Q .normal [(1, v1), (2, v2), (3, v3), (24, (.bool b23_9))] M3⟩⟩⟩⟩⟩⟩⟩⟩
theorem e9_6 (P : Program) (Q : Exit → Slots → Mem → Prop) (s : Slots) (M : Mem) : wpC P c9_6 Q s M = w9_6 P Q M (sget s 1) (sget s 2) (sget s 3) := by kernel_rfl
def o9_7 : List AOper := [⟨some 27, (.load 4 true (.tmp 3)), false, none⟩,
  ⟨some 28, (.mov (.tmp 1)), false, none⟩,
  ⟨some 29, (.call i_fare_Price [(.tmp 27), (.tmp 28)]), false, none⟩,
  ⟨some 26, (.mov (.tmp 29)), false, none⟩,
  ⟨some 30, (.extract (.tmp 26) 0), false, none⟩,
  ⟨some 31, (.extract (.tmp 26) 1), false, none⟩,
  ⟨some 32, (.extract (.tmp 26) 2), false, none⟩,
  ⟨some 7, (.mov (.tmp 30)), false, none⟩,
  ⟨some 8, (.mov (.tmp 31)), false, none⟩,
  ⟨some 9, (.mov (.tmp 32)), false, none⟩]
def c9_8 : ACode := (.region o9_7 [1, 2, 3, 7, 8, 9])
def w9_8 (P : Program) (Q : Exit → Slots → Mem → Prop) (M : Mem) (v1 : V) (v2 : V) (v3 : V) : Prop :=
  @OptVH (loadV 4 true v3 M) ⟨fun t27_1 =>
  @CallH P i_fare_Price [t27_1, v1] M ⟨fun t29_3 M3 =>
  @OptVH (extractV t29_3 0) ⟨fun t30_5 =>
  @OptVH (extractV t29_3 1) ⟨fun t31_6 =>
  @OptVH (extractV t29_3 2) ⟨fun t32_7 =>
  Q .normal [(1, v1), (2, v2), (3, v3), (7, t30_5), (8, t31_6), (9, t32_7)] M3⟩⟩⟩⟩⟩
theorem e9_8 (P : Program) (Q : Exit → Slots → Mem → Prop) (s : Slots) (M : Mem) : wpC P c9_8 Q s M = w9_8 P Q M (sget s 1) (sget s 2) (sget s 3) := by kernel_rfl
def o9_9 : List AOper := [⟨some 34, (.load 4 true (.tmp 3)), false, none⟩,
  ⟨some 35, (.mov (.tmp 1)), false, none⟩,
  ⟨some 36, (.mov (.tmp 2)), false, none⟩,
  ⟨some 37, (.call i_fare_Verify [(.tmp 34), (.tmp 35), (.tmp 36)]), false, none⟩,
  ⟨some 33, (.mov (.tmp 37)), false, none⟩,
  ⟨some 38, (.extract (.tmp 33) 0), false, none⟩,
  ⟨some 39, (.extract (.tmp 33) 1), false, none⟩,
  ⟨some 10, (.mov (.tmp 38)), false, none⟩,
  ⟨some 11, (.mov (.tmp 39)), false, none⟩]
def c9_10 : ACode := (.region o9_9 [1, 3, 7, 8, 9, 10, 11])
def w9_10 (P : Program) (Q : Exit → Slots → Mem → Prop) (M : Mem) (v1 : V) (v2 : V) (v3 : V) (v7 : V) (v8 : V) (v9 : V) : Prop :=
  @OptVH (loadV 4 true v3 M) ⟨fun t34_1 =>
  @CallH P i_fare_Verify [t34_1, v1, v2] M ⟨fun t37_4 M4 =>
  @OptVH (extractV t37_4 0) ⟨fun t38_6 =>
  @OptVH (extractV t37_4 1) ⟨fun t39_7 =>
  Q .normal [(1, v1), (3, v3), (7, v7), (8, v8), (9, v9), (10, t38_6), (11, t39_7)] M4⟩⟩⟩⟩
theorem e9_10 (P : Program) (Q : Exit → Slots → Mem → Prop) (s : Slots) (M : Mem) : wpC P c9_10 Q s M = w9_10 P Q M (sget s 1) (sget s 2) (sget s 3) (sget s 7) (sget s 8) (sget s 9) := by kernel_rfl
def o9_11 : List AOper := [⟨some 42, (.mov (.tmp 11)), false, none⟩,
  ⟨some 43, (.bin .neq .none (.tmp 42) (.const (.int .i64 0))), true, none⟩,
  ⟨some 44, (.mov (.tmp 43)), true, none⟩,
  ⟨some 45, (.call i_transitlaw35_exampleHolds []), true, some (44, true)⟩,
  ⟨some 46, (.pick (.tmp 44) (.tmp 45) (.const (.bool false))), true, none⟩,
  ⟨some 6, (.mov (.tmp 46)), true, none⟩]
def c9_12 : ACode := (.region o9_11 [6])
def w9_12 (P : Program) (Q : Exit → Slots → Mem → Prop) (M : Mem) (v11 : V) : Prop :=
  @OptBH (binV .neq .none v11 (.int .i64 0)) ⟨fun b43_2 =>
  @BIfH b43_2
  ⟨@CallH P i_transitlaw35_exampleHolds [] M ⟨fun t45_4 M4 => @OptBH (some t45_4) ⟨fun b45_4 =>
  Q .normal [(6, (.bool b45_4))] M4⟩⟩⟩
  ⟨Q .normal [(6, (.bool false))] M⟩⟩
theorem e9_12 (P : Program) (Q : Exit → Slots → Mem → Prop) (s : Slots) (M : Mem) : wpC P c9_12 Q s M = w9_12 P Q M (sget s 11) := by kernel_rfl
def c9_13 : ACode := (.seq c9_12 .ret)
def o9_14 : List AOper := [⟨some 40, (.mov (.tmp 9)), false, none⟩,
  ⟨some 41, (.bin .neq .none (.tmp 40) (.const (.int .i64 0))), true, none⟩]
def c9_15 : ACode := (.seq (.region o9_14 [1, 3, 7, 8, 10, 11, 41]) (.cond (.tmp 41) c9_13 .skip))
def w9_15 (P : Program) (Q : Exit → Slots → Mem → Prop) (M : Mem) (v1 : V) (v3 : V) (v7 : V) (v8 : V) (v9 : V) (v10 : V) (v11 : V) : Prop :=
  @OptBH (binV .neq .none v9 (.int .i64 0)) ⟨fun b41_2 =>
  @BIfH b41_2
  ⟨wpC P c9_13 Q [(1, v1), (3, v3), (7, v7), (8, v8), (10, v10), (11, v11), (41, (.bool b41_2))] M⟩
  ⟨Q .normal [(1, v1), (3, v3), (7, v7), (8, v8), (10, v10), (11, v11), (41, (.bool b41_2))] M⟩⟩
theorem e9_15 (P : Program) (Q : Exit → Slots → Mem → Prop) (s : Slots) (M : Mem) : wpC P c9_15 Q s M = w9_15 P Q M (sget s 1) (sget s 3) (sget s 7) (sget s 8) (sget s 9) (sget s 10) (sget s 11) := by kernel_rfl
def o9_16 : List AOper := [⟨some 48, (.load 4 true (.tmp 3)), false, none⟩,
  ⟨some 49, (.mov (.tmp 1)), false, none⟩,
  ⟨some 50, (.mov (.tmp 8)), false, none⟩,
  ⟨some 51, (.call i_fare_Verify [(.tmp 48), (.tmp 49), (.tmp 50)]), false, none⟩,
  ⟨some 47, (.mov (.tmp 51)), false, none⟩,
  ⟨some 52, (.extract (.tmp 47) 0), false, none⟩,
  ⟨some 53, (.extract (.tmp 47) 1), false, none⟩,
  ⟨some 12, (.mov (.tmp 52)), false, none⟩,
  ⟨some 13, (.mov (.tmp 53)), false, none⟩]
def c9_17 : ACode := (.region o9_16 [3, 7, 8, 10, 11, 12, 13])
def w9_17 (P : Program) (Q : Exit → Slots → Mem → Prop) (M : Mem) (v1 : V) (v3 : V) (v7 : V) (v8 : V) (v10 : V) (v11 : V) : Prop :=
  @OptVH (loadV 4 true v3 M) ⟨fun t48_1 =>
  @CallH P i_fare_Verify [t48_1, v1, v8] M ⟨fun t51_4 M4 =>
  @OptVH (extractV t51_4 0) ⟨fun t52_6 =>
  @OptVH (extractV t51_4 1) ⟨fun t53_7 =>
  Q .normal [(3, v3), (7, v7), (8, v8), (10, v10), (11, v11), (12, t52_6), (13, t53_7)] M4⟩⟩⟩⟩
theorem e9_17 (P : Program) (Q : Exit → Slots → Mem → Prop) (s : Slots) (M : Mem) : wpC P c9_17 Q s M = w9_17 P Q M (sget s 1) (sget s 3) (sget s 7) (sget s 8) (sget s 10) (sget s 11) := by kernel_rfl
def o9_18 : List AOper := [⟨some 55, (.load 4 true (.tmp 3)), false, none⟩,
  ⟨some 56, (.mov (.tmp 8)), false, none⟩,
  ⟨some 57, (.call i_fare_Total [(.tmp 55), (.tmp 56)]), false, none⟩,
  ⟨some 54, (.mov (.tmp 57)), false, none⟩,
  ⟨some 58, (.extract (.tmp 54) 0), false, none⟩,
  ⟨some 59, (.extract (.tmp 54) 1), true, none⟩,
  ⟨some 14, (.mov (.tmp 58)), false, none⟩,
  ⟨some 15, (.mov (.tmp 59)), true, none⟩]
def c9_19 : ACode := (.region o9_18 [7, 10, 11, 12, 13, 14, 15])
def w9_19 (P : Program) (Q : Exit → Slots → Mem → Prop) (M : Mem) (v3 : V) (v7 : V) (v8 : V) (v10 : V) (v11 : V) (v12 : V) (v13 : V) : Prop :=
  @OptVH (loadV 4 true v3 M) ⟨fun t55_1 =>
  @CallH P i_fare_Total [t55_1, v8] M ⟨fun t57_3 M3 =>
  @OptVH (extractV t57_3 0) ⟨fun t58_5 =>
  @OptBH (extractV t57_3 1) ⟨fun b59_6 =>
  Q .normal [(7, v7), (10, v10), (11, v11), (12, v12), (13, v13), (14, t58_5), (15, (.bool b59_6))] M3⟩⟩⟩⟩
theorem e9_19 (P : Program) (Q : Exit → Slots → Mem → Prop) (s : Slots) (M : Mem) : wpC P c9_19 Q s M = w9_19 P Q M (sget s 3) (sget s 7) (sget s 8) (sget s 10) (sget s 11) (sget s 12) (sget s 13) := by kernel_rfl
def o9_20 : List AOper := [⟨some 60, (.mov (.tmp 13)), false, none⟩,
  ⟨some 61, (.bin .eql .none (.tmp 60) (.const (.int .i64 0))), true, none⟩,
  ⟨some 62, (.mov (.tmp 61)), true, none⟩,
  ⟨some 63, (.mov (.tmp 12)), false, some (62, true)⟩,
  ⟨some 64, (.mov (.tmp 7)), false, some (62, true)⟩,
  ⟨some 65, (.bin .eql .none (.tmp 63) (.tmp 64)), true, some (62, true)⟩,
  ⟨some 66, (.pick (.tmp 62) (.tmp 65) (.const (.bool false))), true, none⟩,
  ⟨some 67, (.mov (.tmp 66)), true, none⟩,
  ⟨some 68, (.mov (.tmp 15)), true, some (67, true)⟩,
  ⟨some 69, (.pick (.tmp 67) (.tmp 68) (.const (.bool false))), true, none⟩,
  ⟨some 70, (.mov (.tmp 69)), true, none⟩,
  ⟨some 71, (.mov (.tmp 14)), false, some (70, true)⟩,
  ⟨some 72, (.mov (.tmp 7)), false, some (70, true)⟩,
  ⟨some 73, (.bin .eql .none (.tmp 71) (.tmp 72)), true, some (70, true)⟩,
  ⟨some 74, (.pick (.tmp 70) (.tmp 73) (.const (.bool false))), true, none⟩,
  ⟨some 75, (.mov (.tmp 74)), true, none⟩,
  ⟨some 76, (.mov (.tmp 11)), false, some (75, true)⟩,
  ⟨some 77, (.bin .neq .none (.tmp 76) (.const (.int .i64 0))), true, some (75, true)⟩,
  ⟨some 78, (.mov (.tmp 77)), true, some (75, true)⟩,
  ⟨some 79, (.mov (.tmp 10)), false, some (78, false)⟩,
  ⟨some 80, (.mov (.tmp 7)), false, some (78, false)⟩,
  ⟨some 81, (.bin .geq .none (.tmp 79) (.tmp 80)), true, some (78, false)⟩,
  ⟨some 82, (.pick (.tmp 78) (.const (.bool true)) (.tmp 81)), true, some (75, true)⟩,
  ⟨some 83, (.pick (.tmp 75) (.tmp 82) (.const (.bool false))), true, none⟩,
  ⟨some 84, (.mov (.tmp 83)), true, none⟩,
  ⟨some 85, (.call i_transitlaw35_exampleHolds []), true, some (84, true)⟩,
  ⟨some 86, (.pick (.tmp 84) (.tmp 85) (.const (.bool false))), true, none⟩,
  ⟨some 6, (.mov (.tmp 86)), true, none⟩]
def c9_21 : ACode := (.region o9_20 [6])
def w9_21 (P : Program) (Q : Exit → Slots → Mem → Prop) (M : Mem) (v7 : V) (v10 : V) (v11 : V) (v12 : V) (v13 : V) (v14 : V) (v15 : V) : Prop :=
  @OptBH (binV .eql .none v13 (.int .i64 0)) ⟨fun b61_2 =>
  @BIfH b61_2
  ⟨@OptBH (binV .eql .none v12 v7) ⟨fun b65_6 =>
  @BIfH b65_6
  ⟨@OptBH (some v15) ⟨fun b68_9 =>
  @BIfH b68_9
  ⟨@OptBH (binV .eql .none v14 v7) ⟨fun b73_14 =>
  @BIfH b73_14
  ⟨@OptBH (binV .neq .none v11 (.int .i64 0)) ⟨fun b77_18 =>
  @BIfH b77_18
  ⟨@CallH P i_transitlaw35_exampleHolds [] M ⟨fun t85_23 M23 => @OptBH (some t85_23) ⟨fun b85_23 =>
  Q .normal [(6, (.bool b85_23))] M23⟩⟩⟩
  ⟨@OptBH (binV .geq .none v10 v7) ⟨fun b81_28 =>
  @BIfH b81_28
  ⟨@CallH P i_transitlaw35_exampleHolds [] M ⟨fun t85_32 M32 => @OptBH (some t85_32) ⟨fun b85_32 =>
  Q .normal [(6, (.bool b85_32))] M32⟩⟩⟩
  ⟨Q .normal [(6, (.bool false))] M⟩⟩⟩⟩⟩
  ⟨Q .normal [(6, (.bool false))] M⟩⟩⟩
  ⟨Q .normal [(6, (.bool false))] M⟩⟩⟩
  ⟨Q .normal [(6, (.bool false))] M⟩⟩⟩
  ⟨Q .normal [(6, (.bool false))] M⟩⟩
theorem e9_21 (P : Program) (Q : Exit → Slots → Mem → Prop) (s : Slots) (M : Mem) : wpC P c9_21 Q s M = w9_21 P Q M (sget s 7) (sget s 10) (sget s 11) (sget s 12) (sget s 13) (sget s 14) (sget s 15) := by kernel_rfl
def c9_22 : ACode := (.seq c9_21 .ret)
def c9_23 : ACode := (.seq c9_19 c9_22)
def c9_24 : ACode := (.seq c9_17 c9_23)
def c9_25 : ACode := (.seq c9_15 c9_24)
def c9_26 : ACode := (.seq c9_10 c9_25)
def c9_27 : ACode := (.seq c9_8 c9_26)
def c9_28 : ACode := (.seq c9_6 c9_27)
def c9_29 : ACode := (.seq c9_1 c9_28)
def fn_transitlaw35_FareMinimal : AFn := ⟨87, [(.tmp 6)], c9_29⟩
theorem fn_transitlaw35_FareMinimal_ok : resFn PR h_transitlaw35_FareMinimal i_transitlaw35_FareMinimal = some fn_transitlaw35_FareMinimal := by kernel_rfl

def h_transitlaw35_small : Hints := ⟨[(0, [1, 2]), (1, [2, 15]), (2, [4]), (3, [17, 18, 19]), (4, [17, 18, 19, 20]), (5, [6, 17, 18, 19]), (6, [17, 18, 19, 26]), (7, [4]), (8, [17, 18, 19]), (9, [4])], [(4, [17, 18, 19])], []⟩
def o10_0 : List AOper := [⟨some 2, (.box 4 (.tmp 0)), false, none⟩,
  ⟨some 4, (.mov (.const (.bool false))), true, none⟩]
def c10_1 : ACode := (.region o10_0 [1, 2])
def w10_1 (_P : Program) (Q : Exit → Slots → Mem → Prop) (M : Mem) (v0 : V) (v1 : V) : Prop :=
  @OptMH (boxV 4 v0 M) ⟨fun t2_1 M1 =>
  Q .normal [(1, v1), (2, t2_1)] M1⟩
theorem e10_1 (P : Program) (Q : Exit → Slots → Mem → Prop) (s : Slots) (M : Mem) : wpC P c10_1 Q s M = w10_1 P Q M (sget s 0) (sget s 1) := by kernel_rfl
def o10_2 : List AOper := [⟨some 4, (.mov (.const (.bool false))), true, none⟩]
def c10_3 : ACode := (.region o10_2 [4])
def w10_3 (_P : Program) (Q : Exit → Slots → Mem → Prop) (M : Mem) : Prop :=
  Q .normal [(4, (.bool false))] M
theorem e10_3 (P : Program) (Q : Exit → Slots → Mem → Prop) (s : Slots) (M : Mem) : wpC P c10_3 Q s M = w10_3 P Q M := by kernel_rfl
def c10_4 : ACode := (.seq c10_3 .ret)
def o10_5 : List AOper := [⟨some 7, (.fieldAddr 0 (.tmp 2)), false, none⟩,
  ⟨some 8, (.load 1 false (.tmp 7)), false, none⟩,
  ⟨some 9, (.lenSl (.tmp 8)), false, none⟩,
  ⟨some 10, (.bin .gtr .none (.tmp 9) (.const (.int .i64 40))), true, none⟩,
  ⟨some 11, (.mov (.tmp 10)), true, none⟩,
  ⟨some 12, (.mov (.tmp 1)), false, some (11, false)⟩,
  ⟨some 13, (.lenSl (.tmp 12)), false, some (11, false)⟩,
  ⟨some 14, (.bin .gtr .none (.tmp 13) (.const (.int .i64 40))), true, some (11, false)⟩,
  ⟨some 15, (.pick (.tmp 11) (.const (.bool true)) (.tmp 14)), true, none⟩]
def c10_6 : ACode := (.seq (.region o10_5 [2, 15]) (.cond (.tmp 15) c10_4 .skip))
def w10_6 (P : Program) (Q : Exit → Slots → Mem → Prop) (M : Mem) (v1 : V) (v2 : V) : Prop :=
  @OptVH (moveV 0 v2) ⟨fun t7_1 =>
  @OptVH (loadV 1 false t7_1 M) ⟨fun t8_2 =>
  @OptVH (lenV t8_2 M) ⟨fun t9_3 =>
  @OptBH (binV .gtr .none t9_3 (.int .i64 40)) ⟨fun b10_4 =>
  @BIfH b10_4
  ⟨wpC P c10_4 Q [(2, v2), (15, (.bool true))] M⟩
  ⟨@OptVH (lenV v1 M) ⟨fun t13_8 =>
  @OptBH (binV .gtr .none t13_8 (.int .i64 40)) ⟨fun b14_9 =>
  @BIfH b14_9
  ⟨wpC P c10_4 Q [(2, v2), (15, (.bool b14_9))] M⟩
  ⟨Q .normal [(2, v2), (15, (.bool b14_9))] M⟩⟩⟩⟩⟩⟩⟩⟩
theorem e10_6 (P : Program) (Q : Exit → Slots → Mem → Prop) (s : Slots) (M : Mem) : wpC P c10_6 Q s M = w10_6 P Q M (sget s 1) (sget s 2) := by kernel_rfl
def o10_7 : List AOper := [⟨some 16, (.fieldAddr 0 (.tmp 2)), false, none⟩,
  ⟨some 17, (.load 1 false (.tmp 16)), false, none⟩,
  ⟨some 18, (.lenSl (.tmp 17)), false, none⟩,
  ⟨some 19, (.mov (.const (.int .i64 0))), false, none⟩]
def c10_8 : ACode := (.region o10_7 [17, 18, 19])
def w10_8 (_P : Program) (Q : Exit → Slots → Mem → Prop) (M : Mem) (v2 : V) : Prop :=
  @OptVH (moveV 0 v2) ⟨fun t16_1 =>
  @OptVH (loadV 1 false t16_1 M) ⟨fun t17_2 =>
  @OptVH (lenV t17_2 M) ⟨fun t18_3 =>
  Q .normal [(17, t17_2), (18, t18_3), (19, (.int .i64 0))] M⟩⟩⟩
theorem e10_8 (P : Program) (Q : Exit → Slots → Mem → Prop) (s : Slots) (M : Mem) : wpC P c10_8 Q s M = w10_8 P Q M (sget s 2) := by kernel_rfl
def o10_9 : List AOper := [⟨some 20, (.bin .lss .none (.tmp 19) (.tmp 18)), false, none⟩]
def c10_10 : ACode := (.region o10_9 [17, 18, 19, 20])
def w10_10 (_P : Program) (Q : Exit → Slots → Mem → Prop) (M : Mem) (v17 : V) (v18 : V) (v19 : V) : Prop :=
  @OptVH (binV .lss .none v19 v18) ⟨fun t20_1 =>
  Q .normal [(17, v17), (18, v18), (19, v19), (20, t20_1)] M⟩
theorem e10_10 (P : Program) (Q : Exit → Slots → Mem → Prop) (s : Slots) (M : Mem) : wpC P c10_10 Q s M = w10_10 P Q M (sget s 17) (sget s 18) (sget s 19) := by kernel_rfl
def c10_11 : ACode := (.cond (.tmp 20) .skip (.exit 0))
def o10_12 : List AOper := [⟨some 21, (.indexSl 6 (.tmp 17) (.tmp 19)), false, none⟩,
  ⟨some 22, (.load 6 true (.tmp 21)), false, none⟩,
  ⟨some 6, (.alloc [(.str []), (.int .i64 0), (.int .i64 0), (.int .i64 0), (.int .i64 0), (.int .i64 0)]), false, none⟩,
  ⟨none, (.store 6 (.tmp 6) (.tmp 22)), false, none⟩]
def c10_13 : ACode := (.region o10_12 [6, 17, 18, 19])
def w10_13 (_P : Program) (Q : Exit → Slots → Mem → Prop) (M : Mem) (v17 : V) (v18 : V) (v19 : V) : Prop :=
  @OptVH (indexSlV 6 v17 v19 M) ⟨fun t21_1 =>
  @OptVH (loadV 6 true t21_1 M) ⟨fun t22_2 =>
  @OptMH (allocV [(.str []), (.int .i64 0), (.int .i64 0), (.int .i64 0), (.int .i64 0), (.int .i64 0)] M) ⟨fun t6_3 M3 =>
  @OptMH (storeVM 6 t6_3 t22_2 M3) ⟨fun _tx_4 M4 =>
  Q .normal [(6, t6_3), (17, v17), (18, v18), (19, v19)] M4⟩⟩⟩⟩
theorem e10_13 (P : Program) (Q : Exit → Slots → Mem → Prop) (s : Slots) (M : Mem) : wpC P c10_13 Q s M = w10_13 P Q M (sget s 17) (sget s 18) (sget s 19) := by kernel_rfl
def o10_14 : List AOper := [⟨some 4, (.mov (.const (.bool false))), true, none⟩]
def c10_15 : ACode := (.region o10_14 [4])
def w10_15 (_P : Program) (Q : Exit → Slots → Mem → Prop) (M : Mem) : Prop :=
  Q .normal [(4, (.bool false))] M
theorem e10_15 (P : Program) (Q : Exit → Slots → Mem → Prop) (s : Slots) (M : Mem) : wpC P c10_15 Q s M = w10_15 P Q M := by kernel_rfl
def c10_16 : ACode := (.seq c10_15 .ret)
def o10_17 : List AOper := [⟨some 23, (.fieldAddr 0 (.tmp 6)), false, none⟩,
  ⟨some 24, (.load 1 false (.tmp 23)), false, none⟩,
  ⟨some 25, (.lenStr (.tmp 24)), false, none⟩,
  ⟨some 26, (.bin .gtr .none (.tmp 25) (.const (.int .i64 256))), true, none⟩]
def c10_18 : ACode := (.seq (.region o10_17 [17, 18, 19, 26]) (.cond (.tmp 26) c10_16 .skip))
def w10_18 (P : Program) (Q : Exit → Slots → Mem → Prop) (M : Mem) (v6 : V) (v17 : V) (v18 : V) (v19 : V) : Prop :=
  @OptVH (moveV 0 v6) ⟨fun t23_1 =>
  @OptVH (loadV 1 false t23_1 M) ⟨fun t24_2 =>
  @OptVH (lenStrV t24_2) ⟨fun t25_3 =>
  @OptBH (binV .gtr .none t25_3 (.int .i64 256)) ⟨fun b26_4 =>
  @BIfH b26_4
  ⟨wpC P c10_16 Q [(17, v17), (18, v18), (19, v19), (26, (.bool b26_4))] M⟩
  ⟨Q .normal [(17, v17), (18, v18), (19, v19), (26, (.bool b26_4))] M⟩⟩⟩⟩⟩
theorem e10_18 (P : Program) (Q : Exit → Slots → Mem → Prop) (s : Slots) (M : Mem) : wpC P c10_18 Q s M = w10_18 P Q M (sget s 6) (sget s 17) (sget s 18) (sget s 19) := by kernel_rfl
def c10_19 : ACode := (.seq c10_13 c10_18)
def c10_20 : ACode := (.block 1 c10_19)
def o10_21 : List AOper := [⟨some 27, (.bin .add .none (.tmp 19) (.const (.int .i64 1))), false, none⟩,
  ⟨some 19, (.mov (.tmp 27)), false, none⟩]
def c10_22 : ACode := (.region o10_21 [17, 18, 19])
def w10_22 (_P : Program) (Q : Exit → Slots → Mem → Prop) (M : Mem) (v17 : V) (v18 : V) (v19 : V) : Prop :=
  @OptVH (binV .add .none v19 (.int .i64 1)) ⟨fun t27_1 =>
  Q .normal [(17, v17), (18, v18), (19, t27_1)] M⟩
theorem e10_22 (P : Program) (Q : Exit → Slots → Mem → Prop) (s : Slots) (M : Mem) : wpC P c10_22 Q s M = w10_22 P Q M (sget s 17) (sget s 18) (sget s 19) := by kernel_rfl
def c10_23 : ACode := (.seq c10_20 c10_22)
def c10_24 : ACode := (.seq c10_11 c10_23)
def c10_25 : ACode := (.seq c10_10 c10_24)
def c10_26 : ACode := (.loop [17, 18, 19] c10_25)
def c10_27 : ACode := (.block 0 c10_26)
def c10_28 : ACode := (.seq c10_8 c10_27)
def o10_29 : List AOper := [⟨some 4, (.mov (.const (.bool true))), true, none⟩]
def c10_30 : ACode := (.region o10_29 [4])
def w10_30 (_P : Program) (Q : Exit → Slots → Mem → Prop) (M : Mem) : Prop :=
  Q .normal [(4, (.bool true))] M
theorem e10_30 (P : Program) (Q : Exit → Slots → Mem → Prop) (s : Slots) (M : Mem) : wpC P c10_30 Q s M = w10_30 P Q M := by kernel_rfl
def c10_31 : ACode := (.seq c10_30 .ret)
def c10_32 : ACode := (.seq c10_28 c10_31)
def c10_33 : ACode := (.seq c10_6 c10_32)
def c10_34 : ACode := (.seq c10_1 c10_33)
def fn_transitlaw35_small : AFn := ⟨28, [(.tmp 4)], c10_34⟩
theorem fn_transitlaw35_small_ok : resFn PR h_transitlaw35_small i_transitlaw35_small = some fn_transitlaw35_small := by kernel_rfl

def h_transitlaw35_exampleHolds : Hints := ⟨[(0, []), (1, [1]), (2, [1, 2]), (3, [1, 2, 3]), (4, [1, 3, 4, 5, 6]), (5, [1, 3, 4, 5, 6, 7, 8, 9]), (6, [1, 3, 4, 5, 6, 7, 8, 9]), (7, [4, 5, 6, 7, 8, 9, 10, 12]), (8, [0])], [], []⟩
def o11_0 : List AOper := [⟨some 0, (.mov (.const (.bool false))), true, none⟩]
def c11_1 : ACode := (.region o11_0 [])
def w11_1 (_P : Program) (Q : Exit → Slots → Mem → Prop) (M : Mem) : Prop :=
  Q .normal [] M
theorem e11_1 (P : Program) (Q : Exit → Slots → Mem → Prop) (s : Slots) (M : Mem) : wpC P c11_1 Q s M = w11_1 P Q M := by kernel_rfl
def o11_2 : List AOper := [⟨some 13, (.build [(.str []), (.int .i64 0), (.int .i64 0), (.int .i64 0), (.int .i64 0), (.int .i64 0)] [(0, (1, (.const (.str [115, 105, 110, 103, 108, 101])))), (1, (1, (.const (.int .i64 200)))), (2, (1, (.const (.int .i64 1)))), (3, (1, (.const (.int .i64 16)))), (5, (1, (.const (.int .i64 255))))]), false, none⟩,
  ⟨some 14, (.build [(.str []), (.int .i64 0), (.int .i64 0), (.int .i64 0), (.int .i64 0), (.int .i64 0)] [(0, (1, (.const (.str [112, 97, 115, 115])))), (1, (1, (.const (.int .i64 350)))), (2, (1, (.const (.int .i64 3)))), (3, (1, (.const (.int .i64 16)))), (4, (1, (.const (.int .i64 3600)))), (5, (1, (.const (.int .i64 255))))]), false, none⟩,
  ⟨some 15, (.buildSlice [(.str []), (.int .i64 0), (.int .i64 0), (.int .i64 0), (.int .i64 0), (.int .i64 0), (.str []), (.int .i64 0), (.int .i64 0), (.int .i64 0), (.int .i64 0), (.int .i64 0)] 6 2 [(0, (6, (.tmp 13))), (6, (6, (.tmp 14)))]), false, none⟩,
  ⟨some 16, (.build [(.slice [] .nil), (.int .i64 0), (.int .i64 0), (.int .i64 0)] [(0, (1, (.tmp 15)))]), false, none⟩,
  ⟨some 1, (.alloc [(.slice [] .nil), (.int .i64 0), (.int .i64 0), (.int .i64 0)]), false, none⟩,
  ⟨none, (.store 4 (.tmp 1) (.tmp 16)), false, none⟩]
def c11_3 : ACode := (.region o11_2 [1])
def w11_3 (_P : Program) (Q : Exit → Slots → Mem → Prop) (M : Mem) : Prop :=
  @OptVH (buildV [(.str []), (.int .i64 0), (.int .i64 0), (.int .i64 0), (.int .i64 0), (.int .i64 0)] [(0, 1, (.str [115, 105, 110, 103, 108, 101])), (1, 1, (.int .i64 200)), (2, 1, (.int .i64 1)), (3, 1, (.int .i64 16)), (5, 1, (.int .i64 255))]) ⟨fun t13_1 =>
  @OptVH (buildV [(.str []), (.int .i64 0), (.int .i64 0), (.int .i64 0), (.int .i64 0), (.int .i64 0)] [(0, 1, (.str [112, 97, 115, 115])), (1, 1, (.int .i64 350)), (2, 1, (.int .i64 3)), (3, 1, (.int .i64 16)), (4, 1, (.int .i64 3600)), (5, 1, (.int .i64 255))]) ⟨fun t14_2 =>
  @OptVH (buildSliceV [(.str []), (.int .i64 0), (.int .i64 0), (.int .i64 0), (.int .i64 0), (.int .i64 0), (.str []), (.int .i64 0), (.int .i64 0), (.int .i64 0), (.int .i64 0), (.int .i64 0)] 6 2 [(0, 6, t13_1), (6, 6, t14_2)]) ⟨fun t15_3 =>
  @OptVH (buildV [(.slice [] .nil), (.int .i64 0), (.int .i64 0), (.int .i64 0)] [(0, 1, t15_3)]) ⟨fun t16_4 =>
  @OptMH (allocV [(.slice [] .nil), (.int .i64 0), (.int .i64 0), (.int .i64 0)] M) ⟨fun t1_5 M5 =>
  @OptMH (storeVM 4 t1_5 t16_4 M5) ⟨fun _tx_6 M6 =>
  Q .normal [(1, t1_5)] M6⟩⟩⟩⟩⟩⟩
theorem e11_3 (P : Program) (Q : Exit → Slots → Mem → Prop) (s : Slots) (M : Mem) : wpC P c11_3 Q s M = w11_3 P Q M := by kernel_rfl
def o11_4 : List AOper := [⟨some 17, (.build [(.int .i64 0), (.int .i64 0), (.int .i64 0), (.int .i64 0)] [(0, (1, (.const (.int .i64 1000)))), (1, (1, (.const (.int .i64 1200)))), (2, (1, (.const (.int .i64 1)))), (3, (1, (.const (.int .i64 1))))]), false, none⟩,
  ⟨some 18, (.build [(.int .i64 0), (.int .i64 0), (.int .i64 0), (.int .i64 0)] [(0, (1, (.const (.int .i64 2800)))), (1, (1, (.const (.int .i64 3000)))), (2, (1, (.const (.int .i64 2)))), (3, (1, (.const (.int .i64 8))))]), false, none⟩,
  ⟨some 19, (.buildSlice [(.int .i64 0), (.int .i64 0), (.int .i64 0), (.int .i64 0), (.int .i64 0), (.int .i64 0), (.int .i64 0), (.int .i64 0)] 4 2 [(0, (4, (.tmp 17))), (4, (4, (.tmp 18)))]), false, none⟩,
  ⟨some 2, (.mov (.tmp 19)), false, none⟩]
def c11_5 : ACode := (.region o11_4 [1, 2])
def w11_5 (_P : Program) (Q : Exit → Slots → Mem → Prop) (M : Mem) (v1 : V) : Prop :=
  @OptVH (buildV [(.int .i64 0), (.int .i64 0), (.int .i64 0), (.int .i64 0)] [(0, 1, (.int .i64 1000)), (1, 1, (.int .i64 1200)), (2, 1, (.int .i64 1)), (3, 1, (.int .i64 1))]) ⟨fun t17_1 =>
  @OptVH (buildV [(.int .i64 0), (.int .i64 0), (.int .i64 0), (.int .i64 0)] [(0, 1, (.int .i64 2800)), (1, 1, (.int .i64 3000)), (2, 1, (.int .i64 2)), (3, 1, (.int .i64 8))]) ⟨fun t18_2 =>
  @OptVH (buildSliceV [(.int .i64 0), (.int .i64 0), (.int .i64 0), (.int .i64 0), (.int .i64 0), (.int .i64 0), (.int .i64 0), (.int .i64 0)] 4 2 [(0, 4, t17_1), (4, 4, t18_2)]) ⟨fun t19_3 =>
  Q .normal [(1, v1), (2, t19_3)] M⟩⟩⟩
theorem e11_5 (P : Program) (Q : Exit → Slots → Mem → Prop) (s : Slots) (M : Mem) : wpC P c11_5 Q s M = w11_5 P Q M (sget s 1) := by kernel_rfl
def o11_6 : List AOper := [⟨some 20, (.build [(.int .i64 0), (.int .i64 0), (.int .i64 0), (.int .i64 0)] [(0, (1, (.const (.int .i64 1000)))), (1, (1, (.const (.int .i64 4301)))), (2, (1, (.const (.int .i64 1)))), (3, (1, (.const (.int .i64 1))))]), false, none⟩,
  ⟨some 21, (.build [(.int .i64 0), (.int .i64 0), (.int .i64 0), (.int .i64 0)] [(0, (1, (.const (.int .i64 4601)))), (1, (1, (.const (.int .i64 4700)))), (2, (1, (.const (.int .i64 2)))), (3, (1, (.const (.int .i64 8))))]), false, none⟩,
  ⟨some 22, (.buildSlice [(.int .i64 0), (.int .i64 0), (.int .i64 0), (.int .i64 0), (.int .i64 0), (.int .i64 0), (.int .i64 0), (.int .i64 0)] 4 2 [(0, (4, (.tmp 20))), (4, (4, (.tmp 21)))]), false, none⟩,
  ⟨some 3, (.mov (.tmp 22)), false, none⟩]
def c11_7 : ACode := (.region o11_6 [1, 2, 3])
def w11_7 (_P : Program) (Q : Exit → Slots → Mem → Prop) (M : Mem) (v1 : V) (v2 : V) : Prop :=
  @OptVH (buildV [(.int .i64 0), (.int .i64 0), (.int .i64 0), (.int .i64 0)] [(0, 1, (.int .i64 1000)), (1, 1, (.int .i64 4301)), (2, 1, (.int .i64 1)), (3, 1, (.int .i64 1))]) ⟨fun t20_1 =>
  @OptVH (buildV [(.int .i64 0), (.int .i64 0), (.int .i64 0), (.int .i64 0)] [(0, 1, (.int .i64 4601)), (1, 1, (.int .i64 4700)), (2, 1, (.int .i64 2)), (3, 1, (.int .i64 8))]) ⟨fun t21_2 =>
  @OptVH (buildSliceV [(.int .i64 0), (.int .i64 0), (.int .i64 0), (.int .i64 0), (.int .i64 0), (.int .i64 0), (.int .i64 0), (.int .i64 0)] 4 2 [(0, 4, t20_1), (4, 4, t21_2)]) ⟨fun t22_3 =>
  Q .normal [(1, v1), (2, v2), (3, t22_3)] M⟩⟩⟩
theorem e11_7 (P : Program) (Q : Exit → Slots → Mem → Prop) (s : Slots) (M : Mem) : wpC P c11_7 Q s M = w11_7 P Q M (sget s 1) (sget s 2) := by kernel_rfl
def o11_8 : List AOper := [⟨some 24, (.load 4 true (.tmp 1)), false, none⟩,
  ⟨some 25, (.mov (.tmp 2)), false, none⟩,
  ⟨some 26, (.call i_fare_Price [(.tmp 24), (.tmp 25)]), false, none⟩,
  ⟨some 23, (.mov (.tmp 26)), false, none⟩,
  ⟨some 27, (.extract (.tmp 23) 0), false, none⟩,
  ⟨some 28, (.extract (.tmp 23) 1), false, none⟩,
  ⟨some 29, (.extract (.tmp 23) 2), false, none⟩,
  ⟨some 4, (.mov (.tmp 27)), false, none⟩,
  ⟨some 5, (.mov (.tmp 28)), false, none⟩,
  ⟨some 6, (.mov (.tmp 29)), false, none⟩]
def c11_9 : ACode := (.region o11_8 [1, 3, 4, 5, 6])
def w11_9 (P : Program) (Q : Exit → Slots → Mem → Prop) (M : Mem) (v1 : V) (v2 : V) (v3 : V) : Prop :=
  @OptVH (loadV 4 true v1 M) ⟨fun t24_1 =>
  @CallH P i_fare_Price [t24_1, v2] M ⟨fun t26_3 M3 =>
  @OptVH (extractV t26_3 0) ⟨fun t27_5 =>
  @OptVH (extractV t26_3 1) ⟨fun t28_6 =>
  @OptVH (extractV t26_3 2) ⟨fun t29_7 =>
  Q .normal [(1, v1), (3, v3), (4, t27_5), (5, t28_6), (6, t29_7)] M3⟩⟩⟩⟩⟩
theorem e11_9 (P : Program) (Q : Exit → Slots → Mem → Prop) (s : Slots) (M : Mem) : wpC P c11_9 Q s M = w11_9 P Q M (sget s 1) (sget s 2) (sget s 3) := by kernel_rfl
def o11_10 : List AOper := [⟨some 31, (.load 4 true (.tmp 1)), false, none⟩,
  ⟨some 32, (.mov (.tmp 3)), false, none⟩,
  ⟨some 33, (.call i_fare_Price [(.tmp 31), (.tmp 32)]), false, none⟩,
  ⟨some 30, (.mov (.tmp 33)), false, none⟩,
  ⟨some 34, (.extract (.tmp 30) 0), false, none⟩,
  ⟨some 35, (.extract (.tmp 30) 1), false, none⟩,
  ⟨some 36, (.extract (.tmp 30) 2), false, none⟩,
  ⟨some 7, (.mov (.tmp 34)), false, none⟩,
  ⟨some 8, (.mov (.tmp 35)), false, none⟩,
  ⟨some 9, (.mov (.tmp 36)), false, none⟩]
def c11_11 : ACode := (.region o11_10 [1, 3, 4, 5, 6, 7, 8, 9])
def w11_11 (P : Program) (Q : Exit → Slots → Mem → Prop) (M : Mem) (v1 : V) (v3 : V) (v4 : V) (v5 : V) (v6 : V) : Prop :=
  @OptVH (loadV 4 true v1 M) ⟨fun t31_1 =>
  @CallH P i_fare_Price [t31_1, v3] M ⟨fun t33_3 M3 =>
  @OptVH (extractV t33_3 0) ⟨fun t34_5 =>
  @OptVH (extractV t33_3 1) ⟨fun t35_6 =>
  @OptVH (extractV t33_3 2) ⟨fun t36_7 =>
  Q .normal [(1, v1), (3, v3), (4, v4), (5, v5), (6, v6), (7, t34_5), (8, t35_6), (9, t36_7)] M3⟩⟩⟩⟩⟩
theorem e11_11 (P : Program) (Q : Exit → Slots → Mem → Prop) (s : Slots) (M : Mem) : wpC P c11_11 Q s M = w11_11 P Q M (sget s 1) (sget s 3) (sget s 4) (sget s 5) (sget s 6) := by kernel_rfl
def o11_12 : List AOper := [⟨some 37, (.fieldAddr 1 (.tmp 1)), false, none⟩,
  ⟨none, (.store 1 (.tmp 37) (.const (.int .i64 100))), false, none⟩,
  ⟨some 38, (.fieldAddr 2 (.tmp 1)), false, none⟩,
  ⟨none, (.store 1 (.tmp 38) (.const (.int .i64 600))), false, none⟩]
def c11_13 : ACode := (.region o11_12 [1, 3, 4, 5, 6, 7, 8, 9])
def w11_13 (_P : Program) (Q : Exit → Slots → Mem → Prop) (M : Mem) (v1 : V) (v3 : V) (v4 : V) (v5 : V) (v6 : V) (v7 : V) (v8 : V) (v9 : V) : Prop :=
  @OptVH (moveV 1 v1) ⟨fun t37_1 =>
  @OptMH (storeVM 1 t37_1 (.int .i64 100) M) ⟨fun _tx_2 M2 =>
  @OptVH (moveV 2 v1) ⟨fun t38_3 =>
  @OptMH (storeVM 1 t38_3 (.int .i64 600) M2) ⟨fun _tx_4 M4 =>
  Q .normal [(1, v1), (3, v3), (4, v4), (5, v5), (6, v6), (7, v7), (8, v8), (9, v9)] M4⟩⟩⟩⟩
theorem e11_13 (P : Program) (Q : Exit → Slots → Mem → Prop) (s : Slots) (M : Mem) : wpC P c11_13 Q s M = w11_13 P Q M (sget s 1) (sget s 3) (sget s 4) (sget s 5) (sget s 6) (sget s 7) (sget s 8) (sget s 9) := by kernel_rfl
def o11_14 : List AOper := [⟨some 40, (.load 4 true (.tmp 1)), false, none⟩,
  ⟨some 41, (.mov (.tmp 3)), false, none⟩,
  ⟨some 42, (.call i_fare_Price [(.tmp 40), (.tmp 41)]), false, none⟩,
  ⟨some 39, (.mov (.tmp 42)), false, none⟩,
  ⟨some 43, (.extract (.tmp 39) 0), false, none⟩,
  ⟨some 44, (.extract (.tmp 39) 1), false, none⟩,
  ⟨some 45, (.extract (.tmp 39) 2), false, none⟩,
  ⟨some 10, (.mov (.tmp 43)), false, none⟩,
  ⟨some 11, (.mov (.tmp 44)), false, none⟩,
  ⟨some 12, (.mov (.tmp 45)), false, none⟩]
def c11_15 : ACode := (.region o11_14 [4, 5, 6, 7, 8, 9, 10, 12])
def w11_15 (P : Program) (Q : Exit → Slots → Mem → Prop) (M : Mem) (v1 : V) (v3 : V) (v4 : V) (v5 : V) (v6 : V) (v7 : V) (v8 : V) (v9 : V) : Prop :=
  @OptVH (loadV 4 true v1 M) ⟨fun t40_1 =>
  @CallH P i_fare_Price [t40_1, v3] M ⟨fun t42_3 M3 =>
  @OptVH (extractV t42_3 0) ⟨fun t43_5 =>
  @OptVH (extractV t42_3 1) ⟨fun _t44_6 =>
  @OptVH (extractV t42_3 2) ⟨fun t45_7 =>
  Q .normal [(4, v4), (5, v5), (6, v6), (7, v7), (8, v8), (9, v9), (10, t43_5), (12, t45_7)] M3⟩⟩⟩⟩⟩
theorem e11_15 (P : Program) (Q : Exit → Slots → Mem → Prop) (s : Slots) (M : Mem) : wpC P c11_15 Q s M = w11_15 P Q M (sget s 1) (sget s 3) (sget s 4) (sget s 5) (sget s 6) (sget s 7) (sget s 8) (sget s 9) := by kernel_rfl
def o11_16 : List AOper := [⟨some 46, (.mov (.tmp 6)), false, none⟩,
  ⟨some 47, (.bin .eql .none (.tmp 46) (.const (.int .i64 0))), true, none⟩,
  ⟨some 48, (.mov (.tmp 47)), true, none⟩,
  ⟨some 49, (.mov (.tmp 9)), false, some (48, true)⟩,
  ⟨some 50, (.bin .eql .none (.tmp 49) (.const (.int .i64 0))), true, some (48, true)⟩,
  ⟨some 51, (.pick (.tmp 48) (.tmp 50) (.const (.bool false))), true, none⟩,
  ⟨some 52, (.mov (.tmp 51)), true, none⟩,
  ⟨some 53, (.mov (.tmp 12)), false, some (52, true)⟩,
  ⟨some 54, (.bin .eql .none (.tmp 53) (.const (.int .i64 0))), true, some (52, true)⟩,
  ⟨some 55, (.pick (.tmp 52) (.tmp 54) (.const (.bool false))), true, none⟩,
  ⟨some 56, (.mov (.tmp 55)), true, none⟩,
  ⟨some 57, (.mov (.tmp 4)), false, some (56, true)⟩,
  ⟨some 58, (.bin .eql .none (.tmp 57) (.const (.int .i64 350))), true, some (56, true)⟩,
  ⟨some 59, (.pick (.tmp 56) (.tmp 58) (.const (.bool false))), true, none⟩,
  ⟨some 60, (.mov (.tmp 59)), true, none⟩,
  ⟨some 61, (.mov (.tmp 5)), false, some (60, true)⟩,
  ⟨some 62, (.build [(.int .i64 0), (.int .i64 0), (.int .i64 0), (.int .i64 0)] [(0, (1, (.const (.int .i64 1)))), (1, (1, (.const (.int .i64 0)))), (2, (1, (.const (.int .i64 1)))), (3, (1, (.const (.int .i64 350))))]), false, some (60, true)⟩,
  ⟨some 63, (.buildSlice [(.int .i64 0), (.int .i64 0), (.int .i64 0), (.int .i64 0)] 4 1 [(0, (4, (.tmp 62)))]), false, some (60, true)⟩,
  ⟨some 64, (.call i_transitref35_Same [(.tmp 61), (.tmp 63)]), true, some (60, true)⟩,
  ⟨some 65, (.pick (.tmp 60) (.tmp 64) (.const (.bool false))), true, none⟩,
  ⟨some 66, (.mov (.tmp 65)), true, none⟩,
  ⟨some 67, (.mov (.tmp 7)), false, some (66, true)⟩,
  ⟨some 68, (.bin .eql .none (.tmp 67) (.const (.int .i64 400))), true, some (66, true)⟩,
  ⟨some 69, (.pick (.tmp 66) (.tmp 68) (.const (.bool false))), true, none⟩,
  ⟨some 70, (.mov (.tmp 69)), true, none⟩,
  ⟨some 71, (.mov (.tmp 8)), false, some (70, true)⟩,
  ⟨some 72, (.lenSl (.tmp 71)), false, some (70, true)⟩,
  ⟨some 73, (.bin .eql .none (.tmp 72) (.const (.int .i64 2))), true, some (70, true)⟩,
  ⟨some 74, (.pick (.tmp 70) (.tmp 73) (.const (.bool false))), true, none⟩,
  ⟨some 75, (.mov (.tmp 74)), true, none⟩,
  ⟨some 76, (.mov (.tmp 10)), false, some (75, true)⟩,
  ⟨some 77, (.bin .eql .none (.tmp 76) (.const (.int .i64 300))), true, some (75, true)⟩,
  ⟨some 78, (.pick (.tmp 75) (.tmp 77) (.const (.bool false))), true, none⟩,
  ⟨some 0, (.mov (.tmp 78)), true, none⟩]
def c11_17 : ACode := (.region o11_16 [0])
def w11_17 (P : Program) (Q : Exit → Slots → Mem → Prop) (M : Mem) (v4 : V) (v5 : V) (v6 : V) (v7 : V) (v8 : V) (v9 : V) (v10 : V) (v12 : V) : Prop :=
  @OptBH (binV .eql .none v6 (.int .i64 0)) ⟨fun b47_2 =>
  @BIfH b47_2
  ⟨@OptBH (binV .eql .none v9 (.int .i64 0)) ⟨fun b50_5 =>
  @BIfH b50_5
  ⟨@OptBH (binV .eql .none v12 (.int .i64 0)) ⟨fun b54_9 =>
  @BIfH b54_9
  ⟨@OptBH (binV .eql .none v4 (.int .i64 350)) ⟨fun b58_13 =>
  @BIfH b58_13
  ⟨@OptVH (buildV [(.int .i64 0), (.int .i64 0), (.int .i64 0), (.int .i64 0)] [(0, 1, (.int .i64 1)), (1, 1, (.int .i64 0)), (2, 1, (.int .i64 1)), (3, 1, (.int .i64 350))]) ⟨fun t62_17 =>
  @OptVH (buildSliceV [(.int .i64 0), (.int .i64 0), (.int .i64 0), (.int .i64 0)] 4 1 [(0, 4, t62_17)]) ⟨fun t63_18 =>
  @CallH P i_transitref35_Same [v5, t63_18] M ⟨fun t64_19 M19 => @OptBH (some t64_19) ⟨fun b64_19 =>
  @BIfH b64_19
  ⟨@OptBH (binV .eql .none v7 (.int .i64 400)) ⟨fun b68_23 =>
  @BIfH b68_23
  ⟨@OptVH (lenV v8 M19) ⟨fun t72_27 =>
  @OptBH (binV .eql .none t72_27 (.int .i64 2)) ⟨fun b73_28 =>
  @BIfH b73_28
  ⟨@OptBH (binV .eql .none v10 (.int .i64 300)) ⟨fun b77_32 =>
  Q .normal [(0, (.bool b77_32))] M19⟩⟩
  ⟨Q .normal [(0, (.bool false))] M19⟩⟩⟩⟩
  ⟨Q .normal [(0, (.bool false))] M19⟩⟩⟩
  ⟨Q .normal [(0, (.bool false))] M19⟩⟩⟩⟩⟩⟩
  ⟨Q .normal [(0, (.bool false))] M⟩⟩⟩
  ⟨Q .normal [(0, (.bool false))] M⟩⟩⟩
  ⟨Q .normal [(0, (.bool false))] M⟩⟩⟩
  ⟨Q .normal [(0, (.bool false))] M⟩⟩
theorem e11_17 (P : Program) (Q : Exit → Slots → Mem → Prop) (s : Slots) (M : Mem) : wpC P c11_17 Q s M = w11_17 P Q M (sget s 4) (sget s 5) (sget s 6) (sget s 7) (sget s 8) (sget s 9) (sget s 10) (sget s 12) := by kernel_rfl
def c11_18 : ACode := (.seq c11_17 .ret)
def c11_19 : ACode := (.seq c11_15 c11_18)
def c11_20 : ACode := (.seq c11_13 c11_19)
def c11_21 : ACode := (.seq c11_11 c11_20)
def c11_22 : ACode := (.seq c11_9 c11_21)
def c11_23 : ACode := (.seq c11_7 c11_22)
def c11_24 : ACode := (.seq c11_5 c11_23)
def c11_25 : ACode := (.seq c11_3 c11_24)
def c11_26 : ACode := (.seq c11_1 c11_25)
def fn_transitlaw35_exampleHolds : AFn := ⟨79, [(.tmp 0)], c11_26⟩
theorem fn_transitlaw35_exampleHolds_ok : resFn PR h_transitlaw35_exampleHolds i_transitlaw35_exampleHolds = some fn_transitlaw35_exampleHolds := by kernel_rfl

def h_fare_Price : Hints := ⟨[(0, [1, 2]), (1, [1, 2, 7]), (2, [1, 2, 7, 15]), (3, [4, 5, 6]), (4, [1, 2, 8]), (5, [1, 2, 8, 23]), (6, [4, 5, 6]), (7, [1, 2, 8, 9]), (8, [1, 2, 8, 9, 10]), (9, [1, 2, 8, 9, 10, 27]), (10, [1, 2, 8, 9, 10]), (11, [1, 2, 8, 9, 10]), (12, [4, 5, 6])], [(9, [1, 2, 8, 9, 10])], [(7, [0])]⟩
def o12_0 : List AOper := [⟨some 2, (.box 4 (.tmp 0)), false, none⟩,
  ⟨some 4, (.mov (.const (.int .i64 0))), false, none⟩,
  ⟨some 5, (.mov (.const (.slice [] .nil))), false, none⟩,
  ⟨some 6, (.mov (.const (.int .i64 0))), false, none⟩]
def c12_1 : ACode := (.region o12_0 [1, 2])
def w12_1 (_P : Program) (Q : Exit → Slots → Mem → Prop) (M : Mem) (v0 : V) (v1 : V) : Prop :=
  @OptMH (boxV 4 v0 M) ⟨fun t2_1 M1 =>
  Q .normal [(1, v1), (2, t2_1)] M1⟩
theorem e12_1 (P : Program) (Q : Exit → Slots → Mem → Prop) (s : Slots) (M : Mem) : wpC P c12_1 Q s M = w12_1 P Q M (sget s 0) (sget s 1) := by kernel_rfl
def o12_2 : List AOper := [⟨some 11, (.load 4 true (.tmp 2)), false, none⟩,
  ⟨some 12, (.mov (.tmp 1)), false, none⟩,
  ⟨some 13, (.call i_fare_valid [(.tmp 11), (.tmp 12)]), false, none⟩,
  ⟨some 7, (.mov (.tmp 13)), false, none⟩]
def c12_3 : ACode := (.region o12_2 [1, 2, 7])
def w12_3 (P : Program) (Q : Exit → Slots → Mem → Prop) (M : Mem) (v1 : V) (v2 : V) : Prop :=
  @OptVH (loadV 4 true v2 M) ⟨fun t11_1 =>
  @CallH P i_fare_valid [t11_1, v1] M ⟨fun t13_3 M3 =>
  Q .normal [(1, v1), (2, v2), (7, t13_3)] M3⟩⟩
theorem e12_3 (P : Program) (Q : Exit → Slots → Mem → Prop) (s : Slots) (M : Mem) : wpC P c12_3 Q s M = w12_3 P Q M (sget s 1) (sget s 2) := by kernel_rfl
def o12_4 : List AOper := [⟨some 16, (.mov (.tmp 7)), false, none⟩,
  ⟨some 4, (.mov (.const (.int .i64 0))), false, none⟩,
  ⟨some 5, (.mov (.const (.slice [] .nil))), false, none⟩,
  ⟨some 6, (.mov (.tmp 16)), false, none⟩]
def c12_5 : ACode := (.region o12_4 [4, 5, 6])
def w12_5 (_P : Program) (Q : Exit → Slots → Mem → Prop) (M : Mem) (v7 : V) : Prop :=
  Q .normal [(4, (.int .i64 0)), (5, (.slice [] .nil)), (6, v7)] M
theorem e12_5 (P : Program) (Q : Exit → Slots → Mem → Prop) (s : Slots) (M : Mem) : wpC P c12_5 Q s M = w12_5 P Q M (sget s 7) := by kernel_rfl
def c12_6 : ACode := (.seq c12_5 .ret)
def o12_7 : List AOper := [⟨some 14, (.mov (.tmp 7)), false, none⟩,
  ⟨some 15, (.bin .neq .none (.tmp 14) (.const (.int .i64 0))), true, none⟩]
def c12_8 : ACode := (.seq (.region o12_7 [1, 2, 7, 15]) (.cond (.tmp 15) c12_6 .skip))
def w12_8 (P : Program) (Q : Exit → Slots → Mem → Prop) (M : Mem) (v1 : V) (v2 : V) (v7 : V) : Prop :=
  @OptBH (binV .neq .none v7 (.int .i64 0)) ⟨fun b15_2 =>
  @BIfH b15_2
  ⟨wpC P c12_6 Q [(1, v1), (2, v2), (7, v7), (15, (.bool b15_2))] M⟩
  ⟨Q .normal [(1, v1), (2, v2), (7, v7), (15, (.bool b15_2))] M⟩⟩
theorem e12_8 (P : Program) (Q : Exit → Slots → Mem → Prop) (s : Slots) (M : Mem) : wpC P c12_8 Q s M = w12_8 P Q M (sget s 1) (sget s 2) (sget s 7) := by kernel_rfl
def c12_9 : ACode := (.seq c12_3 c12_8)
def o12_10 : List AOper := [⟨some 17, (.load 4 true (.tmp 2)), false, none⟩,
  ⟨some 18, (.mov (.tmp 1)), false, none⟩,
  ⟨some 19, (.call i_fare_divide [(.tmp 17), (.tmp 18)]), false, none⟩,
  ⟨some 8, (.alloc [(.bool false), (.int .i64 0), (.int .i64 0), (.int .i64 0), (.int .i64 0), (.int .i64 0), (.int .i64 0), (.bool false), (.int .i64 0), (.int .i64 0), (.int .i64 0), (.int .i64 0), (.int .i64 0), (.int .i64 0), (.bool false), (.int .i64 0), (.int .i64 0), (.int .i64 0), (.int .i64 0), (.int .i64 0), (.int .i64 0), (.bool false), (.int .i64 0), (.int .i64 0), (.int .i64 0), (.int .i64 0), (.int .i64 0), (.int .i64 0), (.bool false), (.int .i64 0), (.int .i64 0), (.int .i64 0), (.int .i64 0), (.int .i64 0), (.int .i64 0), (.bool false), (.int .i64 0), (.int .i64 0), (.int .i64 0), (.int .i64 0), (.int .i64 0), (.int .i64 0), (.bool false), (.int .i64 0), (.int .i64 0), (.int .i64 0), (.int .i64 0), (.int .i64 0), (.int .i64 0), (.bool false), (.int .i64 0), (.int .i64 0), (.int .i64 0), (.int .i64 0), (.int .i64 0), (.int .i64 0), (.bool false), (.int .i64 0), (.int .i64 0), (.int .i64 0), (.int .i64 0), (.int .i64 0), (.int .i64 0)]), false, none⟩,
  ⟨none, (.store 63 (.tmp 8) (.tmp 19)), false, none⟩]
def c12_11 : ACode := (.region o12_10 [1, 2, 8])
def w12_11 (P : Program) (Q : Exit → Slots → Mem → Prop) (M : Mem) (v1 : V) (v2 : V) : Prop :=
  @OptVH (loadV 4 true v2 M) ⟨fun t17_1 =>
  @CallH P i_fare_divide [t17_1, v1] M ⟨fun t19_3 M3 =>
  @OptMH (allocV [(.bool false), (.int .i64 0), (.int .i64 0), (.int .i64 0), (.int .i64 0), (.int .i64 0), (.int .i64 0), (.bool false), (.int .i64 0), (.int .i64 0), (.int .i64 0), (.int .i64 0), (.int .i64 0), (.int .i64 0), (.bool false), (.int .i64 0), (.int .i64 0), (.int .i64 0), (.int .i64 0), (.int .i64 0), (.int .i64 0), (.bool false), (.int .i64 0), (.int .i64 0), (.int .i64 0), (.int .i64 0), (.int .i64 0), (.int .i64 0), (.bool false), (.int .i64 0), (.int .i64 0), (.int .i64 0), (.int .i64 0), (.int .i64 0), (.int .i64 0), (.bool false), (.int .i64 0), (.int .i64 0), (.int .i64 0), (.int .i64 0), (.int .i64 0), (.int .i64 0), (.bool false), (.int .i64 0), (.int .i64 0), (.int .i64 0), (.int .i64 0), (.int .i64 0), (.int .i64 0), (.bool false), (.int .i64 0), (.int .i64 0), (.int .i64 0), (.int .i64 0), (.int .i64 0), (.int .i64 0), (.bool false), (.int .i64 0), (.int .i64 0), (.int .i64 0), (.int .i64 0), (.int .i64 0), (.int .i64 0)] M3) ⟨fun t8_4 M4 =>
  @OptMH (storeVM 63 t8_4 t19_3 M4) ⟨fun _tx_5 M5 =>
  Q .normal [(1, v1), (2, v2), (8, t8_4)] M5⟩⟩⟩⟩
theorem e12_11 (P : Program) (Q : Exit → Slots → Mem → Prop) (s : Slots) (M : Mem) : wpC P c12_11 Q s M = w12_11 P Q M (sget s 1) (sget s 2) := by kernel_rfl
def o12_12 : List AOper := [⟨some 4, (.mov (.const (.int .i64 0))), false, none⟩,
  ⟨some 5, (.mov (.const (.slice [] .nil))), false, none⟩,
  ⟨some 6, (.mov (.const (.int .i64 34))), false, none⟩]
def c12_13 : ACode := (.region o12_12 [4, 5, 6])
def w12_13 (_P : Program) (Q : Exit → Slots → Mem → Prop) (M : Mem) : Prop :=
  Q .normal [(4, (.int .i64 0)), (5, (.slice [] .nil)), (6, (.int .i64 34))] M
theorem e12_13 (P : Program) (Q : Exit → Slots → Mem → Prop) (s : Slots) (M : Mem) : wpC P c12_13 Q s M = w12_13 P Q M := by kernel_rfl
def c12_14 : ACode := (.seq c12_13 .ret)
def o12_15 : List AOper := [⟨some 20, (.indexArr 9 7 (.tmp 8) (.const (.int .i64 0))), false, none⟩,
  ⟨some 21, (.fieldAddr 0 (.tmp 20)), false, none⟩,
  ⟨some 22, (.load 1 false (.tmp 21)), true, none⟩,
  ⟨some 23, (.un .not (.tmp 22)), true, none⟩]
def c12_16 : ACode := (.seq (.region o12_15 [1, 2, 8, 23]) (.cond (.tmp 23) c12_14 .skip))
def w12_16 (P : Program) (Q : Exit → Slots → Mem → Prop) (M : Mem) (v1 : V) (v2 : V) (v8 : V) : Prop :=
  @OptVH (indexArrV 9 7 v8 (.int .i64 0)) ⟨fun t20_1 =>
  @OptVH (moveV 0 t20_1) ⟨fun t21_2 =>
  @OptBH (loadV 1 false t21_2 M) ⟨fun b22_3 =>
  @OptBH (unV .not (.bool b22_3)) ⟨fun b23_4 =>
  @BIfH b23_4
  ⟨wpC P c12_14 Q [(1, v1), (2, v2), (8, v8), (23, (.bool b23_4))] M⟩
  ⟨Q .normal [(1, v1), (2, v2), (8, v8), (23, (.bool b23_4))] M⟩⟩⟩⟩⟩
theorem e12_16 (P : Program) (Q : Exit → Slots → Mem → Prop) (s : Slots) (M : Mem) : wpC P c12_16 Q s M = w12_16 P Q M (sget s 1) (sget s 2) (sget s 8) := by kernel_rfl
def o12_17 : List AOper := [⟨some 9, (.newarr 4), false, none⟩]
def c12_18 : ACode := (.region o12_17 [1, 2, 8, 9])
def w12_18 (_P : Program) (Q : Exit → Slots → Mem → Prop) (M : Mem) (v1 : V) (v2 : V) (v8 : V) : Prop :=
  @OptMH (newarrV 4 M) ⟨fun t9_1 M1 =>
  Q .normal [(1, v1), (2, v2), (8, v8), (9, t9_1)] M1⟩
theorem e12_18 (P : Program) (Q : Exit → Slots → Mem → Prop) (s : Slots) (M : Mem) : wpC P c12_18 Q s M = w12_18 P Q M (sget s 1) (sget s 2) (sget s 8) := by kernel_rfl
def o12_19 : List AOper := [⟨some 10, (.mov (.const (.int .i64 0))), false, none⟩]
def c12_20 : ACode := (.region o12_19 [1, 2, 8, 9, 10])
def w12_20 (_P : Program) (Q : Exit → Slots → Mem → Prop) (M : Mem) (v1 : V) (v2 : V) (v8 : V) (v9 : V) : Prop :=
  Q .normal [(1, v1), (2, v2), (8, v8), (9, v9), (10, (.int .i64 0))] M
theorem e12_20 (P : Program) (Q : Exit → Slots → Mem → Prop) (s : Slots) (M : Mem) : wpC P c12_20 Q s M = w12_20 P Q M (sget s 1) (sget s 2) (sget s 8) (sget s 9) := by kernel_rfl
def o12_21 : List AOper := [⟨some 24, (.mov (.tmp 10)), false, none⟩,
  ⟨some 25, (.mov (.tmp 1)), false, none⟩,
  ⟨some 26, (.lenSl (.tmp 25)), false, none⟩,
  ⟨some 27, (.bin .lss .none (.tmp 24) (.tmp 26)), true, none⟩]
def c12_22 : ACode := (.seq (.region o12_21 [1, 2, 8, 9, 10, 27]) (.cond (.tmp 27) .skip (.exit 0)))
def w12_22 (_P : Program) (Q : Exit → Slots → Mem → Prop) (M : Mem) (v1 : V) (v2 : V) (v8 : V) (v9 : V) (v10 : V) : Prop :=
  @OptVH (lenV v1 M) ⟨fun t26_3 =>
  @OptBH (binV .lss .none v10 t26_3) ⟨fun b27_4 =>
  @BIfH b27_4
  ⟨Q .normal [(1, v1), (2, v2), (8, v8), (9, v9), (10, v10), (27, (.bool b27_4))] M⟩
  ⟨Q (.exit 0) [(1, v1), (2, v2), (8, v8), (9, v9), (10, v10), (27, (.bool b27_4))] M⟩⟩⟩
theorem e12_22 (P : Program) (Q : Exit → Slots → Mem → Prop) (s : Slots) (M : Mem) : wpC P c12_22 Q s M = w12_22 P Q M (sget s 1) (sget s 2) (sget s 8) (sget s 9) (sget s 10) := by kernel_rfl
def o12_23 : List AOper := [⟨some 34, (.mov (.tmp 9)), false, none⟩,
  ⟨some 35, (.mov (.tmp 10)), false, none⟩,
  ⟨some 36, (.indexArr 9 7 (.tmp 8) (.tmp 35)), false, none⟩,
  ⟨some 37, (.fieldAddr 3 (.tmp 36)), false, none⟩,
  ⟨some 38, (.load 4 true (.tmp 37)), false, none⟩,
  ⟨some 39, (.buildSlice [(.int .i64 0), (.int .i64 0), (.int .i64 0), (.int .i64 0)] 4 1 [(0, (4, (.tmp 38)))]), false, none⟩,
  ⟨some 40, (.append false 4 32 (.tmp 34) (.tmp 39)), false, none⟩,
  ⟨some 9, (.mov (.tmp 40)), false, none⟩]
def c12_24 : ACode := (.region o12_23 [1, 2, 8, 9, 10])
def w12_24 (_P : Program) (Q : Exit → Slots → Mem → Prop) (M : Mem) (v1 : V) (v2 : V) (v8 : V) (v9 : V) (v10 : V) : Prop :=
  @OptVH (indexArrV 9 7 v8 v10) ⟨fun t36_3 =>
  @OptVH (moveV 3 t36_3) ⟨fun t37_4 =>
  @OptVH (loadV 4 true t37_4 M) ⟨fun t38_5 =>
  @OptVH (buildSliceV [(.int .i64 0), (.int .i64 0), (.int .i64 0), (.int .i64 0)] 4 1 [(0, 4, t38_5)]) ⟨fun t39_6 =>
  @OptMH (appV false 4 32 v9 t39_6 M) ⟨fun t40_7 M7 =>
  Q .normal [(1, v1), (2, v2), (8, v8), (9, t40_7), (10, v10)] M7⟩⟩⟩⟩⟩
theorem e12_24 (P : Program) (Q : Exit → Slots → Mem → Prop) (s : Slots) (M : Mem) : wpC P c12_24 Q s M = w12_24 P Q M (sget s 1) (sget s 2) (sget s 8) (sget s 9) (sget s 10) := by kernel_rfl
def c12_25 : ACode := (.block 1 c12_24)
def o12_26 : List AOper := [⟨some 28, (.mov (.tmp 10)), false, none⟩,
  ⟨some 29, (.indexArr 9 7 (.tmp 8) (.tmp 28)), false, none⟩,
  ⟨some 30, (.fieldAddr 3 (.tmp 29)), false, none⟩,
  ⟨some 31, (.fieldAddr 2 (.tmp 30)), false, none⟩,
  ⟨some 32, (.load 1 false (.tmp 31)), false, none⟩,
  ⟨some 33, (.bin .add .none (.tmp 32) (.const (.int .i64 1))), false, none⟩,
  ⟨some 10, (.mov (.tmp 33)), false, none⟩]
def c12_27 : ACode := (.region o12_26 [1, 2, 8, 9, 10])
def w12_27 (_P : Program) (Q : Exit → Slots → Mem → Prop) (M : Mem) (v1 : V) (v2 : V) (v8 : V) (v9 : V) (v10 : V) : Prop :=
  @OptVH (indexArrV 9 7 v8 v10) ⟨fun t29_2 =>
  @OptVH (moveV 3 t29_2) ⟨fun t30_3 =>
  @OptVH (moveV 2 t30_3) ⟨fun t31_4 =>
  @OptVH (loadV 1 false t31_4 M) ⟨fun t32_5 =>
  @OptVH (binV .add .none t32_5 (.int .i64 1)) ⟨fun t33_6 =>
  Q .normal [(1, v1), (2, v2), (8, v8), (9, v9), (10, t33_6)] M⟩⟩⟩⟩⟩
theorem e12_27 (P : Program) (Q : Exit → Slots → Mem → Prop) (s : Slots) (M : Mem) : wpC P c12_27 Q s M = w12_27 P Q M (sget s 1) (sget s 2) (sget s 8) (sget s 9) (sget s 10) := by kernel_rfl
def c12_28 : ACode := (.seq c12_25 c12_27)
def c12_29 : ACode := (.seq c12_22 c12_28)
def c12_30 : ACode := (.loop [1, 2, 8, 9, 10] c12_29)
def c12_31 : ACode := (.block 0 c12_30)
def c12_32 : ACode := (.seq c12_20 c12_31)
def o12_33 : List AOper := [⟨some 41, (.load 4 true (.tmp 2)), false, none⟩,
  ⟨some 42, (.indexArr 9 7 (.tmp 8) (.const (.int .i64 0))), false, none⟩,
  ⟨some 43, (.fieldAddr 1 (.tmp 42)), false, none⟩,
  ⟨some 44, (.load 1 false (.tmp 43)), false, none⟩,
  ⟨some 45, (.call i_fare_capped [(.tmp 41), (.tmp 44)]), false, none⟩,
  ⟨some 46, (.mov (.tmp 9)), false, none⟩,
  ⟨some 4, (.mov (.tmp 45)), false, none⟩,
  ⟨some 5, (.mov (.tmp 46)), false, none⟩,
  ⟨some 6, (.mov (.const (.int .i64 0))), false, none⟩]
def c12_34 : ACode := (.region o12_33 [4, 5, 6])
def w12_34 (P : Program) (Q : Exit → Slots → Mem → Prop) (M : Mem) (v2 : V) (v8 : V) (v9 : V) : Prop :=
  @OptVH (loadV 4 true v2 M) ⟨fun t41_1 =>
  @OptVH (indexArrV 9 7 v8 (.int .i64 0)) ⟨fun t42_2 =>
  @OptVH (moveV 1 t42_2) ⟨fun t43_3 =>
  @OptVH (loadV 1 false t43_3 M) ⟨fun t44_4 =>
  @CallH P i_fare_capped [t41_1, t44_4] M ⟨fun t45_5 M5 =>
  Q .normal [(4, t45_5), (5, v9), (6, (.int .i64 0))] M5⟩⟩⟩⟩⟩
theorem e12_34 (P : Program) (Q : Exit → Slots → Mem → Prop) (s : Slots) (M : Mem) : wpC P c12_34 Q s M = w12_34 P Q M (sget s 2) (sget s 8) (sget s 9) := by kernel_rfl
def c12_35 : ACode := (.seq c12_34 .ret)
def c12_36 : ACode := (.seq c12_32 c12_35)
def c12_37 : ACode := (.seq c12_18 c12_36)
def c12_38 : ACode := (.seq c12_16 c12_37)
def c12_39 : ACode := (.seq c12_11 c12_38)
def c12_40 : ACode := (.seq c12_9 c12_39)
def c12_41 : ACode := (.seq c12_1 c12_40)
def fn_fare_Price : AFn := ⟨47, [(.tmp 4), (.tmp 5), (.tmp 6)], c12_41⟩
theorem fn_fare_Price_ok : resFn PR h_fare_Price i_fare_Price = some fn_fare_Price := by kernel_rfl

def h_transitref35_Price : Hints := ⟨[(0, [1, 2]), (1, [1, 2, 11]), (2, [4, 5, 6]), (3, [1, 2, 14]), (4, [4, 5, 6]), (5, [2, 7, 8]), (6, [2, 7, 22]), (7, [4, 5, 6]), (8, [4, 5, 6])], [], []⟩
def o13_0 : List AOper := [⟨some 2, (.box 4 (.tmp 0)), false, none⟩,
  ⟨some 4, (.mov (.const (.int .i64 0))), false, none⟩,
  ⟨some 5, (.mov (.const (.slice [] .nil))), false, none⟩,
  ⟨some 6, (.mov (.const (.int .i64 0))), false, none⟩]
def c13_1 : ACode := (.region o13_0 [1, 2])
def w13_1 (_P : Program) (Q : Exit → Slots → Mem → Prop) (M : Mem) (v0 : V) (v1 : V) : Prop :=
  @OptMH (boxV 4 v0 M) ⟨fun t2_1 M1 =>
  Q .normal [(1, v1), (2, t2_1)] M1⟩
theorem e13_1 (P : Program) (Q : Exit → Slots → Mem → Prop) (s : Slots) (M : Mem) : wpC P c13_1 Q s M = w13_1 P Q M (sget s 0) (sget s 1) := by kernel_rfl
def o13_2 : List AOper := [⟨some 4, (.mov (.const (.int .i64 0))), false, none⟩,
  ⟨some 5, (.mov (.const (.slice [] .nil))), false, none⟩,
  ⟨some 6, (.mov (.const (.int .i64 20))), false, none⟩]
def c13_3 : ACode := (.region o13_2 [4, 5, 6])
def w13_3 (_P : Program) (Q : Exit → Slots → Mem → Prop) (M : Mem) : Prop :=
  Q .normal [(4, (.int .i64 0)), (5, (.slice [] .nil)), (6, (.int .i64 20))] M
theorem e13_3 (P : Program) (Q : Exit → Slots → Mem → Prop) (s : Slots) (M : Mem) : wpC P c13_3 Q s M = w13_3 P Q M := by kernel_rfl
def c13_4 : ACode := (.seq c13_3 .ret)
def o13_5 : List AOper := [⟨some 9, (.load 4 true (.tmp 2)), false, none⟩,
  ⟨some 10, (.call i_transitref35_Valid [(.tmp 9)]), true, none⟩,
  ⟨some 11, (.un .not (.tmp 10)), true, none⟩]
def c13_6 : ACode := (.seq (.region o13_5 [1, 2, 11]) (.cond (.tmp 11) c13_4 .skip))
def w13_6 (P : Program) (Q : Exit → Slots → Mem → Prop) (M : Mem) (v1 : V) (v2 : V) : Prop :=
  @OptVH (loadV 4 true v2 M) ⟨fun t9_1 =>
  @CallH P i_transitref35_Valid [t9_1] M ⟨fun t10_2 M2 => @OptBH (some t10_2) ⟨fun b10_2 =>
  @OptBH (unV .not (.bool b10_2)) ⟨fun b11_3 =>
  @BIfH b11_3
  ⟨wpC P c13_4 Q [(1, v1), (2, v2), (11, (.bool b11_3))] M2⟩
  ⟨Q .normal [(1, v1), (2, v2), (11, (.bool b11_3))] M2⟩⟩⟩⟩⟩
theorem e13_6 (P : Program) (Q : Exit → Slots → Mem → Prop) (s : Slots) (M : Mem) : wpC P c13_6 Q s M = w13_6 P Q M (sget s 1) (sget s 2) := by kernel_rfl
def o13_7 : List AOper := [⟨some 4, (.mov (.const (.int .i64 0))), false, none⟩,
  ⟨some 5, (.mov (.const (.slice [] .nil))), false, none⟩,
  ⟨some 6, (.mov (.const (.int .i64 33))), false, none⟩]
def c13_8 : ACode := (.region o13_7 [4, 5, 6])
def w13_8 (_P : Program) (Q : Exit → Slots → Mem → Prop) (M : Mem) : Prop :=
  Q .normal [(4, (.int .i64 0)), (5, (.slice [] .nil)), (6, (.int .i64 33))] M
theorem e13_8 (P : Program) (Q : Exit → Slots → Mem → Prop) (s : Slots) (M : Mem) : wpC P c13_8 Q s M = w13_8 P Q M := by kernel_rfl
def c13_9 : ACode := (.seq c13_8 .ret)
def o13_10 : List AOper := [⟨some 12, (.mov (.tmp 1)), false, none⟩,
  ⟨some 13, (.lenSl (.tmp 12)), false, none⟩,
  ⟨some 14, (.bin .gtr .none (.tmp 13) (.const (.int .i64 8))), true, none⟩]
def c13_11 : ACode := (.seq (.region o13_10 [1, 2, 14]) (.cond (.tmp 14) c13_9 .skip))
def w13_11 (P : Program) (Q : Exit → Slots → Mem → Prop) (M : Mem) (v1 : V) (v2 : V) : Prop :=
  @OptVH (lenV v1 M) ⟨fun t13_2 =>
  @OptBH (binV .gtr .none t13_2 (.int .i64 8)) ⟨fun b14_3 =>
  @BIfH b14_3
  ⟨wpC P c13_9 Q [(1, v1), (2, v2), (14, (.bool b14_3))] M⟩
  ⟨Q .normal [(1, v1), (2, v2), (14, (.bool b14_3))] M⟩⟩⟩
theorem e13_11 (P : Program) (Q : Exit → Slots → Mem → Prop) (s : Slots) (M : Mem) : wpC P c13_11 Q s M = w13_11 P Q M (sget s 1) (sget s 2) := by kernel_rfl
def o13_12 : List AOper := [⟨some 16, (.load 4 true (.tmp 2)), false, none⟩,
  ⟨some 17, (.mov (.tmp 1)), false, none⟩,
  ⟨some 18, (.call i_transitref35_Best [(.tmp 16), (.tmp 17)]), false, none⟩,
  ⟨some 15, (.mov (.tmp 18)), false, none⟩,
  ⟨some 19, (.extract (.tmp 15) 0), false, none⟩,
  ⟨some 20, (.extract (.tmp 15) 1), true, none⟩,
  ⟨some 7, (.mov (.tmp 19)), false, none⟩,
  ⟨some 8, (.mov (.tmp 20)), true, none⟩]
def c13_13 : ACode := (.region o13_12 [2, 7, 8])
def w13_13 (P : Program) (Q : Exit → Slots → Mem → Prop) (M : Mem) (v1 : V) (v2 : V) : Prop :=
  @OptVH (loadV 4 true v2 M) ⟨fun t16_1 =>
  @CallH P i_transitref35_Best [t16_1, v1] M ⟨fun t18_3 M3 =>
  @OptVH (extractV t18_3 0) ⟨fun t19_5 =>
  @OptBH (extractV t18_3 1) ⟨fun b20_6 =>
  Q .normal [(2, v2), (7, t19_5), (8, (.bool b20_6))] M3⟩⟩⟩⟩
theorem e13_13 (P : Program) (Q : Exit → Slots → Mem → Prop) (s : Slots) (M : Mem) : wpC P c13_13 Q s M = w13_13 P Q M (sget s 1) (sget s 2) := by kernel_rfl
def o13_14 : List AOper := [⟨some 4, (.mov (.const (.int .i64 0))), false, none⟩,
  ⟨some 5, (.mov (.const (.slice [] .nil))), false, none⟩,
  ⟨some 6, (.mov (.const (.int .i64 34))), false, none⟩]
def c13_15 : ACode := (.region o13_14 [4, 5, 6])
def w13_15 (_P : Program) (Q : Exit → Slots → Mem → Prop) (M : Mem) : Prop :=
  Q .normal [(4, (.int .i64 0)), (5, (.slice [] .nil)), (6, (.int .i64 34))] M
theorem e13_15 (P : Program) (Q : Exit → Slots → Mem → Prop) (s : Slots) (M : Mem) : wpC P c13_15 Q s M = w13_15 P Q M := by kernel_rfl
def c13_16 : ACode := (.seq c13_15 .ret)
def o13_17 : List AOper := [⟨some 21, (.mov (.tmp 8)), true, none⟩,
  ⟨some 22, (.un .not (.tmp 21)), true, none⟩]
def c13_18 : ACode := (.seq (.region o13_17 [2, 7, 22]) (.cond (.tmp 22) c13_16 .skip))
def w13_18 (P : Program) (Q : Exit → Slots → Mem → Prop) (M : Mem) (v2 : V) (v7 : V) (v8 : V) : Prop :=
  @OptBH (some v8) ⟨fun b21_1 =>
  @OptBH (unV .not (.bool b21_1)) ⟨fun b22_2 =>
  @BIfH b22_2
  ⟨wpC P c13_16 Q [(2, v2), (7, v7), (22, (.bool b22_2))] M⟩
  ⟨Q .normal [(2, v2), (7, v7), (22, (.bool b22_2))] M⟩⟩⟩
theorem e13_18 (P : Program) (Q : Exit → Slots → Mem → Prop) (s : Slots) (M : Mem) : wpC P c13_18 Q s M = w13_18 P Q M (sget s 2) (sget s 7) (sget s 8) := by kernel_rfl
def o13_19 : List AOper := [⟨some 23, (.load 4 true (.tmp 2)), false, none⟩,
  ⟨some 24, (.mov (.tmp 7)), false, none⟩,
  ⟨some 25, (.call i_transitref35_Sum [(.tmp 24)]), false, none⟩,
  ⟨some 26, (.call i_transitref35_Capped [(.tmp 23), (.tmp 25)]), false, none⟩,
  ⟨some 27, (.mov (.tmp 7)), false, none⟩,
  ⟨some 4, (.mov (.tmp 26)), false, none⟩,
  ⟨some 5, (.mov (.tmp 27)), false, none⟩,
  ⟨some 6, (.mov (.const (.int .i64 0))), false, none⟩]
def c13_20 : ACode := (.mixed o13_19 [true, true, true, true, true, true, true, true] [4, 5, 6])
def w13_20 (P : Program) (Q : Exit → Slots → Mem → Prop) (M : Mem) (v2 : V) (v7 : V) : Prop :=
  @OptVH (loadV 4 true v2 M) ⟨fun t23_1 =>
  @CallQ P i_transitref35_Sum [v7] M ⟨fun t25_3 M3 =>
  @CallQ P i_transitref35_Capped [t23_1, t25_3] M3 ⟨fun t26_4 M4 =>
  Q .normal [(4, t26_4), (5, v7), (6, (.int .i64 0))] M4⟩⟩⟩
theorem e13_20 (P : Program) (Q : Exit → Slots → Mem → Prop) (s : Slots) (M : Mem) : wpC P c13_20 Q s M = w13_20 P Q M (sget s 2) (sget s 7) := by kernel_rfl
def c13_21 : ACode := (.seq c13_20 .ret)
def c13_22 : ACode := (.seq c13_18 c13_21)
def c13_23 : ACode := (.seq c13_13 c13_22)
def c13_24 : ACode := (.seq c13_11 c13_23)
def c13_25 : ACode := (.seq c13_6 c13_24)
def c13_26 : ACode := (.seq c13_1 c13_25)
def fn_transitref35_Price : AFn := ⟨28, [(.tmp 4), (.tmp 5), (.tmp 6)], c13_26⟩
theorem fn_transitref35_Price_ok : resFn PR h_transitref35_Price i_transitref35_Price = some fn_transitref35_Price := by kernel_rfl

def h_transitref35_Same : Hints := ⟨[(0, [0, 1]), (1, [0, 1, 10]), (2, [4]), (3, [0, 1, 5]), (4, [0, 1, 5, 14]), (5, [0, 1, 5]), (6, [0, 1, 5, 25]), (7, [4]), (8, [4])], [(4, [0, 1, 5])], []⟩
def o14_0 : List AOper := [⟨some 4, (.mov (.const (.bool false))), true, none⟩]
def c14_1 : ACode := (.region o14_0 [0, 1])
def w14_1 (_P : Program) (Q : Exit → Slots → Mem → Prop) (M : Mem) (v0 : V) (v1 : V) : Prop :=
  Q .normal [(0, v0), (1, v1)] M
theorem e14_1 (P : Program) (Q : Exit → Slots → Mem → Prop) (s : Slots) (M : Mem) : wpC P c14_1 Q s M = w14_1 P Q M (sget s 0) (sget s 1) := by kernel_rfl
def o14_2 : List AOper := [⟨some 4, (.mov (.const (.bool false))), true, none⟩]
def c14_3 : ACode := (.region o14_2 [4])
def w14_3 (_P : Program) (Q : Exit → Slots → Mem → Prop) (M : Mem) : Prop :=
  Q .normal [(4, (.bool false))] M
theorem e14_3 (P : Program) (Q : Exit → Slots → Mem → Prop) (s : Slots) (M : Mem) : wpC P c14_3 Q s M = w14_3 P Q M := by kernel_rfl
def c14_4 : ACode := (.seq c14_3 .ret)
def o14_5 : List AOper := [⟨some 6, (.mov (.tmp 0)), false, none⟩,
  ⟨some 7, (.lenSl (.tmp 6)), false, none⟩,
  ⟨some 8, (.mov (.tmp 1)), false, none⟩,
  ⟨some 9, (.lenSl (.tmp 8)), false, none⟩,
  ⟨some 10, (.bin .neq .none (.tmp 7) (.tmp 9)), true, none⟩]
def c14_6 : ACode := (.seq (.region o14_5 [0, 1, 10]) (.cond (.tmp 10) c14_4 .skip))
def w14_6 (P : Program) (Q : Exit → Slots → Mem → Prop) (M : Mem) (v0 : V) (v1 : V) : Prop :=
  @OptVH (lenV v0 M) ⟨fun t7_2 =>
  @OptVH (lenV v1 M) ⟨fun t9_4 =>
  @OptBH (binV .neq .none t7_2 t9_4) ⟨fun b10_5 =>
  @BIfH b10_5
  ⟨wpC P c14_4 Q [(0, v0), (1, v1), (10, (.bool b10_5))] M⟩
  ⟨Q .normal [(0, v0), (1, v1), (10, (.bool b10_5))] M⟩⟩⟩⟩
theorem e14_6 (P : Program) (Q : Exit → Slots → Mem → Prop) (s : Slots) (M : Mem) : wpC P c14_6 Q s M = w14_6 P Q M (sget s 0) (sget s 1) := by kernel_rfl
def o14_7 : List AOper := [⟨some 5, (.mov (.const (.int .i64 0))), false, none⟩]
def c14_8 : ACode := (.region o14_7 [0, 1, 5])
def w14_8 (_P : Program) (Q : Exit → Slots → Mem → Prop) (M : Mem) (v0 : V) (v1 : V) : Prop :=
  Q .normal [(0, v0), (1, v1), (5, (.int .i64 0))] M
theorem e14_8 (P : Program) (Q : Exit → Slots → Mem → Prop) (s : Slots) (M : Mem) : wpC P c14_8 Q s M = w14_8 P Q M (sget s 0) (sget s 1) := by kernel_rfl
def o14_9 : List AOper := [⟨some 11, (.mov (.tmp 5)), false, none⟩,
  ⟨some 12, (.mov (.tmp 0)), false, none⟩,
  ⟨some 13, (.lenSl (.tmp 12)), false, none⟩,
  ⟨some 14, (.bin .lss .none (.tmp 11) (.tmp 13)), true, none⟩]
def c14_10 : ACode := (.seq (.region o14_9 [0, 1, 5, 14]) (.cond (.tmp 14) .skip (.exit 0)))
def w14_10 (_P : Program) (Q : Exit → Slots → Mem → Prop) (M : Mem) (v0 : V) (v1 : V) (v5 : V) : Prop :=
  @OptVH (lenV v0 M) ⟨fun t13_3 =>
  @OptBH (binV .lss .none v5 t13_3) ⟨fun b14_4 =>
  @BIfH b14_4
  ⟨Q .normal [(0, v0), (1, v1), (5, v5), (14, (.bool b14_4))] M⟩
  ⟨Q (.exit 0) [(0, v0), (1, v1), (5, v5), (14, (.bool b14_4))] M⟩⟩⟩
theorem e14_10 (P : Program) (Q : Exit → Slots → Mem → Prop) (s : Slots) (M : Mem) : wpC P c14_10 Q s M = w14_10 P Q M (sget s 0) (sget s 1) (sget s 5) := by kernel_rfl
def o14_11 : List AOper := [⟨some 4, (.mov (.const (.bool false))), true, none⟩]
def c14_12 : ACode := (.region o14_11 [4])
def w14_12 (_P : Program) (Q : Exit → Slots → Mem → Prop) (M : Mem) : Prop :=
  Q .normal [(4, (.bool false))] M
theorem e14_12 (P : Program) (Q : Exit → Slots → Mem → Prop) (s : Slots) (M : Mem) : wpC P c14_12 Q s M = w14_12 P Q M := by kernel_rfl
def c14_13 : ACode := (.seq c14_12 .ret)
def o14_14 : List AOper := [⟨some 17, (.mov (.tmp 0)), false, none⟩,
  ⟨some 18, (.mov (.tmp 5)), false, none⟩,
  ⟨some 19, (.indexSl 4 (.tmp 17) (.tmp 18)), false, none⟩,
  ⟨some 20, (.load 4 true (.tmp 19)), false, none⟩,
  ⟨some 21, (.mov (.tmp 1)), false, none⟩,
  ⟨some 22, (.mov (.tmp 5)), false, none⟩,
  ⟨some 23, (.indexSl 4 (.tmp 21) (.tmp 22)), false, none⟩,
  ⟨some 24, (.load 4 true (.tmp 23)), false, none⟩,
  ⟨some 25, (.bin .neq (.cells [.int, .int, .int, .int]) (.tmp 20) (.tmp 24)), true, none⟩]
def c14_15 : ACode := (.seq (.mixed o14_14 [true, true, true, true, true, true, true, true, true] [0, 1, 5, 25]) (.cond (.tmp 25) c14_13 .skip))
def w14_15 (P : Program) (Q : Exit → Slots → Mem → Prop) (M : Mem) (v0 : V) (v1 : V) (v5 : V) : Prop :=
  @OptVH (indexSlV 4 v0 v5 M) ⟨fun t19_3 =>
  @OptVH (loadV 4 true t19_3 M) ⟨fun t20_4 =>
  @OptVH (indexSlV 4 v1 v5 M) ⟨fun t23_7 =>
  @OptVH (loadV 4 true t23_7 M) ⟨fun t24_8 =>
  @OptBH (binV .neq (.cells [.int, .int, .int, .int]) t20_4 t24_8) ⟨fun b25_9 =>
  @BIfH b25_9
  ⟨wpC P c14_13 Q [(0, v0), (1, v1), (5, v5), (25, (.bool b25_9))] M⟩
  ⟨Q .normal [(0, v0), (1, v1), (5, v5), (25, (.bool b25_9))] M⟩⟩⟩⟩⟩⟩
theorem e14_15 (P : Program) (Q : Exit → Slots → Mem → Prop) (s : Slots) (M : Mem) : wpC P c14_15 Q s M = w14_15 P Q M (sget s 0) (sget s 1) (sget s 5) := by kernel_rfl
def c14_16 : ACode := (.block 1 c14_15)
def o14_17 : List AOper := [⟨some 15, (.mov (.tmp 5)), false, none⟩,
  ⟨some 16, (.bin .add .none (.tmp 15) (.const (.int .i64 1))), false, none⟩,
  ⟨some 5, (.mov (.tmp 16)), false, none⟩]
def c14_18 : ACode := (.region o14_17 [0, 1, 5])
def w14_18 (_P : Program) (Q : Exit → Slots → Mem → Prop) (M : Mem) (v0 : V) (v1 : V) (v5 : V) : Prop :=
  @OptVH (binV .add .none v5 (.int .i64 1)) ⟨fun t16_2 =>
  Q .normal [(0, v0), (1, v1), (5, t16_2)] M⟩
theorem e14_18 (P : Program) (Q : Exit → Slots → Mem → Prop) (s : Slots) (M : Mem) : wpC P c14_18 Q s M = w14_18 P Q M (sget s 0) (sget s 1) (sget s 5) := by kernel_rfl
def c14_19 : ACode := (.seq c14_16 c14_18)
def c14_20 : ACode := (.seq c14_10 c14_19)
def c14_21 : ACode := (.loop [0, 1, 5] c14_20)
def c14_22 : ACode := (.block 0 c14_21)
def c14_23 : ACode := (.seq c14_8 c14_22)
def o14_24 : List AOper := [⟨some 4, (.mov (.const (.bool true))), true, none⟩]
def c14_25 : ACode := (.region o14_24 [4])
def w14_25 (_P : Program) (Q : Exit → Slots → Mem → Prop) (M : Mem) : Prop :=
  Q .normal [(4, (.bool true))] M
theorem e14_25 (P : Program) (Q : Exit → Slots → Mem → Prop) (s : Slots) (M : Mem) : wpC P c14_25 Q s M = w14_25 P Q M := by kernel_rfl
def c14_26 : ACode := (.seq c14_25 .ret)
def c14_27 : ACode := (.seq c14_23 c14_26)
def c14_28 : ACode := (.seq c14_6 c14_27)
def c14_29 : ACode := (.seq c14_1 c14_28)
def fn_transitref35_Same : AFn := ⟨26, [(.tmp 4)], c14_29⟩
theorem fn_transitref35_Same_ok : resFn PR h_transitref35_Same i_transitref35_Same = some fn_transitref35_Same := by kernel_rfl

def h_fare_Total : Hints := ⟨[(0, [1, 2]), (1, [1, 2, 16]), (2, [4, 5]), (3, [1, 2, 6]), (4, [2, 6, 17, 18, 19]), (5, [2, 6, 17, 18, 19, 20]), (6, [2, 6, 8, 17, 18, 19]), (7, [2, 6, 8, 17, 18, 19, 26]), (8, [4, 5]), (9, [2, 6, 17, 18, 19]), (10, [2, 6, 17, 18, 19]), (11, [4, 5])], [(5, [2, 6, 17, 18, 19])], []⟩
def o15_0 : List AOper := [⟨some 2, (.box 4 (.tmp 0)), false, none⟩,
  ⟨some 4, (.mov (.const (.int .i64 0))), false, none⟩,
  ⟨some 5, (.mov (.const (.bool false))), true, none⟩]
def c15_1 : ACode := (.region o15_0 [1, 2])
def w15_1 (_P : Program) (Q : Exit → Slots → Mem → Prop) (M : Mem) (v0 : V) (v1 : V) : Prop :=
  @OptMH (boxV 4 v0 M) ⟨fun t2_1 M1 =>
  Q .normal [(1, v1), (2, t2_1)] M1⟩
theorem e15_1 (P : Program) (Q : Exit → Slots → Mem → Prop) (s : Slots) (M : Mem) : wpC P c15_1 Q s M = w15_1 P Q M (sget s 0) (sget s 1) := by kernel_rfl
def o15_2 : List AOper := [⟨some 4, (.mov (.const (.int .i64 0))), false, none⟩,
  ⟨some 5, (.mov (.const (.bool false))), true, none⟩]
def c15_3 : ACode := (.region o15_2 [4, 5])
def w15_3 (_P : Program) (Q : Exit → Slots → Mem → Prop) (M : Mem) : Prop :=
  Q .normal [(4, (.int .i64 0)), (5, (.bool false))] M
theorem e15_3 (P : Program) (Q : Exit → Slots → Mem → Prop) (s : Slots) (M : Mem) : wpC P c15_3 Q s M = w15_3 P Q M := by kernel_rfl
def c15_4 : ACode := (.seq c15_3 .ret)
def o15_5 : List AOper := [⟨some 9, (.load 4 true (.tmp 2)), false, none⟩,
  ⟨some 10, (.call i_fare_valid [(.tmp 9), (.const (.slice [] .nil))]), false, none⟩,
  ⟨some 11, (.bin .neq .none (.tmp 10) (.const (.int .i64 0))), true, none⟩,
  ⟨some 12, (.mov (.tmp 11)), true, none⟩,
  ⟨some 13, (.mov (.tmp 1)), false, some (12, false)⟩,
  ⟨some 14, (.lenSl (.tmp 13)), false, some (12, false)⟩,
  ⟨some 15, (.bin .gtr .none (.tmp 14) (.const (.int .i64 8))), true, some (12, false)⟩,
  ⟨some 16, (.pick (.tmp 12) (.const (.bool true)) (.tmp 15)), true, none⟩]
def c15_6 : ACode := (.seq (.region o15_5 [1, 2, 16]) (.cond (.tmp 16) c15_4 .skip))
def w15_6 (P : Program) (Q : Exit → Slots → Mem → Prop) (M : Mem) (v1 : V) (v2 : V) : Prop :=
  @OptVH (loadV 4 true v2 M) ⟨fun t9_1 =>
  @CallH P i_fare_valid [t9_1, (.slice [] .nil)] M ⟨fun t10_2 M2 =>
  @OptBH (binV .neq .none t10_2 (.int .i64 0)) ⟨fun b11_3 =>
  @BIfH b11_3
  ⟨wpC P c15_4 Q [(1, v1), (2, v2), (16, (.bool true))] M2⟩
  ⟨@OptVH (lenV v1 M2) ⟨fun t14_7 =>
  @OptBH (binV .gtr .none t14_7 (.int .i64 8)) ⟨fun b15_8 =>
  @BIfH b15_8
  ⟨wpC P c15_4 Q [(1, v1), (2, v2), (16, (.bool b15_8))] M2⟩
  ⟨Q .normal [(1, v1), (2, v2), (16, (.bool b15_8))] M2⟩⟩⟩⟩⟩⟩⟩
theorem e15_6 (P : Program) (Q : Exit → Slots → Mem → Prop) (s : Slots) (M : Mem) : wpC P c15_6 Q s M = w15_6 P Q M (sget s 1) (sget s 2) := by kernel_rfl
def o15_7 : List AOper := [⟨some 6, (.mov (.const (.int .i64 0))), false, none⟩]
def c15_8 : ACode := (.region o15_7 [1, 2, 6])
def w15_8 (_P : Program) (Q : Exit → Slots → Mem → Prop) (M : Mem) (v1 : V) (v2 : V) : Prop :=
  Q .normal [(1, v1), (2, v2), (6, (.int .i64 0))] M
theorem e15_8 (P : Program) (Q : Exit → Slots → Mem → Prop) (s : Slots) (M : Mem) : wpC P c15_8 Q s M = w15_8 P Q M (sget s 1) (sget s 2) := by kernel_rfl
def o15_9 : List AOper := [⟨some 17, (.mov (.tmp 1)), false, none⟩,
  ⟨some 18, (.lenSl (.tmp 17)), false, none⟩,
  ⟨some 19, (.mov (.const (.int .i64 0))), false, none⟩]
def c15_10 : ACode := (.region o15_9 [2, 6, 17, 18, 19])
def w15_10 (_P : Program) (Q : Exit → Slots → Mem → Prop) (M : Mem) (v1 : V) (v2 : V) (v6 : V) : Prop :=
  @OptVH (lenV v1 M) ⟨fun t18_2 =>
  Q .normal [(2, v2), (6, v6), (17, v1), (18, t18_2), (19, (.int .i64 0))] M⟩
theorem e15_10 (P : Program) (Q : Exit → Slots → Mem → Prop) (s : Slots) (M : Mem) : wpC P c15_10 Q s M = w15_10 P Q M (sget s 1) (sget s 2) (sget s 6) := by kernel_rfl
def o15_11 : List AOper := [⟨some 20, (.bin .lss .none (.tmp 19) (.tmp 18)), false, none⟩]
def c15_12 : ACode := (.region o15_11 [2, 6, 17, 18, 19, 20])
def w15_12 (_P : Program) (Q : Exit → Slots → Mem → Prop) (M : Mem) (v2 : V) (v6 : V) (v17 : V) (v18 : V) (v19 : V) : Prop :=
  @OptVH (binV .lss .none v19 v18) ⟨fun t20_1 =>
  Q .normal [(2, v2), (6, v6), (17, v17), (18, v18), (19, v19), (20, t20_1)] M⟩
theorem e15_12 (P : Program) (Q : Exit → Slots → Mem → Prop) (s : Slots) (M : Mem) : wpC P c15_12 Q s M = w15_12 P Q M (sget s 2) (sget s 6) (sget s 17) (sget s 18) (sget s 19) := by kernel_rfl
def c15_13 : ACode := (.cond (.tmp 20) .skip (.exit 0))
def o15_14 : List AOper := [⟨some 21, (.indexSl 4 (.tmp 17) (.tmp 19)), false, none⟩,
  ⟨some 22, (.load 4 true (.tmp 21)), false, none⟩,
  ⟨some 8, (.alloc [(.int .i64 0), (.int .i64 0), (.int .i64 0), (.int .i64 0)]), false, none⟩,
  ⟨none, (.store 4 (.tmp 8) (.tmp 22)), false, none⟩]
def c15_15 : ACode := (.region o15_14 [2, 6, 8, 17, 18, 19])
def w15_15 (_P : Program) (Q : Exit → Slots → Mem → Prop) (M : Mem) (v2 : V) (v6 : V) (v17 : V) (v18 : V) (v19 : V) : Prop :=
  @OptVH (indexSlV 4 v17 v19 M) ⟨fun t21_1 =>
  @OptVH (loadV 4 true t21_1 M) ⟨fun t22_2 =>
  @OptMH (allocV [(.int .i64 0), (.int .i64 0), (.int .i64 0), (.int .i64 0)] M) ⟨fun t8_3 M3 =>
  @OptMH (storeVM 4 t8_3 t22_2 M3) ⟨fun _tx_4 M4 =>
  Q .normal [(2, v2), (6, v6), (8, t8_3), (17, v17), (18, v18), (19, v19)] M4⟩⟩⟩⟩
theorem e15_15 (P : Program) (Q : Exit → Slots → Mem → Prop) (s : Slots) (M : Mem) : wpC P c15_15 Q s M = w15_15 P Q M (sget s 2) (sget s 6) (sget s 17) (sget s 18) (sget s 19) := by kernel_rfl
def o15_16 : List AOper := [⟨some 4, (.mov (.const (.int .i64 0))), false, none⟩,
  ⟨some 5, (.mov (.const (.bool false))), true, none⟩]
def c15_17 : ACode := (.region o15_16 [4, 5])
def w15_17 (_P : Program) (Q : Exit → Slots → Mem → Prop) (M : Mem) : Prop :=
  Q .normal [(4, (.int .i64 0)), (5, (.bool false))] M
theorem e15_17 (P : Program) (Q : Exit → Slots → Mem → Prop) (s : Slots) (M : Mem) : wpC P c15_17 Q s M = w15_17 P Q M := by kernel_rfl
def c15_18 : ACode := (.seq c15_17 .ret)
def o15_19 : List AOper := [⟨some 23, (.fieldAddr 3 (.tmp 8)), false, none⟩,
  ⟨some 24, (.load 1 false (.tmp 23)), false, none⟩,
  ⟨some 25, (.call i_fare_validPrice [(.tmp 24)]), true, none⟩,
  ⟨some 26, (.un .not (.tmp 25)), true, none⟩]
def c15_20 : ACode := (.seq (.region o15_19 [2, 6, 8, 17, 18, 19, 26]) (.cond (.tmp 26) c15_18 .skip))
def w15_20 (P : Program) (Q : Exit → Slots → Mem → Prop) (M : Mem) (v2 : V) (v6 : V) (v8 : V) (v17 : V) (v18 : V) (v19 : V) : Prop :=
  @OptVH (moveV 3 v8) ⟨fun t23_1 =>
  @OptVH (loadV 1 false t23_1 M) ⟨fun t24_2 =>
  @CallH P i_fare_validPrice [t24_2] M ⟨fun t25_3 M3 => @OptBH (some t25_3) ⟨fun b25_3 =>
  @OptBH (unV .not (.bool b25_3)) ⟨fun b26_4 =>
  @BIfH b26_4
  ⟨wpC P c15_18 Q [(2, v2), (6, v6), (8, v8), (17, v17), (18, v18), (19, v19), (26, (.bool b26_4))] M3⟩
  ⟨Q .normal [(2, v2), (6, v6), (8, v8), (17, v17), (18, v18), (19, v19), (26, (.bool b26_4))] M3⟩⟩⟩⟩⟩⟩
theorem e15_20 (P : Program) (Q : Exit → Slots → Mem → Prop) (s : Slots) (M : Mem) : wpC P c15_20 Q s M = w15_20 P Q M (sget s 2) (sget s 6) (sget s 8) (sget s 17) (sget s 18) (sget s 19) := by kernel_rfl
def o15_21 : List AOper := [⟨some 27, (.mov (.tmp 6)), false, none⟩,
  ⟨some 28, (.fieldAddr 3 (.tmp 8)), false, none⟩,
  ⟨some 29, (.load 1 false (.tmp 28)), false, none⟩,
  ⟨some 30, (.bin .add .none (.tmp 27) (.tmp 29)), false, none⟩,
  ⟨some 6, (.mov (.tmp 30)), false, none⟩]
def c15_22 : ACode := (.region o15_21 [2, 6, 17, 18, 19])
def w15_22 (_P : Program) (Q : Exit → Slots → Mem → Prop) (M : Mem) (v2 : V) (v6 : V) (v8 : V) (v17 : V) (v18 : V) (v19 : V) : Prop :=
  @OptVH (moveV 3 v8) ⟨fun t28_2 =>
  @OptVH (loadV 1 false t28_2 M) ⟨fun t29_3 =>
  @OptVH (binV .add .none v6 t29_3) ⟨fun t30_4 =>
  Q .normal [(2, v2), (6, t30_4), (17, v17), (18, v18), (19, v19)] M⟩⟩⟩
theorem e15_22 (P : Program) (Q : Exit → Slots → Mem → Prop) (s : Slots) (M : Mem) : wpC P c15_22 Q s M = w15_22 P Q M (sget s 2) (sget s 6) (sget s 8) (sget s 17) (sget s 18) (sget s 19) := by kernel_rfl
def c15_23 : ACode := (.seq c15_20 c15_22)
def c15_24 : ACode := (.seq c15_15 c15_23)
def c15_25 : ACode := (.block 1 c15_24)
def o15_26 : List AOper := [⟨some 31, (.bin .add .none (.tmp 19) (.const (.int .i64 1))), false, none⟩,
  ⟨some 19, (.mov (.tmp 31)), false, none⟩]
def c15_27 : ACode := (.region o15_26 [2, 6, 17, 18, 19])
def w15_27 (_P : Program) (Q : Exit → Slots → Mem → Prop) (M : Mem) (v2 : V) (v6 : V) (v17 : V) (v18 : V) (v19 : V) : Prop :=
  @OptVH (binV .add .none v19 (.int .i64 1)) ⟨fun t31_1 =>
  Q .normal [(2, v2), (6, v6), (17, v17), (18, v18), (19, t31_1)] M⟩
theorem e15_27 (P : Program) (Q : Exit → Slots → Mem → Prop) (s : Slots) (M : Mem) : wpC P c15_27 Q s M = w15_27 P Q M (sget s 2) (sget s 6) (sget s 17) (sget s 18) (sget s 19) := by kernel_rfl
def c15_28 : ACode := (.seq c15_25 c15_27)
def c15_29 : ACode := (.seq c15_13 c15_28)
def c15_30 : ACode := (.seq c15_12 c15_29)
def c15_31 : ACode := (.loop [2, 6, 17, 18, 19] c15_30)
def c15_32 : ACode := (.block 0 c15_31)
def c15_33 : ACode := (.seq c15_10 c15_32)
def o15_34 : List AOper := [⟨some 32, (.load 4 true (.tmp 2)), false, none⟩,
  ⟨some 33, (.mov (.tmp 6)), false, none⟩,
  ⟨some 34, (.call i_fare_capped [(.tmp 32), (.tmp 33)]), false, none⟩,
  ⟨some 4, (.mov (.tmp 34)), false, none⟩,
  ⟨some 5, (.mov (.const (.bool true))), true, none⟩]
def c15_35 : ACode := (.region o15_34 [4, 5])
def w15_35 (P : Program) (Q : Exit → Slots → Mem → Prop) (M : Mem) (v2 : V) (v6 : V) : Prop :=
  @OptVH (loadV 4 true v2 M) ⟨fun t32_1 =>
  @CallH P i_fare_capped [t32_1, v6] M ⟨fun t34_3 M3 =>
  Q .normal [(4, t34_3), (5, (.bool true))] M3⟩⟩
theorem e15_35 (P : Program) (Q : Exit → Slots → Mem → Prop) (s : Slots) (M : Mem) : wpC P c15_35 Q s M = w15_35 P Q M (sget s 2) (sget s 6) := by kernel_rfl
def c15_36 : ACode := (.seq c15_35 .ret)
def c15_37 : ACode := (.seq c15_33 c15_36)
def c15_38 : ACode := (.seq c15_8 c15_37)
def c15_39 : ACode := (.seq c15_6 c15_38)
def c15_40 : ACode := (.seq c15_1 c15_39)
def fn_fare_Total : AFn := ⟨35, [(.tmp 4), (.tmp 5)], c15_40⟩
theorem fn_fare_Total_ok : resFn PR h_fare_Total i_fare_Total = some fn_fare_Total := by kernel_rfl

def h_transitref35_Total : Hints := ⟨[(0, [1, 2]), (1, [1, 2, 14]), (2, [4, 5]), (3, [1, 2, 6]), (4, [1, 2, 6, 18]), (5, [1, 2, 6]), (6, [1, 2, 6, 34]), (7, [4, 5]), (8, [4, 5])], [(4, [1, 2, 6])], []⟩
def o16_0 : List AOper := [⟨some 2, (.box 4 (.tmp 0)), false, none⟩,
  ⟨some 4, (.mov (.const (.int .i64 0))), false, none⟩,
  ⟨some 5, (.mov (.const (.bool false))), true, none⟩]
def c16_1 : ACode := (.region o16_0 [1, 2])
def w16_1 (_P : Program) (Q : Exit → Slots → Mem → Prop) (M : Mem) (v0 : V) (v1 : V) : Prop :=
  @OptMH (boxV 4 v0 M) ⟨fun t2_1 M1 =>
  Q .normal [(1, v1), (2, t2_1)] M1⟩
theorem e16_1 (P : Program) (Q : Exit → Slots → Mem → Prop) (s : Slots) (M : Mem) : wpC P c16_1 Q s M = w16_1 P Q M (sget s 0) (sget s 1) := by kernel_rfl
def o16_2 : List AOper := [⟨some 4, (.mov (.const (.int .i64 0))), false, none⟩,
  ⟨some 5, (.mov (.const (.bool false))), true, none⟩]
def c16_3 : ACode := (.region o16_2 [4, 5])
def w16_3 (_P : Program) (Q : Exit → Slots → Mem → Prop) (M : Mem) : Prop :=
  Q .normal [(4, (.int .i64 0)), (5, (.bool false))] M
theorem e16_3 (P : Program) (Q : Exit → Slots → Mem → Prop) (s : Slots) (M : Mem) : wpC P c16_3 Q s M = w16_3 P Q M := by kernel_rfl
def c16_4 : ACode := (.seq c16_3 .ret)
def o16_5 : List AOper := [⟨some 7, (.load 4 true (.tmp 2)), false, none⟩,
  ⟨some 8, (.call i_transitref35_Valid [(.tmp 7)]), true, none⟩,
  ⟨some 9, (.un .not (.tmp 8)), true, none⟩,
  ⟨some 10, (.mov (.tmp 9)), true, none⟩,
  ⟨some 11, (.mov (.tmp 1)), false, some (10, false)⟩,
  ⟨some 12, (.lenSl (.tmp 11)), false, some (10, false)⟩,
  ⟨some 13, (.bin .gtr .none (.tmp 12) (.const (.int .i64 8))), true, some (10, false)⟩,
  ⟨some 14, (.pick (.tmp 10) (.const (.bool true)) (.tmp 13)), true, none⟩]
def c16_6 : ACode := (.seq (.region o16_5 [1, 2, 14]) (.cond (.tmp 14) c16_4 .skip))
def w16_6 (P : Program) (Q : Exit → Slots → Mem → Prop) (M : Mem) (v1 : V) (v2 : V) : Prop :=
  @OptVH (loadV 4 true v2 M) ⟨fun t7_1 =>
  @CallH P i_transitref35_Valid [t7_1] M ⟨fun t8_2 M2 => @OptBH (some t8_2) ⟨fun b8_2 =>
  @OptBH (unV .not (.bool b8_2)) ⟨fun b9_3 =>
  @BIfH b9_3
  ⟨wpC P c16_4 Q [(1, v1), (2, v2), (14, (.bool true))] M2⟩
  ⟨@OptVH (lenV v1 M2) ⟨fun t12_7 =>
  @OptBH (binV .gtr .none t12_7 (.int .i64 8)) ⟨fun b13_8 =>
  @BIfH b13_8
  ⟨wpC P c16_4 Q [(1, v1), (2, v2), (14, (.bool b13_8))] M2⟩
  ⟨Q .normal [(1, v1), (2, v2), (14, (.bool b13_8))] M2⟩⟩⟩⟩⟩⟩⟩⟩
theorem e16_6 (P : Program) (Q : Exit → Slots → Mem → Prop) (s : Slots) (M : Mem) : wpC P c16_6 Q s M = w16_6 P Q M (sget s 1) (sget s 2) := by kernel_rfl
def o16_7 : List AOper := [⟨some 6, (.mov (.const (.int .i64 0))), false, none⟩]
def c16_8 : ACode := (.region o16_7 [1, 2, 6])
def w16_8 (_P : Program) (Q : Exit → Slots → Mem → Prop) (M : Mem) (v1 : V) (v2 : V) : Prop :=
  Q .normal [(1, v1), (2, v2), (6, (.int .i64 0))] M
theorem e16_8 (P : Program) (Q : Exit → Slots → Mem → Prop) (s : Slots) (M : Mem) : wpC P c16_8 Q s M = w16_8 P Q M (sget s 1) (sget s 2) := by kernel_rfl
def o16_9 : List AOper := [⟨some 15, (.mov (.tmp 6)), false, none⟩,
  ⟨some 16, (.mov (.tmp 1)), false, none⟩,
  ⟨some 17, (.lenSl (.tmp 16)), false, none⟩,
  ⟨some 18, (.bin .lss .none (.tmp 15) (.tmp 17)), true, none⟩]
def c16_10 : ACode := (.seq (.region o16_9 [1, 2, 6, 18]) (.cond (.tmp 18) .skip (.exit 0)))
def w16_10 (_P : Program) (Q : Exit → Slots → Mem → Prop) (M : Mem) (v1 : V) (v2 : V) (v6 : V) : Prop :=
  @OptVH (lenV v1 M) ⟨fun t17_3 =>
  @OptBH (binV .lss .none v6 t17_3) ⟨fun b18_4 =>
  @BIfH b18_4
  ⟨Q .normal [(1, v1), (2, v2), (6, v6), (18, (.bool b18_4))] M⟩
  ⟨Q (.exit 0) [(1, v1), (2, v2), (6, v6), (18, (.bool b18_4))] M⟩⟩⟩
theorem e16_10 (P : Program) (Q : Exit → Slots → Mem → Prop) (s : Slots) (M : Mem) : wpC P c16_10 Q s M = w16_10 P Q M (sget s 1) (sget s 2) (sget s 6) := by kernel_rfl
def o16_11 : List AOper := [⟨some 4, (.mov (.const (.int .i64 0))), false, none⟩,
  ⟨some 5, (.mov (.const (.bool false))), true, none⟩]
def c16_12 : ACode := (.region o16_11 [4, 5])
def w16_12 (_P : Program) (Q : Exit → Slots → Mem → Prop) (M : Mem) : Prop :=
  Q .normal [(4, (.int .i64 0)), (5, (.bool false))] M
theorem e16_12 (P : Program) (Q : Exit → Slots → Mem → Prop) (s : Slots) (M : Mem) : wpC P c16_12 Q s M = w16_12 P Q M := by kernel_rfl
def c16_13 : ACode := (.seq c16_12 .ret)
def o16_14 : List AOper := [⟨some 21, (.mov (.tmp 1)), false, none⟩,
  ⟨some 22, (.mov (.tmp 6)), false, none⟩,
  ⟨some 23, (.indexSl 4 (.tmp 21) (.tmp 22)), false, none⟩,
  ⟨some 24, (.fieldAddr 3 (.tmp 23)), false, none⟩,
  ⟨some 25, (.load 1 false (.tmp 24)), false, none⟩,
  ⟨some 26, (.bin .lss .none (.tmp 25) (.const (.int .i64 0))), true, none⟩,
  ⟨some 27, (.mov (.tmp 26)), true, none⟩,
  ⟨some 28, (.mov (.tmp 1)), false, some (27, false)⟩,
  ⟨some 29, (.mov (.tmp 6)), false, some (27, false)⟩,
  ⟨some 30, (.indexSl 4 (.tmp 28) (.tmp 29)), false, some (27, false)⟩,
  ⟨some 31, (.fieldAddr 3 (.tmp 30)), false, some (27, false)⟩,
  ⟨some 32, (.load 1 false (.tmp 31)), false, some (27, false)⟩,
  ⟨some 33, (.bin .gtr .none (.tmp 32) (.const (.int .i64 1000000))), true, some (27, false)⟩,
  ⟨some 34, (.pick (.tmp 27) (.const (.bool true)) (.tmp 33)), true, none⟩]
def c16_15 : ACode := (.seq (.region o16_14 [1, 2, 6, 34]) (.cond (.tmp 34) c16_13 .skip))
def w16_15 (P : Program) (Q : Exit → Slots → Mem → Prop) (M : Mem) (v1 : V) (v2 : V) (v6 : V) : Prop :=
  @OptVH (indexSlV 4 v1 v6 M) ⟨fun t23_3 =>
  @OptVH (moveV 3 t23_3) ⟨fun t24_4 =>
  @OptVH (loadV 1 false t24_4 M) ⟨fun t25_5 =>
  @OptBH (binV .lss .none t25_5 (.int .i64 0)) ⟨fun b26_6 =>
  @BIfH b26_6
  ⟨wpC P c16_13 Q [(1, v1), (2, v2), (6, v6), (34, (.bool true))] M⟩
  ⟨@OptVH (indexSlV 4 v1 v6 M) ⟨fun t30_11 =>
  @OptVH (moveV 3 t30_11) ⟨fun t31_12 =>
  @OptVH (loadV 1 false t31_12 M) ⟨fun t32_13 =>
  @OptBH (binV .gtr .none t32_13 (.int .i64 1000000)) ⟨fun b33_14 =>
  @BIfH b33_14
  ⟨wpC P c16_13 Q [(1, v1), (2, v2), (6, v6), (34, (.bool b33_14))] M⟩
  ⟨Q .normal [(1, v1), (2, v2), (6, v6), (34, (.bool b33_14))] M⟩⟩⟩⟩⟩⟩⟩⟩⟩⟩
theorem e16_15 (P : Program) (Q : Exit → Slots → Mem → Prop) (s : Slots) (M : Mem) : wpC P c16_15 Q s M = w16_15 P Q M (sget s 1) (sget s 2) (sget s 6) := by kernel_rfl
def c16_16 : ACode := (.block 1 c16_15)
def o16_17 : List AOper := [⟨some 19, (.mov (.tmp 6)), false, none⟩,
  ⟨some 20, (.bin .add .none (.tmp 19) (.const (.int .i64 1))), false, none⟩,
  ⟨some 6, (.mov (.tmp 20)), false, none⟩]
def c16_18 : ACode := (.region o16_17 [1, 2, 6])
def w16_18 (_P : Program) (Q : Exit → Slots → Mem → Prop) (M : Mem) (v1 : V) (v2 : V) (v6 : V) : Prop :=
  @OptVH (binV .add .none v6 (.int .i64 1)) ⟨fun t20_2 =>
  Q .normal [(1, v1), (2, v2), (6, t20_2)] M⟩
theorem e16_18 (P : Program) (Q : Exit → Slots → Mem → Prop) (s : Slots) (M : Mem) : wpC P c16_18 Q s M = w16_18 P Q M (sget s 1) (sget s 2) (sget s 6) := by kernel_rfl
def c16_19 : ACode := (.seq c16_16 c16_18)
def c16_20 : ACode := (.seq c16_10 c16_19)
def c16_21 : ACode := (.loop [1, 2, 6] c16_20)
def c16_22 : ACode := (.block 0 c16_21)
def c16_23 : ACode := (.seq c16_8 c16_22)
def o16_24 : List AOper := [⟨some 35, (.load 4 true (.tmp 2)), false, none⟩,
  ⟨some 36, (.mov (.tmp 1)), false, none⟩,
  ⟨some 37, (.call i_transitref35_Sum [(.tmp 36)]), false, none⟩,
  ⟨some 38, (.call i_transitref35_Capped [(.tmp 35), (.tmp 37)]), false, none⟩,
  ⟨some 4, (.mov (.tmp 38)), false, none⟩,
  ⟨some 5, (.mov (.const (.bool true))), true, none⟩]
def c16_25 : ACode := (.mixed o16_24 [true, true, true, false, true, true] [4, 5])
def w16_25 (P : Program) (Q : Exit → Slots → Mem → Prop) (M : Mem) (v1 : V) (v2 : V) : Prop :=
  @OptVH (loadV 4 true v2 M) ⟨fun t35_1 =>
  @CallQ P i_transitref35_Sum [v1] M ⟨fun t37_3 M3 =>
  @CallH P i_transitref35_Capped [t35_1, t37_3] M3 ⟨fun t38_4 M4 =>
  Q .normal [(4, t38_4), (5, (.bool true))] M4⟩⟩⟩
theorem e16_25 (P : Program) (Q : Exit → Slots → Mem → Prop) (s : Slots) (M : Mem) : wpC P c16_25 Q s M = w16_25 P Q M (sget s 1) (sget s 2) := by kernel_rfl
def c16_26 : ACode := (.seq c16_25 .ret)
def c16_27 : ACode := (.seq c16_23 c16_26)
def c16_28 : ACode := (.seq c16_6 c16_27)
def c16_29 : ACode := (.seq c16_1 c16_28)
def fn_transitref35_Total : AFn := ⟨39, [(.tmp 4), (.tmp 5)], c16_29⟩
theorem fn_transitref35_Total_ok : resFn PR h_transitref35_Total i_transitref35_Total = some fn_transitref35_Total := by kernel_rfl

def h_fare_Verify : Hints := ⟨[(0, [1, 2, 3]), (1, [1, 2, 3, 8]), (2, [1, 2, 3, 8, 18]), (3, [6, 7]), (4, [1, 2, 3, 9, 10]), (5, [1, 3, 9, 10, 20, 21, 22]), (6, [1, 3, 9, 10, 20, 21, 22, 23]), (7, [1, 3, 9, 10, 12, 20, 21, 22]), (8, [1, 3, 10, 12, 13, 20, 21, 22]), (9, [1, 3, 10, 12, 13, 20, 21, 22, 32]), (10, [6, 7]), (11, [1, 3, 9, 10, 12, 20, 21, 22]), (12, [1, 3, 9, 10, 20, 21, 22]), (13, [1, 3, 9, 10, 20, 21, 22]), (14, [3, 10, 45]), (15, [6, 7]), (16, [6, 7])], [(6, [1, 3, 9, 10, 20, 21, 22])], []⟩
def o17_0 : List AOper := [⟨some 3, (.box 4 (.tmp 0)), false, none⟩,
  ⟨some 6, (.mov (.const (.int .i64 0))), false, none⟩,
  ⟨some 7, (.mov (.const (.int .i64 0))), false, none⟩]
def c17_1 : ACode := (.region o17_0 [1, 2, 3])
def w17_1 (_P : Program) (Q : Exit → Slots → Mem → Prop) (M : Mem) (v0 : V) (v1 : V) (v2 : V) : Prop :=
  @OptMH (boxV 4 v0 M) ⟨fun t3_1 M1 =>
  Q .normal [(1, v1), (2, v2), (3, t3_1)] M1⟩
theorem e17_1 (P : Program) (Q : Exit → Slots → Mem → Prop) (s : Slots) (M : Mem) : wpC P c17_1 Q s M = w17_1 P Q M (sget s 0) (sget s 1) (sget s 2) := by kernel_rfl
def o17_2 : List AOper := [⟨some 14, (.load 4 true (.tmp 3)), false, none⟩,
  ⟨some 15, (.mov (.tmp 1)), false, none⟩,
  ⟨some 16, (.call i_fare_valid [(.tmp 14), (.tmp 15)]), false, none⟩,
  ⟨some 8, (.mov (.tmp 16)), false, none⟩]
def c17_3 : ACode := (.region o17_2 [1, 2, 3, 8])
def w17_3 (P : Program) (Q : Exit → Slots → Mem → Prop) (M : Mem) (v1 : V) (v2 : V) (v3 : V) : Prop :=
  @OptVH (loadV 4 true v3 M) ⟨fun t14_1 =>
  @CallH P i_fare_valid [t14_1, v1] M ⟨fun t16_3 M3 =>
  Q .normal [(1, v1), (2, v2), (3, v3), (8, t16_3)] M3⟩⟩
theorem e17_3 (P : Program) (Q : Exit → Slots → Mem → Prop) (s : Slots) (M : Mem) : wpC P c17_3 Q s M = w17_3 P Q M (sget s 1) (sget s 2) (sget s 3) := by kernel_rfl
def o17_4 : List AOper := [⟨some 19, (.mov (.tmp 8)), false, none⟩,
  ⟨some 6, (.mov (.const (.int .i64 0))), false, none⟩,
  ⟨some 7, (.mov (.tmp 19)), false, none⟩]
def c17_5 : ACode := (.region o17_4 [6, 7])
def w17_5 (_P : Program) (Q : Exit → Slots → Mem → Prop) (M : Mem) (v8 : V) : Prop :=
  Q .normal [(6, (.int .i64 0)), (7, v8)] M
theorem e17_5 (P : Program) (Q : Exit → Slots → Mem → Prop) (s : Slots) (M : Mem) : wpC P c17_5 Q s M = w17_5 P Q M (sget s 8) := by kernel_rfl
def c17_6 : ACode := (.seq c17_5 .ret)
def o17_7 : List AOper := [⟨some 17, (.mov (.tmp 8)), false, none⟩,
  ⟨some 18, (.bin .neq .none (.tmp 17) (.const (.int .i64 0))), true, none⟩]
def c17_8 : ACode := (.seq (.region o17_7 [1, 2, 3, 8, 18]) (.cond (.tmp 18) c17_6 .skip))
def w17_8 (P : Program) (Q : Exit → Slots → Mem → Prop) (M : Mem) (v1 : V) (v2 : V) (v3 : V) (v8 : V) : Prop :=
  @OptBH (binV .neq .none v8 (.int .i64 0)) ⟨fun b18_2 =>
  @BIfH b18_2
  ⟨wpC P c17_6 Q [(1, v1), (2, v2), (3, v3), (8, v8), (18, (.bool b18_2))] M⟩
  ⟨Q .normal [(1, v1), (2, v2), (3, v3), (8, v8), (18, (.bool b18_2))] M⟩⟩
theorem e17_8 (P : Program) (Q : Exit → Slots → Mem → Prop) (s : Slots) (M : Mem) : wpC P c17_8 Q s M = w17_8 P Q M (sget s 1) (sget s 2) (sget s 3) (sget s 8) := by kernel_rfl
def c17_9 : ACode := (.seq c17_3 c17_8)
def o17_10 : List AOper := [⟨some 9, (.mov (.const (.int .i64 0))), false, none⟩,
  ⟨some 10, (.mov (.const (.int .i64 0))), false, none⟩]
def c17_11 : ACode := (.region o17_10 [1, 2, 3, 9, 10])
def w17_11 (_P : Program) (Q : Exit → Slots → Mem → Prop) (M : Mem) (v1 : V) (v2 : V) (v3 : V) : Prop :=
  Q .normal [(1, v1), (2, v2), (3, v3), (9, (.int .i64 0)), (10, (.int .i64 0))] M
theorem e17_11 (P : Program) (Q : Exit → Slots → Mem → Prop) (s : Slots) (M : Mem) : wpC P c17_11 Q s M = w17_11 P Q M (sget s 1) (sget s 2) (sget s 3) := by kernel_rfl
def o17_12 : List AOper := [⟨some 20, (.mov (.tmp 2)), false, none⟩,
  ⟨some 21, (.lenSl (.tmp 20)), false, none⟩,
  ⟨some 22, (.mov (.const (.int .i64 0))), false, none⟩]
def c17_13 : ACode := (.region o17_12 [1, 3, 9, 10, 20, 21, 22])
def w17_13 (_P : Program) (Q : Exit → Slots → Mem → Prop) (M : Mem) (v1 : V) (v2 : V) (v3 : V) (v9 : V) (v10 : V) : Prop :=
  @OptVH (lenV v2 M) ⟨fun t21_2 =>
  Q .normal [(1, v1), (3, v3), (9, v9), (10, v10), (20, v2), (21, t21_2), (22, (.int .i64 0))] M⟩
theorem e17_13 (P : Program) (Q : Exit → Slots → Mem → Prop) (s : Slots) (M : Mem) : wpC P c17_13 Q s M = w17_13 P Q M (sget s 1) (sget s 2) (sget s 3) (sget s 9) (sget s 10) := by kernel_rfl
def o17_14 : List AOper := [⟨some 23, (.bin .lss .none (.tmp 22) (.tmp 21)), false, none⟩]
def c17_15 : ACode := (.region o17_14 [1, 3, 9, 10, 20, 21, 22, 23])
def w17_15 (_P : Program) (Q : Exit → Slots → Mem → Prop) (M : Mem) (v1 : V) (v3 : V) (v9 : V) (v10 : V) (v20 : V) (v21 : V) (v22 : V) : Prop :=
  @OptVH (binV .lss .none v22 v21) ⟨fun t23_1 =>
  Q .normal [(1, v1), (3, v3), (9, v9), (10, v10), (20, v20), (21, v21), (22, v22), (23, t23_1)] M⟩
theorem e17_15 (P : Program) (Q : Exit → Slots → Mem → Prop) (s : Slots) (M : Mem) : wpC P c17_15 Q s M = w17_15 P Q M (sget s 1) (sget s 3) (sget s 9) (sget s 10) (sget s 20) (sget s 21) (sget s 22) := by kernel_rfl
def c17_16 : ACode := (.cond (.tmp 23) .skip (.exit 0))
def o17_17 : List AOper := [⟨some 24, (.indexSl 4 (.tmp 20) (.tmp 22)), false, none⟩,
  ⟨some 25, (.load 4 true (.tmp 24)), false, none⟩,
  ⟨some 12, (.alloc [(.int .i64 0), (.int .i64 0), (.int .i64 0), (.int .i64 0)]), false, none⟩,
  ⟨none, (.store 4 (.tmp 12) (.tmp 25)), false, none⟩]
def c17_18 : ACode := (.region o17_17 [1, 3, 9, 10, 12, 20, 21, 22])
def w17_18 (_P : Program) (Q : Exit → Slots → Mem → Prop) (M : Mem) (v1 : V) (v3 : V) (v9 : V) (v10 : V) (v20 : V) (v21 : V) (v22 : V) : Prop :=
  @OptVH (indexSlV 4 v20 v22 M) ⟨fun t24_1 =>
  @OptVH (loadV 4 true t24_1 M) ⟨fun t25_2 =>
  @OptMH (allocV [(.int .i64 0), (.int .i64 0), (.int .i64 0), (.int .i64 0)] M) ⟨fun t12_3 M3 =>
  @OptMH (storeVM 4 t12_3 t25_2 M3) ⟨fun _tx_4 M4 =>
  Q .normal [(1, v1), (3, v3), (9, v9), (10, v10), (12, t12_3), (20, v20), (21, v21), (22, v22)] M4⟩⟩⟩⟩
theorem e17_18 (P : Program) (Q : Exit → Slots → Mem → Prop) (s : Slots) (M : Mem) : wpC P c17_18 Q s M = w17_18 P Q M (sget s 1) (sget s 3) (sget s 9) (sget s 10) (sget s 20) (sget s 21) (sget s 22) := by kernel_rfl
def o17_19 : List AOper := [⟨some 26, (.load 4 true (.tmp 3)), false, none⟩,
  ⟨some 27, (.mov (.tmp 1)), false, none⟩,
  ⟨some 28, (.load 4 true (.tmp 12)), false, none⟩,
  ⟨some 29, (.mov (.tmp 9)), false, none⟩,
  ⟨some 30, (.call i_fare_check [(.tmp 26), (.tmp 27), (.tmp 28), (.tmp 29)]), false, none⟩,
  ⟨some 13, (.mov (.tmp 30)), false, none⟩]
def c17_20 : ACode := (.region o17_19 [1, 3, 10, 12, 13, 20, 21, 22])
def w17_20 (P : Program) (Q : Exit → Slots → Mem → Prop) (M : Mem) (v1 : V) (v3 : V) (v9 : V) (v10 : V) (v12 : V) (v20 : V) (v21 : V) (v22 : V) : Prop :=
  @OptVH (loadV 4 true v3 M) ⟨fun t26_1 =>
  @OptVH (loadV 4 true v12 M) ⟨fun t28_3 =>
  @CallH P i_fare_check [t26_1, v1, t28_3, v9] M ⟨fun t30_5 M5 =>
  Q .normal [(1, v1), (3, v3), (10, v10), (12, v12), (13, t30_5), (20, v20), (21, v21), (22, v22)] M5⟩⟩⟩
theorem e17_20 (P : Program) (Q : Exit → Slots → Mem → Prop) (s : Slots) (M : Mem) : wpC P c17_20 Q s M = w17_20 P Q M (sget s 1) (sget s 3) (sget s 9) (sget s 10) (sget s 12) (sget s 20) (sget s 21) (sget s 22) := by kernel_rfl
def o17_21 : List AOper := [⟨some 33, (.mov (.tmp 13)), false, none⟩,
  ⟨some 6, (.mov (.const (.int .i64 0))), false, none⟩,
  ⟨some 7, (.mov (.tmp 33)), false, none⟩]
def c17_22 : ACode := (.region o17_21 [6, 7])
def w17_22 (_P : Program) (Q : Exit → Slots → Mem → Prop) (M : Mem) (v13 : V) : Prop :=
  Q .normal [(6, (.int .i64 0)), (7, v13)] M
theorem e17_22 (P : Program) (Q : Exit → Slots → Mem → Prop) (s : Slots) (M : Mem) : wpC P c17_22 Q s M = w17_22 P Q M (sget s 13) := by kernel_rfl
def c17_23 : ACode := (.seq c17_22 .ret)
def o17_24 : List AOper := [⟨some 31, (.mov (.tmp 13)), false, none⟩,
  ⟨some 32, (.bin .neq .none (.tmp 31) (.const (.int .i64 0))), true, none⟩]
def c17_25 : ACode := (.seq (.region o17_24 [1, 3, 10, 12, 13, 20, 21, 22, 32]) (.cond (.tmp 32) c17_23 .skip))
def w17_25 (P : Program) (Q : Exit → Slots → Mem → Prop) (M : Mem) (v1 : V) (v3 : V) (v10 : V) (v12 : V) (v13 : V) (v20 : V) (v21 : V) (v22 : V) : Prop :=
  @OptBH (binV .neq .none v13 (.int .i64 0)) ⟨fun b32_2 =>
  @BIfH b32_2
  ⟨wpC P c17_23 Q [(1, v1), (3, v3), (10, v10), (12, v12), (13, v13), (20, v20), (21, v21), (22, v22), (32, (.bool b32_2))] M⟩
  ⟨Q .normal [(1, v1), (3, v3), (10, v10), (12, v12), (13, v13), (20, v20), (21, v21), (22, v22), (32, (.bool b32_2))] M⟩⟩
theorem e17_25 (P : Program) (Q : Exit → Slots → Mem → Prop) (s : Slots) (M : Mem) : wpC P c17_25 Q s M = w17_25 P Q M (sget s 1) (sget s 3) (sget s 10) (sget s 12) (sget s 13) (sget s 20) (sget s 21) (sget s 22) := by kernel_rfl
def c17_26 : ACode := (.seq c17_20 c17_25)
def o17_27 : List AOper := [⟨some 34, (.fieldAddr 2 (.tmp 12)), false, none⟩,
  ⟨some 35, (.load 1 false (.tmp 34)), false, none⟩,
  ⟨some 36, (.bin .add .none (.tmp 35) (.const (.int .i64 1))), false, none⟩,
  ⟨some 9, (.mov (.tmp 36)), false, none⟩]
def c17_28 : ACode := (.region o17_27 [1, 3, 9, 10, 12, 20, 21, 22])
def w17_28 (_P : Program) (Q : Exit → Slots → Mem → Prop) (M : Mem) (v1 : V) (v3 : V) (v10 : V) (v12 : V) (v20 : V) (v21 : V) (v22 : V) : Prop :=
  @OptVH (moveV 2 v12) ⟨fun t34_1 =>
  @OptVH (loadV 1 false t34_1 M) ⟨fun t35_2 =>
  @OptVH (binV .add .none t35_2 (.int .i64 1)) ⟨fun t36_3 =>
  Q .normal [(1, v1), (3, v3), (9, t36_3), (10, v10), (12, v12), (20, v20), (21, v21), (22, v22)] M⟩⟩⟩
theorem e17_28 (P : Program) (Q : Exit → Slots → Mem → Prop) (s : Slots) (M : Mem) : wpC P c17_28 Q s M = w17_28 P Q M (sget s 1) (sget s 3) (sget s 10) (sget s 12) (sget s 20) (sget s 21) (sget s 22) := by kernel_rfl
def o17_29 : List AOper := [⟨some 37, (.mov (.tmp 10)), false, none⟩,
  ⟨some 38, (.fieldAddr 3 (.tmp 12)), false, none⟩,
  ⟨some 39, (.load 1 false (.tmp 38)), false, none⟩,
  ⟨some 40, (.bin .add .none (.tmp 37) (.tmp 39)), false, none⟩,
  ⟨some 10, (.mov (.tmp 40)), false, none⟩]
def c17_30 : ACode := (.region o17_29 [1, 3, 9, 10, 20, 21, 22])
def w17_30 (_P : Program) (Q : Exit → Slots → Mem → Prop) (M : Mem) (v1 : V) (v3 : V) (v9 : V) (v10 : V) (v12 : V) (v20 : V) (v21 : V) (v22 : V) : Prop :=
  @OptVH (moveV 3 v12) ⟨fun t38_2 =>
  @OptVH (loadV 1 false t38_2 M) ⟨fun t39_3 =>
  @OptVH (binV .add .none v10 t39_3) ⟨fun t40_4 =>
  Q .normal [(1, v1), (3, v3), (9, v9), (10, t40_4), (20, v20), (21, v21), (22, v22)] M⟩⟩⟩
theorem e17_30 (P : Program) (Q : Exit → Slots → Mem → Prop) (s : Slots) (M : Mem) : wpC P c17_30 Q s M = w17_30 P Q M (sget s 1) (sget s 3) (sget s 9) (sget s 10) (sget s 12) (sget s 20) (sget s 21) (sget s 22) := by kernel_rfl
def c17_31 : ACode := (.seq c17_28 c17_30)
def c17_32 : ACode := (.seq c17_26 c17_31)
def c17_33 : ACode := (.seq c17_18 c17_32)
def c17_34 : ACode := (.block 1 c17_33)
def o17_35 : List AOper := [⟨some 41, (.bin .add .none (.tmp 22) (.const (.int .i64 1))), false, none⟩,
  ⟨some 22, (.mov (.tmp 41)), false, none⟩]
def c17_36 : ACode := (.region o17_35 [1, 3, 9, 10, 20, 21, 22])
def w17_36 (_P : Program) (Q : Exit → Slots → Mem → Prop) (M : Mem) (v1 : V) (v3 : V) (v9 : V) (v10 : V) (v20 : V) (v21 : V) (v22 : V) : Prop :=
  @OptVH (binV .add .none v22 (.int .i64 1)) ⟨fun t41_1 =>
  Q .normal [(1, v1), (3, v3), (9, v9), (10, v10), (20, v20), (21, v21), (22, t41_1)] M⟩
theorem e17_36 (P : Program) (Q : Exit → Slots → Mem → Prop) (s : Slots) (M : Mem) : wpC P c17_36 Q s M = w17_36 P Q M (sget s 1) (sget s 3) (sget s 9) (sget s 10) (sget s 20) (sget s 21) (sget s 22) := by kernel_rfl
def c17_37 : ACode := (.seq c17_34 c17_36)
def c17_38 : ACode := (.seq c17_16 c17_37)
def c17_39 : ACode := (.seq c17_15 c17_38)
def c17_40 : ACode := (.loop [1, 3, 9, 10, 20, 21, 22] c17_39)
def c17_41 : ACode := (.block 0 c17_40)
def c17_42 : ACode := (.seq c17_13 c17_41)
def o17_43 : List AOper := [⟨some 6, (.mov (.const (.int .i64 0))), false, none⟩,
  ⟨some 7, (.mov (.const (.int .i64 8))), false, none⟩]
def c17_44 : ACode := (.region o17_43 [6, 7])
def w17_44 (_P : Program) (Q : Exit → Slots → Mem → Prop) (M : Mem) : Prop :=
  Q .normal [(6, (.int .i64 0)), (7, (.int .i64 8))] M
theorem e17_44 (P : Program) (Q : Exit → Slots → Mem → Prop) (s : Slots) (M : Mem) : wpC P c17_44 Q s M = w17_44 P Q M := by kernel_rfl
def c17_45 : ACode := (.seq c17_44 .ret)
def o17_46 : List AOper := [⟨some 42, (.mov (.tmp 9)), false, none⟩,
  ⟨some 43, (.mov (.tmp 1)), false, none⟩,
  ⟨some 44, (.lenSl (.tmp 43)), false, none⟩,
  ⟨some 45, (.bin .neq .none (.tmp 42) (.tmp 44)), true, none⟩]
def c17_47 : ACode := (.seq (.region o17_46 [3, 10, 45]) (.cond (.tmp 45) c17_45 .skip))
def w17_47 (P : Program) (Q : Exit → Slots → Mem → Prop) (M : Mem) (v1 : V) (v3 : V) (v9 : V) (v10 : V) : Prop :=
  @OptVH (lenV v1 M) ⟨fun t44_3 =>
  @OptBH (binV .neq .none v9 t44_3) ⟨fun b45_4 =>
  @BIfH b45_4
  ⟨wpC P c17_45 Q [(3, v3), (10, v10), (45, (.bool b45_4))] M⟩
  ⟨Q .normal [(3, v3), (10, v10), (45, (.bool b45_4))] M⟩⟩⟩
theorem e17_47 (P : Program) (Q : Exit → Slots → Mem → Prop) (s : Slots) (M : Mem) : wpC P c17_47 Q s M = w17_47 P Q M (sget s 1) (sget s 3) (sget s 9) (sget s 10) := by kernel_rfl
def o17_48 : List AOper := [⟨some 46, (.load 4 true (.tmp 3)), false, none⟩,
  ⟨some 47, (.mov (.tmp 10)), false, none⟩,
  ⟨some 48, (.call i_fare_capped [(.tmp 46), (.tmp 47)]), false, none⟩,
  ⟨some 6, (.mov (.tmp 48)), false, none⟩,
  ⟨some 7, (.mov (.const (.int .i64 0))), false, none⟩]
def c17_49 : ACode := (.region o17_48 [6, 7])
def w17_49 (P : Program) (Q : Exit → Slots → Mem → Prop) (M : Mem) (v3 : V) (v10 : V) : Prop :=
  @OptVH (loadV 4 true v3 M) ⟨fun t46_1 =>
  @CallH P i_fare_capped [t46_1, v10] M ⟨fun t48_3 M3 =>
  Q .normal [(6, t48_3), (7, (.int .i64 0))] M3⟩⟩
theorem e17_49 (P : Program) (Q : Exit → Slots → Mem → Prop) (s : Slots) (M : Mem) : wpC P c17_49 Q s M = w17_49 P Q M (sget s 3) (sget s 10) := by kernel_rfl
def c17_50 : ACode := (.seq c17_49 .ret)
def c17_51 : ACode := (.seq c17_47 c17_50)
def c17_52 : ACode := (.seq c17_42 c17_51)
def c17_53 : ACode := (.seq c17_11 c17_52)
def c17_54 : ACode := (.seq c17_9 c17_53)
def c17_55 : ACode := (.seq c17_1 c17_54)
def fn_fare_Verify : AFn := ⟨49, [(.tmp 6), (.tmp 7)], c17_55⟩
theorem fn_fare_Verify_ok : resFn PR h_fare_Verify i_fare_Verify = some fn_fare_Verify := by kernel_rfl

def h_transitref35_Verify : Hints := ⟨[(0, [1, 2, 3]), (1, [1, 2, 3, 13]), (2, [6, 7]), (3, [1, 2, 3, 16]), (4, [6, 7]), (5, [1, 2, 3, 8]), (6, [1, 2, 3, 8, 9]), (7, [1, 2, 3, 8, 9, 20]), (8, [1, 2, 3, 8, 9]), (9, [1, 2, 3, 9, 10]), (10, [1, 2, 3, 9, 10, 32]), (11, [6, 7]), (12, [1, 2, 3, 8, 9]), (13, [2, 3, 43]), (14, [6, 7]), (15, [6, 7])], [(7, [1, 2, 3, 8, 9])], []⟩
def o18_0 : List AOper := [⟨some 3, (.box 4 (.tmp 0)), false, none⟩,
  ⟨some 6, (.mov (.const (.int .i64 0))), false, none⟩,
  ⟨some 7, (.mov (.const (.int .i64 0))), false, none⟩]
def c18_1 : ACode := (.region o18_0 [1, 2, 3])
def w18_1 (_P : Program) (Q : Exit → Slots → Mem → Prop) (M : Mem) (v0 : V) (v1 : V) (v2 : V) : Prop :=
  @OptMH (boxV 4 v0 M) ⟨fun t3_1 M1 =>
  Q .normal [(1, v1), (2, v2), (3, t3_1)] M1⟩
theorem e18_1 (P : Program) (Q : Exit → Slots → Mem → Prop) (s : Slots) (M : Mem) : wpC P c18_1 Q s M = w18_1 P Q M (sget s 0) (sget s 1) (sget s 2) := by kernel_rfl
def o18_2 : List AOper := [⟨some 6, (.mov (.const (.int .i64 0))), false, none⟩,
  ⟨some 7, (.mov (.const (.int .i64 20))), false, none⟩]
def c18_3 : ACode := (.region o18_2 [6, 7])
def w18_3 (_P : Program) (Q : Exit → Slots → Mem → Prop) (M : Mem) : Prop :=
  Q .normal [(6, (.int .i64 0)), (7, (.int .i64 20))] M
theorem e18_3 (P : Program) (Q : Exit → Slots → Mem → Prop) (s : Slots) (M : Mem) : wpC P c18_3 Q s M = w18_3 P Q M := by kernel_rfl
def c18_4 : ACode := (.seq c18_3 .ret)
def o18_5 : List AOper := [⟨some 11, (.load 4 true (.tmp 3)), false, none⟩,
  ⟨some 12, (.call i_transitref35_Valid [(.tmp 11)]), true, none⟩,
  ⟨some 13, (.un .not (.tmp 12)), true, none⟩]
def c18_6 : ACode := (.seq (.region o18_5 [1, 2, 3, 13]) (.cond (.tmp 13) c18_4 .skip))
def w18_6 (P : Program) (Q : Exit → Slots → Mem → Prop) (M : Mem) (v1 : V) (v2 : V) (v3 : V) : Prop :=
  @OptVH (loadV 4 true v3 M) ⟨fun t11_1 =>
  @CallH P i_transitref35_Valid [t11_1] M ⟨fun t12_2 M2 => @OptBH (some t12_2) ⟨fun b12_2 =>
  @OptBH (unV .not (.bool b12_2)) ⟨fun b13_3 =>
  @BIfH b13_3
  ⟨wpC P c18_4 Q [(1, v1), (2, v2), (3, v3), (13, (.bool b13_3))] M2⟩
  ⟨Q .normal [(1, v1), (2, v2), (3, v3), (13, (.bool b13_3))] M2⟩⟩⟩⟩⟩
theorem e18_6 (P : Program) (Q : Exit → Slots → Mem → Prop) (s : Slots) (M : Mem) : wpC P c18_6 Q s M = w18_6 P Q M (sget s 1) (sget s 2) (sget s 3) := by kernel_rfl
def o18_7 : List AOper := [⟨some 6, (.mov (.const (.int .i64 0))), false, none⟩,
  ⟨some 7, (.mov (.const (.int .i64 33))), false, none⟩]
def c18_8 : ACode := (.region o18_7 [6, 7])
def w18_8 (_P : Program) (Q : Exit → Slots → Mem → Prop) (M : Mem) : Prop :=
  Q .normal [(6, (.int .i64 0)), (7, (.int .i64 33))] M
theorem e18_8 (P : Program) (Q : Exit → Slots → Mem → Prop) (s : Slots) (M : Mem) : wpC P c18_8 Q s M = w18_8 P Q M := by kernel_rfl
def c18_9 : ACode := (.seq c18_8 .ret)
def o18_10 : List AOper := [⟨some 14, (.mov (.tmp 1)), false, none⟩,
  ⟨some 15, (.lenSl (.tmp 14)), false, none⟩,
  ⟨some 16, (.bin .gtr .none (.tmp 15) (.const (.int .i64 8))), true, none⟩]
def c18_11 : ACode := (.seq (.region o18_10 [1, 2, 3, 16]) (.cond (.tmp 16) c18_9 .skip))
def w18_11 (P : Program) (Q : Exit → Slots → Mem → Prop) (M : Mem) (v1 : V) (v2 : V) (v3 : V) : Prop :=
  @OptVH (lenV v1 M) ⟨fun t15_2 =>
  @OptBH (binV .gtr .none t15_2 (.int .i64 8)) ⟨fun b16_3 =>
  @BIfH b16_3
  ⟨wpC P c18_9 Q [(1, v1), (2, v2), (3, v3), (16, (.bool b16_3))] M⟩
  ⟨Q .normal [(1, v1), (2, v2), (3, v3), (16, (.bool b16_3))] M⟩⟩⟩
theorem e18_11 (P : Program) (Q : Exit → Slots → Mem → Prop) (s : Slots) (M : Mem) : wpC P c18_11 Q s M = w18_11 P Q M (sget s 1) (sget s 2) (sget s 3) := by kernel_rfl
def o18_12 : List AOper := [⟨some 8, (.mov (.const (.int .i64 0))), false, none⟩]
def c18_13 : ACode := (.region o18_12 [1, 2, 3, 8])
def w18_13 (_P : Program) (Q : Exit → Slots → Mem → Prop) (M : Mem) (v1 : V) (v2 : V) (v3 : V) : Prop :=
  Q .normal [(1, v1), (2, v2), (3, v3), (8, (.int .i64 0))] M
theorem e18_13 (P : Program) (Q : Exit → Slots → Mem → Prop) (s : Slots) (M : Mem) : wpC P c18_13 Q s M = w18_13 P Q M (sget s 1) (sget s 2) (sget s 3) := by kernel_rfl
def o18_14 : List AOper := [⟨some 9, (.mov (.const (.int .i64 0))), false, none⟩]
def c18_15 : ACode := (.region o18_14 [1, 2, 3, 8, 9])
def w18_15 (_P : Program) (Q : Exit → Slots → Mem → Prop) (M : Mem) (v1 : V) (v2 : V) (v3 : V) (v8 : V) : Prop :=
  Q .normal [(1, v1), (2, v2), (3, v3), (8, v8), (9, (.int .i64 0))] M
theorem e18_15 (P : Program) (Q : Exit → Slots → Mem → Prop) (s : Slots) (M : Mem) : wpC P c18_15 Q s M = w18_15 P Q M (sget s 1) (sget s 2) (sget s 3) (sget s 8) := by kernel_rfl
def o18_16 : List AOper := [⟨some 17, (.mov (.tmp 9)), false, none⟩,
  ⟨some 18, (.mov (.tmp 2)), false, none⟩,
  ⟨some 19, (.lenSl (.tmp 18)), false, none⟩,
  ⟨some 20, (.bin .lss .none (.tmp 17) (.tmp 19)), true, none⟩]
def c18_17 : ACode := (.seq (.region o18_16 [1, 2, 3, 8, 9, 20]) (.cond (.tmp 20) .skip (.exit 0)))
def w18_17 (_P : Program) (Q : Exit → Slots → Mem → Prop) (M : Mem) (v1 : V) (v2 : V) (v3 : V) (v8 : V) (v9 : V) : Prop :=
  @OptVH (lenV v2 M) ⟨fun t19_3 =>
  @OptBH (binV .lss .none v9 t19_3) ⟨fun b20_4 =>
  @BIfH b20_4
  ⟨Q .normal [(1, v1), (2, v2), (3, v3), (8, v8), (9, v9), (20, (.bool b20_4))] M⟩
  ⟨Q (.exit 0) [(1, v1), (2, v2), (3, v3), (8, v8), (9, v9), (20, (.bool b20_4))] M⟩⟩⟩
theorem e18_17 (P : Program) (Q : Exit → Slots → Mem → Prop) (s : Slots) (M : Mem) : wpC P c18_17 Q s M = w18_17 P Q M (sget s 1) (sget s 2) (sget s 3) (sget s 8) (sget s 9) := by kernel_rfl
def o18_18 : List AOper := [⟨some 23, (.load 4 true (.tmp 3)), false, none⟩,
  ⟨some 24, (.mov (.tmp 1)), false, none⟩,
  ⟨some 25, (.mov (.tmp 2)), false, none⟩,
  ⟨some 26, (.mov (.tmp 9)), false, none⟩,
  ⟨some 27, (.indexSl 4 (.tmp 25) (.tmp 26)), false, none⟩,
  ⟨some 28, (.load 4 true (.tmp 27)), false, none⟩,
  ⟨some 29, (.mov (.tmp 8)), false, none⟩,
  ⟨some 30, (.call i_transitref35_one [(.tmp 23), (.tmp 24), (.tmp 28), (.tmp 29)]), false, none⟩,
  ⟨some 10, (.mov (.tmp 30)), false, none⟩]
def c18_19 : ACode := (.mixed o18_18 [true, true, true, true, true, true, true, false, true] [1, 2, 3, 9, 10])
def w18_19 (P : Program) (Q : Exit → Slots → Mem → Prop) (M : Mem) (v1 : V) (v2 : V) (v3 : V) (v8 : V) (v9 : V) : Prop :=
  @OptVH (loadV 4 true v3 M) ⟨fun t23_1 =>
  @OptVH (indexSlV 4 v2 v9 M) ⟨fun t27_5 =>
  @OptVH (loadV 4 true t27_5 M) ⟨fun t28_6 =>
  @CallH P i_transitref35_one [t23_1, v1, t28_6, v8] M ⟨fun t30_8 M8 =>
  Q .normal [(1, v1), (2, v2), (3, v3), (9, v9), (10, t30_8)] M8⟩⟩⟩⟩
theorem e18_19 (P : Program) (Q : Exit → Slots → Mem → Prop) (s : Slots) (M : Mem) : wpC P c18_19 Q s M = w18_19 P Q M (sget s 1) (sget s 2) (sget s 3) (sget s 8) (sget s 9) := by kernel_rfl
def o18_20 : List AOper := [⟨some 33, (.mov (.tmp 10)), false, none⟩,
  ⟨some 6, (.mov (.const (.int .i64 0))), false, none⟩,
  ⟨some 7, (.mov (.tmp 33)), false, none⟩]
def c18_21 : ACode := (.region o18_20 [6, 7])
def w18_21 (_P : Program) (Q : Exit → Slots → Mem → Prop) (M : Mem) (v10 : V) : Prop :=
  Q .normal [(6, (.int .i64 0)), (7, v10)] M
theorem e18_21 (P : Program) (Q : Exit → Slots → Mem → Prop) (s : Slots) (M : Mem) : wpC P c18_21 Q s M = w18_21 P Q M (sget s 10) := by kernel_rfl
def c18_22 : ACode := (.seq c18_21 .ret)
def o18_23 : List AOper := [⟨some 31, (.mov (.tmp 10)), false, none⟩,
  ⟨some 32, (.bin .neq .none (.tmp 31) (.const (.int .i64 0))), true, none⟩]
def c18_24 : ACode := (.seq (.region o18_23 [1, 2, 3, 9, 10, 32]) (.cond (.tmp 32) c18_22 .skip))
def w18_24 (P : Program) (Q : Exit → Slots → Mem → Prop) (M : Mem) (v1 : V) (v2 : V) (v3 : V) (v9 : V) (v10 : V) : Prop :=
  @OptBH (binV .neq .none v10 (.int .i64 0)) ⟨fun b32_2 =>
  @BIfH b32_2
  ⟨wpC P c18_22 Q [(1, v1), (2, v2), (3, v3), (9, v9), (10, v10), (32, (.bool b32_2))] M⟩
  ⟨Q .normal [(1, v1), (2, v2), (3, v3), (9, v9), (10, v10), (32, (.bool b32_2))] M⟩⟩
theorem e18_24 (P : Program) (Q : Exit → Slots → Mem → Prop) (s : Slots) (M : Mem) : wpC P c18_24 Q s M = w18_24 P Q M (sget s 1) (sget s 2) (sget s 3) (sget s 9) (sget s 10) := by kernel_rfl
def o18_25 : List AOper := [⟨some 34, (.mov (.tmp 2)), false, none⟩,
  ⟨some 35, (.mov (.tmp 9)), false, none⟩,
  ⟨some 36, (.indexSl 4 (.tmp 34) (.tmp 35)), false, none⟩,
  ⟨some 37, (.fieldAddr 2 (.tmp 36)), false, none⟩,
  ⟨some 38, (.load 1 false (.tmp 37)), false, none⟩,
  ⟨some 39, (.bin .add .none (.tmp 38) (.const (.int .i64 1))), false, none⟩,
  ⟨some 8, (.mov (.tmp 39)), false, none⟩]
def c18_26 : ACode := (.region o18_25 [1, 2, 3, 8, 9])
def w18_26 (_P : Program) (Q : Exit → Slots → Mem → Prop) (M : Mem) (v1 : V) (v2 : V) (v3 : V) (v9 : V) : Prop :=
  @OptVH (indexSlV 4 v2 v9 M) ⟨fun t36_3 =>
  @OptVH (moveV 2 t36_3) ⟨fun t37_4 =>
  @OptVH (loadV 1 false t37_4 M) ⟨fun t38_5 =>
  @OptVH (binV .add .none t38_5 (.int .i64 1)) ⟨fun t39_6 =>
  Q .normal [(1, v1), (2, v2), (3, v3), (8, t39_6), (9, v9)] M⟩⟩⟩⟩
theorem e18_26 (P : Program) (Q : Exit → Slots → Mem → Prop) (s : Slots) (M : Mem) : wpC P c18_26 Q s M = w18_26 P Q M (sget s 1) (sget s 2) (sget s 3) (sget s 9) := by kernel_rfl
def c18_27 : ACode := (.seq c18_24 c18_26)
def c18_28 : ACode := (.seq c18_19 c18_27)
def c18_29 : ACode := (.block 1 c18_28)
def o18_30 : List AOper := [⟨some 21, (.mov (.tmp 9)), false, none⟩,
  ⟨some 22, (.bin .add .none (.tmp 21) (.const (.int .i64 1))), false, none⟩,
  ⟨some 9, (.mov (.tmp 22)), false, none⟩]
def c18_31 : ACode := (.region o18_30 [1, 2, 3, 8, 9])
def w18_31 (_P : Program) (Q : Exit → Slots → Mem → Prop) (M : Mem) (v1 : V) (v2 : V) (v3 : V) (v8 : V) (v9 : V) : Prop :=
  @OptVH (binV .add .none v9 (.int .i64 1)) ⟨fun t22_2 =>
  Q .normal [(1, v1), (2, v2), (3, v3), (8, v8), (9, t22_2)] M⟩
theorem e18_31 (P : Program) (Q : Exit → Slots → Mem → Prop) (s : Slots) (M : Mem) : wpC P c18_31 Q s M = w18_31 P Q M (sget s 1) (sget s 2) (sget s 3) (sget s 8) (sget s 9) := by kernel_rfl
def c18_32 : ACode := (.seq c18_29 c18_31)
def c18_33 : ACode := (.seq c18_17 c18_32)
def c18_34 : ACode := (.loop [1, 2, 3, 8, 9] c18_33)
def c18_35 : ACode := (.block 0 c18_34)
def c18_36 : ACode := (.seq c18_15 c18_35)
def o18_37 : List AOper := [⟨some 6, (.mov (.const (.int .i64 0))), false, none⟩,
  ⟨some 7, (.mov (.const (.int .i64 8))), false, none⟩]
def c18_38 : ACode := (.region o18_37 [6, 7])
def w18_38 (_P : Program) (Q : Exit → Slots → Mem → Prop) (M : Mem) : Prop :=
  Q .normal [(6, (.int .i64 0)), (7, (.int .i64 8))] M
theorem e18_38 (P : Program) (Q : Exit → Slots → Mem → Prop) (s : Slots) (M : Mem) : wpC P c18_38 Q s M = w18_38 P Q M := by kernel_rfl
def c18_39 : ACode := (.seq c18_38 .ret)
def o18_40 : List AOper := [⟨some 40, (.mov (.tmp 8)), false, none⟩,
  ⟨some 41, (.mov (.tmp 1)), false, none⟩,
  ⟨some 42, (.lenSl (.tmp 41)), false, none⟩,
  ⟨some 43, (.bin .neq .none (.tmp 40) (.tmp 42)), true, none⟩]
def c18_41 : ACode := (.seq (.region o18_40 [2, 3, 43]) (.cond (.tmp 43) c18_39 .skip))
def w18_41 (P : Program) (Q : Exit → Slots → Mem → Prop) (M : Mem) (v1 : V) (v2 : V) (v3 : V) (v8 : V) : Prop :=
  @OptVH (lenV v1 M) ⟨fun t42_3 =>
  @OptBH (binV .neq .none v8 t42_3) ⟨fun b43_4 =>
  @BIfH b43_4
  ⟨wpC P c18_39 Q [(2, v2), (3, v3), (43, (.bool b43_4))] M⟩
  ⟨Q .normal [(2, v2), (3, v3), (43, (.bool b43_4))] M⟩⟩⟩
theorem e18_41 (P : Program) (Q : Exit → Slots → Mem → Prop) (s : Slots) (M : Mem) : wpC P c18_41 Q s M = w18_41 P Q M (sget s 1) (sget s 2) (sget s 3) (sget s 8) := by kernel_rfl
def o18_42 : List AOper := [⟨some 44, (.load 4 true (.tmp 3)), false, none⟩,
  ⟨some 45, (.mov (.tmp 2)), false, none⟩,
  ⟨some 46, (.call i_transitref35_Sum [(.tmp 45)]), false, none⟩,
  ⟨some 47, (.call i_transitref35_Capped [(.tmp 44), (.tmp 46)]), false, none⟩,
  ⟨some 6, (.mov (.tmp 47)), false, none⟩,
  ⟨some 7, (.mov (.const (.int .i64 0))), false, none⟩]
def c18_43 : ACode := (.mixed o18_42 [true, true, true, false, true, true] [6, 7])
def w18_43 (P : Program) (Q : Exit → Slots → Mem → Prop) (M : Mem) (v2 : V) (v3 : V) : Prop :=
  @OptVH (loadV 4 true v3 M) ⟨fun t44_1 =>
  @CallQ P i_transitref35_Sum [v2] M ⟨fun t46_3 M3 =>
  @CallH P i_transitref35_Capped [t44_1, t46_3] M3 ⟨fun t47_4 M4 =>
  Q .normal [(6, t47_4), (7, (.int .i64 0))] M4⟩⟩⟩
theorem e18_43 (P : Program) (Q : Exit → Slots → Mem → Prop) (s : Slots) (M : Mem) : wpC P c18_43 Q s M = w18_43 P Q M (sget s 2) (sget s 3) := by kernel_rfl
def c18_44 : ACode := (.seq c18_43 .ret)
def c18_45 : ACode := (.seq c18_41 c18_44)
def c18_46 : ACode := (.seq c18_36 c18_45)
def c18_47 : ACode := (.seq c18_13 c18_46)
def c18_48 : ACode := (.seq c18_11 c18_47)
def c18_49 : ACode := (.seq c18_6 c18_48)
def c18_50 : ACode := (.seq c18_1 c18_49)
def fn_transitref35_Verify : AFn := ⟨48, [(.tmp 6), (.tmp 7)], c18_50⟩
theorem fn_transitref35_Verify_ok : resFn PR h_transitref35_Verify i_transitref35_Verify = some fn_transitref35_Verify := by kernel_rfl

def h_fare_valid : Hints := ⟨[(0, [1, 2]), (1, [1, 6]), (2, [1, 13]), (3, [4]), (4, [16]), (5, [4]), (6, [4])], [], []⟩
def o19_0 : List AOper := [⟨some 2, (.box 4 (.tmp 0)), false, none⟩,
  ⟨some 4, (.mov (.const (.int .i64 0))), false, none⟩]
def c19_1 : ACode := (.region o19_0 [1, 2])
def w19_1 (_P : Program) (Q : Exit → Slots → Mem → Prop) (M : Mem) (v0 : V) (v1 : V) : Prop :=
  @OptMH (boxV 4 v0 M) ⟨fun t2_1 M1 =>
  Q .normal [(1, v1), (2, t2_1)] M1⟩
theorem e19_1 (P : Program) (Q : Exit → Slots → Mem → Prop) (s : Slots) (M : Mem) : wpC P c19_1 Q s M = w19_1 P Q M (sget s 0) (sget s 1) := by kernel_rfl
def o19_2 : List AOper := [⟨some 8, (.load 4 true (.tmp 2)), false, none⟩,
  ⟨some 9, (.call i_product_Check [(.tmp 8)]), false, none⟩,
  ⟨some 7, (.mov (.tmp 9)), false, none⟩,
  ⟨some 10, (.extract (.tmp 7) 0), false, none⟩,
  ⟨some 11, (.extract (.tmp 7) 1), false, none⟩,
  ⟨some 5, (.mov (.tmp 10)), false, none⟩,
  ⟨some 6, (.mov (.tmp 11)), false, none⟩]
def c19_3 : ACode := (.region o19_2 [1, 6])
def w19_3 (P : Program) (Q : Exit → Slots → Mem → Prop) (M : Mem) (v1 : V) (v2 : V) : Prop :=
  @OptVH (loadV 4 true v2 M) ⟨fun t8_1 =>
  @CallH P i_product_Check [t8_1] M ⟨fun t9_2 M2 =>
  @OptVH (extractV t9_2 0) ⟨fun _t10_4 =>
  @OptVH (extractV t9_2 1) ⟨fun t11_5 =>
  Q .normal [(1, v1), (6, t11_5)] M2⟩⟩⟩⟩
theorem e19_3 (P : Program) (Q : Exit → Slots → Mem → Prop) (s : Slots) (M : Mem) : wpC P c19_3 Q s M = w19_3 P Q M (sget s 1) (sget s 2) := by kernel_rfl
def o19_4 : List AOper := [⟨some 4, (.mov (.const (.int .i64 20))), false, none⟩]
def c19_5 : ACode := (.region o19_4 [4])
def w19_5 (_P : Program) (Q : Exit → Slots → Mem → Prop) (M : Mem) : Prop :=
  Q .normal [(4, (.int .i64 20))] M
theorem e19_5 (P : Program) (Q : Exit → Slots → Mem → Prop) (s : Slots) (M : Mem) : wpC P c19_5 Q s M = w19_5 P Q M := by kernel_rfl
def c19_6 : ACode := (.seq c19_5 .ret)
def o19_7 : List AOper := [⟨some 12, (.mov (.tmp 6)), false, none⟩,
  ⟨some 13, (.bin .neq .none (.tmp 12) (.const (.int .i64 0))), true, none⟩]
def c19_8 : ACode := (.seq (.region o19_7 [1, 13]) (.cond (.tmp 13) c19_6 .skip))
def w19_8 (P : Program) (Q : Exit → Slots → Mem → Prop) (M : Mem) (v1 : V) (v6 : V) : Prop :=
  @OptBH (binV .neq .none v6 (.int .i64 0)) ⟨fun b13_2 =>
  @BIfH b13_2
  ⟨wpC P c19_6 Q [(1, v1), (13, (.bool b13_2))] M⟩
  ⟨Q .normal [(1, v1), (13, (.bool b13_2))] M⟩⟩
theorem e19_8 (P : Program) (Q : Exit → Slots → Mem → Prop) (s : Slots) (M : Mem) : wpC P c19_8 Q s M = w19_8 P Q M (sget s 1) (sget s 6) := by kernel_rfl
def c19_9 : ACode := (.seq c19_3 c19_8)
def o19_10 : List AOper := [⟨some 4, (.mov (.const (.int .i64 33))), false, none⟩]
def c19_11 : ACode := (.region o19_10 [4])
def w19_11 (_P : Program) (Q : Exit → Slots → Mem → Prop) (M : Mem) : Prop :=
  Q .normal [(4, (.int .i64 33))] M
theorem e19_11 (P : Program) (Q : Exit → Slots → Mem → Prop) (s : Slots) (M : Mem) : wpC P c19_11 Q s M = w19_11 P Q M := by kernel_rfl
def c19_12 : ACode := (.seq c19_11 .ret)
def o19_13 : List AOper := [⟨some 14, (.mov (.tmp 1)), false, none⟩,
  ⟨some 15, (.lenSl (.tmp 14)), false, none⟩,
  ⟨some 16, (.bin .gtr .none (.tmp 15) (.const (.int .i64 8))), true, none⟩]
def c19_14 : ACode := (.seq (.region o19_13 [16]) (.cond (.tmp 16) c19_12 .skip))
def w19_14 (P : Program) (Q : Exit → Slots → Mem → Prop) (M : Mem) (v1 : V) : Prop :=
  @OptVH (lenV v1 M) ⟨fun t15_2 =>
  @OptBH (binV .gtr .none t15_2 (.int .i64 8)) ⟨fun b16_3 =>
  @BIfH b16_3
  ⟨wpC P c19_12 Q [(16, (.bool b16_3))] M⟩
  ⟨Q .normal [(16, (.bool b16_3))] M⟩⟩⟩
theorem e19_14 (P : Program) (Q : Exit → Slots → Mem → Prop) (s : Slots) (M : Mem) : wpC P c19_14 Q s M = w19_14 P Q M (sget s 1) := by kernel_rfl
def o19_15 : List AOper := [⟨some 4, (.mov (.const (.int .i64 0))), false, none⟩]
def c19_16 : ACode := (.region o19_15 [4])
def w19_16 (_P : Program) (Q : Exit → Slots → Mem → Prop) (M : Mem) : Prop :=
  Q .normal [(4, (.int .i64 0))] M
theorem e19_16 (P : Program) (Q : Exit → Slots → Mem → Prop) (s : Slots) (M : Mem) : wpC P c19_16 Q s M = w19_16 P Q M := by kernel_rfl
def c19_17 : ACode := (.seq c19_16 .ret)
def c19_18 : ACode := (.seq c19_14 c19_17)
def c19_19 : ACode := (.seq c19_9 c19_18)
def c19_20 : ACode := (.seq c19_1 c19_19)
def fn_fare_valid : AFn := ⟨17, [(.tmp 4)], c19_20⟩
theorem fn_fare_valid_ok : resFn PR h_fare_valid i_fare_valid = some fn_fare_valid := by kernel_rfl

def h_fare_divide : Hints := ⟨[(0, [2, 3, 4]), (1, [2, 3, 4, 5]), (2, [2, 3, 4, 5, 6]), (3, [2, 3, 4, 5, 6]), (4, [2, 4, 5, 6, 7]), (5, [2, 4, 5, 6, 7, 8]), (6, [2, 4, 5, 6, 7, 8, 20]), (7, [2, 4, 5, 6, 7, 8]), (8, [2, 4, 5, 6, 7, 8, 9]), (9, [2, 4, 5, 6, 7, 8, 9, 26]), (10, [2, 4, 5, 6, 7, 8, 9]), (11, [2, 4, 5, 6, 7, 8, 9, 31, 32]), (12, [2, 4, 5, 6, 7, 8, 9, 31, 32, 33]), (13, [2, 4, 5, 6, 7, 8, 9, 10, 31, 32]), (14, [2, 4, 5, 6, 7, 8, 9, 10, 31, 32, 39]), (15, [2, 4, 5, 6, 7, 8, 9, 31, 32]), (16, [2, 4, 5, 6, 7, 8, 9, 31, 32]), (17, [4])], [(6, [2, 4, 5, 6, 7, 8]), (9, [2, 4, 5, 6, 7, 8, 9]), (12, [2, 4, 5, 6, 7, 8, 9, 31, 32])], []⟩
def o20_0 : List AOper := [⟨some 2, (.box 4 (.tmp 0)), false, none⟩,
  ⟨some 3, (.box 1 (.tmp 1)), false, none⟩,
  ⟨some 4, (.alloc [(.bool false), (.int .i64 0), (.int .i64 0), (.int .i64 0), (.int .i64 0), (.int .i64 0), (.int .i64 0), (.bool false), (.int .i64 0), (.int .i64 0), (.int .i64 0), (.int .i64 0), (.int .i64 0), (.int .i64 0), (.bool false), (.int .i64 0), (.int .i64 0), (.int .i64 0), (.int .i64 0), (.int .i64 0), (.int .i64 0), (.bool false), (.int .i64 0), (.int .i64 0), (.int .i64 0), (.int .i64 0), (.int .i64 0), (.int .i64 0), (.bool false), (.int .i64 0), (.int .i64 0), (.int .i64 0), (.int .i64 0), (.int .i64 0), (.int .i64 0), (.bool false), (.int .i64 0), (.int .i64 0), (.int .i64 0), (.int .i64 0), (.int .i64 0), (.int .i64 0), (.bool false), (.int .i64 0), (.int .i64 0), (.int .i64 0), (.int .i64 0), (.int .i64 0), (.int .i64 0), (.bool false), (.int .i64 0), (.int .i64 0), (.int .i64 0), (.int .i64 0), (.int .i64 0), (.int .i64 0), (.bool false), (.int .i64 0), (.int .i64 0), (.int .i64 0), (.int .i64 0), (.int .i64 0), (.int .i64 0)]), false, none⟩]
def c20_1 : ACode := (.region o20_0 [2, 3, 4])
def w20_1 (_P : Program) (Q : Exit → Slots → Mem → Prop) (M : Mem) (v0 : V) (v1 : V) : Prop :=
  @OptMH (boxV 4 v0 M) ⟨fun t2_1 M1 =>
  @OptMH (boxV 1 v1 M1) ⟨fun t3_2 M2 =>
  @OptMH (allocV [(.bool false), (.int .i64 0), (.int .i64 0), (.int .i64 0), (.int .i64 0), (.int .i64 0), (.int .i64 0), (.bool false), (.int .i64 0), (.int .i64 0), (.int .i64 0), (.int .i64 0), (.int .i64 0), (.int .i64 0), (.bool false), (.int .i64 0), (.int .i64 0), (.int .i64 0), (.int .i64 0), (.int .i64 0), (.int .i64 0), (.bool false), (.int .i64 0), (.int .i64 0), (.int .i64 0), (.int .i64 0), (.int .i64 0), (.int .i64 0), (.bool false), (.int .i64 0), (.int .i64 0), (.int .i64 0), (.int .i64 0), (.int .i64 0), (.int .i64 0), (.bool false), (.int .i64 0), (.int .i64 0), (.int .i64 0), (.int .i64 0), (.int .i64 0), (.int .i64 0), (.bool false), (.int .i64 0), (.int .i64 0), (.int .i64 0), (.int .i64 0), (.int .i64 0), (.int .i64 0), (.bool false), (.int .i64 0), (.int .i64 0), (.int .i64 0), (.int .i64 0), (.int .i64 0), (.int .i64 0), (.bool false), (.int .i64 0), (.int .i64 0), (.int .i64 0), (.int .i64 0), (.int .i64 0), (.int .i64 0)] M2) ⟨fun t4_3 M3 =>
  Q .normal [(2, t2_1), (3, t3_2), (4, t4_3)] M3⟩⟩⟩
theorem e20_1 (P : Program) (Q : Exit → Slots → Mem → Prop) (s : Slots) (M : Mem) : wpC P c20_1 Q s M = w20_1 P Q M (sget s 0) (sget s 1) := by kernel_rfl
def o20_2 : List AOper := [⟨some 5, (.alloc [(.bool false), (.int .i64 0), (.int .i64 0), (.int .i64 0), (.int .i64 0), (.int .i64 0), (.int .i64 0), (.bool false), (.int .i64 0), (.int .i64 0), (.int .i64 0), (.int .i64 0), (.int .i64 0), (.int .i64 0), (.bool false), (.int .i64 0), (.int .i64 0), (.int .i64 0), (.int .i64 0), (.int .i64 0), (.int .i64 0), (.bool false), (.int .i64 0), (.int .i64 0), (.int .i64 0), (.int .i64 0), (.int .i64 0), (.int .i64 0), (.bool false), (.int .i64 0), (.int .i64 0), (.int .i64 0), (.int .i64 0), (.int .i64 0), (.int .i64 0), (.bool false), (.int .i64 0), (.int .i64 0), (.int .i64 0), (.int .i64 0), (.int .i64 0), (.int .i64 0), (.bool false), (.int .i64 0), (.int .i64 0), (.int .i64 0), (.int .i64 0), (.int .i64 0), (.int .i64 0), (.bool false), (.int .i64 0), (.int .i64 0), (.int .i64 0), (.int .i64 0), (.int .i64 0), (.int .i64 0), (.bool false), (.int .i64 0), (.int .i64 0), (.int .i64 0), (.int .i64 0), (.int .i64 0), (.int .i64 0)]), false, none⟩]
def c20_3 : ACode := (.region o20_2 [2, 3, 4, 5])
def w20_3 (_P : Program) (Q : Exit → Slots → Mem → Prop) (M : Mem) (v2 : V) (v3 : V) (v4 : V) : Prop :=
  @OptMH (allocV [(.bool false), (.int .i64 0), (.int .i64 0), (.int .i64 0), (.int .i64 0), (.int .i64 0), (.int .i64 0), (.bool false), (.int .i64 0), (.int .i64 0), (.int .i64 0), (.int .i64 0), (.int .i64 0), (.int .i64 0), (.bool false), (.int .i64 0), (.int .i64 0), (.int .i64 0), (.int .i64 0), (.int .i64 0), (.int .i64 0), (.bool false), (.int .i64 0), (.int .i64 0), (.int .i64 0), (.int .i64 0), (.int .i64 0), (.int .i64 0), (.bool false), (.int .i64 0), (.int .i64 0), (.int .i64 0), (.int .i64 0), (.int .i64 0), (.int .i64 0), (.bool false), (.int .i64 0), (.int .i64 0), (.int .i64 0), (.int .i64 0), (.int .i64 0), (.int .i64 0), (.bool false), (.int .i64 0), (.int .i64 0), (.int .i64 0), (.int .i64 0), (.int .i64 0), (.int .i64 0), (.bool false), (.int .i64 0), (.int .i64 0), (.int .i64 0), (.int .i64 0), (.int .i64 0), (.int .i64 0), (.bool false), (.int .i64 0), (.int .i64 0), (.int .i64 0), (.int .i64 0), (.int .i64 0), (.int .i64 0)] M) ⟨fun t5_1 M1 =>
  Q .normal [(2, v2), (3, v3), (4, v4), (5, t5_1)] M1⟩
theorem e20_3 (P : Program) (Q : Exit → Slots → Mem → Prop) (s : Slots) (M : Mem) : wpC P c20_3 Q s M = w20_3 P Q M (sget s 2) (sget s 3) (sget s 4) := by kernel_rfl
def o20_4 : List AOper := [⟨some 11, (.load 1 false (.tmp 3)), false, none⟩,
  ⟨some 12, (.lenSl (.tmp 11)), false, none⟩,
  ⟨some 6, (.mov (.tmp 12)), false, none⟩]
def c20_5 : ACode := (.region o20_4 [2, 3, 4, 5, 6])
def w20_5 (_P : Program) (Q : Exit → Slots → Mem → Prop) (M : Mem) (v2 : V) (v3 : V) (v4 : V) (v5 : V) : Prop :=
  @OptVH (loadV 1 false v3 M) ⟨fun t11_1 =>
  @OptVH (lenV t11_1 M) ⟨fun t12_2 =>
  Q .normal [(2, v2), (3, v3), (4, v4), (5, v5), (6, t12_2)] M⟩⟩
theorem e20_5 (P : Program) (Q : Exit → Slots → Mem → Prop) (s : Slots) (M : Mem) : wpC P c20_5 Q s M = w20_5 P Q M (sget s 2) (sget s 3) (sget s 4) (sget s 5) := by kernel_rfl
def o20_6 : List AOper := [⟨some 13, (.mov (.tmp 6)), false, none⟩,
  ⟨some 14, (.indexArr 9 7 (.tmp 5) (.tmp 13)), false, none⟩,
  ⟨some 15, (.fieldAddr 0 (.tmp 14)), false, none⟩,
  ⟨none, (.store 1 (.tmp 15) (.const (.bool true))), false, none⟩]
def c20_7 : ACode := (.region o20_6 [2, 3, 4, 5, 6])
def w20_7 (_P : Program) (Q : Exit → Slots → Mem → Prop) (M : Mem) (v2 : V) (v3 : V) (v4 : V) (v5 : V) (v6 : V) : Prop :=
  @OptVH (indexArrV 9 7 v5 v6) ⟨fun t14_2 =>
  @OptVH (moveV 0 t14_2) ⟨fun t15_3 =>
  @OptMH (storeVM 1 t15_3 (.bool true) M) ⟨fun _tx_4 M4 =>
  Q .normal [(2, v2), (3, v3), (4, v4), (5, v5), (6, v6)] M4⟩⟩⟩
theorem e20_7 (P : Program) (Q : Exit → Slots → Mem → Prop) (s : Slots) (M : Mem) : wpC P c20_7 Q s M = w20_7 P Q M (sget s 2) (sget s 3) (sget s 4) (sget s 5) (sget s 6) := by kernel_rfl
def o20_8 : List AOper := [⟨some 16, (.mkfn i_fare_divide_1 [(.tmp 2), (.tmp 3), (.tmp 5)]), false, none⟩,
  ⟨some 7, (.mov (.tmp 16)), false, none⟩]
def c20_9 : ACode := (.region o20_8 [2, 4, 5, 6, 7])
def w20_9 (_P : Program) (Q : Exit → Slots → Mem → Prop) (M : Mem) (v2 : V) (v3 : V) (v4 : V) (v5 : V) (v6 : V) : Prop :=
  Q .normal [(2, v2), (4, v4), (5, v5), (6, v6), (7, (mkfnV i_fare_divide_1 [v2, v3, v5]))] M
theorem e20_9 (P : Program) (Q : Exit → Slots → Mem → Prop) (s : Slots) (M : Mem) : wpC P c20_9 Q s M = w20_9 P Q M (sget s 2) (sget s 3) (sget s 4) (sget s 5) (sget s 6) := by kernel_rfl
def o20_10 : List AOper := [⟨some 17, (.mov (.tmp 6)), false, none⟩,
  ⟨some 18, (.bin .sub .none (.tmp 17) (.const (.int .i64 1))), false, none⟩,
  ⟨some 8, (.mov (.tmp 18)), false, none⟩]
def c20_11 : ACode := (.region o20_10 [2, 4, 5, 6, 7, 8])
def w20_11 (_P : Program) (Q : Exit → Slots → Mem → Prop) (M : Mem) (v2 : V) (v4 : V) (v5 : V) (v6 : V) (v7 : V) : Prop :=
  @OptVH (binV .sub .none v6 (.int .i64 1)) ⟨fun t18_2 =>
  Q .normal [(2, v2), (4, v4), (5, v5), (6, v6), (7, v7), (8, t18_2)] M⟩
theorem e20_11 (P : Program) (Q : Exit → Slots → Mem → Prop) (s : Slots) (M : Mem) : wpC P c20_11 Q s M = w20_11 P Q M (sget s 2) (sget s 4) (sget s 5) (sget s 6) (sget s 7) := by kernel_rfl
def o20_12 : List AOper := [⟨some 19, (.mov (.tmp 8)), false, none⟩,
  ⟨some 20, (.bin .geq .none (.tmp 19) (.const (.int .i64 0))), true, none⟩]
def c20_13 : ACode := (.seq (.region o20_12 [2, 4, 5, 6, 7, 8, 20]) (.cond (.tmp 20) .skip (.exit 0)))
def w20_13 (_P : Program) (Q : Exit → Slots → Mem → Prop) (M : Mem) (v2 : V) (v4 : V) (v5 : V) (v6 : V) (v7 : V) (v8 : V) : Prop :=
  @OptBH (binV .geq .none v8 (.int .i64 0)) ⟨fun b20_2 =>
  @BIfH b20_2
  ⟨Q .normal [(2, v2), (4, v4), (5, v5), (6, v6), (7, v7), (8, v8), (20, (.bool b20_2))] M⟩
  ⟨Q (.exit 0) [(2, v2), (4, v4), (5, v5), (6, v6), (7, v7), (8, v8), (20, (.bool b20_2))] M⟩⟩
theorem e20_13 (P : Program) (Q : Exit → Slots → Mem → Prop) (s : Slots) (M : Mem) : wpC P c20_13 Q s M = w20_13 P Q M (sget s 2) (sget s 4) (sget s 5) (sget s 6) (sget s 7) (sget s 8) := by kernel_rfl
def o20_14 : List AOper := [⟨some 23, (.mov (.tmp 8)), false, none⟩,
  ⟨some 9, (.mov (.tmp 23)), false, none⟩]
def c20_15 : ACode := (.region o20_14 [2, 4, 5, 6, 7, 8, 9])
def w20_15 (_P : Program) (Q : Exit → Slots → Mem → Prop) (M : Mem) (v2 : V) (v4 : V) (v5 : V) (v6 : V) (v7 : V) (v8 : V) : Prop :=
  Q .normal [(2, v2), (4, v4), (5, v5), (6, v6), (7, v7), (8, v8), (9, v8)] M
theorem e20_15 (P : Program) (Q : Exit → Slots → Mem → Prop) (s : Slots) (M : Mem) : wpC P c20_15 Q s M = w20_15 P Q M (sget s 2) (sget s 4) (sget s 5) (sget s 6) (sget s 7) (sget s 8) := by kernel_rfl
def o20_16 : List AOper := [⟨some 24, (.mov (.tmp 9)), false, none⟩,
  ⟨some 25, (.mov (.tmp 6)), false, none⟩,
  ⟨some 26, (.bin .lss .none (.tmp 24) (.tmp 25)), true, none⟩]
def c20_17 : ACode := (.seq (.region o20_16 [2, 4, 5, 6, 7, 8, 9, 26]) (.cond (.tmp 26) .skip (.exit 2)))
def w20_17 (_P : Program) (Q : Exit → Slots → Mem → Prop) (M : Mem) (v2 : V) (v4 : V) (v5 : V) (v6 : V) (v7 : V) (v8 : V) (v9 : V) : Prop :=
  @OptBH (binV .lss .none v9 v6) ⟨fun b26_3 =>
  @BIfH b26_3
  ⟨Q .normal [(2, v2), (4, v4), (5, v5), (6, v6), (7, v7), (8, v8), (9, v9), (26, (.bool b26_3))] M⟩
  ⟨Q (.exit 2) [(2, v2), (4, v4), (5, v5), (6, v6), (7, v7), (8, v8), (9, v9), (26, (.bool b26_3))] M⟩⟩
theorem e20_17 (P : Program) (Q : Exit → Slots → Mem → Prop) (s : Slots) (M : Mem) : wpC P c20_17 Q s M = w20_17 P Q M (sget s 2) (sget s 4) (sget s 5) (sget s 6) (sget s 7) (sget s 8) (sget s 9) := by kernel_rfl
def o20_18 : List AOper := [⟨some 29, (.fieldAddr 0 (.tmp 2)), false, none⟩,
  ⟨some 30, (.load 1 false (.tmp 29)), false, none⟩,
  ⟨some 31, (.lenSl (.tmp 30)), false, none⟩,
  ⟨some 32, (.mov (.const (.int .i64 0))), false, none⟩]
def c20_19 : ACode := (.region o20_18 [2, 4, 5, 6, 7, 8, 9, 31, 32])
def w20_19 (_P : Program) (Q : Exit → Slots → Mem → Prop) (M : Mem) (v2 : V) (v4 : V) (v5 : V) (v6 : V) (v7 : V) (v8 : V) (v9 : V) : Prop :=
  @OptVH (moveV 0 v2) ⟨fun t29_1 =>
  @OptVH (loadV 1 false t29_1 M) ⟨fun t30_2 =>
  @OptVH (lenV t30_2 M) ⟨fun t31_3 =>
  Q .normal [(2, v2), (4, v4), (5, v5), (6, v6), (7, v7), (8, v8), (9, v9), (31, t31_3), (32, (.int .i64 0))] M⟩⟩⟩
theorem e20_19 (P : Program) (Q : Exit → Slots → Mem → Prop) (s : Slots) (M : Mem) : wpC P c20_19 Q s M = w20_19 P Q M (sget s 2) (sget s 4) (sget s 5) (sget s 6) (sget s 7) (sget s 8) (sget s 9) := by kernel_rfl
def o20_20 : List AOper := [⟨some 33, (.bin .lss .none (.tmp 32) (.tmp 31)), false, none⟩]
def c20_21 : ACode := (.region o20_20 [2, 4, 5, 6, 7, 8, 9, 31, 32, 33])
def w20_21 (_P : Program) (Q : Exit → Slots → Mem → Prop) (M : Mem) (v2 : V) (v4 : V) (v5 : V) (v6 : V) (v7 : V) (v8 : V) (v9 : V) (v31 : V) (v32 : V) : Prop :=
  @OptVH (binV .lss .none v32 v31) ⟨fun t33_1 =>
  Q .normal [(2, v2), (4, v4), (5, v5), (6, v6), (7, v7), (8, v8), (9, v9), (31, v31), (32, v32), (33, t33_1)] M⟩
theorem e20_21 (P : Program) (Q : Exit → Slots → Mem → Prop) (s : Slots) (M : Mem) : wpC P c20_21 Q s M = w20_21 P Q M (sget s 2) (sget s 4) (sget s 5) (sget s 6) (sget s 7) (sget s 8) (sget s 9) (sget s 31) (sget s 32) := by kernel_rfl
def c20_22 : ACode := (.cond (.tmp 33) .skip (.exit 4))
def o20_23 : List AOper := [⟨some 34, (.mov (.tmp 32)), false, none⟩,
  ⟨some 10, (.mov (.tmp 34)), false, none⟩]
def c20_24 : ACode := (.region o20_23 [2, 4, 5, 6, 7, 8, 9, 10, 31, 32])
def w20_24 (_P : Program) (Q : Exit → Slots → Mem → Prop) (M : Mem) (v2 : V) (v4 : V) (v5 : V) (v6 : V) (v7 : V) (v8 : V) (v9 : V) (v31 : V) (v32 : V) : Prop :=
  Q .normal [(2, v2), (4, v4), (5, v5), (6, v6), (7, v7), (8, v8), (9, v9), (10, v32), (31, v31), (32, v32)] M
theorem e20_24 (P : Program) (Q : Exit → Slots → Mem → Prop) (s : Slots) (M : Mem) : wpC P c20_24 Q s M = w20_24 P Q M (sget s 2) (sget s 4) (sget s 5) (sget s 6) (sget s 7) (sget s 8) (sget s 9) (sget s 31) (sget s 32) := by kernel_rfl
def o20_25 : List AOper := [⟨some 40, (.mov (.tmp 7)), false, none⟩,
  ⟨some 41, (.mov (.tmp 8)), false, none⟩,
  ⟨some 42, (.mov (.tmp 9)), false, none⟩,
  ⟨some 43, (.mov (.tmp 10)), false, none⟩,
  ⟨some 44, (.callv (.tmp 40) [(.tmp 41), (.tmp 42), (.tmp 43)]), false, none⟩]
def c20_26 : ACode := (.region o20_25 [2, 4, 5, 6, 7, 8, 9, 31, 32])
def w20_26 (P : Program) (Q : Exit → Slots → Mem → Prop) (M : Mem) (v2 : V) (v4 : V) (v5 : V) (v6 : V) (v7 : V) (v8 : V) (v9 : V) (v10 : V) (v31 : V) (v32 : V) : Prop :=
  @CallV P false v7 [v8, v9, v10] M ⟨fun _t44_5 M5 =>
  Q .normal [(2, v2), (4, v4), (5, v5), (6, v6), (7, v7), (8, v8), (9, v9), (31, v31), (32, v32)] M5⟩
theorem e20_26 (P : Program) (Q : Exit → Slots → Mem → Prop) (s : Slots) (M : Mem) : wpC P c20_26 Q s M = w20_26 P Q M (sget s 2) (sget s 4) (sget s 5) (sget s 6) (sget s 7) (sget s 8) (sget s 9) (sget s 10) (sget s 31) (sget s 32) := by kernel_rfl
def o20_27 : List AOper := [⟨some 35, (.mov (.tmp 9)), false, none⟩,
  ⟨some 36, (.bin .add .none (.tmp 35) (.const (.int .i64 1))), false, none⟩,
  ⟨some 37, (.indexArr 9 7 (.tmp 5) (.tmp 36)), false, none⟩,
  ⟨some 38, (.fieldAddr 0 (.tmp 37)), false, none⟩,
  ⟨some 39, (.load 1 false (.tmp 38)), true, none⟩]
def c20_28 : ACode := (.seq (.region o20_27 [2, 4, 5, 6, 7, 8, 9, 10, 31, 32, 39]) (.cond (.tmp 39) c20_26 .skip))
def w20_28 (P : Program) (Q : Exit → Slots → Mem → Prop) (M : Mem) (v2 : V) (v4 : V) (v5 : V) (v6 : V) (v7 : V) (v8 : V) (v9 : V) (v10 : V) (v31 : V) (v32 : V) : Prop :=
  @OptVH (binV .add .none v9 (.int .i64 1)) ⟨fun t36_2 =>
  @OptVH (indexArrV 9 7 v5 t36_2) ⟨fun t37_3 =>
  @OptVH (moveV 0 t37_3) ⟨fun t38_4 =>
  @OptBH (loadV 1 false t38_4 M) ⟨fun b39_5 =>
  @BIfH b39_5
  ⟨wpC P c20_26 Q [(2, v2), (4, v4), (5, v5), (6, v6), (7, v7), (8, v8), (9, v9), (10, v10), (31, v31), (32, v32), (39, (.bool b39_5))] M⟩
  ⟨Q .normal [(2, v2), (4, v4), (5, v5), (6, v6), (7, v7), (8, v8), (9, v9), (10, v10), (31, v31), (32, v32), (39, (.bool b39_5))] M⟩⟩⟩⟩⟩
theorem e20_28 (P : Program) (Q : Exit → Slots → Mem → Prop) (s : Slots) (M : Mem) : wpC P c20_28 Q s M = w20_28 P Q M (sget s 2) (sget s 4) (sget s 5) (sget s 6) (sget s 7) (sget s 8) (sget s 9) (sget s 10) (sget s 31) (sget s 32) := by kernel_rfl
def c20_29 : ACode := (.seq c20_24 c20_28)
def c20_30 : ACode := (.block 5 c20_29)
def o20_31 : List AOper := [⟨some 45, (.bin .add .none (.tmp 32) (.const (.int .i64 1))), false, none⟩,
  ⟨some 32, (.mov (.tmp 45)), false, none⟩]
def c20_32 : ACode := (.region o20_31 [2, 4, 5, 6, 7, 8, 9, 31, 32])
def w20_32 (_P : Program) (Q : Exit → Slots → Mem → Prop) (M : Mem) (v2 : V) (v4 : V) (v5 : V) (v6 : V) (v7 : V) (v8 : V) (v9 : V) (v31 : V) (v32 : V) : Prop :=
  @OptVH (binV .add .none v32 (.int .i64 1)) ⟨fun t45_1 =>
  Q .normal [(2, v2), (4, v4), (5, v5), (6, v6), (7, v7), (8, v8), (9, v9), (31, v31), (32, t45_1)] M⟩
theorem e20_32 (P : Program) (Q : Exit → Slots → Mem → Prop) (s : Slots) (M : Mem) : wpC P c20_32 Q s M = w20_32 P Q M (sget s 2) (sget s 4) (sget s 5) (sget s 6) (sget s 7) (sget s 8) (sget s 9) (sget s 31) (sget s 32) := by kernel_rfl
def c20_33 : ACode := (.seq c20_30 c20_32)
def c20_34 : ACode := (.seq c20_22 c20_33)
def c20_35 : ACode := (.seq c20_21 c20_34)
def c20_36 : ACode := (.loop [2, 4, 5, 6, 7, 8, 9, 31, 32] c20_35)
def c20_37 : ACode := (.block 4 c20_36)
def c20_38 : ACode := (.seq c20_19 c20_37)
def c20_39 : ACode := (.block 3 c20_38)
def o20_40 : List AOper := [⟨some 27, (.mov (.tmp 9)), false, none⟩,
  ⟨some 28, (.bin .add .none (.tmp 27) (.const (.int .i64 1))), false, none⟩,
  ⟨some 9, (.mov (.tmp 28)), false, none⟩]
def c20_41 : ACode := (.region o20_40 [2, 4, 5, 6, 7, 8, 9])
def w20_41 (_P : Program) (Q : Exit → Slots → Mem → Prop) (M : Mem) (v2 : V) (v4 : V) (v5 : V) (v6 : V) (v7 : V) (v8 : V) (v9 : V) : Prop :=
  @OptVH (binV .add .none v9 (.int .i64 1)) ⟨fun t28_2 =>
  Q .normal [(2, v2), (4, v4), (5, v5), (6, v6), (7, v7), (8, v8), (9, t28_2)] M⟩
theorem e20_41 (P : Program) (Q : Exit → Slots → Mem → Prop) (s : Slots) (M : Mem) : wpC P c20_41 Q s M = w20_41 P Q M (sget s 2) (sget s 4) (sget s 5) (sget s 6) (sget s 7) (sget s 8) (sget s 9) := by kernel_rfl
def c20_42 : ACode := (.seq c20_39 c20_41)
def c20_43 : ACode := (.seq c20_17 c20_42)
def c20_44 : ACode := (.loop [2, 4, 5, 6, 7, 8, 9] c20_43)
def c20_45 : ACode := (.block 2 c20_44)
def c20_46 : ACode := (.seq c20_15 c20_45)
def c20_47 : ACode := (.block 1 c20_46)
def o20_48 : List AOper := [⟨some 21, (.mov (.tmp 8)), false, none⟩,
  ⟨some 22, (.bin .sub .none (.tmp 21) (.const (.int .i64 1))), false, none⟩,
  ⟨some 8, (.mov (.tmp 22)), false, none⟩]
def c20_49 : ACode := (.region o20_48 [2, 4, 5, 6, 7, 8])
def w20_49 (_P : Program) (Q : Exit → Slots → Mem → Prop) (M : Mem) (v2 : V) (v4 : V) (v5 : V) (v6 : V) (v7 : V) (v8 : V) : Prop :=
  @OptVH (binV .sub .none v8 (.int .i64 1)) ⟨fun t22_2 =>
  Q .normal [(2, v2), (4, v4), (5, v5), (6, v6), (7, v7), (8, t22_2)] M⟩
theorem e20_49 (P : Program) (Q : Exit → Slots → Mem → Prop) (s : Slots) (M : Mem) : wpC P c20_49 Q s M = w20_49 P Q M (sget s 2) (sget s 4) (sget s 5) (sget s 6) (sget s 7) (sget s 8) := by kernel_rfl
def c20_50 : ACode := (.seq c20_47 c20_49)
def c20_51 : ACode := (.seq c20_13 c20_50)
def c20_52 : ACode := (.loop [2, 4, 5, 6, 7, 8] c20_51)
def c20_53 : ACode := (.block 0 c20_52)
def c20_54 : ACode := (.seq c20_11 c20_53)
def o20_55 : List AOper := [⟨some 46, (.load 63 true (.tmp 5)), false, none⟩,
  ⟨none, (.store 63 (.tmp 4) (.tmp 46)), false, none⟩]
def c20_56 : ACode := (.region o20_55 [4])
def w20_56 (_P : Program) (Q : Exit → Slots → Mem → Prop) (M : Mem) (v4 : V) (v5 : V) : Prop :=
  @OptVH (loadV 63 true v5 M) ⟨fun t46_1 =>
  @OptMH (storeVM 63 v4 t46_1 M) ⟨fun _tx_2 M2 =>
  Q .normal [(4, v4)] M2⟩⟩
theorem e20_56 (P : Program) (Q : Exit → Slots → Mem → Prop) (s : Slots) (M : Mem) : wpC P c20_56 Q s M = w20_56 P Q M (sget s 4) (sget s 5) := by kernel_rfl
def c20_57 : ACode := (.seq c20_56 .ret)
def c20_58 : ACode := (.seq c20_54 c20_57)
def c20_59 : ACode := (.seq c20_9 c20_58)
def c20_60 : ACode := (.seq c20_7 c20_59)
def c20_61 : ACode := (.seq c20_5 c20_60)
def c20_62 : ACode := (.seq c20_3 c20_61)
def c20_63 : ACode := (.seq c20_1 c20_62)
def fn_fare_divide : AFn := ⟨47, [(.cell 4 63 true)], c20_63⟩
theorem fn_fare_divide_ok : resFn PR h_fare_divide i_fare_divide = some fn_fare_divide := by kernel_rfl

def h_fare_capped : Hints := ⟨[(0, [1, 2]), (1, [1, 2, 13]), (2, [4]), (3, [4])], [], []⟩
def o21_0 : List AOper := [⟨some 2, (.box 4 (.tmp 0)), false, none⟩,
  ⟨some 4, (.mov (.const (.int .i64 0))), false, none⟩]
def c21_1 : ACode := (.region o21_0 [1, 2])
def w21_1 (_P : Program) (Q : Exit → Slots → Mem → Prop) (M : Mem) (v0 : V) (v1 : V) : Prop :=
  @OptMH (boxV 4 v0 M) ⟨fun t2_1 M1 =>
  Q .normal [(1, v1), (2, t2_1)] M1⟩
theorem e21_1 (P : Program) (Q : Exit → Slots → Mem → Prop) (s : Slots) (M : Mem) : wpC P c21_1 Q s M = w21_1 P Q M (sget s 0) (sget s 1) := by kernel_rfl
def o21_2 : List AOper := [⟨some 14, (.fieldAddr 3 (.tmp 2)), false, none⟩,
  ⟨some 15, (.load 1 false (.tmp 14)), false, none⟩,
  ⟨some 4, (.mov (.tmp 15)), false, none⟩]
def c21_3 : ACode := (.region o21_2 [4])
def w21_3 (_P : Program) (Q : Exit → Slots → Mem → Prop) (M : Mem) (v2 : V) : Prop :=
  @OptVH (moveV 3 v2) ⟨fun t14_1 =>
  @OptVH (loadV 1 false t14_1 M) ⟨fun t15_2 =>
  Q .normal [(4, t15_2)] M⟩⟩
theorem e21_3 (P : Program) (Q : Exit → Slots → Mem → Prop) (s : Slots) (M : Mem) : wpC P c21_3 Q s M = w21_3 P Q M (sget s 2) := by kernel_rfl
def c21_4 : ACode := (.seq c21_3 .ret)
def o21_5 : List AOper := [⟨some 5, (.fieldAddr 3 (.tmp 2)), false, none⟩,
  ⟨some 6, (.load 1 false (.tmp 5)), false, none⟩,
  ⟨some 7, (.bin .gtr .none (.tmp 6) (.const (.int .i64 0))), true, none⟩,
  ⟨some 8, (.mov (.tmp 7)), true, none⟩,
  ⟨some 9, (.mov (.tmp 1)), false, some (8, true)⟩,
  ⟨some 10, (.fieldAddr 3 (.tmp 2)), false, some (8, true)⟩,
  ⟨some 11, (.load 1 false (.tmp 10)), false, some (8, true)⟩,
  ⟨some 12, (.bin .gtr .none (.tmp 9) (.tmp 11)), true, some (8, true)⟩,
  ⟨some 13, (.pick (.tmp 8) (.tmp 12) (.const (.bool false))), true, none⟩]
def c21_6 : ACode := (.seq (.region o21_5 [1, 2, 13]) (.cond (.tmp 13) c21_4 .skip))
def w21_6 (P : Program) (Q : Exit → Slots → Mem → Prop) (M : Mem) (v1 : V) (v2 : V) : Prop :=
  @OptVH (moveV 3 v2) ⟨fun t5_1 =>
  @OptVH (loadV 1 false t5_1 M) ⟨fun t6_2 =>
  @OptBH (binV .gtr .none t6_2 (.int .i64 0)) ⟨fun b7_3 =>
  @BIfH b7_3
  ⟨@OptVH (moveV 3 v2) ⟨fun t10_6 =>
  @OptVH (loadV 1 false t10_6 M) ⟨fun t11_7 =>
  @OptBH (binV .gtr .none v1 t11_7) ⟨fun b12_8 =>
  @BIfH b12_8
  ⟨wpC P c21_4 Q [(1, v1), (2, v2), (13, (.bool b12_8))] M⟩
  ⟨Q .normal [(1, v1), (2, v2), (13, (.bool b12_8))] M⟩⟩⟩⟩⟩
  ⟨Q .normal [(1, v1), (2, v2), (13, (.bool false))] M⟩⟩⟩⟩
theorem e21_6 (P : Program) (Q : Exit → Slots → Mem → Prop) (s : Slots) (M : Mem) : wpC P c21_6 Q s M = w21_6 P Q M (sget s 1) (sget s 2) := by kernel_rfl
def o21_7 : List AOper := [⟨some 16, (.mov (.tmp 1)), false, none⟩,
  ⟨some 4, (.mov (.tmp 16)), false, none⟩]
def c21_8 : ACode := (.region o21_7 [4])
def w21_8 (_P : Program) (Q : Exit → Slots → Mem → Prop) (M : Mem) (v1 : V) : Prop :=
  Q .normal [(4, v1)] M
theorem e21_8 (P : Program) (Q : Exit → Slots → Mem → Prop) (s : Slots) (M : Mem) : wpC P c21_8 Q s M = w21_8 P Q M (sget s 1) := by kernel_rfl
def c21_9 : ACode := (.seq c21_8 .ret)
def c21_10 : ACode := (.seq c21_6 c21_9)
def c21_11 : ACode := (.seq c21_1 c21_10)
def fn_fare_capped : AFn := ⟨17, [(.tmp 4)], c21_11⟩
theorem fn_fare_capped_ok : resFn PR h_fare_capped i_fare_capped = some fn_fare_capped := by kernel_rfl

def h_transitref35_Valid : Hints := ⟨[(0, [1]), (1, [4]), (2, [2])], [], []⟩
def o22_0 : List AOper := [⟨some 1, (.box 4 (.tmp 0)), false, none⟩,
  ⟨some 2, (.mov (.const (.bool false))), true, none⟩]
def c22_1 : ACode := (.region o22_0 [1])
def w22_1 (_P : Program) (Q : Exit → Slots → Mem → Prop) (M : Mem) (v0 : V) : Prop :=
  @OptMH (boxV 4 v0 M) ⟨fun t1_1 M1 =>
  Q .normal [(1, t1_1)] M1⟩
theorem e22_1 (P : Program) (Q : Exit → Slots → Mem → Prop) (s : Slots) (M : Mem) : wpC P c22_1 Q s M = w22_1 P Q M (sget s 0) := by kernel_rfl
def o22_2 : List AOper := [⟨some 6, (.load 4 true (.tmp 1)), false, none⟩,
  ⟨some 7, (.call i_transitref26_Fares [(.tmp 6)]), false, none⟩,
  ⟨some 5, (.mov (.tmp 7)), false, none⟩,
  ⟨some 8, (.extract (.tmp 5) 0), false, none⟩,
  ⟨some 9, (.extract (.tmp 5) 1), false, none⟩,
  ⟨some 3, (.mov (.tmp 8)), false, none⟩,
  ⟨some 4, (.mov (.tmp 9)), false, none⟩]
def c22_3 : ACode := (.region o22_2 [4])
def w22_3 (P : Program) (Q : Exit → Slots → Mem → Prop) (M : Mem) (v1 : V) : Prop :=
  @OptVH (loadV 4 true v1 M) ⟨fun t6_1 =>
  @CallH P i_transitref26_Fares [t6_1] M ⟨fun t7_2 M2 =>
  @OptVH (extractV t7_2 0) ⟨fun _t8_4 =>
  @OptVH (extractV t7_2 1) ⟨fun t9_5 =>
  Q .normal [(4, t9_5)] M2⟩⟩⟩⟩
theorem e22_3 (P : Program) (Q : Exit → Slots → Mem → Prop) (s : Slots) (M : Mem) : wpC P c22_3 Q s M = w22_3 P Q M (sget s 1) := by kernel_rfl
def o22_4 : List AOper := [⟨some 10, (.mov (.tmp 4)), false, none⟩,
  ⟨some 11, (.bin .eql .none (.tmp 10) (.const (.int .i64 0))), true, none⟩,
  ⟨some 2, (.mov (.tmp 11)), true, none⟩]
def c22_5 : ACode := (.region o22_4 [2])
def w22_5 (_P : Program) (Q : Exit → Slots → Mem → Prop) (M : Mem) (v4 : V) : Prop :=
  @OptBH (binV .eql .none v4 (.int .i64 0)) ⟨fun b11_2 =>
  Q .normal [(2, (.bool b11_2))] M⟩
theorem e22_5 (P : Program) (Q : Exit → Slots → Mem → Prop) (s : Slots) (M : Mem) : wpC P c22_5 Q s M = w22_5 P Q M (sget s 4) := by kernel_rfl
def c22_6 : ACode := (.seq c22_5 .ret)
def c22_7 : ACode := (.seq c22_3 c22_6)
def c22_8 : ACode := (.seq c22_1 c22_7)
def fn_transitref35_Valid : AFn := ⟨12, [(.tmp 2)], c22_8⟩
theorem fn_transitref35_Valid_ok : resFn PR h_transitref35_Valid i_transitref35_Valid = some fn_transitref35_Valid := by kernel_rfl

def h_transitref35_Best : Hints := ⟨[(0, [1, 2]), (1, [1, 2, 6]), (2, [1, 2, 6, 7]), (3, [1, 2, 6, 7]), (4, [1, 2, 6, 7, 8]), (5, [1, 2, 6, 7, 8, 28]), (6, [1, 2, 6, 7, 8]), (7, [1, 2, 6, 7, 8, 9]), (8, [1, 2, 6, 7, 8, 9, 35]), (9, [1, 2, 6, 7, 8, 9]), (10, [1, 2, 6, 7, 8, 9, 10]), (11, [1, 2, 6, 7, 8, 9, 10, 49]), (12, [1, 2, 6, 7, 8, 9, 10]), (13, [1, 2, 6, 7, 8, 9, 10, 61]), (14, [1, 2, 6, 7, 8, 9, 10, 11]), (15, [1, 2, 6, 7, 8, 9, 10, 11]), (16, [1, 2, 6, 7, 8, 9, 10, 11, 95]), (17, [1, 2, 6, 7, 8, 9, 10]), (18, [4, 5])], [(5, [1, 2, 6, 7, 8]), (8, [1, 2, 6, 7, 8, 9]), (11, [1, 2, 6, 7, 8, 9, 10])], [(15, [6])]⟩
def o23_0 : List AOper := [⟨some 2, (.box 4 (.tmp 0)), false, none⟩,
  ⟨some 4, (.mov (.const (.slice [] .nil))), false, none⟩,
  ⟨some 5, (.mov (.const (.bool false))), true, none⟩]
def c23_1 : ACode := (.region o23_0 [1, 2])
def w23_1 (_P : Program) (Q : Exit → Slots → Mem → Prop) (M : Mem) (v0 : V) (v1 : V) : Prop :=
  @OptMH (boxV 4 v0 M) ⟨fun t2_1 M1 =>
  Q .normal [(1, v1), (2, t2_1)] M1⟩
theorem e23_1 (P : Program) (Q : Exit → Slots → Mem → Prop) (s : Slots) (M : Mem) : wpC P c23_1 Q s M = w23_1 P Q M (sget s 0) (sget s 1) := by kernel_rfl
def o23_2 : List AOper := [⟨some 12, (.mov (.tmp 1)), false, none⟩,
  ⟨some 13, (.lenSl (.tmp 12)), false, none⟩,
  ⟨some 14, (.bin .add .none (.tmp 13) (.const (.int .i64 1))), false, none⟩,
  ⟨some 15, (.makeSlice [(.slice [] .nil)] 1 24 (.tmp 14) (.tmp 14)), false, none⟩,
  ⟨some 6, (.mov (.tmp 15)), false, none⟩]
def c23_3 : ACode := (.region o23_2 [1, 2, 6])
def w23_3 (_P : Program) (Q : Exit → Slots → Mem → Prop) (M : Mem) (v1 : V) (v2 : V) : Prop :=
  @OptVH (lenV v1 M) ⟨fun t13_2 =>
  @OptVH (binV .add .none t13_2 (.int .i64 1)) ⟨fun t14_3 =>
  @OptMH (makeSliceV [(.slice [] .nil)] 1 24 t14_3 t14_3 M) ⟨fun t15_4 M4 =>
  Q .normal [(1, v1), (2, v2), (6, t15_4)] M4⟩⟩⟩
theorem e23_3 (P : Program) (Q : Exit → Slots → Mem → Prop) (s : Slots) (M : Mem) : wpC P c23_3 Q s M = w23_3 P Q M (sget s 1) (sget s 2) := by kernel_rfl
def o23_4 : List AOper := [⟨some 16, (.mov (.tmp 1)), false, none⟩,
  ⟨some 17, (.lenSl (.tmp 16)), false, none⟩,
  ⟨some 18, (.bin .add .none (.tmp 17) (.const (.int .i64 1))), false, none⟩,
  ⟨some 19, (.makeSlice [(.bool false)] 1 1 (.tmp 18) (.tmp 18)), false, none⟩,
  ⟨some 7, (.mov (.tmp 19)), false, none⟩]
def c23_5 : ACode := (.region o23_4 [1, 2, 6, 7])
def w23_5 (_P : Program) (Q : Exit → Slots → Mem → Prop) (M : Mem) (v1 : V) (v2 : V) (v6 : V) : Prop :=
  @OptVH (lenV v1 M) ⟨fun t17_2 =>
  @OptVH (binV .add .none t17_2 (.int .i64 1)) ⟨fun t18_3 =>
  @OptMH (makeSliceV [(.bool false)] 1 1 t18_3 t18_3 M) ⟨fun t19_4 M4 =>
  Q .normal [(1, v1), (2, v2), (6, v6), (7, t19_4)] M4⟩⟩⟩
theorem e23_5 (P : Program) (Q : Exit → Slots → Mem → Prop) (s : Slots) (M : Mem) : wpC P c23_5 Q s M = w23_5 P Q M (sget s 1) (sget s 2) (sget s 6) := by kernel_rfl
def o23_6 : List AOper := [⟨some 20, (.mov (.tmp 7)), false, none⟩,
  ⟨some 21, (.mov (.tmp 1)), false, none⟩,
  ⟨some 22, (.lenSl (.tmp 21)), false, none⟩,
  ⟨some 23, (.indexSl 1 (.tmp 20) (.tmp 22)), false, none⟩,
  ⟨none, (.store 1 (.tmp 23) (.const (.bool true))), false, none⟩]
def c23_7 : ACode := (.region o23_6 [1, 2, 6, 7])
def w23_7 (_P : Program) (Q : Exit → Slots → Mem → Prop) (M : Mem) (v1 : V) (v2 : V) (v6 : V) (v7 : V) : Prop :=
  @OptVH (lenV v1 M) ⟨fun t22_3 =>
  @OptVH (indexSlV 1 v7 t22_3 M) ⟨fun t23_4 =>
  @OptMH (storeVM 1 t23_4 (.bool true) M) ⟨fun _tx_5 M5 =>
  Q .normal [(1, v1), (2, v2), (6, v6), (7, v7)] M5⟩⟩⟩
theorem e23_7 (P : Program) (Q : Exit → Slots → Mem → Prop) (s : Slots) (M : Mem) : wpC P c23_7 Q s M = w23_7 P Q M (sget s 1) (sget s 2) (sget s 6) (sget s 7) := by kernel_rfl
def o23_8 : List AOper := [⟨some 24, (.mov (.tmp 1)), false, none⟩,
  ⟨some 25, (.lenSl (.tmp 24)), false, none⟩,
  ⟨some 26, (.bin .sub .none (.tmp 25) (.const (.int .i64 1))), false, none⟩,
  ⟨some 8, (.mov (.tmp 26)), false, none⟩]
def c23_9 : ACode := (.region o23_8 [1, 2, 6, 7, 8])
def w23_9 (_P : Program) (Q : Exit → Slots → Mem → Prop) (M : Mem) (v1 : V) (v2 : V) (v6 : V) (v7 : V) : Prop :=
  @OptVH (lenV v1 M) ⟨fun t25_2 =>
  @OptVH (binV .sub .none t25_2 (.int .i64 1)) ⟨fun t26_3 =>
  Q .normal [(1, v1), (2, v2), (6, v6), (7, v7), (8, t26_3)] M⟩⟩
theorem e23_9 (P : Program) (Q : Exit → Slots → Mem → Prop) (s : Slots) (M : Mem) : wpC P c23_9 Q s M = w23_9 P Q M (sget s 1) (sget s 2) (sget s 6) (sget s 7) := by kernel_rfl
def o23_10 : List AOper := [⟨some 27, (.mov (.tmp 8)), false, none⟩,
  ⟨some 28, (.bin .geq .none (.tmp 27) (.const (.int .i64 0))), true, none⟩]
def c23_11 : ACode := (.seq (.region o23_10 [1, 2, 6, 7, 8, 28]) (.cond (.tmp 28) .skip (.exit 0)))
def w23_11 (_P : Program) (Q : Exit → Slots → Mem → Prop) (M : Mem) (v1 : V) (v2 : V) (v6 : V) (v7 : V) (v8 : V) : Prop :=
  @OptBH (binV .geq .none v8 (.int .i64 0)) ⟨fun b28_2 =>
  @BIfH b28_2
  ⟨Q .normal [(1, v1), (2, v2), (6, v6), (7, v7), (8, v8), (28, (.bool b28_2))] M⟩
  ⟨Q (.exit 0) [(1, v1), (2, v2), (6, v6), (7, v7), (8, v8), (28, (.bool b28_2))] M⟩⟩
theorem e23_11 (P : Program) (Q : Exit → Slots → Mem → Prop) (s : Slots) (M : Mem) : wpC P c23_11 Q s M = w23_11 P Q M (sget s 1) (sget s 2) (sget s 6) (sget s 7) (sget s 8) := by kernel_rfl
def o23_12 : List AOper := [⟨some 31, (.mov (.tmp 8)), false, none⟩,
  ⟨some 9, (.mov (.tmp 31)), false, none⟩]
def c23_13 : ACode := (.region o23_12 [1, 2, 6, 7, 8, 9])
def w23_13 (_P : Program) (Q : Exit → Slots → Mem → Prop) (M : Mem) (v1 : V) (v2 : V) (v6 : V) (v7 : V) (v8 : V) : Prop :=
  Q .normal [(1, v1), (2, v2), (6, v6), (7, v7), (8, v8), (9, v8)] M
theorem e23_13 (P : Program) (Q : Exit → Slots → Mem → Prop) (s : Slots) (M : Mem) : wpC P c23_13 Q s M = w23_13 P Q M (sget s 1) (sget s 2) (sget s 6) (sget s 7) (sget s 8) := by kernel_rfl
def o23_14 : List AOper := [⟨some 32, (.mov (.tmp 9)), false, none⟩,
  ⟨some 33, (.mov (.tmp 1)), false, none⟩,
  ⟨some 34, (.lenSl (.tmp 33)), false, none⟩,
  ⟨some 35, (.bin .lss .none (.tmp 32) (.tmp 34)), true, none⟩]
def c23_15 : ACode := (.seq (.region o23_14 [1, 2, 6, 7, 8, 9, 35]) (.cond (.tmp 35) .skip (.exit 2)))
def w23_15 (_P : Program) (Q : Exit → Slots → Mem → Prop) (M : Mem) (v1 : V) (v2 : V) (v6 : V) (v7 : V) (v8 : V) (v9 : V) : Prop :=
  @OptVH (lenV v1 M) ⟨fun t34_3 =>
  @OptBH (binV .lss .none v9 t34_3) ⟨fun b35_4 =>
  @BIfH b35_4
  ⟨Q .normal [(1, v1), (2, v2), (6, v6), (7, v7), (8, v8), (9, v9), (35, (.bool b35_4))] M⟩
  ⟨Q (.exit 2) [(1, v1), (2, v2), (6, v6), (7, v7), (8, v8), (9, v9), (35, (.bool b35_4))] M⟩⟩⟩
theorem e23_15 (P : Program) (Q : Exit → Slots → Mem → Prop) (s : Slots) (M : Mem) : wpC P c23_15 Q s M = w23_15 P Q M (sget s 1) (sget s 2) (sget s 6) (sget s 7) (sget s 8) (sget s 9) := by kernel_rfl
def o23_16 : List AOper := [⟨some 10, (.mov (.const (.int .i64 0))), false, none⟩]
def c23_17 : ACode := (.region o23_16 [1, 2, 6, 7, 8, 9, 10])
def w23_17 (_P : Program) (Q : Exit → Slots → Mem → Prop) (M : Mem) (v1 : V) (v2 : V) (v6 : V) (v7 : V) (v8 : V) (v9 : V) : Prop :=
  Q .normal [(1, v1), (2, v2), (6, v6), (7, v7), (8, v8), (9, v9), (10, (.int .i64 0))] M
theorem e23_17 (P : Program) (Q : Exit → Slots → Mem → Prop) (s : Slots) (M : Mem) : wpC P c23_17 Q s M = w23_17 P Q M (sget s 1) (sget s 2) (sget s 6) (sget s 7) (sget s 8) (sget s 9) := by kernel_rfl
def o23_18 : List AOper := [⟨some 38, (.mov (.tmp 10)), false, none⟩,
  ⟨some 39, (.fieldAddr 0 (.tmp 2)), false, none⟩,
  ⟨some 40, (.load 1 false (.tmp 39)), false, none⟩,
  ⟨some 41, (.lenSl (.tmp 40)), false, none⟩,
  ⟨some 42, (.bin .lss .none (.tmp 38) (.tmp 41)), true, none⟩,
  ⟨some 43, (.mov (.tmp 42)), true, none⟩,
  ⟨some 44, (.mov (.tmp 7)), false, some (43, true)⟩,
  ⟨some 45, (.mov (.tmp 9)), false, some (43, true)⟩,
  ⟨some 46, (.bin .add .none (.tmp 45) (.const (.int .i64 1))), false, some (43, true)⟩,
  ⟨some 47, (.indexSl 1 (.tmp 44) (.tmp 46)), false, some (43, true)⟩,
  ⟨some 48, (.load 1 false (.tmp 47)), true, some (43, true)⟩,
  ⟨some 49, (.pick (.tmp 43) (.tmp 48) (.const (.bool false))), true, none⟩]
def c23_19 : ACode := (.seq (.region o23_18 [1, 2, 6, 7, 8, 9, 10, 49]) (.cond (.tmp 49) .skip (.exit 4)))
def w23_19 (_P : Program) (Q : Exit → Slots → Mem → Prop) (M : Mem) (v1 : V) (v2 : V) (v6 : V) (v7 : V) (v8 : V) (v9 : V) (v10 : V) : Prop :=
  @OptVH (moveV 0 v2) ⟨fun t39_2 =>
  @OptVH (loadV 1 false t39_2 M) ⟨fun t40_3 =>
  @OptVH (lenV t40_3 M) ⟨fun t41_4 =>
  @OptBH (binV .lss .none v10 t41_4) ⟨fun b42_5 =>
  @BIfH b42_5
  ⟨@OptVH (binV .add .none v9 (.int .i64 1)) ⟨fun t46_9 =>
  @OptVH (indexSlV 1 v7 t46_9 M) ⟨fun t47_10 =>
  @OptBH (loadV 1 false t47_10 M) ⟨fun b48_11 =>
  @BIfH b48_11
  ⟨Q .normal [(1, v1), (2, v2), (6, v6), (7, v7), (8, v8), (9, v9), (10, v10), (49, (.bool b48_11))] M⟩
  ⟨Q (.exit 4) [(1, v1), (2, v2), (6, v6), (7, v7), (8, v8), (9, v9), (10, v10), (49, (.bool b48_11))] M⟩⟩⟩⟩⟩
  ⟨Q (.exit 4) [(1, v1), (2, v2), (6, v6), (7, v7), (8, v8), (9, v9), (10, v10), (49, (.bool false))] M⟩⟩⟩⟩⟩
theorem e23_19 (P : Program) (Q : Exit → Slots → Mem → Prop) (s : Slots) (M : Mem) : wpC P c23_19 Q s M = w23_19 P Q M (sget s 1) (sget s 2) (sget s 6) (sget s 7) (sget s 8) (sget s 9) (sget s 10) := by kernel_rfl
def o23_20 : List AOper := [⟨some 52, (.fieldAddr 0 (.tmp 2)), false, none⟩,
  ⟨some 53, (.load 1 false (.tmp 52)), false, none⟩,
  ⟨some 54, (.mov (.tmp 10)), false, none⟩,
  ⟨some 55, (.indexSl 6 (.tmp 53) (.tmp 54)), false, none⟩,
  ⟨some 56, (.load 6 true (.tmp 55)), false, none⟩,
  ⟨some 57, (.mov (.tmp 1)), false, none⟩,
  ⟨some 58, (.mov (.tmp 8)), false, none⟩,
  ⟨some 59, (.mov (.tmp 9)), false, none⟩,
  ⟨some 60, (.call i_transitref35_Covers [(.tmp 56), (.tmp 57), (.tmp 58), (.tmp 59)]), true, none⟩,
  ⟨some 61, (.un .not (.tmp 60)), true, none⟩]
def c23_21 : ACode := (.seq (.region o23_20 [1, 2, 6, 7, 8, 9, 10, 61]) (.cond (.tmp 61) (.exit 5) .skip))
def w23_21 (P : Program) (Q : Exit → Slots → Mem → Prop) (M : Mem) (v1 : V) (v2 : V) (v6 : V) (v7 : V) (v8 : V) (v9 : V) (v10 : V) : Prop :=
  @OptVH (moveV 0 v2) ⟨fun t52_1 =>
  @OptVH (loadV 1 false t52_1 M) ⟨fun t53_2 =>
  @OptVH (indexSlV 6 t53_2 v10 M) ⟨fun t55_4 =>
  @OptVH (loadV 6 true t55_4 M) ⟨fun t56_5 =>
  @CallH P i_transitref35_Covers [t56_5, v1, v8, v9] M ⟨fun t60_9 M9 => @OptBH (some t60_9) ⟨fun b60_9 =>
  @OptBH (unV .not (.bool b60_9)) ⟨fun b61_10 =>
  @BIfH b61_10
  ⟨Q (.exit 5) [(1, v1), (2, v2), (6, v6), (7, v7), (8, v8), (9, v9), (10, v10), (61, (.bool b61_10))] M9⟩
  ⟨Q .normal [(1, v1), (2, v2), (6, v6), (7, v7), (8, v8), (9, v9), (10, v10), (61, (.bool b61_10))] M9⟩⟩⟩⟩⟩⟩⟩⟩
theorem e23_21 (P : Program) (Q : Exit → Slots → Mem → Prop) (s : Slots) (M : Mem) : wpC P c23_21 Q s M = w23_21 P Q M (sget s 1) (sget s 2) (sget s 6) (sget s 7) (sget s 8) (sget s 9) (sget s 10) := by kernel_rfl
def o23_22 : List AOper := [⟨some 62, (.mov (.tmp 10)), false, none⟩,
  ⟨some 63, (.mov (.tmp 8)), false, none⟩,
  ⟨some 64, (.mov (.tmp 9)), false, none⟩,
  ⟨some 65, (.load 4 true (.tmp 2)), false, none⟩,
  ⟨some 66, (.fieldAddr 0 (.tmp 2)), false, none⟩,
  ⟨some 67, (.load 1 false (.tmp 66)), false, none⟩,
  ⟨some 68, (.mov (.tmp 10)), false, none⟩,
  ⟨some 69, (.indexSl 6 (.tmp 67) (.tmp 68)), false, none⟩,
  ⟨some 70, (.load 6 true (.tmp 69)), false, none⟩,
  ⟨some 71, (.mov (.tmp 1)), false, none⟩,
  ⟨some 72, (.mov (.tmp 8)), false, none⟩,
  ⟨some 73, (.call i_transitref35_Ticket [(.tmp 65), (.tmp 70), (.tmp 71), (.tmp 72)]), false, none⟩,
  ⟨some 74, (.build [(.int .i64 0), (.int .i64 0), (.int .i64 0), (.int .i64 0)] [(0, (1, (.tmp 62))), (1, (1, (.tmp 63))), (2, (1, (.tmp 64))), (3, (1, (.tmp 73)))]), false, none⟩,
  ⟨some 75, (.buildSlice [(.int .i64 0), (.int .i64 0), (.int .i64 0), (.int .i64 0)] 4 1 [(0, (4, (.tmp 74)))]), false, none⟩,
  ⟨some 11, (.mov (.tmp 75)), false, none⟩]
def c23_23 : ACode := (.mixed o23_22 [true, true, true, true, true, true, true, true, true, true, true, true, true, true, true] [1, 2, 6, 7, 8, 9, 10, 11])
def w23_23 (P : Program) (Q : Exit → Slots → Mem → Prop) (M : Mem) (v1 : V) (v2 : V) (v6 : V) (v7 : V) (v8 : V) (v9 : V) (v10 : V) : Prop :=
  @OptVH (loadV 4 true v2 M) ⟨fun t65_4 =>
  @OptVH (moveV 0 v2) ⟨fun t66_5 =>
  @OptVH (loadV 1 false t66_5 M) ⟨fun t67_6 =>
  @OptVH (indexSlV 6 t67_6 v10 M) ⟨fun t69_8 =>
  @OptVH (loadV 6 true t69_8 M) ⟨fun t70_9 =>
  @CallQ P i_transitref35_Ticket [t65_4, t70_9, v1, v8] M ⟨fun t73_12 M12 =>
  @OptVH (buildV [(.int .i64 0), (.int .i64 0), (.int .i64 0), (.int .i64 0)] [(0, 1, v10), (1, 1, v8), (2, 1, v9), (3, 1, t73_12)]) ⟨fun t74_13 =>
  @OptVH (buildSliceV [(.int .i64 0), (.int .i64 0), (.int .i64 0), (.int .i64 0)] 4 1 [(0, 4, t74_13)]) ⟨fun t75_14 =>
  Q .normal [(1, v1), (2, v2), (6, v6), (7, v7), (8, v8), (9, v9), (10, v10), (11, t75_14)] M12⟩⟩⟩⟩⟩⟩⟩⟩
theorem e23_23 (P : Program) (Q : Exit → Slots → Mem → Prop) (s : Slots) (M : Mem) : wpC P c23_23 Q s M = w23_23 P Q M (sget s 1) (sget s 2) (sget s 6) (sget s 7) (sget s 8) (sget s 9) (sget s 10) := by kernel_rfl
def o23_24 : List AOper := [⟨some 76, (.mov (.tmp 11)), false, none⟩,
  ⟨some 77, (.mov (.tmp 6)), false, none⟩,
  ⟨some 78, (.mov (.tmp 9)), false, none⟩,
  ⟨some 79, (.bin .add .none (.tmp 78) (.const (.int .i64 1))), false, none⟩,
  ⟨some 80, (.indexSl 1 (.tmp 77) (.tmp 79)), false, none⟩,
  ⟨some 81, (.load 1 false (.tmp 80)), false, none⟩,
  ⟨some 82, (.append true 4 32 (.tmp 76) (.tmp 81)), false, none⟩,
  ⟨some 11, (.mov (.tmp 82)), false, none⟩]
def c23_25 : ACode := (.region o23_24 [1, 2, 6, 7, 8, 9, 10, 11])
def w23_25 (_P : Program) (Q : Exit → Slots → Mem → Prop) (M : Mem) (v1 : V) (v2 : V) (v6 : V) (v7 : V) (v8 : V) (v9 : V) (v10 : V) (v11 : V) : Prop :=
  @OptVH (binV .add .none v9 (.int .i64 1)) ⟨fun t79_4 =>
  @OptVH (indexSlV 1 v6 t79_4 M) ⟨fun t80_5 =>
  @OptVH (loadV 1 false t80_5 M) ⟨fun t81_6 =>
  @OptMH (appV true 4 32 v11 t81_6 M) ⟨fun t82_7 M7 =>
  Q .normal [(1, v1), (2, v2), (6, v6), (7, v7), (8, v8), (9, v9), (10, v10), (11, t82_7)] M7⟩⟩⟩⟩
theorem e23_25 (P : Program) (Q : Exit → Slots → Mem → Prop) (s : Slots) (M : Mem) : wpC P c23_25 Q s M = w23_25 P Q M (sget s 1) (sget s 2) (sget s 6) (sget s 7) (sget s 8) (sget s 9) (sget s 10) (sget s 11) := by kernel_rfl
def o23_26 : List AOper := [⟨some 96, (.mov (.tmp 6)), false, none⟩,
  ⟨some 97, (.mov (.tmp 8)), false, none⟩,
  ⟨some 98, (.mov (.tmp 7)), false, none⟩,
  ⟨some 99, (.mov (.tmp 8)), false, none⟩,
  ⟨some 100, (.mov (.tmp 11)), false, none⟩,
  ⟨some 101, (.indexSl 1 (.tmp 96) (.tmp 97)), false, none⟩,
  ⟨none, (.store 1 (.tmp 101) (.tmp 100)), false, none⟩,
  ⟨some 102, (.indexSl 1 (.tmp 98) (.tmp 99)), false, none⟩,
  ⟨none, (.store 1 (.tmp 102) (.const (.bool true))), false, none⟩]
def c23_27 : ACode := (.region o23_26 [1, 2, 6, 7, 8, 9, 10])
def w23_27 (_P : Program) (Q : Exit → Slots → Mem → Prop) (M : Mem) (v1 : V) (v2 : V) (v6 : V) (v7 : V) (v8 : V) (v9 : V) (v10 : V) (v11 : V) : Prop :=
  @OptVH (indexSlV 1 v6 v8 M) ⟨fun t101_6 =>
  @OptMH (storeVM 1 t101_6 v11 M) ⟨fun _tx_7 M7 =>
  @OptVH (indexSlV 1 v7 v8 M7) ⟨fun t102_8 =>
  @OptMH (storeVM 1 t102_8 (.bool true) M7) ⟨fun _tx_9 M9 =>
  Q .normal [(1, v1), (2, v2), (6, v6), (7, v7), (8, v8), (9, v9), (10, v10)] M9⟩⟩⟩⟩
theorem e23_27 (P : Program) (Q : Exit → Slots → Mem → Prop) (s : Slots) (M : Mem) : wpC P c23_27 Q s M = w23_27 P Q M (sget s 1) (sget s 2) (sget s 6) (sget s 7) (sget s 8) (sget s 9) (sget s 10) (sget s 11) := by kernel_rfl
def o23_28 : List AOper := [⟨some 83, (.mov (.tmp 7)), false, none⟩,
  ⟨some 84, (.mov (.tmp 8)), false, none⟩,
  ⟨some 85, (.indexSl 1 (.tmp 83) (.tmp 84)), false, none⟩,
  ⟨some 86, (.load 1 false (.tmp 85)), true, none⟩,
  ⟨some 87, (.un .not (.tmp 86)), true, none⟩,
  ⟨some 88, (.mov (.tmp 87)), true, none⟩,
  ⟨some 89, (.mov (.tmp 11)), false, some (88, false)⟩,
  ⟨some 90, (.mov (.tmp 6)), false, some (88, false)⟩,
  ⟨some 91, (.mov (.tmp 8)), false, some (88, false)⟩,
  ⟨some 92, (.indexSl 1 (.tmp 90) (.tmp 91)), false, some (88, false)⟩,
  ⟨some 93, (.load 1 false (.tmp 92)), false, some (88, false)⟩,
  ⟨some 94, (.call i_transitref35_better [(.tmp 89), (.tmp 93)]), true, some (88, false)⟩,
  ⟨some 95, (.pick (.tmp 88) (.const (.bool true)) (.tmp 94)), true, none⟩]
def c23_29 : ACode := (.seq (.region o23_28 [1, 2, 6, 7, 8, 9, 10, 11, 95]) (.cond (.tmp 95) c23_27 .skip))
def w23_29 (P : Program) (Q : Exit → Slots → Mem → Prop) (M : Mem) (v1 : V) (v2 : V) (v6 : V) (v7 : V) (v8 : V) (v9 : V) (v10 : V) (v11 : V) : Prop :=
  @OptVH (indexSlV 1 v7 v8 M) ⟨fun t85_3 =>
  @OptBH (loadV 1 false t85_3 M) ⟨fun b86_4 =>
  @OptBH (unV .not (.bool b86_4)) ⟨fun b87_5 =>
  @BIfH b87_5
  ⟨wpC P c23_27 Q [(1, v1), (2, v2), (6, v6), (7, v7), (8, v8), (9, v9), (10, v10), (11, v11), (95, (.bool true))] M⟩
  ⟨@OptVH (indexSlV 1 v6 v8 M) ⟨fun t92_11 =>
  @OptVH (loadV 1 false t92_11 M) ⟨fun t93_12 =>
  @CallH P i_transitref35_better [v11, t93_12] M ⟨fun t94_13 M13 => @OptBH (some t94_13) ⟨fun b94_13 =>
  @BIfH b94_13
  ⟨wpC P c23_27 Q [(1, v1), (2, v2), (6, v6), (7, v7), (8, v8), (9, v9), (10, v10), (11, v11), (95, (.bool b94_13))] M13⟩
  ⟨Q .normal [(1, v1), (2, v2), (6, v6), (7, v7), (8, v8), (9, v9), (10, v10), (11, v11), (95, (.bool b94_13))] M13⟩⟩⟩⟩⟩⟩⟩⟩⟩
theorem e23_29 (P : Program) (Q : Exit → Slots → Mem → Prop) (s : Slots) (M : Mem) : wpC P c23_29 Q s M = w23_29 P Q M (sget s 1) (sget s 2) (sget s 6) (sget s 7) (sget s 8) (sget s 9) (sget s 10) (sget s 11) := by kernel_rfl
def c23_30 : ACode := (.seq c23_25 c23_29)
def c23_31 : ACode := (.seq c23_23 c23_30)
def c23_32 : ACode := (.seq c23_21 c23_31)
def c23_33 : ACode := (.block 5 c23_32)
def o23_34 : List AOper := [⟨some 50, (.mov (.tmp 10)), false, none⟩,
  ⟨some 51, (.bin .add .none (.tmp 50) (.const (.int .i64 1))), false, none⟩,
  ⟨some 10, (.mov (.tmp 51)), false, none⟩]
def c23_35 : ACode := (.region o23_34 [1, 2, 6, 7, 8, 9, 10])
def w23_35 (_P : Program) (Q : Exit → Slots → Mem → Prop) (M : Mem) (v1 : V) (v2 : V) (v6 : V) (v7 : V) (v8 : V) (v9 : V) (v10 : V) : Prop :=
  @OptVH (binV .add .none v10 (.int .i64 1)) ⟨fun t51_2 =>
  Q .normal [(1, v1), (2, v2), (6, v6), (7, v7), (8, v8), (9, v9), (10, t51_2)] M⟩
theorem e23_35 (P : Program) (Q : Exit → Slots → Mem → Prop) (s : Slots) (M : Mem) : wpC P c23_35 Q s M = w23_35 P Q M (sget s 1) (sget s 2) (sget s 6) (sget s 7) (sget s 8) (sget s 9) (sget s 10) := by kernel_rfl
def c23_36 : ACode := (.seq c23_33 c23_35)
def c23_37 : ACode := (.seq c23_19 c23_36)
def c23_38 : ACode := (.loop [1, 2, 6, 7, 8, 9, 10] c23_37)
def c23_39 : ACode := (.block 4 c23_38)
def c23_40 : ACode := (.seq c23_17 c23_39)
def c23_41 : ACode := (.block 3 c23_40)
def o23_42 : List AOper := [⟨some 36, (.mov (.tmp 9)), false, none⟩,
  ⟨some 37, (.bin .add .none (.tmp 36) (.const (.int .i64 1))), false, none⟩,
  ⟨some 9, (.mov (.tmp 37)), false, none⟩]
def c23_43 : ACode := (.region o23_42 [1, 2, 6, 7, 8, 9])
def w23_43 (_P : Program) (Q : Exit → Slots → Mem → Prop) (M : Mem) (v1 : V) (v2 : V) (v6 : V) (v7 : V) (v8 : V) (v9 : V) : Prop :=
  @OptVH (binV .add .none v9 (.int .i64 1)) ⟨fun t37_2 =>
  Q .normal [(1, v1), (2, v2), (6, v6), (7, v7), (8, v8), (9, t37_2)] M⟩
theorem e23_43 (P : Program) (Q : Exit → Slots → Mem → Prop) (s : Slots) (M : Mem) : wpC P c23_43 Q s M = w23_43 P Q M (sget s 1) (sget s 2) (sget s 6) (sget s 7) (sget s 8) (sget s 9) := by kernel_rfl
def c23_44 : ACode := (.seq c23_41 c23_43)
def c23_45 : ACode := (.seq c23_15 c23_44)
def c23_46 : ACode := (.loop [1, 2, 6, 7, 8, 9] c23_45)
def c23_47 : ACode := (.block 2 c23_46)
def c23_48 : ACode := (.seq c23_13 c23_47)
def c23_49 : ACode := (.block 1 c23_48)
def o23_50 : List AOper := [⟨some 29, (.mov (.tmp 8)), false, none⟩,
  ⟨some 30, (.bin .sub .none (.tmp 29) (.const (.int .i64 1))), false, none⟩,
  ⟨some 8, (.mov (.tmp 30)), false, none⟩]
def c23_51 : ACode := (.region o23_50 [1, 2, 6, 7, 8])
def w23_51 (_P : Program) (Q : Exit → Slots → Mem → Prop) (M : Mem) (v1 : V) (v2 : V) (v6 : V) (v7 : V) (v8 : V) : Prop :=
  @OptVH (binV .sub .none v8 (.int .i64 1)) ⟨fun t30_2 =>
  Q .normal [(1, v1), (2, v2), (6, v6), (7, v7), (8, t30_2)] M⟩
theorem e23_51 (P : Program) (Q : Exit → Slots → Mem → Prop) (s : Slots) (M : Mem) : wpC P c23_51 Q s M = w23_51 P Q M (sget s 1) (sget s 2) (sget s 6) (sget s 7) (sget s 8) := by kernel_rfl
def c23_52 : ACode := (.seq c23_49 c23_51)
def c23_53 : ACode := (.seq c23_11 c23_52)
def c23_54 : ACode := (.loop [1, 2, 6, 7, 8] c23_53)
def c23_55 : ACode := (.block 0 c23_54)
def c23_56 : ACode := (.seq c23_9 c23_55)
def o23_57 : List AOper := [⟨some 103, (.mov (.tmp 6)), false, none⟩,
  ⟨some 104, (.indexSl 1 (.tmp 103) (.const (.int .i64 0))), false, none⟩,
  ⟨some 105, (.load 1 false (.tmp 104)), false, none⟩,
  ⟨some 106, (.mov (.tmp 7)), false, none⟩,
  ⟨some 107, (.indexSl 1 (.tmp 106) (.const (.int .i64 0))), false, none⟩,
  ⟨some 108, (.load 1 false (.tmp 107)), true, none⟩,
  ⟨some 4, (.mov (.tmp 105)), false, none⟩,
  ⟨some 5, (.mov (.tmp 108)), true, none⟩]
def c23_58 : ACode := (.mixed o23_57 [true, true, true, true, true, true, true, true] [4, 5])
def w23_58 (_P : Program) (Q : Exit → Slots → Mem → Prop) (M : Mem) (v6 : V) (v7 : V) : Prop :=
  @OptVH (indexSlV 1 v6 (.int .i64 0) M) ⟨fun t104_2 =>
  @OptVH (loadV 1 false t104_2 M) ⟨fun t105_3 =>
  @OptVH (indexSlV 1 v7 (.int .i64 0) M) ⟨fun t107_5 =>
  @OptBH (loadV 1 false t107_5 M) ⟨fun b108_6 =>
  Q .normal [(4, t105_3), (5, (.bool b108_6))] M⟩⟩⟩⟩
theorem e23_58 (P : Program) (Q : Exit → Slots → Mem → Prop) (s : Slots) (M : Mem) : wpC P c23_58 Q s M = w23_58 P Q M (sget s 6) (sget s 7) := by kernel_rfl
def c23_59 : ACode := (.seq c23_58 .ret)
def c23_60 : ACode := (.seq c23_56 c23_59)
def c23_61 : ACode := (.seq c23_7 c23_60)
def c23_62 : ACode := (.seq c23_5 c23_61)
def c23_63 : ACode := (.seq c23_3 c23_62)
def c23_64 : ACode := (.seq c23_1 c23_63)
def fn_transitref35_Best : AFn := ⟨109, [(.tmp 4), (.tmp 5)], c23_64⟩
theorem fn_transitref35_Best_ok : resFn PR h_transitref35_Best i_transitref35_Best = some fn_transitref35_Best := by kernel_rfl

def h_transitref35_Capped : Hints := ⟨[(0, [1, 2]), (1, [1, 2, 7]), (2, [4]), (3, [4])], [], []⟩
def o24_0 : List AOper := [⟨some 2, (.box 4 (.tmp 0)), false, none⟩,
  ⟨some 4, (.mov (.const (.int .i64 0))), false, none⟩]
def c24_1 : ACode := (.region o24_0 [1, 2])
def w24_1 (_P : Program) (Q : Exit → Slots → Mem → Prop) (M : Mem) (v0 : V) (v1 : V) : Prop :=
  @OptMH (boxV 4 v0 M) ⟨fun t2_1 M1 =>
  Q .normal [(1, v1), (2, t2_1)] M1⟩
theorem e24_1 (P : Program) (Q : Exit → Slots → Mem → Prop) (s : Slots) (M : Mem) : wpC P c24_1 Q s M = w24_1 P Q M (sget s 0) (sget s 1) := by kernel_rfl
def o24_2 : List AOper := [⟨some 8, (.fieldAddr 3 (.tmp 2)), false, none⟩,
  ⟨some 9, (.load 1 false (.tmp 8)), false, none⟩,
  ⟨some 10, (.mov (.tmp 1)), false, none⟩,
  ⟨some 11, (.minmax false (.tmp 9) (.tmp 10)), false, none⟩,
  ⟨some 4, (.mov (.tmp 11)), false, none⟩]
def c24_3 : ACode := (.region o24_2 [4])
def w24_3 (_P : Program) (Q : Exit → Slots → Mem → Prop) (M : Mem) (v1 : V) (v2 : V) : Prop :=
  @OptVH (moveV 3 v2) ⟨fun t8_1 =>
  @OptVH (loadV 1 false t8_1 M) ⟨fun t9_2 =>
  @OptVH (minmaxV false t9_2 v1) ⟨fun t11_4 =>
  Q .normal [(4, t11_4)] M⟩⟩⟩
theorem e24_3 (P : Program) (Q : Exit → Slots → Mem → Prop) (s : Slots) (M : Mem) : wpC P c24_3 Q s M = w24_3 P Q M (sget s 1) (sget s 2) := by kernel_rfl
def c24_4 : ACode := (.seq c24_3 .ret)
def o24_5 : List AOper := [⟨some 5, (.fieldAddr 3 (.tmp 2)), false, none⟩,
  ⟨some 6, (.load 1 false (.tmp 5)), false, none⟩,
  ⟨some 7, (.bin .neq .none (.tmp 6) (.const (.int .i64 0))), true, none⟩]
def c24_6 : ACode := (.seq (.region o24_5 [1, 2, 7]) (.cond (.tmp 7) c24_4 .skip))
def w24_6 (P : Program) (Q : Exit → Slots → Mem → Prop) (M : Mem) (v1 : V) (v2 : V) : Prop :=
  @OptVH (moveV 3 v2) ⟨fun t5_1 =>
  @OptVH (loadV 1 false t5_1 M) ⟨fun t6_2 =>
  @OptBH (binV .neq .none t6_2 (.int .i64 0)) ⟨fun b7_3 =>
  @BIfH b7_3
  ⟨wpC P c24_4 Q [(1, v1), (2, v2), (7, (.bool b7_3))] M⟩
  ⟨Q .normal [(1, v1), (2, v2), (7, (.bool b7_3))] M⟩⟩⟩⟩
theorem e24_6 (P : Program) (Q : Exit → Slots → Mem → Prop) (s : Slots) (M : Mem) : wpC P c24_6 Q s M = w24_6 P Q M (sget s 1) (sget s 2) := by kernel_rfl
def o24_7 : List AOper := [⟨some 12, (.mov (.tmp 1)), false, none⟩,
  ⟨some 4, (.mov (.tmp 12)), false, none⟩]
def c24_8 : ACode := (.region o24_7 [4])
def w24_8 (_P : Program) (Q : Exit → Slots → Mem → Prop) (M : Mem) (v1 : V) : Prop :=
  Q .normal [(4, v1)] M
theorem e24_8 (P : Program) (Q : Exit → Slots → Mem → Prop) (s : Slots) (M : Mem) : wpC P c24_8 Q s M = w24_8 P Q M (sget s 1) := by kernel_rfl
def c24_9 : ACode := (.seq c24_8 .ret)
def c24_10 : ACode := (.seq c24_6 c24_9)
def c24_11 : ACode := (.seq c24_1 c24_10)
def fn_transitref35_Capped : AFn := ⟨13, [(.tmp 4)], c24_11⟩
theorem fn_transitref35_Capped_ok : resFn PR h_transitref35_Capped i_transitref35_Capped = some fn_transitref35_Capped := by kernel_rfl

def h_transitref35_Sum : Hints := ⟨[(0, [0]), (1, [0, 3]), (2, [0, 3, 4]), (3, [0, 3, 4, 8]), (4, [0, 3, 4]), (5, [0, 3, 4]), (6, [2])], [(3, [0, 3, 4])], []⟩
def o25_0 : List AOper := [⟨some 2, (.mov (.const (.int .i64 0))), false, none⟩]
def c25_1 : ACode := (.region o25_0 [0])
def w25_1 (_P : Program) (Q : Exit → Slots → Mem → Prop) (M : Mem) (v0 : V) : Prop :=
  Q .normal [(0, v0)] M
theorem e25_1 (P : Program) (Q : Exit → Slots → Mem → Prop) (s : Slots) (M : Mem) : wpC P c25_1 Q s M = w25_1 P Q M (sget s 0) := by kernel_rfl
def o25_2 : List AOper := [⟨some 3, (.mov (.const (.int .i64 0))), false, none⟩]
def c25_3 : ACode := (.region o25_2 [0, 3])
def w25_3 (_P : Program) (Q : Exit → Slots → Mem → Prop) (M : Mem) (v0 : V) : Prop :=
  Q .normal [(0, v0), (3, (.int .i64 0))] M
theorem e25_3 (P : Program) (Q : Exit → Slots → Mem → Prop) (s : Slots) (M : Mem) : wpC P c25_3 Q s M = w25_3 P Q M (sget s 0) := by kernel_rfl
def o25_4 : List AOper := [⟨some 4, (.mov (.const (.int .i64 0))), false, none⟩]
def c25_5 : ACode := (.region o25_4 [0, 3, 4])
def w25_5 (_P : Program) (Q : Exit → Slots → Mem → Prop) (M : Mem) (v0 : V) (v3 : V) : Prop :=
  Q .normal [(0, v0), (3, v3), (4, (.int .i64 0))] M
theorem e25_5 (P : Program) (Q : Exit → Slots → Mem → Prop) (s : Slots) (M : Mem) : wpC P c25_5 Q s M = w25_5 P Q M (sget s 0) (sget s 3) := by kernel_rfl
def o25_6 : List AOper := [⟨some 5, (.mov (.tmp 4)), false, none⟩,
  ⟨some 6, (.mov (.tmp 0)), false, none⟩,
  ⟨some 7, (.lenSl (.tmp 6)), false, none⟩,
  ⟨some 8, (.bin .lss .none (.tmp 5) (.tmp 7)), true, none⟩]
def c25_7 : ACode := (.seq (.region o25_6 [0, 3, 4, 8]) (.cond (.tmp 8) .skip (.exit 0)))
def w25_7 (_P : Program) (Q : Exit → Slots → Mem → Prop) (M : Mem) (v0 : V) (v3 : V) (v4 : V) : Prop :=
  @OptVH (lenV v0 M) ⟨fun t7_3 =>
  @OptBH (binV .lss .none v4 t7_3) ⟨fun b8_4 =>
  @BIfH b8_4
  ⟨Q .normal [(0, v0), (3, v3), (4, v4), (8, (.bool b8_4))] M⟩
  ⟨Q (.exit 0) [(0, v0), (3, v3), (4, v4), (8, (.bool b8_4))] M⟩⟩⟩
theorem e25_7 (P : Program) (Q : Exit → Slots → Mem → Prop) (s : Slots) (M : Mem) : wpC P c25_7 Q s M = w25_7 P Q M (sget s 0) (sget s 3) (sget s 4) := by kernel_rfl
def o25_8 : List AOper := [⟨some 11, (.mov (.tmp 3)), false, none⟩,
  ⟨some 12, (.mov (.tmp 0)), false, none⟩,
  ⟨some 13, (.mov (.tmp 4)), false, none⟩,
  ⟨some 14, (.indexSl 4 (.tmp 12) (.tmp 13)), false, none⟩,
  ⟨some 15, (.fieldAddr 3 (.tmp 14)), false, none⟩,
  ⟨some 16, (.load 1 false (.tmp 15)), false, none⟩,
  ⟨some 17, (.bin .add .none (.tmp 11) (.tmp 16)), false, none⟩,
  ⟨some 3, (.mov (.tmp 17)), false, none⟩]
def c25_9 : ACode := (.region o25_8 [0, 3, 4])
def w25_9 (_P : Program) (Q : Exit → Slots → Mem → Prop) (M : Mem) (v0 : V) (v3 : V) (v4 : V) : Prop :=
  @OptVH (indexSlV 4 v0 v4 M) ⟨fun t14_4 =>
  @OptVH (moveV 3 t14_4) ⟨fun t15_5 =>
  @OptVH (loadV 1 false t15_5 M) ⟨fun t16_6 =>
  @OptVH (binV .add .none v3 t16_6) ⟨fun t17_7 =>
  Q .normal [(0, v0), (3, t17_7), (4, v4)] M⟩⟩⟩⟩
theorem e25_9 (P : Program) (Q : Exit → Slots → Mem → Prop) (s : Slots) (M : Mem) : wpC P c25_9 Q s M = w25_9 P Q M (sget s 0) (sget s 3) (sget s 4) := by kernel_rfl
def c25_10 : ACode := (.block 1 c25_9)
def o25_11 : List AOper := [⟨some 9, (.mov (.tmp 4)), false, none⟩,
  ⟨some 10, (.bin .add .none (.tmp 9) (.const (.int .i64 1))), false, none⟩,
  ⟨some 4, (.mov (.tmp 10)), false, none⟩]
def c25_12 : ACode := (.region o25_11 [0, 3, 4])
def w25_12 (_P : Program) (Q : Exit → Slots → Mem → Prop) (M : Mem) (v0 : V) (v3 : V) (v4 : V) : Prop :=
  @OptVH (binV .add .none v4 (.int .i64 1)) ⟨fun t10_2 =>
  Q .normal [(0, v0), (3, v3), (4, t10_2)] M⟩
theorem e25_12 (P : Program) (Q : Exit → Slots → Mem → Prop) (s : Slots) (M : Mem) : wpC P c25_12 Q s M = w25_12 P Q M (sget s 0) (sget s 3) (sget s 4) := by kernel_rfl
def c25_13 : ACode := (.seq c25_10 c25_12)
def c25_14 : ACode := (.seq c25_7 c25_13)
def c25_15 : ACode := (.loop [0, 3, 4] c25_14)
def c25_16 : ACode := (.block 0 c25_15)
def c25_17 : ACode := (.seq c25_5 c25_16)
def o25_18 : List AOper := [⟨some 18, (.mov (.tmp 3)), false, none⟩,
  ⟨some 2, (.mov (.tmp 18)), false, none⟩]
def c25_19 : ACode := (.region o25_18 [2])
def w25_19 (_P : Program) (Q : Exit → Slots → Mem → Prop) (M : Mem) (v3 : V) : Prop :=
  Q .normal [(2, v3)] M
theorem e25_19 (P : Program) (Q : Exit → Slots → Mem → Prop) (s : Slots) (M : Mem) : wpC P c25_19 Q s M = w25_19 P Q M (sget s 3) := by kernel_rfl
def c25_20 : ACode := (.seq c25_19 .ret)
def c25_21 : ACode := (.seq c25_17 c25_20)
def c25_22 : ACode := (.seq c25_3 c25_21)
def c25_23 : ACode := (.seq c25_1 c25_22)
def fn_transitref35_Sum : AFn := ⟨19, [(.tmp 2)], c25_23⟩
theorem fn_transitref35_Sum_ok : resFn PR h_transitref35_Sum i_transitref35_Sum = some fn_transitref35_Sum := by kernel_rfl

def h_fare_validPrice : Hints := ⟨[(0, [0]), (1, [2])], [], []⟩
def o26_0 : List AOper := [⟨some 2, (.mov (.const (.bool false))), true, none⟩]
def c26_1 : ACode := (.region o26_0 [0])
def w26_1 (_P : Program) (Q : Exit → Slots → Mem → Prop) (M : Mem) (v0 : V) : Prop :=
  Q .normal [(0, v0)] M
theorem e26_1 (P : Program) (Q : Exit → Slots → Mem → Prop) (s : Slots) (M : Mem) : wpC P c26_1 Q s M = w26_1 P Q M (sget s 0) := by kernel_rfl
def o26_2 : List AOper := [⟨some 3, (.mov (.tmp 0)), false, none⟩,
  ⟨some 4, (.bin .geq .none (.tmp 3) (.const (.int .i64 0))), true, none⟩,
  ⟨some 5, (.mov (.tmp 4)), true, none⟩,
  ⟨some 6, (.mov (.tmp 0)), false, some (5, true)⟩,
  ⟨some 7, (.bin .leq .none (.tmp 6) (.const (.int .i64 1000000))), true, some (5, true)⟩,
  ⟨some 8, (.pick (.tmp 5) (.tmp 7) (.const (.bool false))), true, none⟩,
  ⟨some 2, (.mov (.tmp 8)), true, none⟩]
def c26_3 : ACode := (.region o26_2 [2])
def w26_3 (_P : Program) (Q : Exit → Slots → Mem → Prop) (M : Mem) (v0 : V) : Prop :=
  @OptBH (binV .geq .none v0 (.int .i64 0)) ⟨fun b4_2 =>
  @BIfH b4_2
  ⟨@OptBH (binV .leq .none v0 (.int .i64 1000000)) ⟨fun b7_5 =>
  Q .normal [(2, (.bool b7_5))] M⟩⟩
  ⟨Q .normal [(2, (.bool false))] M⟩⟩
theorem e26_3 (P : Program) (Q : Exit → Slots → Mem → Prop) (s : Slots) (M : Mem) : wpC P c26_3 Q s M = w26_3 P Q M (sget s 0) := by kernel_rfl
def c26_4 : ACode := (.seq c26_3 .ret)
def c26_5 : ACode := (.seq c26_1 c26_4)
def fn_fare_validPrice : AFn := ⟨9, [(.tmp 2)], c26_5⟩
theorem fn_fare_validPrice_ok : resFn PR h_fare_validPrice i_fare_validPrice = some fn_fare_validPrice := by kernel_rfl

def h_fare_check : Hints := ⟨[(0, [1, 3, 4, 6]), (1, [1, 3, 4, 6, 9]), (2, [8]), (3, [1, 4, 6, 21]), (4, [8]), (5, [1, 4, 6, 40]), (6, [8]), (7, [75]), (8, [8]), (9, [8])], [], []⟩
def o27_0 : List AOper := [⟨some 4, (.box 4 (.tmp 0)), false, none⟩,
  ⟨some 6, (.box 4 (.tmp 2)), false, none⟩,
  ⟨some 8, (.mov (.const (.int .i64 0))), false, none⟩]
def c27_1 : ACode := (.region o27_0 [1, 3, 4, 6])
def w27_1 (_P : Program) (Q : Exit → Slots → Mem → Prop) (M : Mem) (v0 : V) (v1 : V) (v2 : V) (v3 : V) : Prop :=
  @OptMH (boxV 4 v0 M) ⟨fun t4_1 M1 =>
  @OptMH (boxV 4 v2 M1) ⟨fun t6_2 M2 =>
  Q .normal [(1, v1), (3, v3), (4, t4_1), (6, t6_2)] M2⟩⟩
theorem e27_1 (P : Program) (Q : Exit → Slots → Mem → Prop) (s : Slots) (M : Mem) : wpC P c27_1 Q s M = w27_1 P Q M (sget s 0) (sget s 1) (sget s 2) (sget s 3) := by kernel_rfl
def o27_2 : List AOper := [⟨some 8, (.mov (.const (.int .i64 9))), false, none⟩]
def c27_3 : ACode := (.region o27_2 [8])
def w27_3 (_P : Program) (Q : Exit → Slots → Mem → Prop) (M : Mem) : Prop :=
  Q .normal [(8, (.int .i64 9))] M
theorem e27_3 (P : Program) (Q : Exit → Slots → Mem → Prop) (s : Slots) (M : Mem) : wpC P c27_3 Q s M = w27_3 P Q M := by kernel_rfl
def c27_4 : ACode := (.seq c27_3 .ret)
def o27_5 : List AOper := [⟨some 8, (.mov (.const (.int .i64 8))), false, none⟩]
def c27_6 : ACode := (.region o27_5 [8])
def w27_6 (_P : Program) (Q : Exit → Slots → Mem → Prop) (M : Mem) : Prop :=
  Q .normal [(8, (.int .i64 8))] M
theorem e27_6 (P : Program) (Q : Exit → Slots → Mem → Prop) (s : Slots) (M : Mem) : wpC P c27_6 Q s M = w27_6 P Q M := by kernel_rfl
def c27_7 : ACode := (.seq c27_6 .ret)
def o27_8 : List AOper := [⟨some 8, (.mov (.const (.int .i64 34))), false, none⟩]
def c27_9 : ACode := (.region o27_8 [8])
def w27_9 (_P : Program) (Q : Exit → Slots → Mem → Prop) (M : Mem) : Prop :=
  Q .normal [(8, (.int .i64 34))] M
theorem e27_9 (P : Program) (Q : Exit → Slots → Mem → Prop) (s : Slots) (M : Mem) : wpC P c27_9 Q s M = w27_9 P Q M := by kernel_rfl
def c27_10 : ACode := (.seq c27_9 .ret)
def o27_11 : List AOper := [⟨some 41, (.fieldAddr 0 (.tmp 4)), false, none⟩,
  ⟨some 42, (.load 1 false (.tmp 41)), false, none⟩,
  ⟨some 43, (.fieldAddr 0 (.tmp 6)), false, none⟩,
  ⟨some 44, (.load 1 false (.tmp 43)), false, none⟩,
  ⟨some 45, (.indexSl 6 (.tmp 42) (.tmp 44)), false, none⟩,
  ⟨some 46, (.load 6 true (.tmp 45)), false, none⟩,
  ⟨some 47, (.mov (.tmp 1)), false, none⟩,
  ⟨some 48, (.fieldAddr 1 (.tmp 6)), false, none⟩,
  ⟨some 49, (.load 1 false (.tmp 48)), false, none⟩,
  ⟨some 50, (.fieldAddr 2 (.tmp 6)), false, none⟩,
  ⟨some 51, (.load 1 false (.tmp 50)), false, none⟩,
  ⟨some 52, (.bin .add .none (.tmp 51) (.const (.int .i64 1))), false, none⟩,
  ⟨some 53, (.slice 4 (.tmp 47) (some (.tmp 49)) (some (.tmp 52)) none), false, none⟩,
  ⟨some 54, (.call i_product_Covers [(.tmp 46), (.tmp 53)]), true, none⟩,
  ⟨some 55, (.un .not (.tmp 54)), true, none⟩,
  ⟨some 40, (.mov (.tmp 55)), true, none⟩]
def c27_12 : ACode := (.seq (.mixed o27_11 [true, true, true, true, true, true, true, true, true, true, true, true, true, false, true, true] [1, 4, 6, 40]) (.cond (.tmp 40) c27_10 .skip))
def w27_12 (P : Program) (Q : Exit → Slots → Mem → Prop) (M : Mem) (v1 : V) (v4 : V) (v6 : V) : Prop :=
  @OptVH (moveV 0 v4) ⟨fun t41_1 =>
  @OptVH (loadV 1 false t41_1 M) ⟨fun t42_2 =>
  @OptVH (moveV 0 v6) ⟨fun t43_3 =>
  @OptVH (loadV 1 false t43_3 M) ⟨fun t44_4 =>
  @OptVH (indexSlV 6 t42_2 t44_4 M) ⟨fun t45_5 =>
  @OptVH (loadV 6 true t45_5 M) ⟨fun t46_6 =>
  @OptVH (moveV 1 v6) ⟨fun t48_8 =>
  @OptVH (loadV 1 false t48_8 M) ⟨fun t49_9 =>
  @OptVH (moveV 2 v6) ⟨fun t50_10 =>
  @OptVH (loadV 1 false t50_10 M) ⟨fun t51_11 =>
  @OptVH (binV .add .none t51_11 (.int .i64 1)) ⟨fun t52_12 =>
  @OptVH (sliceV 4 v1 (some t49_9) (some t52_12) none M) ⟨fun t53_13 =>
  @CallH P i_product_Covers [t46_6, t53_13] M ⟨fun t54_14 M14 => @OptBH (some t54_14) ⟨fun b54_14 =>
  @OptBH (unV .not (.bool b54_14)) ⟨fun b55_15 =>
  @BIfH b55_15
  ⟨wpC P c27_10 Q [(1, v1), (4, v4), (6, v6), (40, (.bool b55_15))] M14⟩
  ⟨Q .normal [(1, v1), (4, v4), (6, v6), (40, (.bool b55_15))] M14⟩⟩⟩⟩⟩⟩⟩⟩⟩⟩⟩⟩⟩⟩⟩⟩
theorem e27_12 (P : Program) (Q : Exit → Slots → Mem → Prop) (s : Slots) (M : Mem) : wpC P c27_12 Q s M = w27_12 P Q M (sget s 1) (sget s 4) (sget s 6) := by kernel_rfl
def o27_13 : List AOper := [⟨some 22, (.fieldAddr 1 (.tmp 6)), false, none⟩,
  ⟨some 23, (.load 1 false (.tmp 22)), false, none⟩,
  ⟨some 24, (.mov (.tmp 3)), false, none⟩,
  ⟨some 25, (.bin .neq .none (.tmp 23) (.tmp 24)), true, none⟩,
  ⟨some 26, (.mov (.tmp 25)), true, none⟩,
  ⟨some 27, (.fieldAddr 2 (.tmp 6)), false, some (26, false)⟩,
  ⟨some 28, (.load 1 false (.tmp 27)), false, some (26, false)⟩,
  ⟨some 29, (.fieldAddr 1 (.tmp 6)), false, some (26, false)⟩,
  ⟨some 30, (.load 1 false (.tmp 29)), false, some (26, false)⟩,
  ⟨some 31, (.bin .lss .none (.tmp 28) (.tmp 30)), true, some (26, false)⟩,
  ⟨some 32, (.pick (.tmp 26) (.const (.bool true)) (.tmp 31)), true, none⟩,
  ⟨some 33, (.mov (.tmp 32)), true, none⟩,
  ⟨some 34, (.fieldAddr 2 (.tmp 6)), false, some (33, false)⟩,
  ⟨some 35, (.load 1 false (.tmp 34)), false, some (33, false)⟩,
  ⟨some 36, (.mov (.tmp 1)), false, some (33, false)⟩,
  ⟨some 37, (.lenSl (.tmp 36)), false, some (33, false)⟩,
  ⟨some 38, (.bin .geq .none (.tmp 35) (.tmp 37)), true, some (33, false)⟩,
  ⟨some 39, (.pick (.tmp 33) (.const (.bool true)) (.tmp 38)), true, none⟩,
  ⟨some 21, (.mov (.tmp 39)), true, none⟩]
def c27_14 : ACode := (.seq (.region o27_13 [1, 4, 6, 21]) (.cond (.tmp 21) c27_7 c27_12))
def w27_14 (P : Program) (Q : Exit → Slots → Mem → Prop) (M : Mem) (v1 : V) (v3 : V) (v4 : V) (v6 : V) : Prop :=
  @OptVH (moveV 1 v6) ⟨fun t22_1 =>
  @OptVH (loadV 1 false t22_1 M) ⟨fun t23_2 =>
  @OptBH (binV .neq .none t23_2 v3) ⟨fun b25_4 =>
  @BIfH b25_4
  ⟨wpC P c27_7 Q [(1, v1), (4, v4), (6, v6), (21, (.bool true))] M⟩
  ⟨@OptVH (moveV 2 v6) ⟨fun t27_10 =>
  @OptVH (loadV 1 false t27_10 M) ⟨fun t28_11 =>
  @OptVH (moveV 1 v6) ⟨fun t29_12 =>
  @OptVH (loadV 1 false t29_12 M) ⟨fun t30_13 =>
  @OptBH (binV .lss .none t28_11 t30_13) ⟨fun b31_14 =>
  @BIfH b31_14
  ⟨wpC P c27_7 Q [(1, v1), (4, v4), (6, v6), (21, (.bool true))] M⟩
  ⟨@OptVH (moveV 2 v6) ⟨fun t34_19 =>
  @OptVH (loadV 1 false t34_19 M) ⟨fun t35_20 =>
  @OptVH (lenV v1 M) ⟨fun t37_22 =>
  @OptBH (binV .geq .none t35_20 t37_22) ⟨fun b38_23 =>
  @BIfH b38_23
  ⟨wpC P c27_7 Q [(1, v1), (4, v4), (6, v6), (21, (.bool b38_23))] M⟩
  ⟨wpC P c27_12 Q [(1, v1), (4, v4), (6, v6), (21, (.bool b38_23))] M⟩⟩⟩⟩⟩⟩⟩⟩⟩⟩⟩⟩⟩⟩⟩
theorem e27_14 (P : Program) (Q : Exit → Slots → Mem → Prop) (s : Slots) (M : Mem) : wpC P c27_14 Q s M = w27_14 P Q M (sget s 1) (sget s 3) (sget s 4) (sget s 6) := by kernel_rfl
def o27_15 : List AOper := [⟨some 10, (.fieldAddr 0 (.tmp 6)), false, none⟩,
  ⟨some 11, (.load 1 false (.tmp 10)), false, none⟩,
  ⟨some 12, (.bin .lss .none (.tmp 11) (.const (.int .i64 0))), true, none⟩,
  ⟨some 13, (.mov (.tmp 12)), true, none⟩,
  ⟨some 14, (.fieldAddr 0 (.tmp 6)), false, some (13, false)⟩,
  ⟨some 15, (.load 1 false (.tmp 14)), false, some (13, false)⟩,
  ⟨some 16, (.fieldAddr 0 (.tmp 4)), false, some (13, false)⟩,
  ⟨some 17, (.load 1 false (.tmp 16)), false, some (13, false)⟩,
  ⟨some 18, (.lenSl (.tmp 17)), false, some (13, false)⟩,
  ⟨some 19, (.bin .geq .none (.tmp 15) (.tmp 18)), true, some (13, false)⟩,
  ⟨some 20, (.pick (.tmp 13) (.const (.bool true)) (.tmp 19)), true, none⟩,
  ⟨some 9, (.mov (.tmp 20)), true, none⟩]
def c27_16 : ACode := (.seq (.region o27_15 [1, 3, 4, 6, 9]) (.cond (.tmp 9) c27_4 c27_14))
def w27_16 (P : Program) (Q : Exit → Slots → Mem → Prop) (M : Mem) (v1 : V) (v3 : V) (v4 : V) (v6 : V) : Prop :=
  @OptVH (moveV 0 v6) ⟨fun t10_1 =>
  @OptVH (loadV 1 false t10_1 M) ⟨fun t11_2 =>
  @OptBH (binV .lss .none t11_2 (.int .i64 0)) ⟨fun b12_3 =>
  @BIfH b12_3
  ⟨wpC P c27_4 Q [(1, v1), (3, v3), (4, v4), (6, v6), (9, (.bool true))] M⟩
  ⟨@OptVH (moveV 0 v6) ⟨fun t14_7 =>
  @OptVH (loadV 1 false t14_7 M) ⟨fun t15_8 =>
  @OptVH (moveV 0 v4) ⟨fun t16_9 =>
  @OptVH (loadV 1 false t16_9 M) ⟨fun t17_10 =>
  @OptVH (lenV t17_10 M) ⟨fun t18_11 =>
  @OptBH (binV .geq .none t15_8 t18_11) ⟨fun b19_12 =>
  @BIfH b19_12
  ⟨wpC P c27_4 Q [(1, v1), (3, v3), (4, v4), (6, v6), (9, (.bool b19_12))] M⟩
  ⟨wpC P c27_14 Q [(1, v1), (3, v3), (4, v4), (6, v6), (9, (.bool b19_12))] M⟩⟩⟩⟩⟩⟩⟩⟩⟩⟩⟩
theorem e27_16 (P : Program) (Q : Exit → Slots → Mem → Prop) (s : Slots) (M : Mem) : wpC P c27_16 Q s M = w27_16 P Q M (sget s 1) (sget s 3) (sget s 4) (sget s 6) := by kernel_rfl
def c27_17 : ACode := (.block 0 c27_16)
def o27_18 : List AOper := [⟨some 8, (.mov (.const (.int .i64 1))), false, none⟩]
def c27_19 : ACode := (.region o27_18 [8])
def w27_19 (_P : Program) (Q : Exit → Slots → Mem → Prop) (M : Mem) : Prop :=
  Q .normal [(8, (.int .i64 1))] M
theorem e27_19 (P : Program) (Q : Exit → Slots → Mem → Prop) (s : Slots) (M : Mem) : wpC P c27_19 Q s M = w27_19 P Q M := by kernel_rfl
def c27_20 : ACode := (.seq c27_19 .ret)
def o27_21 : List AOper := [⟨some 56, (.load 4 true (.tmp 6)), false, none⟩,
  ⟨some 57, (.fieldAddr 0 (.tmp 6)), false, none⟩,
  ⟨some 58, (.load 1 false (.tmp 57)), false, none⟩,
  ⟨some 59, (.fieldAddr 1 (.tmp 6)), false, none⟩,
  ⟨some 60, (.load 1 false (.tmp 59)), false, none⟩,
  ⟨some 61, (.fieldAddr 2 (.tmp 6)), false, none⟩,
  ⟨some 62, (.load 1 false (.tmp 61)), false, none⟩,
  ⟨some 63, (.load 4 true (.tmp 4)), false, none⟩,
  ⟨some 64, (.fieldAddr 0 (.tmp 4)), false, none⟩,
  ⟨some 65, (.load 1 false (.tmp 64)), false, none⟩,
  ⟨some 66, (.fieldAddr 0 (.tmp 6)), false, none⟩,
  ⟨some 67, (.load 1 false (.tmp 66)), false, none⟩,
  ⟨some 68, (.indexSl 6 (.tmp 65) (.tmp 67)), false, none⟩,
  ⟨some 69, (.load 6 true (.tmp 68)), false, none⟩,
  ⟨some 70, (.mov (.tmp 1)), false, none⟩,
  ⟨some 71, (.fieldAddr 1 (.tmp 6)), false, none⟩,
  ⟨some 72, (.load 1 false (.tmp 71)), false, none⟩,
  ⟨some 73, (.call i_fare_ticketPrice [(.tmp 63), (.tmp 69), (.tmp 70), (.tmp 72)]), false, none⟩,
  ⟨some 74, (.build [(.int .i64 0), (.int .i64 0), (.int .i64 0), (.int .i64 0)] [(0, (1, (.tmp 58))), (1, (1, (.tmp 60))), (2, (1, (.tmp 62))), (3, (1, (.tmp 73)))]), false, none⟩,
  ⟨some 75, (.bin .neq (.cells [.int, .int, .int, .int]) (.tmp 56) (.tmp 74)), true, none⟩]
def c27_22 : ACode := (.seq (.mixed o27_21 [true, true, true, true, true, true, true, true, true, true, true, true, true, true, true, true, true, true, true, true] [75]) (.cond (.tmp 75) c27_20 .skip))
def w27_22 (P : Program) (Q : Exit → Slots → Mem → Prop) (M : Mem) (v1 : V) (v4 : V) (v6 : V) : Prop :=
  @OptVH (loadV 4 true v6 M) ⟨fun t56_1 =>
  @OptVH (moveV 0 v6) ⟨fun t57_2 =>
  @OptVH (loadV 1 false t57_2 M) ⟨fun t58_3 =>
  @OptVH (moveV 1 v6) ⟨fun t59_4 =>
  @OptVH (loadV 1 false t59_4 M) ⟨fun t60_5 =>
  @OptVH (moveV 2 v6) ⟨fun t61_6 =>
  @OptVH (loadV 1 false t61_6 M) ⟨fun t62_7 =>
  @OptVH (loadV 4 true v4 M) ⟨fun t63_8 =>
  @OptVH (moveV 0 v4) ⟨fun t64_9 =>
  @OptVH (loadV 1 false t64_9 M) ⟨fun t65_10 =>
  @OptVH (moveV 0 v6) ⟨fun t66_11 =>
  @OptVH (loadV 1 false t66_11 M) ⟨fun t67_12 =>
  @OptVH (indexSlV 6 t65_10 t67_12 M) ⟨fun t68_13 =>
  @OptVH (loadV 6 true t68_13 M) ⟨fun t69_14 =>
  @OptVH (moveV 1 v6) ⟨fun t71_16 =>
  @OptVH (loadV 1 false t71_16 M) ⟨fun t72_17 =>
  @CallQ P i_fare_ticketPrice [t63_8, t69_14, v1, t72_17] M ⟨fun t73_18 M18 =>
  @OptVH (buildV [(.int .i64 0), (.int .i64 0), (.int .i64 0), (.int .i64 0)] [(0, 1, t58_3), (1, 1, t60_5), (2, 1, t62_7), (3, 1, t73_18)]) ⟨fun t74_19 =>
  @OptBH (binV .neq (.cells [.int, .int, .int, .int]) t56_1 t74_19) ⟨fun b75_20 =>
  @BIfH b75_20
  ⟨wpC P c27_20 Q [(75, (.bool b75_20))] M18⟩
  ⟨Q .normal [(75, (.bool b75_20))] M18⟩⟩⟩⟩⟩⟩⟩⟩⟩⟩⟩⟩⟩⟩⟩⟩⟩⟩⟩⟩
theorem e27_22 (P : Program) (Q : Exit → Slots → Mem → Prop) (s : Slots) (M : Mem) : wpC P c27_22 Q s M = w27_22 P Q M (sget s 1) (sget s 4) (sget s 6) := by kernel_rfl
def o27_23 : List AOper := [⟨some 8, (.mov (.const (.int .i64 0))), false, none⟩]
def c27_24 : ACode := (.region o27_23 [8])
def w27_24 (_P : Program) (Q : Exit → Slots → Mem → Prop) (M : Mem) : Prop :=
  Q .normal [(8, (.int .i64 0))] M
theorem e27_24 (P : Program) (Q : Exit → Slots → Mem → Prop) (s : Slots) (M : Mem) : wpC P c27_24 Q s M = w27_24 P Q M := by kernel_rfl
def c27_25 : ACode := (.seq c27_24 .ret)
def c27_26 : ACode := (.seq c27_22 c27_25)
def c27_27 : ACode := (.seq c27_17 c27_26)
def c27_28 : ACode := (.seq c27_1 c27_27)
def fn_fare_check : AFn := ⟨76, [(.tmp 8)], c27_28⟩
theorem fn_fare_check_ok : resFn PR h_fare_check i_fare_check = some fn_fare_check := by kernel_rfl

end Go.Vm.C
