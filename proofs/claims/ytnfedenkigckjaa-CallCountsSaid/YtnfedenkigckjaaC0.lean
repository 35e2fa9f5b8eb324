/- The abstract code of the functions that the statements reach, printed by a program, each with the equation that it is what the loaded program says. Part 0. -/
import Derived.Test.YtnfedenkigckjaaProg
import Derived.Test.YtnfedenkigckjaaVm2
import Derived.KernelRfl
namespace Go.Vm.C
open Go.Vm

abbrev i_main_main : Nat := 0
abbrev i_gosem_cut : Nat := 1
abbrev i_gosem_cut_init : Nat := 2
abbrev i_transitlaw16_CallChecks : Nat := 3
abbrev i_transitlaw16_CallRidable : Nat := 4
abbrev i_transitlaw16_CallRides : Nat := 5
abbrev i_transitlaw16_CallLists : Nat := 6
abbrev i_transitlaw16_CallCounts : Nat := 7
abbrev i_transitlaw16_CallShifts : Nat := 8
abbrev i_transitlaw16_CallMoves : Nat := 9
abbrev i_transitlaw16_CallEquals : Nat := 10
abbrev i_transitlaw16_exampleHolds : Nat := 11
abbrev i_call_Check : Nat := 12
abbrev i_transitref16_Check : Nat := 13
abbrev i_call_Ridable : Nat := 14
abbrev i_transitref16_Ridable : Nat := 15
abbrev i_transitlaw16_rides : Nat := 16
abbrev i_transitref16_Rides : Nat := 17
abbrev i_transitref16_Same : Nat := 18
abbrev i_call_At : Nat := 19
abbrev i_transitref16_At : Nat := 20
abbrev i_call_Duration : Nat := 21
abbrev i_transitref16_Duration : Nat := 22
abbrev i_transitref16_Equal : Nat := 23
abbrev i_call_Shift : Nat := 24
abbrev i_transitref16_Shift : Nat := 25
abbrev i_transitlaw16_near : Nat := 26
abbrev i_call_Equal : Nat := 27
abbrev i_call_one : Nat := 28
abbrev i_call_Rides : Nat := 29
abbrev i_call_Rides_1 : Nat := 30
abbrev i_runtime_boundsError_Error : Nat := 31
abbrev i_runtime_boundsError_RuntimeError : Nat := 32
abbrev i_runtime_errorString_Error : Nat := 33
abbrev i_runtime_errorString_RuntimeError : Nat := 34
abbrev i_runtime_plainError_Error : Nat := 35
abbrev i_runtime_plainError_RuntimeError : Nat := 36
abbrev i_runtime_errorAddressString_Error : Nat := 37
abbrev i_runtime_errorAddressString_RuntimeError : Nat := 38
abbrev i_runtime_TypeAssertionError_Error : Nat := 39
abbrev i_runtime_TypeAssertionError_RuntimeError : Nat := 40
abbrev i_runtime_PanicNilError_Error : Nat := 41
abbrev i_runtime_PanicNilError_RuntimeError : Nat := 42
abbrev i_internal_abi_Type_Align : Nat := 43
abbrev i_internal_runtime_maps_unhashableTypeError_Error : Nat := 44
abbrev i_internal_runtime_maps_unhashableTypeError_RuntimeError : Nat := 45
abbrev i_internal_abi_Kind_String : Nat := 46
noncomputable abbrev PR : Program := Go.Proofs.Try.prog

def h_transitlaw16_CallChecks : Hints := ⟨[(0, [0, 3]), (1, [0, 3, 11]), (2, [4]), (3, [0, 3, 5, 6]), (4, [5, 6, 7, 8]), (5, [4])], [], []⟩
def o3_0 : List AOper := [⟨some 3, (.box 3 (.tmp 1)), false, none⟩,
  ⟨some 4, (.mov (.const (.bool false))), true, none⟩]
def c3_1 : ACode := (.region o3_0 [0, 3])
def w3_1 (_P : Program) (Q : Exit → Slots → Mem → Prop) (M : Mem) (v0 : V) (v1 : V) : Prop :=
  @OptMH (boxV 3 v1 M) ⟨fun t3_1 M1 =>
  Q .normal [(0, v0), (3, t3_1)] M1⟩
theorem e3_1 (P : Program) (Q : Exit → Slots → Mem → Prop) (s : Slots) (M : Mem) : wpC P c3_1 Q s M = w3_1 P Q M (sget s 0) (sget s 1) := by kernel_rfl
def o3_2 : List AOper := [⟨some 12, (.call i_transitlaw16_exampleHolds []), true, none⟩,
  ⟨some 4, (.mov (.tmp 12)), true, none⟩]
def c3_3 : ACode := (.region o3_2 [4])
def w3_3 (P : Program) (Q : Exit → Slots → Mem → Prop) (M : Mem) : Prop :=
  @CallH P i_transitlaw16_exampleHolds [] M ⟨fun t12_1 M1 => @OptBH (some t12_1) ⟨fun b12_1 =>
  Q .normal [(4, (.bool b12_1))] M1⟩⟩
theorem e3_3 (P : Program) (Q : Exit → Slots → Mem → Prop) (s : Slots) (M : Mem) : wpC P c3_3 Q s M = w3_3 P Q M := by kernel_rfl
def c3_4 : ACode := (.seq c3_3 .ret)
def o3_5 : List AOper := [⟨some 9, (.mov (.tmp 0)), false, none⟩,
  ⟨some 10, (.lenSl (.tmp 9)), false, none⟩,
  ⟨some 11, (.bin .gtr .none (.tmp 10) (.const (.int .i64 100))), true, none⟩]
def c3_6 : ACode := (.seq (.region o3_5 [0, 3, 11]) (.cond (.tmp 11) c3_4 .skip))
def w3_6 (P : Program) (Q : Exit → Slots → Mem → Prop) (M : Mem) (v0 : V) (v3 : V) : Prop :=
  @OptVH (lenV v0 M) ⟨fun t10_2 =>
  @OptBH (binV .gtr .none t10_2 (.int .i64 100)) ⟨fun b11_3 =>
  @BIfH b11_3
  ⟨wpC P c3_4 Q [(0, v0), (3, v3), (11, (.bool b11_3))] M⟩
  ⟨Q .normal [(0, v0), (3, v3), (11, (.bool b11_3))] M⟩⟩⟩
theorem e3_6 (P : Program) (Q : Exit → Slots → Mem → Prop) (s : Slots) (M : Mem) : wpC P c3_6 Q s M = w3_6 P Q M (sget s 0) (sget s 3) := by kernel_rfl
def o3_7 : List AOper := [⟨some 14, (.mov (.tmp 0)), false, none⟩,
  ⟨some 15, (.fieldAddr 0 (.tmp 3)), false, none⟩,
  ⟨some 16, (.load 1 false (.tmp 15)), false, none⟩,
  ⟨some 17, (.fieldAddr 1 (.tmp 3)), false, none⟩,
  ⟨some 18, (.load 1 false (.tmp 17)), false, none⟩,
  ⟨some 19, (.fieldAddr 2 (.tmp 3)), false, none⟩,
  ⟨some 20, (.load 1 false (.tmp 19)), false, none⟩,
  ⟨some 21, (.call i_call_Check [(.tmp 14), (.tmp 16), (.tmp 18), (.tmp 20)]), false, none⟩,
  ⟨some 13, (.mov (.tmp 21)), false, none⟩,
  ⟨some 22, (.extract (.tmp 13) 0), false, none⟩,
  ⟨some 23, (.extract (.tmp 13) 1), false, none⟩,
  ⟨some 5, (.mov (.tmp 22)), false, none⟩,
  ⟨some 6, (.mov (.tmp 23)), false, none⟩]
def c3_8 : ACode := (.region o3_7 [0, 3, 5, 6])
def w3_8 (P : Program) (Q : Exit → Slots → Mem → Prop) (M : Mem) (v0 : V) (v3 : V) : Prop :=
  @OptVH (moveV 0 v3) ⟨fun t15_2 =>
  @OptVH (loadV 1 false t15_2 M) ⟨fun t16_3 =>
  @OptVH (moveV 1 v3) ⟨fun t17_4 =>
  @OptVH (loadV 1 false t17_4 M) ⟨fun t18_5 =>
  @OptVH (moveV 2 v3) ⟨fun t19_6 =>
  @OptVH (loadV 1 false t19_6 M) ⟨fun t20_7 =>
  @CallH P i_call_Check [v0, t16_3, t18_5, t20_7] M ⟨fun t21_8 M8 =>
  @OptVH (extractV t21_8 0) ⟨fun t22_10 =>
  @OptVH (extractV t21_8 1) ⟨fun t23_11 =>
  Q .normal [(0, v0), (3, v3), (5, t22_10), (6, t23_11)] M8⟩⟩⟩⟩⟩⟩⟩⟩⟩
theorem e3_8 (P : Program) (Q : Exit → Slots → Mem → Prop) (s : Slots) (M : Mem) : wpC P c3_8 Q s M = w3_8 P Q M (sget s 0) (sget s 3) := by kernel_rfl
def o3_9 : List AOper := [⟨some 25, (.mov (.tmp 0)), false, none⟩,
  ⟨some 26, (.fieldAddr 0 (.tmp 3)), false, none⟩,
  ⟨some 27, (.load 1 false (.tmp 26)), false, none⟩,
  ⟨some 28, (.fieldAddr 1 (.tmp 3)), false, none⟩,
  ⟨some 29, (.load 1 false (.tmp 28)), false, none⟩,
  ⟨some 30, (.fieldAddr 2 (.tmp 3)), false, none⟩,
  ⟨some 31, (.load 1 false (.tmp 30)), false, none⟩,
  ⟨some 32, (.call i_transitref16_Check [(.tmp 25), (.tmp 27), (.tmp 29), (.tmp 31)]), false, none⟩,
  ⟨some 24, (.mov (.tmp 32)), false, none⟩,
  ⟨some 33, (.extract (.tmp 24) 0), false, none⟩,
  ⟨some 34, (.extract (.tmp 24) 1), false, none⟩,
  ⟨some 7, (.mov (.tmp 33)), false, none⟩,
  ⟨some 8, (.mov (.tmp 34)), false, none⟩]
def c3_10 : ACode := (.region o3_9 [5, 6, 7, 8])
def w3_10 (P : Program) (Q : Exit → Slots → Mem → Prop) (M : Mem) (v0 : V) (v3 : V) (v5 : V) (v6 : V) : Prop :=
  @OptVH (moveV 0 v3) ⟨fun t26_2 =>
  @OptVH (loadV 1 false t26_2 M) ⟨fun t27_3 =>
  @OptVH (moveV 1 v3) ⟨fun t28_4 =>
  @OptVH (loadV 1 false t28_4 M) ⟨fun t29_5 =>
  @OptVH (moveV 2 v3) ⟨fun t30_6 =>
  @OptVH (loadV 1 false t30_6 M) ⟨fun t31_7 =>
  @CallH P i_transitref16_Check [v0, t27_3, t29_5, t31_7] M ⟨fun t32_8 M8 =>
  @OptVH (extractV t32_8 0) ⟨fun t33_10 =>
  @OptVH (extractV t32_8 1) ⟨fun t34_11 =>
  Q .normal [(5, v5), (6, v6), (7, t33_10), (8, t34_11)] M8⟩⟩⟩⟩⟩⟩⟩⟩⟩
theorem e3_10 (P : Program) (Q : Exit → Slots → Mem → Prop) (s : Slots) (M : Mem) : wpC P c3_10 Q s M = w3_10 P Q M (sget s 0) (sget s 3) (sget s 5) (sget s 6) := by kernel_rfl
def o3_11 : List AOper := [⟨some 35, (.mov (.tmp 5)), false, none⟩,
  ⟨some 36, (.mov (.tmp 7)), false, none⟩,
  ⟨some 37, (.bin .eql .none (.tmp 35) (.tmp 36)), true, none⟩,
  ⟨some 38, (.mov (.tmp 37)), true, none⟩,
  ⟨some 39, (.mov (.tmp 6)), false, some (38, true)⟩,
  ⟨some 40, (.mov (.tmp 8)), false, some (38, true)⟩,
  ⟨some 41, (.bin .eql .none (.tmp 39) (.tmp 40)), true, some (38, true)⟩,
  ⟨some 42, (.pick (.tmp 38) (.tmp 41) (.const (.bool false))), true, none⟩,
  ⟨some 43, (.mov (.tmp 42)), true, none⟩,
  ⟨some 44, (.call i_transitlaw16_exampleHolds []), true, some (43, true)⟩,
  ⟨some 45, (.pick (.tmp 43) (.tmp 44) (.const (.bool false))), true, none⟩,
  ⟨some 4, (.mov (.tmp 45)), true, none⟩]
def c3_12 : ACode := (.region o3_11 [4])
def w3_12 (P : Program) (Q : Exit → Slots → Mem → Prop) (M : Mem) (v5 : V) (v6 : V) (v7 : V) (v8 : V) : Prop :=
  @OptBH (binV .eql .none v5 v7) ⟨fun b37_3 =>
  @BIfH b37_3
  ⟨@OptBH (binV .eql .none v6 v8) ⟨fun b41_7 =>
  @BIfH b41_7
  ⟨@CallH P i_transitlaw16_exampleHolds [] M ⟨fun t44_10 M10 => @OptBH (some t44_10) ⟨fun b44_10 =>
  Q .normal [(4, (.bool b44_10))] M10⟩⟩⟩
  ⟨Q .normal [(4, (.bool false))] M⟩⟩⟩
  ⟨Q .normal [(4, (.bool false))] M⟩⟩
theorem e3_12 (P : Program) (Q : Exit → Slots → Mem → Prop) (s : Slots) (M : Mem) : wpC P c3_12 Q s M = w3_12 P Q M (sget s 5) (sget s 6) (sget s 7) (sget s 8) := by kernel_rfl
def c3_13 : ACode := (.seq c3_12 .ret)
def c3_14 : ACode := (.seq c3_10 c3_13)
def c3_15 : ACode := (.seq c3_8 c3_14)
def c3_16 : ACode := (.seq c3_6 c3_15)
def c3_17 : ACode := (.seq c3_1 c3_16)
def fn_transitlaw16_CallChecks : AFn := ⟨46, [(.tmp 4)], c3_17⟩
theorem fn_transitlaw16_CallChecks_ok : resFn PR h_transitlaw16_CallChecks i_transitlaw16_CallChecks = some fn_transitlaw16_CallChecks := by kernel_rfl

def h_transitlaw16_CallRidable : Hints := ⟨[(0, [0, 1, 2]), (1, [0, 1, 2, 9]), (2, [6]), (3, [6])], [], []⟩
def o4_0 : List AOper := [⟨some 6, (.mov (.const (.bool false))), true, none⟩]
def c4_1 : ACode := (.region o4_0 [0, 1, 2])
def w4_1 (_P : Program) (Q : Exit → Slots → Mem → Prop) (M : Mem) (v0 : V) (v1 : V) (v2 : V) : Prop :=
  Q .normal [(0, v0), (1, v1), (2, v2)] M
theorem e4_1 (P : Program) (Q : Exit → Slots → Mem → Prop) (s : Slots) (M : Mem) : wpC P c4_1 Q s M = w4_1 P Q M (sget s 0) (sget s 1) (sget s 2) := by kernel_rfl
def o4_2 : List AOper := [⟨some 10, (.call i_transitlaw16_exampleHolds []), true, none⟩,
  ⟨some 6, (.mov (.tmp 10)), true, none⟩]
def c4_3 : ACode := (.region o4_2 [6])
def w4_3 (P : Program) (Q : Exit → Slots → Mem → Prop) (M : Mem) : Prop :=
  @CallH P i_transitlaw16_exampleHolds [] M ⟨fun t10_1 M1 => @OptBH (some t10_1) ⟨fun b10_1 =>
  Q .normal [(6, (.bool b10_1))] M1⟩⟩
theorem e4_3 (P : Program) (Q : Exit → Slots → Mem → Prop) (s : Slots) (M : Mem) : wpC P c4_3 Q s M = w4_3 P Q M := by kernel_rfl
def c4_4 : ACode := (.seq c4_3 .ret)
def o4_5 : List AOper := [⟨some 7, (.mov (.tmp 0)), false, none⟩,
  ⟨some 8, (.lenSl (.tmp 7)), false, none⟩,
  ⟨some 9, (.bin .gtr .none (.tmp 8) (.const (.int .i64 100))), true, none⟩]
def c4_6 : ACode := (.seq (.region o4_5 [0, 1, 2, 9]) (.cond (.tmp 9) c4_4 .skip))
def w4_6 (P : Program) (Q : Exit → Slots → Mem → Prop) (M : Mem) (v0 : V) (v1 : V) (v2 : V) : Prop :=
  @OptVH (lenV v0 M) ⟨fun t8_2 =>
  @OptBH (binV .gtr .none t8_2 (.int .i64 100)) ⟨fun b9_3 =>
  @BIfH b9_3
  ⟨wpC P c4_4 Q [(0, v0), (1, v1), (2, v2), (9, (.bool b9_3))] M⟩
  ⟨Q .normal [(0, v0), (1, v1), (2, v2), (9, (.bool b9_3))] M⟩⟩⟩
theorem e4_6 (P : Program) (Q : Exit → Slots → Mem → Prop) (s : Slots) (M : Mem) : wpC P c4_6 Q s M = w4_6 P Q M (sget s 0) (sget s 1) (sget s 2) := by kernel_rfl
def o4_7 : List AOper := [⟨some 11, (.mov (.tmp 0)), false, none⟩,
  ⟨some 12, (.mov (.tmp 1)), false, none⟩,
  ⟨some 13, (.mov (.tmp 2)), false, none⟩,
  ⟨some 14, (.call i_call_Ridable [(.tmp 11), (.tmp 12), (.tmp 13)]), true, none⟩,
  ⟨some 15, (.mov (.tmp 0)), false, none⟩,
  ⟨some 16, (.mov (.tmp 1)), false, none⟩,
  ⟨some 17, (.mov (.tmp 2)), false, none⟩,
  ⟨some 18, (.call i_transitref16_Ridable [(.tmp 15), (.tmp 16), (.tmp 17)]), true, none⟩,
  ⟨some 19, (.bin .eql .bool (.tmp 14) (.tmp 18)), true, none⟩,
  ⟨some 20, (.mov (.tmp 19)), true, none⟩,
  ⟨some 21, (.call i_transitlaw16_exampleHolds []), true, some (20, true)⟩,
  ⟨some 22, (.pick (.tmp 20) (.tmp 21) (.const (.bool false))), true, none⟩,
  ⟨some 6, (.mov (.tmp 22)), true, none⟩]
def c4_8 : ACode := (.region o4_7 [6])
def w4_8 (P : Program) (Q : Exit → Slots → Mem → Prop) (M : Mem) (v0 : V) (v1 : V) (v2 : V) : Prop :=
  @CallH P i_call_Ridable [v0, v1, v2] M ⟨fun t14_4 M4 => @OptBH (some t14_4) ⟨fun b14_4 =>
  @CallH P i_transitref16_Ridable [v0, v1, v2] M4 ⟨fun t18_8 M8 => @OptBH (some t18_8) ⟨fun b18_8 =>
  @OptBH (binV .eql .bool (.bool b14_4) (.bool b18_8)) ⟨fun b19_9 =>
  @BIfH b19_9
  ⟨@CallH P i_transitlaw16_exampleHolds [] M8 ⟨fun t21_11 M11 => @OptBH (some t21_11) ⟨fun b21_11 =>
  Q .normal [(6, (.bool b21_11))] M11⟩⟩⟩
  ⟨Q .normal [(6, (.bool false))] M8⟩⟩⟩⟩⟩⟩
theorem e4_8 (P : Program) (Q : Exit → Slots → Mem → Prop) (s : Slots) (M : Mem) : wpC P c4_8 Q s M = w4_8 P Q M (sget s 0) (sget s 1) (sget s 2) := by kernel_rfl
def c4_9 : ACode := (.seq c4_8 .ret)
def c4_10 : ACode := (.seq c4_6 c4_9)
def c4_11 : ACode := (.seq c4_1 c4_10)
def fn_transitlaw16_CallRidable : AFn := ⟨23, [(.tmp 6)], c4_11⟩
theorem fn_transitlaw16_CallRidable_ok : resFn PR h_transitlaw16_CallRidable i_transitlaw16_CallRidable = some fn_transitlaw16_CallRidable := by kernel_rfl

def h_transitlaw16_CallRides : Hints := ⟨[(0, [0, 1]), (1, [0, 1, 19]), (2, [4]), (3, [0, 1, 5, 6]), (4, [1, 5, 6, 7]), (5, [5, 7, 39]), (6, [4]), (7, [5, 7, 41, 42]), (8, [5, 7, 41, 42, 43]), (9, [5, 7, 8, 41, 42]), (10, [5, 7, 41, 42, 53]), (11, [4]), (12, [5, 7, 41, 42]), (13, [4])], [(8, [5, 7, 41, 42])], []⟩
def o5_0 : List AOper := [⟨some 4, (.mov (.const (.bool false))), true, none⟩]
def c5_1 : ACode := (.region o5_0 [0, 1])
def w5_1 (_P : Program) (Q : Exit → Slots → Mem → Prop) (M : Mem) (v0 : V) (v1 : V) : Prop :=
  Q .normal [(0, v0), (1, v1)] M
theorem e5_1 (P : Program) (Q : Exit → Slots → Mem → Prop) (s : Slots) (M : Mem) : wpC P c5_1 Q s M = w5_1 P Q M (sget s 0) (sget s 1) := by kernel_rfl
def o5_2 : List AOper := [⟨some 20, (.call i_transitlaw16_exampleHolds []), true, none⟩,
  ⟨some 4, (.mov (.tmp 20)), true, none⟩]
def c5_3 : ACode := (.region o5_2 [4])
def w5_3 (P : Program) (Q : Exit → Slots → Mem → Prop) (M : Mem) : Prop :=
  @CallH P i_transitlaw16_exampleHolds [] M ⟨fun t20_1 M1 => @OptBH (some t20_1) ⟨fun b20_1 =>
  Q .normal [(4, (.bool b20_1))] M1⟩⟩
theorem e5_3 (P : Program) (Q : Exit → Slots → Mem → Prop) (s : Slots) (M : Mem) : wpC P c5_3 Q s M = w5_3 P Q M := by kernel_rfl
def c5_4 : ACode := (.seq c5_3 .ret)
def o5_5 : List AOper := [⟨some 9, (.mov (.tmp 0)), false, none⟩,
  ⟨some 10, (.lenSl (.tmp 9)), false, none⟩,
  ⟨some 11, (.bin .gtr .none (.tmp 10) (.const (.int .i64 60))), true, none⟩,
  ⟨some 12, (.mov (.tmp 11)), true, none⟩,
  ⟨some 13, (.mov (.tmp 1)), false, some (12, false)⟩,
  ⟨some 14, (.bin .lss .none (.tmp 13) (.const (.int .i64 0))), true, some (12, false)⟩,
  ⟨some 15, (.pick (.tmp 12) (.const (.bool true)) (.tmp 14)), true, none⟩,
  ⟨some 16, (.mov (.tmp 15)), true, none⟩,
  ⟨some 17, (.mov (.tmp 1)), false, some (16, false)⟩,
  ⟨some 18, (.bin .gtr .none (.tmp 17) (.const (.int .i64 4000))), true, some (16, false)⟩,
  ⟨some 19, (.pick (.tmp 16) (.const (.bool true)) (.tmp 18)), true, none⟩]
def c5_6 : ACode := (.seq (.region o5_5 [0, 1, 19]) (.cond (.tmp 19) c5_4 .skip))
def w5_6 (P : Program) (Q : Exit → Slots → Mem → Prop) (M : Mem) (v0 : V) (v1 : V) : Prop :=
  @OptVH (lenV v0 M) ⟨fun t10_2 =>
  @OptBH (binV .gtr .none t10_2 (.int .i64 60)) ⟨fun b11_3 =>
  @BIfH b11_3
  ⟨wpC P c5_4 Q [(0, v0), (1, v1), (19, (.bool true))] M⟩
  ⟨@OptBH (binV .lss .none v1 (.int .i64 0)) ⟨fun b14_9 =>
  @BIfH b14_9
  ⟨wpC P c5_4 Q [(0, v0), (1, v1), (19, (.bool true))] M⟩
  ⟨@OptBH (binV .gtr .none v1 (.int .i64 4000)) ⟨fun b18_14 =>
  @BIfH b18_14
  ⟨wpC P c5_4 Q [(0, v0), (1, v1), (19, (.bool b18_14))] M⟩
  ⟨Q .normal [(0, v0), (1, v1), (19, (.bool b18_14))] M⟩⟩⟩⟩⟩⟩⟩
theorem e5_6 (P : Program) (Q : Exit → Slots → Mem → Prop) (s : Slots) (M : Mem) : wpC P c5_6 Q s M = w5_6 P Q M (sget s 0) (sget s 1) := by kernel_rfl
def o5_7 : List AOper := [⟨some 22, (.mov (.tmp 0)), false, none⟩,
  ⟨some 23, (.mov (.tmp 1)), false, none⟩,
  ⟨some 24, (.call i_transitlaw16_rides [(.tmp 22), (.tmp 23)]), false, none⟩,
  ⟨some 21, (.mov (.tmp 24)), false, none⟩,
  ⟨some 25, (.extract (.tmp 21) 0), false, none⟩,
  ⟨some 26, (.extract (.tmp 21) 1), true, none⟩,
  ⟨some 5, (.mov (.tmp 25)), false, none⟩,
  ⟨some 6, (.mov (.tmp 26)), true, none⟩]
def c5_8 : ACode := (.region o5_7 [0, 1, 5, 6])
def w5_8 (P : Program) (Q : Exit → Slots → Mem → Prop) (M : Mem) (v0 : V) (v1 : V) : Prop :=
  @CallH P i_transitlaw16_rides [v0, v1] M ⟨fun t24_3 M3 =>
  @OptVH (extractV t24_3 0) ⟨fun t25_5 =>
  @OptBH (extractV t24_3 1) ⟨fun b26_6 =>
  Q .normal [(0, v0), (1, v1), (5, t25_5), (6, (.bool b26_6))] M3⟩⟩⟩
theorem e5_8 (P : Program) (Q : Exit → Slots → Mem → Prop) (s : Slots) (M : Mem) : wpC P c5_8 Q s M = w5_8 P Q M (sget s 0) (sget s 1) := by kernel_rfl
def o5_9 : List AOper := [⟨some 27, (.mov (.tmp 0)), false, none⟩,
  ⟨some 28, (.call i_transitref16_Rides [(.tmp 27)]), false, none⟩,
  ⟨some 7, (.mov (.tmp 28)), false, none⟩]
def c5_10 : ACode := (.region o5_9 [1, 5, 6, 7])
def w5_10 (P : Program) (Q : Exit → Slots → Mem → Prop) (M : Mem) (v0 : V) (v1 : V) (v5 : V) (v6 : V) : Prop :=
  @CallH P i_transitref16_Rides [v0] M ⟨fun t28_2 M2 =>
  Q .normal [(1, v1), (5, v5), (6, v6), (7, t28_2)] M2⟩
theorem e5_10 (P : Program) (Q : Exit → Slots → Mem → Prop) (s : Slots) (M : Mem) : wpC P c5_10 Q s M = w5_10 P Q M (sget s 0) (sget s 1) (sget s 5) (sget s 6) := by kernel_rfl
def o5_11 : List AOper := [⟨some 4, (.mov (.const (.bool false))), true, none⟩]
def c5_12 : ACode := (.region o5_11 [4])
def w5_12 (_P : Program) (Q : Exit → Slots → Mem → Prop) (M : Mem) : Prop :=
  Q .normal [(4, (.bool false))] M
theorem e5_12 (P : Program) (Q : Exit → Slots → Mem → Prop) (s : Slots) (M : Mem) : wpC P c5_12 Q s M = w5_12 P Q M := by kernel_rfl
def c5_13 : ACode := (.seq c5_12 .ret)
def o5_14 : List AOper := [⟨some 29, (.mov (.tmp 6)), true, none⟩,
  ⟨some 30, (.un .not (.tmp 29)), true, none⟩,
  ⟨some 31, (.mov (.tmp 30)), true, none⟩,
  ⟨some 32, (.mov (.tmp 5)), false, some (31, false)⟩,
  ⟨some 33, (.lenSl (.tmp 32)), false, some (31, false)⟩,
  ⟨some 34, (.mov (.tmp 1)), false, some (31, false)⟩,
  ⟨some 35, (.mov (.tmp 7)), false, some (31, false)⟩,
  ⟨some 36, (.lenSl (.tmp 35)), false, some (31, false)⟩,
  ⟨some 37, (.minmax false (.tmp 34) (.tmp 36)), false, some (31, false)⟩,
  ⟨some 38, (.bin .neq .none (.tmp 33) (.tmp 37)), true, some (31, false)⟩,
  ⟨some 39, (.pick (.tmp 31) (.const (.bool true)) (.tmp 38)), true, none⟩]
def c5_15 : ACode := (.seq (.region o5_14 [5, 7, 39]) (.cond (.tmp 39) c5_13 .skip))
def w5_15 (P : Program) (Q : Exit → Slots → Mem → Prop) (M : Mem) (v1 : V) (v5 : V) (v6 : V) (v7 : V) : Prop :=
  @OptBH (some v6) ⟨fun b29_1 =>
  @OptBH (unV .not (.bool b29_1)) ⟨fun b30_2 =>
  @BIfH b30_2
  ⟨wpC P c5_13 Q [(5, v5), (7, v7), (39, (.bool true))] M⟩
  ⟨@OptVH (lenV v5 M) ⟨fun t33_6 =>
  @OptVH (lenV v7 M) ⟨fun t36_9 =>
  @OptVH (minmaxV false v1 t36_9) ⟨fun t37_10 =>
  @OptBH (binV .neq .none t33_6 t37_10) ⟨fun b38_11 =>
  @BIfH b38_11
  ⟨wpC P c5_13 Q [(5, v5), (7, v7), (39, (.bool b38_11))] M⟩
  ⟨Q .normal [(5, v5), (7, v7), (39, (.bool b38_11))] M⟩⟩⟩⟩⟩⟩⟩⟩
theorem e5_15 (P : Program) (Q : Exit → Slots → Mem → Prop) (s : Slots) (M : Mem) : wpC P c5_15 Q s M = w5_15 P Q M (sget s 1) (sget s 5) (sget s 6) (sget s 7) := by kernel_rfl
def o5_16 : List AOper := [⟨some 40, (.mov (.tmp 5)), false, none⟩,
  ⟨some 41, (.lenSl (.tmp 40)), false, none⟩,
  ⟨some 42, (.mov (.const (.int .i64 0))), false, none⟩]
def c5_17 : ACode := (.region o5_16 [5, 7, 41, 42])
def w5_17 (_P : Program) (Q : Exit → Slots → Mem → Prop) (M : Mem) (v5 : V) (v7 : V) : Prop :=
  @OptVH (lenV v5 M) ⟨fun t41_2 =>
  Q .normal [(5, v5), (7, v7), (41, t41_2), (42, (.int .i64 0))] M⟩
theorem e5_17 (P : Program) (Q : Exit → Slots → Mem → Prop) (s : Slots) (M : Mem) : wpC P c5_17 Q s M = w5_17 P Q M (sget s 5) (sget s 7) := by kernel_rfl
def o5_18 : List AOper := [⟨some 43, (.bin .lss .none (.tmp 42) (.tmp 41)), false, none⟩]
def c5_19 : ACode := (.region o5_18 [5, 7, 41, 42, 43])
def w5_19 (_P : Program) (Q : Exit → Slots → Mem → Prop) (M : Mem) (v5 : V) (v7 : V) (v41 : V) (v42 : V) : Prop :=
  @OptVH (binV .lss .none v42 v41) ⟨fun t43_1 =>
  Q .normal [(5, v5), (7, v7), (41, v41), (42, v42), (43, t43_1)] M⟩
theorem e5_19 (P : Program) (Q : Exit → Slots → Mem → Prop) (s : Slots) (M : Mem) : wpC P c5_19 Q s M = w5_19 P Q M (sget s 5) (sget s 7) (sget s 41) (sget s 42) := by kernel_rfl
def c5_20 : ACode := (.cond (.tmp 43) .skip (.exit 0))
def o5_21 : List AOper := [⟨some 44, (.mov (.tmp 42)), false, none⟩,
  ⟨some 8, (.mov (.tmp 44)), false, none⟩]
def c5_22 : ACode := (.region o5_21 [5, 7, 8, 41, 42])
def w5_22 (_P : Program) (Q : Exit → Slots → Mem → Prop) (M : Mem) (v5 : V) (v7 : V) (v41 : V) (v42 : V) : Prop :=
  Q .normal [(5, v5), (7, v7), (8, v42), (41, v41), (42, v42)] M
theorem e5_22 (P : Program) (Q : Exit → Slots → Mem → Prop) (s : Slots) (M : Mem) : wpC P c5_22 Q s M = w5_22 P Q M (sget s 5) (sget s 7) (sget s 41) (sget s 42) := by kernel_rfl
def o5_23 : List AOper := [⟨some 4, (.mov (.const (.bool false))), true, none⟩]
def c5_24 : ACode := (.region o5_23 [4])
def w5_24 (_P : Program) (Q : Exit → Slots → Mem → Prop) (M : Mem) : Prop :=
  Q .normal [(4, (.bool false))] M
theorem e5_24 (P : Program) (Q : Exit → Slots → Mem → Prop) (s : Slots) (M : Mem) : wpC P c5_24 Q s M = w5_24 P Q M := by kernel_rfl
def c5_25 : ACode := (.seq c5_24 .ret)
def o5_26 : List AOper := [⟨some 45, (.mov (.tmp 5)), false, none⟩,
  ⟨some 46, (.mov (.tmp 8)), false, none⟩,
  ⟨some 47, (.indexSl 2 (.tmp 45) (.tmp 46)), false, none⟩,
  ⟨some 48, (.load 2 true (.tmp 47)), false, none⟩,
  ⟨some 49, (.mov (.tmp 7)), false, none⟩,
  ⟨some 50, (.mov (.tmp 8)), false, none⟩,
  ⟨some 51, (.indexSl 2 (.tmp 49) (.tmp 50)), false, none⟩,
  ⟨some 52, (.load 2 true (.tmp 51)), false, none⟩,
  ⟨some 53, (.bin .neq (.cells [.int, .int]) (.tmp 48) (.tmp 52)), true, none⟩]
def c5_27 : ACode := (.seq (.mixed o5_26 [true, true, true, true, true, true, true, true, true] [5, 7, 41, 42, 53]) (.cond (.tmp 53) c5_25 .skip))
def w5_27 (P : Program) (Q : Exit → Slots → Mem → Prop) (M : Mem) (v5 : V) (v7 : V) (v8 : V) (v41 : V) (v42 : V) : Prop :=
  @OptVH (indexSlV 2 v5 v8 M) ⟨fun t47_3 =>
  @OptVH (loadV 2 true t47_3 M) ⟨fun t48_4 =>
  @OptVH (indexSlV 2 v7 v8 M) ⟨fun t51_7 =>
  @OptVH (loadV 2 true t51_7 M) ⟨fun t52_8 =>
  @OptBH (binV .neq (.cells [.int, .int]) t48_4 t52_8) ⟨fun b53_9 =>
  @BIfH b53_9
  ⟨wpC P c5_25 Q [(5, v5), (7, v7), (41, v41), (42, v42), (53, (.bool b53_9))] M⟩
  ⟨Q .normal [(5, v5), (7, v7), (41, v41), (42, v42), (53, (.bool b53_9))] M⟩⟩⟩⟩⟩⟩
theorem e5_27 (P : Program) (Q : Exit → Slots → Mem → Prop) (s : Slots) (M : Mem) : wpC P c5_27 Q s M = w5_27 P Q M (sget s 5) (sget s 7) (sget s 8) (sget s 41) (sget s 42) := by kernel_rfl
def c5_28 : ACode := (.seq c5_22 c5_27)
def c5_29 : ACode := (.block 1 c5_28)
def o5_30 : List AOper := [⟨some 54, (.bin .add .none (.tmp 42) (.const (.int .i64 1))), false, none⟩,
  ⟨some 42, (.mov (.tmp 54)), false, none⟩]
def c5_31 : ACode := (.region o5_30 [5, 7, 41, 42])
def w5_31 (_P : Program) (Q : Exit → Slots → Mem → Prop) (M : Mem) (v5 : V) (v7 : V) (v41 : V) (v42 : V) : Prop :=
  @OptVH (binV .add .none v42 (.int .i64 1)) ⟨fun t54_1 =>
  Q .normal [(5, v5), (7, v7), (41, v41), (42, t54_1)] M⟩
theorem e5_31 (P : Program) (Q : Exit → Slots → Mem → Prop) (s : Slots) (M : Mem) : wpC P c5_31 Q s M = w5_31 P Q M (sget s 5) (sget s 7) (sget s 41) (sget s 42) := by kernel_rfl
def c5_32 : ACode := (.seq c5_29 c5_31)
def c5_33 : ACode := (.seq c5_20 c5_32)
def c5_34 : ACode := (.seq c5_19 c5_33)
def c5_35 : ACode := (.loop [5, 7, 41, 42] c5_34)
def c5_36 : ACode := (.block 0 c5_35)
def c5_37 : ACode := (.seq c5_17 c5_36)
def o5_38 : List AOper := [⟨some 55, (.call i_transitlaw16_exampleHolds []), true, none⟩,
  ⟨some 4, (.mov (.tmp 55)), true, none⟩]
def c5_39 : ACode := (.region o5_38 [4])
def w5_39 (P : Program) (Q : Exit → Slots → Mem → Prop) (M : Mem) : Prop :=
  @CallH P i_transitlaw16_exampleHolds [] M ⟨fun t55_1 M1 => @OptBH (some t55_1) ⟨fun b55_1 =>
  Q .normal [(4, (.bool b55_1))] M1⟩⟩
theorem e5_39 (P : Program) (Q : Exit → Slots → Mem → Prop) (s : Slots) (M : Mem) : wpC P c5_39 Q s M = w5_39 P Q M := by kernel_rfl
def c5_40 : ACode := (.seq c5_39 .ret)
def c5_41 : ACode := (.seq c5_37 c5_40)
def c5_42 : ACode := (.seq c5_15 c5_41)
def c5_43 : ACode := (.seq c5_10 c5_42)
def c5_44 : ACode := (.seq c5_8 c5_43)
def c5_45 : ACode := (.seq c5_6 c5_44)
def c5_46 : ACode := (.seq c5_1 c5_45)
def fn_transitlaw16_CallRides : AFn := ⟨56, [(.tmp 4)], c5_46⟩
theorem fn_transitlaw16_CallRides_ok : resFn PR h_transitlaw16_CallRides i_transitlaw16_CallRides = some fn_transitlaw16_CallRides := by kernel_rfl

def h_transitlaw16_CallLists : Hints := ⟨[(0, [0, 1]), (1, [0, 1, 7]), (2, [4]), (3, [4])], [], []⟩
def o6_0 : List AOper := [⟨some 4, (.mov (.const (.bool false))), true, none⟩]
def c6_1 : ACode := (.region o6_0 [0, 1])
def w6_1 (_P : Program) (Q : Exit → Slots → Mem → Prop) (M : Mem) (v0 : V) (v1 : V) : Prop :=
  Q .normal [(0, v0), (1, v1)] M
theorem e6_1 (P : Program) (Q : Exit → Slots → Mem → Prop) (s : Slots) (M : Mem) : wpC P c6_1 Q s M = w6_1 P Q M (sget s 0) (sget s 1) := by kernel_rfl
def o6_2 : List AOper := [⟨some 8, (.call i_transitlaw16_exampleHolds []), true, none⟩,
  ⟨some 4, (.mov (.tmp 8)), true, none⟩]
def c6_3 : ACode := (.region o6_2 [4])
def w6_3 (P : Program) (Q : Exit → Slots → Mem → Prop) (M : Mem) : Prop :=
  @CallH P i_transitlaw16_exampleHolds [] M ⟨fun t8_1 M1 => @OptBH (some t8_1) ⟨fun b8_1 =>
  Q .normal [(4, (.bool b8_1))] M1⟩⟩
theorem e6_3 (P : Program) (Q : Exit → Slots → Mem → Prop) (s : Slots) (M : Mem) : wpC P c6_3 Q s M = w6_3 P Q M := by kernel_rfl
def c6_4 : ACode := (.seq c6_3 .ret)
def o6_5 : List AOper := [⟨some 5, (.mov (.tmp 0)), false, none⟩,
  ⟨some 6, (.lenSl (.tmp 5)), false, none⟩,
  ⟨some 7, (.bin .gtr .none (.tmp 6) (.const (.int .i64 100))), true, none⟩]
def c6_6 : ACode := (.seq (.region o6_5 [0, 1, 7]) (.cond (.tmp 7) c6_4 .skip))
def w6_6 (P : Program) (Q : Exit → Slots → Mem → Prop) (M : Mem) (v0 : V) (v1 : V) : Prop :=
  @OptVH (lenV v0 M) ⟨fun t6_2 =>
  @OptBH (binV .gtr .none t6_2 (.int .i64 100)) ⟨fun b7_3 =>
  @BIfH b7_3
  ⟨wpC P c6_4 Q [(0, v0), (1, v1), (7, (.bool b7_3))] M⟩
  ⟨Q .normal [(0, v0), (1, v1), (7, (.bool b7_3))] M⟩⟩⟩
theorem e6_6 (P : Program) (Q : Exit → Slots → Mem → Prop) (s : Slots) (M : Mem) : wpC P c6_6 Q s M = w6_6 P Q M (sget s 0) (sget s 1) := by kernel_rfl
def o6_7 : List AOper := [⟨some 9, (.mov (.tmp 0)), false, none⟩,
  ⟨some 10, (.mov (.tmp 1)), false, none⟩,
  ⟨some 11, (.call i_call_At [(.tmp 9), (.tmp 10)]), false, none⟩,
  ⟨some 12, (.mov (.tmp 0)), false, none⟩,
  ⟨some 13, (.mov (.tmp 1)), false, none⟩,
  ⟨some 14, (.call i_transitref16_At [(.tmp 12), (.tmp 13)]), false, none⟩,
  ⟨some 15, (.call i_transitref16_Same [(.tmp 11), (.tmp 14)]), true, none⟩,
  ⟨some 16, (.mov (.tmp 15)), true, none⟩,
  ⟨some 17, (.mov (.tmp 0)), false, some (16, true)⟩,
  ⟨some 18, (.call i_call_Duration [(.tmp 17)]), false, some (16, true)⟩,
  ⟨some 19, (.mov (.tmp 0)), false, some (16, true)⟩,
  ⟨some 20, (.call i_transitref16_Duration [(.tmp 19)]), false, some (16, true)⟩,
  ⟨some 21, (.bin .eql .none (.tmp 18) (.tmp 20)), true, some (16, true)⟩,
  ⟨some 22, (.pick (.tmp 16) (.tmp 21) (.const (.bool false))), true, none⟩,
  ⟨some 23, (.mov (.tmp 22)), true, none⟩,
  ⟨some 24, (.call i_transitlaw16_exampleHolds []), true, some (23, true)⟩,
  ⟨some 25, (.pick (.tmp 23) (.tmp 24) (.const (.bool false))), true, none⟩,
  ⟨some 4, (.mov (.tmp 25)), true, none⟩]
def c6_8 : ACode := (.region o6_7 [4])
def w6_8 (P : Program) (Q : Exit → Slots → Mem → Prop) (M : Mem) (v0 : V) (v1 : V) : Prop :=
  @CallH P i_call_At [v0, v1] M ⟨fun t11_3 M3 =>
  @CallH P i_transitref16_At [v0, v1] M3 ⟨fun t14_6 M6 =>
  @CallH P i_transitref16_Same [t11_3, t14_6] M6 ⟨fun t15_7 M7 => @OptBH (some t15_7) ⟨fun b15_7 =>
  @BIfH b15_7
  ⟨@CallH P i_call_Duration [v0] M7 ⟨fun t18_10 M10 =>
  @CallH P i_transitref16_Duration [v0] M10 ⟨fun t20_12 M12 =>
  @OptBH (binV .eql .none t18_10 t20_12) ⟨fun b21_13 =>
  @BIfH b21_13
  ⟨@CallH P i_transitlaw16_exampleHolds [] M12 ⟨fun t24_16 M16 => @OptBH (some t24_16) ⟨fun b24_16 =>
  Q .normal [(4, (.bool b24_16))] M16⟩⟩⟩
  ⟨Q .normal [(4, (.bool false))] M12⟩⟩⟩⟩⟩
  ⟨Q .normal [(4, (.bool false))] M7⟩⟩⟩⟩⟩
theorem e6_8 (P : Program) (Q : Exit → Slots → Mem → Prop) (s : Slots) (M : Mem) : wpC P c6_8 Q s M = w6_8 P Q M (sget s 0) (sget s 1) := by kernel_rfl
def c6_9 : ACode := (.seq c6_8 .ret)
def c6_10 : ACode := (.seq c6_6 c6_9)
def c6_11 : ACode := (.seq c6_1 c6_10)
def fn_transitlaw16_CallLists : AFn := ⟨26, [(.tmp 4)], c6_11⟩
theorem fn_transitlaw16_CallLists_ok : resFn PR h_transitlaw16_CallLists i_transitlaw16_CallLists = some fn_transitlaw16_CallLists := by kernel_rfl

def h_transitlaw16_CallCounts : Hints := ⟨[(0, [0, 3]), (1, [0, 3, 16]), (2, [4]), (3, [0, 3, 5, 6]), (4, [0, 3, 5, 24]), (5, [4]), (6, [0, 3, 5, 7]), (7, [0, 3, 5, 7, 26, 27]), (8, [0, 3, 5, 7, 26, 27, 28]), (9, [0, 3, 5, 7, 8, 26, 27]), (10, [0, 3, 5, 7, 8, 26, 27, 31, 32]), (11, [0, 3, 5, 7, 8, 26, 27, 31, 32, 33]), (12, [0, 3, 5, 7, 8, 9, 26, 27, 31, 32]), (13, [0, 3, 5, 7, 8, 26, 27, 31, 32, 38]), (14, [0, 3, 5, 7, 8, 26, 27, 31, 32]), (15, [0, 3, 5, 7, 8, 26, 27, 31, 32]), (16, [0, 3, 5, 7, 26, 27]), (17, [0, 5, 7, 11]), (18, [0, 5, 7, 11, 54, 55, 56]), (19, [0, 5, 7, 11, 54, 55, 56, 57]), (20, [0, 5, 7, 11, 12, 13, 54, 55, 56]), (21, [0, 5, 7, 11, 12, 13, 54, 55, 56, 86]), (22, [4]), (23, [0, 5, 7, 11, 12, 13, 54, 55, 56, 103]), (24, [4]), (25, [0, 5, 7, 11, 54, 55, 56, 138]), (26, [4]), (27, [0, 5, 7, 11, 54, 55, 56]), (28, [4])], [(8, [0, 3, 5, 7, 26, 27]), (11, [0, 3, 5, 7, 8, 26, 27, 31, 32]), (19, [0, 5, 7, 11, 54, 55, 56])], []⟩
def o7_0 : List AOper := [⟨some 3, (.box 3 (.tmp 1)), false, none⟩,
  ⟨some 4, (.mov (.const (.bool false))), true, none⟩]
def c7_1 : ACode := (.region o7_0 [0, 3])
def w7_1 (_P : Program) (Q : Exit → Slots → Mem → Prop) (M : Mem) (v0 : V) (v1 : V) : Prop :=
  @OptMH (boxV 3 v1 M) ⟨fun t3_1 M1 =>
  Q .normal [(0, v0), (3, t3_1)] M1⟩
theorem e7_1 (P : Program) (Q : Exit → Slots → Mem → Prop) (s : Slots) (M : Mem) : wpC P c7_1 Q s M = w7_1 P Q M (sget s 0) (sget s 1) := by kernel_rfl
def o7_2 : List AOper := [⟨some 17, (.call i_transitlaw16_exampleHolds []), true, none⟩,
  ⟨some 4, (.mov (.tmp 17)), true, none⟩]
def c7_3 : ACode := (.region o7_2 [4])
def w7_3 (P : Program) (Q : Exit → Slots → Mem → Prop) (M : Mem) : Prop :=
  @CallH P i_transitlaw16_exampleHolds [] M ⟨fun t17_1 M1 => @OptBH (some t17_1) ⟨fun b17_1 =>
  Q .normal [(4, (.bool b17_1))] M1⟩⟩
theorem e7_3 (P : Program) (Q : Exit → Slots → Mem → Prop) (s : Slots) (M : Mem) : wpC P c7_3 Q s M = w7_3 P Q M := by kernel_rfl
def c7_4 : ACode := (.seq c7_3 .ret)
def o7_5 : List AOper := [⟨some 14, (.mov (.tmp 0)), false, none⟩,
  ⟨some 15, (.lenSl (.tmp 14)), false, none⟩,
  ⟨some 16, (.bin .gtr .none (.tmp 15) (.const (.int .i64 60))), true, none⟩]
def c7_6 : ACode := (.seq (.region o7_5 [0, 3, 16]) (.cond (.tmp 16) c7_4 .skip))
def w7_6 (P : Program) (Q : Exit → Slots → Mem → Prop) (M : Mem) (v0 : V) (v3 : V) : Prop :=
  @OptVH (lenV v0 M) ⟨fun t15_2 =>
  @OptBH (binV .gtr .none t15_2 (.int .i64 60)) ⟨fun b16_3 =>
  @BIfH b16_3
  ⟨wpC P c7_4 Q [(0, v0), (3, v3), (16, (.bool b16_3))] M⟩
  ⟨Q .normal [(0, v0), (3, v3), (16, (.bool b16_3))] M⟩⟩⟩
theorem e7_6 (P : Program) (Q : Exit → Slots → Mem → Prop) (s : Slots) (M : Mem) : wpC P c7_6 Q s M = w7_6 P Q M (sget s 0) (sget s 3) := by kernel_rfl
def o7_7 : List AOper := [⟨some 19, (.mov (.tmp 0)), false, none⟩,
  ⟨some 20, (.call i_transitlaw16_rides [(.tmp 19), (.const (.int .i64 4000))]), false, none⟩,
  ⟨some 18, (.mov (.tmp 20)), false, none⟩,
  ⟨some 21, (.extract (.tmp 18) 0), false, none⟩,
  ⟨some 22, (.extract (.tmp 18) 1), true, none⟩,
  ⟨some 5, (.mov (.tmp 21)), false, none⟩,
  ⟨some 6, (.mov (.tmp 22)), true, none⟩]
def c7_8 : ACode := (.region o7_7 [0, 3, 5, 6])
def w7_8 (P : Program) (Q : Exit → Slots → Mem → Prop) (M : Mem) (v0 : V) (v3 : V) : Prop :=
  @CallH P i_transitlaw16_rides [v0, (.int .i64 4000)] M ⟨fun t20_2 M2 =>
  @OptVH (extractV t20_2 0) ⟨fun t21_4 =>
  @OptBH (extractV t20_2 1) ⟨fun b22_5 =>
  Q .normal [(0, v0), (3, v3), (5, t21_4), (6, (.bool b22_5))] M2⟩⟩⟩
theorem e7_8 (P : Program) (Q : Exit → Slots → Mem → Prop) (s : Slots) (M : Mem) : wpC P c7_8 Q s M = w7_8 P Q M (sget s 0) (sget s 3) := by kernel_rfl
def o7_9 : List AOper := [⟨some 4, (.mov (.const (.bool false))), true, none⟩]
def c7_10 : ACode := (.region o7_9 [4])
def w7_10 (_P : Program) (Q : Exit → Slots → Mem → Prop) (M : Mem) : Prop :=
  Q .normal [(4, (.bool false))] M
theorem e7_10 (P : Program) (Q : Exit → Slots → Mem → Prop) (s : Slots) (M : Mem) : wpC P c7_10 Q s M = w7_10 P Q M := by kernel_rfl
def c7_11 : ACode := (.seq c7_10 .ret)
def o7_12 : List AOper := [⟨some 23, (.mov (.tmp 6)), true, none⟩,
  ⟨some 24, (.un .not (.tmp 23)), true, none⟩]
def c7_13 : ACode := (.seq (.region o7_12 [0, 3, 5, 24]) (.cond (.tmp 24) c7_11 .skip))
def w7_13 (P : Program) (Q : Exit → Slots → Mem → Prop) (M : Mem) (v0 : V) (v3 : V) (v5 : V) (v6 : V) : Prop :=
  @OptBH (some v6) ⟨fun b23_1 =>
  @OptBH (unV .not (.bool b23_1)) ⟨fun b24_2 =>
  @BIfH b24_2
  ⟨wpC P c7_11 Q [(0, v0), (3, v3), (5, v5), (24, (.bool b24_2))] M⟩
  ⟨Q .normal [(0, v0), (3, v3), (5, v5), (24, (.bool b24_2))] M⟩⟩⟩
theorem e7_13 (P : Program) (Q : Exit → Slots → Mem → Prop) (s : Slots) (M : Mem) : wpC P c7_13 Q s M = w7_13 P Q M (sget s 0) (sget s 3) (sget s 5) (sget s 6) := by kernel_rfl
def o7_14 : List AOper := [⟨some 7, (.mov (.const (.int .i64 0))), false, none⟩]
def c7_15 : ACode := (.region o7_14 [0, 3, 5, 7])
def w7_15 (_P : Program) (Q : Exit → Slots → Mem → Prop) (M : Mem) (v0 : V) (v3 : V) (v5 : V) : Prop :=
  Q .normal [(0, v0), (3, v3), (5, v5), (7, (.int .i64 0))] M
theorem e7_15 (P : Program) (Q : Exit → Slots → Mem → Prop) (s : Slots) (M : Mem) : wpC P c7_15 Q s M = w7_15 P Q M (sget s 0) (sget s 3) (sget s 5) := by kernel_rfl
def o7_16 : List AOper := [⟨some 25, (.mov (.tmp 0)), false, none⟩,
  ⟨some 26, (.lenSl (.tmp 25)), false, none⟩,
  ⟨some 27, (.mov (.const (.int .i64 0))), false, none⟩]
def c7_17 : ACode := (.region o7_16 [0, 3, 5, 7, 26, 27])
def w7_17 (_P : Program) (Q : Exit → Slots → Mem → Prop) (M : Mem) (v0 : V) (v3 : V) (v5 : V) (v7 : V) : Prop :=
  @OptVH (lenV v0 M) ⟨fun t26_2 =>
  Q .normal [(0, v0), (3, v3), (5, v5), (7, v7), (26, t26_2), (27, (.int .i64 0))] M⟩
theorem e7_17 (P : Program) (Q : Exit → Slots → Mem → Prop) (s : Slots) (M : Mem) : wpC P c7_17 Q s M = w7_17 P Q M (sget s 0) (sget s 3) (sget s 5) (sget s 7) := by kernel_rfl
def o7_18 : List AOper := [⟨some 28, (.bin .lss .none (.tmp 27) (.tmp 26)), false, none⟩]
def c7_19 : ACode := (.region o7_18 [0, 3, 5, 7, 26, 27, 28])
def w7_19 (_P : Program) (Q : Exit → Slots → Mem → Prop) (M : Mem) (v0 : V) (v3 : V) (v5 : V) (v7 : V) (v26 : V) (v27 : V) : Prop :=
  @OptVH (binV .lss .none v27 v26) ⟨fun t28_1 =>
  Q .normal [(0, v0), (3, v3), (5, v5), (7, v7), (26, v26), (27, v27), (28, t28_1)] M⟩
theorem e7_19 (P : Program) (Q : Exit → Slots → Mem → Prop) (s : Slots) (M : Mem) : wpC P c7_19 Q s M = w7_19 P Q M (sget s 0) (sget s 3) (sget s 5) (sget s 7) (sget s 26) (sget s 27) := by kernel_rfl
def c7_20 : ACode := (.cond (.tmp 28) .skip (.exit 0))
def o7_21 : List AOper := [⟨some 29, (.mov (.tmp 27)), false, none⟩,
  ⟨some 8, (.mov (.tmp 29)), false, none⟩]
def c7_22 : ACode := (.region o7_21 [0, 3, 5, 7, 8, 26, 27])
def w7_22 (_P : Program) (Q : Exit → Slots → Mem → Prop) (M : Mem) (v0 : V) (v3 : V) (v5 : V) (v7 : V) (v26 : V) (v27 : V) : Prop :=
  Q .normal [(0, v0), (3, v3), (5, v5), (7, v7), (8, v27), (26, v26), (27, v27)] M
theorem e7_22 (P : Program) (Q : Exit → Slots → Mem → Prop) (s : Slots) (M : Mem) : wpC P c7_22 Q s M = w7_22 P Q M (sget s 0) (sget s 3) (sget s 5) (sget s 7) (sget s 26) (sget s 27) := by kernel_rfl
def o7_23 : List AOper := [⟨some 30, (.mov (.tmp 0)), false, none⟩,
  ⟨some 31, (.lenSl (.tmp 30)), false, none⟩,
  ⟨some 32, (.mov (.const (.int .i64 0))), false, none⟩]
def c7_24 : ACode := (.region o7_23 [0, 3, 5, 7, 8, 26, 27, 31, 32])
def w7_24 (_P : Program) (Q : Exit → Slots → Mem → Prop) (M : Mem) (v0 : V) (v3 : V) (v5 : V) (v7 : V) (v8 : V) (v26 : V) (v27 : V) : Prop :=
  @OptVH (lenV v0 M) ⟨fun t31_2 =>
  Q .normal [(0, v0), (3, v3), (5, v5), (7, v7), (8, v8), (26, v26), (27, v27), (31, t31_2), (32, (.int .i64 0))] M⟩
theorem e7_24 (P : Program) (Q : Exit → Slots → Mem → Prop) (s : Slots) (M : Mem) : wpC P c7_24 Q s M = w7_24 P Q M (sget s 0) (sget s 3) (sget s 5) (sget s 7) (sget s 8) (sget s 26) (sget s 27) := by kernel_rfl
def o7_25 : List AOper := [⟨some 33, (.bin .lss .none (.tmp 32) (.tmp 31)), false, none⟩]
def c7_26 : ACode := (.region o7_25 [0, 3, 5, 7, 8, 26, 27, 31, 32, 33])
def w7_26 (_P : Program) (Q : Exit → Slots → Mem → Prop) (M : Mem) (v0 : V) (v3 : V) (v5 : V) (v7 : V) (v8 : V) (v26 : V) (v27 : V) (v31 : V) (v32 : V) : Prop :=
  @OptVH (binV .lss .none v32 v31) ⟨fun t33_1 =>
  Q .normal [(0, v0), (3, v3), (5, v5), (7, v7), (8, v8), (26, v26), (27, v27), (31, v31), (32, v32), (33, t33_1)] M⟩
theorem e7_26 (P : Program) (Q : Exit → Slots → Mem → Prop) (s : Slots) (M : Mem) : wpC P c7_26 Q s M = w7_26 P Q M (sget s 0) (sget s 3) (sget s 5) (sget s 7) (sget s 8) (sget s 26) (sget s 27) (sget s 31) (sget s 32) := by kernel_rfl
def c7_27 : ACode := (.cond (.tmp 33) .skip (.exit 2))
def o7_28 : List AOper := [⟨some 34, (.mov (.tmp 32)), false, none⟩,
  ⟨some 9, (.mov (.tmp 34)), false, none⟩]
def c7_29 : ACode := (.region o7_28 [0, 3, 5, 7, 8, 9, 26, 27, 31, 32])
def w7_29 (_P : Program) (Q : Exit → Slots → Mem → Prop) (M : Mem) (v0 : V) (v3 : V) (v5 : V) (v7 : V) (v8 : V) (v26 : V) (v27 : V) (v31 : V) (v32 : V) : Prop :=
  Q .normal [(0, v0), (3, v3), (5, v5), (7, v7), (8, v8), (9, v32), (26, v26), (27, v27), (31, v31), (32, v32)] M
theorem e7_29 (P : Program) (Q : Exit → Slots → Mem → Prop) (s : Slots) (M : Mem) : wpC P c7_29 Q s M = w7_29 P Q M (sget s 0) (sget s 3) (sget s 5) (sget s 7) (sget s 8) (sget s 26) (sget s 27) (sget s 31) (sget s 32) := by kernel_rfl
def o7_30 : List AOper := [⟨some 39, (.mov (.tmp 7)), false, none⟩,
  ⟨some 40, (.bin .add .none (.tmp 39) (.const (.int .i64 1))), false, none⟩,
  ⟨some 7, (.mov (.tmp 40)), false, none⟩]
def c7_31 : ACode := (.region o7_30 [0, 3, 5, 7, 8, 26, 27, 31, 32])
def w7_31 (_P : Program) (Q : Exit → Slots → Mem → Prop) (M : Mem) (v0 : V) (v3 : V) (v5 : V) (v7 : V) (v8 : V) (v26 : V) (v27 : V) (v31 : V) (v32 : V) : Prop :=
  @OptVH (binV .add .none v7 (.int .i64 1)) ⟨fun t40_2 =>
  Q .normal [(0, v0), (3, v3), (5, v5), (7, t40_2), (8, v8), (26, v26), (27, v27), (31, v31), (32, v32)] M⟩
theorem e7_31 (P : Program) (Q : Exit → Slots → Mem → Prop) (s : Slots) (M : Mem) : wpC P c7_31 Q s M = w7_31 P Q M (sget s 0) (sget s 3) (sget s 5) (sget s 7) (sget s 8) (sget s 26) (sget s 27) (sget s 31) (sget s 32) := by kernel_rfl
def o7_32 : List AOper := [⟨some 35, (.mov (.tmp 0)), false, none⟩,
  ⟨some 36, (.mov (.tmp 8)), false, none⟩,
  ⟨some 37, (.mov (.tmp 9)), false, none⟩,
  ⟨some 38, (.call i_call_Ridable [(.tmp 35), (.tmp 36), (.tmp 37)]), true, none⟩]
def c7_33 : ACode := (.seq (.region o7_32 [0, 3, 5, 7, 8, 26, 27, 31, 32, 38]) (.cond (.tmp 38) c7_31 .skip))
def w7_33 (P : Program) (Q : Exit → Slots → Mem → Prop) (M : Mem) (v0 : V) (v3 : V) (v5 : V) (v7 : V) (v8 : V) (v9 : V) (v26 : V) (v27 : V) (v31 : V) (v32 : V) : Prop :=
  @CallH P i_call_Ridable [v0, v8, v9] M ⟨fun t38_4 M4 => @OptBH (some t38_4) ⟨fun b38_4 =>
  @BIfH b38_4
  ⟨wpC P c7_31 Q [(0, v0), (3, v3), (5, v5), (7, v7), (8, v8), (26, v26), (27, v27), (31, v31), (32, v32), (38, (.bool b38_4))] M4⟩
  ⟨Q .normal [(0, v0), (3, v3), (5, v5), (7, v7), (8, v8), (26, v26), (27, v27), (31, v31), (32, v32), (38, (.bool b38_4))] M4⟩⟩⟩
theorem e7_33 (P : Program) (Q : Exit → Slots → Mem → Prop) (s : Slots) (M : Mem) : wpC P c7_33 Q s M = w7_33 P Q M (sget s 0) (sget s 3) (sget s 5) (sget s 7) (sget s 8) (sget s 9) (sget s 26) (sget s 27) (sget s 31) (sget s 32) := by kernel_rfl
def c7_34 : ACode := (.seq c7_29 c7_33)
def c7_35 : ACode := (.block 3 c7_34)
def o7_36 : List AOper := [⟨some 41, (.bin .add .none (.tmp 32) (.const (.int .i64 1))), false, none⟩,
  ⟨some 32, (.mov (.tmp 41)), false, none⟩]
def c7_37 : ACode := (.region o7_36 [0, 3, 5, 7, 8, 26, 27, 31, 32])
def w7_37 (_P : Program) (Q : Exit → Slots → Mem → Prop) (M : Mem) (v0 : V) (v3 : V) (v5 : V) (v7 : V) (v8 : V) (v26 : V) (v27 : V) (v31 : V) (v32 : V) : Prop :=
  @OptVH (binV .add .none v32 (.int .i64 1)) ⟨fun t41_1 =>
  Q .normal [(0, v0), (3, v3), (5, v5), (7, v7), (8, v8), (26, v26), (27, v27), (31, v31), (32, t41_1)] M⟩
theorem e7_37 (P : Program) (Q : Exit → Slots → Mem → Prop) (s : Slots) (M : Mem) : wpC P c7_37 Q s M = w7_37 P Q M (sget s 0) (sget s 3) (sget s 5) (sget s 7) (sget s 8) (sget s 26) (sget s 27) (sget s 31) (sget s 32) := by kernel_rfl
def c7_38 : ACode := (.seq c7_35 c7_37)
def c7_39 : ACode := (.seq c7_27 c7_38)
def c7_40 : ACode := (.seq c7_26 c7_39)
def c7_41 : ACode := (.loop [0, 3, 5, 7, 8, 26, 27, 31, 32] c7_40)
def c7_42 : ACode := (.block 2 c7_41)
def c7_43 : ACode := (.seq c7_24 c7_42)
def c7_44 : ACode := (.seq c7_22 c7_43)
def c7_45 : ACode := (.block 1 c7_44)
def o7_46 : List AOper := [⟨some 42, (.bin .add .none (.tmp 27) (.const (.int .i64 1))), false, none⟩,
  ⟨some 27, (.mov (.tmp 42)), false, none⟩]
def c7_47 : ACode := (.region o7_46 [0, 3, 5, 7, 26, 27])
def w7_47 (_P : Program) (Q : Exit → Slots → Mem → Prop) (M : Mem) (v0 : V) (v3 : V) (v5 : V) (v7 : V) (v26 : V) (v27 : V) : Prop :=
  @OptVH (binV .add .none v27 (.int .i64 1)) ⟨fun t42_1 =>
  Q .normal [(0, v0), (3, v3), (5, v5), (7, v7), (26, v26), (27, t42_1)] M⟩
theorem e7_47 (P : Program) (Q : Exit → Slots → Mem → Prop) (s : Slots) (M : Mem) : wpC P c7_47 Q s M = w7_47 P Q M (sget s 0) (sget s 3) (sget s 5) (sget s 7) (sget s 26) (sget s 27) := by kernel_rfl
def c7_48 : ACode := (.seq c7_45 c7_47)
def c7_49 : ACode := (.seq c7_20 c7_48)
def c7_50 : ACode := (.seq c7_19 c7_49)
def c7_51 : ACode := (.loop [0, 3, 5, 7, 26, 27] c7_50)
def c7_52 : ACode := (.block 0 c7_51)
def c7_53 : ACode := (.seq c7_17 c7_52)
def o7_54 : List AOper := [⟨some 44, (.mov (.tmp 0)), false, none⟩,
  ⟨some 45, (.fieldAddr 0 (.tmp 3)), false, none⟩,
  ⟨some 46, (.load 1 false (.tmp 45)), false, none⟩,
  ⟨some 47, (.fieldAddr 1 (.tmp 3)), false, none⟩,
  ⟨some 48, (.load 1 false (.tmp 47)), false, none⟩,
  ⟨some 49, (.fieldAddr 2 (.tmp 3)), false, none⟩,
  ⟨some 50, (.load 1 false (.tmp 49)), false, none⟩,
  ⟨some 51, (.call i_call_Check [(.tmp 44), (.tmp 46), (.tmp 48), (.tmp 50)]), false, none⟩,
  ⟨some 43, (.mov (.tmp 51)), false, none⟩,
  ⟨some 52, (.extract (.tmp 43) 0), false, none⟩,
  ⟨some 53, (.extract (.tmp 43) 1), false, none⟩,
  ⟨some 10, (.mov (.tmp 52)), false, none⟩,
  ⟨some 11, (.mov (.tmp 53)), false, none⟩]
def c7_55 : ACode := (.region o7_54 [0, 5, 7, 11])
def w7_55 (P : Program) (Q : Exit → Slots → Mem → Prop) (M : Mem) (v0 : V) (v3 : V) (v5 : V) (v7 : V) : Prop :=
  @OptVH (moveV 0 v3) ⟨fun t45_2 =>
  @OptVH (loadV 1 false t45_2 M) ⟨fun t46_3 =>
  @OptVH (moveV 1 v3) ⟨fun t47_4 =>
  @OptVH (loadV 1 false t47_4 M) ⟨fun t48_5 =>
  @OptVH (moveV 2 v3) ⟨fun t49_6 =>
  @OptVH (loadV 1 false t49_6 M) ⟨fun t50_7 =>
  @CallH P i_call_Check [v0, t46_3, t48_5, t50_7] M ⟨fun t51_8 M8 =>
  @OptVH (extractV t51_8 0) ⟨fun _t52_10 =>
  @OptVH (extractV t51_8 1) ⟨fun t53_11 =>
  Q .normal [(0, v0), (5, v5), (7, v7), (11, t53_11)] M8⟩⟩⟩⟩⟩⟩⟩⟩⟩
theorem e7_55 (P : Program) (Q : Exit → Slots → Mem → Prop) (s : Slots) (M : Mem) : wpC P c7_55 Q s M = w7_55 P Q M (sget s 0) (sget s 3) (sget s 5) (sget s 7) := by kernel_rfl
def o7_56 : List AOper := [⟨some 54, (.mov (.tmp 5)), false, none⟩,
  ⟨some 55, (.lenSl (.tmp 54)), false, none⟩,
  ⟨some 56, (.mov (.const (.int .i64 0))), false, none⟩]
def c7_57 : ACode := (.region o7_56 [0, 5, 7, 11, 54, 55, 56])
def w7_57 (_P : Program) (Q : Exit → Slots → Mem → Prop) (M : Mem) (v0 : V) (v5 : V) (v7 : V) (v11 : V) : Prop :=
  @OptVH (lenV v5 M) ⟨fun t55_2 =>
  Q .normal [(0, v0), (5, v5), (7, v7), (11, v11), (54, v5), (55, t55_2), (56, (.int .i64 0))] M⟩
theorem e7_57 (P : Program) (Q : Exit → Slots → Mem → Prop) (s : Slots) (M : Mem) : wpC P c7_57 Q s M = w7_57 P Q M (sget s 0) (sget s 5) (sget s 7) (sget s 11) := by kernel_rfl
def o7_58 : List AOper := [⟨some 57, (.bin .lss .none (.tmp 56) (.tmp 55)), false, none⟩]
def c7_59 : ACode := (.region o7_58 [0, 5, 7, 11, 54, 55, 56, 57])
def w7_59 (_P : Program) (Q : Exit → Slots → Mem → Prop) (M : Mem) (v0 : V) (v5 : V) (v7 : V) (v11 : V) (v54 : V) (v55 : V) (v56 : V) : Prop :=
  @OptVH (binV .lss .none v56 v55) ⟨fun t57_1 =>
  Q .normal [(0, v0), (5, v5), (7, v7), (11, v11), (54, v54), (55, v55), (56, v56), (57, t57_1)] M⟩
theorem e7_59 (P : Program) (Q : Exit → Slots → Mem → Prop) (s : Slots) (M : Mem) : wpC P c7_59 Q s M = w7_59 P Q M (sget s 0) (sget s 5) (sget s 7) (sget s 11) (sget s 54) (sget s 55) (sget s 56) := by kernel_rfl
def c7_60 : ACode := (.cond (.tmp 57) .skip (.exit 4))
def o7_61 : List AOper := [⟨some 58, (.mov (.tmp 56)), false, none⟩,
  ⟨some 59, (.indexSl 2 (.tmp 54) (.tmp 56)), false, none⟩,
  ⟨some 60, (.load 2 true (.tmp 59)), false, none⟩,
  ⟨some 13, (.alloc [(.int .i64 0), (.int .i64 0)]), false, none⟩,
  ⟨some 12, (.mov (.tmp 58)), false, none⟩,
  ⟨none, (.store 2 (.tmp 13) (.tmp 60)), false, none⟩]
def c7_62 : ACode := (.region o7_61 [0, 5, 7, 11, 12, 13, 54, 55, 56])
def w7_62 (_P : Program) (Q : Exit → Slots → Mem → Prop) (M : Mem) (v0 : V) (v5 : V) (v7 : V) (v11 : V) (v54 : V) (v55 : V) (v56 : V) : Prop :=
  @OptVH (indexSlV 2 v54 v56 M) ⟨fun t59_2 =>
  @OptVH (loadV 2 true t59_2 M) ⟨fun t60_3 =>
  @OptMH (allocV [(.int .i64 0), (.int .i64 0)] M) ⟨fun t13_4 M4 =>
  @OptMH (storeVM 2 t13_4 t60_3 M4) ⟨fun _tx_6 M6 =>
  Q .normal [(0, v0), (5, v5), (7, v7), (11, v11), (12, v56), (13, t13_4), (54, v54), (55, v55), (56, v56)] M6⟩⟩⟩⟩
theorem e7_62 (P : Program) (Q : Exit → Slots → Mem → Prop) (s : Slots) (M : Mem) : wpC P c7_62 Q s M = w7_62 P Q M (sget s 0) (sget s 5) (sget s 7) (sget s 11) (sget s 54) (sget s 55) (sget s 56) := by kernel_rfl
def o7_63 : List AOper := [⟨some 4, (.mov (.const (.bool false))), true, none⟩]
def c7_64 : ACode := (.region o7_63 [4])
def w7_64 (_P : Program) (Q : Exit → Slots → Mem → Prop) (M : Mem) : Prop :=
  Q .normal [(4, (.bool false))] M
theorem e7_64 (P : Program) (Q : Exit → Slots → Mem → Prop) (s : Slots) (M : Mem) : wpC P c7_64 Q s M = w7_64 P Q M := by kernel_rfl
def c7_65 : ACode := (.seq c7_64 .ret)
def o7_66 : List AOper := [⟨some 61, (.mov (.tmp 0)), false, none⟩,
  ⟨some 62, (.indexArr 2 1 (.tmp 13) (.const (.int .i64 0))), false, none⟩,
  ⟨some 63, (.load 1 false (.tmp 62)), false, none⟩,
  ⟨some 64, (.indexArr 2 1 (.tmp 13) (.const (.int .i64 1))), false, none⟩,
  ⟨some 65, (.load 1 false (.tmp 64)), false, none⟩,
  ⟨some 66, (.call i_call_Ridable [(.tmp 61), (.tmp 63), (.tmp 65)]), true, none⟩,
  ⟨some 67, (.un .not (.tmp 66)), true, none⟩,
  ⟨some 68, (.mov (.tmp 67)), true, none⟩,
  ⟨some 69, (.indexArr 2 1 (.tmp 13) (.const (.int .i64 0))), false, some (68, false)⟩,
  ⟨some 70, (.load 1 false (.tmp 69)), false, some (68, false)⟩,
  ⟨some 71, (.bin .lss .none (.tmp 70) (.const (.int .i64 0))), true, some (68, false)⟩,
  ⟨some 72, (.pick (.tmp 68) (.const (.bool true)) (.tmp 71)), true, none⟩,
  ⟨some 73, (.mov (.tmp 72)), true, none⟩,
  ⟨some 74, (.indexArr 2 1 (.tmp 13) (.const (.int .i64 1))), false, some (73, false)⟩,
  ⟨some 75, (.load 1 false (.tmp 74)), false, some (73, false)⟩,
  ⟨some 76, (.mov (.tmp 0)), false, some (73, false)⟩,
  ⟨some 77, (.lenSl (.tmp 76)), false, some (73, false)⟩,
  ⟨some 78, (.bin .geq .none (.tmp 75) (.tmp 77)), true, some (73, false)⟩,
  ⟨some 79, (.pick (.tmp 73) (.const (.bool true)) (.tmp 78)), true, none⟩,
  ⟨some 80, (.mov (.tmp 79)), true, none⟩,
  ⟨some 81, (.indexArr 2 1 (.tmp 13) (.const (.int .i64 0))), false, some (80, false)⟩,
  ⟨some 82, (.load 1 false (.tmp 81)), false, some (80, false)⟩,
  ⟨some 83, (.indexArr 2 1 (.tmp 13) (.const (.int .i64 1))), false, some (80, false)⟩,
  ⟨some 84, (.load 1 false (.tmp 83)), false, some (80, false)⟩,
  ⟨some 85, (.bin .geq .none (.tmp 82) (.tmp 84)), true, some (80, false)⟩,
  ⟨some 86, (.pick (.tmp 80) (.const (.bool true)) (.tmp 85)), true, none⟩]
def c7_67 : ACode := (.seq (.region o7_66 [0, 5, 7, 11, 12, 13, 54, 55, 56, 86]) (.cond (.tmp 86) c7_65 .skip))
def w7_67 (P : Program) (Q : Exit → Slots → Mem → Prop) (M : Mem) (v0 : V) (v5 : V) (v7 : V) (v11 : V) (v12 : V) (v13 : V) (v54 : V) (v55 : V) (v56 : V) : Prop :=
  @OptVH (indexArrV 2 1 v13 (.int .i64 0)) ⟨fun t62_2 =>
  @OptVH (loadV 1 false t62_2 M) ⟨fun t63_3 =>
  @OptVH (indexArrV 2 1 v13 (.int .i64 1)) ⟨fun t64_4 =>
  @OptVH (loadV 1 false t64_4 M) ⟨fun t65_5 =>
  @CallH P i_call_Ridable [v0, t63_3, t65_5] M ⟨fun t66_6 M6 => @OptBH (some t66_6) ⟨fun b66_6 =>
  @OptBH (unV .not (.bool b66_6)) ⟨fun b67_7 =>
  @BIfH b67_7
  ⟨wpC P c7_65 Q [(0, v0), (5, v5), (7, v7), (11, v11), (12, v12), (13, v13), (54, v54), (55, v55), (56, v56), (86, (.bool true))] M6⟩
  ⟨@OptVH (indexArrV 2 1 v13 (.int .i64 0)) ⟨fun t69_14 =>
  @OptVH (loadV 1 false t69_14 M6) ⟨fun t70_15 =>
  @OptBH (binV .lss .none t70_15 (.int .i64 0)) ⟨fun b71_16 =>
  @BIfH b71_16
  ⟨wpC P c7_65 Q [(0, v0), (5, v5), (7, v7), (11, v11), (12, v12), (13, v13), (54, v54), (55, v55), (56, v56), (86, (.bool true))] M6⟩
  ⟨@OptVH (indexArrV 2 1 v13 (.int .i64 1)) ⟨fun t74_22 =>
  @OptVH (loadV 1 false t74_22 M6) ⟨fun t75_23 =>
  @OptVH (lenV v0 M6) ⟨fun t77_25 =>
  @OptBH (binV .geq .none t75_23 t77_25) ⟨fun b78_26 =>
  @BIfH b78_26
  ⟨wpC P c7_65 Q [(0, v0), (5, v5), (7, v7), (11, v11), (12, v12), (13, v13), (54, v54), (55, v55), (56, v56), (86, (.bool true))] M6⟩
  ⟨@OptVH (indexArrV 2 1 v13 (.int .i64 0)) ⟨fun t81_30 =>
  @OptVH (loadV 1 false t81_30 M6) ⟨fun t82_31 =>
  @OptVH (indexArrV 2 1 v13 (.int .i64 1)) ⟨fun t83_32 =>
  @OptVH (loadV 1 false t83_32 M6) ⟨fun t84_33 =>
  @OptBH (binV .geq .none t82_31 t84_33) ⟨fun b85_34 =>
  @BIfH b85_34
  ⟨wpC P c7_65 Q [(0, v0), (5, v5), (7, v7), (11, v11), (12, v12), (13, v13), (54, v54), (55, v55), (56, v56), (86, (.bool b85_34))] M6⟩
  ⟨Q .normal [(0, v0), (5, v5), (7, v7), (11, v11), (12, v12), (13, v13), (54, v54), (55, v55), (56, v56), (86, (.bool b85_34))] M6⟩⟩⟩⟩⟩⟩⟩⟩⟩⟩⟩⟩⟩⟩⟩⟩⟩⟩⟩⟩⟩⟩⟩
theorem e7_67 (P : Program) (Q : Exit → Slots → Mem → Prop) (s : Slots) (M : Mem) : wpC P c7_67 Q s M = w7_67 P Q M (sget s 0) (sget s 5) (sget s 7) (sget s 11) (sget s 12) (sget s 13) (sget s 54) (sget s 55) (sget s 56) := by kernel_rfl
def o7_68 : List AOper := [⟨some 4, (.mov (.const (.bool false))), true, none⟩]
def c7_69 : ACode := (.region o7_68 [4])
def w7_69 (_P : Program) (Q : Exit → Slots → Mem → Prop) (M : Mem) : Prop :=
  Q .normal [(4, (.bool false))] M
theorem e7_69 (P : Program) (Q : Exit → Slots → Mem → Prop) (s : Slots) (M : Mem) : wpC P c7_69 Q s M = w7_69 P Q M := by kernel_rfl
def c7_70 : ACode := (.seq c7_69 .ret)
def o7_71 : List AOper := [⟨some 87, (.mov (.tmp 11)), false, none⟩,
  ⟨some 88, (.bin .eql .none (.tmp 87) (.const (.int .i64 0))), true, none⟩,
  ⟨some 89, (.mov (.tmp 88)), true, none⟩,
  ⟨some 90, (.mov (.tmp 0)), false, some (89, true)⟩,
  ⟨some 91, (.indexArr 2 1 (.tmp 13) (.const (.int .i64 1))), false, some (89, true)⟩,
  ⟨some 92, (.load 1 false (.tmp 91)), false, some (89, true)⟩,
  ⟨some 93, (.indexSl 5 (.tmp 90) (.tmp 92)), false, some (89, true)⟩,
  ⟨some 94, (.fieldAddr 1 (.tmp 93)), false, some (89, true)⟩,
  ⟨some 95, (.load 1 false (.tmp 94)), false, some (89, true)⟩,
  ⟨some 96, (.mov (.tmp 0)), false, some (89, true)⟩,
  ⟨some 97, (.indexArr 2 1 (.tmp 13) (.const (.int .i64 0))), false, some (89, true)⟩,
  ⟨some 98, (.load 1 false (.tmp 97)), false, some (89, true)⟩,
  ⟨some 99, (.indexSl 5 (.tmp 96) (.tmp 98)), false, some (89, true)⟩,
  ⟨some 100, (.fieldAddr 2 (.tmp 99)), false, some (89, true)⟩,
  ⟨some 101, (.load 1 false (.tmp 100)), false, some (89, true)⟩,
  ⟨some 102, (.bin .lss .none (.tmp 95) (.tmp 101)), true, some (89, true)⟩,
  ⟨some 103, (.pick (.tmp 89) (.tmp 102) (.const (.bool false))), true, none⟩]
def c7_72 : ACode := (.seq (.mixed o7_71 [true, true, true, true, true, true, true, true, true, true, true, true, true, true, true, true, true] [0, 5, 7, 11, 12, 13, 54, 55, 56, 103]) (.cond (.tmp 103) c7_70 .skip))
def w7_72 (P : Program) (Q : Exit → Slots → Mem → Prop) (M : Mem) (v0 : V) (v5 : V) (v7 : V) (v11 : V) (v12 : V) (v13 : V) (v54 : V) (v55 : V) (v56 : V) : Prop :=
  @OptBH (binV .eql .none v11 (.int .i64 0)) ⟨fun b88_2 =>
  @BIfH b88_2
  ⟨@OptVH (indexArrV 2 1 v13 (.int .i64 1)) ⟨fun t91_5 =>
  @OptVH (loadV 1 false t91_5 M) ⟨fun t92_6 =>
  @OptVH (indexSlV 5 v0 t92_6 M) ⟨fun t93_7 =>
  @OptVH (moveV 1 t93_7) ⟨fun t94_8 =>
  @OptVH (loadV 1 false t94_8 M) ⟨fun t95_9 =>
  @OptVH (indexArrV 2 1 v13 (.int .i64 0)) ⟨fun t97_11 =>
  @OptVH (loadV 1 false t97_11 M) ⟨fun t98_12 =>
  @OptVH (indexSlV 5 v0 t98_12 M) ⟨fun t99_13 =>
  @OptVH (moveV 2 t99_13) ⟨fun t100_14 =>
  @OptVH (loadV 1 false t100_14 M) ⟨fun t101_15 =>
  @OptBH (binV .lss .none t95_9 t101_15) ⟨fun b102_16 =>
  @BIfH b102_16
  ⟨wpC P c7_70 Q [(0, v0), (5, v5), (7, v7), (11, v11), (12, v12), (13, v13), (54, v54), (55, v55), (56, v56), (103, (.bool b102_16))] M⟩
  ⟨Q .normal [(0, v0), (5, v5), (7, v7), (11, v11), (12, v12), (13, v13), (54, v54), (55, v55), (56, v56), (103, (.bool b102_16))] M⟩⟩⟩⟩⟩⟩⟩⟩⟩⟩⟩⟩⟩
  ⟨Q .normal [(0, v0), (5, v5), (7, v7), (11, v11), (12, v12), (13, v13), (54, v54), (55, v55), (56, v56), (103, (.bool false))] M⟩⟩
theorem e7_72 (P : Program) (Q : Exit → Slots → Mem → Prop) (s : Slots) (M : Mem) : wpC P c7_72 Q s M = w7_72 P Q M (sget s 0) (sget s 5) (sget s 7) (sget s 11) (sget s 12) (sget s 13) (sget s 54) (sget s 55) (sget s 56) := by kernel_rfl
def o7_73 : List AOper := [⟨some 4, (.mov (.const (.bool false))), true, none⟩]
def c7_74 : ACode := (.region o7_73 [4])
def w7_74 (_P : Program) (Q : Exit → Slots → Mem → Prop) (M : Mem) : Prop :=
  Q .normal [(4, (.bool false))] M
theorem e7_74 (P : Program) (Q : Exit → Slots → Mem → Prop) (s : Slots) (M : Mem) : wpC P c7_74 Q s M = w7_74 P Q M := by kernel_rfl
def c7_75 : ACode := (.seq c7_74 .ret)
def o7_76 : List AOper := [⟨some 104, (.mov (.tmp 12)), false, none⟩,
  ⟨some 105, (.bin .gtr .none (.tmp 104) (.const (.int .i64 0))), true, none⟩,
  ⟨some 106, (.mov (.tmp 105)), true, none⟩,
  ⟨some 107, (.mov (.tmp 5)), false, some (106, true)⟩,
  ⟨some 108, (.mov (.tmp 12)), false, some (106, true)⟩,
  ⟨some 109, (.bin .sub .none (.tmp 108) (.const (.int .i64 1))), false, some (106, true)⟩,
  ⟨some 110, (.indexSl 2 (.tmp 107) (.tmp 109)), false, some (106, true)⟩,
  ⟨some 111, (.indexArr 2 1 (.tmp 110) (.const (.int .i64 0))), false, some (106, true)⟩,
  ⟨some 112, (.load 1 false (.tmp 111)), false, some (106, true)⟩,
  ⟨some 113, (.indexArr 2 1 (.tmp 13) (.const (.int .i64 0))), false, some (106, true)⟩,
  ⟨some 114, (.load 1 false (.tmp 113)), false, some (106, true)⟩,
  ⟨some 115, (.bin .gtr .none (.tmp 112) (.tmp 114)), true, some (106, true)⟩,
  ⟨some 116, (.mov (.tmp 115)), true, some (106, true)⟩,
  ⟨some 117, (.mov (.tmp 5)), false, some (116, false)⟩,
  ⟨some 118, (.mov (.tmp 12)), false, some (116, false)⟩,
  ⟨some 119, (.bin .sub .none (.tmp 118) (.const (.int .i64 1))), false, some (116, false)⟩,
  ⟨some 120, (.indexSl 2 (.tmp 117) (.tmp 119)), false, some (116, false)⟩,
  ⟨some 121, (.indexArr 2 1 (.tmp 120) (.const (.int .i64 0))), false, some (116, false)⟩,
  ⟨some 122, (.load 1 false (.tmp 121)), false, some (116, false)⟩,
  ⟨some 123, (.indexArr 2 1 (.tmp 13) (.const (.int .i64 0))), false, some (116, false)⟩,
  ⟨some 124, (.load 1 false (.tmp 123)), false, some (116, false)⟩,
  ⟨some 125, (.bin .eql .none (.tmp 122) (.tmp 124)), true, some (116, false)⟩,
  ⟨some 126, (.mov (.tmp 125)), true, some (116, false)⟩,
  ⟨some 127, (.mov (.tmp 5)), false, some (126, true)⟩,
  ⟨some 128, (.mov (.tmp 12)), false, some (126, true)⟩,
  ⟨some 129, (.bin .sub .none (.tmp 128) (.const (.int .i64 1))), false, some (126, true)⟩,
  ⟨some 130, (.indexSl 2 (.tmp 127) (.tmp 129)), false, some (126, true)⟩,
  ⟨some 131, (.indexArr 2 1 (.tmp 130) (.const (.int .i64 1))), false, some (126, true)⟩,
  ⟨some 132, (.load 1 false (.tmp 131)), false, some (126, true)⟩,
  ⟨some 133, (.indexArr 2 1 (.tmp 13) (.const (.int .i64 1))), false, some (126, true)⟩,
  ⟨some 134, (.load 1 false (.tmp 133)), false, some (126, true)⟩,
  ⟨some 135, (.bin .geq .none (.tmp 132) (.tmp 134)), true, some (126, true)⟩,
  ⟨some 136, (.pick (.tmp 126) (.tmp 135) (.const (.bool false))), true, some (116, false)⟩,
  ⟨some 137, (.pick (.tmp 116) (.const (.bool true)) (.tmp 136)), true, some (106, true)⟩,
  ⟨some 138, (.pick (.tmp 106) (.tmp 137) (.const (.bool false))), true, none⟩]
def c7_77 : ACode := (.seq (.mixed o7_76 [true, true, true, true, true, true, true, true, true, true, true, true, true, true, true, true, true, true, true, true, true, true, true, true, true, true, true, true, true, true, true, true, true, true, true] [0, 5, 7, 11, 54, 55, 56, 138]) (.cond (.tmp 138) c7_75 .skip))
def w7_77 (P : Program) (Q : Exit → Slots → Mem → Prop) (M : Mem) (v0 : V) (v5 : V) (v7 : V) (v11 : V) (v12 : V) (v13 : V) (v54 : V) (v55 : V) (v56 : V) : Prop :=
  @OptBH (binV .gtr .none v12 (.int .i64 0)) ⟨fun b105_2 =>
  @BIfH b105_2
  ⟨@OptVH (binV .sub .none v12 (.int .i64 1)) ⟨fun t109_6 =>
  @OptVH (indexSlV 2 v5 t109_6 M) ⟨fun t110_7 =>
  @OptVH (indexArrV 2 1 t110_7 (.int .i64 0)) ⟨fun t111_8 =>
  @OptVH (loadV 1 false t111_8 M) ⟨fun t112_9 =>
  @OptVH (indexArrV 2 1 v13 (.int .i64 0)) ⟨fun t113_10 =>
  @OptVH (loadV 1 false t113_10 M) ⟨fun t114_11 =>
  @OptBH (binV .gtr .none t112_9 t114_11) ⟨fun b115_12 =>
  @BIfH b115_12
  ⟨wpC P c7_75 Q [(0, v0), (5, v5), (7, v7), (11, v11), (54, v54), (55, v55), (56, v56), (138, (.bool true))] M⟩
  ⟨@OptVH (binV .sub .none v12 (.int .i64 1)) ⟨fun t119_18 =>
  @OptVH (indexSlV 2 v5 t119_18 M) ⟨fun t120_19 =>
  @OptVH (indexArrV 2 1 t120_19 (.int .i64 0)) ⟨fun t121_20 =>
  @OptVH (loadV 1 false t121_20 M) ⟨fun t122_21 =>
  @OptVH (indexArrV 2 1 v13 (.int .i64 0)) ⟨fun t123_22 =>
  @OptVH (loadV 1 false t123_22 M) ⟨fun t124_23 =>
  @OptBH (binV .eql .none t122_21 t124_23) ⟨fun b125_24 =>
  @BIfH b125_24
  ⟨@OptVH (binV .sub .none v12 (.int .i64 1)) ⟨fun t129_28 =>
  @OptVH (indexSlV 2 v5 t129_28 M) ⟨fun t130_29 =>
  @OptVH (indexArrV 2 1 t130_29 (.int .i64 1)) ⟨fun t131_30 =>
  @OptVH (loadV 1 false t131_30 M) ⟨fun t132_31 =>
  @OptVH (indexArrV 2 1 v13 (.int .i64 1)) ⟨fun t133_32 =>
  @OptVH (loadV 1 false t133_32 M) ⟨fun t134_33 =>
  @OptBH (binV .geq .none t132_31 t134_33) ⟨fun b135_34 =>
  @BIfH b135_34
  ⟨wpC P c7_75 Q [(0, v0), (5, v5), (7, v7), (11, v11), (54, v54), (55, v55), (56, v56), (138, (.bool b135_34))] M⟩
  ⟨Q .normal [(0, v0), (5, v5), (7, v7), (11, v11), (54, v54), (55, v55), (56, v56), (138, (.bool b135_34))] M⟩⟩⟩⟩⟩⟩⟩⟩⟩
  ⟨Q .normal [(0, v0), (5, v5), (7, v7), (11, v11), (54, v54), (55, v55), (56, v56), (138, (.bool false))] M⟩⟩⟩⟩⟩⟩⟩⟩⟩⟩⟩⟩⟩⟩⟩⟩⟩
  ⟨Q .normal [(0, v0), (5, v5), (7, v7), (11, v11), (54, v54), (55, v55), (56, v56), (138, (.bool false))] M⟩⟩
theorem e7_77 (P : Program) (Q : Exit → Slots → Mem → Prop) (s : Slots) (M : Mem) : wpC P c7_77 Q s M = w7_77 P Q M (sget s 0) (sget s 5) (sget s 7) (sget s 11) (sget s 12) (sget s 13) (sget s 54) (sget s 55) (sget s 56) := by kernel_rfl
def c7_78 : ACode := (.seq c7_72 c7_77)
def c7_79 : ACode := (.seq c7_67 c7_78)
def c7_80 : ACode := (.seq c7_62 c7_79)
def c7_81 : ACode := (.block 5 c7_80)
def o7_82 : List AOper := [⟨some 139, (.bin .add .none (.tmp 56) (.const (.int .i64 1))), false, none⟩,
  ⟨some 56, (.mov (.tmp 139)), false, none⟩]
def c7_83 : ACode := (.region o7_82 [0, 5, 7, 11, 54, 55, 56])
def w7_83 (_P : Program) (Q : Exit → Slots → Mem → Prop) (M : Mem) (v0 : V) (v5 : V) (v7 : V) (v11 : V) (v54 : V) (v55 : V) (v56 : V) : Prop :=
  @OptVH (binV .add .none v56 (.int .i64 1)) ⟨fun t139_1 =>
  Q .normal [(0, v0), (5, v5), (7, v7), (11, v11), (54, v54), (55, v55), (56, t139_1)] M⟩
theorem e7_83 (P : Program) (Q : Exit → Slots → Mem → Prop) (s : Slots) (M : Mem) : wpC P c7_83 Q s M = w7_83 P Q M (sget s 0) (sget s 5) (sget s 7) (sget s 11) (sget s 54) (sget s 55) (sget s 56) := by kernel_rfl
def c7_84 : ACode := (.seq c7_81 c7_83)
def c7_85 : ACode := (.seq c7_60 c7_84)
def c7_86 : ACode := (.seq c7_59 c7_85)
def c7_87 : ACode := (.loop [0, 5, 7, 11, 54, 55, 56] c7_86)
def c7_88 : ACode := (.block 4 c7_87)
def c7_89 : ACode := (.seq c7_57 c7_88)
def o7_90 : List AOper := [⟨some 140, (.mov (.tmp 7)), false, none⟩,
  ⟨some 141, (.mov (.tmp 5)), false, none⟩,
  ⟨some 142, (.lenSl (.tmp 141)), false, none⟩,
  ⟨some 143, (.bin .eql .none (.tmp 140) (.tmp 142)), true, none⟩,
  ⟨some 144, (.mov (.tmp 143)), true, none⟩,
  ⟨some 145, (.call i_transitlaw16_exampleHolds []), true, some (144, true)⟩,
  ⟨some 146, (.pick (.tmp 144) (.tmp 145) (.const (.bool false))), true, none⟩,
  ⟨some 4, (.mov (.tmp 146)), true, none⟩]
def c7_91 : ACode := (.region o7_90 [4])
def w7_91 (P : Program) (Q : Exit → Slots → Mem → Prop) (M : Mem) (v5 : V) (v7 : V) : Prop :=
  @OptVH (lenV v5 M) ⟨fun t142_3 =>
  @OptBH (binV .eql .none v7 t142_3) ⟨fun b143_4 =>
  @BIfH b143_4
  ⟨@CallH P i_transitlaw16_exampleHolds [] M ⟨fun t145_6 M6 => @OptBH (some t145_6) ⟨fun b145_6 =>
  Q .normal [(4, (.bool b145_6))] M6⟩⟩⟩
  ⟨Q .normal [(4, (.bool false))] M⟩⟩⟩
theorem e7_91 (P : Program) (Q : Exit → Slots → Mem → Prop) (s : Slots) (M : Mem) : wpC P c7_91 Q s M = w7_91 P Q M (sget s 5) (sget s 7) := by kernel_rfl
def c7_92 : ACode := (.seq c7_91 .ret)
def c7_93 : ACode := (.seq c7_89 c7_92)
def c7_94 : ACode := (.seq c7_55 c7_93)
def c7_95 : ACode := (.seq c7_53 c7_94)
def c7_96 : ACode := (.seq c7_15 c7_95)
def c7_97 : ACode := (.seq c7_13 c7_96)
def c7_98 : ACode := (.seq c7_8 c7_97)
def c7_99 : ACode := (.seq c7_6 c7_98)
def c7_100 : ACode := (.seq c7_1 c7_99)
def fn_transitlaw16_CallCounts : AFn := ⟨147, [(.tmp 4)], c7_100⟩
theorem fn_transitlaw16_CallCounts_ok : resFn PR h_transitlaw16_CallCounts i_transitlaw16_CallCounts = some fn_transitlaw16_CallCounts := by kernel_rfl

def h_transitlaw16_CallShifts : Hints := ⟨[(0, [0, 1]), (1, [0, 1, 7]), (2, [4]), (3, [4])], [], []⟩
def o8_0 : List AOper := [⟨some 4, (.mov (.const (.bool false))), true, none⟩]
def c8_1 : ACode := (.region o8_0 [0, 1])
def w8_1 (_P : Program) (Q : Exit → Slots → Mem → Prop) (M : Mem) (v0 : V) (v1 : V) : Prop :=
  Q .normal [(0, v0), (1, v1)] M
theorem e8_1 (P : Program) (Q : Exit → Slots → Mem → Prop) (s : Slots) (M : Mem) : wpC P c8_1 Q s M = w8_1 P Q M (sget s 0) (sget s 1) := by kernel_rfl
def o8_2 : List AOper := [⟨some 8, (.call i_transitlaw16_exampleHolds []), true, none⟩,
  ⟨some 4, (.mov (.tmp 8)), true, none⟩]
def c8_3 : ACode := (.region o8_2 [4])
def w8_3 (P : Program) (Q : Exit → Slots → Mem → Prop) (M : Mem) : Prop :=
  @CallH P i_transitlaw16_exampleHolds [] M ⟨fun t8_1 M1 => @OptBH (some t8_1) ⟨fun b8_1 =>
  Q .normal [(4, (.bool b8_1))] M1⟩⟩
theorem e8_3 (P : Program) (Q : Exit → Slots → Mem → Prop) (s : Slots) (M : Mem) : wpC P c8_3 Q s M = w8_3 P Q M := by kernel_rfl
def c8_4 : ACode := (.seq c8_3 .ret)
def o8_5 : List AOper := [⟨some 5, (.mov (.tmp 0)), false, none⟩,
  ⟨some 6, (.lenSl (.tmp 5)), false, none⟩,
  ⟨some 7, (.bin .gtr .none (.tmp 6) (.const (.int .i64 100))), true, none⟩]
def c8_6 : ACode := (.seq (.region o8_5 [0, 1, 7]) (.cond (.tmp 7) c8_4 .skip))
def w8_6 (P : Program) (Q : Exit → Slots → Mem → Prop) (M : Mem) (v0 : V) (v1 : V) : Prop :=
  @OptVH (lenV v0 M) ⟨fun t6_2 =>
  @OptBH (binV .gtr .none t6_2 (.int .i64 100)) ⟨fun b7_3 =>
  @BIfH b7_3
  ⟨wpC P c8_4 Q [(0, v0), (1, v1), (7, (.bool b7_3))] M⟩
  ⟨Q .normal [(0, v0), (1, v1), (7, (.bool b7_3))] M⟩⟩⟩
theorem e8_6 (P : Program) (Q : Exit → Slots → Mem → Prop) (s : Slots) (M : Mem) : wpC P c8_6 Q s M = w8_6 P Q M (sget s 0) (sget s 1) := by kernel_rfl
def o8_7 : List AOper := [⟨some 9, (.mov (.tmp 0)), false, none⟩,
  ⟨some 10, (.mov (.tmp 1)), false, none⟩,
  ⟨some 11, (.call i_call_Shift [(.tmp 9), (.tmp 10)]), false, none⟩,
  ⟨some 12, (.mov (.tmp 0)), false, none⟩,
  ⟨some 13, (.mov (.tmp 1)), false, none⟩,
  ⟨some 14, (.call i_transitref16_Shift [(.tmp 12), (.tmp 13)]), false, none⟩,
  ⟨some 15, (.call i_transitref16_Equal [(.tmp 11), (.tmp 14)]), true, none⟩,
  ⟨some 16, (.mov (.tmp 15)), true, none⟩,
  ⟨some 17, (.call i_transitlaw16_exampleHolds []), true, some (16, true)⟩,
  ⟨some 18, (.pick (.tmp 16) (.tmp 17) (.const (.bool false))), true, none⟩,
  ⟨some 4, (.mov (.tmp 18)), true, none⟩]
def c8_8 : ACode := (.region o8_7 [4])
def w8_8 (P : Program) (Q : Exit → Slots → Mem → Prop) (M : Mem) (v0 : V) (v1 : V) : Prop :=
  @CallH P i_call_Shift [v0, v1] M ⟨fun t11_3 M3 =>
  @CallH P i_transitref16_Shift [v0, v1] M3 ⟨fun t14_6 M6 =>
  @CallH P i_transitref16_Equal [t11_3, t14_6] M6 ⟨fun t15_7 M7 => @OptBH (some t15_7) ⟨fun b15_7 =>
  @BIfH b15_7
  ⟨@CallH P i_transitlaw16_exampleHolds [] M7 ⟨fun t17_9 M9 => @OptBH (some t17_9) ⟨fun b17_9 =>
  Q .normal [(4, (.bool b17_9))] M9⟩⟩⟩
  ⟨Q .normal [(4, (.bool false))] M7⟩⟩⟩⟩⟩
theorem e8_8 (P : Program) (Q : Exit → Slots → Mem → Prop) (s : Slots) (M : Mem) : wpC P c8_8 Q s M = w8_8 P Q M (sget s 0) (sget s 1) := by kernel_rfl
def c8_9 : ACode := (.seq c8_8 .ret)
def c8_10 : ACode := (.seq c8_6 c8_9)
def c8_11 : ACode := (.seq c8_1 c8_10)
def fn_transitlaw16_CallShifts : AFn := ⟨19, [(.tmp 4)], c8_11⟩
theorem fn_transitlaw16_CallShifts_ok : resFn PR h_transitlaw16_CallShifts i_transitlaw16_CallShifts = some fn_transitlaw16_CallShifts := by kernel_rfl

def h_transitlaw16_CallMoves : Hints := ⟨[(0, [0, 2, 4]), (1, [0, 2, 4, 33]), (2, [6]), (3, [0, 2, 4, 35, 36, 37]), (4, [0, 2, 4, 35, 36, 37, 38]), (5, [0, 2, 4, 8, 35, 36, 37]), (6, [0, 2, 4, 35, 36, 37, 50]), (7, [6]), (8, [0, 2, 4, 35, 36, 37]), (9, [0, 2, 4, 9]), (10, [0, 2, 4, 9, 10, 11]), (11, [0, 2, 9, 10, 11, 12, 13]), (12, [6])], [(4, [0, 2, 4, 35, 36, 37])], []⟩
def o9_0 : List AOper := [⟨some 4, (.box 3 (.tmp 1)), false, none⟩,
  ⟨some 6, (.mov (.const (.bool false))), true, none⟩]
def c9_1 : ACode := (.region o9_0 [0, 2, 4])
def w9_1 (_P : Program) (Q : Exit → Slots → Mem → Prop) (M : Mem) (v0 : V) (v1 : V) (v2 : V) : Prop :=
  @OptMH (boxV 3 v1 M) ⟨fun t4_1 M1 =>
  Q .normal [(0, v0), (2, v2), (4, t4_1)] M1⟩
theorem e9_1 (P : Program) (Q : Exit → Slots → Mem → Prop) (s : Slots) (M : Mem) : wpC P c9_1 Q s M = w9_1 P Q M (sget s 0) (sget s 1) (sget s 2) := by kernel_rfl
def o9_2 : List AOper := [⟨some 34, (.call i_transitlaw16_exampleHolds []), true, none⟩,
  ⟨some 6, (.mov (.tmp 34)), true, none⟩]
def c9_3 : ACode := (.region o9_2 [6])
def w9_3 (P : Program) (Q : Exit → Slots → Mem → Prop) (M : Mem) : Prop :=
  @CallH P i_transitlaw16_exampleHolds [] M ⟨fun t34_1 M1 => @OptBH (some t34_1) ⟨fun b34_1 =>
  Q .normal [(6, (.bool b34_1))] M1⟩⟩
theorem e9_3 (P : Program) (Q : Exit → Slots → Mem → Prop) (s : Slots) (M : Mem) : wpC P c9_3 Q s M = w9_3 P Q M := by kernel_rfl
def c9_4 : ACode := (.seq c9_3 .ret)
def o9_5 : List AOper := [⟨some 14, (.mov (.tmp 0)), false, none⟩,
  ⟨some 15, (.lenSl (.tmp 14)), false, none⟩,
  ⟨some 16, (.bin .gtr .none (.tmp 15) (.const (.int .i64 100))), true, none⟩,
  ⟨some 17, (.mov (.tmp 16)), true, none⟩,
  ⟨some 18, (.mov (.tmp 2)), false, some (17, false)⟩,
  ⟨some 19, (.call i_transitlaw16_near [(.tmp 18)]), true, some (17, false)⟩,
  ⟨some 20, (.un .not (.tmp 19)), true, some (17, false)⟩,
  ⟨some 21, (.pick (.tmp 17) (.const (.bool true)) (.tmp 20)), true, none⟩,
  ⟨some 22, (.mov (.tmp 21)), true, none⟩,
  ⟨some 23, (.fieldAddr 1 (.tmp 4)), false, some (22, false)⟩,
  ⟨some 24, (.load 1 false (.tmp 23)), false, some (22, false)⟩,
  ⟨some 25, (.call i_transitlaw16_near [(.tmp 24)]), true, some (22, false)⟩,
  ⟨some 26, (.un .not (.tmp 25)), true, some (22, false)⟩,
  ⟨some 27, (.pick (.tmp 22) (.const (.bool true)) (.tmp 26)), true, none⟩,
  ⟨some 28, (.mov (.tmp 27)), true, none⟩,
  ⟨some 29, (.fieldAddr 2 (.tmp 4)), false, some (28, false)⟩,
  ⟨some 30, (.load 1 false (.tmp 29)), false, some (28, false)⟩,
  ⟨some 31, (.call i_transitlaw16_near [(.tmp 30)]), true, some (28, false)⟩,
  ⟨some 32, (.un .not (.tmp 31)), true, some (28, false)⟩,
  ⟨some 33, (.pick (.tmp 28) (.const (.bool true)) (.tmp 32)), true, none⟩]
def c9_6 : ACode := (.seq (.region o9_5 [0, 2, 4, 33]) (.cond (.tmp 33) c9_4 .skip))
def w9_6 (P : Program) (Q : Exit → Slots → Mem → Prop) (M : Mem) (v0 : V) (v2 : V) (v4 : V) : Prop :=
  @OptVH (lenV v0 M) ⟨fun t15_2 =>
  @OptBH (binV .gtr .none t15_2 (.int .i64 100)) ⟨fun b16_3 =>
  @BIfH b16_3
  ⟨wpC P c9_4 Q [(0, v0), (2, v2), (4, v4), (33, (.bool true))] M⟩
  ⟨@CallH P i_transitlaw16_near [v2] M ⟨fun t19_11 M11 => @OptBH (some t19_11) ⟨fun b19_11 =>
  @OptBH (unV .not (.bool b19_11)) ⟨fun b20_12 =>
  @BIfH b20_12
  ⟨wpC P c9_4 Q [(0, v0), (2, v2), (4, v4), (33, (.bool true))] M11⟩
  ⟨@OptVH (moveV 1 v4) ⟨fun t23_18 =>
  @OptVH (loadV 1 false t23_18 M11) ⟨fun t24_19 =>
  @CallH P i_transitlaw16_near [t24_19] M11 ⟨fun t25_20 M20 => @OptBH (some t25_20) ⟨fun b25_20 =>
  @OptBH (unV .not (.bool b25_20)) ⟨fun b26_21 =>
  @BIfH b26_21
  ⟨wpC P c9_4 Q [(0, v0), (2, v2), (4, v4), (33, (.bool true))] M20⟩
  ⟨@OptVH (moveV 2 v4) ⟨fun t29_25 =>
  @OptVH (loadV 1 false t29_25 M20) ⟨fun t30_26 =>
  @CallH P i_transitlaw16_near [t30_26] M20 ⟨fun t31_27 M27 => @OptBH (some t31_27) ⟨fun b31_27 =>
  @OptBH (unV .not (.bool b31_27)) ⟨fun b32_28 =>
  @BIfH b32_28
  ⟨wpC P c9_4 Q [(0, v0), (2, v2), (4, v4), (33, (.bool b32_28))] M27⟩
  ⟨Q .normal [(0, v0), (2, v2), (4, v4), (33, (.bool b32_28))] M27⟩⟩⟩⟩⟩⟩⟩⟩⟩⟩⟩⟩⟩⟩⟩⟩⟩⟩⟩
theorem e9_6 (P : Program) (Q : Exit → Slots → Mem → Prop) (s : Slots) (M : Mem) : wpC P c9_6 Q s M = w9_6 P Q M (sget s 0) (sget s 2) (sget s 4) := by kernel_rfl
def o9_7 : List AOper := [⟨some 35, (.mov (.tmp 0)), false, none⟩,
  ⟨some 36, (.lenSl (.tmp 35)), false, none⟩,
  ⟨some 37, (.mov (.const (.int .i64 0))), false, none⟩]
def c9_8 : ACode := (.region o9_7 [0, 2, 4, 35, 36, 37])
def w9_8 (_P : Program) (Q : Exit → Slots → Mem → Prop) (M : Mem) (v0 : V) (v2 : V) (v4 : V) : Prop :=
  @OptVH (lenV v0 M) ⟨fun t36_2 =>
  Q .normal [(0, v0), (2, v2), (4, v4), (35, v0), (36, t36_2), (37, (.int .i64 0))] M⟩
theorem e9_8 (P : Program) (Q : Exit → Slots → Mem → Prop) (s : Slots) (M : Mem) : wpC P c9_8 Q s M = w9_8 P Q M (sget s 0) (sget s 2) (sget s 4) := by kernel_rfl
def o9_9 : List AOper := [⟨some 38, (.bin .lss .none (.tmp 37) (.tmp 36)), false, none⟩]
def c9_10 : ACode := (.region o9_9 [0, 2, 4, 35, 36, 37, 38])
def w9_10 (_P : Program) (Q : Exit → Slots → Mem → Prop) (M : Mem) (v0 : V) (v2 : V) (v4 : V) (v35 : V) (v36 : V) (v37 : V) : Prop :=
  @OptVH (binV .lss .none v37 v36) ⟨fun t38_1 =>
  Q .normal [(0, v0), (2, v2), (4, v4), (35, v35), (36, v36), (37, v37), (38, t38_1)] M⟩
theorem e9_10 (P : Program) (Q : Exit → Slots → Mem → Prop) (s : Slots) (M : Mem) : wpC P c9_10 Q s M = w9_10 P Q M (sget s 0) (sget s 2) (sget s 4) (sget s 35) (sget s 36) (sget s 37) := by kernel_rfl
def c9_11 : ACode := (.cond (.tmp 38) .skip (.exit 0))
def o9_12 : List AOper := [⟨some 39, (.indexSl 5 (.tmp 35) (.tmp 37)), false, none⟩,
  ⟨some 40, (.load 5 true (.tmp 39)), false, none⟩,
  ⟨some 8, (.alloc [(.int .i64 0), (.int .i64 0), (.int .i64 0), (.bool false), (.bool false)]), false, none⟩,
  ⟨none, (.store 5 (.tmp 8) (.tmp 40)), false, none⟩]
def c9_13 : ACode := (.region o9_12 [0, 2, 4, 8, 35, 36, 37])
def w9_13 (_P : Program) (Q : Exit → Slots → Mem → Prop) (M : Mem) (v0 : V) (v2 : V) (v4 : V) (v35 : V) (v36 : V) (v37 : V) : Prop :=
  @OptVH (indexSlV 5 v35 v37 M) ⟨fun t39_1 =>
  @OptVH (loadV 5 true t39_1 M) ⟨fun t40_2 =>
  @OptMH (allocV [(.int .i64 0), (.int .i64 0), (.int .i64 0), (.bool false), (.bool false)] M) ⟨fun t8_3 M3 =>
  @OptMH (storeVM 5 t8_3 t40_2 M3) ⟨fun _tx_4 M4 =>
  Q .normal [(0, v0), (2, v2), (4, v4), (8, t8_3), (35, v35), (36, v36), (37, v37)] M4⟩⟩⟩⟩
theorem e9_13 (P : Program) (Q : Exit → Slots → Mem → Prop) (s : Slots) (M : Mem) : wpC P c9_13 Q s M = w9_13 P Q M (sget s 0) (sget s 2) (sget s 4) (sget s 35) (sget s 36) (sget s 37) := by kernel_rfl
def o9_14 : List AOper := [⟨some 51, (.call i_transitlaw16_exampleHolds []), true, none⟩,
  ⟨some 6, (.mov (.tmp 51)), true, none⟩]
def c9_15 : ACode := (.region o9_14 [6])
def w9_15 (P : Program) (Q : Exit → Slots → Mem → Prop) (M : Mem) : Prop :=
  @CallH P i_transitlaw16_exampleHolds [] M ⟨fun t51_1 M1 => @OptBH (some t51_1) ⟨fun b51_1 =>
  Q .normal [(6, (.bool b51_1))] M1⟩⟩
theorem e9_15 (P : Program) (Q : Exit → Slots → Mem → Prop) (s : Slots) (M : Mem) : wpC P c9_15 Q s M = w9_15 P Q M := by kernel_rfl
def c9_16 : ACode := (.seq c9_15 .ret)
def o9_17 : List AOper := [⟨some 41, (.fieldAddr 1 (.tmp 8)), false, none⟩,
  ⟨some 42, (.load 1 false (.tmp 41)), false, none⟩,
  ⟨some 43, (.call i_transitlaw16_near [(.tmp 42)]), true, none⟩,
  ⟨some 44, (.un .not (.tmp 43)), true, none⟩,
  ⟨some 45, (.mov (.tmp 44)), true, none⟩,
  ⟨some 46, (.fieldAddr 2 (.tmp 8)), false, some (45, false)⟩,
  ⟨some 47, (.load 1 false (.tmp 46)), false, some (45, false)⟩,
  ⟨some 48, (.call i_transitlaw16_near [(.tmp 47)]), true, some (45, false)⟩,
  ⟨some 49, (.un .not (.tmp 48)), true, some (45, false)⟩,
  ⟨some 50, (.pick (.tmp 45) (.const (.bool true)) (.tmp 49)), true, none⟩]
def c9_18 : ACode := (.seq (.region o9_17 [0, 2, 4, 35, 36, 37, 50]) (.cond (.tmp 50) c9_16 .skip))
def w9_18 (P : Program) (Q : Exit → Slots → Mem → Prop) (M : Mem) (v0 : V) (v2 : V) (v4 : V) (v8 : V) (v35 : V) (v36 : V) (v37 : V) : Prop :=
  @OptVH (moveV 1 v8) ⟨fun t41_1 =>
  @OptVH (loadV 1 false t41_1 M) ⟨fun t42_2 =>
  @CallH P i_transitlaw16_near [t42_2] M ⟨fun t43_3 M3 => @OptBH (some t43_3) ⟨fun b43_3 =>
  @OptBH (unV .not (.bool b43_3)) ⟨fun b44_4 =>
  @BIfH b44_4
  ⟨wpC P c9_16 Q [(0, v0), (2, v2), (4, v4), (35, v35), (36, v36), (37, v37), (50, (.bool true))] M3⟩
  ⟨@OptVH (moveV 2 v8) ⟨fun t46_7 =>
  @OptVH (loadV 1 false t46_7 M3) ⟨fun t47_8 =>
  @CallH P i_transitlaw16_near [t47_8] M3 ⟨fun t48_9 M9 => @OptBH (some t48_9) ⟨fun b48_9 =>
  @OptBH (unV .not (.bool b48_9)) ⟨fun b49_10 =>
  @BIfH b49_10
  ⟨wpC P c9_16 Q [(0, v0), (2, v2), (4, v4), (35, v35), (36, v36), (37, v37), (50, (.bool b49_10))] M9⟩
  ⟨Q .normal [(0, v0), (2, v2), (4, v4), (35, v35), (36, v36), (37, v37), (50, (.bool b49_10))] M9⟩⟩⟩⟩⟩⟩⟩⟩⟩⟩⟩⟩
theorem e9_18 (P : Program) (Q : Exit → Slots → Mem → Prop) (s : Slots) (M : Mem) : wpC P c9_18 Q s M = w9_18 P Q M (sget s 0) (sget s 2) (sget s 4) (sget s 8) (sget s 35) (sget s 36) (sget s 37) := by kernel_rfl
def c9_19 : ACode := (.seq c9_13 c9_18)
def c9_20 : ACode := (.block 1 c9_19)
def o9_21 : List AOper := [⟨some 52, (.bin .add .none (.tmp 37) (.const (.int .i64 1))), false, none⟩,
  ⟨some 37, (.mov (.tmp 52)), false, none⟩]
def c9_22 : ACode := (.region o9_21 [0, 2, 4, 35, 36, 37])
def w9_22 (_P : Program) (Q : Exit → Slots → Mem → Prop) (M : Mem) (v0 : V) (v2 : V) (v4 : V) (v35 : V) (v36 : V) (v37 : V) : Prop :=
  @OptVH (binV .add .none v37 (.int .i64 1)) ⟨fun t52_1 =>
  Q .normal [(0, v0), (2, v2), (4, v4), (35, v35), (36, v36), (37, t52_1)] M⟩
theorem e9_22 (P : Program) (Q : Exit → Slots → Mem → Prop) (s : Slots) (M : Mem) : wpC P c9_22 Q s M = w9_22 P Q M (sget s 0) (sget s 2) (sget s 4) (sget s 35) (sget s 36) (sget s 37) := by kernel_rfl
def c9_23 : ACode := (.seq c9_20 c9_22)
def c9_24 : ACode := (.seq c9_11 c9_23)
def c9_25 : ACode := (.seq c9_10 c9_24)
def c9_26 : ACode := (.loop [0, 2, 4, 35, 36, 37] c9_25)
def c9_27 : ACode := (.block 0 c9_26)
def c9_28 : ACode := (.seq c9_8 c9_27)
def o9_29 : List AOper := [⟨some 53, (.mov (.tmp 0)), false, none⟩,
  ⟨some 54, (.mov (.tmp 2)), false, none⟩,
  ⟨some 55, (.call i_call_Shift [(.tmp 53), (.tmp 54)]), false, none⟩,
  ⟨some 9, (.mov (.tmp 55)), false, none⟩]
def c9_30 : ACode := (.region o9_29 [0, 2, 4, 9])
def w9_30 (P : Program) (Q : Exit → Slots → Mem → Prop) (M : Mem) (v0 : V) (v2 : V) (v4 : V) : Prop :=
  @CallH P i_call_Shift [v0, v2] M ⟨fun t55_3 M3 =>
  Q .normal [(0, v0), (2, v2), (4, v4), (9, t55_3)] M3⟩
theorem e9_30 (P : Program) (Q : Exit → Slots → Mem → Prop) (s : Slots) (M : Mem) : wpC P c9_30 Q s M = w9_30 P Q M (sget s 0) (sget s 2) (sget s 4) := by kernel_rfl
def o9_31 : List AOper := [⟨some 57, (.mov (.tmp 0)), false, none⟩,
  ⟨some 58, (.fieldAddr 0 (.tmp 4)), false, none⟩,
  ⟨some 59, (.load 1 false (.tmp 58)), false, none⟩,
  ⟨some 60, (.fieldAddr 1 (.tmp 4)), false, none⟩,
  ⟨some 61, (.load 1 false (.tmp 60)), false, none⟩,
  ⟨some 62, (.fieldAddr 2 (.tmp 4)), false, none⟩,
  ⟨some 63, (.load 1 false (.tmp 62)), false, none⟩,
  ⟨some 64, (.call i_call_Check [(.tmp 57), (.tmp 59), (.tmp 61), (.tmp 63)]), false, none⟩,
  ⟨some 56, (.mov (.tmp 64)), false, none⟩,
  ⟨some 65, (.extract (.tmp 56) 0), false, none⟩,
  ⟨some 66, (.extract (.tmp 56) 1), false, none⟩,
  ⟨some 10, (.mov (.tmp 65)), false, none⟩,
  ⟨some 11, (.mov (.tmp 66)), false, none⟩]
def c9_32 : ACode := (.region o9_31 [0, 2, 4, 9, 10, 11])
def w9_32 (P : Program) (Q : Exit → Slots → Mem → Prop) (M : Mem) (v0 : V) (v2 : V) (v4 : V) (v9 : V) : Prop :=
  @OptVH (moveV 0 v4) ⟨fun t58_2 =>
  @OptVH (loadV 1 false t58_2 M) ⟨fun t59_3 =>
  @OptVH (moveV 1 v4) ⟨fun t60_4 =>
  @OptVH (loadV 1 false t60_4 M) ⟨fun t61_5 =>
  @OptVH (moveV 2 v4) ⟨fun t62_6 =>
  @OptVH (loadV 1 false t62_6 M) ⟨fun t63_7 =>
  @CallH P i_call_Check [v0, t59_3, t61_5, t63_7] M ⟨fun t64_8 M8 =>
  @OptVH (extractV t64_8 0) ⟨fun t65_10 =>
  @OptVH (extractV t64_8 1) ⟨fun t66_11 =>
  Q .normal [(0, v0), (2, v2), (4, v4), (9, v9), (10, t65_10), (11, t66_11)] M8⟩⟩⟩⟩⟩⟩⟩⟩⟩
theorem e9_32 (P : Program) (Q : Exit → Slots → Mem → Prop) (s : Slots) (M : Mem) : wpC P c9_32 Q s M = w9_32 P Q M (sget s 0) (sget s 2) (sget s 4) (sget s 9) := by kernel_rfl
def o9_33 : List AOper := [⟨some 68, (.mov (.tmp 9)), false, none⟩,
  ⟨some 69, (.fieldAddr 0 (.tmp 4)), false, none⟩,
  ⟨some 70, (.load 1 false (.tmp 69)), false, none⟩,
  ⟨some 71, (.fieldAddr 1 (.tmp 4)), false, none⟩,
  ⟨some 72, (.load 1 false (.tmp 71)), false, none⟩,
  ⟨some 73, (.mov (.tmp 2)), false, none⟩,
  ⟨some 74, (.bin .add .none (.tmp 72) (.tmp 73)), false, none⟩,
  ⟨some 75, (.fieldAddr 2 (.tmp 4)), false, none⟩,
  ⟨some 76, (.load 1 false (.tmp 75)), false, none⟩,
  ⟨some 77, (.mov (.tmp 2)), false, none⟩,
  ⟨some 78, (.bin .add .none (.tmp 76) (.tmp 77)), false, none⟩,
  ⟨some 79, (.call i_call_Check [(.tmp 68), (.tmp 70), (.tmp 74), (.tmp 78)]), false, none⟩,
  ⟨some 67, (.mov (.tmp 79)), false, none⟩,
  ⟨some 80, (.extract (.tmp 67) 0), false, none⟩,
  ⟨some 81, (.extract (.tmp 67) 1), false, none⟩,
  ⟨some 12, (.mov (.tmp 80)), false, none⟩,
  ⟨some 13, (.mov (.tmp 81)), false, none⟩]
def c9_34 : ACode := (.region o9_33 [0, 2, 9, 10, 11, 12, 13])
def w9_34 (P : Program) (Q : Exit → Slots → Mem → Prop) (M : Mem) (v0 : V) (v2 : V) (v4 : V) (v9 : V) (v10 : V) (v11 : V) : Prop :=
  @OptVH (moveV 0 v4) ⟨fun t69_2 =>
  @OptVH (loadV 1 false t69_2 M) ⟨fun t70_3 =>
  @OptVH (moveV 1 v4) ⟨fun t71_4 =>
  @OptVH (loadV 1 false t71_4 M) ⟨fun t72_5 =>
  @OptVH (binV .add .none t72_5 v2) ⟨fun t74_7 =>
  @OptVH (moveV 2 v4) ⟨fun t75_8 =>
  @OptVH (loadV 1 false t75_8 M) ⟨fun t76_9 =>
  @OptVH (binV .add .none t76_9 v2) ⟨fun t78_11 =>
  @CallH P i_call_Check [v9, t70_3, t74_7, t78_11] M ⟨fun t79_12 M12 =>
  @OptVH (extractV t79_12 0) ⟨fun t80_14 =>
  @OptVH (extractV t79_12 1) ⟨fun t81_15 =>
  Q .normal [(0, v0), (2, v2), (9, v9), (10, v10), (11, v11), (12, t80_14), (13, t81_15)] M12⟩⟩⟩⟩⟩⟩⟩⟩⟩⟩⟩
theorem e9_34 (P : Program) (Q : Exit → Slots → Mem → Prop) (s : Slots) (M : Mem) : wpC P c9_34 Q s M = w9_34 P Q M (sget s 0) (sget s 2) (sget s 4) (sget s 9) (sget s 10) (sget s 11) := by kernel_rfl
def o9_35 : List AOper := [⟨some 82, (.mov (.tmp 10)), false, none⟩,
  ⟨some 83, (.mov (.tmp 12)), false, none⟩,
  ⟨some 84, (.bin .eql .none (.tmp 82) (.tmp 83)), true, none⟩,
  ⟨some 85, (.mov (.tmp 84)), true, none⟩,
  ⟨some 86, (.mov (.tmp 11)), false, some (85, true)⟩,
  ⟨some 87, (.mov (.tmp 13)), false, some (85, true)⟩,
  ⟨some 88, (.bin .eql .none (.tmp 86) (.tmp 87)), true, some (85, true)⟩,
  ⟨some 89, (.pick (.tmp 85) (.tmp 88) (.const (.bool false))), true, none⟩,
  ⟨some 90, (.mov (.tmp 89)), true, none⟩,
  ⟨some 91, (.mov (.tmp 9)), false, some (90, true)⟩,
  ⟨some 92, (.mov (.tmp 2)), false, some (90, true)⟩,
  ⟨some 93, (.un .neg (.tmp 92)), false, some (90, true)⟩,
  ⟨some 94, (.call i_call_Shift [(.tmp 91), (.tmp 93)]), false, some (90, true)⟩,
  ⟨some 95, (.mov (.tmp 0)), false, some (90, true)⟩,
  ⟨some 96, (.call i_transitref16_Equal [(.tmp 94), (.tmp 95)]), true, some (90, true)⟩,
  ⟨some 97, (.pick (.tmp 90) (.tmp 96) (.const (.bool false))), true, none⟩,
  ⟨some 98, (.mov (.tmp 97)), true, none⟩,
  ⟨some 99, (.call i_transitlaw16_exampleHolds []), true, some (98, true)⟩,
  ⟨some 100, (.pick (.tmp 98) (.tmp 99) (.const (.bool false))), true, none⟩,
  ⟨some 6, (.mov (.tmp 100)), true, none⟩]
def c9_36 : ACode := (.region o9_35 [6])
def w9_36 (P : Program) (Q : Exit → Slots → Mem → Prop) (M : Mem) (v0 : V) (v2 : V) (v9 : V) (v10 : V) (v11 : V) (v12 : V) (v13 : V) : Prop :=
  @OptBH (binV .eql .none v10 v12) ⟨fun b84_3 =>
  @BIfH b84_3
  ⟨@OptBH (binV .eql .none v11 v13) ⟨fun b88_7 =>
  @BIfH b88_7
  ⟨@OptVH (unV .neg v2) ⟨fun t93_12 =>
  @CallH P i_call_Shift [v9, t93_12] M ⟨fun t94_13 M13 =>
  @CallH P i_transitref16_Equal [t94_13, v0] M13 ⟨fun t96_15 M15 => @OptBH (some t96_15) ⟨fun b96_15 =>
  @BIfH b96_15
  ⟨@CallH P i_transitlaw16_exampleHolds [] M15 ⟨fun t99_18 M18 => @OptBH (some t99_18) ⟨fun b99_18 =>
  Q .normal [(6, (.bool b99_18))] M18⟩⟩⟩
  ⟨Q .normal [(6, (.bool false))] M15⟩⟩⟩⟩⟩⟩
  ⟨Q .normal [(6, (.bool false))] M⟩⟩⟩
  ⟨Q .normal [(6, (.bool false))] M⟩⟩
theorem e9_36 (P : Program) (Q : Exit → Slots → Mem → Prop) (s : Slots) (M : Mem) : wpC P c9_36 Q s M = w9_36 P Q M (sget s 0) (sget s 2) (sget s 9) (sget s 10) (sget s 11) (sget s 12) (sget s 13) := by kernel_rfl
def c9_37 : ACode := (.seq c9_36 .ret)
def c9_38 : ACode := (.seq c9_34 c9_37)
def c9_39 : ACode := (.seq c9_32 c9_38)
def c9_40 : ACode := (.seq c9_30 c9_39)
def c9_41 : ACode := (.seq c9_28 c9_40)
def c9_42 : ACode := (.seq c9_6 c9_41)
def c9_43 : ACode := (.seq c9_1 c9_42)
def fn_transitlaw16_CallMoves : AFn := ⟨101, [(.tmp 6)], c9_43⟩
theorem fn_transitlaw16_CallMoves_ok : resFn PR h_transitlaw16_CallMoves i_transitlaw16_CallMoves = some fn_transitlaw16_CallMoves := by kernel_rfl

def h_transitlaw16_CallEquals : Hints := ⟨[(0, [0, 1]), (1, [0, 1, 12]), (2, [4]), (3, [4])], [], []⟩
def o10_0 : List AOper := [⟨some 4, (.mov (.const (.bool false))), true, none⟩]
def c10_1 : ACode := (.region o10_0 [0, 1])
def w10_1 (_P : Program) (Q : Exit → Slots → Mem → Prop) (M : Mem) (v0 : V) (v1 : V) : Prop :=
  Q .normal [(0, v0), (1, v1)] M
theorem e10_1 (P : Program) (Q : Exit → Slots → Mem → Prop) (s : Slots) (M : Mem) : wpC P c10_1 Q s M = w10_1 P Q M (sget s 0) (sget s 1) := by kernel_rfl
def o10_2 : List AOper := [⟨some 13, (.call i_transitlaw16_exampleHolds []), true, none⟩,
  ⟨some 4, (.mov (.tmp 13)), true, none⟩]
def c10_3 : ACode := (.region o10_2 [4])
def w10_3 (P : Program) (Q : Exit → Slots → Mem → Prop) (M : Mem) : Prop :=
  @CallH P i_transitlaw16_exampleHolds [] M ⟨fun t13_1 M1 => @OptBH (some t13_1) ⟨fun b13_1 =>
  Q .normal [(4, (.bool b13_1))] M1⟩⟩
theorem e10_3 (P : Program) (Q : Exit → Slots → Mem → Prop) (s : Slots) (M : Mem) : wpC P c10_3 Q s M = w10_3 P Q M := by kernel_rfl
def c10_4 : ACode := (.seq c10_3 .ret)
def o10_5 : List AOper := [⟨some 5, (.mov (.tmp 0)), false, none⟩,
  ⟨some 6, (.lenSl (.tmp 5)), false, none⟩,
  ⟨some 7, (.bin .gtr .none (.tmp 6) (.const (.int .i64 100))), true, none⟩,
  ⟨some 8, (.mov (.tmp 7)), true, none⟩,
  ⟨some 9, (.mov (.tmp 1)), false, some (8, false)⟩,
  ⟨some 10, (.lenSl (.tmp 9)), false, some (8, false)⟩,
  ⟨some 11, (.bin .gtr .none (.tmp 10) (.const (.int .i64 100))), true, some (8, false)⟩,
  ⟨some 12, (.pick (.tmp 8) (.const (.bool true)) (.tmp 11)), true, none⟩]
def c10_6 : ACode := (.seq (.region o10_5 [0, 1, 12]) (.cond (.tmp 12) c10_4 .skip))
def w10_6 (P : Program) (Q : Exit → Slots → Mem → Prop) (M : Mem) (v0 : V) (v1 : V) : Prop :=
  @OptVH (lenV v0 M) ⟨fun t6_2 =>
  @OptBH (binV .gtr .none t6_2 (.int .i64 100)) ⟨fun b7_3 =>
  @BIfH b7_3
  ⟨wpC P c10_4 Q [(0, v0), (1, v1), (12, (.bool true))] M⟩
  ⟨@OptVH (lenV v1 M) ⟨fun t10_7 =>
  @OptBH (binV .gtr .none t10_7 (.int .i64 100)) ⟨fun b11_8 =>
  @BIfH b11_8
  ⟨wpC P c10_4 Q [(0, v0), (1, v1), (12, (.bool b11_8))] M⟩
  ⟨Q .normal [(0, v0), (1, v1), (12, (.bool b11_8))] M⟩⟩⟩⟩⟩⟩
theorem e10_6 (P : Program) (Q : Exit → Slots → Mem → Prop) (s : Slots) (M : Mem) : wpC P c10_6 Q s M = w10_6 P Q M (sget s 0) (sget s 1) := by kernel_rfl
def o10_7 : List AOper := [⟨some 14, (.mov (.tmp 0)), false, none⟩,
  ⟨some 15, (.mov (.tmp 1)), false, none⟩,
  ⟨some 16, (.call i_call_Equal [(.tmp 14), (.tmp 15)]), true, none⟩,
  ⟨some 17, (.mov (.tmp 0)), false, none⟩,
  ⟨some 18, (.mov (.tmp 1)), false, none⟩,
  ⟨some 19, (.call i_transitref16_Equal [(.tmp 17), (.tmp 18)]), true, none⟩,
  ⟨some 20, (.bin .eql .bool (.tmp 16) (.tmp 19)), true, none⟩,
  ⟨some 21, (.mov (.tmp 20)), true, none⟩,
  ⟨some 22, (.mov (.tmp 0)), false, some (21, true)⟩,
  ⟨some 23, (.mov (.tmp 0)), false, some (21, true)⟩,
  ⟨some 24, (.call i_call_Equal [(.tmp 22), (.tmp 23)]), true, some (21, true)⟩,
  ⟨some 25, (.pick (.tmp 21) (.tmp 24) (.const (.bool false))), true, none⟩,
  ⟨some 26, (.mov (.tmp 25)), true, none⟩,
  ⟨some 27, (.call i_transitlaw16_exampleHolds []), true, some (26, true)⟩,
  ⟨some 28, (.pick (.tmp 26) (.tmp 27) (.const (.bool false))), true, none⟩,
  ⟨some 4, (.mov (.tmp 28)), true, none⟩]
def c10_8 : ACode := (.region o10_7 [4])
def w10_8 (P : Program) (Q : Exit → Slots → Mem → Prop) (M : Mem) (v0 : V) (v1 : V) : Prop :=
  @CallH P i_call_Equal [v0, v1] M ⟨fun t16_3 M3 => @OptBH (some t16_3) ⟨fun b16_3 =>
  @CallH P i_transitref16_Equal [v0, v1] M3 ⟨fun t19_6 M6 => @OptBH (some t19_6) ⟨fun b19_6 =>
  @OptBH (binV .eql .bool (.bool b16_3) (.bool b19_6)) ⟨fun b20_7 =>
  @BIfH b20_7
  ⟨@CallH P i_call_Equal [v0, v0] M6 ⟨fun t24_11 M11 => @OptBH (some t24_11) ⟨fun b24_11 =>
  @BIfH b24_11
  ⟨@CallH P i_transitlaw16_exampleHolds [] M11 ⟨fun t27_14 M14 => @OptBH (some t27_14) ⟨fun b27_14 =>
  Q .normal [(4, (.bool b27_14))] M14⟩⟩⟩
  ⟨Q .normal [(4, (.bool false))] M11⟩⟩⟩⟩
  ⟨Q .normal [(4, (.bool false))] M6⟩⟩⟩⟩⟩⟩
theorem e10_8 (P : Program) (Q : Exit → Slots → Mem → Prop) (s : Slots) (M : Mem) : wpC P c10_8 Q s M = w10_8 P Q M (sget s 0) (sget s 1) := by kernel_rfl
def c10_9 : ACode := (.seq c10_8 .ret)
def c10_10 : ACode := (.seq c10_6 c10_9)
def c10_11 : ACode := (.seq c10_1 c10_10)
def fn_transitlaw16_CallEquals : AFn := ⟨29, [(.tmp 4)], c10_11⟩
theorem fn_transitlaw16_CallEquals_ok : resFn PR h_transitlaw16_CallEquals i_transitlaw16_CallEquals = some fn_transitlaw16_CallEquals := by kernel_rfl

def h_transitlaw16_exampleHolds : Hints := ⟨[(0, []), (1, [1]), (2, [1, 2, 3]), (3, [1, 2, 3, 4, 5]), (4, [1, 2, 3, 4, 5, 6, 7]), (5, [1, 2, 3, 4, 5, 6, 7, 8, 9]), (6, [0])], [], []⟩
def o11_0 : List AOper := [⟨some 0, (.mov (.const (.bool false))), true, none⟩]
def c11_1 : ACode := (.region o11_0 [])
def w11_1 (_P : Program) (Q : Exit → Slots → Mem → Prop) (M : Mem) : Prop :=
  Q .normal [] M
theorem e11_1 (P : Program) (Q : Exit → Slots → Mem → Prop) (s : Slots) (M : Mem) : wpC P c11_1 Q s M = w11_1 P Q M := by kernel_rfl
def o11_2 : List AOper := [⟨some 10, (.build [(.int .i64 0), (.int .i64 0), (.int .i64 0), (.bool false), (.bool false)] [(0, (1, (.const (.int .i64 0)))), (1, (1, (.const (.int .i64 100)))), (2, (1, (.const (.int .i64 110)))), (3, (1, (.const (.bool true))))]), false, none⟩,
  ⟨some 11, (.build [(.int .i64 0), (.int .i64 0), (.int .i64 0), (.bool false), (.bool false)] [(0, (1, (.const (.int .i64 1)))), (1, (1, (.const (.int .i64 200)))), (2, (1, (.const (.int .i64 200)))), (3, (1, (.const (.bool true)))), (4, (1, (.const (.bool true))))]), false, none⟩,
  ⟨some 12, (.build [(.int .i64 0), (.int .i64 0), (.int .i64 0), (.bool false), (.bool false)] [(0, (1, (.const (.int .i64 0)))), (1, (1, (.const (.int .i64 300)))), (2, (1, (.const (.int .i64 300)))), (4, (1, (.const (.bool true))))]), false, none⟩,
  ⟨some 13, (.buildSlice [(.int .i64 0), (.int .i64 0), (.int .i64 0), (.bool false), (.bool false), (.int .i64 0), (.int .i64 0), (.int .i64 0), (.bool false), (.bool false), (.int .i64 0), (.int .i64 0), (.int .i64 0), (.bool false), (.bool false)] 5 3 [(0, (5, (.tmp 10))), (5, (5, (.tmp 11))), (10, (5, (.tmp 12)))]), false, none⟩,
  ⟨some 1, (.mov (.tmp 13)), false, none⟩]
def c11_3 : ACode := (.region o11_2 [1])
def w11_3 (_P : Program) (Q : Exit → Slots → Mem → Prop) (M : Mem) : Prop :=
  @OptVH (buildV [(.int .i64 0), (.int .i64 0), (.int .i64 0), (.bool false), (.bool false)] [(0, 1, (.int .i64 0)), (1, 1, (.int .i64 100)), (2, 1, (.int .i64 110)), (3, 1, (.bool true))]) ⟨fun t10_1 =>
  @OptVH (buildV [(.int .i64 0), (.int .i64 0), (.int .i64 0), (.bool false), (.bool false)] [(0, 1, (.int .i64 1)), (1, 1, (.int .i64 200)), (2, 1, (.int .i64 200)), (3, 1, (.bool true)), (4, 1, (.bool true))]) ⟨fun t11_2 =>
  @OptVH (buildV [(.int .i64 0), (.int .i64 0), (.int .i64 0), (.bool false), (.bool false)] [(0, 1, (.int .i64 0)), (1, 1, (.int .i64 300)), (2, 1, (.int .i64 300)), (4, 1, (.bool true))]) ⟨fun t12_3 =>
  @OptVH (buildSliceV [(.int .i64 0), (.int .i64 0), (.int .i64 0), (.bool false), (.bool false), (.int .i64 0), (.int .i64 0), (.int .i64 0), (.bool false), (.bool false), (.int .i64 0), (.int .i64 0), (.int .i64 0), (.bool false), (.bool false)] 5 3 [(0, 5, t10_1), (5, 5, t11_2), (10, 5, t12_3)]) ⟨fun t13_4 =>
  Q .normal [(1, t13_4)] M⟩⟩⟩⟩
theorem e11_3 (P : Program) (Q : Exit → Slots → Mem → Prop) (s : Slots) (M : Mem) : wpC P c11_3 Q s M = w11_3 P Q M := by kernel_rfl
def o11_4 : List AOper := [⟨some 15, (.mov (.tmp 1)), false, none⟩,
  ⟨some 16, (.call i_call_Check [(.tmp 15), (.const (.int .i64 2)), (.const (.int .i64 100)), (.const (.int .i64 300))]), false, none⟩,
  ⟨some 14, (.mov (.tmp 16)), false, none⟩,
  ⟨some 17, (.extract (.tmp 14) 0), false, none⟩,
  ⟨some 18, (.extract (.tmp 14) 1), false, none⟩,
  ⟨some 2, (.mov (.tmp 17)), false, none⟩,
  ⟨some 3, (.mov (.tmp 18)), false, none⟩]
def c11_5 : ACode := (.region o11_4 [1, 2, 3])
def w11_5 (P : Program) (Q : Exit → Slots → Mem → Prop) (M : Mem) (v1 : V) : Prop :=
  @CallH P i_call_Check [v1, (.int .i64 2), (.int .i64 100), (.int .i64 300)] M ⟨fun t16_2 M2 =>
  @OptVH (extractV t16_2 0) ⟨fun t17_4 =>
  @OptVH (extractV t16_2 1) ⟨fun t18_5 =>
  Q .normal [(1, v1), (2, t17_4), (3, t18_5)] M2⟩⟩⟩
theorem e11_5 (P : Program) (Q : Exit → Slots → Mem → Prop) (s : Slots) (M : Mem) : wpC P c11_5 Q s M = w11_5 P Q M (sget s 1) := by kernel_rfl
def o11_6 : List AOper := [⟨some 20, (.mov (.tmp 1)), false, none⟩,
  ⟨some 21, (.call i_call_Check [(.tmp 20), (.const (.int .i64 2)), (.const (.int .i64 101)), (.const (.int .i64 300))]), false, none⟩,
  ⟨some 19, (.mov (.tmp 21)), false, none⟩,
  ⟨some 22, (.extract (.tmp 19) 0), false, none⟩,
  ⟨some 23, (.extract (.tmp 19) 1), false, none⟩,
  ⟨some 4, (.mov (.tmp 22)), false, none⟩,
  ⟨some 5, (.mov (.tmp 23)), false, none⟩]
def c11_7 : ACode := (.region o11_6 [1, 2, 3, 4, 5])
def w11_7 (P : Program) (Q : Exit → Slots → Mem → Prop) (M : Mem) (v1 : V) (v2 : V) (v3 : V) : Prop :=
  @CallH P i_call_Check [v1, (.int .i64 2), (.int .i64 101), (.int .i64 300)] M ⟨fun t21_2 M2 =>
  @OptVH (extractV t21_2 0) ⟨fun t22_4 =>
  @OptVH (extractV t21_2 1) ⟨fun t23_5 =>
  Q .normal [(1, v1), (2, v2), (3, v3), (4, t22_4), (5, t23_5)] M2⟩⟩⟩
theorem e11_7 (P : Program) (Q : Exit → Slots → Mem → Prop) (s : Slots) (M : Mem) : wpC P c11_7 Q s M = w11_7 P Q M (sget s 1) (sget s 2) (sget s 3) := by kernel_rfl
def o11_8 : List AOper := [⟨some 25, (.mov (.tmp 1)), false, none⟩,
  ⟨some 26, (.call i_call_Check [(.tmp 25), (.const (.int .i64 1)), (.const (.int .i64 100)), (.const (.int .i64 300))]), false, none⟩,
  ⟨some 24, (.mov (.tmp 26)), false, none⟩,
  ⟨some 27, (.extract (.tmp 24) 0), false, none⟩,
  ⟨some 28, (.extract (.tmp 24) 1), false, none⟩,
  ⟨some 6, (.mov (.tmp 27)), false, none⟩,
  ⟨some 7, (.mov (.tmp 28)), false, none⟩]
def c11_9 : ACode := (.region o11_8 [1, 2, 3, 4, 5, 6, 7])
def w11_9 (P : Program) (Q : Exit → Slots → Mem → Prop) (M : Mem) (v1 : V) (v2 : V) (v3 : V) (v4 : V) (v5 : V) : Prop :=
  @CallH P i_call_Check [v1, (.int .i64 1), (.int .i64 100), (.int .i64 300)] M ⟨fun t26_2 M2 =>
  @OptVH (extractV t26_2 0) ⟨fun t27_4 =>
  @OptVH (extractV t26_2 1) ⟨fun t28_5 =>
  Q .normal [(1, v1), (2, v2), (3, v3), (4, v4), (5, v5), (6, t27_4), (7, t28_5)] M2⟩⟩⟩
theorem e11_9 (P : Program) (Q : Exit → Slots → Mem → Prop) (s : Slots) (M : Mem) : wpC P c11_9 Q s M = w11_9 P Q M (sget s 1) (sget s 2) (sget s 3) (sget s 4) (sget s 5) := by kernel_rfl
def o11_10 : List AOper := [⟨some 30, (.mov (.tmp 1)), false, none⟩,
  ⟨some 31, (.call i_transitlaw16_rides [(.tmp 30), (.const (.int .i64 9))]), false, none⟩,
  ⟨some 29, (.mov (.tmp 31)), false, none⟩,
  ⟨some 32, (.extract (.tmp 29) 0), false, none⟩,
  ⟨some 33, (.extract (.tmp 29) 1), true, none⟩,
  ⟨some 8, (.mov (.tmp 32)), false, none⟩,
  ⟨some 9, (.mov (.tmp 33)), true, none⟩]
def c11_11 : ACode := (.region o11_10 [1, 2, 3, 4, 5, 6, 7, 8, 9])
def w11_11 (P : Program) (Q : Exit → Slots → Mem → Prop) (M : Mem) (v1 : V) (v2 : V) (v3 : V) (v4 : V) (v5 : V) (v6 : V) (v7 : V) : Prop :=
  @CallH P i_transitlaw16_rides [v1, (.int .i64 9)] M ⟨fun t31_2 M2 =>
  @OptVH (extractV t31_2 0) ⟨fun t32_4 =>
  @OptBH (extractV t31_2 1) ⟨fun b33_5 =>
  Q .normal [(1, v1), (2, v2), (3, v3), (4, v4), (5, v5), (6, v6), (7, v7), (8, t32_4), (9, (.bool b33_5))] M2⟩⟩⟩
theorem e11_11 (P : Program) (Q : Exit → Slots → Mem → Prop) (s : Slots) (M : Mem) : wpC P c11_11 Q s M = w11_11 P Q M (sget s 1) (sget s 2) (sget s 3) (sget s 4) (sget s 5) (sget s 6) (sget s 7) := by kernel_rfl
def o11_12 : List AOper := [⟨some 34, (.mov (.tmp 2)), false, none⟩,
  ⟨some 35, (.bin .eql .none (.tmp 34) (.const (.int .i64 0))), true, none⟩,
  ⟨some 36, (.mov (.tmp 35)), true, none⟩,
  ⟨some 37, (.mov (.tmp 3)), false, some (36, true)⟩,
  ⟨some 38, (.bin .eql .none (.tmp 37) (.const (.int .i64 0))), true, some (36, true)⟩,
  ⟨some 39, (.pick (.tmp 36) (.tmp 38) (.const (.bool false))), true, none⟩,
  ⟨some 40, (.mov (.tmp 39)), true, none⟩,
  ⟨some 41, (.mov (.tmp 4)), false, some (40, true)⟩,
  ⟨some 42, (.bin .eql .none (.tmp 41) (.const (.int .i64 0))), true, some (40, true)⟩,
  ⟨some 43, (.pick (.tmp 40) (.tmp 42) (.const (.bool false))), true, none⟩,
  ⟨some 44, (.mov (.tmp 43)), true, none⟩,
  ⟨some 45, (.mov (.tmp 5)), false, some (44, true)⟩,
  ⟨some 46, (.bin .eql .none (.tmp 45) (.const (.int .i64 10))), true, some (44, true)⟩,
  ⟨some 47, (.pick (.tmp 44) (.tmp 46) (.const (.bool false))), true, none⟩,
  ⟨some 48, (.mov (.tmp 47)), true, none⟩,
  ⟨some 49, (.mov (.tmp 6)), false, some (48, true)⟩,
  ⟨some 50, (.bin .eql .none (.tmp 49) (.const (.int .i64 1))), true, some (48, true)⟩,
  ⟨some 51, (.pick (.tmp 48) (.tmp 50) (.const (.bool false))), true, none⟩,
  ⟨some 52, (.mov (.tmp 51)), true, none⟩,
  ⟨some 53, (.mov (.tmp 7)), false, some (52, true)⟩,
  ⟨some 54, (.bin .eql .none (.tmp 53) (.const (.int .i64 9))), true, some (52, true)⟩,
  ⟨some 55, (.pick (.tmp 52) (.tmp 54) (.const (.bool false))), true, none⟩,
  ⟨some 56, (.mov (.tmp 55)), true, none⟩,
  ⟨some 57, (.mov (.tmp 9)), true, some (56, true)⟩,
  ⟨some 58, (.pick (.tmp 56) (.tmp 57) (.const (.bool false))), true, none⟩,
  ⟨some 59, (.mov (.tmp 58)), true, none⟩,
  ⟨some 60, (.mov (.tmp 8)), false, some (59, true)⟩,
  ⟨some 61, (.lenSl (.tmp 60)), false, some (59, true)⟩,
  ⟨some 62, (.bin .eql .none (.tmp 61) (.const (.int .i64 3))), true, some (59, true)⟩,
  ⟨some 63, (.pick (.tmp 59) (.tmp 62) (.const (.bool false))), true, none⟩,
  ⟨some 64, (.mov (.tmp 63)), true, none⟩,
  ⟨some 65, (.mov (.tmp 8)), false, some (64, true)⟩,
  ⟨some 66, (.indexSl 2 (.tmp 65) (.const (.int .i64 0))), false, some (64, true)⟩,
  ⟨some 67, (.load 2 true (.tmp 66)), false, some (64, true)⟩,
  ⟨some 68, (.build [(.int .i64 0), (.int .i64 0)] [(0, (1, (.const (.int .i64 0)))), (1, (1, (.const (.int .i64 1))))]), false, some (64, true)⟩,
  ⟨some 69, (.bin .eql (.cells [.int, .int]) (.tmp 67) (.tmp 68)), true, some (64, true)⟩,
  ⟨some 70, (.pick (.tmp 64) (.tmp 69) (.const (.bool false))), true, none⟩,
  ⟨some 71, (.mov (.tmp 70)), true, none⟩,
  ⟨some 72, (.mov (.tmp 8)), false, some (71, true)⟩,
  ⟨some 73, (.indexSl 2 (.tmp 72) (.const (.int .i64 1))), false, some (71, true)⟩,
  ⟨some 74, (.load 2 true (.tmp 73)), false, some (71, true)⟩,
  ⟨some 75, (.build [(.int .i64 0), (.int .i64 0)] [(0, (1, (.const (.int .i64 0)))), (1, (1, (.const (.int .i64 2))))]), false, some (71, true)⟩,
  ⟨some 76, (.bin .eql (.cells [.int, .int]) (.tmp 74) (.tmp 75)), true, some (71, true)⟩,
  ⟨some 77, (.pick (.tmp 71) (.tmp 76) (.const (.bool false))), true, none⟩,
  ⟨some 78, (.mov (.tmp 77)), true, none⟩,
  ⟨some 79, (.mov (.tmp 8)), false, some (78, true)⟩,
  ⟨some 80, (.indexSl 2 (.tmp 79) (.const (.int .i64 2))), false, some (78, true)⟩,
  ⟨some 81, (.load 2 true (.tmp 80)), false, some (78, true)⟩,
  ⟨some 82, (.build [(.int .i64 0), (.int .i64 0)] [(0, (1, (.const (.int .i64 1)))), (1, (1, (.const (.int .i64 2))))]), false, some (78, true)⟩,
  ⟨some 83, (.bin .eql (.cells [.int, .int]) (.tmp 81) (.tmp 82)), true, some (78, true)⟩,
  ⟨some 84, (.pick (.tmp 78) (.tmp 83) (.const (.bool false))), true, none⟩,
  ⟨some 85, (.mov (.tmp 84)), true, none⟩,
  ⟨some 86, (.mov (.tmp 1)), false, some (85, true)⟩,
  ⟨some 87, (.call i_call_At [(.tmp 86), (.const (.int .i64 0))]), false, some (85, true)⟩,
  ⟨some 88, (.buildSlice [(.int .i64 0), (.int .i64 0)] 1 2 [(0, (1, (.const (.int .i64 0)))), (1, (1, (.const (.int .i64 2))))]), false, some (85, true)⟩,
  ⟨some 89, (.call i_transitref16_Same [(.tmp 87), (.tmp 88)]), true, some (85, true)⟩,
  ⟨some 90, (.pick (.tmp 85) (.tmp 89) (.const (.bool false))), true, none⟩,
  ⟨some 91, (.mov (.tmp 90)), true, none⟩,
  ⟨some 92, (.mov (.tmp 1)), false, some (91, true)⟩,
  ⟨some 93, (.call i_call_Duration [(.tmp 92)]), false, some (91, true)⟩,
  ⟨some 94, (.bin .eql .none (.tmp 93) (.const (.int .i64 190))), true, some (91, true)⟩,
  ⟨some 95, (.pick (.tmp 91) (.tmp 94) (.const (.bool false))), true, none⟩,
  ⟨some 0, (.mov (.tmp 95)), true, none⟩]
def c11_13 : ACode := (.region o11_12 [0])
def w11_13 (P : Program) (Q : Exit → Slots → Mem → Prop) (M : Mem) (v1 : V) (v2 : V) (v3 : V) (v4 : V) (v5 : V) (v6 : V) (v7 : V) (v8 : V) (v9 : V) : Prop :=
  @OptBH (binV .eql .none v2 (.int .i64 0)) ⟨fun b35_2 =>
  @BIfH b35_2
  ⟨@OptBH (binV .eql .none v3 (.int .i64 0)) ⟨fun b38_5 =>
  @BIfH b38_5
  ⟨@OptBH (binV .eql .none v4 (.int .i64 0)) ⟨fun b42_9 =>
  @BIfH b42_9
  ⟨@OptBH (binV .eql .none v5 (.int .i64 10)) ⟨fun b46_13 =>
  @BIfH b46_13
  ⟨@OptBH (binV .eql .none v6 (.int .i64 1)) ⟨fun b50_17 =>
  @BIfH b50_17
  ⟨@OptBH (binV .eql .none v7 (.int .i64 9)) ⟨fun b54_21 =>
  @BIfH b54_21
  ⟨@OptBH (some v9) ⟨fun b57_24 =>
  @BIfH b57_24
  ⟨@OptVH (lenV v8 M) ⟨fun t61_28 =>
  @OptBH (binV .eql .none t61_28 (.int .i64 3)) ⟨fun b62_29 =>
  @BIfH b62_29
  ⟨@OptVH (indexSlV 2 v8 (.int .i64 0) M) ⟨fun t66_33 =>
  @OptVH (loadV 2 true t66_33 M) ⟨fun t67_34 =>
  @OptVH (buildV [(.int .i64 0), (.int .i64 0)] [(0, 1, (.int .i64 0)), (1, 1, (.int .i64 1))]) ⟨fun t68_35 =>
  @OptBH (binV .eql (.cells [.int, .int]) t67_34 t68_35) ⟨fun b69_36 =>
  @BIfH b69_36
  ⟨@OptVH (indexSlV 2 v8 (.int .i64 1) M) ⟨fun t73_40 =>
  @OptVH (loadV 2 true t73_40 M) ⟨fun t74_41 =>
  @OptVH (buildV [(.int .i64 0), (.int .i64 0)] [(0, 1, (.int .i64 0)), (1, 1, (.int .i64 2))]) ⟨fun t75_42 =>
  @OptBH (binV .eql (.cells [.int, .int]) t74_41 t75_42) ⟨fun b76_43 =>
  @BIfH b76_43
  ⟨@OptVH (indexSlV 2 v8 (.int .i64 2) M) ⟨fun t80_47 =>
  @OptVH (loadV 2 true t80_47 M) ⟨fun t81_48 =>
  @OptVH (buildV [(.int .i64 0), (.int .i64 0)] [(0, 1, (.int .i64 1)), (1, 1, (.int .i64 2))]) ⟨fun t82_49 =>
  @OptBH (binV .eql (.cells [.int, .int]) t81_48 t82_49) ⟨fun b83_50 =>
  @BIfH b83_50
  ⟨@CallH P i_call_At [v1, (.int .i64 0)] M ⟨fun t87_54 M54 =>
  @OptVH (buildSliceV [(.int .i64 0), (.int .i64 0)] 1 2 [(0, 1, (.int .i64 0)), (1, 1, (.int .i64 2))]) ⟨fun t88_55 =>
  @CallH P i_transitref16_Same [t87_54, t88_55] M54 ⟨fun t89_56 M56 => @OptBH (some t89_56) ⟨fun b89_56 =>
  @BIfH b89_56
  ⟨@CallH P i_call_Duration [v1] M56 ⟨fun t93_60 M60 =>
  @OptBH (binV .eql .none t93_60 (.int .i64 190)) ⟨fun b94_61 =>
  Q .normal [(0, (.bool b94_61))] M60⟩⟩⟩
  ⟨Q .normal [(0, (.bool false))] M56⟩⟩⟩⟩⟩⟩
  ⟨Q .normal [(0, (.bool false))] M⟩⟩⟩⟩⟩⟩
  ⟨Q .normal [(0, (.bool false))] M⟩⟩⟩⟩⟩⟩
  ⟨Q .normal [(0, (.bool false))] M⟩⟩⟩⟩⟩⟩
  ⟨Q .normal [(0, (.bool false))] M⟩⟩⟩⟩
  ⟨Q .normal [(0, (.bool false))] M⟩⟩⟩
  ⟨Q .normal [(0, (.bool false))] M⟩⟩⟩
  ⟨Q .normal [(0, (.bool false))] M⟩⟩⟩
  ⟨Q .normal [(0, (.bool false))] M⟩⟩⟩
  ⟨Q .normal [(0, (.bool false))] M⟩⟩⟩
  ⟨Q .normal [(0, (.bool false))] M⟩⟩⟩
  ⟨Q .normal [(0, (.bool false))] M⟩⟩
theorem e11_13 (P : Program) (Q : Exit → Slots → Mem → Prop) (s : Slots) (M : Mem) : wpC P c11_13 Q s M = w11_13 P Q M (sget s 1) (sget s 2) (sget s 3) (sget s 4) (sget s 5) (sget s 6) (sget s 7) (sget s 8) (sget s 9) := by kernel_rfl
def c11_14 : ACode := (.seq c11_13 .ret)
def c11_15 : ACode := (.seq c11_11 c11_14)
def c11_16 : ACode := (.seq c11_9 c11_15)
def c11_17 : ACode := (.seq c11_7 c11_16)
def c11_18 : ACode := (.seq c11_5 c11_17)
def c11_19 : ACode := (.seq c11_3 c11_18)
def c11_20 : ACode := (.seq c11_1 c11_19)
def fn_transitlaw16_exampleHolds : AFn := ⟨96, [(.tmp 0)], c11_20⟩
theorem fn_transitlaw16_exampleHolds_ok : resFn PR h_transitlaw16_exampleHolds i_transitlaw16_exampleHolds = some fn_transitlaw16_exampleHolds := by kernel_rfl

def h_call_Check : Hints := ⟨[(0, [0, 1, 2, 3]), (1, [0, 1, 2, 3, 19]), (2, [8, 9]), (3, [0, 1, 2, 3, 21, 22]), (4, [0, 1, 2, 3, 21, 22, 23]), (5, [0, 1, 2, 3, 10, 21, 22]), (6, [0, 1, 2, 3, 10, 11, 21, 22]), (7, [0, 1, 2, 3, 10, 11, 21, 22, 32]), (8, [8, 9]), (9, [0, 1, 2, 3, 21, 22]), (10, [8, 9])], [(4, [0, 1, 2, 3, 21, 22])], []⟩
def o12_0 : List AOper := [⟨some 8, (.mov (.const (.int .i64 0))), false, none⟩,
  ⟨some 9, (.mov (.const (.int .i64 0))), false, none⟩]
def c12_1 : ACode := (.region o12_0 [0, 1, 2, 3])
def w12_1 (_P : Program) (Q : Exit → Slots → Mem → Prop) (M : Mem) (v0 : V) (v1 : V) (v2 : V) (v3 : V) : Prop :=
  Q .normal [(0, v0), (1, v1), (2, v2), (3, v3)] M
theorem e12_1 (P : Program) (Q : Exit → Slots → Mem → Prop) (s : Slots) (M : Mem) : wpC P c12_1 Q s M = w12_1 P Q M (sget s 0) (sget s 1) (sget s 2) (sget s 3) := by kernel_rfl
def o12_2 : List AOper := [⟨some 8, (.mov (.const (.int .i64 0))), false, none⟩,
  ⟨some 9, (.mov (.const (.int .i64 5))), false, none⟩]
def c12_3 : ACode := (.region o12_2 [8, 9])
def w12_3 (_P : Program) (Q : Exit → Slots → Mem → Prop) (M : Mem) : Prop :=
  Q .normal [(8, (.int .i64 0)), (9, (.int .i64 5))] M
theorem e12_3 (P : Program) (Q : Exit → Slots → Mem → Prop) (s : Slots) (M : Mem) : wpC P c12_3 Q s M = w12_3 P Q M := by kernel_rfl
def c12_4 : ACode := (.seq c12_3 .ret)
def o12_5 : List AOper := [⟨some 12, (.mov (.tmp 0)), false, none⟩,
  ⟨some 13, (.lenSl (.tmp 12)), false, none⟩,
  ⟨some 14, (.bin .lss .none (.tmp 13) (.const (.int .i64 2))), true, none⟩,
  ⟨some 15, (.mov (.tmp 14)), true, none⟩,
  ⟨some 16, (.mov (.tmp 0)), false, some (15, false)⟩,
  ⟨some 17, (.lenSl (.tmp 16)), false, some (15, false)⟩,
  ⟨some 18, (.bin .gtr .none (.tmp 17) (.const (.int .i64 32))), true, some (15, false)⟩,
  ⟨some 19, (.pick (.tmp 15) (.const (.bool true)) (.tmp 18)), true, none⟩]
def c12_6 : ACode := (.seq (.region o12_5 [0, 1, 2, 3, 19]) (.cond (.tmp 19) c12_4 .skip))
def w12_6 (P : Program) (Q : Exit → Slots → Mem → Prop) (M : Mem) (v0 : V) (v1 : V) (v2 : V) (v3 : V) : Prop :=
  @OptVH (lenV v0 M) ⟨fun t13_2 =>
  @OptBH (binV .lss .none t13_2 (.int .i64 2)) ⟨fun b14_3 =>
  @BIfH b14_3
  ⟨wpC P c12_4 Q [(0, v0), (1, v1), (2, v2), (3, v3), (19, (.bool true))] M⟩
  ⟨@OptVH (lenV v0 M) ⟨fun t17_7 =>
  @OptBH (binV .gtr .none t17_7 (.int .i64 32)) ⟨fun b18_8 =>
  @BIfH b18_8
  ⟨wpC P c12_4 Q [(0, v0), (1, v1), (2, v2), (3, v3), (19, (.bool b18_8))] M⟩
  ⟨Q .normal [(0, v0), (1, v1), (2, v2), (3, v3), (19, (.bool b18_8))] M⟩⟩⟩⟩⟩⟩
theorem e12_6 (P : Program) (Q : Exit → Slots → Mem → Prop) (s : Slots) (M : Mem) : wpC P c12_6 Q s M = w12_6 P Q M (sget s 0) (sget s 1) (sget s 2) (sget s 3) := by kernel_rfl
def o12_7 : List AOper := [⟨some 20, (.mov (.tmp 0)), false, none⟩,
  ⟨some 21, (.lenSl (.tmp 20)), false, none⟩,
  ⟨some 22, (.mov (.const (.int .i64 0))), false, none⟩]
def c12_8 : ACode := (.region o12_7 [0, 1, 2, 3, 21, 22])
def w12_8 (_P : Program) (Q : Exit → Slots → Mem → Prop) (M : Mem) (v0 : V) (v1 : V) (v2 : V) (v3 : V) : Prop :=
  @OptVH (lenV v0 M) ⟨fun t21_2 =>
  Q .normal [(0, v0), (1, v1), (2, v2), (3, v3), (21, t21_2), (22, (.int .i64 0))] M⟩
theorem e12_8 (P : Program) (Q : Exit → Slots → Mem → Prop) (s : Slots) (M : Mem) : wpC P c12_8 Q s M = w12_8 P Q M (sget s 0) (sget s 1) (sget s 2) (sget s 3) := by kernel_rfl
def o12_9 : List AOper := [⟨some 23, (.bin .lss .none (.tmp 22) (.tmp 21)), false, none⟩]
def c12_10 : ACode := (.region o12_9 [0, 1, 2, 3, 21, 22, 23])
def w12_10 (_P : Program) (Q : Exit → Slots → Mem → Prop) (M : Mem) (v0 : V) (v1 : V) (v2 : V) (v3 : V) (v21 : V) (v22 : V) : Prop :=
  @OptVH (binV .lss .none v22 v21) ⟨fun t23_1 =>
  Q .normal [(0, v0), (1, v1), (2, v2), (3, v3), (21, v21), (22, v22), (23, t23_1)] M⟩
theorem e12_10 (P : Program) (Q : Exit → Slots → Mem → Prop) (s : Slots) (M : Mem) : wpC P c12_10 Q s M = w12_10 P Q M (sget s 0) (sget s 1) (sget s 2) (sget s 3) (sget s 21) (sget s 22) := by kernel_rfl
def c12_11 : ACode := (.cond (.tmp 23) .skip (.exit 0))
def o12_12 : List AOper := [⟨some 24, (.mov (.tmp 22)), false, none⟩,
  ⟨some 10, (.mov (.tmp 24)), false, none⟩]
def c12_13 : ACode := (.region o12_12 [0, 1, 2, 3, 10, 21, 22])
def w12_13 (_P : Program) (Q : Exit → Slots → Mem → Prop) (M : Mem) (v0 : V) (v1 : V) (v2 : V) (v3 : V) (v21 : V) (v22 : V) : Prop :=
  Q .normal [(0, v0), (1, v1), (2, v2), (3, v3), (10, v22), (21, v21), (22, v22)] M
theorem e12_13 (P : Program) (Q : Exit → Slots → Mem → Prop) (s : Slots) (M : Mem) : wpC P c12_13 Q s M = w12_13 P Q M (sget s 0) (sget s 1) (sget s 2) (sget s 3) (sget s 21) (sget s 22) := by kernel_rfl
def o12_14 : List AOper := [⟨some 25, (.mov (.tmp 0)), false, none⟩,
  ⟨some 26, (.mov (.tmp 10)), false, none⟩,
  ⟨some 27, (.mov (.tmp 1)), false, none⟩,
  ⟨some 28, (.mov (.tmp 2)), false, none⟩,
  ⟨some 29, (.mov (.tmp 3)), false, none⟩,
  ⟨some 30, (.call i_call_one [(.tmp 25), (.tmp 26), (.tmp 27), (.tmp 28), (.tmp 29)]), false, none⟩,
  ⟨some 11, (.mov (.tmp 30)), false, none⟩]
def c12_15 : ACode := (.region o12_14 [0, 1, 2, 3, 10, 11, 21, 22])
def w12_15 (P : Program) (Q : Exit → Slots → Mem → Prop) (M : Mem) (v0 : V) (v1 : V) (v2 : V) (v3 : V) (v10 : V) (v21 : V) (v22 : V) : Prop :=
  @CallH P i_call_one [v0, v10, v1, v2, v3] M ⟨fun t30_6 M6 =>
  Q .normal [(0, v0), (1, v1), (2, v2), (3, v3), (10, v10), (11, t30_6), (21, v21), (22, v22)] M6⟩
theorem e12_15 (P : Program) (Q : Exit → Slots → Mem → Prop) (s : Slots) (M : Mem) : wpC P c12_15 Q s M = w12_15 P Q M (sget s 0) (sget s 1) (sget s 2) (sget s 3) (sget s 10) (sget s 21) (sget s 22) := by kernel_rfl
def o12_16 : List AOper := [⟨some 33, (.mov (.tmp 10)), false, none⟩,
  ⟨some 34, (.mov (.tmp 11)), false, none⟩,
  ⟨some 8, (.mov (.tmp 33)), false, none⟩,
  ⟨some 9, (.mov (.tmp 34)), false, none⟩]
def c12_17 : ACode := (.region o12_16 [8, 9])
def w12_17 (_P : Program) (Q : Exit → Slots → Mem → Prop) (M : Mem) (v10 : V) (v11 : V) : Prop :=
  Q .normal [(8, v10), (9, v11)] M
theorem e12_17 (P : Program) (Q : Exit → Slots → Mem → Prop) (s : Slots) (M : Mem) : wpC P c12_17 Q s M = w12_17 P Q M (sget s 10) (sget s 11) := by kernel_rfl
def c12_18 : ACode := (.seq c12_17 .ret)
def o12_19 : List AOper := [⟨some 31, (.mov (.tmp 11)), false, none⟩,
  ⟨some 32, (.bin .neq .none (.tmp 31) (.const (.int .i64 0))), true, none⟩]
def c12_20 : ACode := (.seq (.region o12_19 [0, 1, 2, 3, 10, 11, 21, 22, 32]) (.cond (.tmp 32) c12_18 .skip))
def w12_20 (P : Program) (Q : Exit → Slots → Mem → Prop) (M : Mem) (v0 : V) (v1 : V) (v2 : V) (v3 : V) (v10 : V) (v11 : V) (v21 : V) (v22 : V) : Prop :=
  @OptBH (binV .neq .none v11 (.int .i64 0)) ⟨fun b32_2 =>
  @BIfH b32_2
  ⟨wpC P c12_18 Q [(0, v0), (1, v1), (2, v2), (3, v3), (10, v10), (11, v11), (21, v21), (22, v22), (32, (.bool b32_2))] M⟩
  ⟨Q .normal [(0, v0), (1, v1), (2, v2), (3, v3), (10, v10), (11, v11), (21, v21), (22, v22), (32, (.bool b32_2))] M⟩⟩
theorem e12_20 (P : Program) (Q : Exit → Slots → Mem → Prop) (s : Slots) (M : Mem) : wpC P c12_20 Q s M = w12_20 P Q M (sget s 0) (sget s 1) (sget s 2) (sget s 3) (sget s 10) (sget s 11) (sget s 21) (sget s 22) := by kernel_rfl
def c12_21 : ACode := (.seq c12_15 c12_20)
def c12_22 : ACode := (.seq c12_13 c12_21)
def c12_23 : ACode := (.block 1 c12_22)
def o12_24 : List AOper := [⟨some 35, (.bin .add .none (.tmp 22) (.const (.int .i64 1))), false, none⟩,
  ⟨some 22, (.mov (.tmp 35)), false, none⟩]
def c12_25 : ACode := (.region o12_24 [0, 1, 2, 3, 21, 22])
def w12_25 (_P : Program) (Q : Exit → Slots → Mem → Prop) (M : Mem) (v0 : V) (v1 : V) (v2 : V) (v3 : V) (v21 : V) (v22 : V) : Prop :=
  @OptVH (binV .add .none v22 (.int .i64 1)) ⟨fun t35_1 =>
  Q .normal [(0, v0), (1, v1), (2, v2), (3, v3), (21, v21), (22, t35_1)] M⟩
theorem e12_25 (P : Program) (Q : Exit → Slots → Mem → Prop) (s : Slots) (M : Mem) : wpC P c12_25 Q s M = w12_25 P Q M (sget s 0) (sget s 1) (sget s 2) (sget s 3) (sget s 21) (sget s 22) := by kernel_rfl
def c12_26 : ACode := (.seq c12_23 c12_25)
def c12_27 : ACode := (.seq c12_11 c12_26)
def c12_28 : ACode := (.seq c12_10 c12_27)
def c12_29 : ACode := (.loop [0, 1, 2, 3, 21, 22] c12_28)
def c12_30 : ACode := (.block 0 c12_29)
def c12_31 : ACode := (.seq c12_8 c12_30)
def o12_32 : List AOper := [⟨some 8, (.mov (.const (.int .i64 0))), false, none⟩,
  ⟨some 9, (.mov (.const (.int .i64 0))), false, none⟩]
def c12_33 : ACode := (.region o12_32 [8, 9])
def w12_33 (_P : Program) (Q : Exit → Slots → Mem → Prop) (M : Mem) : Prop :=
  Q .normal [(8, (.int .i64 0)), (9, (.int .i64 0))] M
theorem e12_33 (P : Program) (Q : Exit → Slots → Mem → Prop) (s : Slots) (M : Mem) : wpC P c12_33 Q s M = w12_33 P Q M := by kernel_rfl
def c12_34 : ACode := (.seq c12_33 .ret)
def c12_35 : ACode := (.seq c12_31 c12_34)
def c12_36 : ACode := (.seq c12_6 c12_35)
def c12_37 : ACode := (.seq c12_1 c12_36)
def fn_call_Check : AFn := ⟨36, [(.tmp 8), (.tmp 9)], c12_37⟩
theorem fn_call_Check_ok : resFn PR h_call_Check i_call_Check = some fn_call_Check := by kernel_rfl

def h_transitref16_Check : Hints := ⟨[(0, [0, 1, 2, 3]), (1, [0, 1, 2, 3, 19]), (2, [8, 9]), (3, [0, 1, 2, 3, 10]), (4, [0, 1, 2, 3, 10, 23]), (5, [0, 1, 2, 3, 10]), (6, [0, 1, 2, 3, 10, 11]), (7, [0, 1, 2, 3, 10, 11, 38]), (8, [8, 9]), (9, [0, 1, 2, 3, 10, 11, 52]), (10, [8, 9]), (11, [0, 1, 2, 3, 10, 85]), (12, [8, 9]), (13, [8, 9])], [(4, [0, 1, 2, 3, 10])], []⟩
def o13_0 : List AOper := [⟨some 8, (.mov (.const (.int .i64 0))), false, none⟩,
  ⟨some 9, (.mov (.const (.int .i64 0))), false, none⟩]
def c13_1 : ACode := (.region o13_0 [0, 1, 2, 3])
def w13_1 (_P : Program) (Q : Exit → Slots → Mem → Prop) (M : Mem) (v0 : V) (v1 : V) (v2 : V) (v3 : V) : Prop :=
  Q .normal [(0, v0), (1, v1), (2, v2), (3, v3)] M
theorem e13_1 (P : Program) (Q : Exit → Slots → Mem → Prop) (s : Slots) (M : Mem) : wpC P c13_1 Q s M = w13_1 P Q M (sget s 0) (sget s 1) (sget s 2) (sget s 3) := by kernel_rfl
def o13_2 : List AOper := [⟨some 8, (.mov (.const (.int .i64 0))), false, none⟩,
  ⟨some 9, (.mov (.const (.int .i64 5))), false, none⟩]
def c13_3 : ACode := (.region o13_2 [8, 9])
def w13_3 (_P : Program) (Q : Exit → Slots → Mem → Prop) (M : Mem) : Prop :=
  Q .normal [(8, (.int .i64 0)), (9, (.int .i64 5))] M
theorem e13_3 (P : Program) (Q : Exit → Slots → Mem → Prop) (s : Slots) (M : Mem) : wpC P c13_3 Q s M = w13_3 P Q M := by kernel_rfl
def c13_4 : ACode := (.seq c13_3 .ret)
def o13_5 : List AOper := [⟨some 12, (.mov (.tmp 0)), false, none⟩,
  ⟨some 13, (.lenSl (.tmp 12)), false, none⟩,
  ⟨some 14, (.bin .lss .none (.tmp 13) (.const (.int .i64 2))), true, none⟩,
  ⟨some 15, (.mov (.tmp 14)), true, none⟩,
  ⟨some 16, (.mov (.tmp 0)), false, some (15, false)⟩,
  ⟨some 17, (.lenSl (.tmp 16)), false, some (15, false)⟩,
  ⟨some 18, (.bin .gtr .none (.tmp 17) (.const (.int .i64 32))), true, some (15, false)⟩,
  ⟨some 19, (.pick (.tmp 15) (.const (.bool true)) (.tmp 18)), true, none⟩]
def c13_6 : ACode := (.seq (.region o13_5 [0, 1, 2, 3, 19]) (.cond (.tmp 19) c13_4 .skip))
def w13_6 (P : Program) (Q : Exit → Slots → Mem → Prop) (M : Mem) (v0 : V) (v1 : V) (v2 : V) (v3 : V) : Prop :=
  @OptVH (lenV v0 M) ⟨fun t13_2 =>
  @OptBH (binV .lss .none t13_2 (.int .i64 2)) ⟨fun b14_3 =>
  @BIfH b14_3
  ⟨wpC P c13_4 Q [(0, v0), (1, v1), (2, v2), (3, v3), (19, (.bool true))] M⟩
  ⟨@OptVH (lenV v0 M) ⟨fun t17_7 =>
  @OptBH (binV .gtr .none t17_7 (.int .i64 32)) ⟨fun b18_8 =>
  @BIfH b18_8
  ⟨wpC P c13_4 Q [(0, v0), (1, v1), (2, v2), (3, v3), (19, (.bool b18_8))] M⟩
  ⟨Q .normal [(0, v0), (1, v1), (2, v2), (3, v3), (19, (.bool b18_8))] M⟩⟩⟩⟩⟩⟩
theorem e13_6 (P : Program) (Q : Exit → Slots → Mem → Prop) (s : Slots) (M : Mem) : wpC P c13_6 Q s M = w13_6 P Q M (sget s 0) (sget s 1) (sget s 2) (sget s 3) := by kernel_rfl
def o13_7 : List AOper := [⟨some 10, (.mov (.const (.int .i64 0))), false, none⟩]
def c13_8 : ACode := (.region o13_7 [0, 1, 2, 3, 10])
def w13_8 (_P : Program) (Q : Exit → Slots → Mem → Prop) (M : Mem) (v0 : V) (v1 : V) (v2 : V) (v3 : V) : Prop :=
  Q .normal [(0, v0), (1, v1), (2, v2), (3, v3), (10, (.int .i64 0))] M
theorem e13_8 (P : Program) (Q : Exit → Slots → Mem → Prop) (s : Slots) (M : Mem) : wpC P c13_8 Q s M = w13_8 P Q M (sget s 0) (sget s 1) (sget s 2) (sget s 3) := by kernel_rfl
def o13_9 : List AOper := [⟨some 20, (.mov (.tmp 10)), false, none⟩,
  ⟨some 21, (.mov (.tmp 0)), false, none⟩,
  ⟨some 22, (.lenSl (.tmp 21)), false, none⟩,
  ⟨some 23, (.bin .lss .none (.tmp 20) (.tmp 22)), true, none⟩]
def c13_10 : ACode := (.seq (.region o13_9 [0, 1, 2, 3, 10, 23]) (.cond (.tmp 23) .skip (.exit 0)))
def w13_10 (_P : Program) (Q : Exit → Slots → Mem → Prop) (M : Mem) (v0 : V) (v1 : V) (v2 : V) (v3 : V) (v10 : V) : Prop :=
  @OptVH (lenV v0 M) ⟨fun t22_3 =>
  @OptBH (binV .lss .none v10 t22_3) ⟨fun b23_4 =>
  @BIfH b23_4
  ⟨Q .normal [(0, v0), (1, v1), (2, v2), (3, v3), (10, v10), (23, (.bool b23_4))] M⟩
  ⟨Q (.exit 0) [(0, v0), (1, v1), (2, v2), (3, v3), (10, v10), (23, (.bool b23_4))] M⟩⟩⟩
theorem e13_10 (P : Program) (Q : Exit → Slots → Mem → Prop) (s : Slots) (M : Mem) : wpC P c13_10 Q s M = w13_10 P Q M (sget s 0) (sget s 1) (sget s 2) (sget s 3) (sget s 10) := by kernel_rfl
def o13_11 : List AOper := [⟨some 26, (.mov (.tmp 0)), false, none⟩,
  ⟨some 27, (.mov (.tmp 10)), false, none⟩,
  ⟨some 28, (.indexSl 5 (.tmp 26) (.tmp 27)), false, none⟩,
  ⟨some 29, (.load 5 true (.tmp 28)), false, none⟩,
  ⟨some 11, (.alloc [(.int .i64 0), (.int .i64 0), (.int .i64 0), (.bool false), (.bool false)]), false, none⟩,
  ⟨none, (.store 5 (.tmp 11) (.tmp 29)), false, none⟩]
def c13_12 : ACode := (.region o13_11 [0, 1, 2, 3, 10, 11])
def w13_12 (_P : Program) (Q : Exit → Slots → Mem → Prop) (M : Mem) (v0 : V) (v1 : V) (v2 : V) (v3 : V) (v10 : V) : Prop :=
  @OptVH (indexSlV 5 v0 v10 M) ⟨fun t28_3 =>
  @OptVH (loadV 5 true t28_3 M) ⟨fun t29_4 =>
  @OptMH (allocV [(.int .i64 0), (.int .i64 0), (.int .i64 0), (.bool false), (.bool false)] M) ⟨fun t11_5 M5 =>
  @OptMH (storeVM 5 t11_5 t29_4 M5) ⟨fun _tx_6 M6 =>
  Q .normal [(0, v0), (1, v1), (2, v2), (3, v3), (10, v10), (11, t11_5)] M6⟩⟩⟩⟩
theorem e13_12 (P : Program) (Q : Exit → Slots → Mem → Prop) (s : Slots) (M : Mem) : wpC P c13_12 Q s M = w13_12 P Q M (sget s 0) (sget s 1) (sget s 2) (sget s 3) (sget s 10) := by kernel_rfl
def o13_13 : List AOper := [⟨some 39, (.mov (.tmp 10)), false, none⟩,
  ⟨some 8, (.mov (.tmp 39)), false, none⟩,
  ⟨some 9, (.mov (.const (.int .i64 9))), false, none⟩]
def c13_14 : ACode := (.region o13_13 [8, 9])
def w13_14 (_P : Program) (Q : Exit → Slots → Mem → Prop) (M : Mem) (v10 : V) : Prop :=
  Q .normal [(8, v10), (9, (.int .i64 9))] M
theorem e13_14 (P : Program) (Q : Exit → Slots → Mem → Prop) (s : Slots) (M : Mem) : wpC P c13_14 Q s M = w13_14 P Q M (sget s 10) := by kernel_rfl
def c13_15 : ACode := (.seq c13_14 .ret)
def o13_16 : List AOper := [⟨some 30, (.fieldAddr 0 (.tmp 11)), false, none⟩,
  ⟨some 31, (.load 1 false (.tmp 30)), false, none⟩,
  ⟨some 32, (.bin .lss .none (.tmp 31) (.const (.int .i64 0))), true, none⟩,
  ⟨some 33, (.mov (.tmp 32)), true, none⟩,
  ⟨some 34, (.fieldAddr 0 (.tmp 11)), false, some (33, false)⟩,
  ⟨some 35, (.load 1 false (.tmp 34)), false, some (33, false)⟩,
  ⟨some 36, (.mov (.tmp 1)), false, some (33, false)⟩,
  ⟨some 37, (.bin .geq .none (.tmp 35) (.tmp 36)), true, some (33, false)⟩,
  ⟨some 38, (.pick (.tmp 33) (.const (.bool true)) (.tmp 37)), true, none⟩]
def c13_17 : ACode := (.seq (.region o13_16 [0, 1, 2, 3, 10, 11, 38]) (.cond (.tmp 38) c13_15 .skip))
def w13_17 (P : Program) (Q : Exit → Slots → Mem → Prop) (M : Mem) (v0 : V) (v1 : V) (v2 : V) (v3 : V) (v10 : V) (v11 : V) : Prop :=
  @OptVH (moveV 0 v11) ⟨fun t30_1 =>
  @OptVH (loadV 1 false t30_1 M) ⟨fun t31_2 =>
  @OptBH (binV .lss .none t31_2 (.int .i64 0)) ⟨fun b32_3 =>
  @BIfH b32_3
  ⟨wpC P c13_15 Q [(0, v0), (1, v1), (2, v2), (3, v3), (10, v10), (11, v11), (38, (.bool true))] M⟩
  ⟨@OptVH (moveV 0 v11) ⟨fun t34_6 =>
  @OptVH (loadV 1 false t34_6 M) ⟨fun t35_7 =>
  @OptBH (binV .geq .none t35_7 v1) ⟨fun b37_9 =>
  @BIfH b37_9
  ⟨wpC P c13_15 Q [(0, v0), (1, v1), (2, v2), (3, v3), (10, v10), (11, v11), (38, (.bool b37_9))] M⟩
  ⟨Q .normal [(0, v0), (1, v1), (2, v2), (3, v3), (10, v10), (11, v11), (38, (.bool b37_9))] M⟩⟩⟩⟩⟩⟩⟩⟩
theorem e13_17 (P : Program) (Q : Exit → Slots → Mem → Prop) (s : Slots) (M : Mem) : wpC P c13_17 Q s M = w13_17 P Q M (sget s 0) (sget s 1) (sget s 2) (sget s 3) (sget s 10) (sget s 11) := by kernel_rfl
def o13_18 : List AOper := [⟨some 53, (.mov (.tmp 10)), false, none⟩,
  ⟨some 8, (.mov (.tmp 53)), false, none⟩,
  ⟨some 9, (.mov (.const (.int .i64 13))), false, none⟩]
def c13_19 : ACode := (.region o13_18 [8, 9])
def w13_19 (_P : Program) (Q : Exit → Slots → Mem → Prop) (M : Mem) (v10 : V) : Prop :=
  Q .normal [(8, v10), (9, (.int .i64 13))] M
theorem e13_19 (P : Program) (Q : Exit → Slots → Mem → Prop) (s : Slots) (M : Mem) : wpC P c13_19 Q s M = w13_19 P Q M (sget s 10) := by kernel_rfl
def c13_20 : ACode := (.seq c13_19 .ret)
def o13_21 : List AOper := [⟨some 40, (.mov (.tmp 10)), false, none⟩,
  ⟨some 41, (.bin .gtr .none (.tmp 40) (.const (.int .i64 0))), true, none⟩,
  ⟨some 42, (.mov (.tmp 41)), true, none⟩,
  ⟨some 43, (.mov (.tmp 0)), false, some (42, true)⟩,
  ⟨some 44, (.mov (.tmp 10)), false, some (42, true)⟩,
  ⟨some 45, (.bin .sub .none (.tmp 44) (.const (.int .i64 1))), false, some (42, true)⟩,
  ⟨some 46, (.indexSl 5 (.tmp 43) (.tmp 45)), false, some (42, true)⟩,
  ⟨some 47, (.fieldAddr 0 (.tmp 46)), false, some (42, true)⟩,
  ⟨some 48, (.load 1 false (.tmp 47)), false, some (42, true)⟩,
  ⟨some 49, (.fieldAddr 0 (.tmp 11)), false, some (42, true)⟩,
  ⟨some 50, (.load 1 false (.tmp 49)), false, some (42, true)⟩,
  ⟨some 51, (.bin .eql .none (.tmp 48) (.tmp 50)), true, some (42, true)⟩,
  ⟨some 52, (.pick (.tmp 42) (.tmp 51) (.const (.bool false))), true, none⟩]
def c13_22 : ACode := (.seq (.mixed o13_21 [true, true, true, true, true, true, true, true, true, true, true, true, true] [0, 1, 2, 3, 10, 11, 52]) (.cond (.tmp 52) c13_20 .skip))
def w13_22 (P : Program) (Q : Exit → Slots → Mem → Prop) (M : Mem) (v0 : V) (v1 : V) (v2 : V) (v3 : V) (v10 : V) (v11 : V) : Prop :=
  @OptBH (binV .gtr .none v10 (.int .i64 0)) ⟨fun b41_2 =>
  @BIfH b41_2
  ⟨@OptVH (binV .sub .none v10 (.int .i64 1)) ⟨fun t45_6 =>
  @OptVH (indexSlV 5 v0 t45_6 M) ⟨fun t46_7 =>
  @OptVH (moveV 0 t46_7) ⟨fun t47_8 =>
  @OptVH (loadV 1 false t47_8 M) ⟨fun t48_9 =>
  @OptVH (moveV 0 v11) ⟨fun t49_10 =>
  @OptVH (loadV 1 false t49_10 M) ⟨fun t50_11 =>
  @OptBH (binV .eql .none t48_9 t50_11) ⟨fun b51_12 =>
  @BIfH b51_12
  ⟨wpC P c13_20 Q [(0, v0), (1, v1), (2, v2), (3, v3), (10, v10), (11, v11), (52, (.bool b51_12))] M⟩
  ⟨Q .normal [(0, v0), (1, v1), (2, v2), (3, v3), (10, v10), (11, v11), (52, (.bool b51_12))] M⟩⟩⟩⟩⟩⟩⟩⟩⟩
  ⟨Q .normal [(0, v0), (1, v1), (2, v2), (3, v3), (10, v10), (11, v11), (52, (.bool false))] M⟩⟩
theorem e13_22 (P : Program) (Q : Exit → Slots → Mem → Prop) (s : Slots) (M : Mem) : wpC P c13_22 Q s M = w13_22 P Q M (sget s 0) (sget s 1) (sget s 2) (sget s 3) (sget s 10) (sget s 11) := by kernel_rfl
def o13_23 : List AOper := [⟨some 86, (.mov (.tmp 10)), false, none⟩,
  ⟨some 8, (.mov (.tmp 86)), false, none⟩,
  ⟨some 9, (.mov (.const (.int .i64 10))), false, none⟩]
def c13_24 : ACode := (.region o13_23 [8, 9])
def w13_24 (_P : Program) (Q : Exit → Slots → Mem → Prop) (M : Mem) (v10 : V) : Prop :=
  Q .normal [(8, v10), (9, (.int .i64 10))] M
theorem e13_24 (P : Program) (Q : Exit → Slots → Mem → Prop) (s : Slots) (M : Mem) : wpC P c13_24 Q s M = w13_24 P Q M (sget s 10) := by kernel_rfl
def c13_25 : ACode := (.seq c13_24 .ret)
def o13_26 : List AOper := [⟨some 54, (.fieldAddr 1 (.tmp 11)), false, none⟩,
  ⟨some 55, (.load 1 false (.tmp 54)), false, none⟩,
  ⟨some 56, (.mov (.tmp 2)), false, none⟩,
  ⟨some 57, (.bin .lss .none (.tmp 55) (.tmp 56)), true, none⟩,
  ⟨some 58, (.mov (.tmp 57)), true, none⟩,
  ⟨some 59, (.fieldAddr 1 (.tmp 11)), false, some (58, false)⟩,
  ⟨some 60, (.load 1 false (.tmp 59)), false, some (58, false)⟩,
  ⟨some 61, (.fieldAddr 2 (.tmp 11)), false, some (58, false)⟩,
  ⟨some 62, (.load 1 false (.tmp 61)), false, some (58, false)⟩,
  ⟨some 63, (.bin .gtr .none (.tmp 60) (.tmp 62)), true, some (58, false)⟩,
  ⟨some 64, (.pick (.tmp 58) (.const (.bool true)) (.tmp 63)), true, none⟩,
  ⟨some 65, (.mov (.tmp 64)), true, none⟩,
  ⟨some 66, (.fieldAddr 2 (.tmp 11)), false, some (65, false)⟩,
  ⟨some 67, (.load 1 false (.tmp 66)), false, some (65, false)⟩,
  ⟨some 68, (.mov (.tmp 3)), false, some (65, false)⟩,
  ⟨some 69, (.bin .gtr .none (.tmp 67) (.tmp 68)), true, some (65, false)⟩,
  ⟨some 70, (.pick (.tmp 65) (.const (.bool true)) (.tmp 69)), true, none⟩,
  ⟨some 71, (.mov (.tmp 70)), true, none⟩,
  ⟨some 72, (.mov (.tmp 10)), false, some (71, false)⟩,
  ⟨some 73, (.bin .gtr .none (.tmp 72) (.const (.int .i64 0))), true, some (71, false)⟩,
  ⟨some 74, (.mov (.tmp 73)), true, some (71, false)⟩,
  ⟨some 75, (.fieldAddr 1 (.tmp 11)), false, some (74, true)⟩,
  ⟨some 76, (.load 1 false (.tmp 75)), false, some (74, true)⟩,
  ⟨some 77, (.mov (.tmp 0)), false, some (74, true)⟩,
  ⟨some 78, (.mov (.tmp 10)), false, some (74, true)⟩,
  ⟨some 79, (.bin .sub .none (.tmp 78) (.const (.int .i64 1))), false, some (74, true)⟩,
  ⟨some 80, (.indexSl 5 (.tmp 77) (.tmp 79)), false, some (74, true)⟩,
  ⟨some 81, (.fieldAddr 2 (.tmp 80)), false, some (74, true)⟩,
  ⟨some 82, (.load 1 false (.tmp 81)), false, some (74, true)⟩,
  ⟨some 83, (.bin .lss .none (.tmp 76) (.tmp 82)), true, some (74, true)⟩,
  ⟨some 84, (.pick (.tmp 74) (.tmp 83) (.const (.bool false))), true, some (71, false)⟩,
  ⟨some 85, (.pick (.tmp 71) (.const (.bool true)) (.tmp 84)), true, none⟩]
def c13_27 : ACode := (.seq (.mixed o13_26 [true, true, true, true, true, true, true, true, true, true, true, true, true, true, true, true, true, true, true, true, true, true, true, true, true, true, true, true, true, true, true, true] [0, 1, 2, 3, 10, 85]) (.cond (.tmp 85) c13_25 .skip))
def w13_27 (P : Program) (Q : Exit → Slots → Mem → Prop) (M : Mem) (v0 : V) (v1 : V) (v2 : V) (v3 : V) (v10 : V) (v11 : V) : Prop :=
  @OptVH (moveV 1 v11) ⟨fun t54_1 =>
  @OptVH (loadV 1 false t54_1 M) ⟨fun t55_2 =>
  @OptBH (binV .lss .none t55_2 v2) ⟨fun b57_4 =>
  @BIfH b57_4
  ⟨wpC P c13_25 Q [(0, v0), (1, v1), (2, v2), (3, v3), (10, v10), (85, (.bool true))] M⟩
  ⟨@OptVH (moveV 1 v11) ⟨fun t59_11 =>
  @OptVH (loadV 1 false t59_11 M) ⟨fun t60_12 =>
  @OptVH (moveV 2 v11) ⟨fun t61_13 =>
  @OptVH (loadV 1 false t61_13 M) ⟨fun t62_14 =>
  @OptBH (binV .gtr .none t60_12 t62_14) ⟨fun b63_15 =>
  @BIfH b63_15
  ⟨wpC P c13_25 Q [(0, v0), (1, v1), (2, v2), (3, v3), (10, v10), (85, (.bool true))] M⟩
  ⟨@OptVH (moveV 2 v11) ⟨fun t66_21 =>
  @OptVH (loadV 1 false t66_21 M) ⟨fun t67_22 =>
  @OptBH (binV .gtr .none t67_22 v3) ⟨fun b69_24 =>
  @BIfH b69_24
  ⟨wpC P c13_25 Q [(0, v0), (1, v1), (2, v2), (3, v3), (10, v10), (85, (.bool true))] M⟩
  ⟨@OptBH (binV .gtr .none v10 (.int .i64 0)) ⟨fun b73_29 =>
  @BIfH b73_29
  ⟨@OptVH (moveV 1 v11) ⟨fun t75_31 =>
  @OptVH (loadV 1 false t75_31 M) ⟨fun t76_32 =>
  @OptVH (binV .sub .none v10 (.int .i64 1)) ⟨fun t79_35 =>
  @OptVH (indexSlV 5 v0 t79_35 M) ⟨fun t80_36 =>
  @OptVH (moveV 2 t80_36) ⟨fun t81_37 =>
  @OptVH (loadV 1 false t81_37 M) ⟨fun t82_38 =>
  @OptBH (binV .lss .none t76_32 t82_38) ⟨fun b83_39 =>
  @BIfH b83_39
  ⟨wpC P c13_25 Q [(0, v0), (1, v1), (2, v2), (3, v3), (10, v10), (85, (.bool b83_39))] M⟩
  ⟨Q .normal [(0, v0), (1, v1), (2, v2), (3, v3), (10, v10), (85, (.bool b83_39))] M⟩⟩⟩⟩⟩⟩⟩⟩⟩
  ⟨Q .normal [(0, v0), (1, v1), (2, v2), (3, v3), (10, v10), (85, (.bool false))] M⟩⟩⟩⟩⟩⟩⟩⟩⟩⟩⟩⟩⟩⟩⟩⟩
theorem e13_27 (P : Program) (Q : Exit → Slots → Mem → Prop) (s : Slots) (M : Mem) : wpC P c13_27 Q s M = w13_27 P Q M (sget s 0) (sget s 1) (sget s 2) (sget s 3) (sget s 10) (sget s 11) := by kernel_rfl
def c13_28 : ACode := (.seq c13_22 c13_27)
def c13_29 : ACode := (.seq c13_17 c13_28)
def c13_30 : ACode := (.seq c13_12 c13_29)
def c13_31 : ACode := (.block 1 c13_30)
def o13_32 : List AOper := [⟨some 24, (.mov (.tmp 10)), false, none⟩,
  ⟨some 25, (.bin .add .none (.tmp 24) (.const (.int .i64 1))), false, none⟩,
  ⟨some 10, (.mov (.tmp 25)), false, none⟩]
def c13_33 : ACode := (.region o13_32 [0, 1, 2, 3, 10])
def w13_33 (_P : Program) (Q : Exit → Slots → Mem → Prop) (M : Mem) (v0 : V) (v1 : V) (v2 : V) (v3 : V) (v10 : V) : Prop :=
  @OptVH (binV .add .none v10 (.int .i64 1)) ⟨fun t25_2 =>
  Q .normal [(0, v0), (1, v1), (2, v2), (3, v3), (10, t25_2)] M⟩
theorem e13_33 (P : Program) (Q : Exit → Slots → Mem → Prop) (s : Slots) (M : Mem) : wpC P c13_33 Q s M = w13_33 P Q M (sget s 0) (sget s 1) (sget s 2) (sget s 3) (sget s 10) := by kernel_rfl
def c13_34 : ACode := (.seq c13_31 c13_33)
def c13_35 : ACode := (.seq c13_10 c13_34)
def c13_36 : ACode := (.loop [0, 1, 2, 3, 10] c13_35)
def c13_37 : ACode := (.block 0 c13_36)
def c13_38 : ACode := (.seq c13_8 c13_37)
def o13_39 : List AOper := [⟨some 8, (.mov (.const (.int .i64 0))), false, none⟩,
  ⟨some 9, (.mov (.const (.int .i64 0))), false, none⟩]
def c13_40 : ACode := (.region o13_39 [8, 9])
def w13_40 (_P : Program) (Q : Exit → Slots → Mem → Prop) (M : Mem) : Prop :=
  Q .normal [(8, (.int .i64 0)), (9, (.int .i64 0))] M
theorem e13_40 (P : Program) (Q : Exit → Slots → Mem → Prop) (s : Slots) (M : Mem) : wpC P c13_40 Q s M = w13_40 P Q M := by kernel_rfl
def c13_41 : ACode := (.seq c13_40 .ret)
def c13_42 : ACode := (.seq c13_38 c13_41)
def c13_43 : ACode := (.seq c13_6 c13_42)
def c13_44 : ACode := (.seq c13_1 c13_43)
def fn_transitref16_Check : AFn := ⟨87, [(.tmp 8), (.tmp 9)], c13_44⟩
theorem fn_transitref16_Check_ok : resFn PR h_transitref16_Check i_transitref16_Check = some fn_transitref16_Check := by kernel_rfl

def h_call_Ridable : Hints := ⟨[(0, [0, 1, 2]), (1, [6])], [], []⟩
def o14_0 : List AOper := [⟨some 6, (.mov (.const (.bool false))), true, none⟩]
def c14_1 : ACode := (.region o14_0 [0, 1, 2])
def w14_1 (_P : Program) (Q : Exit → Slots → Mem → Prop) (M : Mem) (v0 : V) (v1 : V) (v2 : V) : Prop :=
  Q .normal [(0, v0), (1, v1), (2, v2)] M
theorem e14_1 (P : Program) (Q : Exit → Slots → Mem → Prop) (s : Slots) (M : Mem) : wpC P c14_1 Q s M = w14_1 P Q M (sget s 0) (sget s 1) (sget s 2) := by kernel_rfl
def o14_2 : List AOper := [⟨some 7, (.mov (.tmp 1)), false, none⟩,
  ⟨some 8, (.bin .geq .none (.tmp 7) (.const (.int .i64 0))), true, none⟩,
  ⟨some 9, (.mov (.tmp 8)), true, none⟩,
  ⟨some 10, (.mov (.tmp 1)), false, some (9, true)⟩,
  ⟨some 11, (.mov (.tmp 2)), false, some (9, true)⟩,
  ⟨some 12, (.bin .lss .none (.tmp 10) (.tmp 11)), true, some (9, true)⟩,
  ⟨some 13, (.pick (.tmp 9) (.tmp 12) (.const (.bool false))), true, none⟩,
  ⟨some 14, (.mov (.tmp 13)), true, none⟩,
  ⟨some 15, (.mov (.tmp 2)), false, some (14, true)⟩,
  ⟨some 16, (.mov (.tmp 0)), false, some (14, true)⟩,
  ⟨some 17, (.lenSl (.tmp 16)), false, some (14, true)⟩,
  ⟨some 18, (.bin .lss .none (.tmp 15) (.tmp 17)), true, some (14, true)⟩,
  ⟨some 19, (.pick (.tmp 14) (.tmp 18) (.const (.bool false))), true, none⟩,
  ⟨some 20, (.mov (.tmp 19)), true, none⟩,
  ⟨some 21, (.mov (.tmp 0)), false, some (20, true)⟩,
  ⟨some 22, (.mov (.tmp 1)), false, some (20, true)⟩,
  ⟨some 23, (.indexSl 5 (.tmp 21) (.tmp 22)), false, some (20, true)⟩,
  ⟨some 24, (.fieldAddr 3 (.tmp 23)), false, some (20, true)⟩,
  ⟨some 25, (.load 1 false (.tmp 24)), true, some (20, true)⟩,
  ⟨some 26, (.pick (.tmp 20) (.tmp 25) (.const (.bool false))), true, none⟩,
  ⟨some 27, (.mov (.tmp 26)), true, none⟩,
  ⟨some 28, (.mov (.tmp 0)), false, some (27, true)⟩,
  ⟨some 29, (.mov (.tmp 2)), false, some (27, true)⟩,
  ⟨some 30, (.indexSl 5 (.tmp 28) (.tmp 29)), false, some (27, true)⟩,
  ⟨some 31, (.fieldAddr 4 (.tmp 30)), false, some (27, true)⟩,
  ⟨some 32, (.load 1 false (.tmp 31)), true, some (27, true)⟩,
  ⟨some 33, (.pick (.tmp 27) (.tmp 32) (.const (.bool false))), true, none⟩,
  ⟨some 6, (.mov (.tmp 33)), true, none⟩]
def c14_3 : ACode := (.region o14_2 [6])
def w14_3 (_P : Program) (Q : Exit → Slots → Mem → Prop) (M : Mem) (v0 : V) (v1 : V) (v2 : V) : Prop :=
  @OptBH (binV .geq .none v1 (.int .i64 0)) ⟨fun b8_2 =>
  @BIfH b8_2
  ⟨@OptBH (binV .lss .none v1 v2) ⟨fun b12_6 =>
  @BIfH b12_6
  ⟨@OptVH (lenV v0 M) ⟨fun t17_11 =>
  @OptBH (binV .lss .none v2 t17_11) ⟨fun b18_12 =>
  @BIfH b18_12
  ⟨@OptVH (indexSlV 5 v0 v1 M) ⟨fun t23_17 =>
  @OptVH (moveV 3 t23_17) ⟨fun t24_18 =>
  @OptBH (loadV 1 false t24_18 M) ⟨fun b25_19 =>
  @BIfH b25_19
  ⟨@OptVH (indexSlV 5 v0 v2 M) ⟨fun t30_24 =>
  @OptVH (moveV 4 t30_24) ⟨fun t31_25 =>
  @OptBH (loadV 1 false t31_25 M) ⟨fun b32_26 =>
  Q .normal [(6, (.bool b32_26))] M⟩⟩⟩⟩
  ⟨Q .normal [(6, (.bool false))] M⟩⟩⟩⟩⟩
  ⟨Q .normal [(6, (.bool false))] M⟩⟩⟩⟩
  ⟨Q .normal [(6, (.bool false))] M⟩⟩⟩
  ⟨Q .normal [(6, (.bool false))] M⟩⟩
theorem e14_3 (P : Program) (Q : Exit → Slots → Mem → Prop) (s : Slots) (M : Mem) : wpC P c14_3 Q s M = w14_3 P Q M (sget s 0) (sget s 1) (sget s 2) := by kernel_rfl
def c14_4 : ACode := (.seq c14_3 .ret)
def c14_5 : ACode := (.seq c14_1 c14_4)
def fn_call_Ridable : AFn := ⟨34, [(.tmp 6)], c14_5⟩
theorem fn_call_Ridable_ok : resFn PR h_call_Ridable i_call_Ridable = some fn_call_Ridable := by kernel_rfl

def h_transitref16_Ridable : Hints := ⟨[(0, [0, 1, 2]), (1, [6])], [], []⟩
def o15_0 : List AOper := [⟨some 6, (.mov (.const (.bool false))), true, none⟩]
def c15_1 : ACode := (.region o15_0 [0, 1, 2])
def w15_1 (_P : Program) (Q : Exit → Slots → Mem → Prop) (M : Mem) (v0 : V) (v1 : V) (v2 : V) : Prop :=
  Q .normal [(0, v0), (1, v1), (2, v2)] M
theorem e15_1 (P : Program) (Q : Exit → Slots → Mem → Prop) (s : Slots) (M : Mem) : wpC P c15_1 Q s M = w15_1 P Q M (sget s 0) (sget s 1) (sget s 2) := by kernel_rfl
def o15_2 : List AOper := [⟨some 7, (.mov (.tmp 1)), false, none⟩,
  ⟨some 8, (.bin .geq .none (.tmp 7) (.const (.int .i64 0))), true, none⟩,
  ⟨some 9, (.mov (.tmp 8)), true, none⟩,
  ⟨some 10, (.mov (.tmp 1)), false, some (9, true)⟩,
  ⟨some 11, (.mov (.tmp 2)), false, some (9, true)⟩,
  ⟨some 12, (.bin .lss .none (.tmp 10) (.tmp 11)), true, some (9, true)⟩,
  ⟨some 13, (.pick (.tmp 9) (.tmp 12) (.const (.bool false))), true, none⟩,
  ⟨some 14, (.mov (.tmp 13)), true, none⟩,
  ⟨some 15, (.mov (.tmp 2)), false, some (14, true)⟩,
  ⟨some 16, (.mov (.tmp 0)), false, some (14, true)⟩,
  ⟨some 17, (.lenSl (.tmp 16)), false, some (14, true)⟩,
  ⟨some 18, (.bin .lss .none (.tmp 15) (.tmp 17)), true, some (14, true)⟩,
  ⟨some 19, (.pick (.tmp 14) (.tmp 18) (.const (.bool false))), true, none⟩,
  ⟨some 20, (.mov (.tmp 19)), true, none⟩,
  ⟨some 21, (.mov (.tmp 0)), false, some (20, true)⟩,
  ⟨some 22, (.mov (.tmp 1)), false, some (20, true)⟩,
  ⟨some 23, (.indexSl 5 (.tmp 21) (.tmp 22)), false, some (20, true)⟩,
  ⟨some 24, (.fieldAddr 3 (.tmp 23)), false, some (20, true)⟩,
  ⟨some 25, (.load 1 false (.tmp 24)), true, some (20, true)⟩,
  ⟨some 26, (.pick (.tmp 20) (.tmp 25) (.const (.bool false))), true, none⟩,
  ⟨some 27, (.mov (.tmp 26)), true, none⟩,
  ⟨some 28, (.mov (.tmp 0)), false, some (27, true)⟩,
  ⟨some 29, (.mov (.tmp 2)), false, some (27, true)⟩,
  ⟨some 30, (.indexSl 5 (.tmp 28) (.tmp 29)), false, some (27, true)⟩,
  ⟨some 31, (.fieldAddr 4 (.tmp 30)), false, some (27, true)⟩,
  ⟨some 32, (.load 1 false (.tmp 31)), true, some (27, true)⟩,
  ⟨some 33, (.pick (.tmp 27) (.tmp 32) (.const (.bool false))), true, none⟩,
  ⟨some 6, (.mov (.tmp 33)), true, none⟩]
def c15_3 : ACode := (.region o15_2 [6])
def w15_3 (_P : Program) (Q : Exit → Slots → Mem → Prop) (M : Mem) (v0 : V) (v1 : V) (v2 : V) : Prop :=
  @OptBH (binV .geq .none v1 (.int .i64 0)) ⟨fun b8_2 =>
  @BIfH b8_2
  ⟨@OptBH (binV .lss .none v1 v2) ⟨fun b12_6 =>
  @BIfH b12_6
  ⟨@OptVH (lenV v0 M) ⟨fun t17_11 =>
  @OptBH (binV .lss .none v2 t17_11) ⟨fun b18_12 =>
  @BIfH b18_12
  ⟨@OptVH (indexSlV 5 v0 v1 M) ⟨fun t23_17 =>
  @OptVH (moveV 3 t23_17) ⟨fun t24_18 =>
  @OptBH (loadV 1 false t24_18 M) ⟨fun b25_19 =>
  @BIfH b25_19
  ⟨@OptVH (indexSlV 5 v0 v2 M) ⟨fun t30_24 =>
  @OptVH (moveV 4 t30_24) ⟨fun t31_25 =>
  @OptBH (loadV 1 false t31_25 M) ⟨fun b32_26 =>
  Q .normal [(6, (.bool b32_26))] M⟩⟩⟩⟩
  ⟨Q .normal [(6, (.bool false))] M⟩⟩⟩⟩⟩
  ⟨Q .normal [(6, (.bool false))] M⟩⟩⟩⟩
  ⟨Q .normal [(6, (.bool false))] M⟩⟩⟩
  ⟨Q .normal [(6, (.bool false))] M⟩⟩
theorem e15_3 (P : Program) (Q : Exit → Slots → Mem → Prop) (s : Slots) (M : Mem) : wpC P c15_3 Q s M = w15_3 P Q M (sget s 0) (sget s 1) (sget s 2) := by kernel_rfl
def c15_4 : ACode := (.seq c15_3 .ret)
def c15_5 : ACode := (.seq c15_1 c15_4)
def fn_transitref16_Ridable : AFn := ⟨34, [(.tmp 6)], c15_5⟩
theorem fn_transitref16_Ridable_ok : resFn PR h_transitref16_Ridable i_transitref16_Ridable = some fn_transitref16_Ridable := by kernel_rfl

def h_transitref16_Rides : Hints := ⟨[(0, [0]), (1, [0, 3]), (2, [0, 3, 4]), (3, [0, 3, 4, 9]), (4, [0, 3, 4]), (5, [0, 3, 4, 5]), (6, [0, 3, 4, 5, 17]), (7, [0, 3, 4, 5]), (8, [0, 3, 4, 5, 23]), (9, [0, 3, 4, 5]), (10, [2])], [(3, [0, 3, 4]), (6, [0, 3, 4, 5])], [(1, [0])]⟩
def o17_0 : List AOper := [⟨some 2, (.mov (.const (.slice [] .nil))), false, none⟩]
def c17_1 : ACode := (.region o17_0 [0])
def w17_1 (_P : Program) (Q : Exit → Slots → Mem → Prop) (M : Mem) (v0 : V) : Prop :=
  Q .normal [(0, v0)] M
theorem e17_1 (P : Program) (Q : Exit → Slots → Mem → Prop) (s : Slots) (M : Mem) : wpC P c17_1 Q s M = w17_1 P Q M (sget s 0) := by kernel_rfl
def o17_2 : List AOper := [⟨some 3, (.newarr 2), false, none⟩]
def c17_3 : ACode := (.region o17_2 [0, 3])
def w17_3 (_P : Program) (Q : Exit → Slots → Mem → Prop) (M : Mem) (v0 : V) : Prop :=
  @OptMH (newarrV 2 M) ⟨fun t3_1 M1 =>
  Q .normal [(0, v0), (3, t3_1)] M1⟩
theorem e17_3 (P : Program) (Q : Exit → Slots → Mem → Prop) (s : Slots) (M : Mem) : wpC P c17_3 Q s M = w17_3 P Q M (sget s 0) := by kernel_rfl
def o17_4 : List AOper := [⟨some 4, (.mov (.const (.int .i64 0))), false, none⟩]
def c17_5 : ACode := (.region o17_4 [0, 3, 4])
def w17_5 (_P : Program) (Q : Exit → Slots → Mem → Prop) (M : Mem) (v0 : V) (v3 : V) : Prop :=
  Q .normal [(0, v0), (3, v3), (4, (.int .i64 0))] M
theorem e17_5 (P : Program) (Q : Exit → Slots → Mem → Prop) (s : Slots) (M : Mem) : wpC P c17_5 Q s M = w17_5 P Q M (sget s 0) (sget s 3) := by kernel_rfl
def o17_6 : List AOper := [⟨some 6, (.mov (.tmp 4)), false, none⟩,
  ⟨some 7, (.mov (.tmp 0)), false, none⟩,
  ⟨some 8, (.lenSl (.tmp 7)), false, none⟩,
  ⟨some 9, (.bin .lss .none (.tmp 6) (.tmp 8)), true, none⟩]
def c17_7 : ACode := (.seq (.region o17_6 [0, 3, 4, 9]) (.cond (.tmp 9) .skip (.exit 0)))
def w17_7 (_P : Program) (Q : Exit → Slots → Mem → Prop) (M : Mem) (v0 : V) (v3 : V) (v4 : V) : Prop :=
  @OptVH (lenV v0 M) ⟨fun t8_3 =>
  @OptBH (binV .lss .none v4 t8_3) ⟨fun b9_4 =>
  @BIfH b9_4
  ⟨Q .normal [(0, v0), (3, v3), (4, v4), (9, (.bool b9_4))] M⟩
  ⟨Q (.exit 0) [(0, v0), (3, v3), (4, v4), (9, (.bool b9_4))] M⟩⟩⟩
theorem e17_7 (P : Program) (Q : Exit → Slots → Mem → Prop) (s : Slots) (M : Mem) : wpC P c17_7 Q s M = w17_7 P Q M (sget s 0) (sget s 3) (sget s 4) := by kernel_rfl
def o17_8 : List AOper := [⟨some 12, (.mov (.tmp 4)), false, none⟩,
  ⟨some 13, (.bin .add .none (.tmp 12) (.const (.int .i64 1))), false, none⟩,
  ⟨some 5, (.mov (.tmp 13)), false, none⟩]
def c17_9 : ACode := (.region o17_8 [0, 3, 4, 5])
def w17_9 (_P : Program) (Q : Exit → Slots → Mem → Prop) (M : Mem) (v0 : V) (v3 : V) (v4 : V) : Prop :=
  @OptVH (binV .add .none v4 (.int .i64 1)) ⟨fun t13_2 =>
  Q .normal [(0, v0), (3, v3), (4, v4), (5, t13_2)] M⟩
theorem e17_9 (P : Program) (Q : Exit → Slots → Mem → Prop) (s : Slots) (M : Mem) : wpC P c17_9 Q s M = w17_9 P Q M (sget s 0) (sget s 3) (sget s 4) := by kernel_rfl
def o17_10 : List AOper := [⟨some 14, (.mov (.tmp 5)), false, none⟩,
  ⟨some 15, (.mov (.tmp 0)), false, none⟩,
  ⟨some 16, (.lenSl (.tmp 15)), false, none⟩,
  ⟨some 17, (.bin .lss .none (.tmp 14) (.tmp 16)), true, none⟩]
def c17_11 : ACode := (.seq (.region o17_10 [0, 3, 4, 5, 17]) (.cond (.tmp 17) .skip (.exit 2)))
def w17_11 (_P : Program) (Q : Exit → Slots → Mem → Prop) (M : Mem) (v0 : V) (v3 : V) (v4 : V) (v5 : V) : Prop :=
  @OptVH (lenV v0 M) ⟨fun t16_3 =>
  @OptBH (binV .lss .none v5 t16_3) ⟨fun b17_4 =>
  @BIfH b17_4
  ⟨Q .normal [(0, v0), (3, v3), (4, v4), (5, v5), (17, (.bool b17_4))] M⟩
  ⟨Q (.exit 2) [(0, v0), (3, v3), (4, v4), (5, v5), (17, (.bool b17_4))] M⟩⟩⟩
theorem e17_11 (P : Program) (Q : Exit → Slots → Mem → Prop) (s : Slots) (M : Mem) : wpC P c17_11 Q s M = w17_11 P Q M (sget s 0) (sget s 3) (sget s 4) (sget s 5) := by kernel_rfl
def o17_12 : List AOper := [⟨some 24, (.mov (.tmp 3)), false, none⟩,
  ⟨some 25, (.mov (.tmp 4)), false, none⟩,
  ⟨some 26, (.mov (.tmp 5)), false, none⟩,
  ⟨some 27, (.build [(.int .i64 0), (.int .i64 0)] [(0, (1, (.tmp 25))), (1, (1, (.tmp 26)))]), false, none⟩,
  ⟨some 28, (.buildSlice [(.int .i64 0), (.int .i64 0)] 2 1 [(0, (2, (.tmp 27)))]), false, none⟩,
  ⟨some 29, (.append false 2 16 (.tmp 24) (.tmp 28)), false, none⟩,
  ⟨some 3, (.mov (.tmp 29)), false, none⟩]
def c17_13 : ACode := (.region o17_12 [0, 3, 4, 5])
def w17_13 (_P : Program) (Q : Exit → Slots → Mem → Prop) (M : Mem) (v0 : V) (v3 : V) (v4 : V) (v5 : V) : Prop :=
  @OptVH (buildV [(.int .i64 0), (.int .i64 0)] [(0, 1, v4), (1, 1, v5)]) ⟨fun t27_4 =>
  @OptVH (buildSliceV [(.int .i64 0), (.int .i64 0)] 2 1 [(0, 2, t27_4)]) ⟨fun t28_5 =>
  @OptMH (appV false 2 16 v3 t28_5 M) ⟨fun t29_6 M6 =>
  Q .normal [(0, v0), (3, t29_6), (4, v4), (5, v5)] M6⟩⟩⟩
theorem e17_13 (P : Program) (Q : Exit → Slots → Mem → Prop) (s : Slots) (M : Mem) : wpC P c17_13 Q s M = w17_13 P Q M (sget s 0) (sget s 3) (sget s 4) (sget s 5) := by kernel_rfl
def o17_14 : List AOper := [⟨some 20, (.mov (.tmp 0)), false, none⟩,
  ⟨some 21, (.mov (.tmp 4)), false, none⟩,
  ⟨some 22, (.mov (.tmp 5)), false, none⟩,
  ⟨some 23, (.call i_transitref16_Ridable [(.tmp 20), (.tmp 21), (.tmp 22)]), true, none⟩]
def c17_15 : ACode := (.seq (.region o17_14 [0, 3, 4, 5, 23]) (.cond (.tmp 23) c17_13 .skip))
def w17_15 (P : Program) (Q : Exit → Slots → Mem → Prop) (M : Mem) (v0 : V) (v3 : V) (v4 : V) (v5 : V) : Prop :=
  @CallH P i_transitref16_Ridable [v0, v4, v5] M ⟨fun t23_4 M4 => @OptBH (some t23_4) ⟨fun b23_4 =>
  @BIfH b23_4
  ⟨wpC P c17_13 Q [(0, v0), (3, v3), (4, v4), (5, v5), (23, (.bool b23_4))] M4⟩
  ⟨Q .normal [(0, v0), (3, v3), (4, v4), (5, v5), (23, (.bool b23_4))] M4⟩⟩⟩
theorem e17_15 (P : Program) (Q : Exit → Slots → Mem → Prop) (s : Slots) (M : Mem) : wpC P c17_15 Q s M = w17_15 P Q M (sget s 0) (sget s 3) (sget s 4) (sget s 5) := by kernel_rfl
def c17_16 : ACode := (.block 3 c17_15)
def o17_17 : List AOper := [⟨some 18, (.mov (.tmp 5)), false, none⟩,
  ⟨some 19, (.bin .add .none (.tmp 18) (.const (.int .i64 1))), false, none⟩,
  ⟨some 5, (.mov (.tmp 19)), false, none⟩]
def c17_18 : ACode := (.region o17_17 [0, 3, 4, 5])
def w17_18 (_P : Program) (Q : Exit → Slots → Mem → Prop) (M : Mem) (v0 : V) (v3 : V) (v4 : V) (v5 : V) : Prop :=
  @OptVH (binV .add .none v5 (.int .i64 1)) ⟨fun t19_2 =>
  Q .normal [(0, v0), (3, v3), (4, v4), (5, t19_2)] M⟩
theorem e17_18 (P : Program) (Q : Exit → Slots → Mem → Prop) (s : Slots) (M : Mem) : wpC P c17_18 Q s M = w17_18 P Q M (sget s 0) (sget s 3) (sget s 4) (sget s 5) := by kernel_rfl
def c17_19 : ACode := (.seq c17_16 c17_18)
def c17_20 : ACode := (.seq c17_11 c17_19)
def c17_21 : ACode := (.loop [0, 3, 4, 5] c17_20)
def c17_22 : ACode := (.block 2 c17_21)
def c17_23 : ACode := (.seq c17_9 c17_22)
def c17_24 : ACode := (.block 1 c17_23)
def o17_25 : List AOper := [⟨some 10, (.mov (.tmp 4)), false, none⟩,
  ⟨some 11, (.bin .add .none (.tmp 10) (.const (.int .i64 1))), false, none⟩,
  ⟨some 4, (.mov (.tmp 11)), false, none⟩]
def c17_26 : ACode := (.region o17_25 [0, 3, 4])
def w17_26 (_P : Program) (Q : Exit → Slots → Mem → Prop) (M : Mem) (v0 : V) (v3 : V) (v4 : V) : Prop :=
  @OptVH (binV .add .none v4 (.int .i64 1)) ⟨fun t11_2 =>
  Q .normal [(0, v0), (3, v3), (4, t11_2)] M⟩
theorem e17_26 (P : Program) (Q : Exit → Slots → Mem → Prop) (s : Slots) (M : Mem) : wpC P c17_26 Q s M = w17_26 P Q M (sget s 0) (sget s 3) (sget s 4) := by kernel_rfl
def c17_27 : ACode := (.seq c17_24 c17_26)
def c17_28 : ACode := (.seq c17_7 c17_27)
def c17_29 : ACode := (.loop [0, 3, 4] c17_28)
def c17_30 : ACode := (.block 0 c17_29)
def c17_31 : ACode := (.seq c17_5 c17_30)
def o17_32 : List AOper := [⟨some 30, (.mov (.tmp 3)), false, none⟩,
  ⟨some 2, (.mov (.tmp 30)), false, none⟩]
def c17_33 : ACode := (.region o17_32 [2])
def w17_33 (_P : Program) (Q : Exit → Slots → Mem → Prop) (M : Mem) (v3 : V) : Prop :=
  Q .normal [(2, v3)] M
theorem e17_33 (P : Program) (Q : Exit → Slots → Mem → Prop) (s : Slots) (M : Mem) : wpC P c17_33 Q s M = w17_33 P Q M (sget s 3) := by kernel_rfl
def c17_34 : ACode := (.seq c17_33 .ret)
def c17_35 : ACode := (.seq c17_31 c17_34)
def c17_36 : ACode := (.seq c17_3 c17_35)
def c17_37 : ACode := (.seq c17_1 c17_36)
def fn_transitref16_Rides : AFn := ⟨31, [(.tmp 2)], c17_37⟩
theorem fn_transitref16_Rides_ok : resFn PR h_transitref16_Rides i_transitref16_Rides = some fn_transitref16_Rides := by kernel_rfl

def h_transitref16_Same : Hints := ⟨[(0, [0, 1]), (1, [0, 1, 10]), (2, [4]), (3, [0, 1, 5]), (4, [0, 1, 5, 14]), (5, [0, 1, 5]), (6, [0, 1, 5, 25]), (7, [4]), (8, [4])], [(4, [0, 1, 5])], []⟩
def o18_0 : List AOper := [⟨some 4, (.mov (.const (.bool false))), true, none⟩]
def c18_1 : ACode := (.region o18_0 [0, 1])
def w18_1 (_P : Program) (Q : Exit → Slots → Mem → Prop) (M : Mem) (v0 : V) (v1 : V) : Prop :=
  Q .normal [(0, v0), (1, v1)] M
theorem e18_1 (P : Program) (Q : Exit → Slots → Mem → Prop) (s : Slots) (M : Mem) : wpC P c18_1 Q s M = w18_1 P Q M (sget s 0) (sget s 1) := by kernel_rfl
def o18_2 : List AOper := [⟨some 4, (.mov (.const (.bool false))), true, none⟩]
def c18_3 : ACode := (.region o18_2 [4])
def w18_3 (_P : Program) (Q : Exit → Slots → Mem → Prop) (M : Mem) : Prop :=
  Q .normal [(4, (.bool false))] M
theorem e18_3 (P : Program) (Q : Exit → Slots → Mem → Prop) (s : Slots) (M : Mem) : wpC P c18_3 Q s M = w18_3 P Q M := by kernel_rfl
def c18_4 : ACode := (.seq c18_3 .ret)
def o18_5 : List AOper := [⟨some 6, (.mov (.tmp 0)), false, none⟩,
  ⟨some 7, (.lenSl (.tmp 6)), false, none⟩,
  ⟨some 8, (.mov (.tmp 1)), false, none⟩,
  ⟨some 9, (.lenSl (.tmp 8)), false, none⟩,
  ⟨some 10, (.bin .neq .none (.tmp 7) (.tmp 9)), true, none⟩]
def c18_6 : ACode := (.seq (.region o18_5 [0, 1, 10]) (.cond (.tmp 10) c18_4 .skip))
def w18_6 (P : Program) (Q : Exit → Slots → Mem → Prop) (M : Mem) (v0 : V) (v1 : V) : Prop :=
  @OptVH (lenV v0 M) ⟨fun t7_2 =>
  @OptVH (lenV v1 M) ⟨fun t9_4 =>
  @OptBH (binV .neq .none t7_2 t9_4) ⟨fun b10_5 =>
  @BIfH b10_5
  ⟨wpC P c18_4 Q [(0, v0), (1, v1), (10, (.bool b10_5))] M⟩
  ⟨Q .normal [(0, v0), (1, v1), (10, (.bool b10_5))] M⟩⟩⟩⟩
theorem e18_6 (P : Program) (Q : Exit → Slots → Mem → Prop) (s : Slots) (M : Mem) : wpC P c18_6 Q s M = w18_6 P Q M (sget s 0) (sget s 1) := by kernel_rfl
def o18_7 : List AOper := [⟨some 5, (.mov (.const (.int .i64 0))), false, none⟩]
def c18_8 : ACode := (.region o18_7 [0, 1, 5])
def w18_8 (_P : Program) (Q : Exit → Slots → Mem → Prop) (M : Mem) (v0 : V) (v1 : V) : Prop :=
  Q .normal [(0, v0), (1, v1), (5, (.int .i64 0))] M
theorem e18_8 (P : Program) (Q : Exit → Slots → Mem → Prop) (s : Slots) (M : Mem) : wpC P c18_8 Q s M = w18_8 P Q M (sget s 0) (sget s 1) := by kernel_rfl
def o18_9 : List AOper := [⟨some 11, (.mov (.tmp 5)), false, none⟩,
  ⟨some 12, (.mov (.tmp 0)), false, none⟩,
  ⟨some 13, (.lenSl (.tmp 12)), false, none⟩,
  ⟨some 14, (.bin .lss .none (.tmp 11) (.tmp 13)), true, none⟩]
def c18_10 : ACode := (.seq (.region o18_9 [0, 1, 5, 14]) (.cond (.tmp 14) .skip (.exit 0)))
def w18_10 (_P : Program) (Q : Exit → Slots → Mem → Prop) (M : Mem) (v0 : V) (v1 : V) (v5 : V) : Prop :=
  @OptVH (lenV v0 M) ⟨fun t13_3 =>
  @OptBH (binV .lss .none v5 t13_3) ⟨fun b14_4 =>
  @BIfH b14_4
  ⟨Q .normal [(0, v0), (1, v1), (5, v5), (14, (.bool b14_4))] M⟩
  ⟨Q (.exit 0) [(0, v0), (1, v1), (5, v5), (14, (.bool b14_4))] M⟩⟩⟩
theorem e18_10 (P : Program) (Q : Exit → Slots → Mem → Prop) (s : Slots) (M : Mem) : wpC P c18_10 Q s M = w18_10 P Q M (sget s 0) (sget s 1) (sget s 5) := by kernel_rfl
def o18_11 : List AOper := [⟨some 4, (.mov (.const (.bool false))), true, none⟩]
def c18_12 : ACode := (.region o18_11 [4])
def w18_12 (_P : Program) (Q : Exit → Slots → Mem → Prop) (M : Mem) : Prop :=
  Q .normal [(4, (.bool false))] M
theorem e18_12 (P : Program) (Q : Exit → Slots → Mem → Prop) (s : Slots) (M : Mem) : wpC P c18_12 Q s M = w18_12 P Q M := by kernel_rfl
def c18_13 : ACode := (.seq c18_12 .ret)
def o18_14 : List AOper := [⟨some 17, (.mov (.tmp 0)), false, none⟩,
  ⟨some 18, (.mov (.tmp 5)), false, none⟩,
  ⟨some 19, (.indexSl 1 (.tmp 17) (.tmp 18)), false, none⟩,
  ⟨some 20, (.load 1 false (.tmp 19)), false, none⟩,
  ⟨some 21, (.mov (.tmp 1)), false, none⟩,
  ⟨some 22, (.mov (.tmp 5)), false, none⟩,
  ⟨some 23, (.indexSl 1 (.tmp 21) (.tmp 22)), false, none⟩,
  ⟨some 24, (.load 1 false (.tmp 23)), false, none⟩,
  ⟨some 25, (.bin .neq .none (.tmp 20) (.tmp 24)), true, none⟩]
def c18_15 : ACode := (.seq (.mixed o18_14 [true, true, true, true, true, true, true, true, true] [0, 1, 5, 25]) (.cond (.tmp 25) c18_13 .skip))
def w18_15 (P : Program) (Q : Exit → Slots → Mem → Prop) (M : Mem) (v0 : V) (v1 : V) (v5 : V) : Prop :=
  @OptVH (indexSlV 1 v0 v5 M) ⟨fun t19_3 =>
  @OptVH (loadV 1 false t19_3 M) ⟨fun t20_4 =>
  @OptVH (indexSlV 1 v1 v5 M) ⟨fun t23_7 =>
  @OptVH (loadV 1 false t23_7 M) ⟨fun t24_8 =>
  @OptBH (binV .neq .none t20_4 t24_8) ⟨fun b25_9 =>
  @BIfH b25_9
  ⟨wpC P c18_13 Q [(0, v0), (1, v1), (5, v5), (25, (.bool b25_9))] M⟩
  ⟨Q .normal [(0, v0), (1, v1), (5, v5), (25, (.bool b25_9))] M⟩⟩⟩⟩⟩⟩
theorem e18_15 (P : Program) (Q : Exit → Slots → Mem → Prop) (s : Slots) (M : Mem) : wpC P c18_15 Q s M = w18_15 P Q M (sget s 0) (sget s 1) (sget s 5) := by kernel_rfl
def c18_16 : ACode := (.block 1 c18_15)
def o18_17 : List AOper := [⟨some 15, (.mov (.tmp 5)), false, none⟩,
  ⟨some 16, (.bin .add .none (.tmp 15) (.const (.int .i64 1))), false, none⟩,
  ⟨some 5, (.mov (.tmp 16)), false, none⟩]
def c18_18 : ACode := (.region o18_17 [0, 1, 5])
def w18_18 (_P : Program) (Q : Exit → Slots → Mem → Prop) (M : Mem) (v0 : V) (v1 : V) (v5 : V) : Prop :=
  @OptVH (binV .add .none v5 (.int .i64 1)) ⟨fun t16_2 =>
  Q .normal [(0, v0), (1, v1), (5, t16_2)] M⟩
theorem e18_18 (P : Program) (Q : Exit → Slots → Mem → Prop) (s : Slots) (M : Mem) : wpC P c18_18 Q s M = w18_18 P Q M (sget s 0) (sget s 1) (sget s 5) := by kernel_rfl
def c18_19 : ACode := (.seq c18_16 c18_18)
def c18_20 : ACode := (.seq c18_10 c18_19)
def c18_21 : ACode := (.loop [0, 1, 5] c18_20)
def c18_22 : ACode := (.block 0 c18_21)
def c18_23 : ACode := (.seq c18_8 c18_22)
def o18_24 : List AOper := [⟨some 4, (.mov (.const (.bool true))), true, none⟩]
def c18_25 : ACode := (.region o18_24 [4])
def w18_25 (_P : Program) (Q : Exit → Slots → Mem → Prop) (M : Mem) : Prop :=
  Q .normal [(4, (.bool true))] M
theorem e18_25 (P : Program) (Q : Exit → Slots → Mem → Prop) (s : Slots) (M : Mem) : wpC P c18_25 Q s M = w18_25 P Q M := by kernel_rfl
def c18_26 : ACode := (.seq c18_25 .ret)
def c18_27 : ACode := (.seq c18_23 c18_26)
def c18_28 : ACode := (.seq c18_6 c18_27)
def c18_29 : ACode := (.seq c18_1 c18_28)
def fn_transitref16_Same : AFn := ⟨26, [(.tmp 4)], c18_29⟩
theorem fn_transitref16_Same_ok : resFn PR h_transitref16_Same i_transitref16_Same = some fn_transitref16_Same := by kernel_rfl

def h_call_At : Hints := ⟨[(0, [0, 1]), (1, [0, 1, 5]), (2, [1, 5, 8, 9, 10]), (3, [1, 5, 8, 9, 10, 11]), (4, [1, 5, 6, 7, 8, 9, 10]), (5, [1, 5, 6, 8, 9, 10, 18]), (6, [1, 5, 8, 9, 10]), (7, [1, 5, 8, 9, 10]), (8, [4])], [(3, [1, 5, 8, 9, 10])], [(1, [0])]⟩
def o19_0 : List AOper := [⟨some 4, (.mov (.const (.slice [] .nil))), false, none⟩]
def c19_1 : ACode := (.region o19_0 [0, 1])
def w19_1 (_P : Program) (Q : Exit → Slots → Mem → Prop) (M : Mem) (v0 : V) (v1 : V) : Prop :=
  Q .normal [(0, v0), (1, v1)] M
theorem e19_1 (P : Program) (Q : Exit → Slots → Mem → Prop) (s : Slots) (M : Mem) : wpC P c19_1 Q s M = w19_1 P Q M (sget s 0) (sget s 1) := by kernel_rfl
def o19_2 : List AOper := [⟨some 5, (.newarr 1), false, none⟩]
def c19_3 : ACode := (.region o19_2 [0, 1, 5])
def w19_3 (_P : Program) (Q : Exit → Slots → Mem → Prop) (M : Mem) (v0 : V) (v1 : V) : Prop :=
  @OptMH (newarrV 1 M) ⟨fun t5_1 M1 =>
  Q .normal [(0, v0), (1, v1), (5, t5_1)] M1⟩
theorem e19_3 (P : Program) (Q : Exit → Slots → Mem → Prop) (s : Slots) (M : Mem) : wpC P c19_3 Q s M = w19_3 P Q M (sget s 0) (sget s 1) := by kernel_rfl
def o19_4 : List AOper := [⟨some 8, (.mov (.tmp 0)), false, none⟩,
  ⟨some 9, (.lenSl (.tmp 8)), false, none⟩,
  ⟨some 10, (.mov (.const (.int .i64 0))), false, none⟩]
def c19_5 : ACode := (.region o19_4 [1, 5, 8, 9, 10])
def w19_5 (_P : Program) (Q : Exit → Slots → Mem → Prop) (M : Mem) (v0 : V) (v1 : V) (v5 : V) : Prop :=
  @OptVH (lenV v0 M) ⟨fun t9_2 =>
  Q .normal [(1, v1), (5, v5), (8, v0), (9, t9_2), (10, (.int .i64 0))] M⟩
theorem e19_5 (P : Program) (Q : Exit → Slots → Mem → Prop) (s : Slots) (M : Mem) : wpC P c19_5 Q s M = w19_5 P Q M (sget s 0) (sget s 1) (sget s 5) := by kernel_rfl
def o19_6 : List AOper := [⟨some 11, (.bin .lss .none (.tmp 10) (.tmp 9)), false, none⟩]
def c19_7 : ACode := (.region o19_6 [1, 5, 8, 9, 10, 11])
def w19_7 (_P : Program) (Q : Exit → Slots → Mem → Prop) (M : Mem) (v1 : V) (v5 : V) (v8 : V) (v9 : V) (v10 : V) : Prop :=
  @OptVH (binV .lss .none v10 v9) ⟨fun t11_1 =>
  Q .normal [(1, v1), (5, v5), (8, v8), (9, v9), (10, v10), (11, t11_1)] M⟩
theorem e19_7 (P : Program) (Q : Exit → Slots → Mem → Prop) (s : Slots) (M : Mem) : wpC P c19_7 Q s M = w19_7 P Q M (sget s 1) (sget s 5) (sget s 8) (sget s 9) (sget s 10) := by kernel_rfl
def c19_8 : ACode := (.cond (.tmp 11) .skip (.exit 0))
def o19_9 : List AOper := [⟨some 12, (.mov (.tmp 10)), false, none⟩,
  ⟨some 13, (.indexSl 5 (.tmp 8) (.tmp 10)), false, none⟩,
  ⟨some 14, (.load 5 true (.tmp 13)), false, none⟩,
  ⟨some 7, (.alloc [(.int .i64 0), (.int .i64 0), (.int .i64 0), (.bool false), (.bool false)]), false, none⟩,
  ⟨some 6, (.mov (.tmp 12)), false, none⟩,
  ⟨none, (.store 5 (.tmp 7) (.tmp 14)), false, none⟩]
def c19_10 : ACode := (.region o19_9 [1, 5, 6, 7, 8, 9, 10])
def w19_10 (_P : Program) (Q : Exit → Slots → Mem → Prop) (M : Mem) (v1 : V) (v5 : V) (v8 : V) (v9 : V) (v10 : V) : Prop :=
  @OptVH (indexSlV 5 v8 v10 M) ⟨fun t13_2 =>
  @OptVH (loadV 5 true t13_2 M) ⟨fun t14_3 =>
  @OptMH (allocV [(.int .i64 0), (.int .i64 0), (.int .i64 0), (.bool false), (.bool false)] M) ⟨fun t7_4 M4 =>
  @OptMH (storeVM 5 t7_4 t14_3 M4) ⟨fun _tx_6 M6 =>
  Q .normal [(1, v1), (5, v5), (6, v10), (7, t7_4), (8, v8), (9, v9), (10, v10)] M6⟩⟩⟩⟩
theorem e19_10 (P : Program) (Q : Exit → Slots → Mem → Prop) (s : Slots) (M : Mem) : wpC P c19_10 Q s M = w19_10 P Q M (sget s 1) (sget s 5) (sget s 8) (sget s 9) (sget s 10) := by kernel_rfl
def o19_11 : List AOper := [⟨some 19, (.mov (.tmp 5)), false, none⟩,
  ⟨some 20, (.mov (.tmp 6)), false, none⟩,
  ⟨some 21, (.buildSlice [(.int .i64 0)] 1 1 [(0, (1, (.tmp 20)))]), false, none⟩,
  ⟨some 22, (.append false 1 8 (.tmp 19) (.tmp 21)), false, none⟩,
  ⟨some 5, (.mov (.tmp 22)), false, none⟩]
def c19_12 : ACode := (.region o19_11 [1, 5, 8, 9, 10])
def w19_12 (_P : Program) (Q : Exit → Slots → Mem → Prop) (M : Mem) (v1 : V) (v5 : V) (v6 : V) (v8 : V) (v9 : V) (v10 : V) : Prop :=
  @OptVH (buildSliceV [(.int .i64 0)] 1 1 [(0, 1, v6)]) ⟨fun t21_3 =>
  @OptMH (appV false 1 8 v5 t21_3 M) ⟨fun t22_4 M4 =>
  Q .normal [(1, v1), (5, t22_4), (8, v8), (9, v9), (10, v10)] M4⟩⟩
theorem e19_12 (P : Program) (Q : Exit → Slots → Mem → Prop) (s : Slots) (M : Mem) : wpC P c19_12 Q s M = w19_12 P Q M (sget s 1) (sget s 5) (sget s 6) (sget s 8) (sget s 9) (sget s 10) := by kernel_rfl
def o19_13 : List AOper := [⟨some 15, (.fieldAddr 0 (.tmp 7)), false, none⟩,
  ⟨some 16, (.load 1 false (.tmp 15)), false, none⟩,
  ⟨some 17, (.mov (.tmp 1)), false, none⟩,
  ⟨some 18, (.bin .eql .none (.tmp 16) (.tmp 17)), true, none⟩]
def c19_14 : ACode := (.seq (.region o19_13 [1, 5, 6, 8, 9, 10, 18]) (.cond (.tmp 18) c19_12 .skip))
def w19_14 (P : Program) (Q : Exit → Slots → Mem → Prop) (M : Mem) (v1 : V) (v5 : V) (v6 : V) (v7 : V) (v8 : V) (v9 : V) (v10 : V) : Prop :=
  @OptVH (moveV 0 v7) ⟨fun t15_1 =>
  @OptVH (loadV 1 false t15_1 M) ⟨fun t16_2 =>
  @OptBH (binV .eql .none t16_2 v1) ⟨fun b18_4 =>
  @BIfH b18_4
  ⟨wpC P c19_12 Q [(1, v1), (5, v5), (6, v6), (8, v8), (9, v9), (10, v10), (18, (.bool b18_4))] M⟩
  ⟨Q .normal [(1, v1), (5, v5), (6, v6), (8, v8), (9, v9), (10, v10), (18, (.bool b18_4))] M⟩⟩⟩⟩
theorem e19_14 (P : Program) (Q : Exit → Slots → Mem → Prop) (s : Slots) (M : Mem) : wpC P c19_14 Q s M = w19_14 P Q M (sget s 1) (sget s 5) (sget s 6) (sget s 7) (sget s 8) (sget s 9) (sget s 10) := by kernel_rfl
def c19_15 : ACode := (.seq c19_10 c19_14)
def c19_16 : ACode := (.block 1 c19_15)
def o19_17 : List AOper := [⟨some 23, (.bin .add .none (.tmp 10) (.const (.int .i64 1))), false, none⟩,
  ⟨some 10, (.mov (.tmp 23)), false, none⟩]
def c19_18 : ACode := (.region o19_17 [1, 5, 8, 9, 10])
def w19_18 (_P : Program) (Q : Exit → Slots → Mem → Prop) (M : Mem) (v1 : V) (v5 : V) (v8 : V) (v9 : V) (v10 : V) : Prop :=
  @OptVH (binV .add .none v10 (.int .i64 1)) ⟨fun t23_1 =>
  Q .normal [(1, v1), (5, v5), (8, v8), (9, v9), (10, t23_1)] M⟩
theorem e19_18 (P : Program) (Q : Exit → Slots → Mem → Prop) (s : Slots) (M : Mem) : wpC P c19_18 Q s M = w19_18 P Q M (sget s 1) (sget s 5) (sget s 8) (sget s 9) (sget s 10) := by kernel_rfl
def c19_19 : ACode := (.seq c19_16 c19_18)
def c19_20 : ACode := (.seq c19_8 c19_19)
def c19_21 : ACode := (.seq c19_7 c19_20)
def c19_22 : ACode := (.loop [1, 5, 8, 9, 10] c19_21)
def c19_23 : ACode := (.block 0 c19_22)
def c19_24 : ACode := (.seq c19_5 c19_23)
def o19_25 : List AOper := [⟨some 24, (.mov (.tmp 5)), false, none⟩,
  ⟨some 4, (.mov (.tmp 24)), false, none⟩]
def c19_26 : ACode := (.region o19_25 [4])
def w19_26 (_P : Program) (Q : Exit → Slots → Mem → Prop) (M : Mem) (v5 : V) : Prop :=
  Q .normal [(4, v5)] M
theorem e19_26 (P : Program) (Q : Exit → Slots → Mem → Prop) (s : Slots) (M : Mem) : wpC P c19_26 Q s M = w19_26 P Q M (sget s 5) := by kernel_rfl
def c19_27 : ACode := (.seq c19_26 .ret)
def c19_28 : ACode := (.seq c19_24 c19_27)
def c19_29 : ACode := (.seq c19_3 c19_28)
def c19_30 : ACode := (.seq c19_1 c19_29)
def fn_call_At : AFn := ⟨25, [(.tmp 4)], c19_30⟩
theorem fn_call_At_ok : resFn PR h_call_At i_call_At = some fn_call_At := by kernel_rfl

def h_transitref16_At : Hints := ⟨[(0, [0, 1]), (1, [0, 1, 5]), (2, [0, 1, 5, 6]), (3, [0, 1, 5, 6, 10]), (4, [0, 1, 5, 6]), (5, [0, 1, 5, 6, 19]), (6, [0, 1, 5, 6]), (7, [4])], [(3, [0, 1, 5, 6])], [(1, [0])]⟩
def o20_0 : List AOper := [⟨some 4, (.mov (.const (.slice [] .nil))), false, none⟩]
def c20_1 : ACode := (.region o20_0 [0, 1])
def w20_1 (_P : Program) (Q : Exit → Slots → Mem → Prop) (M : Mem) (v0 : V) (v1 : V) : Prop :=
  Q .normal [(0, v0), (1, v1)] M
theorem e20_1 (P : Program) (Q : Exit → Slots → Mem → Prop) (s : Slots) (M : Mem) : wpC P c20_1 Q s M = w20_1 P Q M (sget s 0) (sget s 1) := by kernel_rfl
def o20_2 : List AOper := [⟨some 5, (.newarr 1), false, none⟩]
def c20_3 : ACode := (.region o20_2 [0, 1, 5])
def w20_3 (_P : Program) (Q : Exit → Slots → Mem → Prop) (M : Mem) (v0 : V) (v1 : V) : Prop :=
  @OptMH (newarrV 1 M) ⟨fun t5_1 M1 =>
  Q .normal [(0, v0), (1, v1), (5, t5_1)] M1⟩
theorem e20_3 (P : Program) (Q : Exit → Slots → Mem → Prop) (s : Slots) (M : Mem) : wpC P c20_3 Q s M = w20_3 P Q M (sget s 0) (sget s 1) := by kernel_rfl
def o20_4 : List AOper := [⟨some 6, (.mov (.const (.int .i64 0))), false, none⟩]
def c20_5 : ACode := (.region o20_4 [0, 1, 5, 6])
def w20_5 (_P : Program) (Q : Exit → Slots → Mem → Prop) (M : Mem) (v0 : V) (v1 : V) (v5 : V) : Prop :=
  Q .normal [(0, v0), (1, v1), (5, v5), (6, (.int .i64 0))] M
theorem e20_5 (P : Program) (Q : Exit → Slots → Mem → Prop) (s : Slots) (M : Mem) : wpC P c20_5 Q s M = w20_5 P Q M (sget s 0) (sget s 1) (sget s 5) := by kernel_rfl
def o20_6 : List AOper := [⟨some 7, (.mov (.tmp 6)), false, none⟩,
  ⟨some 8, (.mov (.tmp 0)), false, none⟩,
  ⟨some 9, (.lenSl (.tmp 8)), false, none⟩,
  ⟨some 10, (.bin .lss .none (.tmp 7) (.tmp 9)), true, none⟩]
def c20_7 : ACode := (.seq (.region o20_6 [0, 1, 5, 6, 10]) (.cond (.tmp 10) .skip (.exit 0)))
def w20_7 (_P : Program) (Q : Exit → Slots → Mem → Prop) (M : Mem) (v0 : V) (v1 : V) (v5 : V) (v6 : V) : Prop :=
  @OptVH (lenV v0 M) ⟨fun t9_3 =>
  @OptBH (binV .lss .none v6 t9_3) ⟨fun b10_4 =>
  @BIfH b10_4
  ⟨Q .normal [(0, v0), (1, v1), (5, v5), (6, v6), (10, (.bool b10_4))] M⟩
  ⟨Q (.exit 0) [(0, v0), (1, v1), (5, v5), (6, v6), (10, (.bool b10_4))] M⟩⟩⟩
theorem e20_7 (P : Program) (Q : Exit → Slots → Mem → Prop) (s : Slots) (M : Mem) : wpC P c20_7 Q s M = w20_7 P Q M (sget s 0) (sget s 1) (sget s 5) (sget s 6) := by kernel_rfl
def o20_8 : List AOper := [⟨some 20, (.mov (.tmp 5)), false, none⟩,
  ⟨some 21, (.mov (.tmp 6)), false, none⟩,
  ⟨some 22, (.buildSlice [(.int .i64 0)] 1 1 [(0, (1, (.tmp 21)))]), false, none⟩,
  ⟨some 23, (.append false 1 8 (.tmp 20) (.tmp 22)), false, none⟩,
  ⟨some 5, (.mov (.tmp 23)), false, none⟩]
def c20_9 : ACode := (.region o20_8 [0, 1, 5, 6])
def w20_9 (_P : Program) (Q : Exit → Slots → Mem → Prop) (M : Mem) (v0 : V) (v1 : V) (v5 : V) (v6 : V) : Prop :=
  @OptVH (buildSliceV [(.int .i64 0)] 1 1 [(0, 1, v6)]) ⟨fun t22_3 =>
  @OptMH (appV false 1 8 v5 t22_3 M) ⟨fun t23_4 M4 =>
  Q .normal [(0, v0), (1, v1), (5, t23_4), (6, v6)] M4⟩⟩
theorem e20_9 (P : Program) (Q : Exit → Slots → Mem → Prop) (s : Slots) (M : Mem) : wpC P c20_9 Q s M = w20_9 P Q M (sget s 0) (sget s 1) (sget s 5) (sget s 6) := by kernel_rfl
def o20_10 : List AOper := [⟨some 13, (.mov (.tmp 0)), false, none⟩,
  ⟨some 14, (.mov (.tmp 6)), false, none⟩,
  ⟨some 15, (.indexSl 5 (.tmp 13) (.tmp 14)), false, none⟩,
  ⟨some 16, (.fieldAddr 0 (.tmp 15)), false, none⟩,
  ⟨some 17, (.load 1 false (.tmp 16)), false, none⟩,
  ⟨some 18, (.mov (.tmp 1)), false, none⟩,
  ⟨some 19, (.bin .eql .none (.tmp 17) (.tmp 18)), true, none⟩]
def c20_11 : ACode := (.seq (.region o20_10 [0, 1, 5, 6, 19]) (.cond (.tmp 19) c20_9 .skip))
def w20_11 (P : Program) (Q : Exit → Slots → Mem → Prop) (M : Mem) (v0 : V) (v1 : V) (v5 : V) (v6 : V) : Prop :=
  @OptVH (indexSlV 5 v0 v6 M) ⟨fun t15_3 =>
  @OptVH (moveV 0 t15_3) ⟨fun t16_4 =>
  @OptVH (loadV 1 false t16_4 M) ⟨fun t17_5 =>
  @OptBH (binV .eql .none t17_5 v1) ⟨fun b19_7 =>
  @BIfH b19_7
  ⟨wpC P c20_9 Q [(0, v0), (1, v1), (5, v5), (6, v6), (19, (.bool b19_7))] M⟩
  ⟨Q .normal [(0, v0), (1, v1), (5, v5), (6, v6), (19, (.bool b19_7))] M⟩⟩⟩⟩⟩
theorem e20_11 (P : Program) (Q : Exit → Slots → Mem → Prop) (s : Slots) (M : Mem) : wpC P c20_11 Q s M = w20_11 P Q M (sget s 0) (sget s 1) (sget s 5) (sget s 6) := by kernel_rfl
def c20_12 : ACode := (.block 1 c20_11)
def o20_13 : List AOper := [⟨some 11, (.mov (.tmp 6)), false, none⟩,
  ⟨some 12, (.bin .add .none (.tmp 11) (.const (.int .i64 1))), false, none⟩,
  ⟨some 6, (.mov (.tmp 12)), false, none⟩]
def c20_14 : ACode := (.region o20_13 [0, 1, 5, 6])
def w20_14 (_P : Program) (Q : Exit → Slots → Mem → Prop) (M : Mem) (v0 : V) (v1 : V) (v5 : V) (v6 : V) : Prop :=
  @OptVH (binV .add .none v6 (.int .i64 1)) ⟨fun t12_2 =>
  Q .normal [(0, v0), (1, v1), (5, v5), (6, t12_2)] M⟩
theorem e20_14 (P : Program) (Q : Exit → Slots → Mem → Prop) (s : Slots) (M : Mem) : wpC P c20_14 Q s M = w20_14 P Q M (sget s 0) (sget s 1) (sget s 5) (sget s 6) := by kernel_rfl
def c20_15 : ACode := (.seq c20_12 c20_14)
def c20_16 : ACode := (.seq c20_7 c20_15)
def c20_17 : ACode := (.loop [0, 1, 5, 6] c20_16)
def c20_18 : ACode := (.block 0 c20_17)
def c20_19 : ACode := (.seq c20_5 c20_18)
def o20_20 : List AOper := [⟨some 24, (.mov (.tmp 5)), false, none⟩,
  ⟨some 4, (.mov (.tmp 24)), false, none⟩]
def c20_21 : ACode := (.region o20_20 [4])
def w20_21 (_P : Program) (Q : Exit → Slots → Mem → Prop) (M : Mem) (v5 : V) : Prop :=
  Q .normal [(4, v5)] M
theorem e20_21 (P : Program) (Q : Exit → Slots → Mem → Prop) (s : Slots) (M : Mem) : wpC P c20_21 Q s M = w20_21 P Q M (sget s 5) := by kernel_rfl
def c20_22 : ACode := (.seq c20_21 .ret)
def c20_23 : ACode := (.seq c20_19 c20_22)
def c20_24 : ACode := (.seq c20_3 c20_23)
def c20_25 : ACode := (.seq c20_1 c20_24)
def fn_transitref16_At : AFn := ⟨25, [(.tmp 4)], c20_25⟩
theorem fn_transitref16_At_ok : resFn PR h_transitref16_At i_transitref16_At = some fn_transitref16_At := by kernel_rfl

def h_call_Duration : Hints := ⟨[(0, [0]), (1, [0, 5]), (2, [2]), (3, [2])], [], []⟩
def o21_0 : List AOper := [⟨some 2, (.mov (.const (.int .i64 0))), false, none⟩]
def c21_1 : ACode := (.region o21_0 [0])
def w21_1 (_P : Program) (Q : Exit → Slots → Mem → Prop) (M : Mem) (v0 : V) : Prop :=
  Q .normal [(0, v0)] M
theorem e21_1 (P : Program) (Q : Exit → Slots → Mem → Prop) (s : Slots) (M : Mem) : wpC P c21_1 Q s M = w21_1 P Q M (sget s 0) := by kernel_rfl
def o21_2 : List AOper := [⟨some 2, (.mov (.const (.int .i64 0))), false, none⟩]
def c21_3 : ACode := (.region o21_2 [2])
def w21_3 (_P : Program) (Q : Exit → Slots → Mem → Prop) (M : Mem) : Prop :=
  Q .normal [(2, (.int .i64 0))] M
theorem e21_3 (P : Program) (Q : Exit → Slots → Mem → Prop) (s : Slots) (M : Mem) : wpC P c21_3 Q s M = w21_3 P Q M := by kernel_rfl
def c21_4 : ACode := (.seq c21_3 .ret)
def o21_5 : List AOper := [⟨some 3, (.mov (.tmp 0)), false, none⟩,
  ⟨some 4, (.lenSl (.tmp 3)), false, none⟩,
  ⟨some 5, (.bin .lss .none (.tmp 4) (.const (.int .i64 2))), true, none⟩]
def c21_6 : ACode := (.seq (.region o21_5 [0, 5]) (.cond (.tmp 5) c21_4 .skip))
def w21_6 (P : Program) (Q : Exit → Slots → Mem → Prop) (M : Mem) (v0 : V) : Prop :=
  @OptVH (lenV v0 M) ⟨fun t4_2 =>
  @OptBH (binV .lss .none t4_2 (.int .i64 2)) ⟨fun b5_3 =>
  @BIfH b5_3
  ⟨wpC P c21_4 Q [(0, v0), (5, (.bool b5_3))] M⟩
  ⟨Q .normal [(0, v0), (5, (.bool b5_3))] M⟩⟩⟩
theorem e21_6 (P : Program) (Q : Exit → Slots → Mem → Prop) (s : Slots) (M : Mem) : wpC P c21_6 Q s M = w21_6 P Q M (sget s 0) := by kernel_rfl
def o21_7 : List AOper := [⟨some 6, (.mov (.tmp 0)), false, none⟩,
  ⟨some 7, (.mov (.tmp 0)), false, none⟩,
  ⟨some 8, (.lenSl (.tmp 7)), false, none⟩,
  ⟨some 9, (.bin .sub .none (.tmp 8) (.const (.int .i64 1))), false, none⟩,
  ⟨some 10, (.indexSl 5 (.tmp 6) (.tmp 9)), false, none⟩,
  ⟨some 11, (.fieldAddr 1 (.tmp 10)), false, none⟩,
  ⟨some 12, (.load 1 false (.tmp 11)), false, none⟩,
  ⟨some 13, (.mov (.tmp 0)), false, none⟩,
  ⟨some 14, (.indexSl 5 (.tmp 13) (.const (.int .i64 0))), false, none⟩,
  ⟨some 15, (.fieldAddr 2 (.tmp 14)), false, none⟩,
  ⟨some 16, (.load 1 false (.tmp 15)), false, none⟩,
  ⟨some 17, (.bin .sub .none (.tmp 12) (.tmp 16)), false, none⟩,
  ⟨some 2, (.mov (.tmp 17)), false, none⟩]
def c21_8 : ACode := (.mixed o21_7 [true, true, true, true, true, true, true, true, true, true, true, true, true] [2])
def w21_8 (_P : Program) (Q : Exit → Slots → Mem → Prop) (M : Mem) (v0 : V) : Prop :=
  @OptVH (lenV v0 M) ⟨fun t8_3 =>
  @OptVH (binV .sub .none t8_3 (.int .i64 1)) ⟨fun t9_4 =>
  @OptVH (indexSlV 5 v0 t9_4 M) ⟨fun t10_5 =>
  @OptVH (moveV 1 t10_5) ⟨fun t11_6 =>
  @OptVH (loadV 1 false t11_6 M) ⟨fun t12_7 =>
  @OptVH (indexSlV 5 v0 (.int .i64 0) M) ⟨fun t14_9 =>
  @OptVH (moveV 2 t14_9) ⟨fun t15_10 =>
  @OptVH (loadV 1 false t15_10 M) ⟨fun t16_11 =>
  @OptVH (binV .sub .none t12_7 t16_11) ⟨fun t17_12 =>
  Q .normal [(2, t17_12)] M⟩⟩⟩⟩⟩⟩⟩⟩⟩
theorem e21_8 (P : Program) (Q : Exit → Slots → Mem → Prop) (s : Slots) (M : Mem) : wpC P c21_8 Q s M = w21_8 P Q M (sget s 0) := by kernel_rfl
def c21_9 : ACode := (.seq c21_8 .ret)
def c21_10 : ACode := (.seq c21_6 c21_9)
def c21_11 : ACode := (.seq c21_1 c21_10)
def fn_call_Duration : AFn := ⟨18, [(.tmp 2)], c21_11⟩
theorem fn_call_Duration_ok : resFn PR h_call_Duration i_call_Duration = some fn_call_Duration := by kernel_rfl

def h_transitref16_Duration : Hints := ⟨[(0, [0]), (1, [0, 5]), (2, [2]), (3, [2])], [], []⟩
def o22_0 : List AOper := [⟨some 2, (.mov (.const (.int .i64 0))), false, none⟩]
def c22_1 : ACode := (.region o22_0 [0])
def w22_1 (_P : Program) (Q : Exit → Slots → Mem → Prop) (M : Mem) (v0 : V) : Prop :=
  Q .normal [(0, v0)] M
theorem e22_1 (P : Program) (Q : Exit → Slots → Mem → Prop) (s : Slots) (M : Mem) : wpC P c22_1 Q s M = w22_1 P Q M (sget s 0) := by kernel_rfl
def o22_2 : List AOper := [⟨some 2, (.mov (.const (.int .i64 0))), false, none⟩]
def c22_3 : ACode := (.region o22_2 [2])
def w22_3 (_P : Program) (Q : Exit → Slots → Mem → Prop) (M : Mem) : Prop :=
  Q .normal [(2, (.int .i64 0))] M
theorem e22_3 (P : Program) (Q : Exit → Slots → Mem → Prop) (s : Slots) (M : Mem) : wpC P c22_3 Q s M = w22_3 P Q M := by kernel_rfl
def c22_4 : ACode := (.seq c22_3 .ret)
def o22_5 : List AOper := [⟨some 3, (.mov (.tmp 0)), false, none⟩,
  ⟨some 4, (.lenSl (.tmp 3)), false, none⟩,
  ⟨some 5, (.bin .lss .none (.tmp 4) (.const (.int .i64 2))), true, none⟩]
def c22_6 : ACode := (.seq (.region o22_5 [0, 5]) (.cond (.tmp 5) c22_4 .skip))
def w22_6 (P : Program) (Q : Exit → Slots → Mem → Prop) (M : Mem) (v0 : V) : Prop :=
  @OptVH (lenV v0 M) ⟨fun t4_2 =>
  @OptBH (binV .lss .none t4_2 (.int .i64 2)) ⟨fun b5_3 =>
  @BIfH b5_3
  ⟨wpC P c22_4 Q [(0, v0), (5, (.bool b5_3))] M⟩
  ⟨Q .normal [(0, v0), (5, (.bool b5_3))] M⟩⟩⟩
theorem e22_6 (P : Program) (Q : Exit → Slots → Mem → Prop) (s : Slots) (M : Mem) : wpC P c22_6 Q s M = w22_6 P Q M (sget s 0) := by kernel_rfl
def o22_7 : List AOper := [⟨some 6, (.mov (.tmp 0)), false, none⟩,
  ⟨some 7, (.mov (.tmp 0)), false, none⟩,
  ⟨some 8, (.lenSl (.tmp 7)), false, none⟩,
  ⟨some 9, (.bin .sub .none (.tmp 8) (.const (.int .i64 1))), false, none⟩,
  ⟨some 10, (.indexSl 5 (.tmp 6) (.tmp 9)), false, none⟩,
  ⟨some 11, (.fieldAddr 1 (.tmp 10)), false, none⟩,
  ⟨some 12, (.load 1 false (.tmp 11)), false, none⟩,
  ⟨some 13, (.mov (.tmp 0)), false, none⟩,
  ⟨some 14, (.indexSl 5 (.tmp 13) (.const (.int .i64 0))), false, none⟩,
  ⟨some 15, (.fieldAddr 2 (.tmp 14)), false, none⟩,
  ⟨some 16, (.load 1 false (.tmp 15)), false, none⟩,
  ⟨some 17, (.bin .sub .none (.tmp 12) (.tmp 16)), false, none⟩,
  ⟨some 2, (.mov (.tmp 17)), false, none⟩]
def c22_8 : ACode := (.mixed o22_7 [true, true, true, true, true, true, true, true, true, true, true, true, true] [2])
def w22_8 (_P : Program) (Q : Exit → Slots → Mem → Prop) (M : Mem) (v0 : V) : Prop :=
  @OptVH (lenV v0 M) ⟨fun t8_3 =>
  @OptVH (binV .sub .none t8_3 (.int .i64 1)) ⟨fun t9_4 =>
  @OptVH (indexSlV 5 v0 t9_4 M) ⟨fun t10_5 =>
  @OptVH (moveV 1 t10_5) ⟨fun t11_6 =>
  @OptVH (loadV 1 false t11_6 M) ⟨fun t12_7 =>
  @OptVH (indexSlV 5 v0 (.int .i64 0) M) ⟨fun t14_9 =>
  @OptVH (moveV 2 t14_9) ⟨fun t15_10 =>
  @OptVH (loadV 1 false t15_10 M) ⟨fun t16_11 =>
  @OptVH (binV .sub .none t12_7 t16_11) ⟨fun t17_12 =>
  Q .normal [(2, t17_12)] M⟩⟩⟩⟩⟩⟩⟩⟩⟩
theorem e22_8 (P : Program) (Q : Exit → Slots → Mem → Prop) (s : Slots) (M : Mem) : wpC P c22_8 Q s M = w22_8 P Q M (sget s 0) := by kernel_rfl
def c22_9 : ACode := (.seq c22_8 .ret)
def c22_10 : ACode := (.seq c22_6 c22_9)
def c22_11 : ACode := (.seq c22_1 c22_10)
def fn_transitref16_Duration : AFn := ⟨18, [(.tmp 2)], c22_11⟩
theorem fn_transitref16_Duration_ok : resFn PR h_transitref16_Duration i_transitref16_Duration = some fn_transitref16_Duration := by kernel_rfl

def h_transitref16_Equal : Hints := ⟨[(0, [0, 1]), (1, [0, 1, 10]), (2, [4]), (3, [0, 1, 5]), (4, [0, 1, 5, 14]), (5, [0, 1, 5]), (6, [0, 1, 5, 25]), (7, [4]), (8, [4])], [(4, [0, 1, 5])], []⟩
def o23_0 : List AOper := [⟨some 4, (.mov (.const (.bool false))), true, none⟩]
def c23_1 : ACode := (.region o23_0 [0, 1])
def w23_1 (_P : Program) (Q : Exit → Slots → Mem → Prop) (M : Mem) (v0 : V) (v1 : V) : Prop :=
  Q .normal [(0, v0), (1, v1)] M
theorem e23_1 (P : Program) (Q : Exit → Slots → Mem → Prop) (s : Slots) (M : Mem) : wpC P c23_1 Q s M = w23_1 P Q M (sget s 0) (sget s 1) := by kernel_rfl
def o23_2 : List AOper := [⟨some 4, (.mov (.const (.bool false))), true, none⟩]
def c23_3 : ACode := (.region o23_2 [4])
def w23_3 (_P : Program) (Q : Exit → Slots → Mem → Prop) (M : Mem) : Prop :=
  Q .normal [(4, (.bool false))] M
theorem e23_3 (P : Program) (Q : Exit → Slots → Mem → Prop) (s : Slots) (M : Mem) : wpC P c23_3 Q s M = w23_3 P Q M := by kernel_rfl
def c23_4 : ACode := (.seq c23_3 .ret)
def o23_5 : List AOper := [⟨some 6, (.mov (.tmp 0)), false, none⟩,
  ⟨some 7, (.lenSl (.tmp 6)), false, none⟩,
  ⟨some 8, (.mov (.tmp 1)), false, none⟩,
  ⟨some 9, (.lenSl (.tmp 8)), false, none⟩,
  ⟨some 10, (.bin .neq .none (.tmp 7) (.tmp 9)), true, none⟩]
def c23_6 : ACode := (.seq (.region o23_5 [0, 1, 10]) (.cond (.tmp 10) c23_4 .skip))
def w23_6 (P : Program) (Q : Exit → Slots → Mem → Prop) (M : Mem) (v0 : V) (v1 : V) : Prop :=
  @OptVH (lenV v0 M) ⟨fun t7_2 =>
  @OptVH (lenV v1 M) ⟨fun t9_4 =>
  @OptBH (binV .neq .none t7_2 t9_4) ⟨fun b10_5 =>
  @BIfH b10_5
  ⟨wpC P c23_4 Q [(0, v0), (1, v1), (10, (.bool b10_5))] M⟩
  ⟨Q .normal [(0, v0), (1, v1), (10, (.bool b10_5))] M⟩⟩⟩⟩
theorem e23_6 (P : Program) (Q : Exit → Slots → Mem → Prop) (s : Slots) (M : Mem) : wpC P c23_6 Q s M = w23_6 P Q M (sget s 0) (sget s 1) := by kernel_rfl
def o23_7 : List AOper := [⟨some 5, (.mov (.const (.int .i64 0))), false, none⟩]
def c23_8 : ACode := (.region o23_7 [0, 1, 5])
def w23_8 (_P : Program) (Q : Exit → Slots → Mem → Prop) (M : Mem) (v0 : V) (v1 : V) : Prop :=
  Q .normal [(0, v0), (1, v1), (5, (.int .i64 0))] M
theorem e23_8 (P : Program) (Q : Exit → Slots → Mem → Prop) (s : Slots) (M : Mem) : wpC P c23_8 Q s M = w23_8 P Q M (sget s 0) (sget s 1) := by kernel_rfl
def o23_9 : List AOper := [⟨some 11, (.mov (.tmp 5)), false, none⟩,
  ⟨some 12, (.mov (.tmp 0)), false, none⟩,
  ⟨some 13, (.lenSl (.tmp 12)), false, none⟩,
  ⟨some 14, (.bin .lss .none (.tmp 11) (.tmp 13)), true, none⟩]
def c23_10 : ACode := (.seq (.region o23_9 [0, 1, 5, 14]) (.cond (.tmp 14) .skip (.exit 0)))
def w23_10 (_P : Program) (Q : Exit → Slots → Mem → Prop) (M : Mem) (v0 : V) (v1 : V) (v5 : V) : Prop :=
  @OptVH (lenV v0 M) ⟨fun t13_3 =>
  @OptBH (binV .lss .none v5 t13_3) ⟨fun b14_4 =>
  @BIfH b14_4
  ⟨Q .normal [(0, v0), (1, v1), (5, v5), (14, (.bool b14_4))] M⟩
  ⟨Q (.exit 0) [(0, v0), (1, v1), (5, v5), (14, (.bool b14_4))] M⟩⟩⟩
theorem e23_10 (P : Program) (Q : Exit → Slots → Mem → Prop) (s : Slots) (M : Mem) : wpC P c23_10 Q s M = w23_10 P Q M (sget s 0) (sget s 1) (sget s 5) := by kernel_rfl
def o23_11 : List AOper := [⟨some 4, (.mov (.const (.bool false))), true, none⟩]
def c23_12 : ACode := (.region o23_11 [4])
def w23_12 (_P : Program) (Q : Exit → Slots → Mem → Prop) (M : Mem) : Prop :=
  Q .normal [(4, (.bool false))] M
theorem e23_12 (P : Program) (Q : Exit → Slots → Mem → Prop) (s : Slots) (M : Mem) : wpC P c23_12 Q s M = w23_12 P Q M := by kernel_rfl
def c23_13 : ACode := (.seq c23_12 .ret)
def o23_14 : List AOper := [⟨some 17, (.mov (.tmp 0)), false, none⟩,
  ⟨some 18, (.mov (.tmp 5)), false, none⟩,
  ⟨some 19, (.indexSl 5 (.tmp 17) (.tmp 18)), false, none⟩,
  ⟨some 20, (.load 5 true (.tmp 19)), false, none⟩,
  ⟨some 21, (.mov (.tmp 1)), false, none⟩,
  ⟨some 22, (.mov (.tmp 5)), false, none⟩,
  ⟨some 23, (.indexSl 5 (.tmp 21) (.tmp 22)), false, none⟩,
  ⟨some 24, (.load 5 true (.tmp 23)), false, none⟩,
  ⟨some 25, (.bin .neq (.cells [.int, .int, .int, .bool, .bool]) (.tmp 20) (.tmp 24)), true, none⟩]
def c23_15 : ACode := (.seq (.mixed o23_14 [true, true, true, true, true, true, true, true, true] [0, 1, 5, 25]) (.cond (.tmp 25) c23_13 .skip))
def w23_15 (P : Program) (Q : Exit → Slots → Mem → Prop) (M : Mem) (v0 : V) (v1 : V) (v5 : V) : Prop :=
  @OptVH (indexSlV 5 v0 v5 M) ⟨fun t19_3 =>
  @OptVH (loadV 5 true t19_3 M) ⟨fun t20_4 =>
  @OptVH (indexSlV 5 v1 v5 M) ⟨fun t23_7 =>
  @OptVH (loadV 5 true t23_7 M) ⟨fun t24_8 =>
  @OptBH (binV .neq (.cells [.int, .int, .int, .bool, .bool]) t20_4 t24_8) ⟨fun b25_9 =>
  @BIfH b25_9
  ⟨wpC P c23_13 Q [(0, v0), (1, v1), (5, v5), (25, (.bool b25_9))] M⟩
  ⟨Q .normal [(0, v0), (1, v1), (5, v5), (25, (.bool b25_9))] M⟩⟩⟩⟩⟩⟩
theorem e23_15 (P : Program) (Q : Exit → Slots → Mem → Prop) (s : Slots) (M : Mem) : wpC P c23_15 Q s M = w23_15 P Q M (sget s 0) (sget s 1) (sget s 5) := by kernel_rfl
def c23_16 : ACode := (.block 1 c23_15)
def o23_17 : List AOper := [⟨some 15, (.mov (.tmp 5)), false, none⟩,
  ⟨some 16, (.bin .add .none (.tmp 15) (.const (.int .i64 1))), false, none⟩,
  ⟨some 5, (.mov (.tmp 16)), false, none⟩]
def c23_18 : ACode := (.region o23_17 [0, 1, 5])
def w23_18 (_P : Program) (Q : Exit → Slots → Mem → Prop) (M : Mem) (v0 : V) (v1 : V) (v5 : V) : Prop :=
  @OptVH (binV .add .none v5 (.int .i64 1)) ⟨fun t16_2 =>
  Q .normal [(0, v0), (1, v1), (5, t16_2)] M⟩
theorem e23_18 (P : Program) (Q : Exit → Slots → Mem → Prop) (s : Slots) (M : Mem) : wpC P c23_18 Q s M = w23_18 P Q M (sget s 0) (sget s 1) (sget s 5) := by kernel_rfl
def c23_19 : ACode := (.seq c23_16 c23_18)
def c23_20 : ACode := (.seq c23_10 c23_19)
def c23_21 : ACode := (.loop [0, 1, 5] c23_20)
def c23_22 : ACode := (.block 0 c23_21)
def c23_23 : ACode := (.seq c23_8 c23_22)
def o23_24 : List AOper := [⟨some 4, (.mov (.const (.bool true))), true, none⟩]
def c23_25 : ACode := (.region o23_24 [4])
def w23_25 (_P : Program) (Q : Exit → Slots → Mem → Prop) (M : Mem) : Prop :=
  Q .normal [(4, (.bool true))] M
theorem e23_25 (P : Program) (Q : Exit → Slots → Mem → Prop) (s : Slots) (M : Mem) : wpC P c23_25 Q s M = w23_25 P Q M := by kernel_rfl
def c23_26 : ACode := (.seq c23_25 .ret)
def c23_27 : ACode := (.seq c23_23 c23_26)
def c23_28 : ACode := (.seq c23_6 c23_27)
def c23_29 : ACode := (.seq c23_1 c23_28)
def fn_transitref16_Equal : AFn := ⟨26, [(.tmp 4)], c23_29⟩
theorem fn_transitref16_Equal_ok : resFn PR h_transitref16_Equal i_transitref16_Equal = some fn_transitref16_Equal := by kernel_rfl

def h_call_Shift : Hints := ⟨[(0, [0, 1]), (1, [0, 1, 5]), (2, [1, 5, 8, 9, 10]), (3, [1, 5, 8, 9, 10, 11]), (4, [1, 5, 7, 8, 9, 10]), (5, [1, 5, 7, 8, 9, 10]), (6, [1, 5, 7, 8, 9, 10]), (7, [1, 5, 8, 9, 10]), (8, [1, 5, 8, 9, 10]), (9, [4])], [(3, [1, 5, 8, 9, 10])], [(1, [0])]⟩
def o24_0 : List AOper := [⟨some 4, (.mov (.const (.slice [] .nil))), false, none⟩]
def c24_1 : ACode := (.region o24_0 [0, 1])
def w24_1 (_P : Program) (Q : Exit → Slots → Mem → Prop) (M : Mem) (v0 : V) (v1 : V) : Prop :=
  Q .normal [(0, v0), (1, v1)] M
theorem e24_1 (P : Program) (Q : Exit → Slots → Mem → Prop) (s : Slots) (M : Mem) : wpC P c24_1 Q s M = w24_1 P Q M (sget s 0) (sget s 1) := by kernel_rfl
def o24_2 : List AOper := [⟨some 5, (.newarr 5), false, none⟩]
def c24_3 : ACode := (.region o24_2 [0, 1, 5])
def w24_3 (_P : Program) (Q : Exit → Slots → Mem → Prop) (M : Mem) (v0 : V) (v1 : V) : Prop :=
  @OptMH (newarrV 5 M) ⟨fun t5_1 M1 =>
  Q .normal [(0, v0), (1, v1), (5, t5_1)] M1⟩
theorem e24_3 (P : Program) (Q : Exit → Slots → Mem → Prop) (s : Slots) (M : Mem) : wpC P c24_3 Q s M = w24_3 P Q M (sget s 0) (sget s 1) := by kernel_rfl
def o24_4 : List AOper := [⟨some 8, (.mov (.tmp 0)), false, none⟩,
  ⟨some 9, (.lenSl (.tmp 8)), false, none⟩,
  ⟨some 10, (.mov (.const (.int .i64 0))), false, none⟩]
def c24_5 : ACode := (.region o24_4 [1, 5, 8, 9, 10])
def w24_5 (_P : Program) (Q : Exit → Slots → Mem → Prop) (M : Mem) (v0 : V) (v1 : V) (v5 : V) : Prop :=
  @OptVH (lenV v0 M) ⟨fun t9_2 =>
  Q .normal [(1, v1), (5, v5), (8, v0), (9, t9_2), (10, (.int .i64 0))] M⟩
theorem e24_5 (P : Program) (Q : Exit → Slots → Mem → Prop) (s : Slots) (M : Mem) : wpC P c24_5 Q s M = w24_5 P Q M (sget s 0) (sget s 1) (sget s 5) := by kernel_rfl
def o24_6 : List AOper := [⟨some 11, (.bin .lss .none (.tmp 10) (.tmp 9)), false, none⟩]
def c24_7 : ACode := (.region o24_6 [1, 5, 8, 9, 10, 11])
def w24_7 (_P : Program) (Q : Exit → Slots → Mem → Prop) (M : Mem) (v1 : V) (v5 : V) (v8 : V) (v9 : V) (v10 : V) : Prop :=
  @OptVH (binV .lss .none v10 v9) ⟨fun t11_1 =>
  Q .normal [(1, v1), (5, v5), (8, v8), (9, v9), (10, v10), (11, t11_1)] M⟩
theorem e24_7 (P : Program) (Q : Exit → Slots → Mem → Prop) (s : Slots) (M : Mem) : wpC P c24_7 Q s M = w24_7 P Q M (sget s 1) (sget s 5) (sget s 8) (sget s 9) (sget s 10) := by kernel_rfl
def c24_8 : ACode := (.cond (.tmp 11) .skip (.exit 0))
def o24_9 : List AOper := [⟨some 12, (.indexSl 5 (.tmp 8) (.tmp 10)), false, none⟩,
  ⟨some 13, (.load 5 true (.tmp 12)), false, none⟩,
  ⟨some 7, (.alloc [(.int .i64 0), (.int .i64 0), (.int .i64 0), (.bool false), (.bool false)]), false, none⟩,
  ⟨none, (.store 5 (.tmp 7) (.tmp 13)), false, none⟩]
def c24_10 : ACode := (.region o24_9 [1, 5, 7, 8, 9, 10])
def w24_10 (_P : Program) (Q : Exit → Slots → Mem → Prop) (M : Mem) (v1 : V) (v5 : V) (v8 : V) (v9 : V) (v10 : V) : Prop :=
  @OptVH (indexSlV 5 v8 v10 M) ⟨fun t12_1 =>
  @OptVH (loadV 5 true t12_1 M) ⟨fun t13_2 =>
  @OptMH (allocV [(.int .i64 0), (.int .i64 0), (.int .i64 0), (.bool false), (.bool false)] M) ⟨fun t7_3 M3 =>
  @OptMH (storeVM 5 t7_3 t13_2 M3) ⟨fun _tx_4 M4 =>
  Q .normal [(1, v1), (5, v5), (7, t7_3), (8, v8), (9, v9), (10, v10)] M4⟩⟩⟩⟩
theorem e24_10 (P : Program) (Q : Exit → Slots → Mem → Prop) (s : Slots) (M : Mem) : wpC P c24_10 Q s M = w24_10 P Q M (sget s 1) (sget s 5) (sget s 8) (sget s 9) (sget s 10) := by kernel_rfl
def o24_11 : List AOper := [⟨some 14, (.fieldAddr 1 (.tmp 7)), false, none⟩,
  ⟨some 15, (.load 1 false (.tmp 14)), false, none⟩,
  ⟨some 16, (.mov (.tmp 1)), false, none⟩,
  ⟨some 17, (.bin .add .none (.tmp 15) (.tmp 16)), false, none⟩,
  ⟨some 18, (.fieldAddr 1 (.tmp 7)), false, none⟩,
  ⟨none, (.store 1 (.tmp 18) (.tmp 17)), false, none⟩]
def c24_12 : ACode := (.region o24_11 [1, 5, 7, 8, 9, 10])
def w24_12 (_P : Program) (Q : Exit → Slots → Mem → Prop) (M : Mem) (v1 : V) (v5 : V) (v7 : V) (v8 : V) (v9 : V) (v10 : V) : Prop :=
  @OptVH (moveV 1 v7) ⟨fun t14_1 =>
  @OptVH (loadV 1 false t14_1 M) ⟨fun t15_2 =>
  @OptVH (binV .add .none t15_2 v1) ⟨fun t17_4 =>
  @OptVH (moveV 1 v7) ⟨fun t18_5 =>
  @OptMH (storeVM 1 t18_5 t17_4 M) ⟨fun _tx_6 M6 =>
  Q .normal [(1, v1), (5, v5), (7, v7), (8, v8), (9, v9), (10, v10)] M6⟩⟩⟩⟩⟩
theorem e24_12 (P : Program) (Q : Exit → Slots → Mem → Prop) (s : Slots) (M : Mem) : wpC P c24_12 Q s M = w24_12 P Q M (sget s 1) (sget s 5) (sget s 7) (sget s 8) (sget s 9) (sget s 10) := by kernel_rfl
def o24_13 : List AOper := [⟨some 19, (.fieldAddr 2 (.tmp 7)), false, none⟩,
  ⟨some 20, (.load 1 false (.tmp 19)), false, none⟩,
  ⟨some 21, (.mov (.tmp 1)), false, none⟩,
  ⟨some 22, (.bin .add .none (.tmp 20) (.tmp 21)), false, none⟩,
  ⟨some 23, (.fieldAddr 2 (.tmp 7)), false, none⟩,
  ⟨none, (.store 1 (.tmp 23) (.tmp 22)), false, none⟩]
def c24_14 : ACode := (.region o24_13 [1, 5, 7, 8, 9, 10])
def w24_14 (_P : Program) (Q : Exit → Slots → Mem → Prop) (M : Mem) (v1 : V) (v5 : V) (v7 : V) (v8 : V) (v9 : V) (v10 : V) : Prop :=
  @OptVH (moveV 2 v7) ⟨fun t19_1 =>
  @OptVH (loadV 1 false t19_1 M) ⟨fun t20_2 =>
  @OptVH (binV .add .none t20_2 v1) ⟨fun t22_4 =>
  @OptVH (moveV 2 v7) ⟨fun t23_5 =>
  @OptMH (storeVM 1 t23_5 t22_4 M) ⟨fun _tx_6 M6 =>
  Q .normal [(1, v1), (5, v5), (7, v7), (8, v8), (9, v9), (10, v10)] M6⟩⟩⟩⟩⟩
theorem e24_14 (P : Program) (Q : Exit → Slots → Mem → Prop) (s : Slots) (M : Mem) : wpC P c24_14 Q s M = w24_14 P Q M (sget s 1) (sget s 5) (sget s 7) (sget s 8) (sget s 9) (sget s 10) := by kernel_rfl
def o24_15 : List AOper := [⟨some 24, (.mov (.tmp 5)), false, none⟩,
  ⟨some 25, (.load 5 true (.tmp 7)), false, none⟩,
  ⟨some 26, (.buildSlice [(.int .i64 0), (.int .i64 0), (.int .i64 0), (.bool false), (.bool false)] 5 1 [(0, (5, (.tmp 25)))]), false, none⟩,
  ⟨some 27, (.append false 5 32 (.tmp 24) (.tmp 26)), false, none⟩,
  ⟨some 5, (.mov (.tmp 27)), false, none⟩]
def c24_16 : ACode := (.region o24_15 [1, 5, 8, 9, 10])
def w24_16 (_P : Program) (Q : Exit → Slots → Mem → Prop) (M : Mem) (v1 : V) (v5 : V) (v7 : V) (v8 : V) (v9 : V) (v10 : V) : Prop :=
  @OptVH (loadV 5 true v7 M) ⟨fun t25_2 =>
  @OptVH (buildSliceV [(.int .i64 0), (.int .i64 0), (.int .i64 0), (.bool false), (.bool false)] 5 1 [(0, 5, t25_2)]) ⟨fun t26_3 =>
  @OptMH (appV false 5 32 v5 t26_3 M) ⟨fun t27_4 M4 =>
  Q .normal [(1, v1), (5, t27_4), (8, v8), (9, v9), (10, v10)] M4⟩⟩⟩
theorem e24_16 (P : Program) (Q : Exit → Slots → Mem → Prop) (s : Slots) (M : Mem) : wpC P c24_16 Q s M = w24_16 P Q M (sget s 1) (sget s 5) (sget s 7) (sget s 8) (sget s 9) (sget s 10) := by kernel_rfl
def c24_17 : ACode := (.seq c24_14 c24_16)
def c24_18 : ACode := (.seq c24_12 c24_17)
def c24_19 : ACode := (.seq c24_10 c24_18)
def c24_20 : ACode := (.block 1 c24_19)
def o24_21 : List AOper := [⟨some 28, (.bin .add .none (.tmp 10) (.const (.int .i64 1))), false, none⟩,
  ⟨some 10, (.mov (.tmp 28)), false, none⟩]
def c24_22 : ACode := (.region o24_21 [1, 5, 8, 9, 10])
def w24_22 (_P : Program) (Q : Exit → Slots → Mem → Prop) (M : Mem) (v1 : V) (v5 : V) (v8 : V) (v9 : V) (v10 : V) : Prop :=
  @OptVH (binV .add .none v10 (.int .i64 1)) ⟨fun t28_1 =>
  Q .normal [(1, v1), (5, v5), (8, v8), (9, v9), (10, t28_1)] M⟩
theorem e24_22 (P : Program) (Q : Exit → Slots → Mem → Prop) (s : Slots) (M : Mem) : wpC P c24_22 Q s M = w24_22 P Q M (sget s 1) (sget s 5) (sget s 8) (sget s 9) (sget s 10) := by kernel_rfl
def c24_23 : ACode := (.seq c24_20 c24_22)
def c24_24 : ACode := (.seq c24_8 c24_23)
def c24_25 : ACode := (.seq c24_7 c24_24)
def c24_26 : ACode := (.loop [1, 5, 8, 9, 10] c24_25)
def c24_27 : ACode := (.block 0 c24_26)
def c24_28 : ACode := (.seq c24_5 c24_27)
def o24_29 : List AOper := [⟨some 29, (.mov (.tmp 5)), false, none⟩,
  ⟨some 4, (.mov (.tmp 29)), false, none⟩]
def c24_30 : ACode := (.region o24_29 [4])
def w24_30 (_P : Program) (Q : Exit → Slots → Mem → Prop) (M : Mem) (v5 : V) : Prop :=
  Q .normal [(4, v5)] M
theorem e24_30 (P : Program) (Q : Exit → Slots → Mem → Prop) (s : Slots) (M : Mem) : wpC P c24_30 Q s M = w24_30 P Q M (sget s 5) := by kernel_rfl
def c24_31 : ACode := (.seq c24_30 .ret)
def c24_32 : ACode := (.seq c24_28 c24_31)
def c24_33 : ACode := (.seq c24_3 c24_32)
def c24_34 : ACode := (.seq c24_1 c24_33)
def fn_call_Shift : AFn := ⟨30, [(.tmp 4)], c24_34⟩
theorem fn_call_Shift_ok : resFn PR h_call_Shift i_call_Shift = some fn_call_Shift := by kernel_rfl

def h_transitref16_Shift : Hints := ⟨[(0, [0, 1]), (1, [0, 1, 5]), (2, [0, 1, 5, 6]), (3, [0, 1, 5, 6, 11]), (4, [0, 1, 5, 6]), (5, [0, 1, 5, 6, 7]), (6, [0, 1, 5, 6, 7]), (7, [0, 1, 5, 6, 7]), (8, [0, 1, 5, 6]), (9, [4])], [(3, [0, 1, 5, 6])], [(1, [0])]⟩
def o25_0 : List AOper := [⟨some 4, (.mov (.const (.slice [] .nil))), false, none⟩]
def c25_1 : ACode := (.region o25_0 [0, 1])
def w25_1 (_P : Program) (Q : Exit → Slots → Mem → Prop) (M : Mem) (v0 : V) (v1 : V) : Prop :=
  Q .normal [(0, v0), (1, v1)] M
theorem e25_1 (P : Program) (Q : Exit → Slots → Mem → Prop) (s : Slots) (M : Mem) : wpC P c25_1 Q s M = w25_1 P Q M (sget s 0) (sget s 1) := by kernel_rfl
def o25_2 : List AOper := [⟨some 5, (.newarr 5), false, none⟩]
def c25_3 : ACode := (.region o25_2 [0, 1, 5])
def w25_3 (_P : Program) (Q : Exit → Slots → Mem → Prop) (M : Mem) (v0 : V) (v1 : V) : Prop :=
  @OptMH (newarrV 5 M) ⟨fun t5_1 M1 =>
  Q .normal [(0, v0), (1, v1), (5, t5_1)] M1⟩
theorem e25_3 (P : Program) (Q : Exit → Slots → Mem → Prop) (s : Slots) (M : Mem) : wpC P c25_3 Q s M = w25_3 P Q M (sget s 0) (sget s 1) := by kernel_rfl
def o25_4 : List AOper := [⟨some 6, (.mov (.const (.int .i64 0))), false, none⟩]
def c25_5 : ACode := (.region o25_4 [0, 1, 5, 6])
def w25_5 (_P : Program) (Q : Exit → Slots → Mem → Prop) (M : Mem) (v0 : V) (v1 : V) (v5 : V) : Prop :=
  Q .normal [(0, v0), (1, v1), (5, v5), (6, (.int .i64 0))] M
theorem e25_5 (P : Program) (Q : Exit → Slots → Mem → Prop) (s : Slots) (M : Mem) : wpC P c25_5 Q s M = w25_5 P Q M (sget s 0) (sget s 1) (sget s 5) := by kernel_rfl
def o25_6 : List AOper := [⟨some 8, (.mov (.tmp 6)), false, none⟩,
  ⟨some 9, (.mov (.tmp 0)), false, none⟩,
  ⟨some 10, (.lenSl (.tmp 9)), false, none⟩,
  ⟨some 11, (.bin .lss .none (.tmp 8) (.tmp 10)), true, none⟩]
def c25_7 : ACode := (.seq (.region o25_6 [0, 1, 5, 6, 11]) (.cond (.tmp 11) .skip (.exit 0)))
def w25_7 (_P : Program) (Q : Exit → Slots → Mem → Prop) (M : Mem) (v0 : V) (v1 : V) (v5 : V) (v6 : V) : Prop :=
  @OptVH (lenV v0 M) ⟨fun t10_3 =>
  @OptBH (binV .lss .none v6 t10_3) ⟨fun b11_4 =>
  @BIfH b11_4
  ⟨Q .normal [(0, v0), (1, v1), (5, v5), (6, v6), (11, (.bool b11_4))] M⟩
  ⟨Q (.exit 0) [(0, v0), (1, v1), (5, v5), (6, v6), (11, (.bool b11_4))] M⟩⟩⟩
theorem e25_7 (P : Program) (Q : Exit → Slots → Mem → Prop) (s : Slots) (M : Mem) : wpC P c25_7 Q s M = w25_7 P Q M (sget s 0) (sget s 1) (sget s 5) (sget s 6) := by kernel_rfl
def o25_8 : List AOper := [⟨some 14, (.mov (.tmp 0)), false, none⟩,
  ⟨some 15, (.mov (.tmp 6)), false, none⟩,
  ⟨some 16, (.indexSl 5 (.tmp 14) (.tmp 15)), false, none⟩,
  ⟨some 17, (.load 5 true (.tmp 16)), false, none⟩,
  ⟨some 7, (.alloc [(.int .i64 0), (.int .i64 0), (.int .i64 0), (.bool false), (.bool false)]), false, none⟩,
  ⟨none, (.store 5 (.tmp 7) (.tmp 17)), false, none⟩]
def c25_9 : ACode := (.region o25_8 [0, 1, 5, 6, 7])
def w25_9 (_P : Program) (Q : Exit → Slots → Mem → Prop) (M : Mem) (v0 : V) (v1 : V) (v5 : V) (v6 : V) : Prop :=
  @OptVH (indexSlV 5 v0 v6 M) ⟨fun t16_3 =>
  @OptVH (loadV 5 true t16_3 M) ⟨fun t17_4 =>
  @OptMH (allocV [(.int .i64 0), (.int .i64 0), (.int .i64 0), (.bool false), (.bool false)] M) ⟨fun t7_5 M5 =>
  @OptMH (storeVM 5 t7_5 t17_4 M5) ⟨fun _tx_6 M6 =>
  Q .normal [(0, v0), (1, v1), (5, v5), (6, v6), (7, t7_5)] M6⟩⟩⟩⟩
theorem e25_9 (P : Program) (Q : Exit → Slots → Mem → Prop) (s : Slots) (M : Mem) : wpC P c25_9 Q s M = w25_9 P Q M (sget s 0) (sget s 1) (sget s 5) (sget s 6) := by kernel_rfl
def o25_10 : List AOper := [⟨some 18, (.fieldAddr 1 (.tmp 7)), false, none⟩,
  ⟨some 19, (.load 1 false (.tmp 18)), false, none⟩,
  ⟨some 20, (.mov (.tmp 1)), false, none⟩,
  ⟨some 21, (.bin .add .none (.tmp 19) (.tmp 20)), false, none⟩,
  ⟨some 22, (.fieldAddr 1 (.tmp 7)), false, none⟩,
  ⟨none, (.store 1 (.tmp 22) (.tmp 21)), false, none⟩]
def c25_11 : ACode := (.region o25_10 [0, 1, 5, 6, 7])
def w25_11 (_P : Program) (Q : Exit → Slots → Mem → Prop) (M : Mem) (v0 : V) (v1 : V) (v5 : V) (v6 : V) (v7 : V) : Prop :=
  @OptVH (moveV 1 v7) ⟨fun t18_1 =>
  @OptVH (loadV 1 false t18_1 M) ⟨fun t19_2 =>
  @OptVH (binV .add .none t19_2 v1) ⟨fun t21_4 =>
  @OptVH (moveV 1 v7) ⟨fun t22_5 =>
  @OptMH (storeVM 1 t22_5 t21_4 M) ⟨fun _tx_6 M6 =>
  Q .normal [(0, v0), (1, v1), (5, v5), (6, v6), (7, v7)] M6⟩⟩⟩⟩⟩
theorem e25_11 (P : Program) (Q : Exit → Slots → Mem → Prop) (s : Slots) (M : Mem) : wpC P c25_11 Q s M = w25_11 P Q M (sget s 0) (sget s 1) (sget s 5) (sget s 6) (sget s 7) := by kernel_rfl
def o25_12 : List AOper := [⟨some 23, (.fieldAddr 2 (.tmp 7)), false, none⟩,
  ⟨some 24, (.load 1 false (.tmp 23)), false, none⟩,
  ⟨some 25, (.mov (.tmp 1)), false, none⟩,
  ⟨some 26, (.bin .add .none (.tmp 24) (.tmp 25)), false, none⟩,
  ⟨some 27, (.fieldAddr 2 (.tmp 7)), false, none⟩,
  ⟨none, (.store 1 (.tmp 27) (.tmp 26)), false, none⟩]
def c25_13 : ACode := (.region o25_12 [0, 1, 5, 6, 7])
def w25_13 (_P : Program) (Q : Exit → Slots → Mem → Prop) (M : Mem) (v0 : V) (v1 : V) (v5 : V) (v6 : V) (v7 : V) : Prop :=
  @OptVH (moveV 2 v7) ⟨fun t23_1 =>
  @OptVH (loadV 1 false t23_1 M) ⟨fun t24_2 =>
  @OptVH (binV .add .none t24_2 v1) ⟨fun t26_4 =>
  @OptVH (moveV 2 v7) ⟨fun t27_5 =>
  @OptMH (storeVM 1 t27_5 t26_4 M) ⟨fun _tx_6 M6 =>
  Q .normal [(0, v0), (1, v1), (5, v5), (6, v6), (7, v7)] M6⟩⟩⟩⟩⟩
theorem e25_13 (P : Program) (Q : Exit → Slots → Mem → Prop) (s : Slots) (M : Mem) : wpC P c25_13 Q s M = w25_13 P Q M (sget s 0) (sget s 1) (sget s 5) (sget s 6) (sget s 7) := by kernel_rfl
def o25_14 : List AOper := [⟨some 28, (.mov (.tmp 5)), false, none⟩,
  ⟨some 29, (.load 5 true (.tmp 7)), false, none⟩,
  ⟨some 30, (.buildSlice [(.int .i64 0), (.int .i64 0), (.int .i64 0), (.bool false), (.bool false)] 5 1 [(0, (5, (.tmp 29)))]), false, none⟩,
  ⟨some 31, (.append false 5 32 (.tmp 28) (.tmp 30)), false, none⟩,
  ⟨some 5, (.mov (.tmp 31)), false, none⟩]
def c25_15 : ACode := (.region o25_14 [0, 1, 5, 6])
def w25_15 (_P : Program) (Q : Exit → Slots → Mem → Prop) (M : Mem) (v0 : V) (v1 : V) (v5 : V) (v6 : V) (v7 : V) : Prop :=
  @OptVH (loadV 5 true v7 M) ⟨fun t29_2 =>
  @OptVH (buildSliceV [(.int .i64 0), (.int .i64 0), (.int .i64 0), (.bool false), (.bool false)] 5 1 [(0, 5, t29_2)]) ⟨fun t30_3 =>
  @OptMH (appV false 5 32 v5 t30_3 M) ⟨fun t31_4 M4 =>
  Q .normal [(0, v0), (1, v1), (5, t31_4), (6, v6)] M4⟩⟩⟩
theorem e25_15 (P : Program) (Q : Exit → Slots → Mem → Prop) (s : Slots) (M : Mem) : wpC P c25_15 Q s M = w25_15 P Q M (sget s 0) (sget s 1) (sget s 5) (sget s 6) (sget s 7) := by kernel_rfl
def c25_16 : ACode := (.seq c25_13 c25_15)
def c25_17 : ACode := (.seq c25_11 c25_16)
def c25_18 : ACode := (.seq c25_9 c25_17)
def c25_19 : ACode := (.block 1 c25_18)
def o25_20 : List AOper := [⟨some 12, (.mov (.tmp 6)), false, none⟩,
  ⟨some 13, (.bin .add .none (.tmp 12) (.const (.int .i64 1))), false, none⟩,
  ⟨some 6, (.mov (.tmp 13)), false, none⟩]
def c25_21 : ACode := (.region o25_20 [0, 1, 5, 6])
def w25_21 (_P : Program) (Q : Exit → Slots → Mem → Prop) (M : Mem) (v0 : V) (v1 : V) (v5 : V) (v6 : V) : Prop :=
  @OptVH (binV .add .none v6 (.int .i64 1)) ⟨fun t13_2 =>
  Q .normal [(0, v0), (1, v1), (5, v5), (6, t13_2)] M⟩
theorem e25_21 (P : Program) (Q : Exit → Slots → Mem → Prop) (s : Slots) (M : Mem) : wpC P c25_21 Q s M = w25_21 P Q M (sget s 0) (sget s 1) (sget s 5) (sget s 6) := by kernel_rfl
def c25_22 : ACode := (.seq c25_19 c25_21)
def c25_23 : ACode := (.seq c25_7 c25_22)
def c25_24 : ACode := (.loop [0, 1, 5, 6] c25_23)
def c25_25 : ACode := (.block 0 c25_24)
def c25_26 : ACode := (.seq c25_5 c25_25)
def o25_27 : List AOper := [⟨some 32, (.mov (.tmp 5)), false, none⟩,
  ⟨some 4, (.mov (.tmp 32)), false, none⟩]
def c25_28 : ACode := (.region o25_27 [4])
def w25_28 (_P : Program) (Q : Exit → Slots → Mem → Prop) (M : Mem) (v5 : V) : Prop :=
  Q .normal [(4, v5)] M
theorem e25_28 (P : Program) (Q : Exit → Slots → Mem → Prop) (s : Slots) (M : Mem) : wpC P c25_28 Q s M = w25_28 P Q M (sget s 5) := by kernel_rfl
def c25_29 : ACode := (.seq c25_28 .ret)
def c25_30 : ACode := (.seq c25_26 c25_29)
def c25_31 : ACode := (.seq c25_3 c25_30)
def c25_32 : ACode := (.seq c25_1 c25_31)
def fn_transitref16_Shift : AFn := ⟨33, [(.tmp 4)], c25_32⟩
theorem fn_transitref16_Shift_ok : resFn PR h_transitref16_Shift i_transitref16_Shift = some fn_transitref16_Shift := by kernel_rfl

def h_transitlaw16_near : Hints := ⟨[(0, [0]), (1, [2])], [], []⟩
def o26_0 : List AOper := [⟨some 2, (.mov (.const (.bool false))), true, none⟩]
def c26_1 : ACode := (.region o26_0 [0])
def w26_1 (_P : Program) (Q : Exit → Slots → Mem → Prop) (M : Mem) (v0 : V) : Prop :=
  Q .normal [(0, v0)] M
theorem e26_1 (P : Program) (Q : Exit → Slots → Mem → Prop) (s : Slots) (M : Mem) : wpC P c26_1 Q s M = w26_1 P Q M (sget s 0) := by kernel_rfl
def o26_2 : List AOper := [⟨some 3, (.mov (.tmp 0)), false, none⟩,
  ⟨some 4, (.bin .geq .none (.tmp 3) (.const (.int .i64 (-1099511627776)))), true, none⟩,
  ⟨some 5, (.mov (.tmp 4)), true, none⟩,
  ⟨some 6, (.mov (.tmp 0)), false, some (5, true)⟩,
  ⟨some 7, (.bin .leq .none (.tmp 6) (.const (.int .i64 1099511627776))), true, some (5, true)⟩,
  ⟨some 8, (.pick (.tmp 5) (.tmp 7) (.const (.bool false))), true, none⟩,
  ⟨some 2, (.mov (.tmp 8)), true, none⟩]
def c26_3 : ACode := (.region o26_2 [2])
def w26_3 (_P : Program) (Q : Exit → Slots → Mem → Prop) (M : Mem) (v0 : V) : Prop :=
  @OptBH (binV .geq .none v0 (.int .i64 (-1099511627776))) ⟨fun b4_2 =>
  @BIfH b4_2
  ⟨@OptBH (binV .leq .none v0 (.int .i64 1099511627776)) ⟨fun b7_5 =>
  Q .normal [(2, (.bool b7_5))] M⟩⟩
  ⟨Q .normal [(2, (.bool false))] M⟩⟩
theorem e26_3 (P : Program) (Q : Exit → Slots → Mem → Prop) (s : Slots) (M : Mem) : wpC P c26_3 Q s M = w26_3 P Q M (sget s 0) := by kernel_rfl
def c26_4 : ACode := (.seq c26_3 .ret)
def c26_5 : ACode := (.seq c26_1 c26_4)
def fn_transitlaw16_near : AFn := ⟨9, [(.tmp 2)], c26_5⟩
theorem fn_transitlaw16_near_ok : resFn PR h_transitlaw16_near i_transitlaw16_near = some fn_transitlaw16_near := by kernel_rfl

def h_call_Equal : Hints := ⟨[(0, [0, 1]), (1, [0, 1, 11]), (2, [4]), (3, [1, 12, 13, 14]), (4, [1, 12, 13, 14, 15]), (5, [1, 5, 6, 12, 13, 14]), (6, [1, 12, 13, 14, 24]), (7, [4]), (8, [1, 12, 13, 14]), (9, [4])], [(4, [1, 12, 13, 14])], []⟩
def o27_0 : List AOper := [⟨some 4, (.mov (.const (.bool false))), true, none⟩]
def c27_1 : ACode := (.region o27_0 [0, 1])
def w27_1 (_P : Program) (Q : Exit → Slots → Mem → Prop) (M : Mem) (v0 : V) (v1 : V) : Prop :=
  Q .normal [(0, v0), (1, v1)] M
theorem e27_1 (P : Program) (Q : Exit → Slots → Mem → Prop) (s : Slots) (M : Mem) : wpC P c27_1 Q s M = w27_1 P Q M (sget s 0) (sget s 1) := by kernel_rfl
def o27_2 : List AOper := [⟨some 4, (.mov (.const (.bool false))), true, none⟩]
def c27_3 : ACode := (.region o27_2 [4])
def w27_3 (_P : Program) (Q : Exit → Slots → Mem → Prop) (M : Mem) : Prop :=
  Q .normal [(4, (.bool false))] M
theorem e27_3 (P : Program) (Q : Exit → Slots → Mem → Prop) (s : Slots) (M : Mem) : wpC P c27_3 Q s M = w27_3 P Q M := by kernel_rfl
def c27_4 : ACode := (.seq c27_3 .ret)
def o27_5 : List AOper := [⟨some 7, (.mov (.tmp 0)), false, none⟩,
  ⟨some 8, (.lenSl (.tmp 7)), false, none⟩,
  ⟨some 9, (.mov (.tmp 1)), false, none⟩,
  ⟨some 10, (.lenSl (.tmp 9)), false, none⟩,
  ⟨some 11, (.bin .neq .none (.tmp 8) (.tmp 10)), true, none⟩]
def c27_6 : ACode := (.seq (.region o27_5 [0, 1, 11]) (.cond (.tmp 11) c27_4 .skip))
def w27_6 (P : Program) (Q : Exit → Slots → Mem → Prop) (M : Mem) (v0 : V) (v1 : V) : Prop :=
  @OptVH (lenV v0 M) ⟨fun t8_2 =>
  @OptVH (lenV v1 M) ⟨fun t10_4 =>
  @OptBH (binV .neq .none t8_2 t10_4) ⟨fun b11_5 =>
  @BIfH b11_5
  ⟨wpC P c27_4 Q [(0, v0), (1, v1), (11, (.bool b11_5))] M⟩
  ⟨Q .normal [(0, v0), (1, v1), (11, (.bool b11_5))] M⟩⟩⟩⟩
theorem e27_6 (P : Program) (Q : Exit → Slots → Mem → Prop) (s : Slots) (M : Mem) : wpC P c27_6 Q s M = w27_6 P Q M (sget s 0) (sget s 1) := by kernel_rfl
def o27_7 : List AOper := [⟨some 12, (.mov (.tmp 0)), false, none⟩,
  ⟨some 13, (.lenSl (.tmp 12)), false, none⟩,
  ⟨some 14, (.mov (.const (.int .i64 0))), false, none⟩]
def c27_8 : ACode := (.region o27_7 [1, 12, 13, 14])
def w27_8 (_P : Program) (Q : Exit → Slots → Mem → Prop) (M : Mem) (v0 : V) (v1 : V) : Prop :=
  @OptVH (lenV v0 M) ⟨fun t13_2 =>
  Q .normal [(1, v1), (12, v0), (13, t13_2), (14, (.int .i64 0))] M⟩
theorem e27_8 (P : Program) (Q : Exit → Slots → Mem → Prop) (s : Slots) (M : Mem) : wpC P c27_8 Q s M = w27_8 P Q M (sget s 0) (sget s 1) := by kernel_rfl
def o27_9 : List AOper := [⟨some 15, (.bin .lss .none (.tmp 14) (.tmp 13)), false, none⟩]
def c27_10 : ACode := (.region o27_9 [1, 12, 13, 14, 15])
def w27_10 (_P : Program) (Q : Exit → Slots → Mem → Prop) (M : Mem) (v1 : V) (v12 : V) (v13 : V) (v14 : V) : Prop :=
  @OptVH (binV .lss .none v14 v13) ⟨fun t15_1 =>
  Q .normal [(1, v1), (12, v12), (13, v13), (14, v14), (15, t15_1)] M⟩
theorem e27_10 (P : Program) (Q : Exit → Slots → Mem → Prop) (s : Slots) (M : Mem) : wpC P c27_10 Q s M = w27_10 P Q M (sget s 1) (sget s 12) (sget s 13) (sget s 14) := by kernel_rfl
def c27_11 : ACode := (.cond (.tmp 15) .skip (.exit 0))
def o27_12 : List AOper := [⟨some 16, (.mov (.tmp 14)), false, none⟩,
  ⟨some 17, (.indexSl 5 (.tmp 12) (.tmp 14)), false, none⟩,
  ⟨some 18, (.load 5 true (.tmp 17)), false, none⟩,
  ⟨some 6, (.alloc [(.int .i64 0), (.int .i64 0), (.int .i64 0), (.bool false), (.bool false)]), false, none⟩,
  ⟨some 5, (.mov (.tmp 16)), false, none⟩,
  ⟨none, (.store 5 (.tmp 6) (.tmp 18)), false, none⟩]
def c27_13 : ACode := (.region o27_12 [1, 5, 6, 12, 13, 14])
def w27_13 (_P : Program) (Q : Exit → Slots → Mem → Prop) (M : Mem) (v1 : V) (v12 : V) (v13 : V) (v14 : V) : Prop :=
  @OptVH (indexSlV 5 v12 v14 M) ⟨fun t17_2 =>
  @OptVH (loadV 5 true t17_2 M) ⟨fun t18_3 =>
  @OptMH (allocV [(.int .i64 0), (.int .i64 0), (.int .i64 0), (.bool false), (.bool false)] M) ⟨fun t6_4 M4 =>
  @OptMH (storeVM 5 t6_4 t18_3 M4) ⟨fun _tx_6 M6 =>
  Q .normal [(1, v1), (5, v14), (6, t6_4), (12, v12), (13, v13), (14, v14)] M6⟩⟩⟩⟩
theorem e27_13 (P : Program) (Q : Exit → Slots → Mem → Prop) (s : Slots) (M : Mem) : wpC P c27_13 Q s M = w27_13 P Q M (sget s 1) (sget s 12) (sget s 13) (sget s 14) := by kernel_rfl
def o27_14 : List AOper := [⟨some 4, (.mov (.const (.bool false))), true, none⟩]
def c27_15 : ACode := (.region o27_14 [4])
def w27_15 (_P : Program) (Q : Exit → Slots → Mem → Prop) (M : Mem) : Prop :=
  Q .normal [(4, (.bool false))] M
theorem e27_15 (P : Program) (Q : Exit → Slots → Mem → Prop) (s : Slots) (M : Mem) : wpC P c27_15 Q s M = w27_15 P Q M := by kernel_rfl
def c27_16 : ACode := (.seq c27_15 .ret)
def o27_17 : List AOper := [⟨some 19, (.load 5 true (.tmp 6)), false, none⟩,
  ⟨some 20, (.mov (.tmp 1)), false, none⟩,
  ⟨some 21, (.mov (.tmp 5)), false, none⟩,
  ⟨some 22, (.indexSl 5 (.tmp 20) (.tmp 21)), false, none⟩,
  ⟨some 23, (.load 5 true (.tmp 22)), false, none⟩,
  ⟨some 24, (.bin .neq (.cells [.int, .int, .int, .bool, .bool]) (.tmp 19) (.tmp 23)), true, none⟩]
def c27_18 : ACode := (.seq (.mixed o27_17 [true, true, true, true, true, true] [1, 12, 13, 14, 24]) (.cond (.tmp 24) c27_16 .skip))
def w27_18 (P : Program) (Q : Exit → Slots → Mem → Prop) (M : Mem) (v1 : V) (v5 : V) (v6 : V) (v12 : V) (v13 : V) (v14 : V) : Prop :=
  @OptVH (loadV 5 true v6 M) ⟨fun t19_1 =>
  @OptVH (indexSlV 5 v1 v5 M) ⟨fun t22_4 =>
  @OptVH (loadV 5 true t22_4 M) ⟨fun t23_5 =>
  @OptBH (binV .neq (.cells [.int, .int, .int, .bool, .bool]) t19_1 t23_5) ⟨fun b24_6 =>
  @BIfH b24_6
  ⟨wpC P c27_16 Q [(1, v1), (12, v12), (13, v13), (14, v14), (24, (.bool b24_6))] M⟩
  ⟨Q .normal [(1, v1), (12, v12), (13, v13), (14, v14), (24, (.bool b24_6))] M⟩⟩⟩⟩⟩
theorem e27_18 (P : Program) (Q : Exit → Slots → Mem → Prop) (s : Slots) (M : Mem) : wpC P c27_18 Q s M = w27_18 P Q M (sget s 1) (sget s 5) (sget s 6) (sget s 12) (sget s 13) (sget s 14) := by kernel_rfl
def c27_19 : ACode := (.seq c27_13 c27_18)
def c27_20 : ACode := (.block 1 c27_19)
def o27_21 : List AOper := [⟨some 25, (.bin .add .none (.tmp 14) (.const (.int .i64 1))), false, none⟩,
  ⟨some 14, (.mov (.tmp 25)), false, none⟩]
def c27_22 : ACode := (.region o27_21 [1, 12, 13, 14])
def w27_22 (_P : Program) (Q : Exit → Slots → Mem → Prop) (M : Mem) (v1 : V) (v12 : V) (v13 : V) (v14 : V) : Prop :=
  @OptVH (binV .add .none v14 (.int .i64 1)) ⟨fun t25_1 =>
  Q .normal [(1, v1), (12, v12), (13, v13), (14, t25_1)] M⟩
theorem e27_22 (P : Program) (Q : Exit → Slots → Mem → Prop) (s : Slots) (M : Mem) : wpC P c27_22 Q s M = w27_22 P Q M (sget s 1) (sget s 12) (sget s 13) (sget s 14) := by kernel_rfl
def c27_23 : ACode := (.seq c27_20 c27_22)
def c27_24 : ACode := (.seq c27_11 c27_23)
def c27_25 : ACode := (.seq c27_10 c27_24)
def c27_26 : ACode := (.loop [1, 12, 13, 14] c27_25)
def c27_27 : ACode := (.block 0 c27_26)
def c27_28 : ACode := (.seq c27_8 c27_27)
def o27_29 : List AOper := [⟨some 4, (.mov (.const (.bool true))), true, none⟩]
def c27_30 : ACode := (.region o27_29 [4])
def w27_30 (_P : Program) (Q : Exit → Slots → Mem → Prop) (M : Mem) : Prop :=
  Q .normal [(4, (.bool true))] M
theorem e27_30 (P : Program) (Q : Exit → Slots → Mem → Prop) (s : Slots) (M : Mem) : wpC P c27_30 Q s M = w27_30 P Q M := by kernel_rfl
def c27_31 : ACode := (.seq c27_30 .ret)
def c27_32 : ACode := (.seq c27_28 c27_31)
def c27_33 : ACode := (.seq c27_6 c27_32)
def c27_34 : ACode := (.seq c27_1 c27_33)
def fn_call_Equal : AFn := ⟨26, [(.tmp 4)], c27_34⟩
theorem fn_call_Equal_ok : resFn PR h_call_Equal i_call_Equal = some fn_call_Equal := by kernel_rfl

def h_call_one : Hints := ⟨[(0, [0, 1, 2, 3, 4]), (1, [0, 1, 2, 3, 4, 11]), (2, [0, 1, 3, 4, 11, 24]), (3, [10]), (4, [0, 1, 3, 4, 11, 37]), (5, [10]), (6, [69]), (7, [10]), (8, [10])], [], []⟩
def o28_0 : List AOper := [⟨some 10, (.mov (.const (.int .i64 0))), false, none⟩]
def c28_1 : ACode := (.region o28_0 [0, 1, 2, 3, 4])
def w28_1 (_P : Program) (Q : Exit → Slots → Mem → Prop) (M : Mem) (v0 : V) (v1 : V) (v2 : V) (v3 : V) (v4 : V) : Prop :=
  Q .normal [(0, v0), (1, v1), (2, v2), (3, v3), (4, v4)] M
theorem e28_1 (P : Program) (Q : Exit → Slots → Mem → Prop) (s : Slots) (M : Mem) : wpC P c28_1 Q s M = w28_1 P Q M (sget s 0) (sget s 1) (sget s 2) (sget s 3) (sget s 4) := by kernel_rfl
def o28_2 : List AOper := [⟨some 12, (.mov (.tmp 0)), false, none⟩,
  ⟨some 13, (.mov (.tmp 1)), false, none⟩,
  ⟨some 14, (.indexSl 5 (.tmp 12) (.tmp 13)), false, none⟩,
  ⟨some 15, (.load 5 true (.tmp 14)), false, none⟩,
  ⟨some 11, (.alloc [(.int .i64 0), (.int .i64 0), (.int .i64 0), (.bool false), (.bool false)]), false, none⟩,
  ⟨none, (.store 5 (.tmp 11) (.tmp 15)), false, none⟩]
def c28_3 : ACode := (.region o28_2 [0, 1, 2, 3, 4, 11])
def w28_3 (_P : Program) (Q : Exit → Slots → Mem → Prop) (M : Mem) (v0 : V) (v1 : V) (v2 : V) (v3 : V) (v4 : V) : Prop :=
  @OptVH (indexSlV 5 v0 v1 M) ⟨fun t14_3 =>
  @OptVH (loadV 5 true t14_3 M) ⟨fun t15_4 =>
  @OptMH (allocV [(.int .i64 0), (.int .i64 0), (.int .i64 0), (.bool false), (.bool false)] M) ⟨fun t11_5 M5 =>
  @OptMH (storeVM 5 t11_5 t15_4 M5) ⟨fun _tx_6 M6 =>
  Q .normal [(0, v0), (1, v1), (2, v2), (3, v3), (4, v4), (11, t11_5)] M6⟩⟩⟩⟩
theorem e28_3 (P : Program) (Q : Exit → Slots → Mem → Prop) (s : Slots) (M : Mem) : wpC P c28_3 Q s M = w28_3 P Q M (sget s 0) (sget s 1) (sget s 2) (sget s 3) (sget s 4) := by kernel_rfl
def o28_4 : List AOper := [⟨some 10, (.mov (.const (.int .i64 9))), false, none⟩]
def c28_5 : ACode := (.region o28_4 [10])
def w28_5 (_P : Program) (Q : Exit → Slots → Mem → Prop) (M : Mem) : Prop :=
  Q .normal [(10, (.int .i64 9))] M
theorem e28_5 (P : Program) (Q : Exit → Slots → Mem → Prop) (s : Slots) (M : Mem) : wpC P c28_5 Q s M = w28_5 P Q M := by kernel_rfl
def c28_6 : ACode := (.seq c28_5 .ret)
def o28_7 : List AOper := [⟨some 16, (.fieldAddr 0 (.tmp 11)), false, none⟩,
  ⟨some 17, (.load 1 false (.tmp 16)), false, none⟩,
  ⟨some 18, (.bin .lss .none (.tmp 17) (.const (.int .i64 0))), true, none⟩,
  ⟨some 19, (.mov (.tmp 18)), true, none⟩,
  ⟨some 20, (.fieldAddr 0 (.tmp 11)), false, some (19, false)⟩,
  ⟨some 21, (.load 1 false (.tmp 20)), false, some (19, false)⟩,
  ⟨some 22, (.mov (.tmp 2)), false, some (19, false)⟩,
  ⟨some 23, (.bin .geq .none (.tmp 21) (.tmp 22)), true, some (19, false)⟩,
  ⟨some 24, (.pick (.tmp 19) (.const (.bool true)) (.tmp 23)), true, none⟩]
def c28_8 : ACode := (.seq (.region o28_7 [0, 1, 3, 4, 11, 24]) (.cond (.tmp 24) c28_6 .skip))
def w28_8 (P : Program) (Q : Exit → Slots → Mem → Prop) (M : Mem) (v0 : V) (v1 : V) (v2 : V) (v3 : V) (v4 : V) (v11 : V) : Prop :=
  @OptVH (moveV 0 v11) ⟨fun t16_1 =>
  @OptVH (loadV 1 false t16_1 M) ⟨fun t17_2 =>
  @OptBH (binV .lss .none t17_2 (.int .i64 0)) ⟨fun b18_3 =>
  @BIfH b18_3
  ⟨wpC P c28_6 Q [(0, v0), (1, v1), (3, v3), (4, v4), (11, v11), (24, (.bool true))] M⟩
  ⟨@OptVH (moveV 0 v11) ⟨fun t20_6 =>
  @OptVH (loadV 1 false t20_6 M) ⟨fun t21_7 =>
  @OptBH (binV .geq .none t21_7 v2) ⟨fun b23_9 =>
  @BIfH b23_9
  ⟨wpC P c28_6 Q [(0, v0), (1, v1), (3, v3), (4, v4), (11, v11), (24, (.bool b23_9))] M⟩
  ⟨Q .normal [(0, v0), (1, v1), (3, v3), (4, v4), (11, v11), (24, (.bool b23_9))] M⟩⟩⟩⟩⟩⟩⟩⟩
theorem e28_8 (P : Program) (Q : Exit → Slots → Mem → Prop) (s : Slots) (M : Mem) : wpC P c28_8 Q s M = w28_8 P Q M (sget s 0) (sget s 1) (sget s 2) (sget s 3) (sget s 4) (sget s 11) := by kernel_rfl
def o28_9 : List AOper := [⟨some 10, (.mov (.const (.int .i64 13))), false, none⟩]
def c28_10 : ACode := (.region o28_9 [10])
def w28_10 (_P : Program) (Q : Exit → Slots → Mem → Prop) (M : Mem) : Prop :=
  Q .normal [(10, (.int .i64 13))] M
theorem e28_10 (P : Program) (Q : Exit → Slots → Mem → Prop) (s : Slots) (M : Mem) : wpC P c28_10 Q s M = w28_10 P Q M := by kernel_rfl
def c28_11 : ACode := (.seq c28_10 .ret)
def o28_12 : List AOper := [⟨some 25, (.mov (.tmp 1)), false, none⟩,
  ⟨some 26, (.bin .gtr .none (.tmp 25) (.const (.int .i64 0))), true, none⟩,
  ⟨some 27, (.mov (.tmp 26)), true, none⟩,
  ⟨some 28, (.mov (.tmp 0)), false, some (27, true)⟩,
  ⟨some 29, (.mov (.tmp 1)), false, some (27, true)⟩,
  ⟨some 30, (.bin .sub .none (.tmp 29) (.const (.int .i64 1))), false, some (27, true)⟩,
  ⟨some 31, (.indexSl 5 (.tmp 28) (.tmp 30)), false, some (27, true)⟩,
  ⟨some 32, (.fieldAddr 0 (.tmp 31)), false, some (27, true)⟩,
  ⟨some 33, (.load 1 false (.tmp 32)), false, some (27, true)⟩,
  ⟨some 34, (.fieldAddr 0 (.tmp 11)), false, some (27, true)⟩,
  ⟨some 35, (.load 1 false (.tmp 34)), false, some (27, true)⟩,
  ⟨some 36, (.bin .eql .none (.tmp 33) (.tmp 35)), true, some (27, true)⟩,
  ⟨some 37, (.pick (.tmp 27) (.tmp 36) (.const (.bool false))), true, none⟩]
def c28_13 : ACode := (.seq (.mixed o28_12 [true, true, true, true, true, true, true, true, true, true, true, true, true] [0, 1, 3, 4, 11, 37]) (.cond (.tmp 37) c28_11 .skip))
def w28_13 (P : Program) (Q : Exit → Slots → Mem → Prop) (M : Mem) (v0 : V) (v1 : V) (v3 : V) (v4 : V) (v11 : V) : Prop :=
  @OptBH (binV .gtr .none v1 (.int .i64 0)) ⟨fun b26_2 =>
  @BIfH b26_2
  ⟨@OptVH (binV .sub .none v1 (.int .i64 1)) ⟨fun t30_6 =>
  @OptVH (indexSlV 5 v0 t30_6 M) ⟨fun t31_7 =>
  @OptVH (moveV 0 t31_7) ⟨fun t32_8 =>
  @OptVH (loadV 1 false t32_8 M) ⟨fun t33_9 =>
  @OptVH (moveV 0 v11) ⟨fun t34_10 =>
  @OptVH (loadV 1 false t34_10 M) ⟨fun t35_11 =>
  @OptBH (binV .eql .none t33_9 t35_11) ⟨fun b36_12 =>
  @BIfH b36_12
  ⟨wpC P c28_11 Q [(0, v0), (1, v1), (3, v3), (4, v4), (11, v11), (37, (.bool b36_12))] M⟩
  ⟨Q .normal [(0, v0), (1, v1), (3, v3), (4, v4), (11, v11), (37, (.bool b36_12))] M⟩⟩⟩⟩⟩⟩⟩⟩⟩
  ⟨Q .normal [(0, v0), (1, v1), (3, v3), (4, v4), (11, v11), (37, (.bool false))] M⟩⟩
theorem e28_13 (P : Program) (Q : Exit → Slots → Mem → Prop) (s : Slots) (M : Mem) : wpC P c28_13 Q s M = w28_13 P Q M (sget s 0) (sget s 1) (sget s 3) (sget s 4) (sget s 11) := by kernel_rfl
def o28_14 : List AOper := [⟨some 10, (.mov (.const (.int .i64 10))), false, none⟩]
def c28_15 : ACode := (.region o28_14 [10])
def w28_15 (_P : Program) (Q : Exit → Slots → Mem → Prop) (M : Mem) : Prop :=
  Q .normal [(10, (.int .i64 10))] M
theorem e28_15 (P : Program) (Q : Exit → Slots → Mem → Prop) (s : Slots) (M : Mem) : wpC P c28_15 Q s M = w28_15 P Q M := by kernel_rfl
def c28_16 : ACode := (.seq c28_15 .ret)
def o28_17 : List AOper := [⟨some 38, (.fieldAddr 1 (.tmp 11)), false, none⟩,
  ⟨some 39, (.load 1 false (.tmp 38)), false, none⟩,
  ⟨some 40, (.mov (.tmp 3)), false, none⟩,
  ⟨some 41, (.bin .lss .none (.tmp 39) (.tmp 40)), true, none⟩,
  ⟨some 42, (.mov (.tmp 41)), true, none⟩,
  ⟨some 43, (.fieldAddr 1 (.tmp 11)), false, some (42, false)⟩,
  ⟨some 44, (.load 1 false (.tmp 43)), false, some (42, false)⟩,
  ⟨some 45, (.fieldAddr 2 (.tmp 11)), false, some (42, false)⟩,
  ⟨some 46, (.load 1 false (.tmp 45)), false, some (42, false)⟩,
  ⟨some 47, (.bin .gtr .none (.tmp 44) (.tmp 46)), true, some (42, false)⟩,
  ⟨some 48, (.pick (.tmp 42) (.const (.bool true)) (.tmp 47)), true, none⟩,
  ⟨some 49, (.mov (.tmp 48)), true, none⟩,
  ⟨some 50, (.fieldAddr 2 (.tmp 11)), false, some (49, false)⟩,
  ⟨some 51, (.load 1 false (.tmp 50)), false, some (49, false)⟩,
  ⟨some 52, (.mov (.tmp 4)), false, some (49, false)⟩,
  ⟨some 53, (.bin .gtr .none (.tmp 51) (.tmp 52)), true, some (49, false)⟩,
  ⟨some 54, (.pick (.tmp 49) (.const (.bool true)) (.tmp 53)), true, none⟩,
  ⟨some 55, (.mov (.tmp 54)), true, none⟩,
  ⟨some 56, (.mov (.tmp 1)), false, some (55, false)⟩,
  ⟨some 57, (.bin .gtr .none (.tmp 56) (.const (.int .i64 0))), true, some (55, false)⟩,
  ⟨some 58, (.mov (.tmp 57)), true, some (55, false)⟩,
  ⟨some 59, (.fieldAddr 1 (.tmp 11)), false, some (58, true)⟩,
  ⟨some 60, (.load 1 false (.tmp 59)), false, some (58, true)⟩,
  ⟨some 61, (.mov (.tmp 0)), false, some (58, true)⟩,
  ⟨some 62, (.mov (.tmp 1)), false, some (58, true)⟩,
  ⟨some 63, (.bin .sub .none (.tmp 62) (.const (.int .i64 1))), false, some (58, true)⟩,
  ⟨some 64, (.indexSl 5 (.tmp 61) (.tmp 63)), false, some (58, true)⟩,
  ⟨some 65, (.fieldAddr 2 (.tmp 64)), false, some (58, true)⟩,
  ⟨some 66, (.load 1 false (.tmp 65)), false, some (58, true)⟩,
  ⟨some 67, (.bin .lss .none (.tmp 60) (.tmp 66)), true, some (58, true)⟩,
  ⟨some 68, (.pick (.tmp 58) (.tmp 67) (.const (.bool false))), true, some (55, false)⟩,
  ⟨some 69, (.pick (.tmp 55) (.const (.bool true)) (.tmp 68)), true, none⟩]
def c28_18 : ACode := (.seq (.mixed o28_17 [true, true, true, true, true, true, true, true, true, true, true, true, true, true, true, true, true, true, true, true, true, true, true, true, true, true, true, true, true, true, true, true] [69]) (.cond (.tmp 69) c28_16 .skip))
def w28_18 (P : Program) (Q : Exit → Slots → Mem → Prop) (M : Mem) (v0 : V) (v1 : V) (v3 : V) (v4 : V) (v11 : V) : Prop :=
  @OptVH (moveV 1 v11) ⟨fun t38_1 =>
  @OptVH (loadV 1 false t38_1 M) ⟨fun t39_2 =>
  @OptBH (binV .lss .none t39_2 v3) ⟨fun b41_4 =>
  @BIfH b41_4
  ⟨wpC P c28_16 Q [(69, (.bool true))] M⟩
  ⟨@OptVH (moveV 1 v11) ⟨fun t43_11 =>
  @OptVH (loadV 1 false t43_11 M) ⟨fun t44_12 =>
  @OptVH (moveV 2 v11) ⟨fun t45_13 =>
  @OptVH (loadV 1 false t45_13 M) ⟨fun t46_14 =>
  @OptBH (binV .gtr .none t44_12 t46_14) ⟨fun b47_15 =>
  @BIfH b47_15
  ⟨wpC P c28_16 Q [(69, (.bool true))] M⟩
  ⟨@OptVH (moveV 2 v11) ⟨fun t50_21 =>
  @OptVH (loadV 1 false t50_21 M) ⟨fun t51_22 =>
  @OptBH (binV .gtr .none t51_22 v4) ⟨fun b53_24 =>
  @BIfH b53_24
  ⟨wpC P c28_16 Q [(69, (.bool true))] M⟩
  ⟨@OptBH (binV .gtr .none v1 (.int .i64 0)) ⟨fun b57_29 =>
  @BIfH b57_29
  ⟨@OptVH (moveV 1 v11) ⟨fun t59_31 =>
  @OptVH (loadV 1 false t59_31 M) ⟨fun t60_32 =>
  @OptVH (binV .sub .none v1 (.int .i64 1)) ⟨fun t63_35 =>
  @OptVH (indexSlV 5 v0 t63_35 M) ⟨fun t64_36 =>
  @OptVH (moveV 2 t64_36) ⟨fun t65_37 =>
  @OptVH (loadV 1 false t65_37 M) ⟨fun t66_38 =>
  @OptBH (binV .lss .none t60_32 t66_38) ⟨fun b67_39 =>
  @BIfH b67_39
  ⟨wpC P c28_16 Q [(69, (.bool b67_39))] M⟩
  ⟨Q .normal [(69, (.bool b67_39))] M⟩⟩⟩⟩⟩⟩⟩⟩⟩
  ⟨Q .normal [(69, (.bool false))] M⟩⟩⟩⟩⟩⟩⟩⟩⟩⟩⟩⟩⟩⟩⟩⟩
theorem e28_18 (P : Program) (Q : Exit → Slots → Mem → Prop) (s : Slots) (M : Mem) : wpC P c28_18 Q s M = w28_18 P Q M (sget s 0) (sget s 1) (sget s 3) (sget s 4) (sget s 11) := by kernel_rfl
def o28_19 : List AOper := [⟨some 10, (.mov (.const (.int .i64 0))), false, none⟩]
def c28_20 : ACode := (.region o28_19 [10])
def w28_20 (_P : Program) (Q : Exit → Slots → Mem → Prop) (M : Mem) : Prop :=
  Q .normal [(10, (.int .i64 0))] M
theorem e28_20 (P : Program) (Q : Exit → Slots → Mem → Prop) (s : Slots) (M : Mem) : wpC P c28_20 Q s M = w28_20 P Q M := by kernel_rfl
def c28_21 : ACode := (.seq c28_20 .ret)
def c28_22 : ACode := (.seq c28_18 c28_21)
def c28_23 : ACode := (.seq c28_13 c28_22)
def c28_24 : ACode := (.seq c28_8 c28_23)
def c28_25 : ACode := (.seq c28_3 c28_24)
def c28_26 : ACode := (.seq c28_1 c28_25)
def fn_call_one : AFn := ⟨70, [(.tmp 10)], c28_26⟩
theorem fn_call_one_ok : resFn PR h_call_one i_call_one = some fn_call_one := by kernel_rfl

def h_call_Rides : Hints := ⟨[(0, [1]), (1, [2])], [], []⟩
def o29_0 : List AOper := [⟨some 1, (.box 1 (.tmp 0)), false, none⟩,
  ⟨some 2, (.mov (.const .nilf)), false, none⟩]
def c29_1 : ACode := (.region o29_0 [1])
def w29_1 (_P : Program) (Q : Exit → Slots → Mem → Prop) (M : Mem) (v0 : V) : Prop :=
  @OptMH (boxV 1 v0 M) ⟨fun t1_1 M1 =>
  Q .normal [(1, t1_1)] M1⟩
theorem e29_1 (P : Program) (Q : Exit → Slots → Mem → Prop) (s : Slots) (M : Mem) : wpC P c29_1 Q s M = w29_1 P Q M (sget s 0) := by kernel_rfl
def o29_2 : List AOper := [⟨some 3, (.mkfn i_call_Rides_1 [(.tmp 1)]), false, none⟩,
  ⟨some 2, (.mov (.tmp 3)), false, none⟩]
def c29_3 : ACode := (.region o29_2 [2])
def w29_3 (_P : Program) (Q : Exit → Slots → Mem → Prop) (M : Mem) (v1 : V) : Prop :=
  Q .normal [(2, (mkfnV i_call_Rides_1 [v1]))] M
theorem e29_3 (P : Program) (Q : Exit → Slots → Mem → Prop) (s : Slots) (M : Mem) : wpC P c29_3 Q s M = w29_3 P Q M (sget s 1) := by kernel_rfl
def c29_4 : ACode := (.seq c29_3 .ret)
def c29_5 : ACode := (.seq c29_1 c29_4)
def fn_call_Rides : AFn := ⟨4, [(.tmp 2)], c29_5⟩
theorem fn_call_Rides_ok : resFn PR h_call_Rides i_call_Rides = some fn_call_Rides := by kernel_rfl

def h_call_Rides_1 : Hints := ⟨[(0, [0, 1, 6, 7]), (1, [0, 1, 6, 7, 8]), (2, [0, 1, 3, 6, 7]), (3, [0, 1, 3, 4, 6, 7]), (4, [0, 1, 3, 4, 6, 7, 15]), (5, [0, 1, 3, 4, 6, 7]), (6, [0, 1, 3, 4, 6, 7, 28]), (7, [0, 1, 6, 7])], [(0, [0, 1]), (1, [0, 1, 6, 7]), (4, [0, 1, 3, 4, 6, 7])], []⟩
def o30_0 : List AOper := [⟨some 5, (.load 1 false (.tmp 1)), false, none⟩,
  ⟨some 6, (.lenSl (.tmp 5)), false, none⟩,
  ⟨some 7, (.mov (.const (.int .i64 0))), false, none⟩]
def c30_1 : ACode := (.region o30_0 [0, 1, 6, 7])
def w30_1 (_P : Program) (Q : Exit → Slots → Mem → Prop) (M : Mem) (v0 : V) (v1 : V) : Prop :=
  @OptVH (loadV 1 false v1 M) ⟨fun t5_1 =>
  @OptVH (lenV t5_1 M) ⟨fun t6_2 =>
  Q .normal [(0, v0), (1, v1), (6, t6_2), (7, (.int .i64 0))] M⟩⟩
theorem e30_1 (P : Program) (Q : Exit → Slots → Mem → Prop) (s : Slots) (M : Mem) : wpC P c30_1 Q s M = w30_1 P Q M (sget s 0) (sget s 1) := by kernel_rfl
def o30_2 : List AOper := [⟨some 8, (.bin .lss .none (.tmp 7) (.tmp 6)), false, none⟩]
def c30_3 : ACode := (.region o30_2 [0, 1, 6, 7, 8])
def w30_3 (_P : Program) (Q : Exit → Slots → Mem → Prop) (M : Mem) (v0 : V) (v1 : V) (v6 : V) (v7 : V) : Prop :=
  @OptVH (binV .lss .none v7 v6) ⟨fun t8_1 =>
  Q .normal [(0, v0), (1, v1), (6, v6), (7, v7), (8, t8_1)] M⟩
theorem e30_3 (P : Program) (Q : Exit → Slots → Mem → Prop) (s : Slots) (M : Mem) : wpC P c30_3 Q s M = w30_3 P Q M (sget s 0) (sget s 1) (sget s 6) (sget s 7) := by kernel_rfl
def c30_4 : ACode := (.cond (.tmp 8) .skip (.exit 0))
def o30_5 : List AOper := [⟨some 9, (.mov (.tmp 7)), false, none⟩,
  ⟨some 3, (.mov (.tmp 9)), false, none⟩]
def c30_6 : ACode := (.region o30_5 [0, 1, 3, 6, 7])
def w30_6 (_P : Program) (Q : Exit → Slots → Mem → Prop) (M : Mem) (v0 : V) (v1 : V) (v6 : V) (v7 : V) : Prop :=
  Q .normal [(0, v0), (1, v1), (3, v7), (6, v6), (7, v7)] M
theorem e30_6 (P : Program) (Q : Exit → Slots → Mem → Prop) (s : Slots) (M : Mem) : wpC P c30_6 Q s M = w30_6 P Q M (sget s 0) (sget s 1) (sget s 6) (sget s 7) := by kernel_rfl
def o30_7 : List AOper := [⟨some 10, (.mov (.tmp 3)), false, none⟩,
  ⟨some 11, (.bin .add .none (.tmp 10) (.const (.int .i64 1))), false, none⟩,
  ⟨some 4, (.mov (.tmp 11)), false, none⟩]
def c30_8 : ACode := (.region o30_7 [0, 1, 3, 4, 6, 7])
def w30_8 (_P : Program) (Q : Exit → Slots → Mem → Prop) (M : Mem) (v0 : V) (v1 : V) (v3 : V) (v6 : V) (v7 : V) : Prop :=
  @OptVH (binV .add .none v3 (.int .i64 1)) ⟨fun t11_2 =>
  Q .normal [(0, v0), (1, v1), (3, v3), (4, t11_2), (6, v6), (7, v7)] M⟩
theorem e30_8 (P : Program) (Q : Exit → Slots → Mem → Prop) (s : Slots) (M : Mem) : wpC P c30_8 Q s M = w30_8 P Q M (sget s 0) (sget s 1) (sget s 3) (sget s 6) (sget s 7) := by kernel_rfl
def o30_9 : List AOper := [⟨some 12, (.mov (.tmp 4)), false, none⟩,
  ⟨some 13, (.load 1 false (.tmp 1)), false, none⟩,
  ⟨some 14, (.lenSl (.tmp 13)), false, none⟩,
  ⟨some 15, (.bin .lss .none (.tmp 12) (.tmp 14)), true, none⟩]
def c30_10 : ACode := (.seq (.region o30_9 [0, 1, 3, 4, 6, 7, 15]) (.cond (.tmp 15) .skip (.exit 2)))
def w30_10 (_P : Program) (Q : Exit → Slots → Mem → Prop) (M : Mem) (v0 : V) (v1 : V) (v3 : V) (v4 : V) (v6 : V) (v7 : V) : Prop :=
  @OptVH (loadV 1 false v1 M) ⟨fun t13_2 =>
  @OptVH (lenV t13_2 M) ⟨fun t14_3 =>
  @OptBH (binV .lss .none v4 t14_3) ⟨fun b15_4 =>
  @BIfH b15_4
  ⟨Q .normal [(0, v0), (1, v1), (3, v3), (4, v4), (6, v6), (7, v7), (15, (.bool b15_4))] M⟩
  ⟨Q (.exit 2) [(0, v0), (1, v1), (3, v3), (4, v4), (6, v6), (7, v7), (15, (.bool b15_4))] M⟩⟩⟩⟩
theorem e30_10 (P : Program) (Q : Exit → Slots → Mem → Prop) (s : Slots) (M : Mem) : wpC P c30_10 Q s M = w30_10 P Q M (sget s 0) (sget s 1) (sget s 3) (sget s 4) (sget s 6) (sget s 7) := by kernel_rfl
def o30_11 : List AOper := [⟨some 18, (.load 1 false (.tmp 1)), false, none⟩,
  ⟨some 19, (.mov (.tmp 3)), false, none⟩,
  ⟨some 20, (.mov (.tmp 4)), false, none⟩,
  ⟨some 21, (.call i_call_Ridable [(.tmp 18), (.tmp 19), (.tmp 20)]), true, none⟩,
  ⟨some 22, (.mov (.tmp 21)), true, none⟩,
  ⟨some 23, (.mov (.tmp 0)), false, some (22, true)⟩,
  ⟨some 24, (.mov (.tmp 3)), false, some (22, true)⟩,
  ⟨some 25, (.mov (.tmp 4)), false, some (22, true)⟩,
  ⟨some 26, (.callv (.tmp 23) [(.tmp 24), (.tmp 25)]), true, some (22, true)⟩,
  ⟨some 27, (.un .not (.tmp 26)), true, some (22, true)⟩,
  ⟨some 28, (.pick (.tmp 22) (.tmp 27) (.const (.bool false))), true, none⟩]
def c30_12 : ACode := (.seq (.region o30_11 [0, 1, 3, 4, 6, 7, 28]) (.cond (.tmp 28) (.exit 0) .skip))
def w30_12 (P : Program) (Q : Exit → Slots → Mem → Prop) (M : Mem) (v0 : V) (v1 : V) (v3 : V) (v4 : V) (v6 : V) (v7 : V) : Prop :=
  @OptVH (loadV 1 false v1 M) ⟨fun t18_1 =>
  @CallH P i_call_Ridable [t18_1, v3, v4] M ⟨fun t21_4 M4 => @OptBH (some t21_4) ⟨fun b21_4 =>
  @BIfH b21_4
  ⟨@CallV P false v0 [v3, v4] M4 ⟨fun t26_9 M9 => @OptBH (some t26_9) ⟨fun b26_9 =>
  @OptBH (unV .not (.bool b26_9)) ⟨fun b27_10 =>
  @BIfH b27_10
  ⟨Q (.exit 0) [(0, v0), (1, v1), (3, v3), (4, v4), (6, v6), (7, v7), (28, (.bool b27_10))] M9⟩
  ⟨Q .normal [(0, v0), (1, v1), (3, v3), (4, v4), (6, v6), (7, v7), (28, (.bool b27_10))] M9⟩⟩⟩⟩⟩
  ⟨Q .normal [(0, v0), (1, v1), (3, v3), (4, v4), (6, v6), (7, v7), (28, (.bool false))] M4⟩⟩⟩⟩
theorem e30_12 (P : Program) (Q : Exit → Slots → Mem → Prop) (s : Slots) (M : Mem) : wpC P c30_12 Q s M = w30_12 P Q M (sget s 0) (sget s 1) (sget s 3) (sget s 4) (sget s 6) (sget s 7) := by kernel_rfl
def c30_13 : ACode := (.block 3 c30_12)
def o30_14 : List AOper := [⟨some 16, (.mov (.tmp 4)), false, none⟩,
  ⟨some 17, (.bin .add .none (.tmp 16) (.const (.int .i64 1))), false, none⟩,
  ⟨some 4, (.mov (.tmp 17)), false, none⟩]
def c30_15 : ACode := (.region o30_14 [0, 1, 3, 4, 6, 7])
def w30_15 (_P : Program) (Q : Exit → Slots → Mem → Prop) (M : Mem) (v0 : V) (v1 : V) (v3 : V) (v4 : V) (v6 : V) (v7 : V) : Prop :=
  @OptVH (binV .add .none v4 (.int .i64 1)) ⟨fun t17_2 =>
  Q .normal [(0, v0), (1, v1), (3, v3), (4, t17_2), (6, v6), (7, v7)] M⟩
theorem e30_15 (P : Program) (Q : Exit → Slots → Mem → Prop) (s : Slots) (M : Mem) : wpC P c30_15 Q s M = w30_15 P Q M (sget s 0) (sget s 1) (sget s 3) (sget s 4) (sget s 6) (sget s 7) := by kernel_rfl
def c30_16 : ACode := (.seq c30_13 c30_15)
def c30_17 : ACode := (.seq c30_10 c30_16)
def c30_18 : ACode := (.loop [0, 1, 3, 4, 6, 7] c30_17)
def c30_19 : ACode := (.block 2 c30_18)
def c30_20 : ACode := (.seq c30_8 c30_19)
def c30_21 : ACode := (.seq c30_6 c30_20)
def c30_22 : ACode := (.block 1 c30_21)
def o30_23 : List AOper := [⟨some 29, (.bin .add .none (.tmp 7) (.const (.int .i64 1))), false, none⟩,
  ⟨some 7, (.mov (.tmp 29)), false, none⟩]
def c30_24 : ACode := (.region o30_23 [0, 1, 6, 7])
def w30_24 (_P : Program) (Q : Exit → Slots → Mem → Prop) (M : Mem) (v0 : V) (v1 : V) (v6 : V) (v7 : V) : Prop :=
  @OptVH (binV .add .none v7 (.int .i64 1)) ⟨fun t29_1 =>
  Q .normal [(0, v0), (1, v1), (6, v6), (7, t29_1)] M⟩
theorem e30_24 (P : Program) (Q : Exit → Slots → Mem → Prop) (s : Slots) (M : Mem) : wpC P c30_24 Q s M = w30_24 P Q M (sget s 0) (sget s 1) (sget s 6) (sget s 7) := by kernel_rfl
def c30_25 : ACode := (.seq c30_22 c30_24)
def c30_26 : ACode := (.seq c30_4 c30_25)
def c30_27 : ACode := (.seq c30_3 c30_26)
def c30_28 : ACode := (.loop [0, 1, 6, 7] c30_27)
def c30_29 : ACode := (.block 0 c30_28)
def c30_30 : ACode := (.seq c30_1 c30_29)
def c30_31 : ACode := (.seq .label c30_30)
def o30_32 : List AOper := [⟨some 5, (.load 1 false (.tmp 1)), false, none⟩,
  ⟨some 6, (.lenSl (.tmp 5)), false, none⟩,
  ⟨some 7, (.mov (.const (.int .i64 0))), false, none⟩]
def c30_33 : ACode := (.region o30_32 [0, 1, 6, 7])
def w30_33 (_P : Program) (Q : Exit → Slots → Mem → Prop) (M : Mem) (v0 : V) (v1 : V) : Prop :=
  @OptVH (loadV 1 false v1 M) ⟨fun t5_1 =>
  @OptVH (lenV t5_1 M) ⟨fun t6_2 =>
  Q .normal [(0, v0), (1, v1), (6, t6_2), (7, (.int .i64 0))] M⟩⟩
theorem e30_33 (P : Program) (Q : Exit → Slots → Mem → Prop) (s : Slots) (M : Mem) : wpC P c30_33 Q s M = w30_33 P Q M (sget s 0) (sget s 1) := by kernel_rfl
def o30_34 : List AOper := [⟨some 8, (.bin .lss .none (.tmp 7) (.tmp 6)), false, none⟩]
def c30_35 : ACode := (.region o30_34 [0, 1, 6, 7, 8])
def w30_35 (_P : Program) (Q : Exit → Slots → Mem → Prop) (M : Mem) (v0 : V) (v1 : V) (v6 : V) (v7 : V) : Prop :=
  @OptVH (binV .lss .none v7 v6) ⟨fun t8_1 =>
  Q .normal [(0, v0), (1, v1), (6, v6), (7, v7), (8, t8_1)] M⟩
theorem e30_35 (P : Program) (Q : Exit → Slots → Mem → Prop) (s : Slots) (M : Mem) : wpC P c30_35 Q s M = w30_35 P Q M (sget s 0) (sget s 1) (sget s 6) (sget s 7) := by kernel_rfl
def c30_36 : ACode := (.cond (.tmp 8) .skip (.exit 0))
def o30_37 : List AOper := [⟨some 9, (.mov (.tmp 7)), false, none⟩,
  ⟨some 3, (.mov (.tmp 9)), false, none⟩]
def c30_38 : ACode := (.region o30_37 [0, 1, 3, 6, 7])
def w30_38 (_P : Program) (Q : Exit → Slots → Mem → Prop) (M : Mem) (v0 : V) (v1 : V) (v6 : V) (v7 : V) : Prop :=
  Q .normal [(0, v0), (1, v1), (3, v7), (6, v6), (7, v7)] M
theorem e30_38 (P : Program) (Q : Exit → Slots → Mem → Prop) (s : Slots) (M : Mem) : wpC P c30_38 Q s M = w30_38 P Q M (sget s 0) (sget s 1) (sget s 6) (sget s 7) := by kernel_rfl
def o30_39 : List AOper := [⟨some 10, (.mov (.tmp 3)), false, none⟩,
  ⟨some 11, (.bin .add .none (.tmp 10) (.const (.int .i64 1))), false, none⟩,
  ⟨some 4, (.mov (.tmp 11)), false, none⟩]
def c30_40 : ACode := (.region o30_39 [0, 1, 3, 4, 6, 7])
def w30_40 (_P : Program) (Q : Exit → Slots → Mem → Prop) (M : Mem) (v0 : V) (v1 : V) (v3 : V) (v6 : V) (v7 : V) : Prop :=
  @OptVH (binV .add .none v3 (.int .i64 1)) ⟨fun t11_2 =>
  Q .normal [(0, v0), (1, v1), (3, v3), (4, t11_2), (6, v6), (7, v7)] M⟩
theorem e30_40 (P : Program) (Q : Exit → Slots → Mem → Prop) (s : Slots) (M : Mem) : wpC P c30_40 Q s M = w30_40 P Q M (sget s 0) (sget s 1) (sget s 3) (sget s 6) (sget s 7) := by kernel_rfl
def o30_41 : List AOper := [⟨some 12, (.mov (.tmp 4)), false, none⟩,
  ⟨some 13, (.load 1 false (.tmp 1)), false, none⟩,
  ⟨some 14, (.lenSl (.tmp 13)), false, none⟩,
  ⟨some 15, (.bin .lss .none (.tmp 12) (.tmp 14)), true, none⟩]
def c30_42 : ACode := (.seq (.region o30_41 [0, 1, 3, 4, 6, 7, 15]) (.cond (.tmp 15) .skip (.exit 2)))
def w30_42 (_P : Program) (Q : Exit → Slots → Mem → Prop) (M : Mem) (v0 : V) (v1 : V) (v3 : V) (v4 : V) (v6 : V) (v7 : V) : Prop :=
  @OptVH (loadV 1 false v1 M) ⟨fun t13_2 =>
  @OptVH (lenV t13_2 M) ⟨fun t14_3 =>
  @OptBH (binV .lss .none v4 t14_3) ⟨fun b15_4 =>
  @BIfH b15_4
  ⟨Q .normal [(0, v0), (1, v1), (3, v3), (4, v4), (6, v6), (7, v7), (15, (.bool b15_4))] M⟩
  ⟨Q (.exit 2) [(0, v0), (1, v1), (3, v3), (4, v4), (6, v6), (7, v7), (15, (.bool b15_4))] M⟩⟩⟩⟩
theorem e30_42 (P : Program) (Q : Exit → Slots → Mem → Prop) (s : Slots) (M : Mem) : wpC P c30_42 Q s M = w30_42 P Q M (sget s 0) (sget s 1) (sget s 3) (sget s 4) (sget s 6) (sget s 7) := by kernel_rfl
def o30_43 : List AOper := [⟨some 18, (.load 1 false (.tmp 1)), false, none⟩,
  ⟨some 19, (.mov (.tmp 3)), false, none⟩,
  ⟨some 20, (.mov (.tmp 4)), false, none⟩,
  ⟨some 21, (.call i_call_Ridable [(.tmp 18), (.tmp 19), (.tmp 20)]), true, none⟩,
  ⟨some 22, (.mov (.tmp 21)), true, none⟩,
  ⟨some 23, (.mov (.tmp 0)), false, some (22, true)⟩,
  ⟨some 24, (.mov (.tmp 3)), false, some (22, true)⟩,
  ⟨some 25, (.mov (.tmp 4)), false, some (22, true)⟩,
  ⟨some 26, (.callv (.tmp 23) [(.tmp 24), (.tmp 25)]), true, some (22, true)⟩,
  ⟨some 27, (.un .not (.tmp 26)), true, some (22, true)⟩,
  ⟨some 28, (.pick (.tmp 22) (.tmp 27) (.const (.bool false))), true, none⟩]
def c30_44 : ACode := (.seq (.region o30_43 [0, 1, 3, 4, 6, 7, 28]) (.cond (.tmp 28) (.exit 0) .skip))
def w30_44 (P : Program) (Q : Exit → Slots → Mem → Prop) (M : Mem) (v0 : V) (v1 : V) (v3 : V) (v4 : V) (v6 : V) (v7 : V) : Prop :=
  @OptVH (loadV 1 false v1 M) ⟨fun t18_1 =>
  @CallH P i_call_Ridable [t18_1, v3, v4] M ⟨fun t21_4 M4 => @OptBH (some t21_4) ⟨fun b21_4 =>
  @BIfH b21_4
  ⟨@CallV P false v0 [v3, v4] M4 ⟨fun t26_9 M9 => @OptBH (some t26_9) ⟨fun b26_9 =>
  @OptBH (unV .not (.bool b26_9)) ⟨fun b27_10 =>
  @BIfH b27_10
  ⟨Q (.exit 0) [(0, v0), (1, v1), (3, v3), (4, v4), (6, v6), (7, v7), (28, (.bool b27_10))] M9⟩
  ⟨Q .normal [(0, v0), (1, v1), (3, v3), (4, v4), (6, v6), (7, v7), (28, (.bool b27_10))] M9⟩⟩⟩⟩⟩
  ⟨Q .normal [(0, v0), (1, v1), (3, v3), (4, v4), (6, v6), (7, v7), (28, (.bool false))] M4⟩⟩⟩⟩
theorem e30_44 (P : Program) (Q : Exit → Slots → Mem → Prop) (s : Slots) (M : Mem) : wpC P c30_44 Q s M = w30_44 P Q M (sget s 0) (sget s 1) (sget s 3) (sget s 4) (sget s 6) (sget s 7) := by kernel_rfl
def c30_45 : ACode := (.block 3 c30_44)
def o30_46 : List AOper := [⟨some 16, (.mov (.tmp 4)), false, none⟩,
  ⟨some 17, (.bin .add .none (.tmp 16) (.const (.int .i64 1))), false, none⟩,
  ⟨some 4, (.mov (.tmp 17)), false, none⟩]
def c30_47 : ACode := (.region o30_46 [0, 1, 3, 4, 6, 7])
def w30_47 (_P : Program) (Q : Exit → Slots → Mem → Prop) (M : Mem) (v0 : V) (v1 : V) (v3 : V) (v4 : V) (v6 : V) (v7 : V) : Prop :=
  @OptVH (binV .add .none v4 (.int .i64 1)) ⟨fun t17_2 =>
  Q .normal [(0, v0), (1, v1), (3, v3), (4, t17_2), (6, v6), (7, v7)] M⟩
theorem e30_47 (P : Program) (Q : Exit → Slots → Mem → Prop) (s : Slots) (M : Mem) : wpC P c30_47 Q s M = w30_47 P Q M (sget s 0) (sget s 1) (sget s 3) (sget s 4) (sget s 6) (sget s 7) := by kernel_rfl
def c30_48 : ACode := (.seq c30_45 c30_47)
def c30_49 : ACode := (.seq c30_42 c30_48)
def c30_50 : ACode := (.loop [0, 1, 3, 4, 6, 7] c30_49)
def c30_51 : ACode := (.block 2 c30_50)
def c30_52 : ACode := (.seq c30_40 c30_51)
def c30_53 : ACode := (.seq c30_38 c30_52)
def c30_54 : ACode := (.block 1 c30_53)
def o30_55 : List AOper := [⟨some 29, (.bin .add .none (.tmp 7) (.const (.int .i64 1))), false, none⟩,
  ⟨some 7, (.mov (.tmp 29)), false, none⟩]
def c30_56 : ACode := (.region o30_55 [0, 1, 6, 7])
def w30_56 (_P : Program) (Q : Exit → Slots → Mem → Prop) (M : Mem) (v0 : V) (v1 : V) (v6 : V) (v7 : V) : Prop :=
  @OptVH (binV .add .none v7 (.int .i64 1)) ⟨fun t29_1 =>
  Q .normal [(0, v0), (1, v1), (6, v6), (7, t29_1)] M⟩
theorem e30_56 (P : Program) (Q : Exit → Slots → Mem → Prop) (s : Slots) (M : Mem) : wpC P c30_56 Q s M = w30_56 P Q M (sget s 0) (sget s 1) (sget s 6) (sget s 7) := by kernel_rfl
def c30_57 : ACode := (.seq c30_54 c30_56)
def c30_58 : ACode := (.seq c30_36 c30_57)
def c30_59 : ACode := (.seq c30_35 c30_58)
def c30_60 : ACode := (.loop [0, 1, 6, 7] c30_59)
def c30_61 : ACode := (.block 0 c30_60)
def c30_62 : ACode := (.seq c30_33 c30_61)
def c30_63 : ACode := (.seq .skip c30_62)
def c30_64 : ACode := (.scope 0 [0, 1] c30_31 c30_63)
def fn_call_Rides_1 : AFn := ⟨30, [], c30_64⟩
theorem fn_call_Rides_1_ok : resFn PR h_call_Rides_1 i_call_Rides_1 = some fn_call_Rides_1 := by kernel_rfl

def tabL : List (Nat × AFn × Bool) := [(3, fn_transitlaw16_CallChecks, false), (4, fn_transitlaw16_CallRidable, false), (5, fn_transitlaw16_CallRides, false), (6, fn_transitlaw16_CallLists, false), (7, fn_transitlaw16_CallCounts, false), (8, fn_transitlaw16_CallShifts, false), (9, fn_transitlaw16_CallMoves, false), (10, fn_transitlaw16_CallEquals, false), (11, fn_transitlaw16_exampleHolds, false), (12, fn_call_Check, false), (13, fn_transitref16_Check, false), (14, fn_call_Ridable, false), (15, fn_transitref16_Ridable, false), (17, fn_transitref16_Rides, false), (18, fn_transitref16_Same, false), (19, fn_call_At, false), (20, fn_transitref16_At, false), (21, fn_call_Duration, false), (22, fn_transitref16_Duration, false), (23, fn_transitref16_Equal, false), (24, fn_call_Shift, false), (25, fn_transitref16_Shift, false), (26, fn_transitlaw16_near, false), (27, fn_call_Equal, false), (28, fn_call_one, false), (29, fn_call_Rides, false), (30, fn_call_Rides_1, false)]
theorem tab_ok : TabOK PR (tabOf tabL) := tabOf_cons fn_transitlaw16_CallChecks_ok (tabOf_cons fn_transitlaw16_CallRidable_ok (tabOf_cons fn_transitlaw16_CallRides_ok (tabOf_cons fn_transitlaw16_CallLists_ok (tabOf_cons fn_transitlaw16_CallCounts_ok (tabOf_cons fn_transitlaw16_CallShifts_ok (tabOf_cons fn_transitlaw16_CallMoves_ok (tabOf_cons fn_transitlaw16_CallEquals_ok (tabOf_cons fn_transitlaw16_exampleHolds_ok (tabOf_cons fn_call_Check_ok (tabOf_cons fn_transitref16_Check_ok (tabOf_cons fn_call_Ridable_ok (tabOf_cons fn_transitref16_Ridable_ok (tabOf_cons fn_transitref16_Rides_ok (tabOf_cons fn_transitref16_Same_ok (tabOf_cons fn_call_At_ok (tabOf_cons fn_transitref16_At_ok (tabOf_cons fn_call_Duration_ok (tabOf_cons fn_transitref16_Duration_ok (tabOf_cons fn_transitref16_Equal_ok (tabOf_cons fn_call_Shift_ok (tabOf_cons fn_transitref16_Shift_ok (tabOf_cons fn_transitlaw16_near_ok (tabOf_cons fn_call_Equal_ok (tabOf_cons fn_call_one_ok (tabOf_cons fn_call_Rides_ok (tabOf_cons fn_call_Rides_1_ok (tabOf_nil)))))))))))))))))))))))))))

end Go.Vm.C
