/- The abstract code of the functions that the statements reach, printed by a program, each with the equation that it is what the loaded program says. Part 1. -/
import Derived.Test.YtmbeokppfdalfaaC0
namespace Go.Vm.C
open Go.Vm
def h_transitref31_Check : Hints := ⟨[(0, [1]), (1, [1, 16]), (2, [2]), (3, [1, 19]), (4, [2]), (5, [1, 44]), (6, [2]), (7, [1, 52]), (8, [2]), (9, [1, 56]), (10, [2]), (11, [1, 64]), (12, [2]), (13, [1, 67]), (14, [2]), (15, [1, 3, 4, 5, 6]), (16, [1, 3, 4, 5, 6, 126]), (17, [2]), (18, [1, 3, 4, 5, 6, 127]), (19, [1, 3, 4, 5, 6, 8]), (20, [1, 3, 4, 5, 6, 8, 135]), (21, [2]), (22, [175]), (23, [2]), (24, [2])], [], []⟩
def o47_0 : List AOper := [⟨some 1, (.box 13 (.tmp 0)), false, none⟩,
  ⟨some 2, (.mov (.const (.int .i64 0))), false, none⟩]
def c47_1 : ACode := (.region o47_0 [1])
def w47_1 (_P : Program) (Q : Exit → Slots → Mem → Prop) (M : Mem) (v0 : V) : Prop :=
  @OptMH (boxV 13 v0 M) ⟨fun t1_1 M1 =>
  Q .normal [(1, t1_1)] M1⟩
theorem e47_1 (P : Program) (Q : Exit → Slots → Mem → Prop) (s : Slots) (M : Mem) : wpC P c47_1 Q s M = w47_1 P Q M (sget s 0) := by kernel_rfl
def o47_2 : List AOper := [⟨some 2, (.mov (.const (.int .i64 36))), false, none⟩]
def c47_3 : ACode := (.region o47_2 [2])
def w47_3 (_P : Program) (Q : Exit → Slots → Mem → Prop) (M : Mem) : Prop :=
  Q .normal [(2, (.int .i64 36))] M
theorem e47_3 (P : Program) (Q : Exit → Slots → Mem → Prop) (s : Slots) (M : Mem) : wpC P c47_3 Q s M = w47_3 P Q M := by kernel_rfl
def c47_4 : ACode := (.seq c47_3 .ret)
def o47_5 : List AOper := [⟨some 9, (.fieldAddr 0 (.tmp 1)), false, none⟩,
  ⟨some 10, (.load 1 false (.tmp 9)), false, none⟩,
  ⟨some 11, (.bin .lss .none (.tmp 10) (.const (.int .i64 0))), true, none⟩,
  ⟨some 12, (.mov (.tmp 11)), true, none⟩,
  ⟨some 13, (.fieldAddr 0 (.tmp 1)), false, some (12, false)⟩,
  ⟨some 14, (.load 1 false (.tmp 13)), false, some (12, false)⟩,
  ⟨some 15, (.bin .gtr .none (.tmp 14) (.const (.int .i64 7))), true, some (12, false)⟩,
  ⟨some 16, (.pick (.tmp 12) (.const (.bool true)) (.tmp 15)), true, none⟩]
def c47_6 : ACode := (.seq (.region o47_5 [1, 16]) (.cond (.tmp 16) c47_4 .skip))
def w47_6 (P : Program) (Q : Exit → Slots → Mem → Prop) (M : Mem) (v1 : V) : Prop :=
  @OptVH (moveV 0 v1) ⟨fun t9_1 =>
  @OptVH (loadV 1 false t9_1 M) ⟨fun t10_2 =>
  @OptBH (binV .lss .none t10_2 (.int .i64 0)) ⟨fun b11_3 =>
  @BIfH b11_3
  ⟨wpC P c47_4 Q [(1, v1), (16, (.bool true))] M⟩
  ⟨@OptVH (moveV 0 v1) ⟨fun t13_6 =>
  @OptVH (loadV 1 false t13_6 M) ⟨fun t14_7 =>
  @OptBH (binV .gtr .none t14_7 (.int .i64 7)) ⟨fun b15_8 =>
  @BIfH b15_8
  ⟨wpC P c47_4 Q [(1, v1), (16, (.bool b15_8))] M⟩
  ⟨Q .normal [(1, v1), (16, (.bool b15_8))] M⟩⟩⟩⟩⟩⟩⟩⟩
theorem e47_6 (P : Program) (Q : Exit → Slots → Mem → Prop) (s : Slots) (M : Mem) : wpC P c47_6 Q s M = w47_6 P Q M (sget s 1) := by kernel_rfl
def o47_7 : List AOper := [⟨some 2, (.mov (.const (.int .i64 2))), false, none⟩]
def c47_8 : ACode := (.region o47_7 [2])
def w47_8 (_P : Program) (Q : Exit → Slots → Mem → Prop) (M : Mem) : Prop :=
  Q .normal [(2, (.int .i64 2))] M
theorem e47_8 (P : Program) (Q : Exit → Slots → Mem → Prop) (s : Slots) (M : Mem) : wpC P c47_8 Q s M = w47_8 P Q M := by kernel_rfl
def c47_9 : ACode := (.seq c47_8 .ret)
def o47_10 : List AOper := [⟨some 17, (.fieldAddr 1 (.tmp 1)), false, none⟩,
  ⟨some 18, (.load 1 false (.tmp 17)), false, none⟩,
  ⟨some 19, (.bin .lss .none (.tmp 18) (.const (.int .i64 1))), true, none⟩]
def c47_11 : ACode := (.seq (.region o47_10 [1, 19]) (.cond (.tmp 19) c47_9 .skip))
def w47_11 (P : Program) (Q : Exit → Slots → Mem → Prop) (M : Mem) (v1 : V) : Prop :=
  @OptVH (moveV 1 v1) ⟨fun t17_1 =>
  @OptVH (loadV 1 false t17_1 M) ⟨fun t18_2 =>
  @OptBH (binV .lss .none t18_2 (.int .i64 1)) ⟨fun b19_3 =>
  @BIfH b19_3
  ⟨wpC P c47_9 Q [(1, v1), (19, (.bool b19_3))] M⟩
  ⟨Q .normal [(1, v1), (19, (.bool b19_3))] M⟩⟩⟩⟩
theorem e47_11 (P : Program) (Q : Exit → Slots → Mem → Prop) (s : Slots) (M : Mem) : wpC P c47_11 Q s M = w47_11 P Q M (sget s 1) := by kernel_rfl
def o47_12 : List AOper := [⟨some 2, (.mov (.const (.int .i64 10))), false, none⟩]
def c47_13 : ACode := (.region o47_12 [2])
def w47_13 (_P : Program) (Q : Exit → Slots → Mem → Prop) (M : Mem) : Prop :=
  Q .normal [(2, (.int .i64 10))] M
theorem e47_13 (P : Program) (Q : Exit → Slots → Mem → Prop) (s : Slots) (M : Mem) : wpC P c47_13 Q s M = w47_13 P Q M := by kernel_rfl
def c47_14 : ACode := (.seq c47_13 .ret)
def o47_15 : List AOper := [⟨some 20, (.fieldAddr 2 (.tmp 1)), false, none⟩,
  ⟨some 21, (.load 1 false (.tmp 20)), false, none⟩,
  ⟨some 22, (.bin .lss .none (.tmp 21) (.const (.int .i64 0))), true, none⟩,
  ⟨some 23, (.mov (.tmp 22)), true, none⟩,
  ⟨some 24, (.fieldAddr 2 (.tmp 1)), false, some (23, false)⟩,
  ⟨some 25, (.load 1 false (.tmp 24)), false, some (23, false)⟩,
  ⟨some 26, (.bin .gtr .none (.tmp 25) (.const (.int .i64 3155932800))), true, some (23, false)⟩,
  ⟨some 27, (.pick (.tmp 23) (.const (.bool true)) (.tmp 26)), true, none⟩,
  ⟨some 28, (.mov (.tmp 27)), true, none⟩,
  ⟨some 29, (.fieldAddr 3 (.tmp 1)), false, some (28, false)⟩,
  ⟨some 30, (.load 1 false (.tmp 29)), false, some (28, false)⟩,
  ⟨some 31, (.bin .lss .none (.tmp 30) (.const (.int .i64 0))), true, some (28, false)⟩,
  ⟨some 32, (.pick (.tmp 28) (.const (.bool true)) (.tmp 31)), true, none⟩,
  ⟨some 33, (.mov (.tmp 32)), true, none⟩,
  ⟨some 34, (.fieldAddr 3 (.tmp 1)), false, some (33, false)⟩,
  ⟨some 35, (.load 1 false (.tmp 34)), false, some (33, false)⟩,
  ⟨some 36, (.bin .gtr .none (.tmp 35) (.const (.int .i64 3155932800))), true, some (33, false)⟩,
  ⟨some 37, (.pick (.tmp 33) (.const (.bool true)) (.tmp 36)), true, none⟩,
  ⟨some 38, (.mov (.tmp 37)), true, none⟩,
  ⟨some 39, (.fieldAddr 2 (.tmp 1)), false, some (38, false)⟩,
  ⟨some 40, (.load 1 false (.tmp 39)), false, some (38, false)⟩,
  ⟨some 41, (.fieldAddr 3 (.tmp 1)), false, some (38, false)⟩,
  ⟨some 42, (.load 1 false (.tmp 41)), false, some (38, false)⟩,
  ⟨some 43, (.bin .geq .none (.tmp 40) (.tmp 42)), true, some (38, false)⟩,
  ⟨some 44, (.pick (.tmp 38) (.const (.bool true)) (.tmp 43)), true, none⟩]
def c47_16 : ACode := (.seq (.region o47_15 [1, 44]) (.cond (.tmp 44) c47_14 .skip))
def w47_16 (P : Program) (Q : Exit → Slots → Mem → Prop) (M : Mem) (v1 : V) : Prop :=
  @OptVH (moveV 2 v1) ⟨fun t20_1 =>
  @OptVH (loadV 1 false t20_1 M) ⟨fun t21_2 =>
  @OptBH (binV .lss .none t21_2 (.int .i64 0)) ⟨fun b22_3 =>
  @BIfH b22_3
  ⟨wpC P c47_14 Q [(1, v1), (44, (.bool true))] M⟩
  ⟨@OptVH (moveV 2 v1) ⟨fun t24_12 =>
  @OptVH (loadV 1 false t24_12 M) ⟨fun t25_13 =>
  @OptBH (binV .gtr .none t25_13 (.int .i64 3155932800)) ⟨fun b26_14 =>
  @BIfH b26_14
  ⟨wpC P c47_14 Q [(1, v1), (44, (.bool true))] M⟩
  ⟨@OptVH (moveV 3 v1) ⟨fun t29_22 =>
  @OptVH (loadV 1 false t29_22 M) ⟨fun t30_23 =>
  @OptBH (binV .lss .none t30_23 (.int .i64 0)) ⟨fun b31_24 =>
  @BIfH b31_24
  ⟨wpC P c47_14 Q [(1, v1), (44, (.bool true))] M⟩
  ⟨@OptVH (moveV 3 v1) ⟨fun t34_30 =>
  @OptVH (loadV 1 false t34_30 M) ⟨fun t35_31 =>
  @OptBH (binV .gtr .none t35_31 (.int .i64 3155932800)) ⟨fun b36_32 =>
  @BIfH b36_32
  ⟨wpC P c47_14 Q [(1, v1), (44, (.bool true))] M⟩
  ⟨@OptVH (moveV 2 v1) ⟨fun t39_36 =>
  @OptVH (loadV 1 false t39_36 M) ⟨fun t40_37 =>
  @OptVH (moveV 3 v1) ⟨fun t41_38 =>
  @OptVH (loadV 1 false t41_38 M) ⟨fun t42_39 =>
  @OptBH (binV .geq .none t40_37 t42_39) ⟨fun b43_40 =>
  @BIfH b43_40
  ⟨wpC P c47_14 Q [(1, v1), (44, (.bool b43_40))] M⟩
  ⟨Q .normal [(1, v1), (44, (.bool b43_40))] M⟩⟩⟩⟩⟩⟩⟩⟩⟩⟩⟩⟩⟩⟩⟩⟩⟩⟩⟩⟩⟩⟩
theorem e47_16 (P : Program) (Q : Exit → Slots → Mem → Prop) (s : Slots) (M : Mem) : wpC P c47_16 Q s M = w47_16 P Q M (sget s 1) := by kernel_rfl
def o47_17 : List AOper := [⟨some 2, (.mov (.const (.int .i64 35))), false, none⟩]
def c47_18 : ACode := (.region o47_17 [2])
def w47_18 (_P : Program) (Q : Exit → Slots → Mem → Prop) (M : Mem) : Prop :=
  Q .normal [(2, (.int .i64 35))] M
theorem e47_18 (P : Program) (Q : Exit → Slots → Mem → Prop) (s : Slots) (M : Mem) : wpC P c47_18 Q s M = w47_18 P Q M := by kernel_rfl
def c47_19 : ACode := (.seq c47_18 .ret)
def o47_20 : List AOper := [⟨some 45, (.fieldAddr 4 (.tmp 1)), false, none⟩,
  ⟨some 46, (.load 1 false (.tmp 45)), false, none⟩,
  ⟨some 47, (.bin .lss .none (.tmp 46) (.const (.int .i64 1))), true, none⟩,
  ⟨some 48, (.mov (.tmp 47)), true, none⟩,
  ⟨some 49, (.fieldAddr 4 (.tmp 1)), false, some (48, false)⟩,
  ⟨some 50, (.load 1 false (.tmp 49)), false, some (48, false)⟩,
  ⟨some 51, (.bin .gtr .none (.tmp 50) (.const (.int .i64 6))), true, some (48, false)⟩,
  ⟨some 52, (.pick (.tmp 48) (.const (.bool true)) (.tmp 51)), true, none⟩]
def c47_21 : ACode := (.seq (.region o47_20 [1, 52]) (.cond (.tmp 52) c47_19 .skip))
def w47_21 (P : Program) (Q : Exit → Slots → Mem → Prop) (M : Mem) (v1 : V) : Prop :=
  @OptVH (moveV 4 v1) ⟨fun t45_1 =>
  @OptVH (loadV 1 false t45_1 M) ⟨fun t46_2 =>
  @OptBH (binV .lss .none t46_2 (.int .i64 1)) ⟨fun b47_3 =>
  @BIfH b47_3
  ⟨wpC P c47_19 Q [(1, v1), (52, (.bool true))] M⟩
  ⟨@OptVH (moveV 4 v1) ⟨fun t49_6 =>
  @OptVH (loadV 1 false t49_6 M) ⟨fun t50_7 =>
  @OptBH (binV .gtr .none t50_7 (.int .i64 6)) ⟨fun b51_8 =>
  @BIfH b51_8
  ⟨wpC P c47_19 Q [(1, v1), (52, (.bool b51_8))] M⟩
  ⟨Q .normal [(1, v1), (52, (.bool b51_8))] M⟩⟩⟩⟩⟩⟩⟩⟩
theorem e47_21 (P : Program) (Q : Exit → Slots → Mem → Prop) (s : Slots) (M : Mem) : wpC P c47_21 Q s M = w47_21 P Q M (sget s 1) := by kernel_rfl
def o47_22 : List AOper := [⟨some 2, (.mov (.const (.int .i64 12))), false, none⟩]
def c47_23 : ACode := (.region o47_22 [2])
def w47_23 (_P : Program) (Q : Exit → Slots → Mem → Prop) (M : Mem) : Prop :=
  Q .normal [(2, (.int .i64 12))] M
theorem e47_23 (P : Program) (Q : Exit → Slots → Mem → Prop) (s : Slots) (M : Mem) : wpC P c47_23 Q s M = w47_23 P Q M := by kernel_rfl
def c47_24 : ACode := (.seq c47_23 .ret)
def o47_25 : List AOper := [⟨some 53, (.fieldAddr 5 (.tmp 1)), false, none⟩,
  ⟨some 54, (.load 1 false (.tmp 53)), false, none⟩,
  ⟨some 55, (.call i_transitref15_Name [(.tmp 54)]), true, none⟩,
  ⟨some 56, (.un .not (.tmp 55)), true, none⟩]
def c47_26 : ACode := (.seq (.region o47_25 [1, 56]) (.cond (.tmp 56) c47_24 .skip))
def w47_26 (P : Program) (Q : Exit → Slots → Mem → Prop) (M : Mem) (v1 : V) : Prop :=
  @OptVH (moveV 5 v1) ⟨fun t53_1 =>
  @OptVH (loadV 1 false t53_1 M) ⟨fun t54_2 =>
  @CallH P i_transitref15_Name [t54_2] M ⟨fun t55_3 M3 => @OptBH (some t55_3) ⟨fun b55_3 =>
  @OptBH (unV .not (.bool b55_3)) ⟨fun b56_4 =>
  @BIfH b56_4
  ⟨wpC P c47_24 Q [(1, v1), (56, (.bool b56_4))] M3⟩
  ⟨Q .normal [(1, v1), (56, (.bool b56_4))] M3⟩⟩⟩⟩⟩⟩
theorem e47_26 (P : Program) (Q : Exit → Slots → Mem → Prop) (s : Slots) (M : Mem) : wpC P c47_26 Q s M = w47_26 P Q M (sget s 1) := by kernel_rfl
def o47_27 : List AOper := [⟨some 2, (.mov (.const (.int .i64 11))), false, none⟩]
def c47_28 : ACode := (.region o47_27 [2])
def w47_28 (_P : Program) (Q : Exit → Slots → Mem → Prop) (M : Mem) : Prop :=
  Q .normal [(2, (.int .i64 11))] M
theorem e47_28 (P : Program) (Q : Exit → Slots → Mem → Prop) (s : Slots) (M : Mem) : wpC P c47_28 Q s M = w47_28 P Q M := by kernel_rfl
def c47_29 : ACode := (.seq c47_28 .ret)
def o47_30 : List AOper := [⟨some 57, (.fieldAddr 6 (.tmp 1)), false, none⟩,
  ⟨some 58, (.load 1 false (.tmp 57)), false, none⟩,
  ⟨some 59, (.bin .lss .none (.tmp 58) (.const (.int .i64 0))), true, none⟩,
  ⟨some 60, (.mov (.tmp 59)), true, none⟩,
  ⟨some 61, (.fieldAddr 6 (.tmp 1)), false, some (60, false)⟩,
  ⟨some 62, (.load 1 false (.tmp 61)), false, some (60, false)⟩,
  ⟨some 63, (.bin .gtr .none (.tmp 62) (.const (.int .i64 36524))), true, some (60, false)⟩,
  ⟨some 64, (.pick (.tmp 60) (.const (.bool true)) (.tmp 63)), true, none⟩]
def c47_31 : ACode := (.seq (.region o47_30 [1, 64]) (.cond (.tmp 64) c47_29 .skip))
def w47_31 (P : Program) (Q : Exit → Slots → Mem → Prop) (M : Mem) (v1 : V) : Prop :=
  @OptVH (moveV 6 v1) ⟨fun t57_1 =>
  @OptVH (loadV 1 false t57_1 M) ⟨fun t58_2 =>
  @OptBH (binV .lss .none t58_2 (.int .i64 0)) ⟨fun b59_3 =>
  @BIfH b59_3
  ⟨wpC P c47_29 Q [(1, v1), (64, (.bool true))] M⟩
  ⟨@OptVH (moveV 6 v1) ⟨fun t61_6 =>
  @OptVH (loadV 1 false t61_6 M) ⟨fun t62_7 =>
  @OptBH (binV .gtr .none t62_7 (.int .i64 36524)) ⟨fun b63_8 =>
  @BIfH b63_8
  ⟨wpC P c47_29 Q [(1, v1), (64, (.bool b63_8))] M⟩
  ⟨Q .normal [(1, v1), (64, (.bool b63_8))] M⟩⟩⟩⟩⟩⟩⟩⟩
theorem e47_31 (P : Program) (Q : Exit → Slots → Mem → Prop) (s : Slots) (M : Mem) : wpC P c47_31 Q s M = w47_31 P Q M (sget s 1) := by kernel_rfl
def o47_32 : List AOper := [⟨some 2, (.mov (.const (.int .i64 2))), false, none⟩]
def c47_33 : ACode := (.region o47_32 [2])
def w47_33 (_P : Program) (Q : Exit → Slots → Mem → Prop) (M : Mem) : Prop :=
  Q .normal [(2, (.int .i64 2))] M
theorem e47_33 (P : Program) (Q : Exit → Slots → Mem → Prop) (s : Slots) (M : Mem) : wpC P c47_33 Q s M = w47_33 P Q M := by kernel_rfl
def c47_34 : ACode := (.seq c47_33 .ret)
def o47_35 : List AOper := [⟨some 65, (.fieldAddr 7 (.tmp 1)), false, none⟩,
  ⟨some 66, (.load 1 false (.tmp 65)), false, none⟩,
  ⟨some 67, (.bin .lss .none (.tmp 66) (.const (.int .i64 0))), true, none⟩]
def c47_36 : ACode := (.seq (.region o47_35 [1, 67]) (.cond (.tmp 67) c47_34 .skip))
def w47_36 (P : Program) (Q : Exit → Slots → Mem → Prop) (M : Mem) (v1 : V) : Prop :=
  @OptVH (moveV 7 v1) ⟨fun t65_1 =>
  @OptVH (loadV 1 false t65_1 M) ⟨fun t66_2 =>
  @OptBH (binV .lss .none t66_2 (.int .i64 0)) ⟨fun b67_3 =>
  @BIfH b67_3
  ⟨wpC P c47_34 Q [(1, v1), (67, (.bool b67_3))] M⟩
  ⟨Q .normal [(1, v1), (67, (.bool b67_3))] M⟩⟩⟩⟩
theorem e47_36 (P : Program) (Q : Exit → Slots → Mem → Prop) (s : Slots) (M : Mem) : wpC P c47_36 Q s M = w47_36 P Q M (sget s 1) := by kernel_rfl
def o47_37 : List AOper := [⟨some 68, (.fieldAddr 4 (.tmp 1)), false, none⟩,
  ⟨some 69, (.load 1 false (.tmp 68)), false, none⟩,
  ⟨some 70, (.bin .eql .none (.tmp 69) (.const (.int .i64 1))), true, none⟩,
  ⟨some 71, (.mov (.tmp 70)), true, none⟩,
  ⟨some 72, (.fieldAddr 4 (.tmp 1)), false, some (71, false)⟩,
  ⟨some 73, (.load 1 false (.tmp 72)), false, some (71, false)⟩,
  ⟨some 74, (.bin .eql .none (.tmp 73) (.const (.int .i64 3))), true, some (71, false)⟩,
  ⟨some 75, (.pick (.tmp 71) (.const (.bool true)) (.tmp 74)), true, none⟩,
  ⟨some 76, (.fieldAddr 4 (.tmp 1)), false, none⟩,
  ⟨some 77, (.load 1 false (.tmp 76)), false, none⟩,
  ⟨some 78, (.bin .eql .none (.tmp 77) (.const (.int .i64 1))), true, none⟩,
  ⟨some 79, (.fieldAddr 4 (.tmp 1)), false, none⟩,
  ⟨some 80, (.load 1 false (.tmp 79)), false, none⟩,
  ⟨some 81, (.bin .eql .none (.tmp 80) (.const (.int .i64 5))), true, none⟩,
  ⟨some 82, (.fieldAddr 4 (.tmp 1)), false, none⟩,
  ⟨some 83, (.load 1 false (.tmp 82)), false, none⟩,
  ⟨some 84, (.bin .eql .none (.tmp 83) (.const (.int .i64 4))), true, none⟩,
  ⟨some 85, (.mov (.tmp 84)), true, none⟩,
  ⟨some 86, (.fieldAddr 4 (.tmp 1)), false, some (85, false)⟩,
  ⟨some 87, (.load 1 false (.tmp 86)), false, some (85, false)⟩,
  ⟨some 88, (.bin .eql .none (.tmp 87) (.const (.int .i64 5))), true, some (85, false)⟩,
  ⟨some 89, (.pick (.tmp 85) (.const (.bool true)) (.tmp 88)), true, none⟩,
  ⟨some 3, (.mov (.tmp 75)), true, none⟩,
  ⟨some 4, (.mov (.tmp 78)), true, none⟩,
  ⟨some 5, (.mov (.tmp 81)), true, none⟩,
  ⟨some 6, (.mov (.tmp 89)), true, none⟩]
def c47_38 : ACode := (.mixed o47_37 [true, true, true, true, true, true, true, true, true, true, true, true, true, true, true, true, true, true, true, true, true, true, true, true, true, true] [1, 3, 4, 5, 6])
def w47_38 (_P : Program) (Q : Exit → Slots → Mem → Prop) (M : Mem) (v1 : V) : Prop :=
  @OptVH (moveV 4 v1) ⟨fun t68_1 =>
  @OptVH (loadV 1 false t68_1 M) ⟨fun t69_2 =>
  @OptBH (binV .eql .none t69_2 (.int .i64 1)) ⟨fun b70_3 =>
  @BIfH b70_3
  ⟨@OptVH (moveV 4 v1) ⟨fun t76_6 =>
  @OptVH (loadV 1 false t76_6 M) ⟨fun t77_7 =>
  @OptBH (binV .eql .none t77_7 (.int .i64 1)) ⟨fun b78_8 =>
  @OptVH (moveV 4 v1) ⟨fun t79_9 =>
  @OptVH (loadV 1 false t79_9 M) ⟨fun t80_10 =>
  @OptBH (binV .eql .none t80_10 (.int .i64 5)) ⟨fun b81_11 =>
  @OptVH (moveV 4 v1) ⟨fun t82_12 =>
  @OptVH (loadV 1 false t82_12 M) ⟨fun t83_13 =>
  @OptBH (binV .eql .none t83_13 (.int .i64 4)) ⟨fun b84_14 =>
  @BIfH b84_14
  ⟨Q .normal [(1, v1), (3, (.bool true)), (4, (.bool b78_8)), (5, (.bool b81_11)), (6, (.bool true))] M⟩
  ⟨@OptVH (moveV 4 v1) ⟨fun t86_21 =>
  @OptVH (loadV 1 false t86_21 M) ⟨fun t87_22 =>
  @OptBH (binV .eql .none t87_22 (.int .i64 5)) ⟨fun b88_23 =>
  Q .normal [(1, v1), (3, (.bool true)), (4, (.bool b78_8)), (5, (.bool b81_11)), (6, (.bool b88_23))] M⟩⟩⟩⟩⟩⟩⟩⟩⟩⟩⟩⟩⟩⟩
  ⟨@OptVH (moveV 4 v1) ⟨fun t72_29 =>
  @OptVH (loadV 1 false t72_29 M) ⟨fun t73_30 =>
  @OptBH (binV .eql .none t73_30 (.int .i64 3)) ⟨fun b74_31 =>
  @OptVH (moveV 4 v1) ⟨fun t76_33 =>
  @OptVH (loadV 1 false t76_33 M) ⟨fun t77_34 =>
  @OptBH (binV .eql .none t77_34 (.int .i64 1)) ⟨fun b78_35 =>
  @OptVH (moveV 4 v1) ⟨fun t79_36 =>
  @OptVH (loadV 1 false t79_36 M) ⟨fun t80_37 =>
  @OptBH (binV .eql .none t80_37 (.int .i64 5)) ⟨fun b81_38 =>
  @OptVH (moveV 4 v1) ⟨fun t82_39 =>
  @OptVH (loadV 1 false t82_39 M) ⟨fun t83_40 =>
  @OptBH (binV .eql .none t83_40 (.int .i64 4)) ⟨fun b84_41 =>
  @BIfH b84_41
  ⟨Q .normal [(1, v1), (3, (.bool b74_31)), (4, (.bool b78_35)), (5, (.bool b81_38)), (6, (.bool true))] M⟩
  ⟨@OptVH (moveV 4 v1) ⟨fun t86_48 =>
  @OptVH (loadV 1 false t86_48 M) ⟨fun t87_49 =>
  @OptBH (binV .eql .none t87_49 (.int .i64 5)) ⟨fun b88_50 =>
  Q .normal [(1, v1), (3, (.bool b74_31)), (4, (.bool b78_35)), (5, (.bool b81_38)), (6, (.bool b88_50))] M⟩⟩⟩⟩⟩⟩⟩⟩⟩⟩⟩⟩⟩⟩⟩⟩⟩⟩⟩⟩
theorem e47_38 (P : Program) (Q : Exit → Slots → Mem → Prop) (s : Slots) (M : Mem) : wpC P c47_38 Q s M = w47_38 P Q M (sget s 1) := by kernel_rfl
def o47_39 : List AOper := [⟨some 2, (.mov (.const (.int .i64 2))), false, none⟩]
def c47_40 : ACode := (.region o47_39 [2])
def w47_40 (_P : Program) (Q : Exit → Slots → Mem → Prop) (M : Mem) : Prop :=
  Q .normal [(2, (.int .i64 2))] M
theorem e47_40 (P : Program) (Q : Exit → Slots → Mem → Prop) (s : Slots) (M : Mem) : wpC P c47_40 Q s M = w47_40 P Q M := by kernel_rfl
def c47_41 : ACode := (.seq c47_40 .ret)
def o47_42 : List AOper := [⟨some 90, (.mov (.tmp 3)), true, none⟩,
  ⟨some 91, (.mov (.tmp 90)), true, none⟩,
  ⟨some 92, (.fieldAddr 8 (.tmp 1)), false, some (91, true)⟩,
  ⟨some 93, (.load 1 false (.tmp 92)), false, some (91, true)⟩,
  ⟨some 94, (.bin .lss .none (.tmp 93) (.const (.int .i64 0))), true, some (91, true)⟩,
  ⟨some 95, (.mov (.tmp 94)), true, some (91, true)⟩,
  ⟨some 96, (.fieldAddr 8 (.tmp 1)), false, some (95, false)⟩,
  ⟨some 97, (.load 1 false (.tmp 96)), false, some (95, false)⟩,
  ⟨some 98, (.bin .gtr .none (.tmp 97) (.const (.int .i64 31))), true, some (95, false)⟩,
  ⟨some 99, (.pick (.tmp 95) (.const (.bool true)) (.tmp 98)), true, some (91, true)⟩,
  ⟨some 100, (.pick (.tmp 91) (.tmp 99) (.const (.bool false))), true, none⟩,
  ⟨some 101, (.mov (.tmp 100)), true, none⟩,
  ⟨some 102, (.mov (.tmp 4)), true, some (101, false)⟩,
  ⟨some 103, (.mov (.tmp 102)), true, some (101, false)⟩,
  ⟨some 104, (.fieldAddr 9 (.tmp 1)), false, some (103, true)⟩,
  ⟨some 105, (.load 1 false (.tmp 104)), false, some (103, true)⟩,
  ⟨some 106, (.bin .lss .none (.tmp 105) (.const (.int .i64 (-43200)))), true, some (103, true)⟩,
  ⟨some 107, (.mov (.tmp 106)), true, some (103, true)⟩,
  ⟨some 108, (.fieldAddr 9 (.tmp 1)), false, some (107, false)⟩,
  ⟨some 109, (.load 1 false (.tmp 108)), false, some (107, false)⟩,
  ⟨some 110, (.bin .gtr .none (.tmp 109) (.const (.int .i64 43200))), true, some (107, false)⟩,
  ⟨some 111, (.pick (.tmp 107) (.const (.bool true)) (.tmp 110)), true, some (103, true)⟩,
  ⟨some 112, (.pick (.tmp 103) (.tmp 111) (.const (.bool false))), true, some (101, false)⟩,
  ⟨some 113, (.pick (.tmp 101) (.const (.bool true)) (.tmp 112)), true, none⟩,
  ⟨some 114, (.mov (.tmp 113)), true, none⟩,
  ⟨some 115, (.mov (.tmp 5)), true, some (114, false)⟩,
  ⟨some 116, (.mov (.tmp 115)), true, some (114, false)⟩,
  ⟨some 117, (.fieldAddr 10 (.tmp 1)), false, some (116, true)⟩,
  ⟨some 118, (.load 1 false (.tmp 117)), false, some (116, true)⟩,
  ⟨some 119, (.bin .lss .none (.tmp 118) (.const (.int .i64 0))), true, some (116, true)⟩,
  ⟨some 120, (.mov (.tmp 119)), true, some (116, true)⟩,
  ⟨some 121, (.fieldAddr 10 (.tmp 1)), false, some (120, false)⟩,
  ⟨some 122, (.load 1 false (.tmp 121)), false, some (120, false)⟩,
  ⟨some 123, (.bin .gtr .none (.tmp 122) (.const (.int .i64 63))), true, some (120, false)⟩,
  ⟨some 124, (.pick (.tmp 120) (.const (.bool true)) (.tmp 123)), true, some (116, true)⟩,
  ⟨some 125, (.pick (.tmp 116) (.tmp 124) (.const (.bool false))), true, some (114, false)⟩,
  ⟨some 126, (.pick (.tmp 114) (.const (.bool true)) (.tmp 125)), true, none⟩]
def c47_43 : ACode := (.seq (.region o47_42 [1, 3, 4, 5, 6, 126]) (.cond (.tmp 126) c47_41 .skip))
def w47_43 (P : Program) (Q : Exit → Slots → Mem → Prop) (M : Mem) (v1 : V) (v3 : V) (v4 : V) (v5 : V) (v6 : V) : Prop :=
  @OptBH (some v3) ⟨fun b90_1 =>
  @BIfH b90_1
  ⟨@OptVH (moveV 8 v1) ⟨fun t92_3 =>
  @OptVH (loadV 1 false t92_3 M) ⟨fun t93_4 =>
  @OptBH (binV .lss .none t93_4 (.int .i64 0)) ⟨fun b94_5 =>
  @BIfH b94_5
  ⟨wpC P c47_41 Q [(1, v1), (3, v3), (4, v4), (5, v5), (6, v6), (126, (.bool true))] M⟩
  ⟨@OptVH (moveV 8 v1) ⟨fun t96_13 =>
  @OptVH (loadV 1 false t96_13 M) ⟨fun t97_14 =>
  @OptBH (binV .gtr .none t97_14 (.int .i64 31)) ⟨fun b98_15 =>
  @BIfH b98_15
  ⟨wpC P c47_41 Q [(1, v1), (3, v3), (4, v4), (5, v5), (6, v6), (126, (.bool true))] M⟩
  ⟨@OptBH (some v4) ⟨fun b102_22 =>
  @BIfH b102_22
  ⟨@OptVH (moveV 9 v1) ⟨fun t104_24 =>
  @OptVH (loadV 1 false t104_24 M) ⟨fun t105_25 =>
  @OptBH (binV .lss .none t105_25 (.int .i64 (-43200))) ⟨fun b106_26 =>
  @BIfH b106_26
  ⟨wpC P c47_41 Q [(1, v1), (3, v3), (4, v4), (5, v5), (6, v6), (126, (.bool true))] M⟩
  ⟨@OptVH (moveV 9 v1) ⟨fun t108_33 =>
  @OptVH (loadV 1 false t108_33 M) ⟨fun t109_34 =>
  @OptBH (binV .gtr .none t109_34 (.int .i64 43200)) ⟨fun b110_35 =>
  @BIfH b110_35
  ⟨wpC P c47_41 Q [(1, v1), (3, v3), (4, v4), (5, v5), (6, v6), (126, (.bool true))] M⟩
  ⟨@OptBH (some v5) ⟨fun b115_41 =>
  @BIfH b115_41
  ⟨@OptVH (moveV 10 v1) ⟨fun t117_43 =>
  @OptVH (loadV 1 false t117_43 M) ⟨fun t118_44 =>
  @OptBH (binV .lss .none t118_44 (.int .i64 0)) ⟨fun b119_45 =>
  @BIfH b119_45
  ⟨wpC P c47_41 Q [(1, v1), (3, v3), (4, v4), (5, v5), (6, v6), (126, (.bool true))] M⟩
  ⟨@OptVH (moveV 10 v1) ⟨fun t121_50 =>
  @OptVH (loadV 1 false t121_50 M) ⟨fun t122_51 =>
  @OptBH (binV .gtr .none t122_51 (.int .i64 63)) ⟨fun b123_52 =>
  @BIfH b123_52
  ⟨wpC P c47_41 Q [(1, v1), (3, v3), (4, v4), (5, v5), (6, v6), (126, (.bool b123_52))] M⟩
  ⟨Q .normal [(1, v1), (3, v3), (4, v4), (5, v5), (6, v6), (126, (.bool b123_52))] M⟩⟩⟩⟩⟩⟩⟩⟩⟩
  ⟨Q .normal [(1, v1), (3, v3), (4, v4), (5, v5), (6, v6), (126, (.bool false))] M⟩⟩⟩⟩⟩⟩⟩⟩⟩⟩⟩
  ⟨@OptBH (some v5) ⟨fun b115_61 =>
  @BIfH b115_61
  ⟨@OptVH (moveV 10 v1) ⟨fun t117_63 =>
  @OptVH (loadV 1 false t117_63 M) ⟨fun t118_64 =>
  @OptBH (binV .lss .none t118_64 (.int .i64 0)) ⟨fun b119_65 =>
  @BIfH b119_65
  ⟨wpC P c47_41 Q [(1, v1), (3, v3), (4, v4), (5, v5), (6, v6), (126, (.bool true))] M⟩
  ⟨@OptVH (moveV 10 v1) ⟨fun t121_70 =>
  @OptVH (loadV 1 false t121_70 M) ⟨fun t122_71 =>
  @OptBH (binV .gtr .none t122_71 (.int .i64 63)) ⟨fun b123_72 =>
  @BIfH b123_72
  ⟨wpC P c47_41 Q [(1, v1), (3, v3), (4, v4), (5, v5), (6, v6), (126, (.bool b123_72))] M⟩
  ⟨Q .normal [(1, v1), (3, v3), (4, v4), (5, v5), (6, v6), (126, (.bool b123_72))] M⟩⟩⟩⟩⟩⟩⟩⟩⟩
  ⟨Q .normal [(1, v1), (3, v3), (4, v4), (5, v5), (6, v6), (126, (.bool false))] M⟩⟩⟩⟩⟩⟩⟩⟩⟩⟩⟩⟩⟩
  ⟨@OptBH (some v4) ⟨fun b102_80 =>
  @BIfH b102_80
  ⟨@OptVH (moveV 9 v1) ⟨fun t104_82 =>
  @OptVH (loadV 1 false t104_82 M) ⟨fun t105_83 =>
  @OptBH (binV .lss .none t105_83 (.int .i64 (-43200))) ⟨fun b106_84 =>
  @BIfH b106_84
  ⟨wpC P c47_41 Q [(1, v1), (3, v3), (4, v4), (5, v5), (6, v6), (126, (.bool true))] M⟩
  ⟨@OptVH (moveV 9 v1) ⟨fun t108_91 =>
  @OptVH (loadV 1 false t108_91 M) ⟨fun t109_92 =>
  @OptBH (binV .gtr .none t109_92 (.int .i64 43200)) ⟨fun b110_93 =>
  @BIfH b110_93
  ⟨wpC P c47_41 Q [(1, v1), (3, v3), (4, v4), (5, v5), (6, v6), (126, (.bool true))] M⟩
  ⟨@OptBH (some v5) ⟨fun b115_99 =>
  @BIfH b115_99
  ⟨@OptVH (moveV 10 v1) ⟨fun t117_101 =>
  @OptVH (loadV 1 false t117_101 M) ⟨fun t118_102 =>
  @OptBH (binV .lss .none t118_102 (.int .i64 0)) ⟨fun b119_103 =>
  @BIfH b119_103
  ⟨wpC P c47_41 Q [(1, v1), (3, v3), (4, v4), (5, v5), (6, v6), (126, (.bool true))] M⟩
  ⟨@OptVH (moveV 10 v1) ⟨fun t121_108 =>
  @OptVH (loadV 1 false t121_108 M) ⟨fun t122_109 =>
  @OptBH (binV .gtr .none t122_109 (.int .i64 63)) ⟨fun b123_110 =>
  @BIfH b123_110
  ⟨wpC P c47_41 Q [(1, v1), (3, v3), (4, v4), (5, v5), (6, v6), (126, (.bool b123_110))] M⟩
  ⟨Q .normal [(1, v1), (3, v3), (4, v4), (5, v5), (6, v6), (126, (.bool b123_110))] M⟩⟩⟩⟩⟩⟩⟩⟩⟩
  ⟨Q .normal [(1, v1), (3, v3), (4, v4), (5, v5), (6, v6), (126, (.bool false))] M⟩⟩⟩⟩⟩⟩⟩⟩⟩⟩⟩
  ⟨@OptBH (some v5) ⟨fun b115_119 =>
  @BIfH b115_119
  ⟨@OptVH (moveV 10 v1) ⟨fun t117_121 =>
  @OptVH (loadV 1 false t117_121 M) ⟨fun t118_122 =>
  @OptBH (binV .lss .none t118_122 (.int .i64 0)) ⟨fun b119_123 =>
  @BIfH b119_123
  ⟨wpC P c47_41 Q [(1, v1), (3, v3), (4, v4), (5, v5), (6, v6), (126, (.bool true))] M⟩
  ⟨@OptVH (moveV 10 v1) ⟨fun t121_128 =>
  @OptVH (loadV 1 false t121_128 M) ⟨fun t122_129 =>
  @OptBH (binV .gtr .none t122_129 (.int .i64 63)) ⟨fun b123_130 =>
  @BIfH b123_130
  ⟨wpC P c47_41 Q [(1, v1), (3, v3), (4, v4), (5, v5), (6, v6), (126, (.bool b123_130))] M⟩
  ⟨Q .normal [(1, v1), (3, v3), (4, v4), (5, v5), (6, v6), (126, (.bool b123_130))] M⟩⟩⟩⟩⟩⟩⟩⟩⟩
  ⟨Q .normal [(1, v1), (3, v3), (4, v4), (5, v5), (6, v6), (126, (.bool false))] M⟩⟩⟩⟩⟩⟩
theorem e47_43 (P : Program) (Q : Exit → Slots → Mem → Prop) (s : Slots) (M : Mem) : wpC P c47_43 Q s M = w47_43 P Q M (sget s 1) (sget s 3) (sget s 4) (sget s 5) (sget s 6) := by kernel_rfl
def o47_44 : List AOper := [⟨some 129, (.fieldAddr 12 (.tmp 1)), false, none⟩,
  ⟨some 130, (.load 1 false (.tmp 129)), false, none⟩,
  ⟨some 131, (.call i_transitref16_Check [(.tmp 130), (.const (.int .i64 64)), (.const (.int .i64 0)), (.const (.int .i64 3155932800))]), false, none⟩,
  ⟨some 128, (.mov (.tmp 131)), false, none⟩,
  ⟨some 132, (.extract (.tmp 128) 0), false, none⟩,
  ⟨some 133, (.extract (.tmp 128) 1), false, none⟩,
  ⟨some 7, (.mov (.tmp 132)), false, none⟩,
  ⟨some 8, (.mov (.tmp 133)), false, none⟩]
def c47_45 : ACode := (.region o47_44 [1, 3, 4, 5, 6, 8])
def w47_45 (P : Program) (Q : Exit → Slots → Mem → Prop) (M : Mem) (v1 : V) (v3 : V) (v4 : V) (v5 : V) (v6 : V) : Prop :=
  @OptVH (moveV 12 v1) ⟨fun t129_1 =>
  @OptVH (loadV 1 false t129_1 M) ⟨fun t130_2 =>
  @CallH P i_transitref16_Check [t130_2, (.int .i64 64), (.int .i64 0), (.int .i64 3155932800)] M ⟨fun t131_3 M3 =>
  @OptVH (extractV t131_3 0) ⟨fun _t132_5 =>
  @OptVH (extractV t131_3 1) ⟨fun t133_6 =>
  Q .normal [(1, v1), (3, v3), (4, v4), (5, v5), (6, v6), (8, t133_6)] M3⟩⟩⟩⟩⟩
theorem e47_45 (P : Program) (Q : Exit → Slots → Mem → Prop) (s : Slots) (M : Mem) : wpC P c47_45 Q s M = w47_45 P Q M (sget s 1) (sget s 3) (sget s 4) (sget s 5) (sget s 6) := by kernel_rfl
def o47_46 : List AOper := [⟨some 136, (.mov (.tmp 8)), false, none⟩,
  ⟨some 2, (.mov (.tmp 136)), false, none⟩]
def c47_47 : ACode := (.region o47_46 [2])
def w47_47 (_P : Program) (Q : Exit → Slots → Mem → Prop) (M : Mem) (v8 : V) : Prop :=
  Q .normal [(2, v8)] M
theorem e47_47 (P : Program) (Q : Exit → Slots → Mem → Prop) (s : Slots) (M : Mem) : wpC P c47_47 Q s M = w47_47 P Q M (sget s 8) := by kernel_rfl
def c47_48 : ACode := (.seq c47_47 .ret)
def o47_49 : List AOper := [⟨some 134, (.mov (.tmp 8)), false, none⟩,
  ⟨some 135, (.bin .neq .none (.tmp 134) (.const (.int .i64 0))), true, none⟩]
def c47_50 : ACode := (.seq (.region o47_49 [1, 3, 4, 5, 6, 8, 135]) (.cond (.tmp 135) c47_48 .skip))
def w47_50 (P : Program) (Q : Exit → Slots → Mem → Prop) (M : Mem) (v1 : V) (v3 : V) (v4 : V) (v5 : V) (v6 : V) (v8 : V) : Prop :=
  @OptBH (binV .neq .none v8 (.int .i64 0)) ⟨fun b135_2 =>
  @BIfH b135_2
  ⟨wpC P c47_48 Q [(1, v1), (3, v3), (4, v4), (5, v5), (6, v6), (8, v8), (135, (.bool b135_2))] M⟩
  ⟨Q .normal [(1, v1), (3, v3), (4, v4), (5, v5), (6, v6), (8, v8), (135, (.bool b135_2))] M⟩⟩
theorem e47_50 (P : Program) (Q : Exit → Slots → Mem → Prop) (s : Slots) (M : Mem) : wpC P c47_50 Q s M = w47_50 P Q M (sget s 1) (sget s 3) (sget s 4) (sget s 5) (sget s 6) (sget s 8) := by kernel_rfl
def c47_51 : ACode := (.seq c47_45 c47_50)
def o47_52 : List AOper := [⟨some 127, (.mov (.tmp 6)), true, none⟩]
def c47_53 : ACode := (.seq (.region o47_52 [1, 3, 4, 5, 6, 127]) (.cond (.tmp 127) c47_51 .skip))
def w47_53 (P : Program) (Q : Exit → Slots → Mem → Prop) (M : Mem) (v1 : V) (v3 : V) (v4 : V) (v5 : V) (v6 : V) : Prop :=
  @OptBH (some v6) ⟨fun b127_1 =>
  @BIfH b127_1
  ⟨wpC P c47_51 Q [(1, v1), (3, v3), (4, v4), (5, v5), (6, v6), (127, (.bool b127_1))] M⟩
  ⟨Q .normal [(1, v1), (3, v3), (4, v4), (5, v5), (6, v6), (127, (.bool b127_1))] M⟩⟩
theorem e47_53 (P : Program) (Q : Exit → Slots → Mem → Prop) (s : Slots) (M : Mem) : wpC P c47_53 Q s M = w47_53 P Q M (sget s 1) (sget s 3) (sget s 4) (sget s 5) (sget s 6) := by kernel_rfl
def o47_54 : List AOper := [⟨some 2, (.mov (.const (.int .i64 1))), false, none⟩]
def c47_55 : ACode := (.region o47_54 [2])
def w47_55 (_P : Program) (Q : Exit → Slots → Mem → Prop) (M : Mem) : Prop :=
  Q .normal [(2, (.int .i64 1))] M
theorem e47_55 (P : Program) (Q : Exit → Slots → Mem → Prop) (s : Slots) (M : Mem) : wpC P c47_55 Q s M = w47_55 P Q M := by kernel_rfl
def c47_56 : ACode := (.seq c47_55 .ret)
def o47_57 : List AOper := [⟨some 137, (.mov (.tmp 3)), true, none⟩,
  ⟨some 138, (.un .not (.tmp 137)), true, none⟩,
  ⟨some 139, (.mov (.tmp 138)), true, none⟩,
  ⟨some 140, (.fieldAddr 8 (.tmp 1)), false, some (139, true)⟩,
  ⟨some 141, (.load 1 false (.tmp 140)), false, some (139, true)⟩,
  ⟨some 142, (.bin .neq .none (.tmp 141) (.const (.int .i64 0))), true, some (139, true)⟩,
  ⟨some 143, (.pick (.tmp 139) (.tmp 142) (.const (.bool false))), true, none⟩,
  ⟨some 144, (.mov (.tmp 143)), true, none⟩,
  ⟨some 145, (.mov (.tmp 4)), true, some (144, false)⟩,
  ⟨some 146, (.un .not (.tmp 145)), true, some (144, false)⟩,
  ⟨some 147, (.mov (.tmp 146)), true, some (144, false)⟩,
  ⟨some 148, (.fieldAddr 9 (.tmp 1)), false, some (147, true)⟩,
  ⟨some 149, (.load 1 false (.tmp 148)), false, some (147, true)⟩,
  ⟨some 150, (.bin .neq .none (.tmp 149) (.const (.int .i64 0))), true, some (147, true)⟩,
  ⟨some 151, (.pick (.tmp 147) (.tmp 150) (.const (.bool false))), true, some (144, false)⟩,
  ⟨some 152, (.pick (.tmp 144) (.const (.bool true)) (.tmp 151)), true, none⟩,
  ⟨some 153, (.mov (.tmp 152)), true, none⟩,
  ⟨some 154, (.mov (.tmp 5)), true, some (153, false)⟩,
  ⟨some 155, (.un .not (.tmp 154)), true, some (153, false)⟩,
  ⟨some 156, (.mov (.tmp 155)), true, some (153, false)⟩,
  ⟨some 157, (.fieldAddr 10 (.tmp 1)), false, some (156, true)⟩,
  ⟨some 158, (.load 1 false (.tmp 157)), false, some (156, true)⟩,
  ⟨some 159, (.bin .neq .none (.tmp 158) (.const (.int .i64 0))), true, some (156, true)⟩,
  ⟨some 160, (.mov (.tmp 159)), true, some (156, true)⟩,
  ⟨some 161, (.fieldAddr 11 (.tmp 1)), false, some (160, false)⟩,
  ⟨some 162, (.load 1 false (.tmp 161)), true, some (160, false)⟩,
  ⟨some 163, (.pick (.tmp 160) (.const (.bool true)) (.tmp 162)), true, some (156, true)⟩,
  ⟨some 164, (.pick (.tmp 156) (.tmp 163) (.const (.bool false))), true, some (153, false)⟩,
  ⟨some 165, (.pick (.tmp 153) (.const (.bool true)) (.tmp 164)), true, none⟩,
  ⟨some 166, (.mov (.tmp 165)), true, none⟩,
  ⟨some 167, (.mov (.tmp 6)), true, some (166, false)⟩,
  ⟨some 168, (.un .not (.tmp 167)), true, some (166, false)⟩,
  ⟨some 169, (.mov (.tmp 168)), true, some (166, false)⟩,
  ⟨some 170, (.fieldAddr 12 (.tmp 1)), false, some (169, true)⟩,
  ⟨some 171, (.load 1 false (.tmp 170)), false, some (169, true)⟩,
  ⟨some 172, (.lenSl (.tmp 171)), false, some (169, true)⟩,
  ⟨some 173, (.bin .gtr .none (.tmp 172) (.const (.int .i64 0))), true, some (169, true)⟩,
  ⟨some 174, (.pick (.tmp 169) (.tmp 173) (.const (.bool false))), true, some (166, false)⟩,
  ⟨some 175, (.pick (.tmp 166) (.const (.bool true)) (.tmp 174)), true, none⟩]
def c47_58 : ACode := (.seq (.region o47_57 [175]) (.cond (.tmp 175) c47_56 .skip))
def w47_58 (P : Program) (Q : Exit → Slots → Mem → Prop) (M : Mem) (v1 : V) (v3 : V) (v4 : V) (v5 : V) (v6 : V) : Prop :=
  @OptBH (some v3) ⟨fun b137_1 =>
  @OptBH (unV .not (.bool b137_1)) ⟨fun b138_2 =>
  @BIfH b138_2
  ⟨@OptVH (moveV 8 v1) ⟨fun t140_4 =>
  @OptVH (loadV 1 false t140_4 M) ⟨fun t141_5 =>
  @OptBH (binV .neq .none t141_5 (.int .i64 0)) ⟨fun b142_6 =>
  @BIfH b142_6
  ⟨wpC P c47_56 Q [(175, (.bool true))] M⟩
  ⟨@OptBH (some v4) ⟨fun b145_14 =>
  @OptBH (unV .not (.bool b145_14)) ⟨fun b146_15 =>
  @BIfH b146_15
  ⟨@OptVH (moveV 9 v1) ⟨fun t148_17 =>
  @OptVH (loadV 1 false t148_17 M) ⟨fun t149_18 =>
  @OptBH (binV .neq .none t149_18 (.int .i64 0)) ⟨fun b150_19 =>
  @BIfH b150_19
  ⟨wpC P c47_56 Q [(175, (.bool true))] M⟩
  ⟨@OptBH (some v5) ⟨fun b154_26 =>
  @OptBH (unV .not (.bool b154_26)) ⟨fun b155_27 =>
  @BIfH b155_27
  ⟨@OptVH (moveV 10 v1) ⟨fun t157_29 =>
  @OptVH (loadV 1 false t157_29 M) ⟨fun t158_30 =>
  @OptBH (binV .neq .none t158_30 (.int .i64 0)) ⟨fun b159_31 =>
  @BIfH b159_31
  ⟨wpC P c47_56 Q [(175, (.bool true))] M⟩
  ⟨@OptVH (moveV 11 v1) ⟨fun t161_38 =>
  @OptBH (loadV 1 false t161_38 M) ⟨fun b162_39 =>
  @BIfH b162_39
  ⟨wpC P c47_56 Q [(175, (.bool true))] M⟩
  ⟨@OptBH (some v6) ⟨fun b167_45 =>
  @OptBH (unV .not (.bool b167_45)) ⟨fun b168_46 =>
  @BIfH b168_46
  ⟨@OptVH (moveV 12 v1) ⟨fun t170_48 =>
  @OptVH (loadV 1 false t170_48 M) ⟨fun t171_49 =>
  @OptVH (lenV t171_49 M) ⟨fun t172_50 =>
  @OptBH (binV .gtr .none t172_50 (.int .i64 0)) ⟨fun b173_51 =>
  @BIfH b173_51
  ⟨wpC P c47_56 Q [(175, (.bool b173_51))] M⟩
  ⟨Q .normal [(175, (.bool b173_51))] M⟩⟩⟩⟩⟩⟩
  ⟨Q .normal [(175, (.bool false))] M⟩⟩⟩⟩⟩⟩⟩⟩⟩⟩⟩
  ⟨@OptBH (some v6) ⟨fun b167_59 =>
  @OptBH (unV .not (.bool b167_59)) ⟨fun b168_60 =>
  @BIfH b168_60
  ⟨@OptVH (moveV 12 v1) ⟨fun t170_62 =>
  @OptVH (loadV 1 false t170_62 M) ⟨fun t171_63 =>
  @OptVH (lenV t171_63 M) ⟨fun t172_64 =>
  @OptBH (binV .gtr .none t172_64 (.int .i64 0)) ⟨fun b173_65 =>
  @BIfH b173_65
  ⟨wpC P c47_56 Q [(175, (.bool b173_65))] M⟩
  ⟨Q .normal [(175, (.bool b173_65))] M⟩⟩⟩⟩⟩⟩
  ⟨Q .normal [(175, (.bool false))] M⟩⟩⟩⟩⟩⟩⟩⟩⟩⟩⟩
  ⟨@OptBH (some v5) ⟨fun b154_73 =>
  @OptBH (unV .not (.bool b154_73)) ⟨fun b155_74 =>
  @BIfH b155_74
  ⟨@OptVH (moveV 10 v1) ⟨fun t157_76 =>
  @OptVH (loadV 1 false t157_76 M) ⟨fun t158_77 =>
  @OptBH (binV .neq .none t158_77 (.int .i64 0)) ⟨fun b159_78 =>
  @BIfH b159_78
  ⟨wpC P c47_56 Q [(175, (.bool true))] M⟩
  ⟨@OptVH (moveV 11 v1) ⟨fun t161_85 =>
  @OptBH (loadV 1 false t161_85 M) ⟨fun b162_86 =>
  @BIfH b162_86
  ⟨wpC P c47_56 Q [(175, (.bool true))] M⟩
  ⟨@OptBH (some v6) ⟨fun b167_92 =>
  @OptBH (unV .not (.bool b167_92)) ⟨fun b168_93 =>
  @BIfH b168_93
  ⟨@OptVH (moveV 12 v1) ⟨fun t170_95 =>
  @OptVH (loadV 1 false t170_95 M) ⟨fun t171_96 =>
  @OptVH (lenV t171_96 M) ⟨fun t172_97 =>
  @OptBH (binV .gtr .none t172_97 (.int .i64 0)) ⟨fun b173_98 =>
  @BIfH b173_98
  ⟨wpC P c47_56 Q [(175, (.bool b173_98))] M⟩
  ⟨Q .normal [(175, (.bool b173_98))] M⟩⟩⟩⟩⟩⟩
  ⟨Q .normal [(175, (.bool false))] M⟩⟩⟩⟩⟩⟩⟩⟩⟩⟩⟩
  ⟨@OptBH (some v6) ⟨fun b167_106 =>
  @OptBH (unV .not (.bool b167_106)) ⟨fun b168_107 =>
  @BIfH b168_107
  ⟨@OptVH (moveV 12 v1) ⟨fun t170_109 =>
  @OptVH (loadV 1 false t170_109 M) ⟨fun t171_110 =>
  @OptVH (lenV t171_110 M) ⟨fun t172_111 =>
  @OptBH (binV .gtr .none t172_111 (.int .i64 0)) ⟨fun b173_112 =>
  @BIfH b173_112
  ⟨wpC P c47_56 Q [(175, (.bool b173_112))] M⟩
  ⟨Q .normal [(175, (.bool b173_112))] M⟩⟩⟩⟩⟩⟩
  ⟨Q .normal [(175, (.bool false))] M⟩⟩⟩⟩⟩⟩⟩⟩⟩⟩⟩⟩⟩⟩
  ⟨@OptBH (some v4) ⟨fun b145_119 =>
  @OptBH (unV .not (.bool b145_119)) ⟨fun b146_120 =>
  @BIfH b146_120
  ⟨@OptVH (moveV 9 v1) ⟨fun t148_122 =>
  @OptVH (loadV 1 false t148_122 M) ⟨fun t149_123 =>
  @OptBH (binV .neq .none t149_123 (.int .i64 0)) ⟨fun b150_124 =>
  @BIfH b150_124
  ⟨wpC P c47_56 Q [(175, (.bool true))] M⟩
  ⟨@OptBH (some v5) ⟨fun b154_131 =>
  @OptBH (unV .not (.bool b154_131)) ⟨fun b155_132 =>
  @BIfH b155_132
  ⟨@OptVH (moveV 10 v1) ⟨fun t157_134 =>
  @OptVH (loadV 1 false t157_134 M) ⟨fun t158_135 =>
  @OptBH (binV .neq .none t158_135 (.int .i64 0)) ⟨fun b159_136 =>
  @BIfH b159_136
  ⟨wpC P c47_56 Q [(175, (.bool true))] M⟩
  ⟨@OptVH (moveV 11 v1) ⟨fun t161_143 =>
  @OptBH (loadV 1 false t161_143 M) ⟨fun b162_144 =>
  @BIfH b162_144
  ⟨wpC P c47_56 Q [(175, (.bool true))] M⟩
  ⟨@OptBH (some v6) ⟨fun b167_150 =>
  @OptBH (unV .not (.bool b167_150)) ⟨fun b168_151 =>
  @BIfH b168_151
  ⟨@OptVH (moveV 12 v1) ⟨fun t170_153 =>
  @OptVH (loadV 1 false t170_153 M) ⟨fun t171_154 =>
  @OptVH (lenV t171_154 M) ⟨fun t172_155 =>
  @OptBH (binV .gtr .none t172_155 (.int .i64 0)) ⟨fun b173_156 =>
  @BIfH b173_156
  ⟨wpC P c47_56 Q [(175, (.bool b173_156))] M⟩
  ⟨Q .normal [(175, (.bool b173_156))] M⟩⟩⟩⟩⟩⟩
  ⟨Q .normal [(175, (.bool false))] M⟩⟩⟩⟩⟩⟩⟩⟩⟩⟩⟩
  ⟨@OptBH (some v6) ⟨fun b167_164 =>
  @OptBH (unV .not (.bool b167_164)) ⟨fun b168_165 =>
  @BIfH b168_165
  ⟨@OptVH (moveV 12 v1) ⟨fun t170_167 =>
  @OptVH (loadV 1 false t170_167 M) ⟨fun t171_168 =>
  @OptVH (lenV t171_168 M) ⟨fun t172_169 =>
  @OptBH (binV .gtr .none t172_169 (.int .i64 0)) ⟨fun b173_170 =>
  @BIfH b173_170
  ⟨wpC P c47_56 Q [(175, (.bool b173_170))] M⟩
  ⟨Q .normal [(175, (.bool b173_170))] M⟩⟩⟩⟩⟩⟩
  ⟨Q .normal [(175, (.bool false))] M⟩⟩⟩⟩⟩⟩⟩⟩⟩⟩⟩
  ⟨@OptBH (some v5) ⟨fun b154_178 =>
  @OptBH (unV .not (.bool b154_178)) ⟨fun b155_179 =>
  @BIfH b155_179
  ⟨@OptVH (moveV 10 v1) ⟨fun t157_181 =>
  @OptVH (loadV 1 false t157_181 M) ⟨fun t158_182 =>
  @OptBH (binV .neq .none t158_182 (.int .i64 0)) ⟨fun b159_183 =>
  @BIfH b159_183
  ⟨wpC P c47_56 Q [(175, (.bool true))] M⟩
  ⟨@OptVH (moveV 11 v1) ⟨fun t161_190 =>
  @OptBH (loadV 1 false t161_190 M) ⟨fun b162_191 =>
  @BIfH b162_191
  ⟨wpC P c47_56 Q [(175, (.bool true))] M⟩
  ⟨@OptBH (some v6) ⟨fun b167_197 =>
  @OptBH (unV .not (.bool b167_197)) ⟨fun b168_198 =>
  @BIfH b168_198
  ⟨@OptVH (moveV 12 v1) ⟨fun t170_200 =>
  @OptVH (loadV 1 false t170_200 M) ⟨fun t171_201 =>
  @OptVH (lenV t171_201 M) ⟨fun t172_202 =>
  @OptBH (binV .gtr .none t172_202 (.int .i64 0)) ⟨fun b173_203 =>
  @BIfH b173_203
  ⟨wpC P c47_56 Q [(175, (.bool b173_203))] M⟩
  ⟨Q .normal [(175, (.bool b173_203))] M⟩⟩⟩⟩⟩⟩
  ⟨Q .normal [(175, (.bool false))] M⟩⟩⟩⟩⟩⟩⟩⟩⟩⟩⟩
  ⟨@OptBH (some v6) ⟨fun b167_211 =>
  @OptBH (unV .not (.bool b167_211)) ⟨fun b168_212 =>
  @BIfH b168_212
  ⟨@OptVH (moveV 12 v1) ⟨fun t170_214 =>
  @OptVH (loadV 1 false t170_214 M) ⟨fun t171_215 =>
  @OptVH (lenV t171_215 M) ⟨fun t172_216 =>
  @OptBH (binV .gtr .none t172_216 (.int .i64 0)) ⟨fun b173_217 =>
  @BIfH b173_217
  ⟨wpC P c47_56 Q [(175, (.bool b173_217))] M⟩
  ⟨Q .normal [(175, (.bool b173_217))] M⟩⟩⟩⟩⟩⟩
  ⟨Q .normal [(175, (.bool false))] M⟩⟩⟩⟩⟩⟩⟩⟩⟩⟩⟩⟩
theorem e47_58 (P : Program) (Q : Exit → Slots → Mem → Prop) (s : Slots) (M : Mem) : wpC P c47_58 Q s M = w47_58 P Q M (sget s 1) (sget s 3) (sget s 4) (sget s 5) (sget s 6) := by kernel_rfl
def o47_59 : List AOper := [⟨some 2, (.mov (.const (.int .i64 0))), false, none⟩]
def c47_60 : ACode := (.region o47_59 [2])
def w47_60 (_P : Program) (Q : Exit → Slots → Mem → Prop) (M : Mem) : Prop :=
  Q .normal [(2, (.int .i64 0))] M
theorem e47_60 (P : Program) (Q : Exit → Slots → Mem → Prop) (s : Slots) (M : Mem) : wpC P c47_60 Q s M = w47_60 P Q M := by kernel_rfl
def c47_61 : ACode := (.seq c47_60 .ret)
def c47_62 : ACode := (.seq c47_58 c47_61)
def c47_63 : ACode := (.seq c47_53 c47_62)
def c47_64 : ACode := (.seq c47_43 c47_63)
def c47_65 : ACode := (.seq c47_38 c47_64)
def c47_66 : ACode := (.seq c47_36 c47_65)
def c47_67 : ACode := (.seq c47_31 c47_66)
def c47_68 : ACode := (.seq c47_26 c47_67)
def c47_69 : ACode := (.seq c47_21 c47_68)
def c47_70 : ACode := (.seq c47_16 c47_69)
def c47_71 : ACode := (.seq c47_11 c47_70)
def c47_72 : ACode := (.seq c47_6 c47_71)
def c47_73 : ACode := (.seq c47_1 c47_72)
def fn_transitref31_Check : AFn := ⟨176, [(.tmp 2)], c47_73⟩
theorem fn_transitref31_Check_ok : resFn PR h_transitref31_Check i_transitref31_Check = some fn_transitref31_Check := by kernel_rfl

def h_transitref32_heard : Hints := ⟨[(0, [0, 1, 2, 3]), (1, [0, 1, 2, 3, 9]), (2, [0, 1, 2, 3, 9, 10]), (3, [0, 1, 2, 3, 9, 10, 15]), (4, [0, 1, 2, 3, 9, 10]), (5, [0, 1, 2, 3, 9, 10, 11]), (6, [0, 1, 2, 3, 9, 10, 11, 24]), (7, [0, 1, 2, 3, 9, 10, 11]), (8, [0, 1, 2, 3, 9, 10, 11, 31]), (9, [0, 1, 2, 3, 9, 10, 11]), (10, [0, 1, 2, 3, 9, 10]), (11, [8])], [(3, [0, 1, 2, 3, 9, 10])], [(1, [0])]⟩
def o48_0 : List AOper := [⟨some 8, (.mov (.const (.slice [] .nil))), false, none⟩]
def c48_1 : ACode := (.region o48_0 [0, 1, 2, 3])
def w48_1 (_P : Program) (Q : Exit → Slots → Mem → Prop) (M : Mem) (v0 : V) (v1 : V) (v2 : V) (v3 : V) : Prop :=
  Q .normal [(0, v0), (1, v1), (2, v2), (3, v3)] M
theorem e48_1 (P : Program) (Q : Exit → Slots → Mem → Prop) (s : Slots) (M : Mem) : wpC P c48_1 Q s M = w48_1 P Q M (sget s 0) (sget s 1) (sget s 2) (sget s 3) := by kernel_rfl
def o48_2 : List AOper := [⟨some 9, (.newarr 2), false, none⟩]
def c48_3 : ACode := (.region o48_2 [0, 1, 2, 3, 9])
def w48_3 (_P : Program) (Q : Exit → Slots → Mem → Prop) (M : Mem) (v0 : V) (v1 : V) (v2 : V) (v3 : V) : Prop :=
  @OptMH (newarrV 2 M) ⟨fun t9_1 M1 =>
  Q .normal [(0, v0), (1, v1), (2, v2), (3, v3), (9, t9_1)] M1⟩
theorem e48_3 (P : Program) (Q : Exit → Slots → Mem → Prop) (s : Slots) (M : Mem) : wpC P c48_3 Q s M = w48_3 P Q M (sget s 0) (sget s 1) (sget s 2) (sget s 3) := by kernel_rfl
def o48_4 : List AOper := [⟨some 10, (.mov (.const (.int .i64 0))), false, none⟩]
def c48_5 : ACode := (.region o48_4 [0, 1, 2, 3, 9, 10])
def w48_5 (_P : Program) (Q : Exit → Slots → Mem → Prop) (M : Mem) (v0 : V) (v1 : V) (v2 : V) (v3 : V) (v9 : V) : Prop :=
  Q .normal [(0, v0), (1, v1), (2, v2), (3, v3), (9, v9), (10, (.int .i64 0))] M
theorem e48_5 (P : Program) (Q : Exit → Slots → Mem → Prop) (s : Slots) (M : Mem) : wpC P c48_5 Q s M = w48_5 P Q M (sget s 0) (sget s 1) (sget s 2) (sget s 3) (sget s 9) := by kernel_rfl
def o48_6 : List AOper := [⟨some 12, (.mov (.tmp 10)), false, none⟩,
  ⟨some 13, (.mov (.tmp 0)), false, none⟩,
  ⟨some 14, (.lenSl (.tmp 13)), false, none⟩,
  ⟨some 15, (.bin .lss .none (.tmp 12) (.tmp 14)), true, none⟩]
def c48_7 : ACode := (.seq (.region o48_6 [0, 1, 2, 3, 9, 10, 15]) (.cond (.tmp 15) .skip (.exit 0)))
def w48_7 (_P : Program) (Q : Exit → Slots → Mem → Prop) (M : Mem) (v0 : V) (v1 : V) (v2 : V) (v3 : V) (v9 : V) (v10 : V) : Prop :=
  @OptVH (lenV v0 M) ⟨fun t14_3 =>
  @OptBH (binV .lss .none v10 t14_3) ⟨fun b15_4 =>
  @BIfH b15_4
  ⟨Q .normal [(0, v0), (1, v1), (2, v2), (3, v3), (9, v9), (10, v10), (15, (.bool b15_4))] M⟩
  ⟨Q (.exit 0) [(0, v0), (1, v1), (2, v2), (3, v3), (9, v9), (10, v10), (15, (.bool b15_4))] M⟩⟩⟩
theorem e48_7 (P : Program) (Q : Exit → Slots → Mem → Prop) (s : Slots) (M : Mem) : wpC P c48_7 Q s M = w48_7 P Q M (sget s 0) (sget s 1) (sget s 2) (sget s 3) (sget s 9) (sget s 10) := by kernel_rfl
def o48_8 : List AOper := [⟨some 18, (.mov (.tmp 0)), false, none⟩,
  ⟨some 19, (.mov (.tmp 10)), false, none⟩,
  ⟨some 20, (.indexSl 2 (.tmp 18) (.tmp 19)), false, none⟩,
  ⟨some 21, (.load 2 true (.tmp 20)), false, none⟩,
  ⟨some 11, (.alloc [(.int .i64 0), (.int .i64 0)]), false, none⟩,
  ⟨none, (.store 2 (.tmp 11) (.tmp 21)), false, none⟩]
def c48_9 : ACode := (.region o48_8 [0, 1, 2, 3, 9, 10, 11])
def w48_9 (_P : Program) (Q : Exit → Slots → Mem → Prop) (M : Mem) (v0 : V) (v1 : V) (v2 : V) (v3 : V) (v9 : V) (v10 : V) : Prop :=
  @OptVH (indexSlV 2 v0 v10 M) ⟨fun t20_3 =>
  @OptVH (loadV 2 true t20_3 M) ⟨fun t21_4 =>
  @OptMH (allocV [(.int .i64 0), (.int .i64 0)] M) ⟨fun t11_5 M5 =>
  @OptMH (storeVM 2 t11_5 t21_4 M5) ⟨fun _tx_6 M6 =>
  Q .normal [(0, v0), (1, v1), (2, v2), (3, v3), (9, v9), (10, v10), (11, t11_5)] M6⟩⟩⟩⟩
theorem e48_9 (P : Program) (Q : Exit → Slots → Mem → Prop) (s : Slots) (M : Mem) : wpC P c48_9 Q s M = w48_9 P Q M (sget s 0) (sget s 1) (sget s 2) (sget s 3) (sget s 9) (sget s 10) := by kernel_rfl
def o48_10 : List AOper := [⟨some 25, (.fieldAddr 0 (.tmp 11)), false, none⟩,
  ⟨some 26, (.load 1 false (.tmp 25)), false, none⟩,
  ⟨some 27, (.mov (.tmp 2)), false, none⟩,
  ⟨some 28, (.minmax true (.tmp 26) (.tmp 27)), false, none⟩,
  ⟨some 29, (.fieldAddr 0 (.tmp 11)), false, none⟩,
  ⟨none, (.store 1 (.tmp 29) (.tmp 28)), false, none⟩]
def c48_11 : ACode := (.region o48_10 [0, 1, 2, 3, 9, 10, 11])
def w48_11 (_P : Program) (Q : Exit → Slots → Mem → Prop) (M : Mem) (v0 : V) (v1 : V) (v2 : V) (v3 : V) (v9 : V) (v10 : V) (v11 : V) : Prop :=
  @OptVH (moveV 0 v11) ⟨fun t25_1 =>
  @OptVH (loadV 1 false t25_1 M) ⟨fun t26_2 =>
  @OptVH (minmaxV true t26_2 v2) ⟨fun t28_4 =>
  @OptVH (moveV 0 v11) ⟨fun t29_5 =>
  @OptMH (storeVM 1 t29_5 t28_4 M) ⟨fun _tx_6 M6 =>
  Q .normal [(0, v0), (1, v1), (2, v2), (3, v3), (9, v9), (10, v10), (11, v11)] M6⟩⟩⟩⟩⟩
theorem e48_11 (P : Program) (Q : Exit → Slots → Mem → Prop) (s : Slots) (M : Mem) : wpC P c48_11 Q s M = w48_11 P Q M (sget s 0) (sget s 1) (sget s 2) (sget s 3) (sget s 9) (sget s 10) (sget s 11) := by kernel_rfl
def o48_12 : List AOper := [⟨some 32, (.mov (.tmp 3)), false, none⟩,
  ⟨some 33, (.fieldAddr 1 (.tmp 11)), false, none⟩,
  ⟨none, (.store 1 (.tmp 33) (.tmp 32)), false, none⟩]
def c48_13 : ACode := (.region o48_12 [0, 1, 2, 3, 9, 10, 11])
def w48_13 (_P : Program) (Q : Exit → Slots → Mem → Prop) (M : Mem) (v0 : V) (v1 : V) (v2 : V) (v3 : V) (v9 : V) (v10 : V) (v11 : V) : Prop :=
  @OptVH (moveV 1 v11) ⟨fun t33_2 =>
  @OptMH (storeVM 1 t33_2 v3 M) ⟨fun _tx_3 M3 =>
  Q .normal [(0, v0), (1, v1), (2, v2), (3, v3), (9, v9), (10, v10), (11, v11)] M3⟩⟩
theorem e48_13 (P : Program) (Q : Exit → Slots → Mem → Prop) (s : Slots) (M : Mem) : wpC P c48_13 Q s M = w48_13 P Q M (sget s 0) (sget s 1) (sget s 2) (sget s 3) (sget s 9) (sget s 10) (sget s 11) := by kernel_rfl
def o48_14 : List AOper := [⟨some 30, (.mov (.tmp 3)), false, none⟩,
  ⟨some 31, (.bin .neq .none (.tmp 30) (.const (.int .i64 0))), true, none⟩]
def c48_15 : ACode := (.seq (.region o48_14 [0, 1, 2, 3, 9, 10, 11, 31]) (.cond (.tmp 31) c48_13 .skip))
def w48_15 (P : Program) (Q : Exit → Slots → Mem → Prop) (M : Mem) (v0 : V) (v1 : V) (v2 : V) (v3 : V) (v9 : V) (v10 : V) (v11 : V) : Prop :=
  @OptBH (binV .neq .none v3 (.int .i64 0)) ⟨fun b31_2 =>
  @BIfH b31_2
  ⟨wpC P c48_13 Q [(0, v0), (1, v1), (2, v2), (3, v3), (9, v9), (10, v10), (11, v11), (31, (.bool b31_2))] M⟩
  ⟨Q .normal [(0, v0), (1, v1), (2, v2), (3, v3), (9, v9), (10, v10), (11, v11), (31, (.bool b31_2))] M⟩⟩
theorem e48_15 (P : Program) (Q : Exit → Slots → Mem → Prop) (s : Slots) (M : Mem) : wpC P c48_15 Q s M = w48_15 P Q M (sget s 0) (sget s 1) (sget s 2) (sget s 3) (sget s 9) (sget s 10) (sget s 11) := by kernel_rfl
def c48_16 : ACode := (.seq c48_11 c48_15)
def o48_17 : List AOper := [⟨some 22, (.mov (.tmp 10)), false, none⟩,
  ⟨some 23, (.mov (.tmp 1)), false, none⟩,
  ⟨some 24, (.bin .eql .none (.tmp 22) (.tmp 23)), true, none⟩]
def c48_18 : ACode := (.seq (.region o48_17 [0, 1, 2, 3, 9, 10, 11, 24]) (.cond (.tmp 24) c48_16 .skip))
def w48_18 (P : Program) (Q : Exit → Slots → Mem → Prop) (M : Mem) (v0 : V) (v1 : V) (v2 : V) (v3 : V) (v9 : V) (v10 : V) (v11 : V) : Prop :=
  @OptBH (binV .eql .none v10 v1) ⟨fun b24_3 =>
  @BIfH b24_3
  ⟨wpC P c48_16 Q [(0, v0), (1, v1), (2, v2), (3, v3), (9, v9), (10, v10), (11, v11), (24, (.bool b24_3))] M⟩
  ⟨Q .normal [(0, v0), (1, v1), (2, v2), (3, v3), (9, v9), (10, v10), (11, v11), (24, (.bool b24_3))] M⟩⟩
theorem e48_18 (P : Program) (Q : Exit → Slots → Mem → Prop) (s : Slots) (M : Mem) : wpC P c48_18 Q s M = w48_18 P Q M (sget s 0) (sget s 1) (sget s 2) (sget s 3) (sget s 9) (sget s 10) (sget s 11) := by kernel_rfl
def o48_19 : List AOper := [⟨some 34, (.mov (.tmp 9)), false, none⟩,
  ⟨some 35, (.load 2 true (.tmp 11)), false, none⟩,
  ⟨some 36, (.buildSlice [(.int .i64 0), (.int .i64 0)] 2 1 [(0, (2, (.tmp 35)))]), false, none⟩,
  ⟨some 37, (.append false 2 16 (.tmp 34) (.tmp 36)), false, none⟩,
  ⟨some 9, (.mov (.tmp 37)), false, none⟩]
def c48_20 : ACode := (.region o48_19 [0, 1, 2, 3, 9, 10])
def w48_20 (_P : Program) (Q : Exit → Slots → Mem → Prop) (M : Mem) (v0 : V) (v1 : V) (v2 : V) (v3 : V) (v9 : V) (v10 : V) (v11 : V) : Prop :=
  @OptVH (loadV 2 true v11 M) ⟨fun t35_2 =>
  @OptVH (buildSliceV [(.int .i64 0), (.int .i64 0)] 2 1 [(0, 2, t35_2)]) ⟨fun t36_3 =>
  @OptMH (appV false 2 16 v9 t36_3 M) ⟨fun t37_4 M4 =>
  Q .normal [(0, v0), (1, v1), (2, v2), (3, v3), (9, t37_4), (10, v10)] M4⟩⟩⟩
theorem e48_20 (P : Program) (Q : Exit → Slots → Mem → Prop) (s : Slots) (M : Mem) : wpC P c48_20 Q s M = w48_20 P Q M (sget s 0) (sget s 1) (sget s 2) (sget s 3) (sget s 9) (sget s 10) (sget s 11) := by kernel_rfl
def c48_21 : ACode := (.seq c48_18 c48_20)
def c48_22 : ACode := (.seq c48_9 c48_21)
def c48_23 : ACode := (.block 1 c48_22)
def o48_24 : List AOper := [⟨some 16, (.mov (.tmp 10)), false, none⟩,
  ⟨some 17, (.bin .add .none (.tmp 16) (.const (.int .i64 1))), false, none⟩,
  ⟨some 10, (.mov (.tmp 17)), false, none⟩]
def c48_25 : ACode := (.region o48_24 [0, 1, 2, 3, 9, 10])
def w48_25 (_P : Program) (Q : Exit → Slots → Mem → Prop) (M : Mem) (v0 : V) (v1 : V) (v2 : V) (v3 : V) (v9 : V) (v10 : V) : Prop :=
  @OptVH (binV .add .none v10 (.int .i64 1)) ⟨fun t17_2 =>
  Q .normal [(0, v0), (1, v1), (2, v2), (3, v3), (9, v9), (10, t17_2)] M⟩
theorem e48_25 (P : Program) (Q : Exit → Slots → Mem → Prop) (s : Slots) (M : Mem) : wpC P c48_25 Q s M = w48_25 P Q M (sget s 0) (sget s 1) (sget s 2) (sget s 3) (sget s 9) (sget s 10) := by kernel_rfl
def c48_26 : ACode := (.seq c48_23 c48_25)
def c48_27 : ACode := (.seq c48_7 c48_26)
def c48_28 : ACode := (.loop [0, 1, 2, 3, 9, 10] c48_27)
def c48_29 : ACode := (.block 0 c48_28)
def c48_30 : ACode := (.seq c48_5 c48_29)
def o48_31 : List AOper := [⟨some 38, (.mov (.tmp 9)), false, none⟩,
  ⟨some 8, (.mov (.tmp 38)), false, none⟩]
def c48_32 : ACode := (.region o48_31 [8])
def w48_32 (_P : Program) (Q : Exit → Slots → Mem → Prop) (M : Mem) (v9 : V) : Prop :=
  Q .normal [(8, v9)] M
theorem e48_32 (P : Program) (Q : Exit → Slots → Mem → Prop) (s : Slots) (M : Mem) : wpC P c48_32 Q s M = w48_32 P Q M (sget s 9) := by kernel_rfl
def c48_33 : ACode := (.seq c48_32 .ret)
def c48_34 : ACode := (.seq c48_30 c48_33)
def c48_35 : ACode := (.seq c48_3 c48_34)
def c48_36 : ACode := (.seq c48_1 c48_35)
def fn_transitref32_heard : AFn := ⟨39, [(.tmp 8)], c48_36⟩
theorem fn_transitref32_heard_ok : resFn PR h_transitref32_heard i_transitref32_heard = some fn_transitref32_heard := by kernel_rfl

def h_transitref32_Sequence : Hints := ⟨[(0, [1, 2]), (1, [1, 2, 23]), (2, [4, 5]), (3, [4, 5])], [], []⟩
def o49_0 : List AOper := [⟨some 2, (.box 3 (.tmp 0)), false, none⟩,
  ⟨some 4, (.mov (.const (.int .i64 0))), false, none⟩,
  ⟨some 5, (.mov (.const (.bool false))), true, none⟩]
def c49_1 : ACode := (.region o49_0 [1, 2])
def w49_1 (_P : Program) (Q : Exit → Slots → Mem → Prop) (M : Mem) (v0 : V) (v1 : V) : Prop :=
  @OptMH (boxV 3 v0 M) ⟨fun t2_1 M1 =>
  Q .normal [(1, v1), (2, t2_1)] M1⟩
theorem e49_1 (P : Program) (Q : Exit → Slots → Mem → Prop) (s : Slots) (M : Mem) : wpC P c49_1 Q s M = w49_1 P Q M (sget s 0) (sget s 1) := by kernel_rfl
def o49_2 : List AOper := [⟨some 4, (.mov (.const (.int .i64 0))), false, none⟩,
  ⟨some 5, (.mov (.const (.bool false))), true, none⟩]
def c49_3 : ACode := (.region o49_2 [4, 5])
def w49_3 (_P : Program) (Q : Exit → Slots → Mem → Prop) (M : Mem) : Prop :=
  Q .normal [(4, (.int .i64 0)), (5, (.bool false))] M
theorem e49_3 (P : Program) (Q : Exit → Slots → Mem → Prop) (s : Slots) (M : Mem) : wpC P c49_3 Q s M = w49_3 P Q M := by kernel_rfl
def c49_4 : ACode := (.seq c49_3 .ret)
def o49_5 : List AOper := [⟨some 6, (.mov (.tmp 1)), false, none⟩,
  ⟨some 7, (.bin .lss .none (.tmp 6) (.const (.int .i64 0))), true, none⟩,
  ⟨some 8, (.mov (.tmp 7)), true, none⟩,
  ⟨some 9, (.mov (.tmp 1)), false, some (8, false)⟩,
  ⟨some 10, (.fieldAddr 1 (.tmp 2)), false, some (8, false)⟩,
  ⟨some 11, (.load 1 false (.tmp 10)), false, some (8, false)⟩,
  ⟨some 12, (.lenSl (.tmp 11)), false, some (8, false)⟩,
  ⟨some 13, (.bin .geq .none (.tmp 9) (.tmp 12)), true, some (8, false)⟩,
  ⟨some 14, (.pick (.tmp 8) (.const (.bool true)) (.tmp 13)), true, none⟩,
  ⟨some 15, (.mov (.tmp 14)), true, none⟩,
  ⟨some 16, (.fieldAddr 1 (.tmp 2)), false, some (15, false)⟩,
  ⟨some 17, (.load 1 false (.tmp 16)), false, some (15, false)⟩,
  ⟨some 18, (.mov (.tmp 1)), false, some (15, false)⟩,
  ⟨some 19, (.indexSl 2 (.tmp 17) (.tmp 18)), false, some (15, false)⟩,
  ⟨some 20, (.fieldAddr 1 (.tmp 19)), false, some (15, false)⟩,
  ⟨some 21, (.load 1 false (.tmp 20)), false, some (15, false)⟩,
  ⟨some 22, (.bin .eql .none (.tmp 21) (.const (.int .i64 0))), true, some (15, false)⟩,
  ⟨some 23, (.pick (.tmp 15) (.const (.bool true)) (.tmp 22)), true, none⟩]
def c49_6 : ACode := (.seq (.region o49_5 [1, 2, 23]) (.cond (.tmp 23) c49_4 .skip))
def w49_6 (P : Program) (Q : Exit → Slots → Mem → Prop) (M : Mem) (v1 : V) (v2 : V) : Prop :=
  @OptBH (binV .lss .none v1 (.int .i64 0)) ⟨fun b7_2 =>
  @BIfH b7_2
  ⟨wpC P c49_4 Q [(1, v1), (2, v2), (23, (.bool true))] M⟩
  ⟨@OptVH (moveV 1 v2) ⟨fun t10_8 =>
  @OptVH (loadV 1 false t10_8 M) ⟨fun t11_9 =>
  @OptVH (lenV t11_9 M) ⟨fun t12_10 =>
  @OptBH (binV .geq .none v1 t12_10) ⟨fun b13_11 =>
  @BIfH b13_11
  ⟨wpC P c49_4 Q [(1, v1), (2, v2), (23, (.bool true))] M⟩
  ⟨@OptVH (moveV 1 v2) ⟨fun t16_15 =>
  @OptVH (loadV 1 false t16_15 M) ⟨fun t17_16 =>
  @OptVH (indexSlV 2 t17_16 v1 M) ⟨fun t19_18 =>
  @OptVH (moveV 1 t19_18) ⟨fun t20_19 =>
  @OptVH (loadV 1 false t20_19 M) ⟨fun t21_20 =>
  @OptBH (binV .eql .none t21_20 (.int .i64 0)) ⟨fun b22_21 =>
  @BIfH b22_21
  ⟨wpC P c49_4 Q [(1, v1), (2, v2), (23, (.bool b22_21))] M⟩
  ⟨Q .normal [(1, v1), (2, v2), (23, (.bool b22_21))] M⟩⟩⟩⟩⟩⟩⟩⟩⟩⟩⟩⟩⟩⟩
theorem e49_6 (P : Program) (Q : Exit → Slots → Mem → Prop) (s : Slots) (M : Mem) : wpC P c49_6 Q s M = w49_6 P Q M (sget s 1) (sget s 2) := by kernel_rfl
def o49_7 : List AOper := [⟨some 24, (.fieldAddr 1 (.tmp 2)), false, none⟩,
  ⟨some 25, (.load 1 false (.tmp 24)), false, none⟩,
  ⟨some 26, (.mov (.tmp 1)), false, none⟩,
  ⟨some 27, (.indexSl 2 (.tmp 25) (.tmp 26)), false, none⟩,
  ⟨some 28, (.fieldAddr 1 (.tmp 27)), false, none⟩,
  ⟨some 29, (.load 1 false (.tmp 28)), false, none⟩,
  ⟨some 4, (.mov (.tmp 29)), false, none⟩,
  ⟨some 5, (.mov (.const (.bool true))), true, none⟩]
def c49_8 : ACode := (.region o49_7 [4, 5])
def w49_8 (_P : Program) (Q : Exit → Slots → Mem → Prop) (M : Mem) (v1 : V) (v2 : V) : Prop :=
  @OptVH (moveV 1 v2) ⟨fun t24_1 =>
  @OptVH (loadV 1 false t24_1 M) ⟨fun t25_2 =>
  @OptVH (indexSlV 2 t25_2 v1 M) ⟨fun t27_4 =>
  @OptVH (moveV 1 t27_4) ⟨fun t28_5 =>
  @OptVH (loadV 1 false t28_5 M) ⟨fun t29_6 =>
  Q .normal [(4, t29_6), (5, (.bool true))] M⟩⟩⟩⟩⟩
theorem e49_8 (P : Program) (Q : Exit → Slots → Mem → Prop) (s : Slots) (M : Mem) : wpC P c49_8 Q s M = w49_8 P Q M (sget s 1) (sget s 2) := by kernel_rfl
def c49_9 : ACode := (.seq c49_8 .ret)
def c49_10 : ACode := (.seq c49_6 c49_9)
def c49_11 : ACode := (.seq c49_1 c49_10)
def fn_transitref32_Sequence : AFn := ⟨30, [(.tmp 4), (.tmp 5)], c49_11⟩
theorem fn_transitref32_Sequence_ok : resFn PR h_transitref32_Sequence i_transitref32_Sequence = some fn_transitref32_Sequence := by kernel_rfl

def h_transitref32_Failed : Hints := ⟨[(0, [1, 2, 3]), (1, [1, 2, 3, 16]), (2, [6]), (3, [2, 3, 7]), (4, [6])], [], []⟩
def o50_0 : List AOper := [⟨some 3, (.box 3 (.tmp 0)), false, none⟩,
  ⟨some 6, (.mov (.const (.bool false))), true, none⟩]
def c50_1 : ACode := (.region o50_0 [1, 2, 3])
def w50_1 (_P : Program) (Q : Exit → Slots → Mem → Prop) (M : Mem) (v0 : V) (v1 : V) (v2 : V) : Prop :=
  @OptMH (boxV 3 v0 M) ⟨fun t3_1 M1 =>
  Q .normal [(1, v1), (2, v2), (3, t3_1)] M1⟩
theorem e50_1 (P : Program) (Q : Exit → Slots → Mem → Prop) (s : Slots) (M : Mem) : wpC P c50_1 Q s M = w50_1 P Q M (sget s 0) (sget s 1) (sget s 2) := by kernel_rfl
def o50_2 : List AOper := [⟨some 6, (.mov (.const (.bool false))), true, none⟩]
def c50_3 : ACode := (.region o50_2 [6])
def w50_3 (_P : Program) (Q : Exit → Slots → Mem → Prop) (M : Mem) : Prop :=
  Q .normal [(6, (.bool false))] M
theorem e50_3 (P : Program) (Q : Exit → Slots → Mem → Prop) (s : Slots) (M : Mem) : wpC P c50_3 Q s M = w50_3 P Q M := by kernel_rfl
def c50_4 : ACode := (.seq c50_3 .ret)
def o50_5 : List AOper := [⟨some 8, (.mov (.tmp 1)), false, none⟩,
  ⟨some 9, (.bin .lss .none (.tmp 8) (.const (.int .i64 0))), true, none⟩,
  ⟨some 10, (.mov (.tmp 9)), true, none⟩,
  ⟨some 11, (.mov (.tmp 1)), false, some (10, false)⟩,
  ⟨some 12, (.fieldAddr 1 (.tmp 3)), false, some (10, false)⟩,
  ⟨some 13, (.load 1 false (.tmp 12)), false, some (10, false)⟩,
  ⟨some 14, (.lenSl (.tmp 13)), false, some (10, false)⟩,
  ⟨some 15, (.bin .geq .none (.tmp 11) (.tmp 14)), true, some (10, false)⟩,
  ⟨some 16, (.pick (.tmp 10) (.const (.bool true)) (.tmp 15)), true, none⟩]
def c50_6 : ACode := (.seq (.region o50_5 [1, 2, 3, 16]) (.cond (.tmp 16) c50_4 .skip))
def w50_6 (P : Program) (Q : Exit → Slots → Mem → Prop) (M : Mem) (v1 : V) (v2 : V) (v3 : V) : Prop :=
  @OptBH (binV .lss .none v1 (.int .i64 0)) ⟨fun b9_2 =>
  @BIfH b9_2
  ⟨wpC P c50_4 Q [(1, v1), (2, v2), (3, v3), (16, (.bool true))] M⟩
  ⟨@OptVH (moveV 1 v3) ⟨fun t12_6 =>
  @OptVH (loadV 1 false t12_6 M) ⟨fun t13_7 =>
  @OptVH (lenV t13_7 M) ⟨fun t14_8 =>
  @OptBH (binV .geq .none v1 t14_8) ⟨fun b15_9 =>
  @BIfH b15_9
  ⟨wpC P c50_4 Q [(1, v1), (2, v2), (3, v3), (16, (.bool b15_9))] M⟩
  ⟨Q .normal [(1, v1), (2, v2), (3, v3), (16, (.bool b15_9))] M⟩⟩⟩⟩⟩⟩⟩
theorem e50_6 (P : Program) (Q : Exit → Slots → Mem → Prop) (s : Slots) (M : Mem) : wpC P c50_6 Q s M = w50_6 P Q M (sget s 1) (sget s 2) (sget s 3) := by kernel_rfl
def o50_7 : List AOper := [⟨some 17, (.fieldAddr 1 (.tmp 3)), false, none⟩,
  ⟨some 18, (.load 1 false (.tmp 17)), false, none⟩,
  ⟨some 19, (.mov (.tmp 1)), false, none⟩,
  ⟨some 20, (.indexSl 2 (.tmp 18) (.tmp 19)), false, none⟩,
  ⟨some 21, (.fieldAddr 0 (.tmp 20)), false, none⟩,
  ⟨some 22, (.load 1 false (.tmp 21)), false, none⟩,
  ⟨some 7, (.mov (.tmp 22)), false, none⟩]
def c50_8 : ACode := (.region o50_7 [2, 3, 7])
def w50_8 (_P : Program) (Q : Exit → Slots → Mem → Prop) (M : Mem) (v1 : V) (v2 : V) (v3 : V) : Prop :=
  @OptVH (moveV 1 v3) ⟨fun t17_1 =>
  @OptVH (loadV 1 false t17_1 M) ⟨fun t18_2 =>
  @OptVH (indexSlV 2 t18_2 v1 M) ⟨fun t20_4 =>
  @OptVH (moveV 0 t20_4) ⟨fun t21_5 =>
  @OptVH (loadV 1 false t21_5 M) ⟨fun t22_6 =>
  Q .normal [(2, v2), (3, v3), (7, t22_6)] M⟩⟩⟩⟩⟩
theorem e50_8 (P : Program) (Q : Exit → Slots → Mem → Prop) (s : Slots) (M : Mem) : wpC P c50_8 Q s M = w50_8 P Q M (sget s 1) (sget s 2) (sget s 3) := by kernel_rfl
def o50_9 : List AOper := [⟨some 23, (.mov (.tmp 7)), false, none⟩,
  ⟨some 24, (.bin .lss .none (.tmp 23) (.const (.int .i64 0))), true, none⟩,
  ⟨some 25, (.mov (.tmp 24)), true, none⟩,
  ⟨some 26, (.mov (.tmp 2)), false, some (25, false)⟩,
  ⟨some 27, (.mov (.tmp 7)), false, some (25, false)⟩,
  ⟨some 28, (.bin .gtr .none (.tmp 26) (.tmp 27)), true, some (25, false)⟩,
  ⟨some 29, (.mov (.tmp 28)), true, some (25, false)⟩,
  ⟨some 30, (.mov (.tmp 2)), false, some (29, true)⟩,
  ⟨some 31, (.conv .u64 (.tmp 30)), false, some (29, true)⟩,
  ⟨some 32, (.mov (.tmp 7)), false, some (29, true)⟩,
  ⟨some 33, (.conv .u64 (.tmp 32)), false, some (29, true)⟩,
  ⟨some 34, (.bin .sub .none (.tmp 31) (.tmp 33)), false, some (29, true)⟩,
  ⟨some 35, (.fieldAddr 0 (.tmp 3)), false, some (29, true)⟩,
  ⟨some 36, (.load 1 false (.tmp 35)), false, some (29, true)⟩,
  ⟨some 37, (.conv .u64 (.tmp 36)), false, some (29, true)⟩,
  ⟨some 38, (.bin .gtr .none (.tmp 34) (.tmp 37)), true, some (29, true)⟩,
  ⟨some 39, (.pick (.tmp 29) (.tmp 38) (.const (.bool false))), true, some (25, false)⟩,
  ⟨some 40, (.pick (.tmp 25) (.const (.bool true)) (.tmp 39)), true, none⟩,
  ⟨some 6, (.mov (.tmp 40)), true, none⟩]
def c50_10 : ACode := (.region o50_9 [6])
def w50_10 (_P : Program) (Q : Exit → Slots → Mem → Prop) (M : Mem) (v2 : V) (v3 : V) (v7 : V) : Prop :=
  @OptBH (binV .lss .none v7 (.int .i64 0)) ⟨fun b24_2 =>
  @BIfH b24_2
  ⟨Q .normal [(6, (.bool true))] M⟩
  ⟨@OptBH (binV .gtr .none v2 v7) ⟨fun b28_8 =>
  @BIfH b28_8
  ⟨@OptVH (convV .u64 v2) ⟨fun t31_11 =>
  @OptVH (convV .u64 v7) ⟨fun t33_13 =>
  @OptVH (binV .sub .none t31_11 t33_13) ⟨fun t34_14 =>
  @OptVH (moveV 0 v3) ⟨fun t35_15 =>
  @OptVH (loadV 1 false t35_15 M) ⟨fun t36_16 =>
  @OptVH (convV .u64 t36_16) ⟨fun t37_17 =>
  @OptBH (binV .gtr .none t34_14 t37_17) ⟨fun b38_18 =>
  Q .normal [(6, (.bool b38_18))] M⟩⟩⟩⟩⟩⟩⟩⟩
  ⟨Q .normal [(6, (.bool false))] M⟩⟩⟩⟩
theorem e50_10 (P : Program) (Q : Exit → Slots → Mem → Prop) (s : Slots) (M : Mem) : wpC P c50_10 Q s M = w50_10 P Q M (sget s 2) (sget s 3) (sget s 7) := by kernel_rfl
def c50_11 : ACode := (.seq c50_10 .ret)
def c50_12 : ACode := (.seq c50_8 c50_11)
def c50_13 : ACode := (.seq c50_6 c50_12)
def c50_14 : ACode := (.seq c50_1 c50_13)
def fn_transitref32_Failed : AFn := ⟨41, [(.tmp 6)], c50_14⟩
theorem fn_transitref32_Failed_ok : resFn PR h_transitref32_Failed i_transitref32_Failed = some fn_transitref32_Failed := by kernel_rfl

def h_transitref32_Active : Hints := ⟨[(0, [1, 2]), (1, [1, 2, 5]), (2, [1, 2, 5, 6]), (3, [1, 2, 5, 6, 13]), (4, [1, 2, 5, 6]), (5, [1, 2, 5, 6, 20]), (6, [1, 2, 5, 6, 7]), (7, [1, 2, 5, 6, 7, 8]), (8, [1, 2, 5, 6, 7, 8]), (9, [1, 2, 5, 6, 7, 8, 42]), (10, [1, 2, 5, 6, 7, 8]), (11, [1, 2, 5, 6, 7, 8]), (12, [1, 2, 5, 6]), (13, [4])], [(3, [1, 2, 5, 6]), (9, [1, 2, 5, 6, 7, 8])], [(1, [0])]⟩
def o51_0 : List AOper := [⟨some 2, (.box 3 (.tmp 0)), false, none⟩,
  ⟨some 4, (.mov (.const (.slice [] .nil))), false, none⟩]
def c51_1 : ACode := (.region o51_0 [1, 2])
def w51_1 (_P : Program) (Q : Exit → Slots → Mem → Prop) (M : Mem) (v0 : V) (v1 : V) : Prop :=
  @OptMH (boxV 3 v0 M) ⟨fun t2_1 M1 =>
  Q .normal [(1, v1), (2, t2_1)] M1⟩
theorem e51_1 (P : Program) (Q : Exit → Slots → Mem → Prop) (s : Slots) (M : Mem) : wpC P c51_1 Q s M = w51_1 P Q M (sget s 0) (sget s 1) := by kernel_rfl
def o51_2 : List AOper := [⟨some 5, (.newarr 13), false, none⟩]
def c51_3 : ACode := (.region o51_2 [1, 2, 5])
def w51_3 (_P : Program) (Q : Exit → Slots → Mem → Prop) (M : Mem) (v1 : V) (v2 : V) : Prop :=
  @OptMH (newarrV 13 M) ⟨fun t5_1 M1 =>
  Q .normal [(1, v1), (2, v2), (5, t5_1)] M1⟩
theorem e51_3 (P : Program) (Q : Exit → Slots → Mem → Prop) (s : Slots) (M : Mem) : wpC P c51_3 Q s M = w51_3 P Q M (sget s 1) (sget s 2) := by kernel_rfl
def o51_4 : List AOper := [⟨some 6, (.mov (.const (.int .i64 0))), false, none⟩]
def c51_5 : ACode := (.region o51_4 [1, 2, 5, 6])
def w51_5 (_P : Program) (Q : Exit → Slots → Mem → Prop) (M : Mem) (v1 : V) (v2 : V) (v5 : V) : Prop :=
  Q .normal [(1, v1), (2, v2), (5, v5), (6, (.int .i64 0))] M
theorem e51_5 (P : Program) (Q : Exit → Slots → Mem → Prop) (s : Slots) (M : Mem) : wpC P c51_5 Q s M = w51_5 P Q M (sget s 1) (sget s 2) (sget s 5) := by kernel_rfl
def o51_6 : List AOper := [⟨some 9, (.mov (.tmp 6)), false, none⟩,
  ⟨some 10, (.fieldAddr 2 (.tmp 2)), false, none⟩,
  ⟨some 11, (.load 1 false (.tmp 10)), false, none⟩,
  ⟨some 12, (.lenSl (.tmp 11)), false, none⟩,
  ⟨some 13, (.bin .lss .none (.tmp 9) (.tmp 12)), true, none⟩]
def c51_7 : ACode := (.seq (.region o51_6 [1, 2, 5, 6, 13]) (.cond (.tmp 13) .skip (.exit 0)))
def w51_7 (_P : Program) (Q : Exit → Slots → Mem → Prop) (M : Mem) (v1 : V) (v2 : V) (v5 : V) (v6 : V) : Prop :=
  @OptVH (moveV 2 v2) ⟨fun t10_2 =>
  @OptVH (loadV 1 false t10_2 M) ⟨fun t11_3 =>
  @OptVH (lenV t11_3 M) ⟨fun t12_4 =>
  @OptBH (binV .lss .none v6 t12_4) ⟨fun b13_5 =>
  @BIfH b13_5
  ⟨Q .normal [(1, v1), (2, v2), (5, v5), (6, v6), (13, (.bool b13_5))] M⟩
  ⟨Q (.exit 0) [(1, v1), (2, v2), (5, v5), (6, v6), (13, (.bool b13_5))] M⟩⟩⟩⟩⟩
theorem e51_7 (P : Program) (Q : Exit → Slots → Mem → Prop) (s : Slots) (M : Mem) : wpC P c51_7 Q s M = w51_7 P Q M (sget s 1) (sget s 2) (sget s 5) (sget s 6) := by kernel_rfl
def o51_8 : List AOper := [⟨some 16, (.load 3 true (.tmp 2)), false, none⟩,
  ⟨some 17, (.mov (.tmp 6)), false, none⟩,
  ⟨some 18, (.mov (.tmp 1)), false, none⟩,
  ⟨some 19, (.call i_transitref32_active [(.tmp 16), (.tmp 17), (.tmp 18)]), true, none⟩,
  ⟨some 20, (.un .not (.tmp 19)), true, none⟩]
def c51_9 : ACode := (.seq (.region o51_8 [1, 2, 5, 6, 20]) (.cond (.tmp 20) (.exit 1) .skip))
def w51_9 (P : Program) (Q : Exit → Slots → Mem → Prop) (M : Mem) (v1 : V) (v2 : V) (v5 : V) (v6 : V) : Prop :=
  @OptVH (loadV 3 true v2 M) ⟨fun t16_1 =>
  @CallH P i_transitref32_active [t16_1, v6, v1] M ⟨fun t19_4 M4 => @OptBH (some t19_4) ⟨fun b19_4 =>
  @OptBH (unV .not (.bool b19_4)) ⟨fun b20_5 =>
  @BIfH b20_5
  ⟨Q (.exit 1) [(1, v1), (2, v2), (5, v5), (6, v6), (20, (.bool b20_5))] M4⟩
  ⟨Q .normal [(1, v1), (2, v2), (5, v5), (6, v6), (20, (.bool b20_5))] M4⟩⟩⟩⟩⟩
theorem e51_9 (P : Program) (Q : Exit → Slots → Mem → Prop) (s : Slots) (M : Mem) : wpC P c51_9 Q s M = w51_9 P Q M (sget s 1) (sget s 2) (sget s 5) (sget s 6) := by kernel_rfl
def o51_10 : List AOper := [⟨some 21, (.fieldAddr 2 (.tmp 2)), false, none⟩,
  ⟨some 22, (.load 1 false (.tmp 21)), false, none⟩,
  ⟨some 23, (.mov (.tmp 6)), false, none⟩,
  ⟨some 24, (.indexSl 13 (.tmp 22) (.tmp 23)), false, none⟩,
  ⟨some 25, (.load 13 true (.tmp 24)), false, none⟩,
  ⟨some 7, (.alloc [(.int .i64 0), (.int .i64 0), (.int .i64 0), (.int .i64 0), (.int .i64 0), (.str []), (.int .i64 0), (.int .i64 0), (.int .i64 0), (.int .i64 0), (.int .i64 0), (.bool false), (.slice [] .nil)]), false, none⟩,
  ⟨none, (.store 13 (.tmp 7) (.tmp 25)), false, none⟩]
def c51_11 : ACode := (.region o51_10 [1, 2, 5, 6, 7])
def w51_11 (_P : Program) (Q : Exit → Slots → Mem → Prop) (M : Mem) (v1 : V) (v2 : V) (v5 : V) (v6 : V) : Prop :=
  @OptVH (moveV 2 v2) ⟨fun t21_1 =>
  @OptVH (loadV 1 false t21_1 M) ⟨fun t22_2 =>
  @OptVH (indexSlV 13 t22_2 v6 M) ⟨fun t24_4 =>
  @OptVH (loadV 13 true t24_4 M) ⟨fun t25_5 =>
  @OptMH (allocV [(.int .i64 0), (.int .i64 0), (.int .i64 0), (.int .i64 0), (.int .i64 0), (.str []), (.int .i64 0), (.int .i64 0), (.int .i64 0), (.int .i64 0), (.int .i64 0), (.bool false), (.slice [] .nil)] M) ⟨fun t7_6 M6 =>
  @OptMH (storeVM 13 t7_6 t25_5 M6) ⟨fun _tx_7 M7 =>
  Q .normal [(1, v1), (2, v2), (5, v5), (6, v6), (7, t7_6)] M7⟩⟩⟩⟩⟩⟩
theorem e51_11 (P : Program) (Q : Exit → Slots → Mem → Prop) (s : Slots) (M : Mem) : wpC P c51_11 Q s M = w51_11 P Q M (sget s 1) (sget s 2) (sget s 5) (sget s 6) := by kernel_rfl
def o51_12 : List AOper := [⟨some 26, (.mov (.tmp 5)), false, none⟩,
  ⟨some 27, (.lenSl (.tmp 26)), false, none⟩,
  ⟨some 8, (.mov (.tmp 27)), false, none⟩]
def c51_13 : ACode := (.region o51_12 [1, 2, 5, 6, 7, 8])
def w51_13 (_P : Program) (Q : Exit → Slots → Mem → Prop) (M : Mem) (v1 : V) (v2 : V) (v5 : V) (v6 : V) (v7 : V) : Prop :=
  @OptVH (lenV v5 M) ⟨fun t27_2 =>
  Q .normal [(1, v1), (2, v2), (5, v5), (6, v6), (7, v7), (8, t27_2)] M⟩
theorem e51_13 (P : Program) (Q : Exit → Slots → Mem → Prop) (s : Slots) (M : Mem) : wpC P c51_13 Q s M = w51_13 P Q M (sget s 1) (sget s 2) (sget s 5) (sget s 6) (sget s 7) := by kernel_rfl
def o51_14 : List AOper := [⟨some 28, (.mov (.tmp 5)), false, none⟩,
  ⟨some 29, (.load 13 true (.tmp 7)), false, none⟩,
  ⟨some 30, (.buildSlice [(.int .i64 0), (.int .i64 0), (.int .i64 0), (.int .i64 0), (.int .i64 0), (.str []), (.int .i64 0), (.int .i64 0), (.int .i64 0), (.int .i64 0), (.int .i64 0), (.bool false), (.slice [] .nil)] 13 1 [(0, (13, (.tmp 29)))]), false, none⟩,
  ⟨some 31, (.append false 13 128 (.tmp 28) (.tmp 30)), false, none⟩,
  ⟨some 5, (.mov (.tmp 31)), false, none⟩]
def c51_15 : ACode := (.region o51_14 [1, 2, 5, 6, 7, 8])
def w51_15 (_P : Program) (Q : Exit → Slots → Mem → Prop) (M : Mem) (v1 : V) (v2 : V) (v5 : V) (v6 : V) (v7 : V) (v8 : V) : Prop :=
  @OptVH (loadV 13 true v7 M) ⟨fun t29_2 =>
  @OptVH (buildSliceV [(.int .i64 0), (.int .i64 0), (.int .i64 0), (.int .i64 0), (.int .i64 0), (.str []), (.int .i64 0), (.int .i64 0), (.int .i64 0), (.int .i64 0), (.int .i64 0), (.bool false), (.slice [] .nil)] 13 1 [(0, 13, t29_2)]) ⟨fun t30_3 =>
  @OptMH (appV false 13 128 v5 t30_3 M) ⟨fun t31_4 M4 =>
  Q .normal [(1, v1), (2, v2), (5, t31_4), (6, v6), (7, v7), (8, v8)] M4⟩⟩⟩
theorem e51_15 (P : Program) (Q : Exit → Slots → Mem → Prop) (s : Slots) (M : Mem) : wpC P c51_15 Q s M = w51_15 P Q M (sget s 1) (sget s 2) (sget s 5) (sget s 6) (sget s 7) (sget s 8) := by kernel_rfl
def o51_16 : List AOper := [⟨some 32, (.mov (.tmp 8)), false, none⟩,
  ⟨some 33, (.bin .gtr .none (.tmp 32) (.const (.int .i64 0))), true, none⟩,
  ⟨some 34, (.mov (.tmp 33)), true, none⟩,
  ⟨some 35, (.load 13 true (.tmp 7)), false, some (34, true)⟩,
  ⟨some 36, (.mov (.tmp 5)), false, some (34, true)⟩,
  ⟨some 37, (.mov (.tmp 8)), false, some (34, true)⟩,
  ⟨some 38, (.bin .sub .none (.tmp 37) (.const (.int .i64 1))), false, some (34, true)⟩,
  ⟨some 39, (.indexSl 13 (.tmp 36) (.tmp 38)), false, some (34, true)⟩,
  ⟨some 40, (.load 13 true (.tmp 39)), false, some (34, true)⟩,
  ⟨some 41, (.call i_transitref32_before [(.tmp 35), (.tmp 40)]), true, some (34, true)⟩,
  ⟨some 42, (.pick (.tmp 34) (.tmp 41) (.const (.bool false))), true, none⟩]
def c51_17 : ACode := (.seq (.mixed o51_16 [true, true, true, true, true, true, true, true, true, false, true] [1, 2, 5, 6, 7, 8, 42]) (.cond (.tmp 42) .skip (.exit 2)))
def w51_17 (P : Program) (Q : Exit → Slots → Mem → Prop) (M : Mem) (v1 : V) (v2 : V) (v5 : V) (v6 : V) (v7 : V) (v8 : V) : Prop :=
  @OptBH (binV .gtr .none v8 (.int .i64 0)) ⟨fun b33_2 =>
  @BIfH b33_2
  ⟨@OptVH (loadV 13 true v7 M) ⟨fun t35_4 =>
  @OptVH (binV .sub .none v8 (.int .i64 1)) ⟨fun t38_7 =>
  @OptVH (indexSlV 13 v5 t38_7 M) ⟨fun t39_8 =>
  @OptVH (loadV 13 true t39_8 M) ⟨fun t40_9 =>
  @CallH P i_transitref32_before [t35_4, t40_9] M ⟨fun t41_10 M10 => @OptBH (some t41_10) ⟨fun b41_10 =>
  @BIfH b41_10
  ⟨Q .normal [(1, v1), (2, v2), (5, v5), (6, v6), (7, v7), (8, v8), (42, (.bool b41_10))] M10⟩
  ⟨Q (.exit 2) [(1, v1), (2, v2), (5, v5), (6, v6), (7, v7), (8, v8), (42, (.bool b41_10))] M10⟩⟩⟩⟩⟩⟩⟩⟩
  ⟨Q (.exit 2) [(1, v1), (2, v2), (5, v5), (6, v6), (7, v7), (8, v8), (42, (.bool false))] M⟩⟩
theorem e51_17 (P : Program) (Q : Exit → Slots → Mem → Prop) (s : Slots) (M : Mem) : wpC P c51_17 Q s M = w51_17 P Q M (sget s 1) (sget s 2) (sget s 5) (sget s 6) (sget s 7) (sget s 8) := by kernel_rfl
def o51_18 : List AOper := [⟨some 43, (.mov (.tmp 5)), false, none⟩,
  ⟨some 44, (.mov (.tmp 8)), false, none⟩,
  ⟨some 45, (.mov (.tmp 5)), false, none⟩,
  ⟨some 46, (.mov (.tmp 8)), false, none⟩,
  ⟨some 47, (.bin .sub .none (.tmp 46) (.const (.int .i64 1))), false, none⟩,
  ⟨some 48, (.indexSl 13 (.tmp 45) (.tmp 47)), false, none⟩,
  ⟨some 49, (.load 13 true (.tmp 48)), false, none⟩,
  ⟨some 50, (.indexSl 13 (.tmp 43) (.tmp 44)), false, none⟩,
  ⟨none, (.store 13 (.tmp 50) (.tmp 49)), false, none⟩]
def c51_19 : ACode := (.region o51_18 [1, 2, 5, 6, 7, 8])
def w51_19 (_P : Program) (Q : Exit → Slots → Mem → Prop) (M : Mem) (v1 : V) (v2 : V) (v5 : V) (v6 : V) (v7 : V) (v8 : V) : Prop :=
  @OptVH (binV .sub .none v8 (.int .i64 1)) ⟨fun t47_5 =>
  @OptVH (indexSlV 13 v5 t47_5 M) ⟨fun t48_6 =>
  @OptVH (loadV 13 true t48_6 M) ⟨fun t49_7 =>
  @OptVH (indexSlV 13 v5 v8 M) ⟨fun t50_8 =>
  @OptMH (storeVM 13 t50_8 t49_7 M) ⟨fun _tx_9 M9 =>
  Q .normal [(1, v1), (2, v2), (5, v5), (6, v6), (7, v7), (8, v8)] M9⟩⟩⟩⟩⟩
theorem e51_19 (P : Program) (Q : Exit → Slots → Mem → Prop) (s : Slots) (M : Mem) : wpC P c51_19 Q s M = w51_19 P Q M (sget s 1) (sget s 2) (sget s 5) (sget s 6) (sget s 7) (sget s 8) := by kernel_rfl
def o51_20 : List AOper := [⟨some 51, (.mov (.tmp 8)), false, none⟩,
  ⟨some 52, (.bin .sub .none (.tmp 51) (.const (.int .i64 1))), false, none⟩,
  ⟨some 8, (.mov (.tmp 52)), false, none⟩]
def c51_21 : ACode := (.region o51_20 [1, 2, 5, 6, 7, 8])
def w51_21 (_P : Program) (Q : Exit → Slots → Mem → Prop) (M : Mem) (v1 : V) (v2 : V) (v5 : V) (v6 : V) (v7 : V) (v8 : V) : Prop :=
  @OptVH (binV .sub .none v8 (.int .i64 1)) ⟨fun t52_2 =>
  Q .normal [(1, v1), (2, v2), (5, v5), (6, v6), (7, v7), (8, t52_2)] M⟩
theorem e51_21 (P : Program) (Q : Exit → Slots → Mem → Prop) (s : Slots) (M : Mem) : wpC P c51_21 Q s M = w51_21 P Q M (sget s 1) (sget s 2) (sget s 5) (sget s 6) (sget s 7) (sget s 8) := by kernel_rfl
def c51_22 : ACode := (.seq c51_19 c51_21)
def c51_23 : ACode := (.block 3 c51_22)
def c51_24 : ACode := (.seq c51_17 c51_23)
def c51_25 : ACode := (.loop [1, 2, 5, 6, 7, 8] c51_24)
def c51_26 : ACode := (.block 2 c51_25)
def o51_27 : List AOper := [⟨some 53, (.mov (.tmp 5)), false, none⟩,
  ⟨some 54, (.mov (.tmp 8)), false, none⟩,
  ⟨some 55, (.load 13 true (.tmp 7)), false, none⟩,
  ⟨some 56, (.indexSl 13 (.tmp 53) (.tmp 54)), false, none⟩,
  ⟨none, (.store 13 (.tmp 56) (.tmp 55)), false, none⟩]
def c51_28 : ACode := (.region o51_27 [1, 2, 5, 6])
def w51_28 (_P : Program) (Q : Exit → Slots → Mem → Prop) (M : Mem) (v1 : V) (v2 : V) (v5 : V) (v6 : V) (v7 : V) (v8 : V) : Prop :=
  @OptVH (loadV 13 true v7 M) ⟨fun t55_3 =>
  @OptVH (indexSlV 13 v5 v8 M) ⟨fun t56_4 =>
  @OptMH (storeVM 13 t56_4 t55_3 M) ⟨fun _tx_5 M5 =>
  Q .normal [(1, v1), (2, v2), (5, v5), (6, v6)] M5⟩⟩⟩
theorem e51_28 (P : Program) (Q : Exit → Slots → Mem → Prop) (s : Slots) (M : Mem) : wpC P c51_28 Q s M = w51_28 P Q M (sget s 1) (sget s 2) (sget s 5) (sget s 6) (sget s 7) (sget s 8) := by kernel_rfl
def c51_29 : ACode := (.seq c51_26 c51_28)
def c51_30 : ACode := (.seq c51_15 c51_29)
def c51_31 : ACode := (.seq c51_13 c51_30)
def c51_32 : ACode := (.seq c51_11 c51_31)
def c51_33 : ACode := (.seq c51_9 c51_32)
def c51_34 : ACode := (.block 1 c51_33)
def o51_35 : List AOper := [⟨some 14, (.mov (.tmp 6)), false, none⟩,
  ⟨some 15, (.bin .add .none (.tmp 14) (.const (.int .i64 1))), false, none⟩,
  ⟨some 6, (.mov (.tmp 15)), false, none⟩]
def c51_36 : ACode := (.region o51_35 [1, 2, 5, 6])
def w51_36 (_P : Program) (Q : Exit → Slots → Mem → Prop) (M : Mem) (v1 : V) (v2 : V) (v5 : V) (v6 : V) : Prop :=
  @OptVH (binV .add .none v6 (.int .i64 1)) ⟨fun t15_2 =>
  Q .normal [(1, v1), (2, v2), (5, v5), (6, t15_2)] M⟩
theorem e51_36 (P : Program) (Q : Exit → Slots → Mem → Prop) (s : Slots) (M : Mem) : wpC P c51_36 Q s M = w51_36 P Q M (sget s 1) (sget s 2) (sget s 5) (sget s 6) := by kernel_rfl
def c51_37 : ACode := (.seq c51_34 c51_36)
def c51_38 : ACode := (.seq c51_7 c51_37)
def c51_39 : ACode := (.loop [1, 2, 5, 6] c51_38)
def c51_40 : ACode := (.block 0 c51_39)
def c51_41 : ACode := (.seq c51_5 c51_40)
def o51_42 : List AOper := [⟨some 57, (.mov (.tmp 5)), false, none⟩,
  ⟨some 4, (.mov (.tmp 57)), false, none⟩]
def c51_43 : ACode := (.region o51_42 [4])
def w51_43 (_P : Program) (Q : Exit → Slots → Mem → Prop) (M : Mem) (v5 : V) : Prop :=
  Q .normal [(4, v5)] M
theorem e51_43 (P : Program) (Q : Exit → Slots → Mem → Prop) (s : Slots) (M : Mem) : wpC P c51_43 Q s M = w51_43 P Q M (sget s 5) := by kernel_rfl
def c51_44 : ACode := (.seq c51_43 .ret)
def c51_45 : ACode := (.seq c51_41 c51_44)
def c51_46 : ACode := (.seq c51_3 c51_45)
def c51_47 : ACode := (.seq c51_1 c51_46)
def fn_transitref32_Active : AFn := ⟨58, [(.tmp 4)], c51_47⟩
theorem fn_transitref32_Active_ok : resFn PR h_transitref32_Active i_transitref32_Active = some fn_transitref32_Active := by kernel_rfl

def h_transitref31_Status : Hints := ⟨[(0, [1]), (1, [2])], [], []⟩
def o52_0 : List AOper := [⟨some 1, (.box 13 (.tmp 0)), false, none⟩,
  ⟨some 2, (.mov (.const (.bool false))), true, none⟩]
def c52_1 : ACode := (.region o52_0 [1])
def w52_1 (_P : Program) (Q : Exit → Slots → Mem → Prop) (M : Mem) (v0 : V) : Prop :=
  @OptMH (boxV 13 v0 M) ⟨fun t1_1 M1 =>
  Q .normal [(1, t1_1)] M1⟩
theorem e52_1 (P : Program) (Q : Exit → Slots → Mem → Prop) (s : Slots) (M : Mem) : wpC P c52_1 Q s M = w52_1 P Q M (sget s 0) := by kernel_rfl
def o52_2 : List AOper := [⟨some 3, (.fieldAddr 4 (.tmp 1)), false, none⟩,
  ⟨some 4, (.load 1 false (.tmp 3)), false, none⟩,
  ⟨some 5, (.bin .eql .none (.tmp 4) (.const (.int .i64 2))), true, none⟩,
  ⟨some 6, (.mov (.tmp 5)), true, none⟩,
  ⟨some 7, (.fieldAddr 4 (.tmp 1)), false, some (6, false)⟩,
  ⟨some 8, (.load 1 false (.tmp 7)), false, some (6, false)⟩,
  ⟨some 9, (.bin .eql .none (.tmp 8) (.const (.int .i64 4))), true, some (6, false)⟩,
  ⟨some 10, (.pick (.tmp 6) (.const (.bool true)) (.tmp 9)), true, none⟩,
  ⟨some 11, (.mov (.tmp 10)), true, none⟩,
  ⟨some 12, (.fieldAddr 4 (.tmp 1)), false, some (11, false)⟩,
  ⟨some 13, (.load 1 false (.tmp 12)), false, some (11, false)⟩,
  ⟨some 14, (.bin .eql .none (.tmp 13) (.const (.int .i64 5))), true, some (11, false)⟩,
  ⟨some 15, (.pick (.tmp 11) (.const (.bool true)) (.tmp 14)), true, none⟩,
  ⟨some 16, (.mov (.tmp 15)), true, none⟩,
  ⟨some 17, (.fieldAddr 4 (.tmp 1)), false, some (16, false)⟩,
  ⟨some 18, (.load 1 false (.tmp 17)), false, some (16, false)⟩,
  ⟨some 19, (.bin .eql .none (.tmp 18) (.const (.int .i64 6))), true, some (16, false)⟩,
  ⟨some 20, (.pick (.tmp 16) (.const (.bool true)) (.tmp 19)), true, none⟩,
  ⟨some 2, (.mov (.tmp 20)), true, none⟩]
def c52_3 : ACode := (.region o52_2 [2])
def w52_3 (_P : Program) (Q : Exit → Slots → Mem → Prop) (M : Mem) (v1 : V) : Prop :=
  @OptVH (moveV 4 v1) ⟨fun t3_1 =>
  @OptVH (loadV 1 false t3_1 M) ⟨fun t4_2 =>
  @OptBH (binV .eql .none t4_2 (.int .i64 2)) ⟨fun b5_3 =>
  @BIfH b5_3
  ⟨Q .normal [(2, (.bool true))] M⟩
  ⟨@OptVH (moveV 4 v1) ⟨fun t7_11 =>
  @OptVH (loadV 1 false t7_11 M) ⟨fun t8_12 =>
  @OptBH (binV .eql .none t8_12 (.int .i64 4)) ⟨fun b9_13 =>
  @BIfH b9_13
  ⟨Q .normal [(2, (.bool true))] M⟩
  ⟨@OptVH (moveV 4 v1) ⟨fun t12_20 =>
  @OptVH (loadV 1 false t12_20 M) ⟨fun t13_21 =>
  @OptBH (binV .eql .none t13_21 (.int .i64 5)) ⟨fun b14_22 =>
  @BIfH b14_22
  ⟨Q .normal [(2, (.bool true))] M⟩
  ⟨@OptVH (moveV 4 v1) ⟨fun t17_27 =>
  @OptVH (loadV 1 false t17_27 M) ⟨fun t18_28 =>
  @OptBH (binV .eql .none t18_28 (.int .i64 6)) ⟨fun b19_29 =>
  Q .normal [(2, (.bool b19_29))] M⟩⟩⟩⟩⟩⟩⟩⟩⟩⟩⟩⟩⟩⟩⟩
theorem e52_3 (P : Program) (Q : Exit → Slots → Mem → Prop) (s : Slots) (M : Mem) : wpC P c52_3 Q s M = w52_3 P Q M (sget s 1) := by kernel_rfl
def c52_4 : ACode := (.seq c52_3 .ret)
def c52_5 : ACode := (.seq c52_1 c52_4)
def fn_transitref31_Status : AFn := ⟨21, [(.tmp 2)], c52_5⟩
theorem fn_transitref31_Status_ok : resFn PR h_transitref31_Status i_transitref31_Status = some fn_transitref31_Status := by kernel_rfl

def h_message_Check : Hints := ⟨[(0, [1]), (1, [1, 6]), (2, [2]), (3, [1, 9]), (4, [2]), (5, [1, 26]), (6, [2]), (7, [1, 30]), (8, [2]), (9, [1, 34]), (10, [2]), (11, [1, 38]), (12, [2]), (13, [1, 41]), (14, [2]), (15, [2])], [], []⟩
def o53_0 : List AOper := [⟨some 1, (.box 13 (.tmp 0)), false, none⟩,
  ⟨some 2, (.mov (.const (.int .i64 0))), false, none⟩]
def c53_1 : ACode := (.region o53_0 [1])
def w53_1 (_P : Program) (Q : Exit → Slots → Mem → Prop) (M : Mem) (v0 : V) : Prop :=
  @OptMH (boxV 13 v0 M) ⟨fun t1_1 M1 =>
  Q .normal [(1, t1_1)] M1⟩
theorem e53_1 (P : Program) (Q : Exit → Slots → Mem → Prop) (s : Slots) (M : Mem) : wpC P c53_1 Q s M = w53_1 P Q M (sget s 0) := by kernel_rfl
def o53_2 : List AOper := [⟨some 2, (.mov (.const (.int .i64 36))), false, none⟩]
def c53_3 : ACode := (.region o53_2 [2])
def w53_3 (_P : Program) (Q : Exit → Slots → Mem → Prop) (M : Mem) : Prop :=
  Q .normal [(2, (.int .i64 36))] M
theorem e53_3 (P : Program) (Q : Exit → Slots → Mem → Prop) (s : Slots) (M : Mem) : wpC P c53_3 Q s M = w53_3 P Q M := by kernel_rfl
def c53_4 : ACode := (.seq c53_3 .ret)
def o53_5 : List AOper := [⟨some 3, (.fieldAddr 0 (.tmp 1)), false, none⟩,
  ⟨some 4, (.load 1 false (.tmp 3)), false, none⟩,
  ⟨some 5, (.call i_message_within [(.tmp 4), (.const (.int .i64 0)), (.const (.int .i64 7))]), true, none⟩,
  ⟨some 6, (.un .not (.tmp 5)), true, none⟩]
def c53_6 : ACode := (.seq (.region o53_5 [1, 6]) (.cond (.tmp 6) c53_4 .skip))
def w53_6 (P : Program) (Q : Exit → Slots → Mem → Prop) (M : Mem) (v1 : V) : Prop :=
  @OptVH (moveV 0 v1) ⟨fun t3_1 =>
  @OptVH (loadV 1 false t3_1 M) ⟨fun t4_2 =>
  @CallH P i_message_within [t4_2, (.int .i64 0), (.int .i64 7)] M ⟨fun t5_3 M3 => @OptBH (some t5_3) ⟨fun b5_3 =>
  @OptBH (unV .not (.bool b5_3)) ⟨fun b6_4 =>
  @BIfH b6_4
  ⟨wpC P c53_4 Q [(1, v1), (6, (.bool b6_4))] M3⟩
  ⟨Q .normal [(1, v1), (6, (.bool b6_4))] M3⟩⟩⟩⟩⟩⟩
theorem e53_6 (P : Program) (Q : Exit → Slots → Mem → Prop) (s : Slots) (M : Mem) : wpC P c53_6 Q s M = w53_6 P Q M (sget s 1) := by kernel_rfl
def o53_7 : List AOper := [⟨some 2, (.mov (.const (.int .i64 2))), false, none⟩]
def c53_8 : ACode := (.region o53_7 [2])
def w53_8 (_P : Program) (Q : Exit → Slots → Mem → Prop) (M : Mem) : Prop :=
  Q .normal [(2, (.int .i64 2))] M
theorem e53_8 (P : Program) (Q : Exit → Slots → Mem → Prop) (s : Slots) (M : Mem) : wpC P c53_8 Q s M = w53_8 P Q M := by kernel_rfl
def c53_9 : ACode := (.seq c53_8 .ret)
def o53_10 : List AOper := [⟨some 7, (.fieldAddr 1 (.tmp 1)), false, none⟩,
  ⟨some 8, (.load 1 false (.tmp 7)), false, none⟩,
  ⟨some 9, (.bin .lss .none (.tmp 8) (.const (.int .i64 1))), true, none⟩]
def c53_11 : ACode := (.seq (.region o53_10 [1, 9]) (.cond (.tmp 9) c53_9 .skip))
def w53_11 (P : Program) (Q : Exit → Slots → Mem → Prop) (M : Mem) (v1 : V) : Prop :=
  @OptVH (moveV 1 v1) ⟨fun t7_1 =>
  @OptVH (loadV 1 false t7_1 M) ⟨fun t8_2 =>
  @OptBH (binV .lss .none t8_2 (.int .i64 1)) ⟨fun b9_3 =>
  @BIfH b9_3
  ⟨wpC P c53_9 Q [(1, v1), (9, (.bool b9_3))] M⟩
  ⟨Q .normal [(1, v1), (9, (.bool b9_3))] M⟩⟩⟩⟩
theorem e53_11 (P : Program) (Q : Exit → Slots → Mem → Prop) (s : Slots) (M : Mem) : wpC P c53_11 Q s M = w53_11 P Q M (sget s 1) := by kernel_rfl
def o53_12 : List AOper := [⟨some 2, (.mov (.const (.int .i64 10))), false, none⟩]
def c53_13 : ACode := (.region o53_12 [2])
def w53_13 (_P : Program) (Q : Exit → Slots → Mem → Prop) (M : Mem) : Prop :=
  Q .normal [(2, (.int .i64 10))] M
theorem e53_13 (P : Program) (Q : Exit → Slots → Mem → Prop) (s : Slots) (M : Mem) : wpC P c53_13 Q s M = w53_13 P Q M := by kernel_rfl
def c53_14 : ACode := (.seq c53_13 .ret)
def o53_15 : List AOper := [⟨some 10, (.fieldAddr 2 (.tmp 1)), false, none⟩,
  ⟨some 11, (.load 1 false (.tmp 10)), false, none⟩,
  ⟨some 12, (.call i_message_within [(.tmp 11), (.const (.int .i64 0)), (.const (.int .i64 3155932800))]), true, none⟩,
  ⟨some 13, (.un .not (.tmp 12)), true, none⟩,
  ⟨some 14, (.mov (.tmp 13)), true, none⟩,
  ⟨some 15, (.fieldAddr 3 (.tmp 1)), false, some (14, false)⟩,
  ⟨some 16, (.load 1 false (.tmp 15)), false, some (14, false)⟩,
  ⟨some 17, (.call i_message_within [(.tmp 16), (.const (.int .i64 0)), (.const (.int .i64 3155932800))]), true, some (14, false)⟩,
  ⟨some 18, (.un .not (.tmp 17)), true, some (14, false)⟩,
  ⟨some 19, (.pick (.tmp 14) (.const (.bool true)) (.tmp 18)), true, none⟩,
  ⟨some 20, (.mov (.tmp 19)), true, none⟩,
  ⟨some 21, (.fieldAddr 2 (.tmp 1)), false, some (20, false)⟩,
  ⟨some 22, (.load 1 false (.tmp 21)), false, some (20, false)⟩,
  ⟨some 23, (.fieldAddr 3 (.tmp 1)), false, some (20, false)⟩,
  ⟨some 24, (.load 1 false (.tmp 23)), false, some (20, false)⟩,
  ⟨some 25, (.bin .geq .none (.tmp 22) (.tmp 24)), true, some (20, false)⟩,
  ⟨some 26, (.pick (.tmp 20) (.const (.bool true)) (.tmp 25)), true, none⟩]
def c53_16 : ACode := (.seq (.region o53_15 [1, 26]) (.cond (.tmp 26) c53_14 .skip))
def w53_16 (P : Program) (Q : Exit → Slots → Mem → Prop) (M : Mem) (v1 : V) : Prop :=
  @OptVH (moveV 2 v1) ⟨fun t10_1 =>
  @OptVH (loadV 1 false t10_1 M) ⟨fun t11_2 =>
  @CallH P i_message_within [t11_2, (.int .i64 0), (.int .i64 3155932800)] M ⟨fun t12_3 M3 => @OptBH (some t12_3) ⟨fun b12_3 =>
  @OptBH (unV .not (.bool b12_3)) ⟨fun b13_4 =>
  @BIfH b13_4
  ⟨wpC P c53_14 Q [(1, v1), (26, (.bool true))] M3⟩
  ⟨@OptVH (moveV 3 v1) ⟨fun t15_9 =>
  @OptVH (loadV 1 false t15_9 M3) ⟨fun t16_10 =>
  @CallH P i_message_within [t16_10, (.int .i64 0), (.int .i64 3155932800)] M3 ⟨fun t17_11 M11 => @OptBH (some t17_11) ⟨fun b17_11 =>
  @OptBH (unV .not (.bool b17_11)) ⟨fun b18_12 =>
  @BIfH b18_12
  ⟨wpC P c53_14 Q [(1, v1), (26, (.bool true))] M11⟩
  ⟨@OptVH (moveV 2 v1) ⟨fun t21_16 =>
  @OptVH (loadV 1 false t21_16 M11) ⟨fun t22_17 =>
  @OptVH (moveV 3 v1) ⟨fun t23_18 =>
  @OptVH (loadV 1 false t23_18 M11) ⟨fun t24_19 =>
  @OptBH (binV .geq .none t22_17 t24_19) ⟨fun b25_20 =>
  @BIfH b25_20
  ⟨wpC P c53_14 Q [(1, v1), (26, (.bool b25_20))] M11⟩
  ⟨Q .normal [(1, v1), (26, (.bool b25_20))] M11⟩⟩⟩⟩⟩⟩⟩⟩⟩⟩⟩⟩⟩⟩⟩⟩⟩⟩
theorem e53_16 (P : Program) (Q : Exit → Slots → Mem → Prop) (s : Slots) (M : Mem) : wpC P c53_16 Q s M = w53_16 P Q M (sget s 1) := by kernel_rfl
def o53_17 : List AOper := [⟨some 2, (.mov (.const (.int .i64 35))), false, none⟩]
def c53_18 : ACode := (.region o53_17 [2])
def w53_18 (_P : Program) (Q : Exit → Slots → Mem → Prop) (M : Mem) : Prop :=
  Q .normal [(2, (.int .i64 35))] M
theorem e53_18 (P : Program) (Q : Exit → Slots → Mem → Prop) (s : Slots) (M : Mem) : wpC P c53_18 Q s M = w53_18 P Q M := by kernel_rfl
def c53_19 : ACode := (.seq c53_18 .ret)
def o53_20 : List AOper := [⟨some 27, (.fieldAddr 4 (.tmp 1)), false, none⟩,
  ⟨some 28, (.load 1 false (.tmp 27)), false, none⟩,
  ⟨some 29, (.call i_message_within [(.tmp 28), (.const (.int .i64 1)), (.const (.int .i64 6))]), true, none⟩,
  ⟨some 30, (.un .not (.tmp 29)), true, none⟩]
def c53_21 : ACode := (.seq (.region o53_20 [1, 30]) (.cond (.tmp 30) c53_19 .skip))
def w53_21 (P : Program) (Q : Exit → Slots → Mem → Prop) (M : Mem) (v1 : V) : Prop :=
  @OptVH (moveV 4 v1) ⟨fun t27_1 =>
  @OptVH (loadV 1 false t27_1 M) ⟨fun t28_2 =>
  @CallH P i_message_within [t28_2, (.int .i64 1), (.int .i64 6)] M ⟨fun t29_3 M3 => @OptBH (some t29_3) ⟨fun b29_3 =>
  @OptBH (unV .not (.bool b29_3)) ⟨fun b30_4 =>
  @BIfH b30_4
  ⟨wpC P c53_19 Q [(1, v1), (30, (.bool b30_4))] M3⟩
  ⟨Q .normal [(1, v1), (30, (.bool b30_4))] M3⟩⟩⟩⟩⟩⟩
theorem e53_21 (P : Program) (Q : Exit → Slots → Mem → Prop) (s : Slots) (M : Mem) : wpC P c53_21 Q s M = w53_21 P Q M (sget s 1) := by kernel_rfl
def o53_22 : List AOper := [⟨some 2, (.mov (.const (.int .i64 12))), false, none⟩]
def c53_23 : ACode := (.region o53_22 [2])
def w53_23 (_P : Program) (Q : Exit → Slots → Mem → Prop) (M : Mem) : Prop :=
  Q .normal [(2, (.int .i64 12))] M
theorem e53_23 (P : Program) (Q : Exit → Slots → Mem → Prop) (s : Slots) (M : Mem) : wpC P c53_23 Q s M = w53_23 P Q M := by kernel_rfl
def c53_24 : ACode := (.seq c53_23 .ret)
def o53_25 : List AOper := [⟨some 31, (.fieldAddr 5 (.tmp 1)), false, none⟩,
  ⟨some 32, (.load 1 false (.tmp 31)), false, none⟩,
  ⟨some 33, (.call i_ident_Valid [(.tmp 32)]), true, none⟩,
  ⟨some 34, (.un .not (.tmp 33)), true, none⟩]
def c53_26 : ACode := (.seq (.region o53_25 [1, 34]) (.cond (.tmp 34) c53_24 .skip))
def w53_26 (P : Program) (Q : Exit → Slots → Mem → Prop) (M : Mem) (v1 : V) : Prop :=
  @OptVH (moveV 5 v1) ⟨fun t31_1 =>
  @OptVH (loadV 1 false t31_1 M) ⟨fun t32_2 =>
  @CallH P i_ident_Valid [t32_2] M ⟨fun t33_3 M3 => @OptBH (some t33_3) ⟨fun b33_3 =>
  @OptBH (unV .not (.bool b33_3)) ⟨fun b34_4 =>
  @BIfH b34_4
  ⟨wpC P c53_24 Q [(1, v1), (34, (.bool b34_4))] M3⟩
  ⟨Q .normal [(1, v1), (34, (.bool b34_4))] M3⟩⟩⟩⟩⟩⟩
theorem e53_26 (P : Program) (Q : Exit → Slots → Mem → Prop) (s : Slots) (M : Mem) : wpC P c53_26 Q s M = w53_26 P Q M (sget s 1) := by kernel_rfl
def o53_27 : List AOper := [⟨some 2, (.mov (.const (.int .i64 11))), false, none⟩]
def c53_28 : ACode := (.region o53_27 [2])
def w53_28 (_P : Program) (Q : Exit → Slots → Mem → Prop) (M : Mem) : Prop :=
  Q .normal [(2, (.int .i64 11))] M
theorem e53_28 (P : Program) (Q : Exit → Slots → Mem → Prop) (s : Slots) (M : Mem) : wpC P c53_28 Q s M = w53_28 P Q M := by kernel_rfl
def c53_29 : ACode := (.seq c53_28 .ret)
def o53_30 : List AOper := [⟨some 35, (.fieldAddr 6 (.tmp 1)), false, none⟩,
  ⟨some 36, (.load 1 false (.tmp 35)), false, none⟩,
  ⟨some 37, (.call i_date_Valid [(.tmp 36)]), true, none⟩,
  ⟨some 38, (.un .not (.tmp 37)), true, none⟩]
def c53_31 : ACode := (.seq (.region o53_30 [1, 38]) (.cond (.tmp 38) c53_29 .skip))
def w53_31 (P : Program) (Q : Exit → Slots → Mem → Prop) (M : Mem) (v1 : V) : Prop :=
  @OptVH (moveV 6 v1) ⟨fun t35_1 =>
  @OptVH (loadV 1 false t35_1 M) ⟨fun t36_2 =>
  @CallH P i_date_Valid [t36_2] M ⟨fun t37_3 M3 => @OptBH (some t37_3) ⟨fun b37_3 =>
  @OptBH (unV .not (.bool b37_3)) ⟨fun b38_4 =>
  @BIfH b38_4
  ⟨wpC P c53_29 Q [(1, v1), (38, (.bool b38_4))] M3⟩
  ⟨Q .normal [(1, v1), (38, (.bool b38_4))] M3⟩⟩⟩⟩⟩⟩
theorem e53_31 (P : Program) (Q : Exit → Slots → Mem → Prop) (s : Slots) (M : Mem) : wpC P c53_31 Q s M = w53_31 P Q M (sget s 1) := by kernel_rfl
def o53_32 : List AOper := [⟨some 2, (.mov (.const (.int .i64 2))), false, none⟩]
def c53_33 : ACode := (.region o53_32 [2])
def w53_33 (_P : Program) (Q : Exit → Slots → Mem → Prop) (M : Mem) : Prop :=
  Q .normal [(2, (.int .i64 2))] M
theorem e53_33 (P : Program) (Q : Exit → Slots → Mem → Prop) (s : Slots) (M : Mem) : wpC P c53_33 Q s M = w53_33 P Q M := by kernel_rfl
def c53_34 : ACode := (.seq c53_33 .ret)
def o53_35 : List AOper := [⟨some 39, (.fieldAddr 7 (.tmp 1)), false, none⟩,
  ⟨some 40, (.load 1 false (.tmp 39)), false, none⟩,
  ⟨some 41, (.bin .lss .none (.tmp 40) (.const (.int .i64 0))), true, none⟩]
def c53_36 : ACode := (.seq (.region o53_35 [1, 41]) (.cond (.tmp 41) c53_34 .skip))
def w53_36 (P : Program) (Q : Exit → Slots → Mem → Prop) (M : Mem) (v1 : V) : Prop :=
  @OptVH (moveV 7 v1) ⟨fun t39_1 =>
  @OptVH (loadV 1 false t39_1 M) ⟨fun t40_2 =>
  @OptBH (binV .lss .none t40_2 (.int .i64 0)) ⟨fun b41_3 =>
  @BIfH b41_3
  ⟨wpC P c53_34 Q [(1, v1), (41, (.bool b41_3))] M⟩
  ⟨Q .normal [(1, v1), (41, (.bool b41_3))] M⟩⟩⟩⟩
theorem e53_36 (P : Program) (Q : Exit → Slots → Mem → Prop) (s : Slots) (M : Mem) : wpC P c53_36 Q s M = w53_36 P Q M (sget s 1) := by kernel_rfl
def o53_37 : List AOper := [⟨some 42, (.load 13 true (.tmp 1)), false, none⟩,
  ⟨some 43, (.fieldAddr 4 (.tmp 1)), false, none⟩,
  ⟨some 44, (.load 1 false (.tmp 43)), false, none⟩,
  ⟨some 45, (.call i_message_used [(.tmp 44)]), false, none⟩,
  ⟨some 46, (.call i_message_checkKind [(.tmp 42), (.tmp 45)]), false, none⟩,
  ⟨some 2, (.mov (.tmp 46)), false, none⟩]
def c53_38 : ACode := (.mixed o53_37 [true, true, true, true, false, true] [2])
def w53_38 (P : Program) (Q : Exit → Slots → Mem → Prop) (M : Mem) (v1 : V) : Prop :=
  @OptVH (loadV 13 true v1 M) ⟨fun t42_1 =>
  @OptVH (moveV 4 v1) ⟨fun t43_2 =>
  @OptVH (loadV 1 false t43_2 M) ⟨fun t44_3 =>
  @CallQ P i_message_used [t44_3] M ⟨fun t45_4 M4 =>
  @CallH P i_message_checkKind [t42_1, t45_4] M4 ⟨fun t46_5 M5 =>
  Q .normal [(2, t46_5)] M5⟩⟩⟩⟩⟩
theorem e53_38 (P : Program) (Q : Exit → Slots → Mem → Prop) (s : Slots) (M : Mem) : wpC P c53_38 Q s M = w53_38 P Q M (sget s 1) := by kernel_rfl
def c53_39 : ACode := (.seq c53_38 .ret)
def c53_40 : ACode := (.seq c53_36 c53_39)
def c53_41 : ACode := (.seq c53_31 c53_40)
def c53_42 : ACode := (.seq c53_26 c53_41)
def c53_43 : ACode := (.seq c53_21 c53_42)
def c53_44 : ACode := (.seq c53_16 c53_43)
def c53_45 : ACode := (.seq c53_11 c53_44)
def c53_46 : ACode := (.seq c53_6 c53_45)
def c53_47 : ACode := (.seq c53_1 c53_46)
def fn_message_Check : AFn := ⟨47, [(.tmp 2)], c53_47⟩
theorem fn_message_Check_ok : resFn PR h_message_Check i_message_Check = some fn_message_Check := by kernel_rfl

def h_message_status : Hints := ⟨[(0, [0]), (1, [3]), (2, [3, 4]), (3, [3, 4]), (4, [3, 4]), (5, [4]), (6, [2]), (7, [2])], [], []⟩
def o54_0 : List AOper := [⟨some 2, (.mov (.const (.bool false))), true, none⟩]
def c54_1 : ACode := (.region o54_0 [0])
def w54_1 (_P : Program) (Q : Exit → Slots → Mem → Prop) (M : Mem) (v0 : V) : Prop :=
  Q .normal [(0, v0)] M
theorem e54_1 (P : Program) (Q : Exit → Slots → Mem → Prop) (s : Slots) (M : Mem) : wpC P c54_1 Q s M = w54_1 P Q M (sget s 0) := by kernel_rfl
def o54_2 : List AOper := [⟨some 3, (.mov (.tmp 0)), false, none⟩]
def c54_3 : ACode := (.region o54_2 [3])
def w54_3 (_P : Program) (Q : Exit → Slots → Mem → Prop) (M : Mem) (v0 : V) : Prop :=
  Q .normal [(3, v0)] M
theorem e54_3 (P : Program) (Q : Exit → Slots → Mem → Prop) (s : Slots) (M : Mem) : wpC P c54_3 Q s M = w54_3 P Q M (sget s 0) := by kernel_rfl
def o54_4 : List AOper := [⟨some 8, (.bin .eql .none (.tmp 3) (.const (.int .i64 6))), true, none⟩,
  ⟨some 4, (.mov (.tmp 8)), true, none⟩]
def c54_5 : ACode := (.region o54_4 [4])
def w54_5 (_P : Program) (Q : Exit → Slots → Mem → Prop) (M : Mem) (v3 : V) : Prop :=
  @OptBH (binV .eql .none v3 (.int .i64 6)) ⟨fun b8_1 =>
  Q .normal [(4, (.bool b8_1))] M⟩
theorem e54_5 (P : Program) (Q : Exit → Slots → Mem → Prop) (s : Slots) (M : Mem) : wpC P c54_5 Q s M = w54_5 P Q M (sget s 3) := by kernel_rfl
def o54_6 : List AOper := [⟨some 7, (.bin .eql .none (.tmp 3) (.const (.int .i64 5))), true, none⟩,
  ⟨some 4, (.mov (.tmp 7)), true, none⟩]
def c54_7 : ACode := (.seq (.region o54_6 [3, 4]) (.cond (.tmp 4) .skip c54_5))
def w54_7 (P : Program) (Q : Exit → Slots → Mem → Prop) (M : Mem) (v3 : V) : Prop :=
  @OptBH (binV .eql .none v3 (.int .i64 5)) ⟨fun b7_1 =>
  @BIfH b7_1
  ⟨Q .normal [(3, v3), (4, (.bool b7_1))] M⟩
  ⟨wpC P c54_5 Q [(3, v3), (4, (.bool b7_1))] M⟩⟩
theorem e54_7 (P : Program) (Q : Exit → Slots → Mem → Prop) (s : Slots) (M : Mem) : wpC P c54_7 Q s M = w54_7 P Q M (sget s 3) := by kernel_rfl
def o54_8 : List AOper := [⟨some 6, (.bin .eql .none (.tmp 3) (.const (.int .i64 4))), true, none⟩,
  ⟨some 4, (.mov (.tmp 6)), true, none⟩]
def c54_9 : ACode := (.seq (.region o54_8 [3, 4]) (.cond (.tmp 4) .skip c54_7))
def w54_9 (P : Program) (Q : Exit → Slots → Mem → Prop) (M : Mem) (v3 : V) : Prop :=
  @OptBH (binV .eql .none v3 (.int .i64 4)) ⟨fun b6_1 =>
  @BIfH b6_1
  ⟨Q .normal [(3, v3), (4, (.bool b6_1))] M⟩
  ⟨wpC P c54_7 Q [(3, v3), (4, (.bool b6_1))] M⟩⟩
theorem e54_9 (P : Program) (Q : Exit → Slots → Mem → Prop) (s : Slots) (M : Mem) : wpC P c54_9 Q s M = w54_9 P Q M (sget s 3) := by kernel_rfl
def o54_10 : List AOper := [⟨some 5, (.bin .eql .none (.tmp 3) (.const (.int .i64 2))), true, none⟩,
  ⟨some 4, (.mov (.tmp 5)), true, none⟩]
def c54_11 : ACode := (.seq (.region o54_10 [3, 4]) (.cond (.tmp 4) .skip c54_9))
def w54_11 (P : Program) (Q : Exit → Slots → Mem → Prop) (M : Mem) (v3 : V) : Prop :=
  @OptBH (binV .eql .none v3 (.int .i64 2)) ⟨fun b5_1 =>
  @BIfH b5_1
  ⟨Q .normal [(3, v3), (4, (.bool b5_1))] M⟩
  ⟨wpC P c54_9 Q [(3, v3), (4, (.bool b5_1))] M⟩⟩
theorem e54_11 (P : Program) (Q : Exit → Slots → Mem → Prop) (s : Slots) (M : Mem) : wpC P c54_11 Q s M = w54_11 P Q M (sget s 3) := by kernel_rfl
def o54_12 : List AOper := [⟨some 2, (.mov (.const (.bool true))), true, none⟩]
def c54_13 : ACode := (.region o54_12 [2])
def w54_13 (_P : Program) (Q : Exit → Slots → Mem → Prop) (M : Mem) : Prop :=
  Q .normal [(2, (.bool true))] M
theorem e54_13 (P : Program) (Q : Exit → Slots → Mem → Prop) (s : Slots) (M : Mem) : wpC P c54_13 Q s M = w54_13 P Q M := by kernel_rfl
def c54_14 : ACode := (.seq c54_13 .ret)
def c54_15 : ACode := (.cond (.tmp 4) c54_14 .skip)
def c54_16 : ACode := (.seq c54_11 c54_15)
def c54_17 : ACode := (.block 0 c54_16)
def c54_18 : ACode := (.seq c54_3 c54_17)
def o54_19 : List AOper := [⟨some 2, (.mov (.const (.bool false))), true, none⟩]
def c54_20 : ACode := (.region o54_19 [2])
def w54_20 (_P : Program) (Q : Exit → Slots → Mem → Prop) (M : Mem) : Prop :=
  Q .normal [(2, (.bool false))] M
theorem e54_20 (P : Program) (Q : Exit → Slots → Mem → Prop) (s : Slots) (M : Mem) : wpC P c54_20 Q s M = w54_20 P Q M := by kernel_rfl
def c54_21 : ACode := (.seq c54_20 .ret)
def c54_22 : ACode := (.seq c54_18 c54_21)
def c54_23 : ACode := (.seq c54_1 c54_22)
def fn_message_status : AFn := ⟨9, [(.tmp 2)], c54_23⟩
theorem fn_message_status_ok : resFn PR h_message_status i_message_status = some fn_message_status := by kernel_rfl

def h_transitref16_Equal : Hints := ⟨[(0, [0, 1]), (1, [0, 1, 10]), (2, [4]), (3, [0, 1, 5]), (4, [0, 1, 5, 14]), (5, [0, 1, 5]), (6, [0, 1, 5, 25]), (7, [4]), (8, [4])], [(4, [0, 1, 5])], []⟩
def o55_0 : List AOper := [⟨some 4, (.mov (.const (.bool false))), true, none⟩]
def c55_1 : ACode := (.region o55_0 [0, 1])
def w55_1 (_P : Program) (Q : Exit → Slots → Mem → Prop) (M : Mem) (v0 : V) (v1 : V) : Prop :=
  Q .normal [(0, v0), (1, v1)] M
theorem e55_1 (P : Program) (Q : Exit → Slots → Mem → Prop) (s : Slots) (M : Mem) : wpC P c55_1 Q s M = w55_1 P Q M (sget s 0) (sget s 1) := by kernel_rfl
def o55_2 : List AOper := [⟨some 4, (.mov (.const (.bool false))), true, none⟩]
def c55_3 : ACode := (.region o55_2 [4])
def w55_3 (_P : Program) (Q : Exit → Slots → Mem → Prop) (M : Mem) : Prop :=
  Q .normal [(4, (.bool false))] M
theorem e55_3 (P : Program) (Q : Exit → Slots → Mem → Prop) (s : Slots) (M : Mem) : wpC P c55_3 Q s M = w55_3 P Q M := by kernel_rfl
def c55_4 : ACode := (.seq c55_3 .ret)
def o55_5 : List AOper := [⟨some 6, (.mov (.tmp 0)), false, none⟩,
  ⟨some 7, (.lenSl (.tmp 6)), false, none⟩,
  ⟨some 8, (.mov (.tmp 1)), false, none⟩,
  ⟨some 9, (.lenSl (.tmp 8)), false, none⟩,
  ⟨some 10, (.bin .neq .none (.tmp 7) (.tmp 9)), true, none⟩]
def c55_6 : ACode := (.seq (.region o55_5 [0, 1, 10]) (.cond (.tmp 10) c55_4 .skip))
def w55_6 (P : Program) (Q : Exit → Slots → Mem → Prop) (M : Mem) (v0 : V) (v1 : V) : Prop :=
  @OptVH (lenV v0 M) ⟨fun t7_2 =>
  @OptVH (lenV v1 M) ⟨fun t9_4 =>
  @OptBH (binV .neq .none t7_2 t9_4) ⟨fun b10_5 =>
  @BIfH b10_5
  ⟨wpC P c55_4 Q [(0, v0), (1, v1), (10, (.bool b10_5))] M⟩
  ⟨Q .normal [(0, v0), (1, v1), (10, (.bool b10_5))] M⟩⟩⟩⟩
theorem e55_6 (P : Program) (Q : Exit → Slots → Mem → Prop) (s : Slots) (M : Mem) : wpC P c55_6 Q s M = w55_6 P Q M (sget s 0) (sget s 1) := by kernel_rfl
def o55_7 : List AOper := [⟨some 5, (.mov (.const (.int .i64 0))), false, none⟩]
def c55_8 : ACode := (.region o55_7 [0, 1, 5])
def w55_8 (_P : Program) (Q : Exit → Slots → Mem → Prop) (M : Mem) (v0 : V) (v1 : V) : Prop :=
  Q .normal [(0, v0), (1, v1), (5, (.int .i64 0))] M
theorem e55_8 (P : Program) (Q : Exit → Slots → Mem → Prop) (s : Slots) (M : Mem) : wpC P c55_8 Q s M = w55_8 P Q M (sget s 0) (sget s 1) := by kernel_rfl
def o55_9 : List AOper := [⟨some 11, (.mov (.tmp 5)), false, none⟩,
  ⟨some 12, (.mov (.tmp 0)), false, none⟩,
  ⟨some 13, (.lenSl (.tmp 12)), false, none⟩,
  ⟨some 14, (.bin .lss .none (.tmp 11) (.tmp 13)), true, none⟩]
def c55_10 : ACode := (.seq (.region o55_9 [0, 1, 5, 14]) (.cond (.tmp 14) .skip (.exit 0)))
def w55_10 (_P : Program) (Q : Exit → Slots → Mem → Prop) (M : Mem) (v0 : V) (v1 : V) (v5 : V) : Prop :=
  @OptVH (lenV v0 M) ⟨fun t13_3 =>
  @OptBH (binV .lss .none v5 t13_3) ⟨fun b14_4 =>
  @BIfH b14_4
  ⟨Q .normal [(0, v0), (1, v1), (5, v5), (14, (.bool b14_4))] M⟩
  ⟨Q (.exit 0) [(0, v0), (1, v1), (5, v5), (14, (.bool b14_4))] M⟩⟩⟩
theorem e55_10 (P : Program) (Q : Exit → Slots → Mem → Prop) (s : Slots) (M : Mem) : wpC P c55_10 Q s M = w55_10 P Q M (sget s 0) (sget s 1) (sget s 5) := by kernel_rfl
def o55_11 : List AOper := [⟨some 4, (.mov (.const (.bool false))), true, none⟩]
def c55_12 : ACode := (.region o55_11 [4])
def w55_12 (_P : Program) (Q : Exit → Slots → Mem → Prop) (M : Mem) : Prop :=
  Q .normal [(4, (.bool false))] M
theorem e55_12 (P : Program) (Q : Exit → Slots → Mem → Prop) (s : Slots) (M : Mem) : wpC P c55_12 Q s M = w55_12 P Q M := by kernel_rfl
def c55_13 : ACode := (.seq c55_12 .ret)
def o55_14 : List AOper := [⟨some 17, (.mov (.tmp 0)), false, none⟩,
  ⟨some 18, (.mov (.tmp 5)), false, none⟩,
  ⟨some 19, (.indexSl 5 (.tmp 17) (.tmp 18)), false, none⟩,
  ⟨some 20, (.load 5 true (.tmp 19)), false, none⟩,
  ⟨some 21, (.mov (.tmp 1)), false, none⟩,
  ⟨some 22, (.mov (.tmp 5)), false, none⟩,
  ⟨some 23, (.indexSl 5 (.tmp 21) (.tmp 22)), false, none⟩,
  ⟨some 24, (.load 5 true (.tmp 23)), false, none⟩,
  ⟨some 25, (.bin .neq (.cells [.int, .int, .int, .bool, .bool]) (.tmp 20) (.tmp 24)), true, none⟩]
def c55_15 : ACode := (.seq (.mixed o55_14 [true, true, true, true, true, true, true, true, true] [0, 1, 5, 25]) (.cond (.tmp 25) c55_13 .skip))
def w55_15 (P : Program) (Q : Exit → Slots → Mem → Prop) (M : Mem) (v0 : V) (v1 : V) (v5 : V) : Prop :=
  @OptVH (indexSlV 5 v0 v5 M) ⟨fun t19_3 =>
  @OptVH (loadV 5 true t19_3 M) ⟨fun t20_4 =>
  @OptVH (indexSlV 5 v1 v5 M) ⟨fun t23_7 =>
  @OptVH (loadV 5 true t23_7 M) ⟨fun t24_8 =>
  @OptBH (binV .neq (.cells [.int, .int, .int, .bool, .bool]) t20_4 t24_8) ⟨fun b25_9 =>
  @BIfH b25_9
  ⟨wpC P c55_13 Q [(0, v0), (1, v1), (5, v5), (25, (.bool b25_9))] M⟩
  ⟨Q .normal [(0, v0), (1, v1), (5, v5), (25, (.bool b25_9))] M⟩⟩⟩⟩⟩⟩
theorem e55_15 (P : Program) (Q : Exit → Slots → Mem → Prop) (s : Slots) (M : Mem) : wpC P c55_15 Q s M = w55_15 P Q M (sget s 0) (sget s 1) (sget s 5) := by kernel_rfl
def c55_16 : ACode := (.block 1 c55_15)
def o55_17 : List AOper := [⟨some 15, (.mov (.tmp 5)), false, none⟩,
  ⟨some 16, (.bin .add .none (.tmp 15) (.const (.int .i64 1))), false, none⟩,
  ⟨some 5, (.mov (.tmp 16)), false, none⟩]
def c55_18 : ACode := (.region o55_17 [0, 1, 5])
def w55_18 (_P : Program) (Q : Exit → Slots → Mem → Prop) (M : Mem) (v0 : V) (v1 : V) (v5 : V) : Prop :=
  @OptVH (binV .add .none v5 (.int .i64 1)) ⟨fun t16_2 =>
  Q .normal [(0, v0), (1, v1), (5, t16_2)] M⟩
theorem e55_18 (P : Program) (Q : Exit → Slots → Mem → Prop) (s : Slots) (M : Mem) : wpC P c55_18 Q s M = w55_18 P Q M (sget s 0) (sget s 1) (sget s 5) := by kernel_rfl
def c55_19 : ACode := (.seq c55_16 c55_18)
def c55_20 : ACode := (.seq c55_10 c55_19)
def c55_21 : ACode := (.loop [0, 1, 5] c55_20)
def c55_22 : ACode := (.block 0 c55_21)
def c55_23 : ACode := (.seq c55_8 c55_22)
def o55_24 : List AOper := [⟨some 4, (.mov (.const (.bool true))), true, none⟩]
def c55_25 : ACode := (.region o55_24 [4])
def w55_25 (_P : Program) (Q : Exit → Slots → Mem → Prop) (M : Mem) : Prop :=
  Q .normal [(4, (.bool true))] M
theorem e55_25 (P : Program) (Q : Exit → Slots → Mem → Prop) (s : Slots) (M : Mem) : wpC P c55_25 Q s M = w55_25 P Q M := by kernel_rfl
def c55_26 : ACode := (.seq c55_25 .ret)
def c55_27 : ACode := (.seq c55_23 c55_26)
def c55_28 : ACode := (.seq c55_6 c55_27)
def c55_29 : ACode := (.seq c55_1 c55_28)
def fn_transitref16_Equal : AFn := ⟨26, [(.tmp 4)], c55_29⟩
theorem fn_transitref16_Equal_ok : resFn PR h_transitref16_Equal i_transitref16_Equal = some fn_transitref16_Equal := by kernel_rfl

def h_transitref15_Name : Hints := ⟨[(0, [0]), (1, [0, 12]), (2, [2]), (3, [0, 3]), (4, [0, 3, 16]), (5, [0, 3]), (6, [0, 3, 4]), (7, [0, 3, 56]), (8, [2]), (9, [2])], [(4, [0, 3])], []⟩
def o56_0 : List AOper := [⟨some 2, (.mov (.const (.bool false))), true, none⟩]
def c56_1 : ACode := (.region o56_0 [0])
def w56_1 (_P : Program) (Q : Exit → Slots → Mem → Prop) (M : Mem) (v0 : V) : Prop :=
  Q .normal [(0, v0)] M
theorem e56_1 (P : Program) (Q : Exit → Slots → Mem → Prop) (s : Slots) (M : Mem) : wpC P c56_1 Q s M = w56_1 P Q M (sget s 0) := by kernel_rfl
def o56_2 : List AOper := [⟨some 2, (.mov (.const (.bool false))), true, none⟩]
def c56_3 : ACode := (.region o56_2 [2])
def w56_3 (_P : Program) (Q : Exit → Slots → Mem → Prop) (M : Mem) : Prop :=
  Q .normal [(2, (.bool false))] M
theorem e56_3 (P : Program) (Q : Exit → Slots → Mem → Prop) (s : Slots) (M : Mem) : wpC P c56_3 Q s M = w56_3 P Q M := by kernel_rfl
def c56_4 : ACode := (.seq c56_3 .ret)
def o56_5 : List AOper := [⟨some 5, (.mov (.tmp 0)), false, none⟩,
  ⟨some 6, (.lenStr (.tmp 5)), false, none⟩,
  ⟨some 7, (.bin .lss .none (.tmp 6) (.const (.int .i64 1))), true, none⟩,
  ⟨some 8, (.mov (.tmp 7)), true, none⟩,
  ⟨some 9, (.mov (.tmp 0)), false, some (8, false)⟩,
  ⟨some 10, (.lenStr (.tmp 9)), false, some (8, false)⟩,
  ⟨some 11, (.bin .gtr .none (.tmp 10) (.const (.int .i64 32))), true, some (8, false)⟩,
  ⟨some 12, (.pick (.tmp 8) (.const (.bool true)) (.tmp 11)), true, none⟩]
def c56_6 : ACode := (.seq (.region o56_5 [0, 12]) (.cond (.tmp 12) c56_4 .skip))
def w56_6 (P : Program) (Q : Exit → Slots → Mem → Prop) (M : Mem) (v0 : V) : Prop :=
  @OptVH (lenStrV v0) ⟨fun t6_2 =>
  @OptBH (binV .lss .none t6_2 (.int .i64 1)) ⟨fun b7_3 =>
  @BIfH b7_3
  ⟨wpC P c56_4 Q [(0, v0), (12, (.bool true))] M⟩
  ⟨@OptVH (lenStrV v0) ⟨fun t10_7 =>
  @OptBH (binV .gtr .none t10_7 (.int .i64 32)) ⟨fun b11_8 =>
  @BIfH b11_8
  ⟨wpC P c56_4 Q [(0, v0), (12, (.bool b11_8))] M⟩
  ⟨Q .normal [(0, v0), (12, (.bool b11_8))] M⟩⟩⟩⟩⟩⟩
theorem e56_6 (P : Program) (Q : Exit → Slots → Mem → Prop) (s : Slots) (M : Mem) : wpC P c56_6 Q s M = w56_6 P Q M (sget s 0) := by kernel_rfl
def o56_7 : List AOper := [⟨some 3, (.mov (.const (.int .i64 0))), false, none⟩]
def c56_8 : ACode := (.region o56_7 [0, 3])
def w56_8 (_P : Program) (Q : Exit → Slots → Mem → Prop) (M : Mem) (v0 : V) : Prop :=
  Q .normal [(0, v0), (3, (.int .i64 0))] M
theorem e56_8 (P : Program) (Q : Exit → Slots → Mem → Prop) (s : Slots) (M : Mem) : wpC P c56_8 Q s M = w56_8 P Q M (sget s 0) := by kernel_rfl
def o56_9 : List AOper := [⟨some 13, (.mov (.tmp 3)), false, none⟩,
  ⟨some 14, (.mov (.tmp 0)), false, none⟩,
  ⟨some 15, (.lenStr (.tmp 14)), false, none⟩,
  ⟨some 16, (.bin .lss .none (.tmp 13) (.tmp 15)), true, none⟩]
def c56_10 : ACode := (.seq (.region o56_9 [0, 3, 16]) (.cond (.tmp 16) .skip (.exit 0)))
def w56_10 (_P : Program) (Q : Exit → Slots → Mem → Prop) (M : Mem) (v0 : V) (v3 : V) : Prop :=
  @OptVH (lenStrV v0) ⟨fun t15_3 =>
  @OptBH (binV .lss .none v3 t15_3) ⟨fun b16_4 =>
  @BIfH b16_4
  ⟨Q .normal [(0, v0), (3, v3), (16, (.bool b16_4))] M⟩
  ⟨Q (.exit 0) [(0, v0), (3, v3), (16, (.bool b16_4))] M⟩⟩⟩
theorem e56_10 (P : Program) (Q : Exit → Slots → Mem → Prop) (s : Slots) (M : Mem) : wpC P c56_10 Q s M = w56_10 P Q M (sget s 0) (sget s 3) := by kernel_rfl
def o56_11 : List AOper := [⟨some 19, (.mov (.tmp 0)), false, none⟩,
  ⟨some 20, (.mov (.tmp 3)), false, none⟩,
  ⟨some 21, (.indexStr (.tmp 19) (.tmp 20)), false, none⟩,
  ⟨some 4, (.mov (.tmp 21)), false, none⟩]
def c56_12 : ACode := (.region o56_11 [0, 3, 4])
def w56_12 (_P : Program) (Q : Exit → Slots → Mem → Prop) (M : Mem) (v0 : V) (v3 : V) : Prop :=
  @OptVH (indexStrV v0 v3) ⟨fun t21_3 =>
  Q .normal [(0, v0), (3, v3), (4, t21_3)] M⟩
theorem e56_12 (P : Program) (Q : Exit → Slots → Mem → Prop) (s : Slots) (M : Mem) : wpC P c56_12 Q s M = w56_12 P Q M (sget s 0) (sget s 3) := by kernel_rfl
def o56_13 : List AOper := [⟨some 2, (.mov (.const (.bool false))), true, none⟩]
def c56_14 : ACode := (.region o56_13 [2])
def w56_14 (_P : Program) (Q : Exit → Slots → Mem → Prop) (M : Mem) : Prop :=
  Q .normal [(2, (.bool false))] M
theorem e56_14 (P : Program) (Q : Exit → Slots → Mem → Prop) (s : Slots) (M : Mem) : wpC P c56_14 Q s M = w56_14 P Q M := by kernel_rfl
def c56_15 : ACode := (.seq c56_14 .ret)
def o56_16 : List AOper := [⟨some 22, (.mov (.tmp 4)), false, none⟩,
  ⟨some 23, (.bin .geq .none (.tmp 22) (.const (.int .u8 97))), true, none⟩,
  ⟨some 24, (.mov (.tmp 23)), true, none⟩,
  ⟨some 25, (.mov (.tmp 4)), false, some (24, true)⟩,
  ⟨some 26, (.bin .leq .none (.tmp 25) (.const (.int .u8 122))), true, some (24, true)⟩,
  ⟨some 27, (.pick (.tmp 24) (.tmp 26) (.const (.bool false))), true, none⟩,
  ⟨some 28, (.mov (.tmp 27)), true, none⟩,
  ⟨some 29, (.mov (.tmp 4)), false, some (28, false)⟩,
  ⟨some 30, (.bin .geq .none (.tmp 29) (.const (.int .u8 65))), true, some (28, false)⟩,
  ⟨some 31, (.mov (.tmp 30)), true, some (28, false)⟩,
  ⟨some 32, (.mov (.tmp 4)), false, some (31, true)⟩,
  ⟨some 33, (.bin .leq .none (.tmp 32) (.const (.int .u8 90))), true, some (31, true)⟩,
  ⟨some 34, (.pick (.tmp 31) (.tmp 33) (.const (.bool false))), true, some (28, false)⟩,
  ⟨some 35, (.pick (.tmp 28) (.const (.bool true)) (.tmp 34)), true, none⟩,
  ⟨some 36, (.mov (.tmp 35)), true, none⟩,
  ⟨some 37, (.mov (.tmp 4)), false, some (36, false)⟩,
  ⟨some 38, (.bin .geq .none (.tmp 37) (.const (.int .u8 48))), true, some (36, false)⟩,
  ⟨some 39, (.mov (.tmp 38)), true, some (36, false)⟩,
  ⟨some 40, (.mov (.tmp 4)), false, some (39, true)⟩,
  ⟨some 41, (.bin .leq .none (.tmp 40) (.const (.int .u8 57))), true, some (39, true)⟩,
  ⟨some 42, (.pick (.tmp 39) (.tmp 41) (.const (.bool false))), true, some (36, false)⟩,
  ⟨some 43, (.pick (.tmp 36) (.const (.bool true)) (.tmp 42)), true, none⟩,
  ⟨some 44, (.mov (.tmp 43)), true, none⟩,
  ⟨some 45, (.mov (.tmp 4)), false, some (44, false)⟩,
  ⟨some 46, (.bin .eql .none (.tmp 45) (.const (.int .u8 45))), true, some (44, false)⟩,
  ⟨some 47, (.pick (.tmp 44) (.const (.bool true)) (.tmp 46)), true, none⟩,
  ⟨some 48, (.mov (.tmp 47)), true, none⟩,
  ⟨some 49, (.mov (.tmp 4)), false, some (48, false)⟩,
  ⟨some 50, (.bin .eql .none (.tmp 49) (.const (.int .u8 95))), true, some (48, false)⟩,
  ⟨some 51, (.pick (.tmp 48) (.const (.bool true)) (.tmp 50)), true, none⟩,
  ⟨some 52, (.mov (.tmp 51)), true, none⟩,
  ⟨some 53, (.mov (.tmp 4)), false, some (52, false)⟩,
  ⟨some 54, (.bin .eql .none (.tmp 53) (.const (.int .u8 46))), true, some (52, false)⟩,
  ⟨some 55, (.pick (.tmp 52) (.const (.bool true)) (.tmp 54)), true, none⟩,
  ⟨some 56, (.un .not (.tmp 55)), true, none⟩]
def c56_17 : ACode := (.seq (.region o56_16 [0, 3, 56]) (.cond (.tmp 56) c56_15 .skip))
def w56_17 (P : Program) (Q : Exit → Slots → Mem → Prop) (M : Mem) (v0 : V) (v3 : V) (v4 : V) : Prop :=
  @OptBH (binV .geq .none v4 (.int .u8 97)) ⟨fun b23_2 =>
  @BIfH b23_2
  ⟨@OptBH (binV .leq .none v4 (.int .u8 122)) ⟨fun b26_5 =>
  @BIfH b26_5
  ⟨@OptBH (unV .not (.bool true)) ⟨fun b56_17 =>
  @BIfH b56_17
  ⟨wpC P c56_15 Q [(0, v0), (3, v3), (56, (.bool b56_17))] M⟩
  ⟨Q .normal [(0, v0), (3, v3), (56, (.bool b56_17))] M⟩⟩⟩
  ⟨@OptBH (binV .geq .none v4 (.int .u8 65)) ⟨fun b30_19 =>
  @BIfH b30_19
  ⟨@OptBH (binV .leq .none v4 (.int .u8 90)) ⟨fun b33_22 =>
  @BIfH b33_22
  ⟨@OptBH (unV .not (.bool true)) ⟨fun b56_33 =>
  @BIfH b56_33
  ⟨wpC P c56_15 Q [(0, v0), (3, v3), (56, (.bool b56_33))] M⟩
  ⟨Q .normal [(0, v0), (3, v3), (56, (.bool b56_33))] M⟩⟩⟩
  ⟨@OptBH (binV .geq .none v4 (.int .u8 48)) ⟨fun b38_35 =>
  @BIfH b38_35
  ⟨@OptBH (binV .leq .none v4 (.int .u8 57)) ⟨fun b41_38 =>
  @BIfH b41_38
  ⟨@OptBH (unV .not (.bool true)) ⟨fun b56_47 =>
  @BIfH b56_47
  ⟨wpC P c56_15 Q [(0, v0), (3, v3), (56, (.bool b56_47))] M⟩
  ⟨Q .normal [(0, v0), (3, v3), (56, (.bool b56_47))] M⟩⟩⟩
  ⟨@OptBH (binV .eql .none v4 (.int .u8 45)) ⟨fun b46_49 =>
  @BIfH b46_49
  ⟨@OptBH (unV .not (.bool true)) ⟨fun b56_55 =>
  @BIfH b56_55
  ⟨wpC P c56_15 Q [(0, v0), (3, v3), (56, (.bool b56_55))] M⟩
  ⟨Q .normal [(0, v0), (3, v3), (56, (.bool b56_55))] M⟩⟩⟩
  ⟨@OptBH (binV .eql .none v4 (.int .u8 95)) ⟨fun b50_57 =>
  @BIfH b50_57
  ⟨@OptBH (unV .not (.bool true)) ⟨fun b56_61 =>
  @BIfH b56_61
  ⟨wpC P c56_15 Q [(0, v0), (3, v3), (56, (.bool b56_61))] M⟩
  ⟨Q .normal [(0, v0), (3, v3), (56, (.bool b56_61))] M⟩⟩⟩
  ⟨@OptBH (binV .eql .none v4 (.int .u8 46)) ⟨fun b54_63 =>
  @OptBH (unV .not (.bool b54_63)) ⟨fun b56_65 =>
  @BIfH b56_65
  ⟨wpC P c56_15 Q [(0, v0), (3, v3), (56, (.bool b56_65))] M⟩
  ⟨Q .normal [(0, v0), (3, v3), (56, (.bool b56_65))] M⟩⟩⟩⟩⟩⟩⟩⟩⟩⟩
  ⟨@OptBH (binV .eql .none v4 (.int .u8 45)) ⟨fun b46_70 =>
  @BIfH b46_70
  ⟨@OptBH (unV .not (.bool true)) ⟨fun b56_76 =>
  @BIfH b56_76
  ⟨wpC P c56_15 Q [(0, v0), (3, v3), (56, (.bool b56_76))] M⟩
  ⟨Q .normal [(0, v0), (3, v3), (56, (.bool b56_76))] M⟩⟩⟩
  ⟨@OptBH (binV .eql .none v4 (.int .u8 95)) ⟨fun b50_78 =>
  @BIfH b50_78
  ⟨@OptBH (unV .not (.bool true)) ⟨fun b56_82 =>
  @BIfH b56_82
  ⟨wpC P c56_15 Q [(0, v0), (3, v3), (56, (.bool b56_82))] M⟩
  ⟨Q .normal [(0, v0), (3, v3), (56, (.bool b56_82))] M⟩⟩⟩
  ⟨@OptBH (binV .eql .none v4 (.int .u8 46)) ⟨fun b54_84 =>
  @OptBH (unV .not (.bool b54_84)) ⟨fun b56_86 =>
  @BIfH b56_86
  ⟨wpC P c56_15 Q [(0, v0), (3, v3), (56, (.bool b56_86))] M⟩
  ⟨Q .normal [(0, v0), (3, v3), (56, (.bool b56_86))] M⟩⟩⟩⟩⟩⟩⟩⟩⟩⟩⟩⟩
  ⟨@OptBH (binV .geq .none v4 (.int .u8 48)) ⟨fun b38_91 =>
  @BIfH b38_91
  ⟨@OptBH (binV .leq .none v4 (.int .u8 57)) ⟨fun b41_94 =>
  @BIfH b41_94
  ⟨@OptBH (unV .not (.bool true)) ⟨fun b56_103 =>
  @BIfH b56_103
  ⟨wpC P c56_15 Q [(0, v0), (3, v3), (56, (.bool b56_103))] M⟩
  ⟨Q .normal [(0, v0), (3, v3), (56, (.bool b56_103))] M⟩⟩⟩
  ⟨@OptBH (binV .eql .none v4 (.int .u8 45)) ⟨fun b46_105 =>
  @BIfH b46_105
  ⟨@OptBH (unV .not (.bool true)) ⟨fun b56_111 =>
  @BIfH b56_111
  ⟨wpC P c56_15 Q [(0, v0), (3, v3), (56, (.bool b56_111))] M⟩
  ⟨Q .normal [(0, v0), (3, v3), (56, (.bool b56_111))] M⟩⟩⟩
  ⟨@OptBH (binV .eql .none v4 (.int .u8 95)) ⟨fun b50_113 =>
  @BIfH b50_113
  ⟨@OptBH (unV .not (.bool true)) ⟨fun b56_117 =>
  @BIfH b56_117
  ⟨wpC P c56_15 Q [(0, v0), (3, v3), (56, (.bool b56_117))] M⟩
  ⟨Q .normal [(0, v0), (3, v3), (56, (.bool b56_117))] M⟩⟩⟩
  ⟨@OptBH (binV .eql .none v4 (.int .u8 46)) ⟨fun b54_119 =>
  @OptBH (unV .not (.bool b54_119)) ⟨fun b56_121 =>
  @BIfH b56_121
  ⟨wpC P c56_15 Q [(0, v0), (3, v3), (56, (.bool b56_121))] M⟩
  ⟨Q .normal [(0, v0), (3, v3), (56, (.bool b56_121))] M⟩⟩⟩⟩⟩⟩⟩⟩⟩⟩
  ⟨@OptBH (binV .eql .none v4 (.int .u8 45)) ⟨fun b46_126 =>
  @BIfH b46_126
  ⟨@OptBH (unV .not (.bool true)) ⟨fun b56_132 =>
  @BIfH b56_132
  ⟨wpC P c56_15 Q [(0, v0), (3, v3), (56, (.bool b56_132))] M⟩
  ⟨Q .normal [(0, v0), (3, v3), (56, (.bool b56_132))] M⟩⟩⟩
  ⟨@OptBH (binV .eql .none v4 (.int .u8 95)) ⟨fun b50_134 =>
  @BIfH b50_134
  ⟨@OptBH (unV .not (.bool true)) ⟨fun b56_138 =>
  @BIfH b56_138
  ⟨wpC P c56_15 Q [(0, v0), (3, v3), (56, (.bool b56_138))] M⟩
  ⟨Q .normal [(0, v0), (3, v3), (56, (.bool b56_138))] M⟩⟩⟩
  ⟨@OptBH (binV .eql .none v4 (.int .u8 46)) ⟨fun b54_140 =>
  @OptBH (unV .not (.bool b54_140)) ⟨fun b56_142 =>
  @BIfH b56_142
  ⟨wpC P c56_15 Q [(0, v0), (3, v3), (56, (.bool b56_142))] M⟩
  ⟨Q .normal [(0, v0), (3, v3), (56, (.bool b56_142))] M⟩⟩⟩⟩⟩⟩⟩⟩⟩⟩⟩⟩⟩⟩
  ⟨@OptBH (binV .geq .none v4 (.int .u8 65)) ⟨fun b30_146 =>
  @BIfH b30_146
  ⟨@OptBH (binV .leq .none v4 (.int .u8 90)) ⟨fun b33_149 =>
  @BIfH b33_149
  ⟨@OptBH (unV .not (.bool true)) ⟨fun b56_160 =>
  @BIfH b56_160
  ⟨wpC P c56_15 Q [(0, v0), (3, v3), (56, (.bool b56_160))] M⟩
  ⟨Q .normal [(0, v0), (3, v3), (56, (.bool b56_160))] M⟩⟩⟩
  ⟨@OptBH (binV .geq .none v4 (.int .u8 48)) ⟨fun b38_162 =>
  @BIfH b38_162
  ⟨@OptBH (binV .leq .none v4 (.int .u8 57)) ⟨fun b41_165 =>
  @BIfH b41_165
  ⟨@OptBH (unV .not (.bool true)) ⟨fun b56_174 =>
  @BIfH b56_174
  ⟨wpC P c56_15 Q [(0, v0), (3, v3), (56, (.bool b56_174))] M⟩
  ⟨Q .normal [(0, v0), (3, v3), (56, (.bool b56_174))] M⟩⟩⟩
  ⟨@OptBH (binV .eql .none v4 (.int .u8 45)) ⟨fun b46_176 =>
  @BIfH b46_176
  ⟨@OptBH (unV .not (.bool true)) ⟨fun b56_182 =>
  @BIfH b56_182
  ⟨wpC P c56_15 Q [(0, v0), (3, v3), (56, (.bool b56_182))] M⟩
  ⟨Q .normal [(0, v0), (3, v3), (56, (.bool b56_182))] M⟩⟩⟩
  ⟨@OptBH (binV .eql .none v4 (.int .u8 95)) ⟨fun b50_184 =>
  @BIfH b50_184
  ⟨@OptBH (unV .not (.bool true)) ⟨fun b56_188 =>
  @BIfH b56_188
  ⟨wpC P c56_15 Q [(0, v0), (3, v3), (56, (.bool b56_188))] M⟩
  ⟨Q .normal [(0, v0), (3, v3), (56, (.bool b56_188))] M⟩⟩⟩
  ⟨@OptBH (binV .eql .none v4 (.int .u8 46)) ⟨fun b54_190 =>
  @OptBH (unV .not (.bool b54_190)) ⟨fun b56_192 =>
  @BIfH b56_192
  ⟨wpC P c56_15 Q [(0, v0), (3, v3), (56, (.bool b56_192))] M⟩
  ⟨Q .normal [(0, v0), (3, v3), (56, (.bool b56_192))] M⟩⟩⟩⟩⟩⟩⟩⟩⟩⟩
  ⟨@OptBH (binV .eql .none v4 (.int .u8 45)) ⟨fun b46_197 =>
  @BIfH b46_197
  ⟨@OptBH (unV .not (.bool true)) ⟨fun b56_203 =>
  @BIfH b56_203
  ⟨wpC P c56_15 Q [(0, v0), (3, v3), (56, (.bool b56_203))] M⟩
  ⟨Q .normal [(0, v0), (3, v3), (56, (.bool b56_203))] M⟩⟩⟩
  ⟨@OptBH (binV .eql .none v4 (.int .u8 95)) ⟨fun b50_205 =>
  @BIfH b50_205
  ⟨@OptBH (unV .not (.bool true)) ⟨fun b56_209 =>
  @BIfH b56_209
  ⟨wpC P c56_15 Q [(0, v0), (3, v3), (56, (.bool b56_209))] M⟩
  ⟨Q .normal [(0, v0), (3, v3), (56, (.bool b56_209))] M⟩⟩⟩
  ⟨@OptBH (binV .eql .none v4 (.int .u8 46)) ⟨fun b54_211 =>
  @OptBH (unV .not (.bool b54_211)) ⟨fun b56_213 =>
  @BIfH b56_213
  ⟨wpC P c56_15 Q [(0, v0), (3, v3), (56, (.bool b56_213))] M⟩
  ⟨Q .normal [(0, v0), (3, v3), (56, (.bool b56_213))] M⟩⟩⟩⟩⟩⟩⟩⟩⟩⟩⟩⟩
  ⟨@OptBH (binV .geq .none v4 (.int .u8 48)) ⟨fun b38_218 =>
  @BIfH b38_218
  ⟨@OptBH (binV .leq .none v4 (.int .u8 57)) ⟨fun b41_221 =>
  @BIfH b41_221
  ⟨@OptBH (unV .not (.bool true)) ⟨fun b56_230 =>
  @BIfH b56_230
  ⟨wpC P c56_15 Q [(0, v0), (3, v3), (56, (.bool b56_230))] M⟩
  ⟨Q .normal [(0, v0), (3, v3), (56, (.bool b56_230))] M⟩⟩⟩
  ⟨@OptBH (binV .eql .none v4 (.int .u8 45)) ⟨fun b46_232 =>
  @BIfH b46_232
  ⟨@OptBH (unV .not (.bool true)) ⟨fun b56_238 =>
  @BIfH b56_238
  ⟨wpC P c56_15 Q [(0, v0), (3, v3), (56, (.bool b56_238))] M⟩
  ⟨Q .normal [(0, v0), (3, v3), (56, (.bool b56_238))] M⟩⟩⟩
  ⟨@OptBH (binV .eql .none v4 (.int .u8 95)) ⟨fun b50_240 =>
  @BIfH b50_240
  ⟨@OptBH (unV .not (.bool true)) ⟨fun b56_244 =>
  @BIfH b56_244
  ⟨wpC P c56_15 Q [(0, v0), (3, v3), (56, (.bool b56_244))] M⟩
  ⟨Q .normal [(0, v0), (3, v3), (56, (.bool b56_244))] M⟩⟩⟩
  ⟨@OptBH (binV .eql .none v4 (.int .u8 46)) ⟨fun b54_246 =>
  @OptBH (unV .not (.bool b54_246)) ⟨fun b56_248 =>
  @BIfH b56_248
  ⟨wpC P c56_15 Q [(0, v0), (3, v3), (56, (.bool b56_248))] M⟩
  ⟨Q .normal [(0, v0), (3, v3), (56, (.bool b56_248))] M⟩⟩⟩⟩⟩⟩⟩⟩⟩⟩
  ⟨@OptBH (binV .eql .none v4 (.int .u8 45)) ⟨fun b46_253 =>
  @BIfH b46_253
  ⟨@OptBH (unV .not (.bool true)) ⟨fun b56_259 =>
  @BIfH b56_259
  ⟨wpC P c56_15 Q [(0, v0), (3, v3), (56, (.bool b56_259))] M⟩
  ⟨Q .normal [(0, v0), (3, v3), (56, (.bool b56_259))] M⟩⟩⟩
  ⟨@OptBH (binV .eql .none v4 (.int .u8 95)) ⟨fun b50_261 =>
  @BIfH b50_261
  ⟨@OptBH (unV .not (.bool true)) ⟨fun b56_265 =>
  @BIfH b56_265
  ⟨wpC P c56_15 Q [(0, v0), (3, v3), (56, (.bool b56_265))] M⟩
  ⟨Q .normal [(0, v0), (3, v3), (56, (.bool b56_265))] M⟩⟩⟩
  ⟨@OptBH (binV .eql .none v4 (.int .u8 46)) ⟨fun b54_267 =>
  @OptBH (unV .not (.bool b54_267)) ⟨fun b56_269 =>
  @BIfH b56_269
  ⟨wpC P c56_15 Q [(0, v0), (3, v3), (56, (.bool b56_269))] M⟩
  ⟨Q .normal [(0, v0), (3, v3), (56, (.bool b56_269))] M⟩⟩⟩⟩⟩⟩⟩⟩⟩⟩⟩⟩⟩
theorem e56_17 (P : Program) (Q : Exit → Slots → Mem → Prop) (s : Slots) (M : Mem) : wpC P c56_17 Q s M = w56_17 P Q M (sget s 0) (sget s 3) (sget s 4) := by kernel_rfl
def c56_18 : ACode := (.seq c56_12 c56_17)
def c56_19 : ACode := (.block 1 c56_18)
def o56_20 : List AOper := [⟨some 17, (.mov (.tmp 3)), false, none⟩,
  ⟨some 18, (.bin .add .none (.tmp 17) (.const (.int .i64 1))), false, none⟩,
  ⟨some 3, (.mov (.tmp 18)), false, none⟩]
def c56_21 : ACode := (.region o56_20 [0, 3])
def w56_21 (_P : Program) (Q : Exit → Slots → Mem → Prop) (M : Mem) (v0 : V) (v3 : V) : Prop :=
  @OptVH (binV .add .none v3 (.int .i64 1)) ⟨fun t18_2 =>
  Q .normal [(0, v0), (3, t18_2)] M⟩
theorem e56_21 (P : Program) (Q : Exit → Slots → Mem → Prop) (s : Slots) (M : Mem) : wpC P c56_21 Q s M = w56_21 P Q M (sget s 0) (sget s 3) := by kernel_rfl
def c56_22 : ACode := (.seq c56_19 c56_21)
def c56_23 : ACode := (.seq c56_10 c56_22)
def c56_24 : ACode := (.loop [0, 3] c56_23)
def c56_25 : ACode := (.block 0 c56_24)
def c56_26 : ACode := (.seq c56_8 c56_25)
def o56_27 : List AOper := [⟨some 2, (.mov (.const (.bool true))), true, none⟩]
def c56_28 : ACode := (.region o56_27 [2])
def w56_28 (_P : Program) (Q : Exit → Slots → Mem → Prop) (M : Mem) : Prop :=
  Q .normal [(2, (.bool true))] M
theorem e56_28 (P : Program) (Q : Exit → Slots → Mem → Prop) (s : Slots) (M : Mem) : wpC P c56_28 Q s M = w56_28 P Q M := by kernel_rfl
def c56_29 : ACode := (.seq c56_28 .ret)
def c56_30 : ACode := (.seq c56_26 c56_29)
def c56_31 : ACode := (.seq c56_6 c56_30)
def c56_32 : ACode := (.seq c56_1 c56_31)
def fn_transitref15_Name : AFn := ⟨57, [(.tmp 2)], c56_32⟩
theorem fn_transitref15_Name_ok : resFn PR h_transitref15_Name i_transitref15_Name = some fn_transitref15_Name := by kernel_rfl

def h_transitref16_Check : Hints := ⟨[(0, [0, 1, 2, 3]), (1, [0, 1, 2, 3, 19]), (2, [8, 9]), (3, [0, 1, 2, 3, 10]), (4, [0, 1, 2, 3, 10, 23]), (5, [0, 1, 2, 3, 10]), (6, [0, 1, 2, 3, 10, 11]), (7, [0, 1, 2, 3, 10, 11, 38]), (8, [8, 9]), (9, [0, 1, 2, 3, 10, 11, 52]), (10, [8, 9]), (11, [0, 1, 2, 3, 10, 85]), (12, [8, 9]), (13, [8, 9])], [(4, [0, 1, 2, 3, 10])], []⟩
def o57_0 : List AOper := [⟨some 8, (.mov (.const (.int .i64 0))), false, none⟩,
  ⟨some 9, (.mov (.const (.int .i64 0))), false, none⟩]
def c57_1 : ACode := (.region o57_0 [0, 1, 2, 3])
def w57_1 (_P : Program) (Q : Exit → Slots → Mem → Prop) (M : Mem) (v0 : V) (v1 : V) (v2 : V) (v3 : V) : Prop :=
  Q .normal [(0, v0), (1, v1), (2, v2), (3, v3)] M
theorem e57_1 (P : Program) (Q : Exit → Slots → Mem → Prop) (s : Slots) (M : Mem) : wpC P c57_1 Q s M = w57_1 P Q M (sget s 0) (sget s 1) (sget s 2) (sget s 3) := by kernel_rfl
def o57_2 : List AOper := [⟨some 8, (.mov (.const (.int .i64 0))), false, none⟩,
  ⟨some 9, (.mov (.const (.int .i64 5))), false, none⟩]
def c57_3 : ACode := (.region o57_2 [8, 9])
def w57_3 (_P : Program) (Q : Exit → Slots → Mem → Prop) (M : Mem) : Prop :=
  Q .normal [(8, (.int .i64 0)), (9, (.int .i64 5))] M
theorem e57_3 (P : Program) (Q : Exit → Slots → Mem → Prop) (s : Slots) (M : Mem) : wpC P c57_3 Q s M = w57_3 P Q M := by kernel_rfl
def c57_4 : ACode := (.seq c57_3 .ret)
def o57_5 : List AOper := [⟨some 12, (.mov (.tmp 0)), false, none⟩,
  ⟨some 13, (.lenSl (.tmp 12)), false, none⟩,
  ⟨some 14, (.bin .lss .none (.tmp 13) (.const (.int .i64 2))), true, none⟩,
  ⟨some 15, (.mov (.tmp 14)), true, none⟩,
  ⟨some 16, (.mov (.tmp 0)), false, some (15, false)⟩,
  ⟨some 17, (.lenSl (.tmp 16)), false, some (15, false)⟩,
  ⟨some 18, (.bin .gtr .none (.tmp 17) (.const (.int .i64 32))), true, some (15, false)⟩,
  ⟨some 19, (.pick (.tmp 15) (.const (.bool true)) (.tmp 18)), true, none⟩]
def c57_6 : ACode := (.seq (.region o57_5 [0, 1, 2, 3, 19]) (.cond (.tmp 19) c57_4 .skip))
def w57_6 (P : Program) (Q : Exit → Slots → Mem → Prop) (M : Mem) (v0 : V) (v1 : V) (v2 : V) (v3 : V) : Prop :=
  @OptVH (lenV v0 M) ⟨fun t13_2 =>
  @OptBH (binV .lss .none t13_2 (.int .i64 2)) ⟨fun b14_3 =>
  @BIfH b14_3
  ⟨wpC P c57_4 Q [(0, v0), (1, v1), (2, v2), (3, v3), (19, (.bool true))] M⟩
  ⟨@OptVH (lenV v0 M) ⟨fun t17_7 =>
  @OptBH (binV .gtr .none t17_7 (.int .i64 32)) ⟨fun b18_8 =>
  @BIfH b18_8
  ⟨wpC P c57_4 Q [(0, v0), (1, v1), (2, v2), (3, v3), (19, (.bool b18_8))] M⟩
  ⟨Q .normal [(0, v0), (1, v1), (2, v2), (3, v3), (19, (.bool b18_8))] M⟩⟩⟩⟩⟩⟩
theorem e57_6 (P : Program) (Q : Exit → Slots → Mem → Prop) (s : Slots) (M : Mem) : wpC P c57_6 Q s M = w57_6 P Q M (sget s 0) (sget s 1) (sget s 2) (sget s 3) := by kernel_rfl
def o57_7 : List AOper := [⟨some 10, (.mov (.const (.int .i64 0))), false, none⟩]
def c57_8 : ACode := (.region o57_7 [0, 1, 2, 3, 10])
def w57_8 (_P : Program) (Q : Exit → Slots → Mem → Prop) (M : Mem) (v0 : V) (v1 : V) (v2 : V) (v3 : V) : Prop :=
  Q .normal [(0, v0), (1, v1), (2, v2), (3, v3), (10, (.int .i64 0))] M
theorem e57_8 (P : Program) (Q : Exit → Slots → Mem → Prop) (s : Slots) (M : Mem) : wpC P c57_8 Q s M = w57_8 P Q M (sget s 0) (sget s 1) (sget s 2) (sget s 3) := by kernel_rfl
def o57_9 : List AOper := [⟨some 20, (.mov (.tmp 10)), false, none⟩,
  ⟨some 21, (.mov (.tmp 0)), false, none⟩,
  ⟨some 22, (.lenSl (.tmp 21)), false, none⟩,
  ⟨some 23, (.bin .lss .none (.tmp 20) (.tmp 22)), true, none⟩]
def c57_10 : ACode := (.seq (.region o57_9 [0, 1, 2, 3, 10, 23]) (.cond (.tmp 23) .skip (.exit 0)))
def w57_10 (_P : Program) (Q : Exit → Slots → Mem → Prop) (M : Mem) (v0 : V) (v1 : V) (v2 : V) (v3 : V) (v10 : V) : Prop :=
  @OptVH (lenV v0 M) ⟨fun t22_3 =>
  @OptBH (binV .lss .none v10 t22_3) ⟨fun b23_4 =>
  @BIfH b23_4
  ⟨Q .normal [(0, v0), (1, v1), (2, v2), (3, v3), (10, v10), (23, (.bool b23_4))] M⟩
  ⟨Q (.exit 0) [(0, v0), (1, v1), (2, v2), (3, v3), (10, v10), (23, (.bool b23_4))] M⟩⟩⟩
theorem e57_10 (P : Program) (Q : Exit → Slots → Mem → Prop) (s : Slots) (M : Mem) : wpC P c57_10 Q s M = w57_10 P Q M (sget s 0) (sget s 1) (sget s 2) (sget s 3) (sget s 10) := by kernel_rfl
def o57_11 : List AOper := [⟨some 26, (.mov (.tmp 0)), false, none⟩,
  ⟨some 27, (.mov (.tmp 10)), false, none⟩,
  ⟨some 28, (.indexSl 5 (.tmp 26) (.tmp 27)), false, none⟩,
  ⟨some 29, (.load 5 true (.tmp 28)), false, none⟩,
  ⟨some 11, (.alloc [(.int .i64 0), (.int .i64 0), (.int .i64 0), (.bool false), (.bool false)]), false, none⟩,
  ⟨none, (.store 5 (.tmp 11) (.tmp 29)), false, none⟩]
def c57_12 : ACode := (.region o57_11 [0, 1, 2, 3, 10, 11])
def w57_12 (_P : Program) (Q : Exit → Slots → Mem → Prop) (M : Mem) (v0 : V) (v1 : V) (v2 : V) (v3 : V) (v10 : V) : Prop :=
  @OptVH (indexSlV 5 v0 v10 M) ⟨fun t28_3 =>
  @OptVH (loadV 5 true t28_3 M) ⟨fun t29_4 =>
  @OptMH (allocV [(.int .i64 0), (.int .i64 0), (.int .i64 0), (.bool false), (.bool false)] M) ⟨fun t11_5 M5 =>
  @OptMH (storeVM 5 t11_5 t29_4 M5) ⟨fun _tx_6 M6 =>
  Q .normal [(0, v0), (1, v1), (2, v2), (3, v3), (10, v10), (11, t11_5)] M6⟩⟩⟩⟩
theorem e57_12 (P : Program) (Q : Exit → Slots → Mem → Prop) (s : Slots) (M : Mem) : wpC P c57_12 Q s M = w57_12 P Q M (sget s 0) (sget s 1) (sget s 2) (sget s 3) (sget s 10) := by kernel_rfl
def o57_13 : List AOper := [⟨some 39, (.mov (.tmp 10)), false, none⟩,
  ⟨some 8, (.mov (.tmp 39)), false, none⟩,
  ⟨some 9, (.mov (.const (.int .i64 9))), false, none⟩]
def c57_14 : ACode := (.region o57_13 [8, 9])
def w57_14 (_P : Program) (Q : Exit → Slots → Mem → Prop) (M : Mem) (v10 : V) : Prop :=
  Q .normal [(8, v10), (9, (.int .i64 9))] M
theorem e57_14 (P : Program) (Q : Exit → Slots → Mem → Prop) (s : Slots) (M : Mem) : wpC P c57_14 Q s M = w57_14 P Q M (sget s 10) := by kernel_rfl
def c57_15 : ACode := (.seq c57_14 .ret)
def o57_16 : List AOper := [⟨some 30, (.fieldAddr 0 (.tmp 11)), false, none⟩,
  ⟨some 31, (.load 1 false (.tmp 30)), false, none⟩,
  ⟨some 32, (.bin .lss .none (.tmp 31) (.const (.int .i64 0))), true, none⟩,
  ⟨some 33, (.mov (.tmp 32)), true, none⟩,
  ⟨some 34, (.fieldAddr 0 (.tmp 11)), false, some (33, false)⟩,
  ⟨some 35, (.load 1 false (.tmp 34)), false, some (33, false)⟩,
  ⟨some 36, (.mov (.tmp 1)), false, some (33, false)⟩,
  ⟨some 37, (.bin .geq .none (.tmp 35) (.tmp 36)), true, some (33, false)⟩,
  ⟨some 38, (.pick (.tmp 33) (.const (.bool true)) (.tmp 37)), true, none⟩]
def c57_17 : ACode := (.seq (.region o57_16 [0, 1, 2, 3, 10, 11, 38]) (.cond (.tmp 38) c57_15 .skip))
def w57_17 (P : Program) (Q : Exit → Slots → Mem → Prop) (M : Mem) (v0 : V) (v1 : V) (v2 : V) (v3 : V) (v10 : V) (v11 : V) : Prop :=
  @OptVH (moveV 0 v11) ⟨fun t30_1 =>
  @OptVH (loadV 1 false t30_1 M) ⟨fun t31_2 =>
  @OptBH (binV .lss .none t31_2 (.int .i64 0)) ⟨fun b32_3 =>
  @BIfH b32_3
  ⟨wpC P c57_15 Q [(0, v0), (1, v1), (2, v2), (3, v3), (10, v10), (11, v11), (38, (.bool true))] M⟩
  ⟨@OptVH (moveV 0 v11) ⟨fun t34_6 =>
  @OptVH (loadV 1 false t34_6 M) ⟨fun t35_7 =>
  @OptBH (binV .geq .none t35_7 v1) ⟨fun b37_9 =>
  @BIfH b37_9
  ⟨wpC P c57_15 Q [(0, v0), (1, v1), (2, v2), (3, v3), (10, v10), (11, v11), (38, (.bool b37_9))] M⟩
  ⟨Q .normal [(0, v0), (1, v1), (2, v2), (3, v3), (10, v10), (11, v11), (38, (.bool b37_9))] M⟩⟩⟩⟩⟩⟩⟩⟩
theorem e57_17 (P : Program) (Q : Exit → Slots → Mem → Prop) (s : Slots) (M : Mem) : wpC P c57_17 Q s M = w57_17 P Q M (sget s 0) (sget s 1) (sget s 2) (sget s 3) (sget s 10) (sget s 11) := by kernel_rfl
def o57_18 : List AOper := [⟨some 53, (.mov (.tmp 10)), false, none⟩,
  ⟨some 8, (.mov (.tmp 53)), false, none⟩,
  ⟨some 9, (.mov (.const (.int .i64 13))), false, none⟩]
def c57_19 : ACode := (.region o57_18 [8, 9])
def w57_19 (_P : Program) (Q : Exit → Slots → Mem → Prop) (M : Mem) (v10 : V) : Prop :=
  Q .normal [(8, v10), (9, (.int .i64 13))] M
theorem e57_19 (P : Program) (Q : Exit → Slots → Mem → Prop) (s : Slots) (M : Mem) : wpC P c57_19 Q s M = w57_19 P Q M (sget s 10) := by kernel_rfl
def c57_20 : ACode := (.seq c57_19 .ret)
def o57_21 : List AOper := [⟨some 40, (.mov (.tmp 10)), false, none⟩,
  ⟨some 41, (.bin .gtr .none (.tmp 40) (.const (.int .i64 0))), true, none⟩,
  ⟨some 42, (.mov (.tmp 41)), true, none⟩,
  ⟨some 43, (.mov (.tmp 0)), false, some (42, true)⟩,
  ⟨some 44, (.mov (.tmp 10)), false, some (42, true)⟩,
  ⟨some 45, (.bin .sub .none (.tmp 44) (.const (.int .i64 1))), false, some (42, true)⟩,
  ⟨some 46, (.indexSl 5 (.tmp 43) (.tmp 45)), false, some (42, true)⟩,
  ⟨some 47, (.fieldAddr 0 (.tmp 46)), false, some (42, true)⟩,
  ⟨some 48, (.load 1 false (.tmp 47)), false, some (42, true)⟩,
  ⟨some 49, (.fieldAddr 0 (.tmp 11)), false, some (42, true)⟩,
  ⟨some 50, (.load 1 false (.tmp 49)), false, some (42, true)⟩,
  ⟨some 51, (.bin .eql .none (.tmp 48) (.tmp 50)), true, some (42, true)⟩,
  ⟨some 52, (.pick (.tmp 42) (.tmp 51) (.const (.bool false))), true, none⟩]
def c57_22 : ACode := (.seq (.mixed o57_21 [true, true, true, true, true, true, true, true, true, true, true, true, true] [0, 1, 2, 3, 10, 11, 52]) (.cond (.tmp 52) c57_20 .skip))
def w57_22 (P : Program) (Q : Exit → Slots → Mem → Prop) (M : Mem) (v0 : V) (v1 : V) (v2 : V) (v3 : V) (v10 : V) (v11 : V) : Prop :=
  @OptBH (binV .gtr .none v10 (.int .i64 0)) ⟨fun b41_2 =>
  @BIfH b41_2
  ⟨@OptVH (binV .sub .none v10 (.int .i64 1)) ⟨fun t45_6 =>
  @OptVH (indexSlV 5 v0 t45_6 M) ⟨fun t46_7 =>
  @OptVH (moveV 0 t46_7) ⟨fun t47_8 =>
  @OptVH (loadV 1 false t47_8 M) ⟨fun t48_9 =>
  @OptVH (moveV 0 v11) ⟨fun t49_10 =>
  @OptVH (loadV 1 false t49_10 M) ⟨fun t50_11 =>
  @OptBH (binV .eql .none t48_9 t50_11) ⟨fun b51_12 =>
  @BIfH b51_12
  ⟨wpC P c57_20 Q [(0, v0), (1, v1), (2, v2), (3, v3), (10, v10), (11, v11), (52, (.bool b51_12))] M⟩
  ⟨Q .normal [(0, v0), (1, v1), (2, v2), (3, v3), (10, v10), (11, v11), (52, (.bool b51_12))] M⟩⟩⟩⟩⟩⟩⟩⟩⟩
  ⟨Q .normal [(0, v0), (1, v1), (2, v2), (3, v3), (10, v10), (11, v11), (52, (.bool false))] M⟩⟩
theorem e57_22 (P : Program) (Q : Exit → Slots → Mem → Prop) (s : Slots) (M : Mem) : wpC P c57_22 Q s M = w57_22 P Q M (sget s 0) (sget s 1) (sget s 2) (sget s 3) (sget s 10) (sget s 11) := by kernel_rfl
def o57_23 : List AOper := [⟨some 86, (.mov (.tmp 10)), false, none⟩,
  ⟨some 8, (.mov (.tmp 86)), false, none⟩,
  ⟨some 9, (.mov (.const (.int .i64 10))), false, none⟩]
def c57_24 : ACode := (.region o57_23 [8, 9])
def w57_24 (_P : Program) (Q : Exit → Slots → Mem → Prop) (M : Mem) (v10 : V) : Prop :=
  Q .normal [(8, v10), (9, (.int .i64 10))] M
theorem e57_24 (P : Program) (Q : Exit → Slots → Mem → Prop) (s : Slots) (M : Mem) : wpC P c57_24 Q s M = w57_24 P Q M (sget s 10) := by kernel_rfl
def c57_25 : ACode := (.seq c57_24 .ret)
def o57_26 : List AOper := [⟨some 54, (.fieldAddr 1 (.tmp 11)), false, none⟩,
  ⟨some 55, (.load 1 false (.tmp 54)), false, none⟩,
  ⟨some 56, (.mov (.tmp 2)), false, none⟩,
  ⟨some 57, (.bin .lss .none (.tmp 55) (.tmp 56)), true, none⟩,
  ⟨some 58, (.mov (.tmp 57)), true, none⟩,
  ⟨some 59, (.fieldAddr 1 (.tmp 11)), false, some (58, false)⟩,
  ⟨some 60, (.load 1 false (.tmp 59)), false, some (58, false)⟩,
  ⟨some 61, (.fieldAddr 2 (.tmp 11)), false, some (58, false)⟩,
  ⟨some 62, (.load 1 false (.tmp 61)), false, some (58, false)⟩,
  ⟨some 63, (.bin .gtr .none (.tmp 60) (.tmp 62)), true, some (58, false)⟩,
  ⟨some 64, (.pick (.tmp 58) (.const (.bool true)) (.tmp 63)), true, none⟩,
  ⟨some 65, (.mov (.tmp 64)), true, none⟩,
  ⟨some 66, (.fieldAddr 2 (.tmp 11)), false, some (65, false)⟩,
  ⟨some 67, (.load 1 false (.tmp 66)), false, some (65, false)⟩,
  ⟨some 68, (.mov (.tmp 3)), false, some (65, false)⟩,
  ⟨some 69, (.bin .gtr .none (.tmp 67) (.tmp 68)), true, some (65, false)⟩,
  ⟨some 70, (.pick (.tmp 65) (.const (.bool true)) (.tmp 69)), true, none⟩,
  ⟨some 71, (.mov (.tmp 70)), true, none⟩,
  ⟨some 72, (.mov (.tmp 10)), false, some (71, false)⟩,
  ⟨some 73, (.bin .gtr .none (.tmp 72) (.const (.int .i64 0))), true, some (71, false)⟩,
  ⟨some 74, (.mov (.tmp 73)), true, some (71, false)⟩,
  ⟨some 75, (.fieldAddr 1 (.tmp 11)), false, some (74, true)⟩,
  ⟨some 76, (.load 1 false (.tmp 75)), false, some (74, true)⟩,
  ⟨some 77, (.mov (.tmp 0)), false, some (74, true)⟩,
  ⟨some 78, (.mov (.tmp 10)), false, some (74, true)⟩,
  ⟨some 79, (.bin .sub .none (.tmp 78) (.const (.int .i64 1))), false, some (74, true)⟩,
  ⟨some 80, (.indexSl 5 (.tmp 77) (.tmp 79)), false, some (74, true)⟩,
  ⟨some 81, (.fieldAddr 2 (.tmp 80)), false, some (74, true)⟩,
  ⟨some 82, (.load 1 false (.tmp 81)), false, some (74, true)⟩,
  ⟨some 83, (.bin .lss .none (.tmp 76) (.tmp 82)), true, some (74, true)⟩,
  ⟨some 84, (.pick (.tmp 74) (.tmp 83) (.const (.bool false))), true, some (71, false)⟩,
  ⟨some 85, (.pick (.tmp 71) (.const (.bool true)) (.tmp 84)), true, none⟩]
def c57_27 : ACode := (.seq (.mixed o57_26 [true, true, true, true, true, true, true, true, true, true, true, true, true, true, true, true, true, true, true, true, true, true, true, true, true, true, true, true, true, true, true, true] [0, 1, 2, 3, 10, 85]) (.cond (.tmp 85) c57_25 .skip))
def w57_27 (P : Program) (Q : Exit → Slots → Mem → Prop) (M : Mem) (v0 : V) (v1 : V) (v2 : V) (v3 : V) (v10 : V) (v11 : V) : Prop :=
  @OptVH (moveV 1 v11) ⟨fun t54_1 =>
  @OptVH (loadV 1 false t54_1 M) ⟨fun t55_2 =>
  @OptBH (binV .lss .none t55_2 v2) ⟨fun b57_4 =>
  @BIfH b57_4
  ⟨wpC P c57_25 Q [(0, v0), (1, v1), (2, v2), (3, v3), (10, v10), (85, (.bool true))] M⟩
  ⟨@OptVH (moveV 1 v11) ⟨fun t59_11 =>
  @OptVH (loadV 1 false t59_11 M) ⟨fun t60_12 =>
  @OptVH (moveV 2 v11) ⟨fun t61_13 =>
  @OptVH (loadV 1 false t61_13 M) ⟨fun t62_14 =>
  @OptBH (binV .gtr .none t60_12 t62_14) ⟨fun b63_15 =>
  @BIfH b63_15
  ⟨wpC P c57_25 Q [(0, v0), (1, v1), (2, v2), (3, v3), (10, v10), (85, (.bool true))] M⟩
  ⟨@OptVH (moveV 2 v11) ⟨fun t66_21 =>
  @OptVH (loadV 1 false t66_21 M) ⟨fun t67_22 =>
  @OptBH (binV .gtr .none t67_22 v3) ⟨fun b69_24 =>
  @BIfH b69_24
  ⟨wpC P c57_25 Q [(0, v0), (1, v1), (2, v2), (3, v3), (10, v10), (85, (.bool true))] M⟩
  ⟨@OptBH (binV .gtr .none v10 (.int .i64 0)) ⟨fun b73_29 =>
  @BIfH b73_29
  ⟨@OptVH (moveV 1 v11) ⟨fun t75_31 =>
  @OptVH (loadV 1 false t75_31 M) ⟨fun t76_32 =>
  @OptVH (binV .sub .none v10 (.int .i64 1)) ⟨fun t79_35 =>
  @OptVH (indexSlV 5 v0 t79_35 M) ⟨fun t80_36 =>
  @OptVH (moveV 2 t80_36) ⟨fun t81_37 =>
  @OptVH (loadV 1 false t81_37 M) ⟨fun t82_38 =>
  @OptBH (binV .lss .none t76_32 t82_38) ⟨fun b83_39 =>
  @BIfH b83_39
  ⟨wpC P c57_25 Q [(0, v0), (1, v1), (2, v2), (3, v3), (10, v10), (85, (.bool b83_39))] M⟩
  ⟨Q .normal [(0, v0), (1, v1), (2, v2), (3, v3), (10, v10), (85, (.bool b83_39))] M⟩⟩⟩⟩⟩⟩⟩⟩⟩
  ⟨Q .normal [(0, v0), (1, v1), (2, v2), (3, v3), (10, v10), (85, (.bool false))] M⟩⟩⟩⟩⟩⟩⟩⟩⟩⟩⟩⟩⟩⟩⟩⟩
theorem e57_27 (P : Program) (Q : Exit → Slots → Mem → Prop) (s : Slots) (M : Mem) : wpC P c57_27 Q s M = w57_27 P Q M (sget s 0) (sget s 1) (sget s 2) (sget s 3) (sget s 10) (sget s 11) := by kernel_rfl
def c57_28 : ACode := (.seq c57_22 c57_27)
def c57_29 : ACode := (.seq c57_17 c57_28)
def c57_30 : ACode := (.seq c57_12 c57_29)
def c57_31 : ACode := (.block 1 c57_30)
def o57_32 : List AOper := [⟨some 24, (.mov (.tmp 10)), false, none⟩,
  ⟨some 25, (.bin .add .none (.tmp 24) (.const (.int .i64 1))), false, none⟩,
  ⟨some 10, (.mov (.tmp 25)), false, none⟩]
def c57_33 : ACode := (.region o57_32 [0, 1, 2, 3, 10])
def w57_33 (_P : Program) (Q : Exit → Slots → Mem → Prop) (M : Mem) (v0 : V) (v1 : V) (v2 : V) (v3 : V) (v10 : V) : Prop :=
  @OptVH (binV .add .none v10 (.int .i64 1)) ⟨fun t25_2 =>
  Q .normal [(0, v0), (1, v1), (2, v2), (3, v3), (10, t25_2)] M⟩
theorem e57_33 (P : Program) (Q : Exit → Slots → Mem → Prop) (s : Slots) (M : Mem) : wpC P c57_33 Q s M = w57_33 P Q M (sget s 0) (sget s 1) (sget s 2) (sget s 3) (sget s 10) := by kernel_rfl
def c57_34 : ACode := (.seq c57_31 c57_33)
def c57_35 : ACode := (.seq c57_10 c57_34)
def c57_36 : ACode := (.loop [0, 1, 2, 3, 10] c57_35)
def c57_37 : ACode := (.block 0 c57_36)
def c57_38 : ACode := (.seq c57_8 c57_37)
def o57_39 : List AOper := [⟨some 8, (.mov (.const (.int .i64 0))), false, none⟩,
  ⟨some 9, (.mov (.const (.int .i64 0))), false, none⟩]
def c57_40 : ACode := (.region o57_39 [8, 9])
def w57_40 (_P : Program) (Q : Exit → Slots → Mem → Prop) (M : Mem) : Prop :=
  Q .normal [(8, (.int .i64 0)), (9, (.int .i64 0))] M
theorem e57_40 (P : Program) (Q : Exit → Slots → Mem → Prop) (s : Slots) (M : Mem) : wpC P c57_40 Q s M = w57_40 P Q M := by kernel_rfl
def c57_41 : ACode := (.seq c57_40 .ret)
def c57_42 : ACode := (.seq c57_38 c57_41)
def c57_43 : ACode := (.seq c57_6 c57_42)
def c57_44 : ACode := (.seq c57_1 c57_43)
def fn_transitref16_Check : AFn := ⟨87, [(.tmp 8), (.tmp 9)], c57_44⟩
theorem fn_transitref16_Check_ok : resFn PR h_transitref16_Check i_transitref16_Check = some fn_transitref16_Check := by kernel_rfl

def h_transitref32_active : Hints := ⟨[(0, [1, 2, 3]), (1, [2, 3, 7]), (2, [2, 3, 7, 8]), (3, [2, 3, 7, 8, 19]), (4, [2, 3, 7, 8]), (5, [2, 3, 7, 8, 9]), (6, [2, 3, 7, 8, 42]), (7, [6]), (8, [6])], [(3, [2, 3, 7, 8])], []⟩
def o58_0 : List AOper := [⟨some 3, (.box 3 (.tmp 0)), false, none⟩,
  ⟨some 6, (.mov (.const (.bool false))), true, none⟩]
def c58_1 : ACode := (.region o58_0 [1, 2, 3])
def w58_1 (_P : Program) (Q : Exit → Slots → Mem → Prop) (M : Mem) (v0 : V) (v1 : V) (v2 : V) : Prop :=
  @OptMH (boxV 3 v0 M) ⟨fun t3_1 M1 =>
  Q .normal [(1, v1), (2, v2), (3, t3_1)] M1⟩
theorem e58_1 (P : Program) (Q : Exit → Slots → Mem → Prop) (s : Slots) (M : Mem) : wpC P c58_1 Q s M = w58_1 P Q M (sget s 0) (sget s 1) (sget s 2) := by kernel_rfl
def o58_2 : List AOper := [⟨some 10, (.fieldAddr 2 (.tmp 3)), false, none⟩,
  ⟨some 11, (.load 1 false (.tmp 10)), false, none⟩,
  ⟨some 12, (.mov (.tmp 1)), false, none⟩,
  ⟨some 13, (.indexSl 13 (.tmp 11) (.tmp 12)), false, none⟩,
  ⟨some 14, (.load 13 true (.tmp 13)), false, none⟩,
  ⟨some 7, (.alloc [(.int .i64 0), (.int .i64 0), (.int .i64 0), (.int .i64 0), (.int .i64 0), (.str []), (.int .i64 0), (.int .i64 0), (.int .i64 0), (.int .i64 0), (.int .i64 0), (.bool false), (.slice [] .nil)]), false, none⟩,
  ⟨none, (.store 13 (.tmp 7) (.tmp 14)), false, none⟩]
def c58_3 : ACode := (.region o58_2 [2, 3, 7])
def w58_3 (_P : Program) (Q : Exit → Slots → Mem → Prop) (M : Mem) (v1 : V) (v2 : V) (v3 : V) : Prop :=
  @OptVH (moveV 2 v3) ⟨fun t10_1 =>
  @OptVH (loadV 1 false t10_1 M) ⟨fun t11_2 =>
  @OptVH (indexSlV 13 t11_2 v1 M) ⟨fun t13_4 =>
  @OptVH (loadV 13 true t13_4 M) ⟨fun t14_5 =>
  @OptMH (allocV [(.int .i64 0), (.int .i64 0), (.int .i64 0), (.int .i64 0), (.int .i64 0), (.str []), (.int .i64 0), (.int .i64 0), (.int .i64 0), (.int .i64 0), (.int .i64 0), (.bool false), (.slice [] .nil)] M) ⟨fun t7_6 M6 =>
  @OptMH (storeVM 13 t7_6 t14_5 M6) ⟨fun _tx_7 M7 =>
  Q .normal [(2, v2), (3, v3), (7, t7_6)] M7⟩⟩⟩⟩⟩⟩
theorem e58_3 (P : Program) (Q : Exit → Slots → Mem → Prop) (s : Slots) (M : Mem) : wpC P c58_3 Q s M = w58_3 P Q M (sget s 1) (sget s 2) (sget s 3) := by kernel_rfl
def o58_4 : List AOper := [⟨some 8, (.mov (.const (.int .i64 0))), false, none⟩]
def c58_5 : ACode := (.region o58_4 [2, 3, 7, 8])
def w58_5 (_P : Program) (Q : Exit → Slots → Mem → Prop) (M : Mem) (v2 : V) (v3 : V) (v7 : V) : Prop :=
  Q .normal [(2, v2), (3, v3), (7, v7), (8, (.int .i64 0))] M
theorem e58_5 (P : Program) (Q : Exit → Slots → Mem → Prop) (s : Slots) (M : Mem) : wpC P c58_5 Q s M = w58_5 P Q M (sget s 2) (sget s 3) (sget s 7) := by kernel_rfl
def o58_6 : List AOper := [⟨some 15, (.mov (.tmp 8)), false, none⟩,
  ⟨some 16, (.fieldAddr 2 (.tmp 3)), false, none⟩,
  ⟨some 17, (.load 1 false (.tmp 16)), false, none⟩,
  ⟨some 18, (.lenSl (.tmp 17)), false, none⟩,
  ⟨some 19, (.bin .lss .none (.tmp 15) (.tmp 18)), true, none⟩]
def c58_7 : ACode := (.seq (.region o58_6 [2, 3, 7, 8, 19]) (.cond (.tmp 19) .skip (.exit 0)))
def w58_7 (_P : Program) (Q : Exit → Slots → Mem → Prop) (M : Mem) (v2 : V) (v3 : V) (v7 : V) (v8 : V) : Prop :=
  @OptVH (moveV 2 v3) ⟨fun t16_2 =>
  @OptVH (loadV 1 false t16_2 M) ⟨fun t17_3 =>
  @OptVH (lenV t17_3 M) ⟨fun t18_4 =>
  @OptBH (binV .lss .none v8 t18_4) ⟨fun b19_5 =>
  @BIfH b19_5
  ⟨Q .normal [(2, v2), (3, v3), (7, v7), (8, v8), (19, (.bool b19_5))] M⟩
  ⟨Q (.exit 0) [(2, v2), (3, v3), (7, v7), (8, v8), (19, (.bool b19_5))] M⟩⟩⟩⟩⟩
theorem e58_7 (P : Program) (Q : Exit → Slots → Mem → Prop) (s : Slots) (M : Mem) : wpC P c58_7 Q s M = w58_7 P Q M (sget s 2) (sget s 3) (sget s 7) (sget s 8) := by kernel_rfl
def o58_8 : List AOper := [⟨some 22, (.fieldAddr 2 (.tmp 3)), false, none⟩,
  ⟨some 23, (.load 1 false (.tmp 22)), false, none⟩,
  ⟨some 24, (.mov (.tmp 8)), false, none⟩,
  ⟨some 25, (.indexSl 13 (.tmp 23) (.tmp 24)), false, none⟩,
  ⟨some 26, (.load 13 true (.tmp 25)), false, none⟩,
  ⟨some 9, (.alloc [(.int .i64 0), (.int .i64 0), (.int .i64 0), (.int .i64 0), (.int .i64 0), (.str []), (.int .i64 0), (.int .i64 0), (.int .i64 0), (.int .i64 0), (.int .i64 0), (.bool false), (.slice [] .nil)]), false, none⟩,
  ⟨none, (.store 13 (.tmp 9) (.tmp 26)), false, none⟩]
def c58_9 : ACode := (.region o58_8 [2, 3, 7, 8, 9])
def w58_9 (_P : Program) (Q : Exit → Slots → Mem → Prop) (M : Mem) (v2 : V) (v3 : V) (v7 : V) (v8 : V) : Prop :=
  @OptVH (moveV 2 v3) ⟨fun t22_1 =>
  @OptVH (loadV 1 false t22_1 M) ⟨fun t23_2 =>
  @OptVH (indexSlV 13 t23_2 v8 M) ⟨fun t25_4 =>
  @OptVH (loadV 13 true t25_4 M) ⟨fun t26_5 =>
  @OptMH (allocV [(.int .i64 0), (.int .i64 0), (.int .i64 0), (.int .i64 0), (.int .i64 0), (.str []), (.int .i64 0), (.int .i64 0), (.int .i64 0), (.int .i64 0), (.int .i64 0), (.bool false), (.slice [] .nil)] M) ⟨fun t9_6 M6 =>
  @OptMH (storeVM 13 t9_6 t26_5 M6) ⟨fun _tx_7 M7 =>
  Q .normal [(2, v2), (3, v3), (7, v7), (8, v8), (9, t9_6)] M7⟩⟩⟩⟩⟩⟩
theorem e58_9 (P : Program) (Q : Exit → Slots → Mem → Prop) (s : Slots) (M : Mem) : wpC P c58_9 Q s M = w58_9 P Q M (sget s 2) (sget s 3) (sget s 7) (sget s 8) := by kernel_rfl
def o58_10 : List AOper := [⟨some 6, (.mov (.const (.bool false))), true, none⟩]
def c58_11 : ACode := (.region o58_10 [6])
def w58_11 (_P : Program) (Q : Exit → Slots → Mem → Prop) (M : Mem) : Prop :=
  Q .normal [(6, (.bool false))] M
theorem e58_11 (P : Program) (Q : Exit → Slots → Mem → Prop) (s : Slots) (M : Mem) : wpC P c58_11 Q s M = w58_11 P Q M := by kernel_rfl
def c58_12 : ACode := (.seq c58_11 .ret)
def o58_13 : List AOper := [⟨some 27, (.fieldAddr 0 (.tmp 9)), false, none⟩,
  ⟨some 28, (.load 1 false (.tmp 27)), false, none⟩,
  ⟨some 29, (.fieldAddr 0 (.tmp 7)), false, none⟩,
  ⟨some 30, (.load 1 false (.tmp 29)), false, none⟩,
  ⟨some 31, (.bin .lss .none (.tmp 28) (.tmp 30)), true, none⟩,
  ⟨some 32, (.mov (.tmp 31)), true, none⟩,
  ⟨some 33, (.load 13 true (.tmp 9)), false, some (32, true)⟩,
  ⟨some 34, (.load 13 true (.tmp 7)), false, some (32, true)⟩,
  ⟨some 35, (.call i_transitref31_SameTarget [(.tmp 33), (.tmp 34)]), true, some (32, true)⟩,
  ⟨some 36, (.pick (.tmp 32) (.tmp 35) (.const (.bool false))), true, none⟩,
  ⟨some 37, (.mov (.tmp 36)), true, none⟩,
  ⟨some 38, (.load 3 true (.tmp 3)), false, some (37, true)⟩,
  ⟨some 39, (.load 13 true (.tmp 9)), false, some (37, true)⟩,
  ⟨some 40, (.mov (.tmp 2)), false, some (37, true)⟩,
  ⟨some 41, (.call i_transitref32_Current [(.tmp 38), (.tmp 39), (.tmp 40)]), true, some (37, true)⟩,
  ⟨some 42, (.pick (.tmp 37) (.tmp 41) (.const (.bool false))), true, none⟩]
def c58_14 : ACode := (.seq (.region o58_13 [2, 3, 7, 8, 42]) (.cond (.tmp 42) c58_12 .skip))
def w58_14 (P : Program) (Q : Exit → Slots → Mem → Prop) (M : Mem) (v2 : V) (v3 : V) (v7 : V) (v8 : V) (v9 : V) : Prop :=
  @OptVH (moveV 0 v9) ⟨fun t27_1 =>
  @OptVH (loadV 1 false t27_1 M) ⟨fun t28_2 =>
  @OptVH (moveV 0 v7) ⟨fun t29_3 =>
  @OptVH (loadV 1 false t29_3 M) ⟨fun t30_4 =>
  @OptBH (binV .lss .none t28_2 t30_4) ⟨fun b31_5 =>
  @BIfH b31_5
  ⟨@OptVH (loadV 13 true v9 M) ⟨fun t33_7 =>
  @OptVH (loadV 13 true v7 M) ⟨fun t34_8 =>
  @CallH P i_transitref31_SameTarget [t33_7, t34_8] M ⟨fun t35_9 M9 => @OptBH (some t35_9) ⟨fun b35_9 =>
  @BIfH b35_9
  ⟨@OptVH (loadV 3 true v3 M9) ⟨fun t38_12 =>
  @OptVH (loadV 13 true v9 M9) ⟨fun t39_13 =>
  @CallH P i_transitref32_Current [t38_12, t39_13, v2] M9 ⟨fun t41_15 M15 => @OptBH (some t41_15) ⟨fun b41_15 =>
  @BIfH b41_15
  ⟨wpC P c58_12 Q [(2, v2), (3, v3), (7, v7), (8, v8), (42, (.bool b41_15))] M15⟩
  ⟨Q .normal [(2, v2), (3, v3), (7, v7), (8, v8), (42, (.bool b41_15))] M15⟩⟩⟩⟩⟩⟩
  ⟨Q .normal [(2, v2), (3, v3), (7, v7), (8, v8), (42, (.bool false))] M9⟩⟩⟩⟩⟩⟩
  ⟨Q .normal [(2, v2), (3, v3), (7, v7), (8, v8), (42, (.bool false))] M⟩⟩⟩⟩⟩⟩
theorem e58_14 (P : Program) (Q : Exit → Slots → Mem → Prop) (s : Slots) (M : Mem) : wpC P c58_14 Q s M = w58_14 P Q M (sget s 2) (sget s 3) (sget s 7) (sget s 8) (sget s 9) := by kernel_rfl
def c58_15 : ACode := (.seq c58_9 c58_14)
def c58_16 : ACode := (.block 1 c58_15)
def o58_17 : List AOper := [⟨some 20, (.mov (.tmp 8)), false, none⟩,
  ⟨some 21, (.bin .add .none (.tmp 20) (.const (.int .i64 1))), false, none⟩,
  ⟨some 8, (.mov (.tmp 21)), false, none⟩]
def c58_18 : ACode := (.region o58_17 [2, 3, 7, 8])
def w58_18 (_P : Program) (Q : Exit → Slots → Mem → Prop) (M : Mem) (v2 : V) (v3 : V) (v7 : V) (v8 : V) : Prop :=
  @OptVH (binV .add .none v8 (.int .i64 1)) ⟨fun t21_2 =>
  Q .normal [(2, v2), (3, v3), (7, v7), (8, t21_2)] M⟩
theorem e58_18 (P : Program) (Q : Exit → Slots → Mem → Prop) (s : Slots) (M : Mem) : wpC P c58_18 Q s M = w58_18 P Q M (sget s 2) (sget s 3) (sget s 7) (sget s 8) := by kernel_rfl
def c58_19 : ACode := (.seq c58_16 c58_18)
def c58_20 : ACode := (.seq c58_7 c58_19)
def c58_21 : ACode := (.loop [2, 3, 7, 8] c58_20)
def c58_22 : ACode := (.block 0 c58_21)
def c58_23 : ACode := (.seq c58_5 c58_22)
def o58_24 : List AOper := [⟨some 43, (.load 3 true (.tmp 3)), false, none⟩,
  ⟨some 44, (.load 13 true (.tmp 7)), false, none⟩,
  ⟨some 45, (.mov (.tmp 2)), false, none⟩,
  ⟨some 46, (.call i_transitref32_Current [(.tmp 43), (.tmp 44), (.tmp 45)]), true, none⟩,
  ⟨some 6, (.mov (.tmp 46)), true, none⟩]
def c58_25 : ACode := (.region o58_24 [6])
def w58_25 (P : Program) (Q : Exit → Slots → Mem → Prop) (M : Mem) (v2 : V) (v3 : V) (v7 : V) : Prop :=
  @OptVH (loadV 3 true v3 M) ⟨fun t43_1 =>
  @OptVH (loadV 13 true v7 M) ⟨fun t44_2 =>
  @CallH P i_transitref32_Current [t43_1, t44_2, v2] M ⟨fun t46_4 M4 => @OptBH (some t46_4) ⟨fun b46_4 =>
  Q .normal [(6, (.bool b46_4))] M4⟩⟩⟩⟩
theorem e58_25 (P : Program) (Q : Exit → Slots → Mem → Prop) (s : Slots) (M : Mem) : wpC P c58_25 Q s M = w58_25 P Q M (sget s 2) (sget s 3) (sget s 7) := by kernel_rfl
def c58_26 : ACode := (.seq c58_25 .ret)
def c58_27 : ACode := (.seq c58_23 c58_26)
def c58_28 : ACode := (.seq c58_3 c58_27)
def c58_29 : ACode := (.seq c58_1 c58_28)
def fn_transitref32_active : AFn := ⟨47, [(.tmp 6)], c58_29⟩
theorem fn_transitref32_active_ok : resFn PR h_transitref32_active i_transitref32_active = some fn_transitref32_active := by kernel_rfl

def h_transitref32_before : Hints := ⟨[(0, [2, 3]), (1, [2, 3, 9]), (2, [4]), (3, [2, 3, 19]), (4, [4]), (5, [2, 3, 29]), (6, [4]), (7, [4])], [], []⟩
def o59_0 : List AOper := [⟨some 2, (.box 13 (.tmp 0)), false, none⟩,
  ⟨some 3, (.box 13 (.tmp 1)), false, none⟩,
  ⟨some 4, (.mov (.const (.bool false))), true, none⟩]
def c59_1 : ACode := (.region o59_0 [2, 3])
def w59_1 (_P : Program) (Q : Exit → Slots → Mem → Prop) (M : Mem) (v0 : V) (v1 : V) : Prop :=
  @OptMH (boxV 13 v0 M) ⟨fun t2_1 M1 =>
  @OptMH (boxV 13 v1 M1) ⟨fun t3_2 M2 =>
  Q .normal [(2, t2_1), (3, t3_2)] M2⟩⟩
theorem e59_1 (P : Program) (Q : Exit → Slots → Mem → Prop) (s : Slots) (M : Mem) : wpC P c59_1 Q s M = w59_1 P Q M (sget s 0) (sget s 1) := by kernel_rfl
def o59_2 : List AOper := [⟨some 10, (.fieldAddr 5 (.tmp 2)), false, none⟩,
  ⟨some 11, (.load 1 false (.tmp 10)), false, none⟩,
  ⟨some 12, (.fieldAddr 5 (.tmp 3)), false, none⟩,
  ⟨some 13, (.load 1 false (.tmp 12)), false, none⟩,
  ⟨some 14, (.bin .lss .none (.tmp 11) (.tmp 13)), true, none⟩,
  ⟨some 4, (.mov (.tmp 14)), true, none⟩]
def c59_3 : ACode := (.region o59_2 [4])
def w59_3 (_P : Program) (Q : Exit → Slots → Mem → Prop) (M : Mem) (v2 : V) (v3 : V) : Prop :=
  @OptVH (moveV 5 v2) ⟨fun t10_1 =>
  @OptVH (loadV 1 false t10_1 M) ⟨fun t11_2 =>
  @OptVH (moveV 5 v3) ⟨fun t12_3 =>
  @OptVH (loadV 1 false t12_3 M) ⟨fun t13_4 =>
  @OptBH (binV .lss .none t11_2 t13_4) ⟨fun b14_5 =>
  Q .normal [(4, (.bool b14_5))] M⟩⟩⟩⟩⟩
theorem e59_3 (P : Program) (Q : Exit → Slots → Mem → Prop) (s : Slots) (M : Mem) : wpC P c59_3 Q s M = w59_3 P Q M (sget s 2) (sget s 3) := by kernel_rfl
def c59_4 : ACode := (.seq c59_3 .ret)
def o59_5 : List AOper := [⟨some 5, (.fieldAddr 5 (.tmp 2)), false, none⟩,
  ⟨some 6, (.load 1 false (.tmp 5)), false, none⟩,
  ⟨some 7, (.fieldAddr 5 (.tmp 3)), false, none⟩,
  ⟨some 8, (.load 1 false (.tmp 7)), false, none⟩,
  ⟨some 9, (.bin .neq .none (.tmp 6) (.tmp 8)), true, none⟩]
def c59_6 : ACode := (.seq (.region o59_5 [2, 3, 9]) (.cond (.tmp 9) c59_4 .skip))
def w59_6 (P : Program) (Q : Exit → Slots → Mem → Prop) (M : Mem) (v2 : V) (v3 : V) : Prop :=
  @OptVH (moveV 5 v2) ⟨fun t5_1 =>
  @OptVH (loadV 1 false t5_1 M) ⟨fun t6_2 =>
  @OptVH (moveV 5 v3) ⟨fun t7_3 =>
  @OptVH (loadV 1 false t7_3 M) ⟨fun t8_4 =>
  @OptBH (binV .neq .none t6_2 t8_4) ⟨fun b9_5 =>
  @BIfH b9_5
  ⟨wpC P c59_4 Q [(2, v2), (3, v3), (9, (.bool b9_5))] M⟩
  ⟨Q .normal [(2, v2), (3, v3), (9, (.bool b9_5))] M⟩⟩⟩⟩⟩⟩
theorem e59_6 (P : Program) (Q : Exit → Slots → Mem → Prop) (s : Slots) (M : Mem) : wpC P c59_6 Q s M = w59_6 P Q M (sget s 2) (sget s 3) := by kernel_rfl
def o59_7 : List AOper := [⟨some 20, (.fieldAddr 6 (.tmp 2)), false, none⟩,
  ⟨some 21, (.load 1 false (.tmp 20)), false, none⟩,
  ⟨some 22, (.fieldAddr 6 (.tmp 3)), false, none⟩,
  ⟨some 23, (.load 1 false (.tmp 22)), false, none⟩,
  ⟨some 24, (.bin .lss .none (.tmp 21) (.tmp 23)), true, none⟩,
  ⟨some 4, (.mov (.tmp 24)), true, none⟩]
def c59_8 : ACode := (.region o59_7 [4])
def w59_8 (_P : Program) (Q : Exit → Slots → Mem → Prop) (M : Mem) (v2 : V) (v3 : V) : Prop :=
  @OptVH (moveV 6 v2) ⟨fun t20_1 =>
  @OptVH (loadV 1 false t20_1 M) ⟨fun t21_2 =>
  @OptVH (moveV 6 v3) ⟨fun t22_3 =>
  @OptVH (loadV 1 false t22_3 M) ⟨fun t23_4 =>
  @OptBH (binV .lss .none t21_2 t23_4) ⟨fun b24_5 =>
  Q .normal [(4, (.bool b24_5))] M⟩⟩⟩⟩⟩
theorem e59_8 (P : Program) (Q : Exit → Slots → Mem → Prop) (s : Slots) (M : Mem) : wpC P c59_8 Q s M = w59_8 P Q M (sget s 2) (sget s 3) := by kernel_rfl
def c59_9 : ACode := (.seq c59_8 .ret)
def o59_10 : List AOper := [⟨some 15, (.fieldAddr 6 (.tmp 2)), false, none⟩,
  ⟨some 16, (.load 1 false (.tmp 15)), false, none⟩,
  ⟨some 17, (.fieldAddr 6 (.tmp 3)), false, none⟩,
  ⟨some 18, (.load 1 false (.tmp 17)), false, none⟩,
  ⟨some 19, (.bin .neq .none (.tmp 16) (.tmp 18)), true, none⟩]
def c59_11 : ACode := (.seq (.region o59_10 [2, 3, 19]) (.cond (.tmp 19) c59_9 .skip))
def w59_11 (P : Program) (Q : Exit → Slots → Mem → Prop) (M : Mem) (v2 : V) (v3 : V) : Prop :=
  @OptVH (moveV 6 v2) ⟨fun t15_1 =>
  @OptVH (loadV 1 false t15_1 M) ⟨fun t16_2 =>
  @OptVH (moveV 6 v3) ⟨fun t17_3 =>
  @OptVH (loadV 1 false t17_3 M) ⟨fun t18_4 =>
  @OptBH (binV .neq .none t16_2 t18_4) ⟨fun b19_5 =>
  @BIfH b19_5
  ⟨wpC P c59_9 Q [(2, v2), (3, v3), (19, (.bool b19_5))] M⟩
  ⟨Q .normal [(2, v2), (3, v3), (19, (.bool b19_5))] M⟩⟩⟩⟩⟩⟩
theorem e59_11 (P : Program) (Q : Exit → Slots → Mem → Prop) (s : Slots) (M : Mem) : wpC P c59_11 Q s M = w59_11 P Q M (sget s 2) (sget s 3) := by kernel_rfl
def o59_12 : List AOper := [⟨some 30, (.fieldAddr 7 (.tmp 2)), false, none⟩,
  ⟨some 31, (.load 1 false (.tmp 30)), false, none⟩,
  ⟨some 32, (.fieldAddr 7 (.tmp 3)), false, none⟩,
  ⟨some 33, (.load 1 false (.tmp 32)), false, none⟩,
  ⟨some 34, (.bin .lss .none (.tmp 31) (.tmp 33)), true, none⟩,
  ⟨some 4, (.mov (.tmp 34)), true, none⟩]
def c59_13 : ACode := (.region o59_12 [4])
def w59_13 (_P : Program) (Q : Exit → Slots → Mem → Prop) (M : Mem) (v2 : V) (v3 : V) : Prop :=
  @OptVH (moveV 7 v2) ⟨fun t30_1 =>
  @OptVH (loadV 1 false t30_1 M) ⟨fun t31_2 =>
  @OptVH (moveV 7 v3) ⟨fun t32_3 =>
  @OptVH (loadV 1 false t32_3 M) ⟨fun t33_4 =>
  @OptBH (binV .lss .none t31_2 t33_4) ⟨fun b34_5 =>
  Q .normal [(4, (.bool b34_5))] M⟩⟩⟩⟩⟩
theorem e59_13 (P : Program) (Q : Exit → Slots → Mem → Prop) (s : Slots) (M : Mem) : wpC P c59_13 Q s M = w59_13 P Q M (sget s 2) (sget s 3) := by kernel_rfl
def c59_14 : ACode := (.seq c59_13 .ret)
def o59_15 : List AOper := [⟨some 25, (.fieldAddr 7 (.tmp 2)), false, none⟩,
  ⟨some 26, (.load 1 false (.tmp 25)), false, none⟩,
  ⟨some 27, (.fieldAddr 7 (.tmp 3)), false, none⟩,
  ⟨some 28, (.load 1 false (.tmp 27)), false, none⟩,
  ⟨some 29, (.bin .neq .none (.tmp 26) (.tmp 28)), true, none⟩]
def c59_16 : ACode := (.seq (.region o59_15 [2, 3, 29]) (.cond (.tmp 29) c59_14 .skip))
def w59_16 (P : Program) (Q : Exit → Slots → Mem → Prop) (M : Mem) (v2 : V) (v3 : V) : Prop :=
  @OptVH (moveV 7 v2) ⟨fun t25_1 =>
  @OptVH (loadV 1 false t25_1 M) ⟨fun t26_2 =>
  @OptVH (moveV 7 v3) ⟨fun t27_3 =>
  @OptVH (loadV 1 false t27_3 M) ⟨fun t28_4 =>
  @OptBH (binV .neq .none t26_2 t28_4) ⟨fun b29_5 =>
  @BIfH b29_5
  ⟨wpC P c59_14 Q [(2, v2), (3, v3), (29, (.bool b29_5))] M⟩
  ⟨Q .normal [(2, v2), (3, v3), (29, (.bool b29_5))] M⟩⟩⟩⟩⟩⟩
theorem e59_16 (P : Program) (Q : Exit → Slots → Mem → Prop) (s : Slots) (M : Mem) : wpC P c59_16 Q s M = w59_16 P Q M (sget s 2) (sget s 3) := by kernel_rfl
def o59_17 : List AOper := [⟨some 35, (.fieldAddr 1 (.tmp 2)), false, none⟩,
  ⟨some 36, (.load 1 false (.tmp 35)), false, none⟩,
  ⟨some 37, (.fieldAddr 1 (.tmp 3)), false, none⟩,
  ⟨some 38, (.load 1 false (.tmp 37)), false, none⟩,
  ⟨some 39, (.bin .lss .none (.tmp 36) (.tmp 38)), true, none⟩,
  ⟨some 4, (.mov (.tmp 39)), true, none⟩]
def c59_18 : ACode := (.region o59_17 [4])
def w59_18 (_P : Program) (Q : Exit → Slots → Mem → Prop) (M : Mem) (v2 : V) (v3 : V) : Prop :=
  @OptVH (moveV 1 v2) ⟨fun t35_1 =>
  @OptVH (loadV 1 false t35_1 M) ⟨fun t36_2 =>
  @OptVH (moveV 1 v3) ⟨fun t37_3 =>
  @OptVH (loadV 1 false t37_3 M) ⟨fun t38_4 =>
  @OptBH (binV .lss .none t36_2 t38_4) ⟨fun b39_5 =>
  Q .normal [(4, (.bool b39_5))] M⟩⟩⟩⟩⟩
theorem e59_18 (P : Program) (Q : Exit → Slots → Mem → Prop) (s : Slots) (M : Mem) : wpC P c59_18 Q s M = w59_18 P Q M (sget s 2) (sget s 3) := by kernel_rfl
def c59_19 : ACode := (.seq c59_18 .ret)
def c59_20 : ACode := (.seq c59_16 c59_19)
def c59_21 : ACode := (.seq c59_11 c59_20)
def c59_22 : ACode := (.seq c59_6 c59_21)
def c59_23 : ACode := (.seq c59_1 c59_22)
def fn_transitref32_before : AFn := ⟨40, [(.tmp 4)], c59_23⟩
theorem fn_transitref32_before_ok : resFn PR h_transitref32_before i_transitref32_before = some fn_transitref32_before := by kernel_rfl

def h_message_within : Hints := ⟨[(0, [0, 1, 2]), (1, [6])], [], []⟩
def o60_0 : List AOper := [⟨some 6, (.mov (.const (.bool false))), true, none⟩]
def c60_1 : ACode := (.region o60_0 [0, 1, 2])
def w60_1 (_P : Program) (Q : Exit → Slots → Mem → Prop) (M : Mem) (v0 : V) (v1 : V) (v2 : V) : Prop :=
  Q .normal [(0, v0), (1, v1), (2, v2)] M
theorem e60_1 (P : Program) (Q : Exit → Slots → Mem → Prop) (s : Slots) (M : Mem) : wpC P c60_1 Q s M = w60_1 P Q M (sget s 0) (sget s 1) (sget s 2) := by kernel_rfl
def o60_2 : List AOper := [⟨some 7, (.mov (.tmp 0)), false, none⟩,
  ⟨some 8, (.mov (.tmp 1)), false, none⟩,
  ⟨some 9, (.bin .geq .none (.tmp 7) (.tmp 8)), true, none⟩,
  ⟨some 10, (.mov (.tmp 9)), true, none⟩,
  ⟨some 11, (.mov (.tmp 0)), false, some (10, true)⟩,
  ⟨some 12, (.mov (.tmp 2)), false, some (10, true)⟩,
  ⟨some 13, (.bin .leq .none (.tmp 11) (.tmp 12)), true, some (10, true)⟩,
  ⟨some 14, (.pick (.tmp 10) (.tmp 13) (.const (.bool false))), true, none⟩,
  ⟨some 6, (.mov (.tmp 14)), true, none⟩]
def c60_3 : ACode := (.region o60_2 [6])
def w60_3 (_P : Program) (Q : Exit → Slots → Mem → Prop) (M : Mem) (v0 : V) (v1 : V) (v2 : V) : Prop :=
  @OptBH (binV .geq .none v0 v1) ⟨fun b9_3 =>
  @BIfH b9_3
  ⟨@OptBH (binV .leq .none v0 v2) ⟨fun b13_7 =>
  Q .normal [(6, (.bool b13_7))] M⟩⟩
  ⟨Q .normal [(6, (.bool false))] M⟩⟩
theorem e60_3 (P : Program) (Q : Exit → Slots → Mem → Prop) (s : Slots) (M : Mem) : wpC P c60_3 Q s M = w60_3 P Q M (sget s 0) (sget s 1) (sget s 2) := by kernel_rfl
def c60_4 : ACode := (.seq c60_3 .ret)
def c60_5 : ACode := (.seq c60_1 c60_4)
def fn_message_within : AFn := ⟨15, [(.tmp 6)], c60_5⟩
theorem fn_message_within_ok : resFn PR h_message_within i_message_within = some fn_message_within := by kernel_rfl

def h_ident_Valid : Hints := ⟨[(0, [0]), (1, [0, 3]), (2, [0, 3, 8]), (3, [0, 3]), (4, [0, 3, 4]), (5, [2]), (6, [0, 3, 4, 14]), (7, [0, 3, 4, 14]), (8, [0, 3, 4, 14]), (9, [0, 3, 4, 33]), (10, [0, 3, 4, 33]), (11, [0, 3, 33]), (12, [2])], [(2, [0, 3])], []⟩
def o61_0 : List AOper := [⟨some 2, (.mov (.const (.bool false))), true, none⟩]
def c61_1 : ACode := (.region o61_0 [0])
def w61_1 (_P : Program) (Q : Exit → Slots → Mem → Prop) (M : Mem) (v0 : V) : Prop :=
  Q .normal [(0, v0)] M
theorem e61_1 (P : Program) (Q : Exit → Slots → Mem → Prop) (s : Slots) (M : Mem) : wpC P c61_1 Q s M = w61_1 P Q M (sget s 0) := by kernel_rfl
def o61_2 : List AOper := [⟨some 3, (.mov (.const (.int .i64 0))), false, none⟩]
def c61_3 : ACode := (.region o61_2 [0, 3])
def w61_3 (_P : Program) (Q : Exit → Slots → Mem → Prop) (M : Mem) (v0 : V) : Prop :=
  Q .normal [(0, v0), (3, (.int .i64 0))] M
theorem e61_3 (P : Program) (Q : Exit → Slots → Mem → Prop) (s : Slots) (M : Mem) : wpC P c61_3 Q s M = w61_3 P Q M (sget s 0) := by kernel_rfl
def o61_4 : List AOper := [⟨some 5, (.mov (.tmp 3)), false, none⟩,
  ⟨some 6, (.mov (.tmp 0)), false, none⟩,
  ⟨some 7, (.lenStr (.tmp 6)), false, none⟩,
  ⟨some 8, (.bin .lss .none (.tmp 5) (.tmp 7)), true, none⟩]
def c61_5 : ACode := (.seq (.region o61_4 [0, 3, 8]) (.cond (.tmp 8) .skip (.exit 0)))
def w61_5 (_P : Program) (Q : Exit → Slots → Mem → Prop) (M : Mem) (v0 : V) (v3 : V) : Prop :=
  @OptVH (lenStrV v0) ⟨fun t7_3 =>
  @OptBH (binV .lss .none v3 t7_3) ⟨fun b8_4 =>
  @BIfH b8_4
  ⟨Q .normal [(0, v0), (3, v3), (8, (.bool b8_4))] M⟩
  ⟨Q (.exit 0) [(0, v0), (3, v3), (8, (.bool b8_4))] M⟩⟩⟩
theorem e61_5 (P : Program) (Q : Exit → Slots → Mem → Prop) (s : Slots) (M : Mem) : wpC P c61_5 Q s M = w61_5 P Q M (sget s 0) (sget s 3) := by kernel_rfl
def o61_6 : List AOper := [⟨some 11, (.mov (.tmp 0)), false, none⟩,
  ⟨some 12, (.mov (.tmp 3)), false, none⟩,
  ⟨some 13, (.indexStr (.tmp 11) (.tmp 12)), false, none⟩,
  ⟨some 4, (.mov (.tmp 13)), false, none⟩]
def c61_7 : ACode := (.region o61_6 [0, 3, 4])
def w61_7 (_P : Program) (Q : Exit → Slots → Mem → Prop) (M : Mem) (v0 : V) (v3 : V) : Prop :=
  @OptVH (indexStrV v0 v3) ⟨fun t13_3 =>
  Q .normal [(0, v0), (3, v3), (4, t13_3)] M⟩
theorem e61_7 (P : Program) (Q : Exit → Slots → Mem → Prop) (s : Slots) (M : Mem) : wpC P c61_7 Q s M = w61_7 P Q M (sget s 0) (sget s 3) := by kernel_rfl
def o61_8 : List AOper := [⟨some 27, (.mov (.tmp 4)), false, none⟩,
  ⟨some 28, (.bin .leq .none (.const (.int .u8 48)) (.tmp 27)), true, none⟩,
  ⟨some 29, (.mov (.tmp 28)), true, none⟩,
  ⟨some 30, (.mov (.tmp 4)), false, some (29, true)⟩,
  ⟨some 31, (.bin .leq .none (.tmp 30) (.const (.int .u8 57))), true, some (29, true)⟩,
  ⟨some 32, (.pick (.tmp 29) (.tmp 31) (.const (.bool false))), true, none⟩,
  ⟨some 14, (.mov (.tmp 32)), true, none⟩]
def c61_9 : ACode := (.region o61_8 [0, 3, 4, 14])
def w61_9 (_P : Program) (Q : Exit → Slots → Mem → Prop) (M : Mem) (v0 : V) (v3 : V) (v4 : V) : Prop :=
  @OptBH (binV .leq .none (.int .u8 48) v4) ⟨fun b28_2 =>
  @BIfH b28_2
  ⟨@OptBH (binV .leq .none v4 (.int .u8 57)) ⟨fun b31_5 =>
  Q .normal [(0, v0), (3, v3), (4, v4), (14, (.bool b31_5))] M⟩⟩
  ⟨Q .normal [(0, v0), (3, v3), (4, v4), (14, (.bool false))] M⟩⟩
theorem e61_9 (P : Program) (Q : Exit → Slots → Mem → Prop) (s : Slots) (M : Mem) : wpC P c61_9 Q s M = w61_9 P Q M (sget s 0) (sget s 3) (sget s 4) := by kernel_rfl
def o61_10 : List AOper := [⟨some 21, (.mov (.tmp 4)), false, none⟩,
  ⟨some 22, (.bin .leq .none (.const (.int .u8 65)) (.tmp 21)), true, none⟩,
  ⟨some 23, (.mov (.tmp 22)), true, none⟩,
  ⟨some 24, (.mov (.tmp 4)), false, some (23, true)⟩,
  ⟨some 25, (.bin .leq .none (.tmp 24) (.const (.int .u8 90))), true, some (23, true)⟩,
  ⟨some 26, (.pick (.tmp 23) (.tmp 25) (.const (.bool false))), true, none⟩,
  ⟨some 14, (.mov (.tmp 26)), true, none⟩]
def c61_11 : ACode := (.seq (.region o61_10 [0, 3, 4, 14]) (.cond (.tmp 14) .skip c61_9))
def w61_11 (P : Program) (Q : Exit → Slots → Mem → Prop) (M : Mem) (v0 : V) (v3 : V) (v4 : V) : Prop :=
  @OptBH (binV .leq .none (.int .u8 65) v4) ⟨fun b22_2 =>
  @BIfH b22_2
  ⟨@OptBH (binV .leq .none v4 (.int .u8 90)) ⟨fun b25_5 =>
  @BIfH b25_5
  ⟨Q .normal [(0, v0), (3, v3), (4, v4), (14, (.bool b25_5))] M⟩
  ⟨wpC P c61_9 Q [(0, v0), (3, v3), (4, v4), (14, (.bool b25_5))] M⟩⟩⟩
  ⟨wpC P c61_9 Q [(0, v0), (3, v3), (4, v4), (14, (.bool false))] M⟩⟩
theorem e61_11 (P : Program) (Q : Exit → Slots → Mem → Prop) (s : Slots) (M : Mem) : wpC P c61_11 Q s M = w61_11 P Q M (sget s 0) (sget s 3) (sget s 4) := by kernel_rfl
def o61_12 : List AOper := [⟨some 15, (.mov (.tmp 4)), false, none⟩,
  ⟨some 16, (.bin .leq .none (.const (.int .u8 97)) (.tmp 15)), true, none⟩,
  ⟨some 17, (.mov (.tmp 16)), true, none⟩,
  ⟨some 18, (.mov (.tmp 4)), false, some (17, true)⟩,
  ⟨some 19, (.bin .leq .none (.tmp 18) (.const (.int .u8 122))), true, some (17, true)⟩,
  ⟨some 20, (.pick (.tmp 17) (.tmp 19) (.const (.bool false))), true, none⟩,
  ⟨some 14, (.mov (.tmp 20)), true, none⟩]
def c61_13 : ACode := (.seq (.region o61_12 [0, 3, 4, 14]) (.cond (.tmp 14) .skip c61_11))
def w61_13 (P : Program) (Q : Exit → Slots → Mem → Prop) (M : Mem) (v0 : V) (v3 : V) (v4 : V) : Prop :=
  @OptBH (binV .leq .none (.int .u8 97) v4) ⟨fun b16_2 =>
  @BIfH b16_2
  ⟨@OptBH (binV .leq .none v4 (.int .u8 122)) ⟨fun b19_5 =>
  @BIfH b19_5
  ⟨Q .normal [(0, v0), (3, v3), (4, v4), (14, (.bool b19_5))] M⟩
  ⟨wpC P c61_11 Q [(0, v0), (3, v3), (4, v4), (14, (.bool b19_5))] M⟩⟩⟩
  ⟨wpC P c61_11 Q [(0, v0), (3, v3), (4, v4), (14, (.bool false))] M⟩⟩
theorem e61_13 (P : Program) (Q : Exit → Slots → Mem → Prop) (s : Slots) (M : Mem) : wpC P c61_13 Q s M = w61_13 P Q M (sget s 0) (sget s 3) (sget s 4) := by kernel_rfl
def o61_14 : List AOper := [⟨some 38, (.mov (.tmp 4)), false, none⟩,
  ⟨some 39, (.bin .eql .none (.tmp 38) (.const (.int .u8 46))), true, none⟩,
  ⟨some 33, (.mov (.tmp 39)), true, none⟩]
def c61_15 : ACode := (.region o61_14 [0, 3, 33])
def w61_15 (_P : Program) (Q : Exit → Slots → Mem → Prop) (M : Mem) (v0 : V) (v3 : V) (v4 : V) : Prop :=
  @OptBH (binV .eql .none v4 (.int .u8 46)) ⟨fun b39_2 =>
  Q .normal [(0, v0), (3, v3), (33, (.bool b39_2))] M⟩
theorem e61_15 (P : Program) (Q : Exit → Slots → Mem → Prop) (s : Slots) (M : Mem) : wpC P c61_15 Q s M = w61_15 P Q M (sget s 0) (sget s 3) (sget s 4) := by kernel_rfl
def o61_16 : List AOper := [⟨some 36, (.mov (.tmp 4)), false, none⟩,
  ⟨some 37, (.bin .eql .none (.tmp 36) (.const (.int .u8 95))), true, none⟩,
  ⟨some 33, (.mov (.tmp 37)), true, none⟩]
def c61_17 : ACode := (.seq (.region o61_16 [0, 3, 4, 33]) (.cond (.tmp 33) .skip c61_15))
def w61_17 (P : Program) (Q : Exit → Slots → Mem → Prop) (M : Mem) (v0 : V) (v3 : V) (v4 : V) : Prop :=
  @OptBH (binV .eql .none v4 (.int .u8 95)) ⟨fun b37_2 =>
  @BIfH b37_2
  ⟨Q .normal [(0, v0), (3, v3), (4, v4), (33, (.bool b37_2))] M⟩
  ⟨wpC P c61_15 Q [(0, v0), (3, v3), (4, v4), (33, (.bool b37_2))] M⟩⟩
theorem e61_17 (P : Program) (Q : Exit → Slots → Mem → Prop) (s : Slots) (M : Mem) : wpC P c61_17 Q s M = w61_17 P Q M (sget s 0) (sget s 3) (sget s 4) := by kernel_rfl
def o61_18 : List AOper := [⟨some 34, (.mov (.tmp 4)), false, none⟩,
  ⟨some 35, (.bin .eql .none (.tmp 34) (.const (.int .u8 45))), true, none⟩,
  ⟨some 33, (.mov (.tmp 35)), true, none⟩]
def c61_19 : ACode := (.seq (.region o61_18 [0, 3, 4, 33]) (.cond (.tmp 33) .skip c61_17))
def w61_19 (P : Program) (Q : Exit → Slots → Mem → Prop) (M : Mem) (v0 : V) (v3 : V) (v4 : V) : Prop :=
  @OptBH (binV .eql .none v4 (.int .u8 45)) ⟨fun b35_2 =>
  @BIfH b35_2
  ⟨Q .normal [(0, v0), (3, v3), (4, v4), (33, (.bool b35_2))] M⟩
  ⟨wpC P c61_17 Q [(0, v0), (3, v3), (4, v4), (33, (.bool b35_2))] M⟩⟩
theorem e61_19 (P : Program) (Q : Exit → Slots → Mem → Prop) (s : Slots) (M : Mem) : wpC P c61_19 Q s M = w61_19 P Q M (sget s 0) (sget s 3) (sget s 4) := by kernel_rfl
def o61_20 : List AOper := [⟨some 2, (.mov (.const (.bool false))), true, none⟩]
def c61_21 : ACode := (.region o61_20 [2])
def w61_21 (_P : Program) (Q : Exit → Slots → Mem → Prop) (M : Mem) : Prop :=
  Q .normal [(2, (.bool false))] M
theorem e61_21 (P : Program) (Q : Exit → Slots → Mem → Prop) (s : Slots) (M : Mem) : wpC P c61_21 Q s M = w61_21 P Q M := by kernel_rfl
def c61_22 : ACode := (.seq c61_21 .ret)
def c61_23 : ACode := (.cond (.tmp 33) .skip c61_22)
def c61_24 : ACode := (.seq c61_19 c61_23)
def c61_25 : ACode := (.cond (.tmp 14) .skip c61_24)
def c61_26 : ACode := (.seq c61_13 c61_25)
def c61_27 : ACode := (.block 2 c61_26)
def c61_28 : ACode := (.seq c61_7 c61_27)
def c61_29 : ACode := (.block 1 c61_28)
def o61_30 : List AOper := [⟨some 9, (.mov (.tmp 3)), false, none⟩,
  ⟨some 10, (.bin .add .none (.tmp 9) (.const (.int .i64 1))), false, none⟩,
  ⟨some 3, (.mov (.tmp 10)), false, none⟩]
def c61_31 : ACode := (.region o61_30 [0, 3])
def w61_31 (_P : Program) (Q : Exit → Slots → Mem → Prop) (M : Mem) (v0 : V) (v3 : V) : Prop :=
  @OptVH (binV .add .none v3 (.int .i64 1)) ⟨fun t10_2 =>
  Q .normal [(0, v0), (3, t10_2)] M⟩
theorem e61_31 (P : Program) (Q : Exit → Slots → Mem → Prop) (s : Slots) (M : Mem) : wpC P c61_31 Q s M = w61_31 P Q M (sget s 0) (sget s 3) := by kernel_rfl
def c61_32 : ACode := (.seq c61_29 c61_31)
def c61_33 : ACode := (.seq c61_5 c61_32)
def c61_34 : ACode := (.loop [0, 3] c61_33)
def c61_35 : ACode := (.block 0 c61_34)
def c61_36 : ACode := (.seq c61_3 c61_35)
def o61_37 : List AOper := [⟨some 40, (.mov (.tmp 0)), false, none⟩,
  ⟨some 41, (.lenStr (.tmp 40)), false, none⟩,
  ⟨some 42, (.bin .gtr .none (.tmp 41) (.const (.int .i64 0))), true, none⟩,
  ⟨some 43, (.mov (.tmp 42)), true, none⟩,
  ⟨some 44, (.mov (.tmp 0)), false, some (43, true)⟩,
  ⟨some 45, (.lenStr (.tmp 44)), false, some (43, true)⟩,
  ⟨some 46, (.bin .leq .none (.tmp 45) (.const (.int .i64 32))), true, some (43, true)⟩,
  ⟨some 47, (.pick (.tmp 43) (.tmp 46) (.const (.bool false))), true, none⟩,
  ⟨some 2, (.mov (.tmp 47)), true, none⟩]
def c61_38 : ACode := (.region o61_37 [2])
def w61_38 (_P : Program) (Q : Exit → Slots → Mem → Prop) (M : Mem) (v0 : V) : Prop :=
  @OptVH (lenStrV v0) ⟨fun t41_2 =>
  @OptBH (binV .gtr .none t41_2 (.int .i64 0)) ⟨fun b42_3 =>
  @BIfH b42_3
  ⟨@OptVH (lenStrV v0) ⟨fun t45_6 =>
  @OptBH (binV .leq .none t45_6 (.int .i64 32)) ⟨fun b46_7 =>
  Q .normal [(2, (.bool b46_7))] M⟩⟩⟩
  ⟨Q .normal [(2, (.bool false))] M⟩⟩⟩
theorem e61_38 (P : Program) (Q : Exit → Slots → Mem → Prop) (s : Slots) (M : Mem) : wpC P c61_38 Q s M = w61_38 P Q M (sget s 0) := by kernel_rfl
def c61_39 : ACode := (.seq c61_38 .ret)
def c61_40 : ACode := (.seq c61_36 c61_39)
def c61_41 : ACode := (.seq c61_1 c61_40)
def fn_ident_Valid : AFn := ⟨48, [(.tmp 2)], c61_41⟩
theorem fn_ident_Valid_ok : resFn PR h_ident_Valid i_ident_Valid = some fn_ident_Valid := by kernel_rfl

def h_date_Valid : Hints := ⟨[(0, [0]), (1, [2])], [], []⟩
def o62_0 : List AOper := [⟨some 2, (.mov (.const (.bool false))), true, none⟩]
def c62_1 : ACode := (.region o62_0 [0])
def w62_1 (_P : Program) (Q : Exit → Slots → Mem → Prop) (M : Mem) (v0 : V) : Prop :=
  Q .normal [(0, v0)] M
theorem e62_1 (P : Program) (Q : Exit → Slots → Mem → Prop) (s : Slots) (M : Mem) : wpC P c62_1 Q s M = w62_1 P Q M (sget s 0) := by kernel_rfl
def o62_2 : List AOper := [⟨some 3, (.mov (.tmp 0)), false, none⟩,
  ⟨some 4, (.bin .leq .none (.const (.int .i64 0)) (.tmp 3)), true, none⟩,
  ⟨some 5, (.mov (.tmp 4)), true, none⟩,
  ⟨some 6, (.mov (.tmp 0)), false, some (5, true)⟩,
  ⟨some 7, (.bin .leq .none (.tmp 6) (.const (.int .i64 36524))), true, some (5, true)⟩,
  ⟨some 8, (.pick (.tmp 5) (.tmp 7) (.const (.bool false))), true, none⟩,
  ⟨some 2, (.mov (.tmp 8)), true, none⟩]
def c62_3 : ACode := (.region o62_2 [2])
def w62_3 (_P : Program) (Q : Exit → Slots → Mem → Prop) (M : Mem) (v0 : V) : Prop :=
  @OptBH (binV .leq .none (.int .i64 0) v0) ⟨fun b4_2 =>
  @BIfH b4_2
  ⟨@OptBH (binV .leq .none v0 (.int .i64 36524)) ⟨fun b7_5 =>
  Q .normal [(2, (.bool b7_5))] M⟩⟩
  ⟨Q .normal [(2, (.bool false))] M⟩⟩
theorem e62_3 (P : Program) (Q : Exit → Slots → Mem → Prop) (s : Slots) (M : Mem) : wpC P c62_3 Q s M = w62_3 P Q M (sget s 0) := by kernel_rfl
def c62_4 : ACode := (.seq c62_3 .ret)
def c62_5 : ACode := (.seq c62_1 c62_4)
def fn_date_Valid : AFn := ⟨9, [(.tmp 2)], c62_5⟩
theorem fn_date_Valid_ok : resFn PR h_date_Valid i_date_Valid = some fn_date_Valid := by kernel_rfl

def h_message_checkKind : Hints := ⟨[(0, [2, 3]), (1, [2, 3, 34]), (2, [4]), (3, [2, 3, 36]), (4, [2, 3, 6]), (5, [2, 3, 6, 44]), (6, [4]), (7, [93]), (8, [4]), (9, [4])], [], []⟩
def o63_0 : List AOper := [⟨some 2, (.box 13 (.tmp 0)), false, none⟩,
  ⟨some 3, (.box 5 (.tmp 1)), false, none⟩,
  ⟨some 4, (.mov (.const (.int .i64 0))), false, none⟩]
def c63_1 : ACode := (.region o63_0 [2, 3])
def w63_1 (_P : Program) (Q : Exit → Slots → Mem → Prop) (M : Mem) (v0 : V) (v1 : V) : Prop :=
  @OptMH (boxV 13 v0 M) ⟨fun t2_1 M1 =>
  @OptMH (boxV 5 v1 M1) ⟨fun t3_2 M2 =>
  Q .normal [(2, t2_1), (3, t3_2)] M2⟩⟩
theorem e63_1 (P : Program) (Q : Exit → Slots → Mem → Prop) (s : Slots) (M : Mem) : wpC P c63_1 Q s M = w63_1 P Q M (sget s 0) (sget s 1) := by kernel_rfl
def o63_2 : List AOper := [⟨some 4, (.mov (.const (.int .i64 2))), false, none⟩]
def c63_3 : ACode := (.region o63_2 [4])
def w63_3 (_P : Program) (Q : Exit → Slots → Mem → Prop) (M : Mem) : Prop :=
  Q .normal [(4, (.int .i64 2))] M
theorem e63_3 (P : Program) (Q : Exit → Slots → Mem → Prop) (s : Slots) (M : Mem) : wpC P c63_3 Q s M = w63_3 P Q M := by kernel_rfl
def c63_4 : ACode := (.seq c63_3 .ret)
def o63_5 : List AOper := [⟨some 7, (.fieldAddr 0 (.tmp 3)), false, none⟩,
  ⟨some 8, (.load 1 false (.tmp 7)), true, none⟩,
  ⟨some 9, (.mov (.tmp 8)), true, none⟩,
  ⟨some 10, (.fieldAddr 8 (.tmp 2)), false, some (9, true)⟩,
  ⟨some 11, (.load 1 false (.tmp 10)), false, some (9, true)⟩,
  ⟨some 12, (.call i_message_within [(.tmp 11), (.const (.int .i64 0)), (.const (.int .i64 31))]), true, some (9, true)⟩,
  ⟨some 13, (.un .not (.tmp 12)), true, some (9, true)⟩,
  ⟨some 14, (.pick (.tmp 9) (.tmp 13) (.const (.bool false))), true, none⟩,
  ⟨some 15, (.mov (.tmp 14)), true, none⟩,
  ⟨some 16, (.fieldAddr 1 (.tmp 3)), false, some (15, false)⟩,
  ⟨some 17, (.load 1 false (.tmp 16)), true, some (15, false)⟩,
  ⟨some 18, (.mov (.tmp 17)), true, some (15, false)⟩,
  ⟨some 19, (.fieldAddr 9 (.tmp 2)), false, some (18, true)⟩,
  ⟨some 20, (.load 1 false (.tmp 19)), false, some (18, true)⟩,
  ⟨some 21, (.call i_message_within [(.tmp 20), (.const (.int .i64 (-43200))), (.const (.int .i64 43200))]), true, some (18, true)⟩,
  ⟨some 22, (.un .not (.tmp 21)), true, some (18, true)⟩,
  ⟨some 23, (.pick (.tmp 18) (.tmp 22) (.const (.bool false))), true, some (15, false)⟩,
  ⟨some 24, (.pick (.tmp 15) (.const (.bool true)) (.tmp 23)), true, none⟩,
  ⟨some 25, (.mov (.tmp 24)), true, none⟩,
  ⟨some 26, (.fieldAddr 2 (.tmp 3)), false, some (25, false)⟩,
  ⟨some 27, (.load 1 false (.tmp 26)), true, some (25, false)⟩,
  ⟨some 28, (.mov (.tmp 27)), true, some (25, false)⟩,
  ⟨some 29, (.fieldAddr 10 (.tmp 2)), false, some (28, true)⟩,
  ⟨some 30, (.load 1 false (.tmp 29)), false, some (28, true)⟩,
  ⟨some 31, (.call i_message_within [(.tmp 30), (.const (.int .i64 0)), (.const (.int .i64 63))]), true, some (28, true)⟩,
  ⟨some 32, (.un .not (.tmp 31)), true, some (28, true)⟩,
  ⟨some 33, (.pick (.tmp 28) (.tmp 32) (.const (.bool false))), true, some (25, false)⟩,
  ⟨some 34, (.pick (.tmp 25) (.const (.bool true)) (.tmp 33)), true, none⟩]
def c63_6 : ACode := (.seq (.region o63_5 [2, 3, 34]) (.cond (.tmp 34) c63_4 .skip))
def w63_6 (P : Program) (Q : Exit → Slots → Mem → Prop) (M : Mem) (v2 : V) (v3 : V) : Prop :=
  @OptVH (moveV 0 v3) ⟨fun t7_1 =>
  @OptBH (loadV 1 false t7_1 M) ⟨fun b8_2 =>
  @BIfH b8_2
  ⟨@OptVH (moveV 8 v2) ⟨fun t10_4 =>
  @OptVH (loadV 1 false t10_4 M) ⟨fun t11_5 =>
  @CallH P i_message_within [t11_5, (.int .i64 0), (.int .i64 31)] M ⟨fun t12_6 M6 => @OptBH (some t12_6) ⟨fun b12_6 =>
  @OptBH (unV .not (.bool b12_6)) ⟨fun b13_7 =>
  @BIfH b13_7
  ⟨wpC P c63_4 Q [(2, v2), (3, v3), (34, (.bool true))] M6⟩
  ⟨@OptVH (moveV 1 v3) ⟨fun t16_13 =>
  @OptBH (loadV 1 false t16_13 M6) ⟨fun b17_14 =>
  @BIfH b17_14
  ⟨@OptVH (moveV 9 v2) ⟨fun t19_16 =>
  @OptVH (loadV 1 false t19_16 M6) ⟨fun t20_17 =>
  @CallH P i_message_within [t20_17, (.int .i64 (-43200)), (.int .i64 43200)] M6 ⟨fun t21_18 M18 => @OptBH (some t21_18) ⟨fun b21_18 =>
  @OptBH (unV .not (.bool b21_18)) ⟨fun b22_19 =>
  @BIfH b22_19
  ⟨wpC P c63_4 Q [(2, v2), (3, v3), (34, (.bool true))] M18⟩
  ⟨@OptVH (moveV 2 v3) ⟨fun t26_24 =>
  @OptBH (loadV 1 false t26_24 M18) ⟨fun b27_25 =>
  @BIfH b27_25
  ⟨@OptVH (moveV 10 v2) ⟨fun t29_27 =>
  @OptVH (loadV 1 false t29_27 M18) ⟨fun t30_28 =>
  @CallH P i_message_within [t30_28, (.int .i64 0), (.int .i64 63)] M18 ⟨fun t31_29 M29 => @OptBH (some t31_29) ⟨fun b31_29 =>
  @OptBH (unV .not (.bool b31_29)) ⟨fun b32_30 =>
  @BIfH b32_30
  ⟨wpC P c63_4 Q [(2, v2), (3, v3), (34, (.bool b32_30))] M29⟩
  ⟨Q .normal [(2, v2), (3, v3), (34, (.bool b32_30))] M29⟩⟩⟩⟩⟩⟩⟩
  ⟨Q .normal [(2, v2), (3, v3), (34, (.bool false))] M18⟩⟩⟩⟩⟩⟩⟩⟩⟩⟩
  ⟨@OptVH (moveV 2 v3) ⟨fun t26_38 =>
  @OptBH (loadV 1 false t26_38 M6) ⟨fun b27_39 =>
  @BIfH b27_39
  ⟨@OptVH (moveV 10 v2) ⟨fun t29_41 =>
  @OptVH (loadV 1 false t29_41 M6) ⟨fun t30_42 =>
  @CallH P i_message_within [t30_42, (.int .i64 0), (.int .i64 63)] M6 ⟨fun t31_43 M43 => @OptBH (some t31_43) ⟨fun b31_43 =>
  @OptBH (unV .not (.bool b31_43)) ⟨fun b32_44 =>
  @BIfH b32_44
  ⟨wpC P c63_4 Q [(2, v2), (3, v3), (34, (.bool b32_44))] M43⟩
  ⟨Q .normal [(2, v2), (3, v3), (34, (.bool b32_44))] M43⟩⟩⟩⟩⟩⟩⟩
  ⟨Q .normal [(2, v2), (3, v3), (34, (.bool false))] M6⟩⟩⟩⟩⟩⟩⟩⟩⟩⟩⟩⟩⟩
  ⟨@OptVH (moveV 1 v3) ⟨fun t16_51 =>
  @OptBH (loadV 1 false t16_51 M) ⟨fun b17_52 =>
  @BIfH b17_52
  ⟨@OptVH (moveV 9 v2) ⟨fun t19_54 =>
  @OptVH (loadV 1 false t19_54 M) ⟨fun t20_55 =>
  @CallH P i_message_within [t20_55, (.int .i64 (-43200)), (.int .i64 43200)] M ⟨fun t21_56 M56 => @OptBH (some t21_56) ⟨fun b21_56 =>
  @OptBH (unV .not (.bool b21_56)) ⟨fun b22_57 =>
  @BIfH b22_57
  ⟨wpC P c63_4 Q [(2, v2), (3, v3), (34, (.bool true))] M56⟩
  ⟨@OptVH (moveV 2 v3) ⟨fun t26_62 =>
  @OptBH (loadV 1 false t26_62 M56) ⟨fun b27_63 =>
  @BIfH b27_63
  ⟨@OptVH (moveV 10 v2) ⟨fun t29_65 =>
  @OptVH (loadV 1 false t29_65 M56) ⟨fun t30_66 =>
  @CallH P i_message_within [t30_66, (.int .i64 0), (.int .i64 63)] M56 ⟨fun t31_67 M67 => @OptBH (some t31_67) ⟨fun b31_67 =>
  @OptBH (unV .not (.bool b31_67)) ⟨fun b32_68 =>
  @BIfH b32_68
  ⟨wpC P c63_4 Q [(2, v2), (3, v3), (34, (.bool b32_68))] M67⟩
  ⟨Q .normal [(2, v2), (3, v3), (34, (.bool b32_68))] M67⟩⟩⟩⟩⟩⟩⟩
  ⟨Q .normal [(2, v2), (3, v3), (34, (.bool false))] M56⟩⟩⟩⟩⟩⟩⟩⟩⟩⟩
  ⟨@OptVH (moveV 2 v3) ⟨fun t26_76 =>
  @OptBH (loadV 1 false t26_76 M) ⟨fun b27_77 =>
  @BIfH b27_77
  ⟨@OptVH (moveV 10 v2) ⟨fun t29_79 =>
  @OptVH (loadV 1 false t29_79 M) ⟨fun t30_80 =>
  @CallH P i_message_within [t30_80, (.int .i64 0), (.int .i64 63)] M ⟨fun t31_81 M81 => @OptBH (some t31_81) ⟨fun b31_81 =>
  @OptBH (unV .not (.bool b31_81)) ⟨fun b32_82 =>
  @BIfH b32_82
  ⟨wpC P c63_4 Q [(2, v2), (3, v3), (34, (.bool b32_82))] M81⟩
  ⟨Q .normal [(2, v2), (3, v3), (34, (.bool b32_82))] M81⟩⟩⟩⟩⟩⟩⟩
  ⟨Q .normal [(2, v2), (3, v3), (34, (.bool false))] M⟩⟩⟩⟩⟩⟩⟩⟩⟩
theorem e63_6 (P : Program) (Q : Exit → Slots → Mem → Prop) (s : Slots) (M : Mem) : wpC P c63_6 Q s M = w63_6 P Q M (sget s 2) (sget s 3) := by kernel_rfl
def o63_7 : List AOper := [⟨some 38, (.fieldAddr 12 (.tmp 2)), false, none⟩,
  ⟨some 39, (.load 1 false (.tmp 38)), false, none⟩,
  ⟨some 40, (.call i_call_Check [(.tmp 39), (.const (.int .i64 64)), (.const (.int .i64 0)), (.const (.int .i64 3155932800))]), false, none⟩,
  ⟨some 37, (.mov (.tmp 40)), false, none⟩,
  ⟨some 41, (.extract (.tmp 37) 0), false, none⟩,
  ⟨some 42, (.extract (.tmp 37) 1), false, none⟩,
  ⟨some 5, (.mov (.tmp 41)), false, none⟩,
  ⟨some 6, (.mov (.tmp 42)), false, none⟩]
def c63_8 : ACode := (.region o63_7 [2, 3, 6])
def w63_8 (P : Program) (Q : Exit → Slots → Mem → Prop) (M : Mem) (v2 : V) (v3 : V) : Prop :=
  @OptVH (moveV 12 v2) ⟨fun t38_1 =>
  @OptVH (loadV 1 false t38_1 M) ⟨fun t39_2 =>
  @CallH P i_call_Check [t39_2, (.int .i64 64), (.int .i64 0), (.int .i64 3155932800)] M ⟨fun t40_3 M3 =>
  @OptVH (extractV t40_3 0) ⟨fun _t41_5 =>
  @OptVH (extractV t40_3 1) ⟨fun t42_6 =>
  Q .normal [(2, v2), (3, v3), (6, t42_6)] M3⟩⟩⟩⟩⟩
theorem e63_8 (P : Program) (Q : Exit → Slots → Mem → Prop) (s : Slots) (M : Mem) : wpC P c63_8 Q s M = w63_8 P Q M (sget s 2) (sget s 3) := by kernel_rfl
def o63_9 : List AOper := [⟨some 45, (.mov (.tmp 6)), false, none⟩,
  ⟨some 4, (.mov (.tmp 45)), false, none⟩]
def c63_10 : ACode := (.region o63_9 [4])
def w63_10 (_P : Program) (Q : Exit → Slots → Mem → Prop) (M : Mem) (v6 : V) : Prop :=
  Q .normal [(4, v6)] M
theorem e63_10 (P : Program) (Q : Exit → Slots → Mem → Prop) (s : Slots) (M : Mem) : wpC P c63_10 Q s M = w63_10 P Q M (sget s 6) := by kernel_rfl
def c63_11 : ACode := (.seq c63_10 .ret)
def o63_12 : List AOper := [⟨some 43, (.mov (.tmp 6)), false, none⟩,
  ⟨some 44, (.bin .neq .none (.tmp 43) (.const (.int .i64 0))), true, none⟩]
def c63_13 : ACode := (.seq (.region o63_12 [2, 3, 6, 44]) (.cond (.tmp 44) c63_11 .skip))
def w63_13 (P : Program) (Q : Exit → Slots → Mem → Prop) (M : Mem) (v2 : V) (v3 : V) (v6 : V) : Prop :=
  @OptBH (binV .neq .none v6 (.int .i64 0)) ⟨fun b44_2 =>
  @BIfH b44_2
  ⟨wpC P c63_11 Q [(2, v2), (3, v3), (6, v6), (44, (.bool b44_2))] M⟩
  ⟨Q .normal [(2, v2), (3, v3), (6, v6), (44, (.bool b44_2))] M⟩⟩
theorem e63_13 (P : Program) (Q : Exit → Slots → Mem → Prop) (s : Slots) (M : Mem) : wpC P c63_13 Q s M = w63_13 P Q M (sget s 2) (sget s 3) (sget s 6) := by kernel_rfl
def c63_14 : ACode := (.seq c63_8 c63_13)
def o63_15 : List AOper := [⟨some 35, (.fieldAddr 4 (.tmp 3)), false, none⟩,
  ⟨some 36, (.load 1 false (.tmp 35)), true, none⟩]
def c63_16 : ACode := (.seq (.region o63_15 [2, 3, 36]) (.cond (.tmp 36) c63_14 .skip))
def w63_16 (P : Program) (Q : Exit → Slots → Mem → Prop) (M : Mem) (v2 : V) (v3 : V) : Prop :=
  @OptVH (moveV 4 v3) ⟨fun t35_1 =>
  @OptBH (loadV 1 false t35_1 M) ⟨fun b36_2 =>
  @BIfH b36_2
  ⟨wpC P c63_14 Q [(2, v2), (3, v3), (36, (.bool b36_2))] M⟩
  ⟨Q .normal [(2, v2), (3, v3), (36, (.bool b36_2))] M⟩⟩⟩
theorem e63_16 (P : Program) (Q : Exit → Slots → Mem → Prop) (s : Slots) (M : Mem) : wpC P c63_16 Q s M = w63_16 P Q M (sget s 2) (sget s 3) := by kernel_rfl
def o63_17 : List AOper := [⟨some 4, (.mov (.const (.int .i64 1))), false, none⟩]
def c63_18 : ACode := (.region o63_17 [4])
def w63_18 (_P : Program) (Q : Exit → Slots → Mem → Prop) (M : Mem) : Prop :=
  Q .normal [(4, (.int .i64 1))] M
theorem e63_18 (P : Program) (Q : Exit → Slots → Mem → Prop) (s : Slots) (M : Mem) : wpC P c63_18 Q s M = w63_18 P Q M := by kernel_rfl
def c63_19 : ACode := (.seq c63_18 .ret)
def o63_20 : List AOper := [⟨some 46, (.fieldAddr 0 (.tmp 3)), false, none⟩,
  ⟨some 47, (.load 1 false (.tmp 46)), true, none⟩,
  ⟨some 48, (.un .not (.tmp 47)), true, none⟩,
  ⟨some 49, (.mov (.tmp 48)), true, none⟩,
  ⟨some 50, (.fieldAddr 8 (.tmp 2)), false, some (49, true)⟩,
  ⟨some 51, (.load 1 false (.tmp 50)), false, some (49, true)⟩,
  ⟨some 52, (.bin .neq .none (.tmp 51) (.const (.int .i64 0))), true, some (49, true)⟩,
  ⟨some 53, (.pick (.tmp 49) (.tmp 52) (.const (.bool false))), true, none⟩,
  ⟨some 54, (.mov (.tmp 53)), true, none⟩,
  ⟨some 55, (.fieldAddr 1 (.tmp 3)), false, some (54, false)⟩,
  ⟨some 56, (.load 1 false (.tmp 55)), true, some (54, false)⟩,
  ⟨some 57, (.un .not (.tmp 56)), true, some (54, false)⟩,
  ⟨some 58, (.mov (.tmp 57)), true, some (54, false)⟩,
  ⟨some 59, (.fieldAddr 9 (.tmp 2)), false, some (58, true)⟩,
  ⟨some 60, (.load 1 false (.tmp 59)), false, some (58, true)⟩,
  ⟨some 61, (.bin .neq .none (.tmp 60) (.const (.int .i64 0))), true, some (58, true)⟩,
  ⟨some 62, (.pick (.tmp 58) (.tmp 61) (.const (.bool false))), true, some (54, false)⟩,
  ⟨some 63, (.pick (.tmp 54) (.const (.bool true)) (.tmp 62)), true, none⟩,
  ⟨some 64, (.mov (.tmp 63)), true, none⟩,
  ⟨some 65, (.fieldAddr 2 (.tmp 3)), false, some (64, false)⟩,
  ⟨some 66, (.load 1 false (.tmp 65)), true, some (64, false)⟩,
  ⟨some 67, (.un .not (.tmp 66)), true, some (64, false)⟩,
  ⟨some 68, (.mov (.tmp 67)), true, some (64, false)⟩,
  ⟨some 69, (.fieldAddr 10 (.tmp 2)), false, some (68, true)⟩,
  ⟨some 70, (.load 1 false (.tmp 69)), false, some (68, true)⟩,
  ⟨some 71, (.bin .neq .none (.tmp 70) (.const (.int .i64 0))), true, some (68, true)⟩,
  ⟨some 72, (.pick (.tmp 68) (.tmp 71) (.const (.bool false))), true, some (64, false)⟩,
  ⟨some 73, (.pick (.tmp 64) (.const (.bool true)) (.tmp 72)), true, none⟩,
  ⟨some 74, (.mov (.tmp 73)), true, none⟩,
  ⟨some 75, (.fieldAddr 3 (.tmp 3)), false, some (74, false)⟩,
  ⟨some 76, (.load 1 false (.tmp 75)), true, some (74, false)⟩,
  ⟨some 77, (.un .not (.tmp 76)), true, some (74, false)⟩,
  ⟨some 78, (.mov (.tmp 77)), true, some (74, false)⟩,
  ⟨some 79, (.fieldAddr 11 (.tmp 2)), false, some (78, true)⟩,
  ⟨some 80, (.load 1 false (.tmp 79)), true, some (78, true)⟩,
  ⟨some 81, (.pick (.tmp 78) (.tmp 80) (.const (.bool false))), true, some (74, false)⟩,
  ⟨some 82, (.pick (.tmp 74) (.const (.bool true)) (.tmp 81)), true, none⟩,
  ⟨some 83, (.mov (.tmp 82)), true, none⟩,
  ⟨some 84, (.fieldAddr 4 (.tmp 3)), false, some (83, false)⟩,
  ⟨some 85, (.load 1 false (.tmp 84)), true, some (83, false)⟩,
  ⟨some 86, (.un .not (.tmp 85)), true, some (83, false)⟩,
  ⟨some 87, (.mov (.tmp 86)), true, some (83, false)⟩,
  ⟨some 88, (.fieldAddr 12 (.tmp 2)), false, some (87, true)⟩,
  ⟨some 89, (.load 1 false (.tmp 88)), false, some (87, true)⟩,
  ⟨some 90, (.lenSl (.tmp 89)), false, some (87, true)⟩,
  ⟨some 91, (.bin .gtr .none (.tmp 90) (.const (.int .i64 0))), true, some (87, true)⟩,
  ⟨some 92, (.pick (.tmp 87) (.tmp 91) (.const (.bool false))), true, some (83, false)⟩,
  ⟨some 93, (.pick (.tmp 83) (.const (.bool true)) (.tmp 92)), true, none⟩]
def c63_21 : ACode := (.seq (.region o63_20 [93]) (.cond (.tmp 93) c63_19 .skip))
def w63_21 (P : Program) (Q : Exit → Slots → Mem → Prop) (M : Mem) (v2 : V) (v3 : V) : Prop :=
  @OptVH (moveV 0 v3) ⟨fun t46_1 =>
  @OptBH (loadV 1 false t46_1 M) ⟨fun b47_2 =>
  @OptBH (unV .not (.bool b47_2)) ⟨fun b48_3 =>
  @BIfH b48_3
  ⟨@OptVH (moveV 8 v2) ⟨fun t50_5 =>
  @OptVH (loadV 1 false t50_5 M) ⟨fun t51_6 =>
  @OptBH (binV .neq .none t51_6 (.int .i64 0)) ⟨fun b52_7 =>
  @BIfH b52_7
  ⟨wpC P c63_19 Q [(93, (.bool true))] M⟩
  ⟨@OptVH (moveV 1 v3) ⟨fun t55_17 =>
  @OptBH (loadV 1 false t55_17 M) ⟨fun b56_18 =>
  @OptBH (unV .not (.bool b56_18)) ⟨fun b57_19 =>
  @BIfH b57_19
  ⟨@OptVH (moveV 9 v2) ⟨fun t59_21 =>
  @OptVH (loadV 1 false t59_21 M) ⟨fun t60_22 =>
  @OptBH (binV .neq .none t60_22 (.int .i64 0)) ⟨fun b61_23 =>
  @BIfH b61_23
  ⟨wpC P c63_19 Q [(93, (.bool true))] M⟩
  ⟨@OptVH (moveV 2 v3) ⟨fun t65_32 =>
  @OptBH (loadV 1 false t65_32 M) ⟨fun b66_33 =>
  @OptBH (unV .not (.bool b66_33)) ⟨fun b67_34 =>
  @BIfH b67_34
  ⟨@OptVH (moveV 10 v2) ⟨fun t69_36 =>
  @OptVH (loadV 1 false t69_36 M) ⟨fun t70_37 =>
  @OptBH (binV .neq .none t70_37 (.int .i64 0)) ⟨fun b71_38 =>
  @BIfH b71_38
  ⟨wpC P c63_19 Q [(93, (.bool true))] M⟩
  ⟨@OptVH (moveV 3 v3) ⟨fun t75_45 =>
  @OptBH (loadV 1 false t75_45 M) ⟨fun b76_46 =>
  @OptBH (unV .not (.bool b76_46)) ⟨fun b77_47 =>
  @BIfH b77_47
  ⟨@OptVH (moveV 11 v2) ⟨fun t79_49 =>
  @OptBH (loadV 1 false t79_49 M) ⟨fun b80_50 =>
  @BIfH b80_50
  ⟨wpC P c63_19 Q [(93, (.bool true))] M⟩
  ⟨@OptVH (moveV 4 v3) ⟨fun t84_55 =>
  @OptBH (loadV 1 false t84_55 M) ⟨fun b85_56 =>
  @OptBH (unV .not (.bool b85_56)) ⟨fun b86_57 =>
  @BIfH b86_57
  ⟨@OptVH (moveV 12 v2) ⟨fun t88_59 =>
  @OptVH (loadV 1 false t88_59 M) ⟨fun t89_60 =>
  @OptVH (lenV t89_60 M) ⟨fun t90_61 =>
  @OptBH (binV .gtr .none t90_61 (.int .i64 0)) ⟨fun b91_62 =>
  @BIfH b91_62
  ⟨wpC P c63_19 Q [(93, (.bool b91_62))] M⟩
  ⟨Q .normal [(93, (.bool b91_62))] M⟩⟩⟩⟩⟩⟩
  ⟨Q .normal [(93, (.bool false))] M⟩⟩⟩⟩⟩⟩⟩⟩
  ⟨@OptVH (moveV 4 v3) ⟨fun t84_70 =>
  @OptBH (loadV 1 false t84_70 M) ⟨fun b85_71 =>
  @OptBH (unV .not (.bool b85_71)) ⟨fun b86_72 =>
  @BIfH b86_72
  ⟨@OptVH (moveV 12 v2) ⟨fun t88_74 =>
  @OptVH (loadV 1 false t88_74 M) ⟨fun t89_75 =>
  @OptVH (lenV t89_75 M) ⟨fun t90_76 =>
  @OptBH (binV .gtr .none t90_76 (.int .i64 0)) ⟨fun b91_77 =>
  @BIfH b91_77
  ⟨wpC P c63_19 Q [(93, (.bool b91_77))] M⟩
  ⟨Q .normal [(93, (.bool b91_77))] M⟩⟩⟩⟩⟩⟩
  ⟨Q .normal [(93, (.bool false))] M⟩⟩⟩⟩⟩⟩⟩⟩⟩⟩⟩⟩⟩
  ⟨@OptVH (moveV 3 v3) ⟨fun t75_85 =>
  @OptBH (loadV 1 false t75_85 M) ⟨fun b76_86 =>
  @OptBH (unV .not (.bool b76_86)) ⟨fun b77_87 =>
  @BIfH b77_87
  ⟨@OptVH (moveV 11 v2) ⟨fun t79_89 =>
  @OptBH (loadV 1 false t79_89 M) ⟨fun b80_90 =>
  @BIfH b80_90
  ⟨wpC P c63_19 Q [(93, (.bool true))] M⟩
  ⟨@OptVH (moveV 4 v3) ⟨fun t84_95 =>
  @OptBH (loadV 1 false t84_95 M) ⟨fun b85_96 =>
  @OptBH (unV .not (.bool b85_96)) ⟨fun b86_97 =>
  @BIfH b86_97
  ⟨@OptVH (moveV 12 v2) ⟨fun t88_99 =>
  @OptVH (loadV 1 false t88_99 M) ⟨fun t89_100 =>
  @OptVH (lenV t89_100 M) ⟨fun t90_101 =>
  @OptBH (binV .gtr .none t90_101 (.int .i64 0)) ⟨fun b91_102 =>
  @BIfH b91_102
  ⟨wpC P c63_19 Q [(93, (.bool b91_102))] M⟩
  ⟨Q .normal [(93, (.bool b91_102))] M⟩⟩⟩⟩⟩⟩
  ⟨Q .normal [(93, (.bool false))] M⟩⟩⟩⟩⟩⟩⟩⟩
  ⟨@OptVH (moveV 4 v3) ⟨fun t84_110 =>
  @OptBH (loadV 1 false t84_110 M) ⟨fun b85_111 =>
  @OptBH (unV .not (.bool b85_111)) ⟨fun b86_112 =>
  @BIfH b86_112
  ⟨@OptVH (moveV 12 v2) ⟨fun t88_114 =>
  @OptVH (loadV 1 false t88_114 M) ⟨fun t89_115 =>
  @OptVH (lenV t89_115 M) ⟨fun t90_116 =>
  @OptBH (binV .gtr .none t90_116 (.int .i64 0)) ⟨fun b91_117 =>
  @BIfH b91_117
  ⟨wpC P c63_19 Q [(93, (.bool b91_117))] M⟩
  ⟨Q .normal [(93, (.bool b91_117))] M⟩⟩⟩⟩⟩⟩
  ⟨Q .normal [(93, (.bool false))] M⟩⟩⟩⟩⟩⟩⟩⟩⟩⟩⟩⟩⟩⟩⟩⟩⟩
  ⟨@OptVH (moveV 2 v3) ⟨fun t65_125 =>
  @OptBH (loadV 1 false t65_125 M) ⟨fun b66_126 =>
  @OptBH (unV .not (.bool b66_126)) ⟨fun b67_127 =>
  @BIfH b67_127
  ⟨@OptVH (moveV 10 v2) ⟨fun t69_129 =>
  @OptVH (loadV 1 false t69_129 M) ⟨fun t70_130 =>
  @OptBH (binV .neq .none t70_130 (.int .i64 0)) ⟨fun b71_131 =>
  @BIfH b71_131
  ⟨wpC P c63_19 Q [(93, (.bool true))] M⟩
  ⟨@OptVH (moveV 3 v3) ⟨fun t75_138 =>
  @OptBH (loadV 1 false t75_138 M) ⟨fun b76_139 =>
  @OptBH (unV .not (.bool b76_139)) ⟨fun b77_140 =>
  @BIfH b77_140
  ⟨@OptVH (moveV 11 v2) ⟨fun t79_142 =>
  @OptBH (loadV 1 false t79_142 M) ⟨fun b80_143 =>
  @BIfH b80_143
  ⟨wpC P c63_19 Q [(93, (.bool true))] M⟩
  ⟨@OptVH (moveV 4 v3) ⟨fun t84_148 =>
  @OptBH (loadV 1 false t84_148 M) ⟨fun b85_149 =>
  @OptBH (unV .not (.bool b85_149)) ⟨fun b86_150 =>
  @BIfH b86_150
  ⟨@OptVH (moveV 12 v2) ⟨fun t88_152 =>
  @OptVH (loadV 1 false t88_152 M) ⟨fun t89_153 =>
  @OptVH (lenV t89_153 M) ⟨fun t90_154 =>
  @OptBH (binV .gtr .none t90_154 (.int .i64 0)) ⟨fun b91_155 =>
  @BIfH b91_155
  ⟨wpC P c63_19 Q [(93, (.bool b91_155))] M⟩
  ⟨Q .normal [(93, (.bool b91_155))] M⟩⟩⟩⟩⟩⟩
  ⟨Q .normal [(93, (.bool false))] M⟩⟩⟩⟩⟩⟩⟩⟩
  ⟨@OptVH (moveV 4 v3) ⟨fun t84_163 =>
  @OptBH (loadV 1 false t84_163 M) ⟨fun b85_164 =>
  @OptBH (unV .not (.bool b85_164)) ⟨fun b86_165 =>
  @BIfH b86_165
  ⟨@OptVH (moveV 12 v2) ⟨fun t88_167 =>
  @OptVH (loadV 1 false t88_167 M) ⟨fun t89_168 =>
  @OptVH (lenV t89_168 M) ⟨fun t90_169 =>
  @OptBH (binV .gtr .none t90_169 (.int .i64 0)) ⟨fun b91_170 =>
  @BIfH b91_170
  ⟨wpC P c63_19 Q [(93, (.bool b91_170))] M⟩
  ⟨Q .normal [(93, (.bool b91_170))] M⟩⟩⟩⟩⟩⟩
  ⟨Q .normal [(93, (.bool false))] M⟩⟩⟩⟩⟩⟩⟩⟩⟩⟩⟩⟩⟩
  ⟨@OptVH (moveV 3 v3) ⟨fun t75_178 =>
  @OptBH (loadV 1 false t75_178 M) ⟨fun b76_179 =>
  @OptBH (unV .not (.bool b76_179)) ⟨fun b77_180 =>
  @BIfH b77_180
  ⟨@OptVH (moveV 11 v2) ⟨fun t79_182 =>
  @OptBH (loadV 1 false t79_182 M) ⟨fun b80_183 =>
  @BIfH b80_183
  ⟨wpC P c63_19 Q [(93, (.bool true))] M⟩
  ⟨@OptVH (moveV 4 v3) ⟨fun t84_188 =>
  @OptBH (loadV 1 false t84_188 M) ⟨fun b85_189 =>
  @OptBH (unV .not (.bool b85_189)) ⟨fun b86_190 =>
  @BIfH b86_190
  ⟨@OptVH (moveV 12 v2) ⟨fun t88_192 =>
  @OptVH (loadV 1 false t88_192 M) ⟨fun t89_193 =>
  @OptVH (lenV t89_193 M) ⟨fun t90_194 =>
  @OptBH (binV .gtr .none t90_194 (.int .i64 0)) ⟨fun b91_195 =>
  @BIfH b91_195
  ⟨wpC P c63_19 Q [(93, (.bool b91_195))] M⟩
  ⟨Q .normal [(93, (.bool b91_195))] M⟩⟩⟩⟩⟩⟩
  ⟨Q .normal [(93, (.bool false))] M⟩⟩⟩⟩⟩⟩⟩⟩
  ⟨@OptVH (moveV 4 v3) ⟨fun t84_203 =>
  @OptBH (loadV 1 false t84_203 M) ⟨fun b85_204 =>
  @OptBH (unV .not (.bool b85_204)) ⟨fun b86_205 =>
  @BIfH b86_205
  ⟨@OptVH (moveV 12 v2) ⟨fun t88_207 =>
  @OptVH (loadV 1 false t88_207 M) ⟨fun t89_208 =>
  @OptVH (lenV t89_208 M) ⟨fun t90_209 =>
  @OptBH (binV .gtr .none t90_209 (.int .i64 0)) ⟨fun b91_210 =>
  @BIfH b91_210
  ⟨wpC P c63_19 Q [(93, (.bool b91_210))] M⟩
  ⟨Q .normal [(93, (.bool b91_210))] M⟩⟩⟩⟩⟩⟩
  ⟨Q .normal [(93, (.bool false))] M⟩⟩⟩⟩⟩⟩⟩⟩⟩⟩⟩⟩⟩⟩⟩⟩⟩⟩⟩⟩⟩
  ⟨@OptVH (moveV 1 v3) ⟨fun t55_217 =>
  @OptBH (loadV 1 false t55_217 M) ⟨fun b56_218 =>
  @OptBH (unV .not (.bool b56_218)) ⟨fun b57_219 =>
  @BIfH b57_219
  ⟨@OptVH (moveV 9 v2) ⟨fun t59_221 =>
  @OptVH (loadV 1 false t59_221 M) ⟨fun t60_222 =>
  @OptBH (binV .neq .none t60_222 (.int .i64 0)) ⟨fun b61_223 =>
  @BIfH b61_223
  ⟨wpC P c63_19 Q [(93, (.bool true))] M⟩
  ⟨@OptVH (moveV 2 v3) ⟨fun t65_232 =>
  @OptBH (loadV 1 false t65_232 M) ⟨fun b66_233 =>
  @OptBH (unV .not (.bool b66_233)) ⟨fun b67_234 =>
  @BIfH b67_234
  ⟨@OptVH (moveV 10 v2) ⟨fun t69_236 =>
  @OptVH (loadV 1 false t69_236 M) ⟨fun t70_237 =>
  @OptBH (binV .neq .none t70_237 (.int .i64 0)) ⟨fun b71_238 =>
  @BIfH b71_238
  ⟨wpC P c63_19 Q [(93, (.bool true))] M⟩
  ⟨@OptVH (moveV 3 v3) ⟨fun t75_245 =>
  @OptBH (loadV 1 false t75_245 M) ⟨fun b76_246 =>
  @OptBH (unV .not (.bool b76_246)) ⟨fun b77_247 =>
  @BIfH b77_247
  ⟨@OptVH (moveV 11 v2) ⟨fun t79_249 =>
  @OptBH (loadV 1 false t79_249 M) ⟨fun b80_250 =>
  @BIfH b80_250
  ⟨wpC P c63_19 Q [(93, (.bool true))] M⟩
  ⟨@OptVH (moveV 4 v3) ⟨fun t84_255 =>
  @OptBH (loadV 1 false t84_255 M) ⟨fun b85_256 =>
  @OptBH (unV .not (.bool b85_256)) ⟨fun b86_257 =>
  @BIfH b86_257
  ⟨@OptVH (moveV 12 v2) ⟨fun t88_259 =>
  @OptVH (loadV 1 false t88_259 M) ⟨fun t89_260 =>
  @OptVH (lenV t89_260 M) ⟨fun t90_261 =>
  @OptBH (binV .gtr .none t90_261 (.int .i64 0)) ⟨fun b91_262 =>
  @BIfH b91_262
  ⟨wpC P c63_19 Q [(93, (.bool b91_262))] M⟩
  ⟨Q .normal [(93, (.bool b91_262))] M⟩⟩⟩⟩⟩⟩
  ⟨Q .normal [(93, (.bool false))] M⟩⟩⟩⟩⟩⟩⟩⟩
  ⟨@OptVH (moveV 4 v3) ⟨fun t84_270 =>
  @OptBH (loadV 1 false t84_270 M) ⟨fun b85_271 =>
  @OptBH (unV .not (.bool b85_271)) ⟨fun b86_272 =>
  @BIfH b86_272
  ⟨@OptVH (moveV 12 v2) ⟨fun t88_274 =>
  @OptVH (loadV 1 false t88_274 M) ⟨fun t89_275 =>
  @OptVH (lenV t89_275 M) ⟨fun t90_276 =>
  @OptBH (binV .gtr .none t90_276 (.int .i64 0)) ⟨fun b91_277 =>
  @BIfH b91_277
  ⟨wpC P c63_19 Q [(93, (.bool b91_277))] M⟩
  ⟨Q .normal [(93, (.bool b91_277))] M⟩⟩⟩⟩⟩⟩
  ⟨Q .normal [(93, (.bool false))] M⟩⟩⟩⟩⟩⟩⟩⟩⟩⟩⟩⟩⟩
  ⟨@OptVH (moveV 3 v3) ⟨fun t75_285 =>
  @OptBH (loadV 1 false t75_285 M) ⟨fun b76_286 =>
  @OptBH (unV .not (.bool b76_286)) ⟨fun b77_287 =>
  @BIfH b77_287
  ⟨@OptVH (moveV 11 v2) ⟨fun t79_289 =>
  @OptBH (loadV 1 false t79_289 M) ⟨fun b80_290 =>
  @BIfH b80_290
  ⟨wpC P c63_19 Q [(93, (.bool true))] M⟩
  ⟨@OptVH (moveV 4 v3) ⟨fun t84_295 =>
  @OptBH (loadV 1 false t84_295 M) ⟨fun b85_296 =>
  @OptBH (unV .not (.bool b85_296)) ⟨fun b86_297 =>
  @BIfH b86_297
  ⟨@OptVH (moveV 12 v2) ⟨fun t88_299 =>
  @OptVH (loadV 1 false t88_299 M) ⟨fun t89_300 =>
  @OptVH (lenV t89_300 M) ⟨fun t90_301 =>
  @OptBH (binV .gtr .none t90_301 (.int .i64 0)) ⟨fun b91_302 =>
  @BIfH b91_302
  ⟨wpC P c63_19 Q [(93, (.bool b91_302))] M⟩
  ⟨Q .normal [(93, (.bool b91_302))] M⟩⟩⟩⟩⟩⟩
  ⟨Q .normal [(93, (.bool false))] M⟩⟩⟩⟩⟩⟩⟩⟩
  ⟨@OptVH (moveV 4 v3) ⟨fun t84_310 =>
  @OptBH (loadV 1 false t84_310 M) ⟨fun b85_311 =>
  @OptBH (unV .not (.bool b85_311)) ⟨fun b86_312 =>
  @BIfH b86_312
  ⟨@OptVH (moveV 12 v2) ⟨fun t88_314 =>
  @OptVH (loadV 1 false t88_314 M) ⟨fun t89_315 =>
  @OptVH (lenV t89_315 M) ⟨fun t90_316 =>
  @OptBH (binV .gtr .none t90_316 (.int .i64 0)) ⟨fun b91_317 =>
  @BIfH b91_317
  ⟨wpC P c63_19 Q [(93, (.bool b91_317))] M⟩
  ⟨Q .normal [(93, (.bool b91_317))] M⟩⟩⟩⟩⟩⟩
  ⟨Q .normal [(93, (.bool false))] M⟩⟩⟩⟩⟩⟩⟩⟩⟩⟩⟩⟩⟩⟩⟩⟩⟩
  ⟨@OptVH (moveV 2 v3) ⟨fun t65_325 =>
  @OptBH (loadV 1 false t65_325 M) ⟨fun b66_326 =>
  @OptBH (unV .not (.bool b66_326)) ⟨fun b67_327 =>
  @BIfH b67_327
  ⟨@OptVH (moveV 10 v2) ⟨fun t69_329 =>
  @OptVH (loadV 1 false t69_329 M) ⟨fun t70_330 =>
  @OptBH (binV .neq .none t70_330 (.int .i64 0)) ⟨fun b71_331 =>
  @BIfH b71_331
  ⟨wpC P c63_19 Q [(93, (.bool true))] M⟩
  ⟨@OptVH (moveV 3 v3) ⟨fun t75_338 =>
  @OptBH (loadV 1 false t75_338 M) ⟨fun b76_339 =>
  @OptBH (unV .not (.bool b76_339)) ⟨fun b77_340 =>
  @BIfH b77_340
  ⟨@OptVH (moveV 11 v2) ⟨fun t79_342 =>
  @OptBH (loadV 1 false t79_342 M) ⟨fun b80_343 =>
  @BIfH b80_343
  ⟨wpC P c63_19 Q [(93, (.bool true))] M⟩
  ⟨@OptVH (moveV 4 v3) ⟨fun t84_348 =>
  @OptBH (loadV 1 false t84_348 M) ⟨fun b85_349 =>
  @OptBH (unV .not (.bool b85_349)) ⟨fun b86_350 =>
  @BIfH b86_350
  ⟨@OptVH (moveV 12 v2) ⟨fun t88_352 =>
  @OptVH (loadV 1 false t88_352 M) ⟨fun t89_353 =>
  @OptVH (lenV t89_353 M) ⟨fun t90_354 =>
  @OptBH (binV .gtr .none t90_354 (.int .i64 0)) ⟨fun b91_355 =>
  @BIfH b91_355
  ⟨wpC P c63_19 Q [(93, (.bool b91_355))] M⟩
  ⟨Q .normal [(93, (.bool b91_355))] M⟩⟩⟩⟩⟩⟩
  ⟨Q .normal [(93, (.bool false))] M⟩⟩⟩⟩⟩⟩⟩⟩
  ⟨@OptVH (moveV 4 v3) ⟨fun t84_363 =>
  @OptBH (loadV 1 false t84_363 M) ⟨fun b85_364 =>
  @OptBH (unV .not (.bool b85_364)) ⟨fun b86_365 =>
  @BIfH b86_365
  ⟨@OptVH (moveV 12 v2) ⟨fun t88_367 =>
  @OptVH (loadV 1 false t88_367 M) ⟨fun t89_368 =>
  @OptVH (lenV t89_368 M) ⟨fun t90_369 =>
  @OptBH (binV .gtr .none t90_369 (.int .i64 0)) ⟨fun b91_370 =>
  @BIfH b91_370
  ⟨wpC P c63_19 Q [(93, (.bool b91_370))] M⟩
  ⟨Q .normal [(93, (.bool b91_370))] M⟩⟩⟩⟩⟩⟩
  ⟨Q .normal [(93, (.bool false))] M⟩⟩⟩⟩⟩⟩⟩⟩⟩⟩⟩⟩⟩
  ⟨@OptVH (moveV 3 v3) ⟨fun t75_378 =>
  @OptBH (loadV 1 false t75_378 M) ⟨fun b76_379 =>
  @OptBH (unV .not (.bool b76_379)) ⟨fun b77_380 =>
  @BIfH b77_380
  ⟨@OptVH (moveV 11 v2) ⟨fun t79_382 =>
  @OptBH (loadV 1 false t79_382 M) ⟨fun b80_383 =>
  @BIfH b80_383
  ⟨wpC P c63_19 Q [(93, (.bool true))] M⟩
  ⟨@OptVH (moveV 4 v3) ⟨fun t84_388 =>
  @OptBH (loadV 1 false t84_388 M) ⟨fun b85_389 =>
  @OptBH (unV .not (.bool b85_389)) ⟨fun b86_390 =>
  @BIfH b86_390
  ⟨@OptVH (moveV 12 v2) ⟨fun t88_392 =>
  @OptVH (loadV 1 false t88_392 M) ⟨fun t89_393 =>
  @OptVH (lenV t89_393 M) ⟨fun t90_394 =>
  @OptBH (binV .gtr .none t90_394 (.int .i64 0)) ⟨fun b91_395 =>
  @BIfH b91_395
  ⟨wpC P c63_19 Q [(93, (.bool b91_395))] M⟩
  ⟨Q .normal [(93, (.bool b91_395))] M⟩⟩⟩⟩⟩⟩
  ⟨Q .normal [(93, (.bool false))] M⟩⟩⟩⟩⟩⟩⟩⟩
  ⟨@OptVH (moveV 4 v3) ⟨fun t84_403 =>
  @OptBH (loadV 1 false t84_403 M) ⟨fun b85_404 =>
  @OptBH (unV .not (.bool b85_404)) ⟨fun b86_405 =>
  @BIfH b86_405
  ⟨@OptVH (moveV 12 v2) ⟨fun t88_407 =>
  @OptVH (loadV 1 false t88_407 M) ⟨fun t89_408 =>
  @OptVH (lenV t89_408 M) ⟨fun t90_409 =>
  @OptBH (binV .gtr .none t90_409 (.int .i64 0)) ⟨fun b91_410 =>
  @BIfH b91_410
  ⟨wpC P c63_19 Q [(93, (.bool b91_410))] M⟩
  ⟨Q .normal [(93, (.bool b91_410))] M⟩⟩⟩⟩⟩⟩
  ⟨Q .normal [(93, (.bool false))] M⟩⟩⟩⟩⟩⟩⟩⟩⟩⟩⟩⟩⟩⟩⟩⟩⟩⟩⟩⟩
theorem e63_21 (P : Program) (Q : Exit → Slots → Mem → Prop) (s : Slots) (M : Mem) : wpC P c63_21 Q s M = w63_21 P Q M (sget s 2) (sget s 3) := by kernel_rfl
def o63_22 : List AOper := [⟨some 4, (.mov (.const (.int .i64 0))), false, none⟩]
def c63_23 : ACode := (.region o63_22 [4])
def w63_23 (_P : Program) (Q : Exit → Slots → Mem → Prop) (M : Mem) : Prop :=
  Q .normal [(4, (.int .i64 0))] M
theorem e63_23 (P : Program) (Q : Exit → Slots → Mem → Prop) (s : Slots) (M : Mem) : wpC P c63_23 Q s M = w63_23 P Q M := by kernel_rfl
def c63_24 : ACode := (.seq c63_23 .ret)
def c63_25 : ACode := (.seq c63_21 c63_24)
def c63_26 : ACode := (.seq c63_16 c63_25)
def c63_27 : ACode := (.seq c63_6 c63_26)
def c63_28 : ACode := (.seq c63_1 c63_27)
def fn_message_checkKind : AFn := ⟨94, [(.tmp 4)], c63_28⟩
theorem fn_message_checkKind_ok : resFn PR h_message_checkKind i_message_checkKind = some fn_message_checkKind := by kernel_rfl

def h_message_used : Hints := ⟨[(0, [0, 2]), (1, [2, 3]), (2, [2, 3, 4]), (3, [2]), (4, [2, 3, 7]), (5, [2]), (6, [2, 3, 10]), (7, [2]), (8, [2, 13]), (9, [2]), (10, [2])], [], []⟩
def o64_0 : List AOper := [⟨some 2, (.alloc [(.bool false), (.bool false), (.bool false), (.bool false), (.bool false)]), false, none⟩]
def c64_1 : ACode := (.region o64_0 [0, 2])
def w64_1 (_P : Program) (Q : Exit → Slots → Mem → Prop) (M : Mem) (v0 : V) : Prop :=
  @OptMH (allocV [(.bool false), (.bool false), (.bool false), (.bool false), (.bool false)] M) ⟨fun t2_1 M1 =>
  Q .normal [(0, v0), (2, t2_1)] M1⟩
theorem e64_1 (P : Program) (Q : Exit → Slots → Mem → Prop) (s : Slots) (M : Mem) : wpC P c64_1 Q s M = w64_1 P Q M (sget s 0) := by kernel_rfl
def o64_2 : List AOper := [⟨some 3, (.mov (.tmp 0)), false, none⟩]
def c64_3 : ACode := (.region o64_2 [2, 3])
def w64_3 (_P : Program) (Q : Exit → Slots → Mem → Prop) (M : Mem) (v0 : V) (v2 : V) : Prop :=
  Q .normal [(2, v2), (3, v0)] M
theorem e64_3 (P : Program) (Q : Exit → Slots → Mem → Prop) (s : Slots) (M : Mem) : wpC P c64_3 Q s M = w64_3 P Q M (sget s 0) (sget s 2) := by kernel_rfl
def o64_4 : List AOper := [⟨some 6, (.build [(.bool false), (.bool false), (.bool false), (.bool false), (.bool false)] [(0, (1, (.const (.bool true)))), (1, (1, (.const (.bool true))))]), false, none⟩,
  ⟨none, (.store 5 (.tmp 2) (.tmp 6)), false, none⟩]
def c64_5 : ACode := (.region o64_4 [2])
def w64_5 (_P : Program) (Q : Exit → Slots → Mem → Prop) (M : Mem) (v2 : V) : Prop :=
  @OptVH (buildV [(.bool false), (.bool false), (.bool false), (.bool false), (.bool false)] [(0, 1, (.bool true)), (1, 1, (.bool true))]) ⟨fun t6_1 =>
  @OptMH (storeVM 5 v2 t6_1 M) ⟨fun _tx_2 M2 =>
  Q .normal [(2, v2)] M2⟩⟩
theorem e64_5 (P : Program) (Q : Exit → Slots → Mem → Prop) (s : Slots) (M : Mem) : wpC P c64_5 Q s M = w64_5 P Q M (sget s 2) := by kernel_rfl
def c64_6 : ACode := (.seq c64_5 .ret)
def o64_7 : List AOper := [⟨some 9, (.build [(.bool false), (.bool false), (.bool false), (.bool false), (.bool false)] [(0, (1, (.const (.bool true))))]), false, none⟩,
  ⟨none, (.store 5 (.tmp 2) (.tmp 9)), false, none⟩]
def c64_8 : ACode := (.region o64_7 [2])
def w64_8 (_P : Program) (Q : Exit → Slots → Mem → Prop) (M : Mem) (v2 : V) : Prop :=
  @OptVH (buildV [(.bool false), (.bool false), (.bool false), (.bool false), (.bool false)] [(0, 1, (.bool true))]) ⟨fun t9_1 =>
  @OptMH (storeVM 5 v2 t9_1 M) ⟨fun _tx_2 M2 =>
  Q .normal [(2, v2)] M2⟩⟩
theorem e64_8 (P : Program) (Q : Exit → Slots → Mem → Prop) (s : Slots) (M : Mem) : wpC P c64_8 Q s M = w64_8 P Q M (sget s 2) := by kernel_rfl
def c64_9 : ACode := (.seq c64_8 .ret)
def o64_10 : List AOper := [⟨some 12, (.build [(.bool false), (.bool false), (.bool false), (.bool false), (.bool false)] [(4, (1, (.const (.bool true))))]), false, none⟩,
  ⟨none, (.store 5 (.tmp 2) (.tmp 12)), false, none⟩]
def c64_11 : ACode := (.region o64_10 [2])
def w64_11 (_P : Program) (Q : Exit → Slots → Mem → Prop) (M : Mem) (v2 : V) : Prop :=
  @OptVH (buildV [(.bool false), (.bool false), (.bool false), (.bool false), (.bool false)] [(4, 1, (.bool true))]) ⟨fun t12_1 =>
  @OptMH (storeVM 5 v2 t12_1 M) ⟨fun _tx_2 M2 =>
  Q .normal [(2, v2)] M2⟩⟩
theorem e64_11 (P : Program) (Q : Exit → Slots → Mem → Prop) (s : Slots) (M : Mem) : wpC P c64_11 Q s M = w64_11 P Q M (sget s 2) := by kernel_rfl
def c64_12 : ACode := (.seq c64_11 .ret)
def o64_13 : List AOper := [⟨some 15, (.build [(.bool false), (.bool false), (.bool false), (.bool false), (.bool false)] [(2, (1, (.const (.bool true)))), (3, (1, (.const (.bool true)))), (4, (1, (.const (.bool true))))]), false, none⟩,
  ⟨none, (.store 5 (.tmp 2) (.tmp 15)), false, none⟩]
def c64_14 : ACode := (.region o64_13 [2])
def w64_14 (_P : Program) (Q : Exit → Slots → Mem → Prop) (M : Mem) (v2 : V) : Prop :=
  @OptVH (buildV [(.bool false), (.bool false), (.bool false), (.bool false), (.bool false)] [(2, 1, (.bool true)), (3, 1, (.bool true)), (4, 1, (.bool true))]) ⟨fun t15_1 =>
  @OptMH (storeVM 5 v2 t15_1 M) ⟨fun _tx_2 M2 =>
  Q .normal [(2, v2)] M2⟩⟩
theorem e64_14 (P : Program) (Q : Exit → Slots → Mem → Prop) (s : Slots) (M : Mem) : wpC P c64_14 Q s M = w64_14 P Q M (sget s 2) := by kernel_rfl
def c64_15 : ACode := (.seq c64_14 .ret)
def o64_16 : List AOper := [⟨some 14, (.bin .eql .none (.tmp 3) (.const (.int .i64 5))), true, none⟩,
  ⟨some 13, (.mov (.tmp 14)), true, none⟩]
def c64_17 : ACode := (.seq (.region o64_16 [2, 13]) (.cond (.tmp 13) c64_15 .skip))
def w64_17 (P : Program) (Q : Exit → Slots → Mem → Prop) (M : Mem) (v2 : V) (v3 : V) : Prop :=
  @OptBH (binV .eql .none v3 (.int .i64 5)) ⟨fun b14_1 =>
  @BIfH b14_1
  ⟨wpC P c64_15 Q [(2, v2), (13, (.bool b14_1))] M⟩
  ⟨Q .normal [(2, v2), (13, (.bool b14_1))] M⟩⟩
theorem e64_17 (P : Program) (Q : Exit → Slots → Mem → Prop) (s : Slots) (M : Mem) : wpC P c64_17 Q s M = w64_17 P Q M (sget s 2) (sget s 3) := by kernel_rfl
def o64_18 : List AOper := [⟨some 11, (.bin .eql .none (.tmp 3) (.const (.int .i64 4))), true, none⟩,
  ⟨some 10, (.mov (.tmp 11)), true, none⟩]
def c64_19 : ACode := (.seq (.region o64_18 [2, 3, 10]) (.cond (.tmp 10) c64_12 c64_17))
def w64_19 (P : Program) (Q : Exit → Slots → Mem → Prop) (M : Mem) (v2 : V) (v3 : V) : Prop :=
  @OptBH (binV .eql .none v3 (.int .i64 4)) ⟨fun b11_1 =>
  @BIfH b11_1
  ⟨wpC P c64_12 Q [(2, v2), (3, v3), (10, (.bool b11_1))] M⟩
  ⟨wpC P c64_17 Q [(2, v2), (3, v3), (10, (.bool b11_1))] M⟩⟩
theorem e64_19 (P : Program) (Q : Exit → Slots → Mem → Prop) (s : Slots) (M : Mem) : wpC P c64_19 Q s M = w64_19 P Q M (sget s 2) (sget s 3) := by kernel_rfl
def o64_20 : List AOper := [⟨some 8, (.bin .eql .none (.tmp 3) (.const (.int .i64 3))), true, none⟩,
  ⟨some 7, (.mov (.tmp 8)), true, none⟩]
def c64_21 : ACode := (.seq (.region o64_20 [2, 3, 7]) (.cond (.tmp 7) c64_9 c64_19))
def w64_21 (P : Program) (Q : Exit → Slots → Mem → Prop) (M : Mem) (v2 : V) (v3 : V) : Prop :=
  @OptBH (binV .eql .none v3 (.int .i64 3)) ⟨fun b8_1 =>
  @BIfH b8_1
  ⟨wpC P c64_9 Q [(2, v2), (3, v3), (7, (.bool b8_1))] M⟩
  ⟨wpC P c64_19 Q [(2, v2), (3, v3), (7, (.bool b8_1))] M⟩⟩
theorem e64_21 (P : Program) (Q : Exit → Slots → Mem → Prop) (s : Slots) (M : Mem) : wpC P c64_21 Q s M = w64_21 P Q M (sget s 2) (sget s 3) := by kernel_rfl
def o64_22 : List AOper := [⟨some 5, (.bin .eql .none (.tmp 3) (.const (.int .i64 1))), true, none⟩,
  ⟨some 4, (.mov (.tmp 5)), true, none⟩]
def c64_23 : ACode := (.seq (.region o64_22 [2, 3, 4]) (.cond (.tmp 4) c64_6 c64_21))
def w64_23 (P : Program) (Q : Exit → Slots → Mem → Prop) (M : Mem) (v2 : V) (v3 : V) : Prop :=
  @OptBH (binV .eql .none v3 (.int .i64 1)) ⟨fun b5_1 =>
  @BIfH b5_1
  ⟨wpC P c64_6 Q [(2, v2), (3, v3), (4, (.bool b5_1))] M⟩
  ⟨wpC P c64_21 Q [(2, v2), (3, v3), (4, (.bool b5_1))] M⟩⟩
theorem e64_23 (P : Program) (Q : Exit → Slots → Mem → Prop) (s : Slots) (M : Mem) : wpC P c64_23 Q s M = w64_23 P Q M (sget s 2) (sget s 3) := by kernel_rfl
def c64_24 : ACode := (.block 0 c64_23)
def c64_25 : ACode := (.seq c64_3 c64_24)
def o64_26 : List AOper := [⟨some 16, (.build [(.bool false), (.bool false), (.bool false), (.bool false), (.bool false)] []), false, none⟩,
  ⟨none, (.store 5 (.tmp 2) (.tmp 16)), false, none⟩]
def c64_27 : ACode := (.region o64_26 [2])
def w64_27 (_P : Program) (Q : Exit → Slots → Mem → Prop) (M : Mem) (v2 : V) : Prop :=
  @OptVH (buildV [(.bool false), (.bool false), (.bool false), (.bool false), (.bool false)] []) ⟨fun t16_1 =>
  @OptMH (storeVM 5 v2 t16_1 M) ⟨fun _tx_2 M2 =>
  Q .normal [(2, v2)] M2⟩⟩
theorem e64_27 (P : Program) (Q : Exit → Slots → Mem → Prop) (s : Slots) (M : Mem) : wpC P c64_27 Q s M = w64_27 P Q M (sget s 2) := by kernel_rfl
def c64_28 : ACode := (.seq c64_27 .ret)
def c64_29 : ACode := (.seq c64_25 c64_28)
def c64_30 : ACode := (.seq c64_1 c64_29)
def fn_message_used : AFn := ⟨17, [(.cell 2 5 true)], c64_30⟩
theorem fn_message_used_ok : resFn PR h_message_used i_message_used = some fn_message_used := by kernel_rfl

def h_transitref32_Current : Hints := ⟨[(0, [2, 3, 4]), (1, [6])], [], []⟩
def o65_0 : List AOper := [⟨some 3, (.box 3 (.tmp 0)), false, none⟩,
  ⟨some 4, (.box 13 (.tmp 1)), false, none⟩,
  ⟨some 6, (.mov (.const (.bool false))), true, none⟩]
def c65_1 : ACode := (.region o65_0 [2, 3, 4])
def w65_1 (_P : Program) (Q : Exit → Slots → Mem → Prop) (M : Mem) (v0 : V) (v1 : V) (v2 : V) : Prop :=
  @OptMH (boxV 3 v0 M) ⟨fun t3_1 M1 =>
  @OptMH (boxV 13 v1 M1) ⟨fun t4_2 M2 =>
  Q .normal [(2, v2), (3, t3_1), (4, t4_2)] M2⟩⟩
theorem e65_1 (P : Program) (Q : Exit → Slots → Mem → Prop) (s : Slots) (M : Mem) : wpC P c65_1 Q s M = w65_1 P Q M (sget s 0) (sget s 1) (sget s 2) := by kernel_rfl
def o65_2 : List AOper := [⟨some 7, (.fieldAddr 2 (.tmp 4)), false, none⟩,
  ⟨some 8, (.load 1 false (.tmp 7)), false, none⟩,
  ⟨some 9, (.mov (.tmp 2)), false, none⟩,
  ⟨some 10, (.bin .leq .none (.tmp 8) (.tmp 9)), true, none⟩,
  ⟨some 11, (.mov (.tmp 10)), true, none⟩,
  ⟨some 12, (.fieldAddr 3 (.tmp 4)), false, some (11, true)⟩,
  ⟨some 13, (.load 1 false (.tmp 12)), false, some (11, true)⟩,
  ⟨some 14, (.mov (.tmp 2)), false, some (11, true)⟩,
  ⟨some 15, (.bin .gtr .none (.tmp 13) (.tmp 14)), true, some (11, true)⟩,
  ⟨some 16, (.pick (.tmp 11) (.tmp 15) (.const (.bool false))), true, none⟩,
  ⟨some 17, (.mov (.tmp 16)), true, none⟩,
  ⟨some 18, (.load 3 true (.tmp 3)), false, some (17, true)⟩,
  ⟨some 19, (.fieldAddr 0 (.tmp 4)), false, some (17, true)⟩,
  ⟨some 20, (.load 1 false (.tmp 19)), false, some (17, true)⟩,
  ⟨some 21, (.mov (.tmp 2)), false, some (17, true)⟩,
  ⟨some 22, (.call i_transitref32_Failed [(.tmp 18), (.tmp 20), (.tmp 21)]), true, some (17, true)⟩,
  ⟨some 23, (.un .not (.tmp 22)), true, some (17, true)⟩,
  ⟨some 24, (.pick (.tmp 17) (.tmp 23) (.const (.bool false))), true, none⟩,
  ⟨some 6, (.mov (.tmp 24)), true, none⟩]
def c65_3 : ACode := (.region o65_2 [6])
def w65_3 (P : Program) (Q : Exit → Slots → Mem → Prop) (M : Mem) (v2 : V) (v3 : V) (v4 : V) : Prop :=
  @OptVH (moveV 2 v4) ⟨fun t7_1 =>
  @OptVH (loadV 1 false t7_1 M) ⟨fun t8_2 =>
  @OptBH (binV .leq .none t8_2 v2) ⟨fun b10_4 =>
  @BIfH b10_4
  ⟨@OptVH (moveV 3 v4) ⟨fun t12_6 =>
  @OptVH (loadV 1 false t12_6 M) ⟨fun t13_7 =>
  @OptBH (binV .gtr .none t13_7 v2) ⟨fun b15_9 =>
  @BIfH b15_9
  ⟨@OptVH (loadV 3 true v3 M) ⟨fun t18_12 =>
  @OptVH (moveV 0 v4) ⟨fun t19_13 =>
  @OptVH (loadV 1 false t19_13 M) ⟨fun t20_14 =>
  @CallH P i_transitref32_Failed [t18_12, t20_14, v2] M ⟨fun t22_16 M16 => @OptBH (some t22_16) ⟨fun b22_16 =>
  @OptBH (unV .not (.bool b22_16)) ⟨fun b23_17 =>
  Q .normal [(6, (.bool b23_17))] M16⟩⟩⟩⟩⟩⟩⟩
  ⟨Q .normal [(6, (.bool false))] M⟩⟩⟩⟩⟩
  ⟨Q .normal [(6, (.bool false))] M⟩⟩⟩⟩
theorem e65_3 (P : Program) (Q : Exit → Slots → Mem → Prop) (s : Slots) (M : Mem) : wpC P c65_3 Q s M = w65_3 P Q M (sget s 2) (sget s 3) (sget s 4) := by kernel_rfl
def c65_4 : ACode := (.seq c65_3 .ret)
def c65_5 : ACode := (.seq c65_1 c65_4)
def fn_transitref32_Current : AFn := ⟨25, [(.tmp 6)], c65_5⟩
theorem fn_transitref32_Current_ok : resFn PR h_transitref32_Current i_transitref32_Current = some fn_transitref32_Current := by kernel_rfl

def h_call_Check : Hints := ⟨[(0, [0, 1, 2, 3]), (1, [0, 1, 2, 3, 19]), (2, [8, 9]), (3, [0, 1, 2, 3, 21, 22]), (4, [0, 1, 2, 3, 21, 22, 23]), (5, [0, 1, 2, 3, 10, 21, 22]), (6, [0, 1, 2, 3, 10, 11, 21, 22]), (7, [0, 1, 2, 3, 10, 11, 21, 22, 32]), (8, [8, 9]), (9, [0, 1, 2, 3, 21, 22]), (10, [8, 9])], [(4, [0, 1, 2, 3, 21, 22])], []⟩
def o66_0 : List AOper := [⟨some 8, (.mov (.const (.int .i64 0))), false, none⟩,
  ⟨some 9, (.mov (.const (.int .i64 0))), false, none⟩]
def c66_1 : ACode := (.region o66_0 [0, 1, 2, 3])
def w66_1 (_P : Program) (Q : Exit → Slots → Mem → Prop) (M : Mem) (v0 : V) (v1 : V) (v2 : V) (v3 : V) : Prop :=
  Q .normal [(0, v0), (1, v1), (2, v2), (3, v3)] M
theorem e66_1 (P : Program) (Q : Exit → Slots → Mem → Prop) (s : Slots) (M : Mem) : wpC P c66_1 Q s M = w66_1 P Q M (sget s 0) (sget s 1) (sget s 2) (sget s 3) := by kernel_rfl
def o66_2 : List AOper := [⟨some 8, (.mov (.const (.int .i64 0))), false, none⟩,
  ⟨some 9, (.mov (.const (.int .i64 5))), false, none⟩]
def c66_3 : ACode := (.region o66_2 [8, 9])
def w66_3 (_P : Program) (Q : Exit → Slots → Mem → Prop) (M : Mem) : Prop :=
  Q .normal [(8, (.int .i64 0)), (9, (.int .i64 5))] M
theorem e66_3 (P : Program) (Q : Exit → Slots → Mem → Prop) (s : Slots) (M : Mem) : wpC P c66_3 Q s M = w66_3 P Q M := by kernel_rfl
def c66_4 : ACode := (.seq c66_3 .ret)
def o66_5 : List AOper := [⟨some 12, (.mov (.tmp 0)), false, none⟩,
  ⟨some 13, (.lenSl (.tmp 12)), false, none⟩,
  ⟨some 14, (.bin .lss .none (.tmp 13) (.const (.int .i64 2))), true, none⟩,
  ⟨some 15, (.mov (.tmp 14)), true, none⟩,
  ⟨some 16, (.mov (.tmp 0)), false, some (15, false)⟩,
  ⟨some 17, (.lenSl (.tmp 16)), false, some (15, false)⟩,
  ⟨some 18, (.bin .gtr .none (.tmp 17) (.const (.int .i64 32))), true, some (15, false)⟩,
  ⟨some 19, (.pick (.tmp 15) (.const (.bool true)) (.tmp 18)), true, none⟩]
def c66_6 : ACode := (.seq (.region o66_5 [0, 1, 2, 3, 19]) (.cond (.tmp 19) c66_4 .skip))
def w66_6 (P : Program) (Q : Exit → Slots → Mem → Prop) (M : Mem) (v0 : V) (v1 : V) (v2 : V) (v3 : V) : Prop :=
  @OptVH (lenV v0 M) ⟨fun t13_2 =>
  @OptBH (binV .lss .none t13_2 (.int .i64 2)) ⟨fun b14_3 =>
  @BIfH b14_3
  ⟨wpC P c66_4 Q [(0, v0), (1, v1), (2, v2), (3, v3), (19, (.bool true))] M⟩
  ⟨@OptVH (lenV v0 M) ⟨fun t17_7 =>
  @OptBH (binV .gtr .none t17_7 (.int .i64 32)) ⟨fun b18_8 =>
  @BIfH b18_8
  ⟨wpC P c66_4 Q [(0, v0), (1, v1), (2, v2), (3, v3), (19, (.bool b18_8))] M⟩
  ⟨Q .normal [(0, v0), (1, v1), (2, v2), (3, v3), (19, (.bool b18_8))] M⟩⟩⟩⟩⟩⟩
theorem e66_6 (P : Program) (Q : Exit → Slots → Mem → Prop) (s : Slots) (M : Mem) : wpC P c66_6 Q s M = w66_6 P Q M (sget s 0) (sget s 1) (sget s 2) (sget s 3) := by kernel_rfl
def o66_7 : List AOper := [⟨some 20, (.mov (.tmp 0)), false, none⟩,
  ⟨some 21, (.lenSl (.tmp 20)), false, none⟩,
  ⟨some 22, (.mov (.const (.int .i64 0))), false, none⟩]
def c66_8 : ACode := (.region o66_7 [0, 1, 2, 3, 21, 22])
def w66_8 (_P : Program) (Q : Exit → Slots → Mem → Prop) (M : Mem) (v0 : V) (v1 : V) (v2 : V) (v3 : V) : Prop :=
  @OptVH (lenV v0 M) ⟨fun t21_2 =>
  Q .normal [(0, v0), (1, v1), (2, v2), (3, v3), (21, t21_2), (22, (.int .i64 0))] M⟩
theorem e66_8 (P : Program) (Q : Exit → Slots → Mem → Prop) (s : Slots) (M : Mem) : wpC P c66_8 Q s M = w66_8 P Q M (sget s 0) (sget s 1) (sget s 2) (sget s 3) := by kernel_rfl
def o66_9 : List AOper := [⟨some 23, (.bin .lss .none (.tmp 22) (.tmp 21)), false, none⟩]
def c66_10 : ACode := (.region o66_9 [0, 1, 2, 3, 21, 22, 23])
def w66_10 (_P : Program) (Q : Exit → Slots → Mem → Prop) (M : Mem) (v0 : V) (v1 : V) (v2 : V) (v3 : V) (v21 : V) (v22 : V) : Prop :=
  @OptVH (binV .lss .none v22 v21) ⟨fun t23_1 =>
  Q .normal [(0, v0), (1, v1), (2, v2), (3, v3), (21, v21), (22, v22), (23, t23_1)] M⟩
theorem e66_10 (P : Program) (Q : Exit → Slots → Mem → Prop) (s : Slots) (M : Mem) : wpC P c66_10 Q s M = w66_10 P Q M (sget s 0) (sget s 1) (sget s 2) (sget s 3) (sget s 21) (sget s 22) := by kernel_rfl
def c66_11 : ACode := (.cond (.tmp 23) .skip (.exit 0))
def o66_12 : List AOper := [⟨some 24, (.mov (.tmp 22)), false, none⟩,
  ⟨some 10, (.mov (.tmp 24)), false, none⟩]
def c66_13 : ACode := (.region o66_12 [0, 1, 2, 3, 10, 21, 22])
def w66_13 (_P : Program) (Q : Exit → Slots → Mem → Prop) (M : Mem) (v0 : V) (v1 : V) (v2 : V) (v3 : V) (v21 : V) (v22 : V) : Prop :=
  Q .normal [(0, v0), (1, v1), (2, v2), (3, v3), (10, v22), (21, v21), (22, v22)] M
theorem e66_13 (P : Program) (Q : Exit → Slots → Mem → Prop) (s : Slots) (M : Mem) : wpC P c66_13 Q s M = w66_13 P Q M (sget s 0) (sget s 1) (sget s 2) (sget s 3) (sget s 21) (sget s 22) := by kernel_rfl
def o66_14 : List AOper := [⟨some 25, (.mov (.tmp 0)), false, none⟩,
  ⟨some 26, (.mov (.tmp 10)), false, none⟩,
  ⟨some 27, (.mov (.tmp 1)), false, none⟩,
  ⟨some 28, (.mov (.tmp 2)), false, none⟩,
  ⟨some 29, (.mov (.tmp 3)), false, none⟩,
  ⟨some 30, (.call i_call_one [(.tmp 25), (.tmp 26), (.tmp 27), (.tmp 28), (.tmp 29)]), false, none⟩,
  ⟨some 11, (.mov (.tmp 30)), false, none⟩]
def c66_15 : ACode := (.region o66_14 [0, 1, 2, 3, 10, 11, 21, 22])
def w66_15 (P : Program) (Q : Exit → Slots → Mem → Prop) (M : Mem) (v0 : V) (v1 : V) (v2 : V) (v3 : V) (v10 : V) (v21 : V) (v22 : V) : Prop :=
  @CallH P i_call_one [v0, v10, v1, v2, v3] M ⟨fun t30_6 M6 =>
  Q .normal [(0, v0), (1, v1), (2, v2), (3, v3), (10, v10), (11, t30_6), (21, v21), (22, v22)] M6⟩
theorem e66_15 (P : Program) (Q : Exit → Slots → Mem → Prop) (s : Slots) (M : Mem) : wpC P c66_15 Q s M = w66_15 P Q M (sget s 0) (sget s 1) (sget s 2) (sget s 3) (sget s 10) (sget s 21) (sget s 22) := by kernel_rfl
def o66_16 : List AOper := [⟨some 33, (.mov (.tmp 10)), false, none⟩,
  ⟨some 34, (.mov (.tmp 11)), false, none⟩,
  ⟨some 8, (.mov (.tmp 33)), false, none⟩,
  ⟨some 9, (.mov (.tmp 34)), false, none⟩]
def c66_17 : ACode := (.region o66_16 [8, 9])
def w66_17 (_P : Program) (Q : Exit → Slots → Mem → Prop) (M : Mem) (v10 : V) (v11 : V) : Prop :=
  Q .normal [(8, v10), (9, v11)] M
theorem e66_17 (P : Program) (Q : Exit → Slots → Mem → Prop) (s : Slots) (M : Mem) : wpC P c66_17 Q s M = w66_17 P Q M (sget s 10) (sget s 11) := by kernel_rfl
def c66_18 : ACode := (.seq c66_17 .ret)
def o66_19 : List AOper := [⟨some 31, (.mov (.tmp 11)), false, none⟩,
  ⟨some 32, (.bin .neq .none (.tmp 31) (.const (.int .i64 0))), true, none⟩]
def c66_20 : ACode := (.seq (.region o66_19 [0, 1, 2, 3, 10, 11, 21, 22, 32]) (.cond (.tmp 32) c66_18 .skip))
def w66_20 (P : Program) (Q : Exit → Slots → Mem → Prop) (M : Mem) (v0 : V) (v1 : V) (v2 : V) (v3 : V) (v10 : V) (v11 : V) (v21 : V) (v22 : V) : Prop :=
  @OptBH (binV .neq .none v11 (.int .i64 0)) ⟨fun b32_2 =>
  @BIfH b32_2
  ⟨wpC P c66_18 Q [(0, v0), (1, v1), (2, v2), (3, v3), (10, v10), (11, v11), (21, v21), (22, v22), (32, (.bool b32_2))] M⟩
  ⟨Q .normal [(0, v0), (1, v1), (2, v2), (3, v3), (10, v10), (11, v11), (21, v21), (22, v22), (32, (.bool b32_2))] M⟩⟩
theorem e66_20 (P : Program) (Q : Exit → Slots → Mem → Prop) (s : Slots) (M : Mem) : wpC P c66_20 Q s M = w66_20 P Q M (sget s 0) (sget s 1) (sget s 2) (sget s 3) (sget s 10) (sget s 11) (sget s 21) (sget s 22) := by kernel_rfl
def c66_21 : ACode := (.seq c66_15 c66_20)
def c66_22 : ACode := (.seq c66_13 c66_21)
def c66_23 : ACode := (.block 1 c66_22)
def o66_24 : List AOper := [⟨some 35, (.bin .add .none (.tmp 22) (.const (.int .i64 1))), false, none⟩,
  ⟨some 22, (.mov (.tmp 35)), false, none⟩]
def c66_25 : ACode := (.region o66_24 [0, 1, 2, 3, 21, 22])
def w66_25 (_P : Program) (Q : Exit → Slots → Mem → Prop) (M : Mem) (v0 : V) (v1 : V) (v2 : V) (v3 : V) (v21 : V) (v22 : V) : Prop :=
  @OptVH (binV .add .none v22 (.int .i64 1)) ⟨fun t35_1 =>
  Q .normal [(0, v0), (1, v1), (2, v2), (3, v3), (21, v21), (22, t35_1)] M⟩
theorem e66_25 (P : Program) (Q : Exit → Slots → Mem → Prop) (s : Slots) (M : Mem) : wpC P c66_25 Q s M = w66_25 P Q M (sget s 0) (sget s 1) (sget s 2) (sget s 3) (sget s 21) (sget s 22) := by kernel_rfl
def c66_26 : ACode := (.seq c66_23 c66_25)
def c66_27 : ACode := (.seq c66_11 c66_26)
def c66_28 : ACode := (.seq c66_10 c66_27)
def c66_29 : ACode := (.loop [0, 1, 2, 3, 21, 22] c66_28)
def c66_30 : ACode := (.block 0 c66_29)
def c66_31 : ACode := (.seq c66_8 c66_30)
def o66_32 : List AOper := [⟨some 8, (.mov (.const (.int .i64 0))), false, none⟩,
  ⟨some 9, (.mov (.const (.int .i64 0))), false, none⟩]
def c66_33 : ACode := (.region o66_32 [8, 9])
def w66_33 (_P : Program) (Q : Exit → Slots → Mem → Prop) (M : Mem) : Prop :=
  Q .normal [(8, (.int .i64 0)), (9, (.int .i64 0))] M
theorem e66_33 (P : Program) (Q : Exit → Slots → Mem → Prop) (s : Slots) (M : Mem) : wpC P c66_33 Q s M = w66_33 P Q M := by kernel_rfl
def c66_34 : ACode := (.seq c66_33 .ret)
def c66_35 : ACode := (.seq c66_31 c66_34)
def c66_36 : ACode := (.seq c66_6 c66_35)
def c66_37 : ACode := (.seq c66_1 c66_36)
def fn_call_Check : AFn := ⟨36, [(.tmp 8), (.tmp 9)], c66_37⟩
theorem fn_call_Check_ok : resFn PR h_call_Check i_call_Check = some fn_call_Check := by kernel_rfl

def h_call_one : Hints := ⟨[(0, [0, 1, 2, 3, 4]), (1, [0, 1, 2, 3, 4, 11]), (2, [0, 1, 3, 4, 11, 24]), (3, [10]), (4, [0, 1, 3, 4, 11, 37]), (5, [10]), (6, [69]), (7, [10]), (8, [10])], [], []⟩
def o67_0 : List AOper := [⟨some 10, (.mov (.const (.int .i64 0))), false, none⟩]
def c67_1 : ACode := (.region o67_0 [0, 1, 2, 3, 4])
def w67_1 (_P : Program) (Q : Exit → Slots → Mem → Prop) (M : Mem) (v0 : V) (v1 : V) (v2 : V) (v3 : V) (v4 : V) : Prop :=
  Q .normal [(0, v0), (1, v1), (2, v2), (3, v3), (4, v4)] M
theorem e67_1 (P : Program) (Q : Exit → Slots → Mem → Prop) (s : Slots) (M : Mem) : wpC P c67_1 Q s M = w67_1 P Q M (sget s 0) (sget s 1) (sget s 2) (sget s 3) (sget s 4) := by kernel_rfl
def o67_2 : List AOper := [⟨some 12, (.mov (.tmp 0)), false, none⟩,
  ⟨some 13, (.mov (.tmp 1)), false, none⟩,
  ⟨some 14, (.indexSl 5 (.tmp 12) (.tmp 13)), false, none⟩,
  ⟨some 15, (.load 5 true (.tmp 14)), false, none⟩,
  ⟨some 11, (.alloc [(.int .i64 0), (.int .i64 0), (.int .i64 0), (.bool false), (.bool false)]), false, none⟩,
  ⟨none, (.store 5 (.tmp 11) (.tmp 15)), false, none⟩]
def c67_3 : ACode := (.region o67_2 [0, 1, 2, 3, 4, 11])
def w67_3 (_P : Program) (Q : Exit → Slots → Mem → Prop) (M : Mem) (v0 : V) (v1 : V) (v2 : V) (v3 : V) (v4 : V) : Prop :=
  @OptVH (indexSlV 5 v0 v1 M) ⟨fun t14_3 =>
  @OptVH (loadV 5 true t14_3 M) ⟨fun t15_4 =>
  @OptMH (allocV [(.int .i64 0), (.int .i64 0), (.int .i64 0), (.bool false), (.bool false)] M) ⟨fun t11_5 M5 =>
  @OptMH (storeVM 5 t11_5 t15_4 M5) ⟨fun _tx_6 M6 =>
  Q .normal [(0, v0), (1, v1), (2, v2), (3, v3), (4, v4), (11, t11_5)] M6⟩⟩⟩⟩
theorem e67_3 (P : Program) (Q : Exit → Slots → Mem → Prop) (s : Slots) (M : Mem) : wpC P c67_3 Q s M = w67_3 P Q M (sget s 0) (sget s 1) (sget s 2) (sget s 3) (sget s 4) := by kernel_rfl
def o67_4 : List AOper := [⟨some 10, (.mov (.const (.int .i64 9))), false, none⟩]
def c67_5 : ACode := (.region o67_4 [10])
def w67_5 (_P : Program) (Q : Exit → Slots → Mem → Prop) (M : Mem) : Prop :=
  Q .normal [(10, (.int .i64 9))] M
theorem e67_5 (P : Program) (Q : Exit → Slots → Mem → Prop) (s : Slots) (M : Mem) : wpC P c67_5 Q s M = w67_5 P Q M := by kernel_rfl
def c67_6 : ACode := (.seq c67_5 .ret)
def o67_7 : List AOper := [⟨some 16, (.fieldAddr 0 (.tmp 11)), false, none⟩,
  ⟨some 17, (.load 1 false (.tmp 16)), false, none⟩,
  ⟨some 18, (.bin .lss .none (.tmp 17) (.const (.int .i64 0))), true, none⟩,
  ⟨some 19, (.mov (.tmp 18)), true, none⟩,
  ⟨some 20, (.fieldAddr 0 (.tmp 11)), false, some (19, false)⟩,
  ⟨some 21, (.load 1 false (.tmp 20)), false, some (19, false)⟩,
  ⟨some 22, (.mov (.tmp 2)), false, some (19, false)⟩,
  ⟨some 23, (.bin .geq .none (.tmp 21) (.tmp 22)), true, some (19, false)⟩,
  ⟨some 24, (.pick (.tmp 19) (.const (.bool true)) (.tmp 23)), true, none⟩]
def c67_8 : ACode := (.seq (.region o67_7 [0, 1, 3, 4, 11, 24]) (.cond (.tmp 24) c67_6 .skip))
def w67_8 (P : Program) (Q : Exit → Slots → Mem → Prop) (M : Mem) (v0 : V) (v1 : V) (v2 : V) (v3 : V) (v4 : V) (v11 : V) : Prop :=
  @OptVH (moveV 0 v11) ⟨fun t16_1 =>
  @OptVH (loadV 1 false t16_1 M) ⟨fun t17_2 =>
  @OptBH (binV .lss .none t17_2 (.int .i64 0)) ⟨fun b18_3 =>
  @BIfH b18_3
  ⟨wpC P c67_6 Q [(0, v0), (1, v1), (3, v3), (4, v4), (11, v11), (24, (.bool true))] M⟩
  ⟨@OptVH (moveV 0 v11) ⟨fun t20_6 =>
  @OptVH (loadV 1 false t20_6 M) ⟨fun t21_7 =>
  @OptBH (binV .geq .none t21_7 v2) ⟨fun b23_9 =>
  @BIfH b23_9
  ⟨wpC P c67_6 Q [(0, v0), (1, v1), (3, v3), (4, v4), (11, v11), (24, (.bool b23_9))] M⟩
  ⟨Q .normal [(0, v0), (1, v1), (3, v3), (4, v4), (11, v11), (24, (.bool b23_9))] M⟩⟩⟩⟩⟩⟩⟩⟩
theorem e67_8 (P : Program) (Q : Exit → Slots → Mem → Prop) (s : Slots) (M : Mem) : wpC P c67_8 Q s M = w67_8 P Q M (sget s 0) (sget s 1) (sget s 2) (sget s 3) (sget s 4) (sget s 11) := by kernel_rfl
def o67_9 : List AOper := [⟨some 10, (.mov (.const (.int .i64 13))), false, none⟩]
def c67_10 : ACode := (.region o67_9 [10])
def w67_10 (_P : Program) (Q : Exit → Slots → Mem → Prop) (M : Mem) : Prop :=
  Q .normal [(10, (.int .i64 13))] M
theorem e67_10 (P : Program) (Q : Exit → Slots → Mem → Prop) (s : Slots) (M : Mem) : wpC P c67_10 Q s M = w67_10 P Q M := by kernel_rfl
def c67_11 : ACode := (.seq c67_10 .ret)
def o67_12 : List AOper := [⟨some 25, (.mov (.tmp 1)), false, none⟩,
  ⟨some 26, (.bin .gtr .none (.tmp 25) (.const (.int .i64 0))), true, none⟩,
  ⟨some 27, (.mov (.tmp 26)), true, none⟩,
  ⟨some 28, (.mov (.tmp 0)), false, some (27, true)⟩,
  ⟨some 29, (.mov (.tmp 1)), false, some (27, true)⟩,
  ⟨some 30, (.bin .sub .none (.tmp 29) (.const (.int .i64 1))), false, some (27, true)⟩,
  ⟨some 31, (.indexSl 5 (.tmp 28) (.tmp 30)), false, some (27, true)⟩,
  ⟨some 32, (.fieldAddr 0 (.tmp 31)), false, some (27, true)⟩,
  ⟨some 33, (.load 1 false (.tmp 32)), false, some (27, true)⟩,
  ⟨some 34, (.fieldAddr 0 (.tmp 11)), false, some (27, true)⟩,
  ⟨some 35, (.load 1 false (.tmp 34)), false, some (27, true)⟩,
  ⟨some 36, (.bin .eql .none (.tmp 33) (.tmp 35)), true, some (27, true)⟩,
  ⟨some 37, (.pick (.tmp 27) (.tmp 36) (.const (.bool false))), true, none⟩]
def c67_13 : ACode := (.seq (.mixed o67_12 [true, true, true, true, true, true, true, true, true, true, true, true, true] [0, 1, 3, 4, 11, 37]) (.cond (.tmp 37) c67_11 .skip))
def w67_13 (P : Program) (Q : Exit → Slots → Mem → Prop) (M : Mem) (v0 : V) (v1 : V) (v3 : V) (v4 : V) (v11 : V) : Prop :=
  @OptBH (binV .gtr .none v1 (.int .i64 0)) ⟨fun b26_2 =>
  @BIfH b26_2
  ⟨@OptVH (binV .sub .none v1 (.int .i64 1)) ⟨fun t30_6 =>
  @OptVH (indexSlV 5 v0 t30_6 M) ⟨fun t31_7 =>
  @OptVH (moveV 0 t31_7) ⟨fun t32_8 =>
  @OptVH (loadV 1 false t32_8 M) ⟨fun t33_9 =>
  @OptVH (moveV 0 v11) ⟨fun t34_10 =>
  @OptVH (loadV 1 false t34_10 M) ⟨fun t35_11 =>
  @OptBH (binV .eql .none t33_9 t35_11) ⟨fun b36_12 =>
  @BIfH b36_12
  ⟨wpC P c67_11 Q [(0, v0), (1, v1), (3, v3), (4, v4), (11, v11), (37, (.bool b36_12))] M⟩
  ⟨Q .normal [(0, v0), (1, v1), (3, v3), (4, v4), (11, v11), (37, (.bool b36_12))] M⟩⟩⟩⟩⟩⟩⟩⟩⟩
  ⟨Q .normal [(0, v0), (1, v1), (3, v3), (4, v4), (11, v11), (37, (.bool false))] M⟩⟩
theorem e67_13 (P : Program) (Q : Exit → Slots → Mem → Prop) (s : Slots) (M : Mem) : wpC P c67_13 Q s M = w67_13 P Q M (sget s 0) (sget s 1) (sget s 3) (sget s 4) (sget s 11) := by kernel_rfl
def o67_14 : List AOper := [⟨some 10, (.mov (.const (.int .i64 10))), false, none⟩]
def c67_15 : ACode := (.region o67_14 [10])
def w67_15 (_P : Program) (Q : Exit → Slots → Mem → Prop) (M : Mem) : Prop :=
  Q .normal [(10, (.int .i64 10))] M
theorem e67_15 (P : Program) (Q : Exit → Slots → Mem → Prop) (s : Slots) (M : Mem) : wpC P c67_15 Q s M = w67_15 P Q M := by kernel_rfl
def c67_16 : ACode := (.seq c67_15 .ret)
def o67_17 : List AOper := [⟨some 38, (.fieldAddr 1 (.tmp 11)), false, none⟩,
  ⟨some 39, (.load 1 false (.tmp 38)), false, none⟩,
  ⟨some 40, (.mov (.tmp 3)), false, none⟩,
  ⟨some 41, (.bin .lss .none (.tmp 39) (.tmp 40)), true, none⟩,
  ⟨some 42, (.mov (.tmp 41)), true, none⟩,
  ⟨some 43, (.fieldAddr 1 (.tmp 11)), false, some (42, false)⟩,
  ⟨some 44, (.load 1 false (.tmp 43)), false, some (42, false)⟩,
  ⟨some 45, (.fieldAddr 2 (.tmp 11)), false, some (42, false)⟩,
  ⟨some 46, (.load 1 false (.tmp 45)), false, some (42, false)⟩,
  ⟨some 47, (.bin .gtr .none (.tmp 44) (.tmp 46)), true, some (42, false)⟩,
  ⟨some 48, (.pick (.tmp 42) (.const (.bool true)) (.tmp 47)), true, none⟩,
  ⟨some 49, (.mov (.tmp 48)), true, none⟩,
  ⟨some 50, (.fieldAddr 2 (.tmp 11)), false, some (49, false)⟩,
  ⟨some 51, (.load 1 false (.tmp 50)), false, some (49, false)⟩,
  ⟨some 52, (.mov (.tmp 4)), false, some (49, false)⟩,
  ⟨some 53, (.bin .gtr .none (.tmp 51) (.tmp 52)), true, some (49, false)⟩,
  ⟨some 54, (.pick (.tmp 49) (.const (.bool true)) (.tmp 53)), true, none⟩,
  ⟨some 55, (.mov (.tmp 54)), true, none⟩,
  ⟨some 56, (.mov (.tmp 1)), false, some (55, false)⟩,
  ⟨some 57, (.bin .gtr .none (.tmp 56) (.const (.int .i64 0))), true, some (55, false)⟩,
  ⟨some 58, (.mov (.tmp 57)), true, some (55, false)⟩,
  ⟨some 59, (.fieldAddr 1 (.tmp 11)), false, some (58, true)⟩,
  ⟨some 60, (.load 1 false (.tmp 59)), false, some (58, true)⟩,
  ⟨some 61, (.mov (.tmp 0)), false, some (58, true)⟩,
  ⟨some 62, (.mov (.tmp 1)), false, some (58, true)⟩,
  ⟨some 63, (.bin .sub .none (.tmp 62) (.const (.int .i64 1))), false, some (58, true)⟩,
  ⟨some 64, (.indexSl 5 (.tmp 61) (.tmp 63)), false, some (58, true)⟩,
  ⟨some 65, (.fieldAddr 2 (.tmp 64)), false, some (58, true)⟩,
  ⟨some 66, (.load 1 false (.tmp 65)), false, some (58, true)⟩,
  ⟨some 67, (.bin .lss .none (.tmp 60) (.tmp 66)), true, some (58, true)⟩,
  ⟨some 68, (.pick (.tmp 58) (.tmp 67) (.const (.bool false))), true, some (55, false)⟩,
  ⟨some 69, (.pick (.tmp 55) (.const (.bool true)) (.tmp 68)), true, none⟩]
def c67_18 : ACode := (.seq (.mixed o67_17 [true, true, true, true, true, true, true, true, true, true, true, true, true, true, true, true, true, true, true, true, true, true, true, true, true, true, true, true, true, true, true, true] [69]) (.cond (.tmp 69) c67_16 .skip))
def w67_18 (P : Program) (Q : Exit → Slots → Mem → Prop) (M : Mem) (v0 : V) (v1 : V) (v3 : V) (v4 : V) (v11 : V) : Prop :=
  @OptVH (moveV 1 v11) ⟨fun t38_1 =>
  @OptVH (loadV 1 false t38_1 M) ⟨fun t39_2 =>
  @OptBH (binV .lss .none t39_2 v3) ⟨fun b41_4 =>
  @BIfH b41_4
  ⟨wpC P c67_16 Q [(69, (.bool true))] M⟩
  ⟨@OptVH (moveV 1 v11) ⟨fun t43_11 =>
  @OptVH (loadV 1 false t43_11 M) ⟨fun t44_12 =>
  @OptVH (moveV 2 v11) ⟨fun t45_13 =>
  @OptVH (loadV 1 false t45_13 M) ⟨fun t46_14 =>
  @OptBH (binV .gtr .none t44_12 t46_14) ⟨fun b47_15 =>
  @BIfH b47_15
  ⟨wpC P c67_16 Q [(69, (.bool true))] M⟩
  ⟨@OptVH (moveV 2 v11) ⟨fun t50_21 =>
  @OptVH (loadV 1 false t50_21 M) ⟨fun t51_22 =>
  @OptBH (binV .gtr .none t51_22 v4) ⟨fun b53_24 =>
  @BIfH b53_24
  ⟨wpC P c67_16 Q [(69, (.bool true))] M⟩
  ⟨@OptBH (binV .gtr .none v1 (.int .i64 0)) ⟨fun b57_29 =>
  @BIfH b57_29
  ⟨@OptVH (moveV 1 v11) ⟨fun t59_31 =>
  @OptVH (loadV 1 false t59_31 M) ⟨fun t60_32 =>
  @OptVH (binV .sub .none v1 (.int .i64 1)) ⟨fun t63_35 =>
  @OptVH (indexSlV 5 v0 t63_35 M) ⟨fun t64_36 =>
  @OptVH (moveV 2 t64_36) ⟨fun t65_37 =>
  @OptVH (loadV 1 false t65_37 M) ⟨fun t66_38 =>
  @OptBH (binV .lss .none t60_32 t66_38) ⟨fun b67_39 =>
  @BIfH b67_39
  ⟨wpC P c67_16 Q [(69, (.bool b67_39))] M⟩
  ⟨Q .normal [(69, (.bool b67_39))] M⟩⟩⟩⟩⟩⟩⟩⟩⟩
  ⟨Q .normal [(69, (.bool false))] M⟩⟩⟩⟩⟩⟩⟩⟩⟩⟩⟩⟩⟩⟩⟩⟩
theorem e67_18 (P : Program) (Q : Exit → Slots → Mem → Prop) (s : Slots) (M : Mem) : wpC P c67_18 Q s M = w67_18 P Q M (sget s 0) (sget s 1) (sget s 3) (sget s 4) (sget s 11) := by kernel_rfl
def o67_19 : List AOper := [⟨some 10, (.mov (.const (.int .i64 0))), false, none⟩]
def c67_20 : ACode := (.region o67_19 [10])
def w67_20 (_P : Program) (Q : Exit → Slots → Mem → Prop) (M : Mem) : Prop :=
  Q .normal [(10, (.int .i64 0))] M
theorem e67_20 (P : Program) (Q : Exit → Slots → Mem → Prop) (s : Slots) (M : Mem) : wpC P c67_20 Q s M = w67_20 P Q M := by kernel_rfl
def c67_21 : ACode := (.seq c67_20 .ret)
def c67_22 : ACode := (.seq c67_18 c67_21)
def c67_23 : ACode := (.seq c67_13 c67_22)
def c67_24 : ACode := (.seq c67_8 c67_23)
def c67_25 : ACode := (.seq c67_3 c67_24)
def c67_26 : ACode := (.seq c67_1 c67_25)
def fn_call_one : AFn := ⟨70, [(.tmp 10)], c67_26⟩
theorem fn_call_one_ok : resFn PR h_call_one i_call_one = some fn_call_one := by kernel_rfl

def tabL : List (Nat × AFn × Bool) := [(6, fn_transitlaw32_InboxPlays, false), (10, fn_inbox_New, true), (11, fn_transitref32_New, false), (12, fn_transitlaw32_exampleHolds, false), (13, fn_transitlaw32_played, true), (15, fn_transitlaw32_small, false), (16, fn_inbox_Inbox_Receive, true), (17, fn_transitref32_Same, false), (18, fn_inbox_Inbox_Active, false), (19, fn_inbox_Inbox_Messages, false), (20, fn_inbox_Inbox_Failed, false), (22, fn_transitref31_SameTarget, false), (24, fn_transitref32_Receive, false), (25, fn_inbox_Inbox_Heartbeat, false), (26, fn_transitref32_Heartbeat, false), (27, fn_transitlaw32_same, false), (28, fn_inbox_Inbox_Sequence, false), (29, fn_transitref31_Supersedes, false), (31, fn_transitlaw32_message, false), (32, fn_inbox_Inbox_refusal, false), (33, fn_inbox_filtered, true), (34, fn_inbox_Inbox_Receive_1, false), (35, fn_message_Supersedes, false), (36, fn_inbox_owned, false), (37, fn_inbox_heard_hear, false), (38, fn_transitref31_Equal, false), (39, fn_inbox_Inbox_Active_1, false), (40, fn_message_SameTarget, false), (41, fn_inbox_inserted_api_Message, false), (42, fn_inbox_before, false), (43, fn_inbox_Inbox_Messages_1, false), (44, fn_inbox_Inbox_exists, false), (45, fn_inbox_heard_silent, false), (46, fn_transitref32_moment, false), (47, fn_transitref31_Check, false), (48, fn_transitref32_heard, false), (49, fn_transitref32_Sequence, false), (50, fn_transitref32_Failed, false), (51, fn_transitref32_Active, false), (52, fn_transitref31_Status, false), (53, fn_message_Check, false), (54, fn_message_status, false), (55, fn_transitref16_Equal, false), (56, fn_transitref15_Name, false), (57, fn_transitref16_Check, false), (58, fn_transitref32_active, false), (59, fn_transitref32_before, false), (60, fn_message_within, false), (61, fn_ident_Valid, false), (62, fn_date_Valid, false), (63, fn_message_checkKind, false), (64, fn_message_used, false), (65, fn_transitref32_Current, false), (66, fn_call_Check, false), (67, fn_call_one, false)]
theorem tab_ok : TabOK PR (tabOf tabL) := tabOf_cons fn_transitlaw32_InboxPlays_ok (tabOf_cons fn_inbox_New_ok (tabOf_cons fn_transitref32_New_ok (tabOf_cons fn_transitlaw32_exampleHolds_ok (tabOf_cons fn_transitlaw32_played_ok (tabOf_cons fn_transitlaw32_small_ok (tabOf_cons fn_inbox_Inbox_Receive_ok (tabOf_cons fn_transitref32_Same_ok (tabOf_cons fn_inbox_Inbox_Active_ok (tabOf_cons fn_inbox_Inbox_Messages_ok (tabOf_cons fn_inbox_Inbox_Failed_ok (tabOf_cons fn_transitref31_SameTarget_ok (tabOf_cons fn_transitref32_Receive_ok (tabOf_cons fn_inbox_Inbox_Heartbeat_ok (tabOf_cons fn_transitref32_Heartbeat_ok (tabOf_cons fn_transitlaw32_same_ok (tabOf_cons fn_inbox_Inbox_Sequence_ok (tabOf_cons fn_transitref31_Supersedes_ok (tabOf_cons fn_transitlaw32_message_ok (tabOf_cons fn_inbox_Inbox_refusal_ok (tabOf_cons fn_inbox_filtered_ok (tabOf_cons fn_inbox_Inbox_Receive_1_ok (tabOf_cons fn_message_Supersedes_ok (tabOf_cons fn_inbox_owned_ok (tabOf_cons fn_inbox_heard_hear_ok (tabOf_cons fn_transitref31_Equal_ok (tabOf_cons fn_inbox_Inbox_Active_1_ok (tabOf_cons fn_message_SameTarget_ok (tabOf_cons fn_inbox_inserted_api_Message_ok (tabOf_cons fn_inbox_before_ok (tabOf_cons fn_inbox_Inbox_Messages_1_ok (tabOf_cons fn_inbox_Inbox_exists_ok (tabOf_cons fn_inbox_heard_silent_ok (tabOf_cons fn_transitref32_moment_ok (tabOf_cons fn_transitref31_Check_ok (tabOf_cons fn_transitref32_heard_ok (tabOf_cons fn_transitref32_Sequence_ok (tabOf_cons fn_transitref32_Failed_ok (tabOf_cons fn_transitref32_Active_ok (tabOf_cons fn_transitref31_Status_ok (tabOf_cons fn_message_Check_ok (tabOf_cons fn_message_status_ok (tabOf_cons fn_transitref16_Equal_ok (tabOf_cons fn_transitref15_Name_ok (tabOf_cons fn_transitref16_Check_ok (tabOf_cons fn_transitref32_active_ok (tabOf_cons fn_transitref32_before_ok (tabOf_cons fn_message_within_ok (tabOf_cons fn_ident_Valid_ok (tabOf_cons fn_date_Valid_ok (tabOf_cons fn_message_checkKind_ok (tabOf_cons fn_message_used_ok (tabOf_cons fn_transitref32_Current_ok (tabOf_cons fn_call_Check_ok (tabOf_cons fn_call_one_ok (tabOf_nil)))))))))))))))))))))))))))))))))))))))))))))))))))))))

end Go.Vm.C
