/- The abstract code of the functions that the statements reach, printed by a program, each with the equation that it is what the loaded program says. Part 1. -/
import Derived.Test.YtfjihilnldjbeaaC0
namespace Go.Vm.C
open Go.Vm
def h_product_Check : Hints := ⟨[(0, [1]), (1, [1, 22]), (2, [2, 3]), (3, [1, 26]), (4, [2, 3]), (5, [1, 4]), (6, [4, 29, 30, 31]), (7, [4, 29, 30, 31, 32]), (8, [4, 5, 6, 29, 30, 31]), (9, [4, 5, 6, 29, 30, 31, 39]), (10, [2, 3]), (11, [4, 5, 6, 29, 30, 31, 44]), (12, [2, 3]), (13, [4, 5, 6, 29, 30, 31, 73]), (14, [2, 3]), (15, [4, 29, 30, 31]), (16, [4, 29, 30, 31]), (17, [2, 3])], [(7, [4, 29, 30, 31])], []⟩
def o23_0 : List AOper := [⟨some 1, (.box 4 (.tmp 0)), false, none⟩,
  ⟨some 2, (.mov (.const (.int .i64 0))), false, none⟩,
  ⟨some 3, (.mov (.const (.int .i64 0))), false, none⟩]
def c23_1 : ACode := (.region o23_0 [1])
def w23_1 (_P : Program) (Q : Exit → Slots → Mem → Prop) (M : Mem) (v0 : V) : Prop :=
  @OptMH (boxV 4 v0 M) ⟨fun t1_1 M1 =>
  Q .normal [(1, t1_1)] M1⟩
theorem e23_1 (P : Program) (Q : Exit → Slots → Mem → Prop) (s : Slots) (M : Mem) : wpC P c23_1 Q s M = w23_1 P Q M (sget s 0) := by kernel_rfl
def o23_2 : List AOper := [⟨some 2, (.mov (.const (.int .i64 (-1)))), false, none⟩,
  ⟨some 3, (.mov (.const (.int .i64 2))), false, none⟩]
def c23_3 : ACode := (.region o23_2 [2, 3])
def w23_3 (_P : Program) (Q : Exit → Slots → Mem → Prop) (M : Mem) : Prop :=
  Q .normal [(2, (.int .i64 (-1))), (3, (.int .i64 2))] M
theorem e23_3 (P : Program) (Q : Exit → Slots → Mem → Prop) (s : Slots) (M : Mem) : wpC P c23_3 Q s M = w23_3 P Q M := by kernel_rfl
def c23_4 : ACode := (.seq c23_3 .ret)
def o23_5 : List AOper := [⟨some 7, (.fieldAddr 1 (.tmp 1)), false, none⟩,
  ⟨some 8, (.load 1 false (.tmp 7)), false, none⟩,
  ⟨some 9, (.call i_product_within [(.tmp 8), (.const (.int .i64 0)), (.const (.int .i64 1000000))]), true, none⟩,
  ⟨some 10, (.un .not (.tmp 9)), true, none⟩,
  ⟨some 11, (.mov (.tmp 10)), true, none⟩,
  ⟨some 12, (.fieldAddr 2 (.tmp 1)), false, some (11, false)⟩,
  ⟨some 13, (.load 1 false (.tmp 12)), false, some (11, false)⟩,
  ⟨some 14, (.call i_product_within [(.tmp 13), (.const (.int .i64 0)), (.const (.int .i64 86400))]), true, some (11, false)⟩,
  ⟨some 15, (.un .not (.tmp 14)), true, some (11, false)⟩,
  ⟨some 16, (.pick (.tmp 11) (.const (.bool true)) (.tmp 15)), true, none⟩,
  ⟨some 17, (.mov (.tmp 16)), true, none⟩,
  ⟨some 18, (.fieldAddr 3 (.tmp 1)), false, some (17, false)⟩,
  ⟨some 19, (.load 1 false (.tmp 18)), false, some (17, false)⟩,
  ⟨some 20, (.call i_product_within [(.tmp 19), (.const (.int .i64 0)), (.const (.int .i64 1000000))]), true, some (17, false)⟩,
  ⟨some 21, (.un .not (.tmp 20)), true, some (17, false)⟩,
  ⟨some 22, (.pick (.tmp 17) (.const (.bool true)) (.tmp 21)), true, none⟩]
def c23_6 : ACode := (.seq (.region o23_5 [1, 22]) (.cond (.tmp 22) c23_4 .skip))
def w23_6 (P : Program) (Q : Exit → Slots → Mem → Prop) (M : Mem) (v1 : V) : Prop :=
  @OptVH (moveV 1 v1) ⟨fun t7_1 =>
  @OptVH (loadV 1 false t7_1 M) ⟨fun t8_2 =>
  @CallH P i_product_within [t8_2, (.int .i64 0), (.int .i64 1000000)] M ⟨fun t9_3 M3 => @OptBH (some t9_3) ⟨fun b9_3 =>
  @OptBH (unV .not (.bool b9_3)) ⟨fun b10_4 =>
  @BIfH b10_4
  ⟨wpC P c23_4 Q [(1, v1), (22, (.bool true))] M3⟩
  ⟨@OptVH (moveV 2 v1) ⟨fun t12_9 =>
  @OptVH (loadV 1 false t12_9 M3) ⟨fun t13_10 =>
  @CallH P i_product_within [t13_10, (.int .i64 0), (.int .i64 86400)] M3 ⟨fun t14_11 M11 => @OptBH (some t14_11) ⟨fun b14_11 =>
  @OptBH (unV .not (.bool b14_11)) ⟨fun b15_12 =>
  @BIfH b15_12
  ⟨wpC P c23_4 Q [(1, v1), (22, (.bool true))] M11⟩
  ⟨@OptVH (moveV 3 v1) ⟨fun t18_16 =>
  @OptVH (loadV 1 false t18_16 M11) ⟨fun t19_17 =>
  @CallH P i_product_within [t19_17, (.int .i64 0), (.int .i64 1000000)] M11 ⟨fun t20_18 M18 => @OptBH (some t20_18) ⟨fun b20_18 =>
  @OptBH (unV .not (.bool b20_18)) ⟨fun b21_19 =>
  @BIfH b21_19
  ⟨wpC P c23_4 Q [(1, v1), (22, (.bool b21_19))] M18⟩
  ⟨Q .normal [(1, v1), (22, (.bool b21_19))] M18⟩⟩⟩⟩⟩⟩⟩⟩⟩⟩⟩⟩⟩⟩⟩⟩⟩⟩
theorem e23_6 (P : Program) (Q : Exit → Slots → Mem → Prop) (s : Slots) (M : Mem) : wpC P c23_6 Q s M = w23_6 P Q M (sget s 1) := by kernel_rfl
def o23_7 : List AOper := [⟨some 2, (.mov (.const (.int .i64 0))), false, none⟩,
  ⟨some 3, (.mov (.const (.int .i64 5))), false, none⟩]
def c23_8 : ACode := (.region o23_7 [2, 3])
def w23_8 (_P : Program) (Q : Exit → Slots → Mem → Prop) (M : Mem) : Prop :=
  Q .normal [(2, (.int .i64 0)), (3, (.int .i64 5))] M
theorem e23_8 (P : Program) (Q : Exit → Slots → Mem → Prop) (s : Slots) (M : Mem) : wpC P c23_8 Q s M = w23_8 P Q M := by kernel_rfl
def c23_9 : ACode := (.seq c23_8 .ret)
def o23_10 : List AOper := [⟨some 23, (.fieldAddr 0 (.tmp 1)), false, none⟩,
  ⟨some 24, (.load 1 false (.tmp 23)), false, none⟩,
  ⟨some 25, (.lenSl (.tmp 24)), false, none⟩,
  ⟨some 26, (.bin .gtr .none (.tmp 25) (.const (.int .i64 16))), true, none⟩]
def c23_11 : ACode := (.seq (.region o23_10 [1, 26]) (.cond (.tmp 26) c23_9 .skip))
def w23_11 (P : Program) (Q : Exit → Slots → Mem → Prop) (M : Mem) (v1 : V) : Prop :=
  @OptVH (moveV 0 v1) ⟨fun t23_1 =>
  @OptVH (loadV 1 false t23_1 M) ⟨fun t24_2 =>
  @OptVH (lenV t24_2 M) ⟨fun t25_3 =>
  @OptBH (binV .gtr .none t25_3 (.int .i64 16)) ⟨fun b26_4 =>
  @BIfH b26_4
  ⟨wpC P c23_9 Q [(1, v1), (26, (.bool b26_4))] M⟩
  ⟨Q .normal [(1, v1), (26, (.bool b26_4))] M⟩⟩⟩⟩⟩
theorem e23_11 (P : Program) (Q : Exit → Slots → Mem → Prop) (s : Slots) (M : Mem) : wpC P c23_11 Q s M = w23_11 P Q M (sget s 1) := by kernel_rfl
def o23_12 : List AOper := [⟨some 27, (.makeMap none), false, none⟩,
  ⟨some 4, (.mov (.tmp 27)), false, none⟩]
def c23_13 : ACode := (.region o23_12 [1, 4])
def w23_13 (_P : Program) (Q : Exit → Slots → Mem → Prop) (M : Mem) (v1 : V) : Prop :=
  @OptMH (makeMapV none M) ⟨fun t27_1 M1 =>
  Q .normal [(1, v1), (4, t27_1)] M1⟩
theorem e23_13 (P : Program) (Q : Exit → Slots → Mem → Prop) (s : Slots) (M : Mem) : wpC P c23_13 Q s M = w23_13 P Q M (sget s 1) := by kernel_rfl
def o23_14 : List AOper := [⟨some 28, (.fieldAddr 0 (.tmp 1)), false, none⟩,
  ⟨some 29, (.load 1 false (.tmp 28)), false, none⟩,
  ⟨some 30, (.lenSl (.tmp 29)), false, none⟩,
  ⟨some 31, (.mov (.const (.int .i64 0))), false, none⟩]
def c23_15 : ACode := (.region o23_14 [4, 29, 30, 31])
def w23_15 (_P : Program) (Q : Exit → Slots → Mem → Prop) (M : Mem) (v1 : V) (v4 : V) : Prop :=
  @OptVH (moveV 0 v1) ⟨fun t28_1 =>
  @OptVH (loadV 1 false t28_1 M) ⟨fun t29_2 =>
  @OptVH (lenV t29_2 M) ⟨fun t30_3 =>
  Q .normal [(4, v4), (29, t29_2), (30, t30_3), (31, (.int .i64 0))] M⟩⟩⟩
theorem e23_15 (P : Program) (Q : Exit → Slots → Mem → Prop) (s : Slots) (M : Mem) : wpC P c23_15 Q s M = w23_15 P Q M (sget s 1) (sget s 4) := by kernel_rfl
def o23_16 : List AOper := [⟨some 32, (.bin .lss .none (.tmp 31) (.tmp 30)), false, none⟩]
def c23_17 : ACode := (.region o23_16 [4, 29, 30, 31, 32])
def w23_17 (_P : Program) (Q : Exit → Slots → Mem → Prop) (M : Mem) (v4 : V) (v29 : V) (v30 : V) (v31 : V) : Prop :=
  @OptVH (binV .lss .none v31 v30) ⟨fun t32_1 =>
  Q .normal [(4, v4), (29, v29), (30, v30), (31, v31), (32, t32_1)] M⟩
theorem e23_17 (P : Program) (Q : Exit → Slots → Mem → Prop) (s : Slots) (M : Mem) : wpC P c23_17 Q s M = w23_17 P Q M (sget s 4) (sget s 29) (sget s 30) (sget s 31) := by kernel_rfl
def c23_18 : ACode := (.cond (.tmp 32) .skip (.exit 0))
def o23_19 : List AOper := [⟨some 33, (.mov (.tmp 31)), false, none⟩,
  ⟨some 34, (.indexSl 6 (.tmp 29) (.tmp 31)), false, none⟩,
  ⟨some 35, (.load 6 true (.tmp 34)), false, none⟩,
  ⟨some 6, (.alloc [(.str []), (.int .i64 0), (.int .i64 0), (.int .i64 0), (.int .i64 0), (.int .i64 0)]), false, none⟩,
  ⟨some 5, (.mov (.tmp 33)), false, none⟩,
  ⟨none, (.store 6 (.tmp 6) (.tmp 35)), false, none⟩]
def c23_20 : ACode := (.region o23_19 [4, 5, 6, 29, 30, 31])
def w23_20 (_P : Program) (Q : Exit → Slots → Mem → Prop) (M : Mem) (v4 : V) (v29 : V) (v30 : V) (v31 : V) : Prop :=
  @OptVH (indexSlV 6 v29 v31 M) ⟨fun t34_2 =>
  @OptVH (loadV 6 true t34_2 M) ⟨fun t35_3 =>
  @OptMH (allocV [(.str []), (.int .i64 0), (.int .i64 0), (.int .i64 0), (.int .i64 0), (.int .i64 0)] M) ⟨fun t6_4 M4 =>
  @OptMH (storeVM 6 t6_4 t35_3 M4) ⟨fun _tx_6 M6 =>
  Q .normal [(4, v4), (5, v31), (6, t6_4), (29, v29), (30, v30), (31, v31)] M6⟩⟩⟩⟩
theorem e23_20 (P : Program) (Q : Exit → Slots → Mem → Prop) (s : Slots) (M : Mem) : wpC P c23_20 Q s M = w23_20 P Q M (sget s 4) (sget s 29) (sget s 30) (sget s 31) := by kernel_rfl
def o23_21 : List AOper := [⟨some 40, (.mov (.tmp 5)), false, none⟩,
  ⟨some 2, (.mov (.tmp 40)), false, none⟩,
  ⟨some 3, (.mov (.const (.int .i64 12))), false, none⟩]
def c23_22 : ACode := (.region o23_21 [2, 3])
def w23_22 (_P : Program) (Q : Exit → Slots → Mem → Prop) (M : Mem) (v5 : V) : Prop :=
  Q .normal [(2, v5), (3, (.int .i64 12))] M
theorem e23_22 (P : Program) (Q : Exit → Slots → Mem → Prop) (s : Slots) (M : Mem) : wpC P c23_22 Q s M = w23_22 P Q M (sget s 5) := by kernel_rfl
def c23_23 : ACode := (.seq c23_22 .ret)
def o23_24 : List AOper := [⟨some 36, (.fieldAddr 0 (.tmp 6)), false, none⟩,
  ⟨some 37, (.load 1 false (.tmp 36)), false, none⟩,
  ⟨some 38, (.call i_ident_Valid [(.tmp 37)]), true, none⟩,
  ⟨some 39, (.un .not (.tmp 38)), true, none⟩]
def c23_25 : ACode := (.seq (.region o23_24 [4, 5, 6, 29, 30, 31, 39]) (.cond (.tmp 39) c23_23 .skip))
def w23_25 (P : Program) (Q : Exit → Slots → Mem → Prop) (M : Mem) (v4 : V) (v5 : V) (v6 : V) (v29 : V) (v30 : V) (v31 : V) : Prop :=
  @OptVH (moveV 0 v6) ⟨fun t36_1 =>
  @OptVH (loadV 1 false t36_1 M) ⟨fun t37_2 =>
  @CallH P i_ident_Valid [t37_2] M ⟨fun t38_3 M3 => @OptBH (some t38_3) ⟨fun b38_3 =>
  @OptBH (unV .not (.bool b38_3)) ⟨fun b39_4 =>
  @BIfH b39_4
  ⟨wpC P c23_23 Q [(4, v4), (5, v5), (6, v6), (29, v29), (30, v30), (31, v31), (39, (.bool b39_4))] M3⟩
  ⟨Q .normal [(4, v4), (5, v5), (6, v6), (29, v29), (30, v30), (31, v31), (39, (.bool b39_4))] M3⟩⟩⟩⟩⟩⟩
theorem e23_25 (P : Program) (Q : Exit → Slots → Mem → Prop) (s : Slots) (M : Mem) : wpC P c23_25 Q s M = w23_25 P Q M (sget s 4) (sget s 5) (sget s 6) (sget s 29) (sget s 30) (sget s 31) := by kernel_rfl
def o23_26 : List AOper := [⟨some 45, (.mov (.tmp 5)), false, none⟩,
  ⟨some 2, (.mov (.tmp 45)), false, none⟩,
  ⟨some 3, (.mov (.const (.int .i64 6))), false, none⟩]
def c23_27 : ACode := (.region o23_26 [2, 3])
def w23_27 (_P : Program) (Q : Exit → Slots → Mem → Prop) (M : Mem) (v5 : V) : Prop :=
  Q .normal [(2, v5), (3, (.int .i64 6))] M
theorem e23_27 (P : Program) (Q : Exit → Slots → Mem → Prop) (s : Slots) (M : Mem) : wpC P c23_27 Q s M = w23_27 P Q M (sget s 5) := by kernel_rfl
def c23_28 : ACode := (.seq c23_27 .ret)
def o23_29 : List AOper := [⟨some 41, (.mov (.tmp 4)), false, none⟩,
  ⟨some 42, (.fieldAddr 0 (.tmp 6)), false, none⟩,
  ⟨some 43, (.load 1 false (.tmp 42)), false, none⟩,
  ⟨some 44, (.lookup .str [(.bool false)] false false (.tmp 41) (.tmp 43)), true, none⟩]
def c23_30 : ACode := (.seq (.region o23_29 [4, 5, 6, 29, 30, 31, 44]) (.cond (.tmp 44) c23_28 .skip))
def w23_30 (P : Program) (Q : Exit → Slots → Mem → Prop) (M : Mem) (v4 : V) (v5 : V) (v6 : V) (v29 : V) (v30 : V) (v31 : V) : Prop :=
  @OptVH (moveV 0 v6) ⟨fun t42_2 =>
  @OptVH (loadV 1 false t42_2 M) ⟨fun t43_3 =>
  @OptBH (lookupV .str [(.bool false)] false false v4 t43_3 M) ⟨fun b44_4 =>
  @BIfH b44_4
  ⟨wpC P c23_28 Q [(4, v4), (5, v5), (6, v6), (29, v29), (30, v30), (31, v31), (44, (.bool b44_4))] M⟩
  ⟨Q .normal [(4, v4), (5, v5), (6, v6), (29, v29), (30, v30), (31, v31), (44, (.bool b44_4))] M⟩⟩⟩⟩
theorem e23_30 (P : Program) (Q : Exit → Slots → Mem → Prop) (s : Slots) (M : Mem) : wpC P c23_30 Q s M = w23_30 P Q M (sget s 4) (sget s 5) (sget s 6) (sget s 29) (sget s 30) (sget s 31) := by kernel_rfl
def o23_31 : List AOper := [⟨some 74, (.mov (.tmp 5)), false, none⟩,
  ⟨some 2, (.mov (.tmp 74)), false, none⟩,
  ⟨some 3, (.mov (.const (.int .i64 2))), false, none⟩]
def c23_32 : ACode := (.region o23_31 [2, 3])
def w23_32 (_P : Program) (Q : Exit → Slots → Mem → Prop) (M : Mem) (v5 : V) : Prop :=
  Q .normal [(2, v5), (3, (.int .i64 2))] M
theorem e23_32 (P : Program) (Q : Exit → Slots → Mem → Prop) (s : Slots) (M : Mem) : wpC P c23_32 Q s M = w23_32 P Q M (sget s 5) := by kernel_rfl
def c23_33 : ACode := (.seq c23_32 .ret)
def o23_34 : List AOper := [⟨some 46, (.fieldAddr 1 (.tmp 6)), false, none⟩,
  ⟨some 47, (.load 1 false (.tmp 46)), false, none⟩,
  ⟨some 48, (.call i_product_within [(.tmp 47), (.const (.int .i64 0)), (.const (.int .i64 1000000))]), true, none⟩,
  ⟨some 49, (.un .not (.tmp 48)), true, none⟩,
  ⟨some 50, (.mov (.tmp 49)), true, none⟩,
  ⟨some 51, (.fieldAddr 2 (.tmp 6)), false, some (50, false)⟩,
  ⟨some 52, (.load 1 false (.tmp 51)), false, some (50, false)⟩,
  ⟨some 53, (.call i_product_within [(.tmp 52), (.const (.int .i64 1)), (.const (.int .i64 8))]), true, some (50, false)⟩,
  ⟨some 54, (.un .not (.tmp 53)), true, some (50, false)⟩,
  ⟨some 55, (.pick (.tmp 50) (.const (.bool true)) (.tmp 54)), true, none⟩,
  ⟨some 56, (.mov (.tmp 55)), true, none⟩,
  ⟨some 57, (.fieldAddr 3 (.tmp 6)), false, some (56, false)⟩,
  ⟨some 58, (.load 1 false (.tmp 57)), false, some (56, false)⟩,
  ⟨some 59, (.call i_product_within [(.tmp 58), (.const (.int .i64 1)), (.const (.int .i64 16))]), true, some (56, false)⟩,
  ⟨some 60, (.un .not (.tmp 59)), true, some (56, false)⟩,
  ⟨some 61, (.pick (.tmp 56) (.const (.bool true)) (.tmp 60)), true, none⟩,
  ⟨some 62, (.mov (.tmp 61)), true, none⟩,
  ⟨some 63, (.fieldAddr 4 (.tmp 6)), false, some (62, false)⟩,
  ⟨some 64, (.load 1 false (.tmp 63)), false, some (62, false)⟩,
  ⟨some 65, (.call i_product_within [(.tmp 64), (.const (.int .i64 0)), (.const (.int .i64 86400))]), true, some (62, false)⟩,
  ⟨some 66, (.un .not (.tmp 65)), true, some (62, false)⟩,
  ⟨some 67, (.pick (.tmp 62) (.const (.bool true)) (.tmp 66)), true, none⟩,
  ⟨some 68, (.mov (.tmp 67)), true, none⟩,
  ⟨some 69, (.fieldAddr 5 (.tmp 6)), false, some (68, false)⟩,
  ⟨some 70, (.load 1 false (.tmp 69)), false, some (68, false)⟩,
  ⟨some 71, (.call i_product_within [(.tmp 70), (.const (.int .i64 1)), (.const (.int .i64 255))]), true, some (68, false)⟩,
  ⟨some 72, (.un .not (.tmp 71)), true, some (68, false)⟩,
  ⟨some 73, (.pick (.tmp 68) (.const (.bool true)) (.tmp 72)), true, none⟩]
def c23_35 : ACode := (.seq (.region o23_34 [4, 5, 6, 29, 30, 31, 73]) (.cond (.tmp 73) c23_33 .skip))
def w23_35 (P : Program) (Q : Exit → Slots → Mem → Prop) (M : Mem) (v4 : V) (v5 : V) (v6 : V) (v29 : V) (v30 : V) (v31 : V) : Prop :=
  @OptVH (moveV 1 v6) ⟨fun t46_1 =>
  @OptVH (loadV 1 false t46_1 M) ⟨fun t47_2 =>
  @CallH P i_product_within [t47_2, (.int .i64 0), (.int .i64 1000000)] M ⟨fun t48_3 M3 => @OptBH (some t48_3) ⟨fun b48_3 =>
  @OptBH (unV .not (.bool b48_3)) ⟨fun b49_4 =>
  @BIfH b49_4
  ⟨wpC P c23_33 Q [(4, v4), (5, v5), (6, v6), (29, v29), (30, v30), (31, v31), (73, (.bool true))] M3⟩
  ⟨@OptVH (moveV 2 v6) ⟨fun t51_13 =>
  @OptVH (loadV 1 false t51_13 M3) ⟨fun t52_14 =>
  @CallH P i_product_within [t52_14, (.int .i64 1), (.int .i64 8)] M3 ⟨fun t53_15 M15 => @OptBH (some t53_15) ⟨fun b53_15 =>
  @OptBH (unV .not (.bool b53_15)) ⟨fun b54_16 =>
  @BIfH b54_16
  ⟨wpC P c23_33 Q [(4, v4), (5, v5), (6, v6), (29, v29), (30, v30), (31, v31), (73, (.bool true))] M15⟩
  ⟨@OptVH (moveV 3 v6) ⟨fun t57_24 =>
  @OptVH (loadV 1 false t57_24 M15) ⟨fun t58_25 =>
  @CallH P i_product_within [t58_25, (.int .i64 1), (.int .i64 16)] M15 ⟨fun t59_26 M26 => @OptBH (some t59_26) ⟨fun b59_26 =>
  @OptBH (unV .not (.bool b59_26)) ⟨fun b60_27 =>
  @BIfH b60_27
  ⟨wpC P c23_33 Q [(4, v4), (5, v5), (6, v6), (29, v29), (30, v30), (31, v31), (73, (.bool true))] M26⟩
  ⟨@OptVH (moveV 4 v6) ⟨fun t63_33 =>
  @OptVH (loadV 1 false t63_33 M26) ⟨fun t64_34 =>
  @CallH P i_product_within [t64_34, (.int .i64 0), (.int .i64 86400)] M26 ⟨fun t65_35 M35 => @OptBH (some t65_35) ⟨fun b65_35 =>
  @OptBH (unV .not (.bool b65_35)) ⟨fun b66_36 =>
  @BIfH b66_36
  ⟨wpC P c23_33 Q [(4, v4), (5, v5), (6, v6), (29, v29), (30, v30), (31, v31), (73, (.bool true))] M35⟩
  ⟨@OptVH (moveV 5 v6) ⟨fun t69_40 =>
  @OptVH (loadV 1 false t69_40 M35) ⟨fun t70_41 =>
  @CallH P i_product_within [t70_41, (.int .i64 1), (.int .i64 255)] M35 ⟨fun t71_42 M42 => @OptBH (some t71_42) ⟨fun b71_42 =>
  @OptBH (unV .not (.bool b71_42)) ⟨fun b72_43 =>
  @BIfH b72_43
  ⟨wpC P c23_33 Q [(4, v4), (5, v5), (6, v6), (29, v29), (30, v30), (31, v31), (73, (.bool b72_43))] M42⟩
  ⟨Q .normal [(4, v4), (5, v5), (6, v6), (29, v29), (30, v30), (31, v31), (73, (.bool b72_43))] M42⟩⟩⟩⟩⟩⟩⟩⟩⟩⟩⟩⟩⟩⟩⟩⟩⟩⟩⟩⟩⟩⟩⟩⟩⟩⟩⟩⟩⟩⟩
theorem e23_35 (P : Program) (Q : Exit → Slots → Mem → Prop) (s : Slots) (M : Mem) : wpC P c23_35 Q s M = w23_35 P Q M (sget s 4) (sget s 5) (sget s 6) (sget s 29) (sget s 30) (sget s 31) := by kernel_rfl
def o23_36 : List AOper := [⟨some 75, (.mov (.tmp 4)), false, none⟩,
  ⟨some 76, (.fieldAddr 0 (.tmp 6)), false, none⟩,
  ⟨some 77, (.load 1 false (.tmp 76)), false, none⟩,
  ⟨none, (.mapUpdate .str (.tmp 75) (.tmp 77) (.const (.bool true))), false, none⟩]
def c23_37 : ACode := (.region o23_36 [4, 29, 30, 31])
def w23_37 (_P : Program) (Q : Exit → Slots → Mem → Prop) (M : Mem) (v4 : V) (v6 : V) (v29 : V) (v30 : V) (v31 : V) : Prop :=
  @OptVH (moveV 0 v6) ⟨fun t76_2 =>
  @OptVH (loadV 1 false t76_2 M) ⟨fun t77_3 =>
  @OptMH (mapUpdateVM .str v4 t77_3 (.bool true) M) ⟨fun _tx_4 M4 =>
  Q .normal [(4, v4), (29, v29), (30, v30), (31, v31)] M4⟩⟩⟩
theorem e23_37 (P : Program) (Q : Exit → Slots → Mem → Prop) (s : Slots) (M : Mem) : wpC P c23_37 Q s M = w23_37 P Q M (sget s 4) (sget s 6) (sget s 29) (sget s 30) (sget s 31) := by kernel_rfl
def c23_38 : ACode := (.seq c23_35 c23_37)
def c23_39 : ACode := (.seq c23_30 c23_38)
def c23_40 : ACode := (.seq c23_25 c23_39)
def c23_41 : ACode := (.seq c23_20 c23_40)
def c23_42 : ACode := (.block 1 c23_41)
def o23_43 : List AOper := [⟨some 78, (.bin .add .none (.tmp 31) (.const (.int .i64 1))), false, none⟩,
  ⟨some 31, (.mov (.tmp 78)), false, none⟩]
def c23_44 : ACode := (.region o23_43 [4, 29, 30, 31])
def w23_44 (_P : Program) (Q : Exit → Slots → Mem → Prop) (M : Mem) (v4 : V) (v29 : V) (v30 : V) (v31 : V) : Prop :=
  @OptVH (binV .add .none v31 (.int .i64 1)) ⟨fun t78_1 =>
  Q .normal [(4, v4), (29, v29), (30, v30), (31, t78_1)] M⟩
theorem e23_44 (P : Program) (Q : Exit → Slots → Mem → Prop) (s : Slots) (M : Mem) : wpC P c23_44 Q s M = w23_44 P Q M (sget s 4) (sget s 29) (sget s 30) (sget s 31) := by kernel_rfl
def c23_45 : ACode := (.seq c23_42 c23_44)
def c23_46 : ACode := (.seq c23_18 c23_45)
def c23_47 : ACode := (.seq c23_17 c23_46)
def c23_48 : ACode := (.loop [4, 29, 30, 31] c23_47)
def c23_49 : ACode := (.block 0 c23_48)
def c23_50 : ACode := (.seq c23_15 c23_49)
def o23_51 : List AOper := [⟨some 2, (.mov (.const (.int .i64 0))), false, none⟩,
  ⟨some 3, (.mov (.const (.int .i64 0))), false, none⟩]
def c23_52 : ACode := (.region o23_51 [2, 3])
def w23_52 (_P : Program) (Q : Exit → Slots → Mem → Prop) (M : Mem) : Prop :=
  Q .normal [(2, (.int .i64 0)), (3, (.int .i64 0))] M
theorem e23_52 (P : Program) (Q : Exit → Slots → Mem → Prop) (s : Slots) (M : Mem) : wpC P c23_52 Q s M = w23_52 P Q M := by kernel_rfl
def c23_53 : ACode := (.seq c23_52 .ret)
def c23_54 : ACode := (.seq c23_50 c23_53)
def c23_55 : ACode := (.seq c23_13 c23_54)
def c23_56 : ACode := (.seq c23_11 c23_55)
def c23_57 : ACode := (.seq c23_6 c23_56)
def c23_58 : ACode := (.seq c23_1 c23_57)
def fn_product_Check : AFn := ⟨79, [(.tmp 2), (.tmp 3)], c23_58⟩
theorem fn_product_Check_ok : resFn PR h_product_Check i_product_Check = some fn_product_Check := by kernel_rfl

def h_transitref26_Fares : Hints := ⟨[(0, [1]), (1, [1, 22]), (2, [2, 3]), (3, [1, 26]), (4, [2, 3]), (5, [1, 4]), (6, [1, 4, 31]), (7, [1, 4]), (8, [1, 4, 5]), (9, [1, 4, 5, 42]), (10, [2, 3]), (11, [1, 4, 5, 6]), (12, [1, 4, 5, 6, 46]), (13, [1, 4, 5, 6]), (14, [1, 4, 5, 6, 57]), (15, [2, 3]), (16, [1, 4, 86]), (17, [2, 3]), (18, [2, 3])], [(6, [1, 4]), (12, [1, 4, 5, 6])], []⟩
def o24_0 : List AOper := [⟨some 1, (.box 4 (.tmp 0)), false, none⟩,
  ⟨some 2, (.mov (.const (.int .i64 0))), false, none⟩,
  ⟨some 3, (.mov (.const (.int .i64 0))), false, none⟩]
def c24_1 : ACode := (.region o24_0 [1])
def w24_1 (_P : Program) (Q : Exit → Slots → Mem → Prop) (M : Mem) (v0 : V) : Prop :=
  @OptMH (boxV 4 v0 M) ⟨fun t1_1 M1 =>
  Q .normal [(1, t1_1)] M1⟩
theorem e24_1 (P : Program) (Q : Exit → Slots → Mem → Prop) (s : Slots) (M : Mem) : wpC P c24_1 Q s M = w24_1 P Q M (sget s 0) := by kernel_rfl
def o24_2 : List AOper := [⟨some 2, (.mov (.const (.int .i64 (-1)))), false, none⟩,
  ⟨some 3, (.mov (.const (.int .i64 2))), false, none⟩]
def c24_3 : ACode := (.region o24_2 [2, 3])
def w24_3 (_P : Program) (Q : Exit → Slots → Mem → Prop) (M : Mem) : Prop :=
  Q .normal [(2, (.int .i64 (-1))), (3, (.int .i64 2))] M
theorem e24_3 (P : Program) (Q : Exit → Slots → Mem → Prop) (s : Slots) (M : Mem) : wpC P c24_3 Q s M = w24_3 P Q M := by kernel_rfl
def c24_4 : ACode := (.seq c24_3 .ret)
def o24_5 : List AOper := [⟨some 7, (.fieldAddr 1 (.tmp 1)), false, none⟩,
  ⟨some 8, (.load 1 false (.tmp 7)), false, none⟩,
  ⟨some 9, (.call i_transitref26_in [(.tmp 8), (.const (.int .i64 0)), (.const (.int .i64 1000000))]), true, none⟩,
  ⟨some 10, (.un .not (.tmp 9)), true, none⟩,
  ⟨some 11, (.mov (.tmp 10)), true, none⟩,
  ⟨some 12, (.fieldAddr 2 (.tmp 1)), false, some (11, false)⟩,
  ⟨some 13, (.load 1 false (.tmp 12)), false, some (11, false)⟩,
  ⟨some 14, (.call i_transitref26_in [(.tmp 13), (.const (.int .i64 0)), (.const (.int .i64 86400))]), true, some (11, false)⟩,
  ⟨some 15, (.un .not (.tmp 14)), true, some (11, false)⟩,
  ⟨some 16, (.pick (.tmp 11) (.const (.bool true)) (.tmp 15)), true, none⟩,
  ⟨some 17, (.mov (.tmp 16)), true, none⟩,
  ⟨some 18, (.fieldAddr 3 (.tmp 1)), false, some (17, false)⟩,
  ⟨some 19, (.load 1 false (.tmp 18)), false, some (17, false)⟩,
  ⟨some 20, (.call i_transitref26_in [(.tmp 19), (.const (.int .i64 0)), (.const (.int .i64 1000000))]), true, some (17, false)⟩,
  ⟨some 21, (.un .not (.tmp 20)), true, some (17, false)⟩,
  ⟨some 22, (.pick (.tmp 17) (.const (.bool true)) (.tmp 21)), true, none⟩]
def c24_6 : ACode := (.seq (.region o24_5 [1, 22]) (.cond (.tmp 22) c24_4 .skip))
def w24_6 (P : Program) (Q : Exit → Slots → Mem → Prop) (M : Mem) (v1 : V) : Prop :=
  @OptVH (moveV 1 v1) ⟨fun t7_1 =>
  @OptVH (loadV 1 false t7_1 M) ⟨fun t8_2 =>
  @CallH P i_transitref26_in [t8_2, (.int .i64 0), (.int .i64 1000000)] M ⟨fun t9_3 M3 => @OptBH (some t9_3) ⟨fun b9_3 =>
  @OptBH (unV .not (.bool b9_3)) ⟨fun b10_4 =>
  @BIfH b10_4
  ⟨wpC P c24_4 Q [(1, v1), (22, (.bool true))] M3⟩
  ⟨@OptVH (moveV 2 v1) ⟨fun t12_9 =>
  @OptVH (loadV 1 false t12_9 M3) ⟨fun t13_10 =>
  @CallH P i_transitref26_in [t13_10, (.int .i64 0), (.int .i64 86400)] M3 ⟨fun t14_11 M11 => @OptBH (some t14_11) ⟨fun b14_11 =>
  @OptBH (unV .not (.bool b14_11)) ⟨fun b15_12 =>
  @BIfH b15_12
  ⟨wpC P c24_4 Q [(1, v1), (22, (.bool true))] M11⟩
  ⟨@OptVH (moveV 3 v1) ⟨fun t18_16 =>
  @OptVH (loadV 1 false t18_16 M11) ⟨fun t19_17 =>
  @CallH P i_transitref26_in [t19_17, (.int .i64 0), (.int .i64 1000000)] M11 ⟨fun t20_18 M18 => @OptBH (some t20_18) ⟨fun b20_18 =>
  @OptBH (unV .not (.bool b20_18)) ⟨fun b21_19 =>
  @BIfH b21_19
  ⟨wpC P c24_4 Q [(1, v1), (22, (.bool b21_19))] M18⟩
  ⟨Q .normal [(1, v1), (22, (.bool b21_19))] M18⟩⟩⟩⟩⟩⟩⟩⟩⟩⟩⟩⟩⟩⟩⟩⟩⟩⟩
theorem e24_6 (P : Program) (Q : Exit → Slots → Mem → Prop) (s : Slots) (M : Mem) : wpC P c24_6 Q s M = w24_6 P Q M (sget s 1) := by kernel_rfl
def o24_7 : List AOper := [⟨some 2, (.mov (.const (.int .i64 0))), false, none⟩,
  ⟨some 3, (.mov (.const (.int .i64 5))), false, none⟩]
def c24_8 : ACode := (.region o24_7 [2, 3])
def w24_8 (_P : Program) (Q : Exit → Slots → Mem → Prop) (M : Mem) : Prop :=
  Q .normal [(2, (.int .i64 0)), (3, (.int .i64 5))] M
theorem e24_8 (P : Program) (Q : Exit → Slots → Mem → Prop) (s : Slots) (M : Mem) : wpC P c24_8 Q s M = w24_8 P Q M := by kernel_rfl
def c24_9 : ACode := (.seq c24_8 .ret)
def o24_10 : List AOper := [⟨some 23, (.fieldAddr 0 (.tmp 1)), false, none⟩,
  ⟨some 24, (.load 1 false (.tmp 23)), false, none⟩,
  ⟨some 25, (.lenSl (.tmp 24)), false, none⟩,
  ⟨some 26, (.bin .gtr .none (.tmp 25) (.const (.int .i64 16))), true, none⟩]
def c24_11 : ACode := (.seq (.region o24_10 [1, 26]) (.cond (.tmp 26) c24_9 .skip))
def w24_11 (P : Program) (Q : Exit → Slots → Mem → Prop) (M : Mem) (v1 : V) : Prop :=
  @OptVH (moveV 0 v1) ⟨fun t23_1 =>
  @OptVH (loadV 1 false t23_1 M) ⟨fun t24_2 =>
  @OptVH (lenV t24_2 M) ⟨fun t25_3 =>
  @OptBH (binV .gtr .none t25_3 (.int .i64 16)) ⟨fun b26_4 =>
  @BIfH b26_4
  ⟨wpC P c24_9 Q [(1, v1), (26, (.bool b26_4))] M⟩
  ⟨Q .normal [(1, v1), (26, (.bool b26_4))] M⟩⟩⟩⟩⟩
theorem e24_11 (P : Program) (Q : Exit → Slots → Mem → Prop) (s : Slots) (M : Mem) : wpC P c24_11 Q s M = w24_11 P Q M (sget s 1) := by kernel_rfl
def o24_12 : List AOper := [⟨some 4, (.mov (.const (.int .i64 0))), false, none⟩]
def c24_13 : ACode := (.region o24_12 [1, 4])
def w24_13 (_P : Program) (Q : Exit → Slots → Mem → Prop) (M : Mem) (v1 : V) : Prop :=
  Q .normal [(1, v1), (4, (.int .i64 0))] M
theorem e24_13 (P : Program) (Q : Exit → Slots → Mem → Prop) (s : Slots) (M : Mem) : wpC P c24_13 Q s M = w24_13 P Q M (sget s 1) := by kernel_rfl
def o24_14 : List AOper := [⟨some 27, (.mov (.tmp 4)), false, none⟩,
  ⟨some 28, (.fieldAddr 0 (.tmp 1)), false, none⟩,
  ⟨some 29, (.load 1 false (.tmp 28)), false, none⟩,
  ⟨some 30, (.lenSl (.tmp 29)), false, none⟩,
  ⟨some 31, (.bin .lss .none (.tmp 27) (.tmp 30)), true, none⟩]
def c24_15 : ACode := (.seq (.region o24_14 [1, 4, 31]) (.cond (.tmp 31) .skip (.exit 0)))
def w24_15 (_P : Program) (Q : Exit → Slots → Mem → Prop) (M : Mem) (v1 : V) (v4 : V) : Prop :=
  @OptVH (moveV 0 v1) ⟨fun t28_2 =>
  @OptVH (loadV 1 false t28_2 M) ⟨fun t29_3 =>
  @OptVH (lenV t29_3 M) ⟨fun t30_4 =>
  @OptBH (binV .lss .none v4 t30_4) ⟨fun b31_5 =>
  @BIfH b31_5
  ⟨Q .normal [(1, v1), (4, v4), (31, (.bool b31_5))] M⟩
  ⟨Q (.exit 0) [(1, v1), (4, v4), (31, (.bool b31_5))] M⟩⟩⟩⟩⟩
theorem e24_15 (P : Program) (Q : Exit → Slots → Mem → Prop) (s : Slots) (M : Mem) : wpC P c24_15 Q s M = w24_15 P Q M (sget s 1) (sget s 4) := by kernel_rfl
def o24_16 : List AOper := [⟨some 34, (.fieldAddr 0 (.tmp 1)), false, none⟩,
  ⟨some 35, (.load 1 false (.tmp 34)), false, none⟩,
  ⟨some 36, (.mov (.tmp 4)), false, none⟩,
  ⟨some 37, (.indexSl 6 (.tmp 35) (.tmp 36)), false, none⟩,
  ⟨some 38, (.load 6 true (.tmp 37)), false, none⟩,
  ⟨some 5, (.alloc [(.str []), (.int .i64 0), (.int .i64 0), (.int .i64 0), (.int .i64 0), (.int .i64 0)]), false, none⟩,
  ⟨none, (.store 6 (.tmp 5) (.tmp 38)), false, none⟩]
def c24_17 : ACode := (.region o24_16 [1, 4, 5])
def w24_17 (_P : Program) (Q : Exit → Slots → Mem → Prop) (M : Mem) (v1 : V) (v4 : V) : Prop :=
  @OptVH (moveV 0 v1) ⟨fun t34_1 =>
  @OptVH (loadV 1 false t34_1 M) ⟨fun t35_2 =>
  @OptVH (indexSlV 6 t35_2 v4 M) ⟨fun t37_4 =>
  @OptVH (loadV 6 true t37_4 M) ⟨fun t38_5 =>
  @OptMH (allocV [(.str []), (.int .i64 0), (.int .i64 0), (.int .i64 0), (.int .i64 0), (.int .i64 0)] M) ⟨fun t5_6 M6 =>
  @OptMH (storeVM 6 t5_6 t38_5 M6) ⟨fun _tx_7 M7 =>
  Q .normal [(1, v1), (4, v4), (5, t5_6)] M7⟩⟩⟩⟩⟩⟩
theorem e24_17 (P : Program) (Q : Exit → Slots → Mem → Prop) (s : Slots) (M : Mem) : wpC P c24_17 Q s M = w24_17 P Q M (sget s 1) (sget s 4) := by kernel_rfl
def o24_18 : List AOper := [⟨some 43, (.mov (.tmp 4)), false, none⟩,
  ⟨some 2, (.mov (.tmp 43)), false, none⟩,
  ⟨some 3, (.mov (.const (.int .i64 12))), false, none⟩]
def c24_19 : ACode := (.region o24_18 [2, 3])
def w24_19 (_P : Program) (Q : Exit → Slots → Mem → Prop) (M : Mem) (v4 : V) : Prop :=
  Q .normal [(2, v4), (3, (.int .i64 12))] M
theorem e24_19 (P : Program) (Q : Exit → Slots → Mem → Prop) (s : Slots) (M : Mem) : wpC P c24_19 Q s M = w24_19 P Q M (sget s 4) := by kernel_rfl
def c24_20 : ACode := (.seq c24_19 .ret)
def o24_21 : List AOper := [⟨some 39, (.fieldAddr 0 (.tmp 5)), false, none⟩,
  ⟨some 40, (.load 1 false (.tmp 39)), false, none⟩,
  ⟨some 41, (.call i_transitref26_ValidID [(.tmp 40)]), true, none⟩,
  ⟨some 42, (.un .not (.tmp 41)), true, none⟩]
def c24_22 : ACode := (.seq (.region o24_21 [1, 4, 5, 42]) (.cond (.tmp 42) c24_20 .skip))
def w24_22 (P : Program) (Q : Exit → Slots → Mem → Prop) (M : Mem) (v1 : V) (v4 : V) (v5 : V) : Prop :=
  @OptVH (moveV 0 v5) ⟨fun t39_1 =>
  @OptVH (loadV 1 false t39_1 M) ⟨fun t40_2 =>
  @CallH P i_transitref26_ValidID [t40_2] M ⟨fun t41_3 M3 => @OptBH (some t41_3) ⟨fun b41_3 =>
  @OptBH (unV .not (.bool b41_3)) ⟨fun b42_4 =>
  @BIfH b42_4
  ⟨wpC P c24_20 Q [(1, v1), (4, v4), (5, v5), (42, (.bool b42_4))] M3⟩
  ⟨Q .normal [(1, v1), (4, v4), (5, v5), (42, (.bool b42_4))] M3⟩⟩⟩⟩⟩⟩
theorem e24_22 (P : Program) (Q : Exit → Slots → Mem → Prop) (s : Slots) (M : Mem) : wpC P c24_22 Q s M = w24_22 P Q M (sget s 1) (sget s 4) (sget s 5) := by kernel_rfl
def o24_23 : List AOper := [⟨some 6, (.mov (.const (.int .i64 0))), false, none⟩]
def c24_24 : ACode := (.region o24_23 [1, 4, 5, 6])
def w24_24 (_P : Program) (Q : Exit → Slots → Mem → Prop) (M : Mem) (v1 : V) (v4 : V) (v5 : V) : Prop :=
  Q .normal [(1, v1), (4, v4), (5, v5), (6, (.int .i64 0))] M
theorem e24_24 (P : Program) (Q : Exit → Slots → Mem → Prop) (s : Slots) (M : Mem) : wpC P c24_24 Q s M = w24_24 P Q M (sget s 1) (sget s 4) (sget s 5) := by kernel_rfl
def o24_25 : List AOper := [⟨some 44, (.mov (.tmp 6)), false, none⟩,
  ⟨some 45, (.mov (.tmp 4)), false, none⟩,
  ⟨some 46, (.bin .lss .none (.tmp 44) (.tmp 45)), true, none⟩]
def c24_26 : ACode := (.seq (.region o24_25 [1, 4, 5, 6, 46]) (.cond (.tmp 46) .skip (.exit 2)))
def w24_26 (_P : Program) (Q : Exit → Slots → Mem → Prop) (M : Mem) (v1 : V) (v4 : V) (v5 : V) (v6 : V) : Prop :=
  @OptBH (binV .lss .none v6 v4) ⟨fun b46_3 =>
  @BIfH b46_3
  ⟨Q .normal [(1, v1), (4, v4), (5, v5), (6, v6), (46, (.bool b46_3))] M⟩
  ⟨Q (.exit 2) [(1, v1), (4, v4), (5, v5), (6, v6), (46, (.bool b46_3))] M⟩⟩
theorem e24_26 (P : Program) (Q : Exit → Slots → Mem → Prop) (s : Slots) (M : Mem) : wpC P c24_26 Q s M = w24_26 P Q M (sget s 1) (sget s 4) (sget s 5) (sget s 6) := by kernel_rfl
def o24_27 : List AOper := [⟨some 58, (.mov (.tmp 4)), false, none⟩,
  ⟨some 2, (.mov (.tmp 58)), false, none⟩,
  ⟨some 3, (.mov (.const (.int .i64 6))), false, none⟩]
def c24_28 : ACode := (.region o24_27 [2, 3])
def w24_28 (_P : Program) (Q : Exit → Slots → Mem → Prop) (M : Mem) (v4 : V) : Prop :=
  Q .normal [(2, v4), (3, (.int .i64 6))] M
theorem e24_28 (P : Program) (Q : Exit → Slots → Mem → Prop) (s : Slots) (M : Mem) : wpC P c24_28 Q s M = w24_28 P Q M (sget s 4) := by kernel_rfl
def c24_29 : ACode := (.seq c24_28 .ret)
def o24_30 : List AOper := [⟨some 49, (.fieldAddr 0 (.tmp 1)), false, none⟩,
  ⟨some 50, (.load 1 false (.tmp 49)), false, none⟩,
  ⟨some 51, (.mov (.tmp 6)), false, none⟩,
  ⟨some 52, (.indexSl 6 (.tmp 50) (.tmp 51)), false, none⟩,
  ⟨some 53, (.fieldAddr 0 (.tmp 52)), false, none⟩,
  ⟨some 54, (.load 1 false (.tmp 53)), false, none⟩,
  ⟨some 55, (.fieldAddr 0 (.tmp 5)), false, none⟩,
  ⟨some 56, (.load 1 false (.tmp 55)), false, none⟩,
  ⟨some 57, (.bin .eql .none (.tmp 54) (.tmp 56)), true, none⟩]
def c24_31 : ACode := (.seq (.mixed o24_30 [true, true, true, true, true, true, true, true, true] [1, 4, 5, 6, 57]) (.cond (.tmp 57) c24_29 .skip))
def w24_31 (P : Program) (Q : Exit → Slots → Mem → Prop) (M : Mem) (v1 : V) (v4 : V) (v5 : V) (v6 : V) : Prop :=
  @OptVH (moveV 0 v1) ⟨fun t49_1 =>
  @OptVH (loadV 1 false t49_1 M) ⟨fun t50_2 =>
  @OptVH (indexSlV 6 t50_2 v6 M) ⟨fun t52_4 =>
  @OptVH (moveV 0 t52_4) ⟨fun t53_5 =>
  @OptVH (loadV 1 false t53_5 M) ⟨fun t54_6 =>
  @OptVH (moveV 0 v5) ⟨fun t55_7 =>
  @OptVH (loadV 1 false t55_7 M) ⟨fun t56_8 =>
  @OptBH (binV .eql .none t54_6 t56_8) ⟨fun b57_9 =>
  @BIfH b57_9
  ⟨wpC P c24_29 Q [(1, v1), (4, v4), (5, v5), (6, v6), (57, (.bool b57_9))] M⟩
  ⟨Q .normal [(1, v1), (4, v4), (5, v5), (6, v6), (57, (.bool b57_9))] M⟩⟩⟩⟩⟩⟩⟩⟩⟩
theorem e24_31 (P : Program) (Q : Exit → Slots → Mem → Prop) (s : Slots) (M : Mem) : wpC P c24_31 Q s M = w24_31 P Q M (sget s 1) (sget s 4) (sget s 5) (sget s 6) := by kernel_rfl
def c24_32 : ACode := (.block 3 c24_31)
def o24_33 : List AOper := [⟨some 47, (.mov (.tmp 6)), false, none⟩,
  ⟨some 48, (.bin .add .none (.tmp 47) (.const (.int .i64 1))), false, none⟩,
  ⟨some 6, (.mov (.tmp 48)), false, none⟩]
def c24_34 : ACode := (.region o24_33 [1, 4, 5, 6])
def w24_34 (_P : Program) (Q : Exit → Slots → Mem → Prop) (M : Mem) (v1 : V) (v4 : V) (v5 : V) (v6 : V) : Prop :=
  @OptVH (binV .add .none v6 (.int .i64 1)) ⟨fun t48_2 =>
  Q .normal [(1, v1), (4, v4), (5, v5), (6, t48_2)] M⟩
theorem e24_34 (P : Program) (Q : Exit → Slots → Mem → Prop) (s : Slots) (M : Mem) : wpC P c24_34 Q s M = w24_34 P Q M (sget s 1) (sget s 4) (sget s 5) (sget s 6) := by kernel_rfl
def c24_35 : ACode := (.seq c24_32 c24_34)
def c24_36 : ACode := (.seq c24_26 c24_35)
def c24_37 : ACode := (.loop [1, 4, 5, 6] c24_36)
def c24_38 : ACode := (.block 2 c24_37)
def c24_39 : ACode := (.seq c24_24 c24_38)
def o24_40 : List AOper := [⟨some 87, (.mov (.tmp 4)), false, none⟩,
  ⟨some 2, (.mov (.tmp 87)), false, none⟩,
  ⟨some 3, (.mov (.const (.int .i64 2))), false, none⟩]
def c24_41 : ACode := (.region o24_40 [2, 3])
def w24_41 (_P : Program) (Q : Exit → Slots → Mem → Prop) (M : Mem) (v4 : V) : Prop :=
  Q .normal [(2, v4), (3, (.int .i64 2))] M
theorem e24_41 (P : Program) (Q : Exit → Slots → Mem → Prop) (s : Slots) (M : Mem) : wpC P c24_41 Q s M = w24_41 P Q M (sget s 4) := by kernel_rfl
def c24_42 : ACode := (.seq c24_41 .ret)
def o24_43 : List AOper := [⟨some 59, (.fieldAddr 1 (.tmp 5)), false, none⟩,
  ⟨some 60, (.load 1 false (.tmp 59)), false, none⟩,
  ⟨some 61, (.call i_transitref26_in [(.tmp 60), (.const (.int .i64 0)), (.const (.int .i64 1000000))]), true, none⟩,
  ⟨some 62, (.un .not (.tmp 61)), true, none⟩,
  ⟨some 63, (.mov (.tmp 62)), true, none⟩,
  ⟨some 64, (.fieldAddr 2 (.tmp 5)), false, some (63, false)⟩,
  ⟨some 65, (.load 1 false (.tmp 64)), false, some (63, false)⟩,
  ⟨some 66, (.call i_transitref26_in [(.tmp 65), (.const (.int .i64 1)), (.const (.int .i64 8))]), true, some (63, false)⟩,
  ⟨some 67, (.un .not (.tmp 66)), true, some (63, false)⟩,
  ⟨some 68, (.pick (.tmp 63) (.const (.bool true)) (.tmp 67)), true, none⟩,
  ⟨some 69, (.mov (.tmp 68)), true, none⟩,
  ⟨some 70, (.fieldAddr 3 (.tmp 5)), false, some (69, false)⟩,
  ⟨some 71, (.load 1 false (.tmp 70)), false, some (69, false)⟩,
  ⟨some 72, (.call i_transitref26_in [(.tmp 71), (.const (.int .i64 1)), (.const (.int .i64 16))]), true, some (69, false)⟩,
  ⟨some 73, (.un .not (.tmp 72)), true, some (69, false)⟩,
  ⟨some 74, (.pick (.tmp 69) (.const (.bool true)) (.tmp 73)), true, none⟩,
  ⟨some 75, (.mov (.tmp 74)), true, none⟩,
  ⟨some 76, (.fieldAddr 4 (.tmp 5)), false, some (75, false)⟩,
  ⟨some 77, (.load 1 false (.tmp 76)), false, some (75, false)⟩,
  ⟨some 78, (.call i_transitref26_in [(.tmp 77), (.const (.int .i64 0)), (.const (.int .i64 86400))]), true, some (75, false)⟩,
  ⟨some 79, (.un .not (.tmp 78)), true, some (75, false)⟩,
  ⟨some 80, (.pick (.tmp 75) (.const (.bool true)) (.tmp 79)), true, none⟩,
  ⟨some 81, (.mov (.tmp 80)), true, none⟩,
  ⟨some 82, (.fieldAddr 5 (.tmp 5)), false, some (81, false)⟩,
  ⟨some 83, (.load 1 false (.tmp 82)), false, some (81, false)⟩,
  ⟨some 84, (.call i_transitref26_in [(.tmp 83), (.const (.int .i64 1)), (.const (.int .i64 255))]), true, some (81, false)⟩,
  ⟨some 85, (.un .not (.tmp 84)), true, some (81, false)⟩,
  ⟨some 86, (.pick (.tmp 81) (.const (.bool true)) (.tmp 85)), true, none⟩]
def c24_44 : ACode := (.seq (.region o24_43 [1, 4, 86]) (.cond (.tmp 86) c24_42 .skip))
def w24_44 (P : Program) (Q : Exit → Slots → Mem → Prop) (M : Mem) (v1 : V) (v4 : V) (v5 : V) : Prop :=
  @OptVH (moveV 1 v5) ⟨fun t59_1 =>
  @OptVH (loadV 1 false t59_1 M) ⟨fun t60_2 =>
  @CallH P i_transitref26_in [t60_2, (.int .i64 0), (.int .i64 1000000)] M ⟨fun t61_3 M3 => @OptBH (some t61_3) ⟨fun b61_3 =>
  @OptBH (unV .not (.bool b61_3)) ⟨fun b62_4 =>
  @BIfH b62_4
  ⟨wpC P c24_42 Q [(1, v1), (4, v4), (86, (.bool true))] M3⟩
  ⟨@OptVH (moveV 2 v5) ⟨fun t64_13 =>
  @OptVH (loadV 1 false t64_13 M3) ⟨fun t65_14 =>
  @CallH P i_transitref26_in [t65_14, (.int .i64 1), (.int .i64 8)] M3 ⟨fun t66_15 M15 => @OptBH (some t66_15) ⟨fun b66_15 =>
  @OptBH (unV .not (.bool b66_15)) ⟨fun b67_16 =>
  @BIfH b67_16
  ⟨wpC P c24_42 Q [(1, v1), (4, v4), (86, (.bool true))] M15⟩
  ⟨@OptVH (moveV 3 v5) ⟨fun t70_24 =>
  @OptVH (loadV 1 false t70_24 M15) ⟨fun t71_25 =>
  @CallH P i_transitref26_in [t71_25, (.int .i64 1), (.int .i64 16)] M15 ⟨fun t72_26 M26 => @OptBH (some t72_26) ⟨fun b72_26 =>
  @OptBH (unV .not (.bool b72_26)) ⟨fun b73_27 =>
  @BIfH b73_27
  ⟨wpC P c24_42 Q [(1, v1), (4, v4), (86, (.bool true))] M26⟩
  ⟨@OptVH (moveV 4 v5) ⟨fun t76_33 =>
  @OptVH (loadV 1 false t76_33 M26) ⟨fun t77_34 =>
  @CallH P i_transitref26_in [t77_34, (.int .i64 0), (.int .i64 86400)] M26 ⟨fun t78_35 M35 => @OptBH (some t78_35) ⟨fun b78_35 =>
  @OptBH (unV .not (.bool b78_35)) ⟨fun b79_36 =>
  @BIfH b79_36
  ⟨wpC P c24_42 Q [(1, v1), (4, v4), (86, (.bool true))] M35⟩
  ⟨@OptVH (moveV 5 v5) ⟨fun t82_40 =>
  @OptVH (loadV 1 false t82_40 M35) ⟨fun t83_41 =>
  @CallH P i_transitref26_in [t83_41, (.int .i64 1), (.int .i64 255)] M35 ⟨fun t84_42 M42 => @OptBH (some t84_42) ⟨fun b84_42 =>
  @OptBH (unV .not (.bool b84_42)) ⟨fun b85_43 =>
  @BIfH b85_43
  ⟨wpC P c24_42 Q [(1, v1), (4, v4), (86, (.bool b85_43))] M42⟩
  ⟨Q .normal [(1, v1), (4, v4), (86, (.bool b85_43))] M42⟩⟩⟩⟩⟩⟩⟩⟩⟩⟩⟩⟩⟩⟩⟩⟩⟩⟩⟩⟩⟩⟩⟩⟩⟩⟩⟩⟩⟩⟩
theorem e24_44 (P : Program) (Q : Exit → Slots → Mem → Prop) (s : Slots) (M : Mem) : wpC P c24_44 Q s M = w24_44 P Q M (sget s 1) (sget s 4) (sget s 5) := by kernel_rfl
def c24_45 : ACode := (.seq c24_39 c24_44)
def c24_46 : ACode := (.seq c24_22 c24_45)
def c24_47 : ACode := (.seq c24_17 c24_46)
def c24_48 : ACode := (.block 1 c24_47)
def o24_49 : List AOper := [⟨some 32, (.mov (.tmp 4)), false, none⟩,
  ⟨some 33, (.bin .add .none (.tmp 32) (.const (.int .i64 1))), false, none⟩,
  ⟨some 4, (.mov (.tmp 33)), false, none⟩]
def c24_50 : ACode := (.region o24_49 [1, 4])
def w24_50 (_P : Program) (Q : Exit → Slots → Mem → Prop) (M : Mem) (v1 : V) (v4 : V) : Prop :=
  @OptVH (binV .add .none v4 (.int .i64 1)) ⟨fun t33_2 =>
  Q .normal [(1, v1), (4, t33_2)] M⟩
theorem e24_50 (P : Program) (Q : Exit → Slots → Mem → Prop) (s : Slots) (M : Mem) : wpC P c24_50 Q s M = w24_50 P Q M (sget s 1) (sget s 4) := by kernel_rfl
def c24_51 : ACode := (.seq c24_48 c24_50)
def c24_52 : ACode := (.seq c24_15 c24_51)
def c24_53 : ACode := (.loop [1, 4] c24_52)
def c24_54 : ACode := (.block 0 c24_53)
def c24_55 : ACode := (.seq c24_13 c24_54)
def o24_56 : List AOper := [⟨some 2, (.mov (.const (.int .i64 0))), false, none⟩,
  ⟨some 3, (.mov (.const (.int .i64 0))), false, none⟩]
def c24_57 : ACode := (.region o24_56 [2, 3])
def w24_57 (_P : Program) (Q : Exit → Slots → Mem → Prop) (M : Mem) : Prop :=
  Q .normal [(2, (.int .i64 0)), (3, (.int .i64 0))] M
theorem e24_57 (P : Program) (Q : Exit → Slots → Mem → Prop) (s : Slots) (M : Mem) : wpC P c24_57 Q s M = w24_57 P Q M := by kernel_rfl
def c24_58 : ACode := (.seq c24_57 .ret)
def c24_59 : ACode := (.seq c24_55 c24_58)
def c24_60 : ACode := (.seq c24_11 c24_59)
def c24_61 : ACode := (.seq c24_6 c24_60)
def c24_62 : ACode := (.seq c24_1 c24_61)
def fn_transitref26_Fares : AFn := ⟨88, [(.tmp 2), (.tmp 3)], c24_62⟩
theorem fn_transitref26_Fares_ok : resFn PR h_transitref26_Fares i_transitref26_Fares = some fn_transitref26_Fares := by kernel_rfl

def h_farestate_State_list : Hints := ⟨[(0, [0]), (1, [0, 3]), (2, [0, 3, 4]), (3, [0, 3, 4, 16]), (4, [0, 3, 4]), (5, [0, 3, 4]), (6, [0, 3, 4]), (7, [2])], [(3, [0, 3, 4])], []⟩
def o25_0 : List AOper := [⟨some 2, (.mov (.const (.slice [] .nil))), false, none⟩]
def c25_1 : ACode := (.region o25_0 [0])
def w25_1 (_P : Program) (Q : Exit → Slots → Mem → Prop) (M : Mem) (v0 : V) : Prop :=
  Q .normal [(0, v0)] M
theorem e25_1 (P : Program) (Q : Exit → Slots → Mem → Prop) (s : Slots) (M : Mem) : wpC P c25_1 Q s M = w25_1 P Q M (sget s 0) := by kernel_rfl
def o25_2 : List AOper := [⟨some 5, (.mov (.tmp 0)), false, none⟩,
  ⟨some 6, (.nilCheck (.tmp 5)), false, none⟩,
  ⟨some 7, (.fieldAddr 6 (.tmp 6)), false, none⟩,
  ⟨some 8, (.load 1 false (.tmp 7)), false, none⟩,
  ⟨some 9, (.makeSlice [(.int .i64 0), (.int .i64 0), (.int .i64 0), (.int .i64 0)] 4 32 (.tmp 8) (.tmp 8)), false, none⟩,
  ⟨some 3, (.mov (.tmp 9)), false, none⟩]
def c25_3 : ACode := (.region o25_2 [0, 3])
def w25_3 (_P : Program) (Q : Exit → Slots → Mem → Prop) (M : Mem) (v0 : V) : Prop :=
  @OptVH (nilCheckV v0) ⟨fun t6_2 =>
  @OptVH (moveV 6 t6_2) ⟨fun t7_3 =>
  @OptVH (loadV 1 false t7_3 M) ⟨fun t8_4 =>
  @OptMH (makeSliceV [(.int .i64 0), (.int .i64 0), (.int .i64 0), (.int .i64 0)] 4 32 t8_4 t8_4 M) ⟨fun t9_5 M5 =>
  Q .normal [(0, v0), (3, t9_5)] M5⟩⟩⟩⟩
theorem e25_3 (P : Program) (Q : Exit → Slots → Mem → Prop) (s : Slots) (M : Mem) : wpC P c25_3 Q s M = w25_3 P Q M (sget s 0) := by kernel_rfl
def o25_4 : List AOper := [⟨some 10, (.mov (.tmp 0)), false, none⟩,
  ⟨some 11, (.nilCheck (.tmp 10)), false, none⟩,
  ⟨some 12, (.fieldAddr 6 (.tmp 11)), false, none⟩,
  ⟨some 13, (.load 1 false (.tmp 12)), false, none⟩,
  ⟨some 14, (.bin .sub .none (.tmp 13) (.const (.int .i64 1))), false, none⟩,
  ⟨some 4, (.mov (.tmp 14)), false, none⟩]
def c25_5 : ACode := (.region o25_4 [0, 3, 4])
def w25_5 (_P : Program) (Q : Exit → Slots → Mem → Prop) (M : Mem) (v0 : V) (v3 : V) : Prop :=
  @OptVH (nilCheckV v0) ⟨fun t11_2 =>
  @OptVH (moveV 6 t11_2) ⟨fun t12_3 =>
  @OptVH (loadV 1 false t12_3 M) ⟨fun t13_4 =>
  @OptVH (binV .sub .none t13_4 (.int .i64 1)) ⟨fun t14_5 =>
  Q .normal [(0, v0), (3, v3), (4, t14_5)] M⟩⟩⟩⟩
theorem e25_5 (P : Program) (Q : Exit → Slots → Mem → Prop) (s : Slots) (M : Mem) : wpC P c25_5 Q s M = w25_5 P Q M (sget s 0) (sget s 3) := by kernel_rfl
def o25_6 : List AOper := [⟨some 15, (.mov (.tmp 4)), false, none⟩,
  ⟨some 16, (.bin .geq .none (.tmp 15) (.const (.int .i64 0))), true, none⟩]
def c25_7 : ACode := (.seq (.region o25_6 [0, 3, 4, 16]) (.cond (.tmp 16) .skip (.exit 0)))
def w25_7 (_P : Program) (Q : Exit → Slots → Mem → Prop) (M : Mem) (v0 : V) (v3 : V) (v4 : V) : Prop :=
  @OptBH (binV .geq .none v4 (.int .i64 0)) ⟨fun b16_2 =>
  @BIfH b16_2
  ⟨Q .normal [(0, v0), (3, v3), (4, v4), (16, (.bool b16_2))] M⟩
  ⟨Q (.exit 0) [(0, v0), (3, v3), (4, v4), (16, (.bool b16_2))] M⟩⟩
theorem e25_7 (P : Program) (Q : Exit → Slots → Mem → Prop) (s : Slots) (M : Mem) : wpC P c25_7 Q s M = w25_7 P Q M (sget s 0) (sget s 3) (sget s 4) := by kernel_rfl
def o25_8 : List AOper := [⟨some 19, (.mov (.tmp 3)), false, none⟩,
  ⟨some 20, (.mov (.tmp 4)), false, none⟩,
  ⟨some 21, (.mov (.tmp 0)), false, none⟩,
  ⟨some 22, (.nilCheck (.tmp 21)), false, none⟩,
  ⟨some 23, (.fieldAddr 2 (.tmp 22)), false, none⟩,
  ⟨some 24, (.load 4 true (.tmp 23)), false, none⟩,
  ⟨some 25, (.indexSl 4 (.tmp 19) (.tmp 20)), false, none⟩,
  ⟨none, (.store 4 (.tmp 25) (.tmp 24)), false, none⟩]
def c25_9 : ACode := (.region o25_8 [0, 3, 4])
def w25_9 (_P : Program) (Q : Exit → Slots → Mem → Prop) (M : Mem) (v0 : V) (v3 : V) (v4 : V) : Prop :=
  @OptVH (nilCheckV v0) ⟨fun t22_4 =>
  @OptVH (moveV 2 t22_4) ⟨fun t23_5 =>
  @OptVH (loadV 4 true t23_5 M) ⟨fun t24_6 =>
  @OptVH (indexSlV 4 v3 v4 M) ⟨fun t25_7 =>
  @OptMH (storeVM 4 t25_7 t24_6 M) ⟨fun _tx_8 M8 =>
  Q .normal [(0, v0), (3, v3), (4, v4)] M8⟩⟩⟩⟩⟩
theorem e25_9 (P : Program) (Q : Exit → Slots → Mem → Prop) (s : Slots) (M : Mem) : wpC P c25_9 Q s M = w25_9 P Q M (sget s 0) (sget s 3) (sget s 4) := by kernel_rfl
def o25_10 : List AOper := [⟨some 26, (.mov (.tmp 0)), false, none⟩,
  ⟨some 27, (.nilCheck (.tmp 26)), false, none⟩,
  ⟨some 28, (.fieldAddr 1 (.tmp 27)), false, none⟩,
  ⟨some 29, (.load 1 false (.tmp 28)), false, none⟩,
  ⟨some 0, (.mov (.tmp 29)), false, none⟩]
def c25_11 : ACode := (.region o25_10 [0, 3, 4])
def w25_11 (_P : Program) (Q : Exit → Slots → Mem → Prop) (M : Mem) (v0 : V) (v3 : V) (v4 : V) : Prop :=
  @OptVH (nilCheckV v0) ⟨fun t27_2 =>
  @OptVH (moveV 1 t27_2) ⟨fun t28_3 =>
  @OptVH (loadV 1 false t28_3 M) ⟨fun t29_4 =>
  Q .normal [(0, t29_4), (3, v3), (4, v4)] M⟩⟩⟩
theorem e25_11 (P : Program) (Q : Exit → Slots → Mem → Prop) (s : Slots) (M : Mem) : wpC P c25_11 Q s M = w25_11 P Q M (sget s 0) (sget s 3) (sget s 4) := by kernel_rfl
def c25_12 : ACode := (.seq c25_9 c25_11)
def c25_13 : ACode := (.block 1 c25_12)
def o25_14 : List AOper := [⟨some 17, (.mov (.tmp 4)), false, none⟩,
  ⟨some 18, (.bin .sub .none (.tmp 17) (.const (.int .i64 1))), false, none⟩,
  ⟨some 4, (.mov (.tmp 18)), false, none⟩]
def c25_15 : ACode := (.region o25_14 [0, 3, 4])
def w25_15 (_P : Program) (Q : Exit → Slots → Mem → Prop) (M : Mem) (v0 : V) (v3 : V) (v4 : V) : Prop :=
  @OptVH (binV .sub .none v4 (.int .i64 1)) ⟨fun t18_2 =>
  Q .normal [(0, v0), (3, v3), (4, t18_2)] M⟩
theorem e25_15 (P : Program) (Q : Exit → Slots → Mem → Prop) (s : Slots) (M : Mem) : wpC P c25_15 Q s M = w25_15 P Q M (sget s 0) (sget s 3) (sget s 4) := by kernel_rfl
def c25_16 : ACode := (.seq c25_13 c25_15)
def c25_17 : ACode := (.seq c25_7 c25_16)
def c25_18 : ACode := (.loop [0, 3, 4] c25_17)
def c25_19 : ACode := (.block 0 c25_18)
def c25_20 : ACode := (.seq c25_5 c25_19)
def o25_21 : List AOper := [⟨some 30, (.mov (.tmp 3)), false, none⟩,
  ⟨some 2, (.mov (.tmp 30)), false, none⟩]
def c25_22 : ACode := (.region o25_21 [2])
def w25_22 (_P : Program) (Q : Exit → Slots → Mem → Prop) (M : Mem) (v3 : V) : Prop :=
  Q .normal [(2, v3)] M
theorem e25_22 (P : Program) (Q : Exit → Slots → Mem → Prop) (s : Slots) (M : Mem) : wpC P c25_22 Q s M = w25_22 P Q M (sget s 3) := by kernel_rfl
def c25_23 : ACode := (.seq c25_22 .ret)
def c25_24 : ACode := (.seq c25_20 c25_23)
def c25_25 : ACode := (.seq c25_3 c25_24)
def c25_26 : ACode := (.seq c25_1 c25_25)
def fn_farestate_State_list : AFn := ⟨31, [(.tmp 2)], c25_26⟩
theorem fn_farestate_State_list_ok : resFn PR h_farestate_State_list i_farestate_State_list = some fn_farestate_State_list := by kernel_rfl

def h_product_Covers : Hints := ⟨[(0, [1, 2]), (1, [1, 2, 5]), (2, [1, 2, 35]), (3, [4]), (4, [1, 2, 6, 7]), (5, [1, 2, 6, 7, 8]), (6, [2, 6, 7, 8, 37, 38, 39]), (7, [2, 6, 7, 8, 37, 38, 39, 40]), (8, [2, 6, 7, 8, 10, 37, 38, 39]), (9, [2, 6, 7, 8, 37, 38, 39]), (10, [2, 6, 7, 8, 37, 38, 39]), (11, [4])], [(7, [2, 6, 7, 8, 37, 38, 39])], []⟩
def o26_0 : List AOper := [⟨some 2, (.box 6 (.tmp 0)), false, none⟩,
  ⟨some 4, (.mov (.const (.bool false))), true, none⟩]
def c26_1 : ACode := (.region o26_0 [1, 2])
def w26_1 (_P : Program) (Q : Exit → Slots → Mem → Prop) (M : Mem) (v0 : V) (v1 : V) : Prop :=
  @OptMH (boxV 6 v0 M) ⟨fun t2_1 M1 =>
  Q .normal [(1, v1), (2, t2_1)] M1⟩
theorem e26_1 (P : Program) (Q : Exit → Slots → Mem → Prop) (s : Slots) (M : Mem) : wpC P c26_1 Q s M = w26_1 P Q M (sget s 0) (sget s 1) := by kernel_rfl
def o26_2 : List AOper := [⟨some 11, (.mov (.tmp 1)), false, none⟩,
  ⟨some 12, (.lenSl (.tmp 11)), false, none⟩,
  ⟨some 5, (.mov (.tmp 12)), false, none⟩]
def c26_3 : ACode := (.region o26_2 [1, 2, 5])
def w26_3 (_P : Program) (Q : Exit → Slots → Mem → Prop) (M : Mem) (v1 : V) (v2 : V) : Prop :=
  @OptVH (lenV v1 M) ⟨fun t12_2 =>
  Q .normal [(1, v1), (2, v2), (5, t12_2)] M⟩
theorem e26_3 (P : Program) (Q : Exit → Slots → Mem → Prop) (s : Slots) (M : Mem) : wpC P c26_3 Q s M = w26_3 P Q M (sget s 1) (sget s 2) := by kernel_rfl
def o26_4 : List AOper := [⟨some 4, (.mov (.const (.bool false))), true, none⟩]
def c26_5 : ACode := (.region o26_4 [4])
def w26_5 (_P : Program) (Q : Exit → Slots → Mem → Prop) (M : Mem) : Prop :=
  Q .normal [(4, (.bool false))] M
theorem e26_5 (P : Program) (Q : Exit → Slots → Mem → Prop) (s : Slots) (M : Mem) : wpC P c26_5 Q s M = w26_5 P Q M := by kernel_rfl
def c26_6 : ACode := (.seq c26_5 .ret)
def o26_7 : List AOper := [⟨some 13, (.mov (.tmp 5)), false, none⟩,
  ⟨some 14, (.bin .eql .none (.tmp 13) (.const (.int .i64 0))), true, none⟩,
  ⟨some 15, (.mov (.tmp 14)), true, none⟩,
  ⟨some 16, (.mov (.tmp 5)), false, some (15, false)⟩,
  ⟨some 17, (.fieldAddr 2 (.tmp 2)), false, some (15, false)⟩,
  ⟨some 18, (.load 1 false (.tmp 17)), false, some (15, false)⟩,
  ⟨some 19, (.bin .gtr .none (.tmp 16) (.tmp 18)), true, some (15, false)⟩,
  ⟨some 20, (.pick (.tmp 15) (.const (.bool true)) (.tmp 19)), true, none⟩,
  ⟨some 21, (.mov (.tmp 20)), true, none⟩,
  ⟨some 22, (.mov (.tmp 1)), false, some (21, false)⟩,
  ⟨some 23, (.indexSl 4 (.tmp 22) (.const (.int .i64 0))), false, some (21, false)⟩,
  ⟨some 24, (.fieldAddr 0 (.tmp 23)), false, some (21, false)⟩,
  ⟨some 25, (.load 1 false (.tmp 24)), false, some (21, false)⟩,
  ⟨some 26, (.mov (.tmp 1)), false, some (21, false)⟩,
  ⟨some 27, (.mov (.tmp 5)), false, some (21, false)⟩,
  ⟨some 28, (.bin .sub .none (.tmp 27) (.const (.int .i64 1))), false, some (21, false)⟩,
  ⟨some 29, (.indexSl 4 (.tmp 26) (.tmp 28)), false, some (21, false)⟩,
  ⟨some 30, (.fieldAddr 0 (.tmp 29)), false, some (21, false)⟩,
  ⟨some 31, (.load 1 false (.tmp 30)), false, some (21, false)⟩,
  ⟨some 32, (.fieldAddr 4 (.tmp 2)), false, some (21, false)⟩,
  ⟨some 33, (.load 1 false (.tmp 32)), false, some (21, false)⟩,
  ⟨some 34, (.call i_product_later [(.tmp 25), (.tmp 31), (.tmp 33)]), true, some (21, false)⟩,
  ⟨some 35, (.pick (.tmp 21) (.const (.bool true)) (.tmp 34)), true, none⟩]
def c26_8 : ACode := (.seq (.mixed o26_7 [true, true, true, true, true, true, true, true, true, true, true, true, true, true, true, true, true, true, true, true, true, false, true] [1, 2, 35]) (.cond (.tmp 35) c26_6 .skip))
def w26_8 (P : Program) (Q : Exit → Slots → Mem → Prop) (M : Mem) (v1 : V) (v2 : V) (v5 : V) : Prop :=
  @OptBH (binV .eql .none v5 (.int .i64 0)) ⟨fun b14_2 =>
  @BIfH b14_2
  ⟨wpC P c26_6 Q [(1, v1), (2, v2), (35, (.bool true))] M⟩
  ⟨@OptVH (moveV 2 v2) ⟨fun t17_8 =>
  @OptVH (loadV 1 false t17_8 M) ⟨fun t18_9 =>
  @OptBH (binV .gtr .none v5 t18_9) ⟨fun b19_10 =>
  @BIfH b19_10
  ⟨wpC P c26_6 Q [(1, v1), (2, v2), (35, (.bool true))] M⟩
  ⟨@OptVH (indexSlV 4 v1 (.int .i64 0) M) ⟨fun t23_15 =>
  @OptVH (moveV 0 t23_15) ⟨fun t24_16 =>
  @OptVH (loadV 1 false t24_16 M) ⟨fun t25_17 =>
  @OptVH (binV .sub .none v5 (.int .i64 1)) ⟨fun t28_20 =>
  @OptVH (indexSlV 4 v1 t28_20 M) ⟨fun t29_21 =>
  @OptVH (moveV 0 t29_21) ⟨fun t30_22 =>
  @OptVH (loadV 1 false t30_22 M) ⟨fun t31_23 =>
  @OptVH (moveV 4 v2) ⟨fun t32_24 =>
  @OptVH (loadV 1 false t32_24 M) ⟨fun t33_25 =>
  @CallH P i_product_later [t25_17, t31_23, t33_25] M ⟨fun t34_26 M26 => @OptBH (some t34_26) ⟨fun b34_26 =>
  @BIfH b34_26
  ⟨wpC P c26_6 Q [(1, v1), (2, v2), (35, (.bool b34_26))] M26⟩
  ⟨Q .normal [(1, v1), (2, v2), (35, (.bool b34_26))] M26⟩⟩⟩⟩⟩⟩⟩⟩⟩⟩⟩⟩⟩⟩⟩⟩⟩⟩
theorem e26_8 (P : Program) (Q : Exit → Slots → Mem → Prop) (s : Slots) (M : Mem) : wpC P c26_8 Q s M = w26_8 P Q M (sget s 1) (sget s 2) (sget s 5) := by kernel_rfl
def o26_9 : List AOper := [⟨some 6, (.alloc [(.int .u64 0)]), false, none⟩,
  ⟨some 7, (.alloc [(.int .u64 0)]), false, none⟩]
def c26_10 : ACode := (.region o26_9 [1, 2, 6, 7])
def w26_10 (_P : Program) (Q : Exit → Slots → Mem → Prop) (M : Mem) (v1 : V) (v2 : V) : Prop :=
  @OptMH (allocV [(.int .u64 0)] M) ⟨fun t6_1 M1 =>
  @OptMH (allocV [(.int .u64 0)] M1) ⟨fun t7_2 M2 =>
  Q .normal [(1, v1), (2, v2), (6, t6_1), (7, t7_2)] M2⟩⟩
theorem e26_10 (P : Program) (Q : Exit → Slots → Mem → Prop) (s : Slots) (M : Mem) : wpC P c26_10 Q s M = w26_10 P Q M (sget s 1) (sget s 2) := by kernel_rfl
def o26_11 : List AOper := [⟨some 36, (.mkfn i_product_Covers_1 [(.tmp 6), (.tmp 7)]), false, none⟩,
  ⟨some 8, (.mov (.tmp 36)), false, none⟩]
def c26_12 : ACode := (.region o26_11 [1, 2, 6, 7, 8])
def w26_12 (_P : Program) (Q : Exit → Slots → Mem → Prop) (M : Mem) (v1 : V) (v2 : V) (v6 : V) (v7 : V) : Prop :=
  Q .normal [(1, v1), (2, v2), (6, v6), (7, v7), (8, (mkfnV i_product_Covers_1 [v6, v7]))] M
theorem e26_12 (P : Program) (Q : Exit → Slots → Mem → Prop) (s : Slots) (M : Mem) : wpC P c26_12 Q s M = w26_12 P Q M (sget s 1) (sget s 2) (sget s 6) (sget s 7) := by kernel_rfl
def o26_13 : List AOper := [⟨some 37, (.mov (.tmp 1)), false, none⟩,
  ⟨some 38, (.lenSl (.tmp 37)), false, none⟩,
  ⟨some 39, (.mov (.const (.int .i64 0))), false, none⟩]
def c26_14 : ACode := (.region o26_13 [2, 6, 7, 8, 37, 38, 39])
def w26_14 (_P : Program) (Q : Exit → Slots → Mem → Prop) (M : Mem) (v1 : V) (v2 : V) (v6 : V) (v7 : V) (v8 : V) : Prop :=
  @OptVH (lenV v1 M) ⟨fun t38_2 =>
  Q .normal [(2, v2), (6, v6), (7, v7), (8, v8), (37, v1), (38, t38_2), (39, (.int .i64 0))] M⟩
theorem e26_14 (P : Program) (Q : Exit → Slots → Mem → Prop) (s : Slots) (M : Mem) : wpC P c26_14 Q s M = w26_14 P Q M (sget s 1) (sget s 2) (sget s 6) (sget s 7) (sget s 8) := by kernel_rfl
def o26_15 : List AOper := [⟨some 40, (.bin .lss .none (.tmp 39) (.tmp 38)), false, none⟩]
def c26_16 : ACode := (.region o26_15 [2, 6, 7, 8, 37, 38, 39, 40])
def w26_16 (_P : Program) (Q : Exit → Slots → Mem → Prop) (M : Mem) (v2 : V) (v6 : V) (v7 : V) (v8 : V) (v37 : V) (v38 : V) (v39 : V) : Prop :=
  @OptVH (binV .lss .none v39 v38) ⟨fun t40_1 =>
  Q .normal [(2, v2), (6, v6), (7, v7), (8, v8), (37, v37), (38, v38), (39, v39), (40, t40_1)] M⟩
theorem e26_16 (P : Program) (Q : Exit → Slots → Mem → Prop) (s : Slots) (M : Mem) : wpC P c26_16 Q s M = w26_16 P Q M (sget s 2) (sget s 6) (sget s 7) (sget s 8) (sget s 37) (sget s 38) (sget s 39) := by kernel_rfl
def c26_17 : ACode := (.cond (.tmp 40) .skip (.exit 0))
def o26_18 : List AOper := [⟨some 41, (.indexSl 4 (.tmp 37) (.tmp 39)), false, none⟩,
  ⟨some 42, (.load 4 true (.tmp 41)), false, none⟩,
  ⟨some 10, (.alloc [(.int .i64 0), (.int .i64 0), (.int .i64 0), (.int .i64 0)]), false, none⟩,
  ⟨none, (.store 4 (.tmp 10) (.tmp 42)), false, none⟩]
def c26_19 : ACode := (.region o26_18 [2, 6, 7, 8, 10, 37, 38, 39])
def w26_19 (_P : Program) (Q : Exit → Slots → Mem → Prop) (M : Mem) (v2 : V) (v6 : V) (v7 : V) (v8 : V) (v37 : V) (v38 : V) (v39 : V) : Prop :=
  @OptVH (indexSlV 4 v37 v39 M) ⟨fun t41_1 =>
  @OptVH (loadV 4 true t41_1 M) ⟨fun t42_2 =>
  @OptMH (allocV [(.int .i64 0), (.int .i64 0), (.int .i64 0), (.int .i64 0)] M) ⟨fun t10_3 M3 =>
  @OptMH (storeVM 4 t10_3 t42_2 M3) ⟨fun _tx_4 M4 =>
  Q .normal [(2, v2), (6, v6), (7, v7), (8, v8), (10, t10_3), (37, v37), (38, v38), (39, v39)] M4⟩⟩⟩⟩
theorem e26_19 (P : Program) (Q : Exit → Slots → Mem → Prop) (s : Slots) (M : Mem) : wpC P c26_19 Q s M = w26_19 P Q M (sget s 2) (sget s 6) (sget s 7) (sget s 8) (sget s 37) (sget s 38) (sget s 39) := by kernel_rfl
def o26_20 : List AOper := [⟨some 43, (.mov (.tmp 8)), false, none⟩,
  ⟨some 44, (.load 4 true (.tmp 10)), false, none⟩,
  ⟨some 45, (.callv (.tmp 43) [(.tmp 44)]), false, none⟩]
def c26_21 : ACode := (.region o26_20 [2, 6, 7, 8, 37, 38, 39])
def w26_21 (P : Program) (Q : Exit → Slots → Mem → Prop) (M : Mem) (v2 : V) (v6 : V) (v7 : V) (v8 : V) (v10 : V) (v37 : V) (v38 : V) (v39 : V) : Prop :=
  @OptVH (loadV 4 true v10 M) ⟨fun t44_2 =>
  @CallV P false v8 [t44_2] M ⟨fun _t45_3 M3 =>
  Q .normal [(2, v2), (6, v6), (7, v7), (8, v8), (37, v37), (38, v38), (39, v39)] M3⟩⟩
theorem e26_21 (P : Program) (Q : Exit → Slots → Mem → Prop) (s : Slots) (M : Mem) : wpC P c26_21 Q s M = w26_21 P Q M (sget s 2) (sget s 6) (sget s 7) (sget s 8) (sget s 10) (sget s 37) (sget s 38) (sget s 39) := by kernel_rfl
def c26_22 : ACode := (.seq c26_19 c26_21)
def c26_23 : ACode := (.block 1 c26_22)
def o26_24 : List AOper := [⟨some 46, (.bin .add .none (.tmp 39) (.const (.int .i64 1))), false, none⟩,
  ⟨some 39, (.mov (.tmp 46)), false, none⟩]
def c26_25 : ACode := (.region o26_24 [2, 6, 7, 8, 37, 38, 39])
def w26_25 (_P : Program) (Q : Exit → Slots → Mem → Prop) (M : Mem) (v2 : V) (v6 : V) (v7 : V) (v8 : V) (v37 : V) (v38 : V) (v39 : V) : Prop :=
  @OptVH (binV .add .none v39 (.int .i64 1)) ⟨fun t46_1 =>
  Q .normal [(2, v2), (6, v6), (7, v7), (8, v8), (37, v37), (38, v38), (39, t46_1)] M⟩
theorem e26_25 (P : Program) (Q : Exit → Slots → Mem → Prop) (s : Slots) (M : Mem) : wpC P c26_25 Q s M = w26_25 P Q M (sget s 2) (sget s 6) (sget s 7) (sget s 8) (sget s 37) (sget s 38) (sget s 39) := by kernel_rfl
def c26_26 : ACode := (.seq c26_23 c26_25)
def c26_27 : ACode := (.seq c26_17 c26_26)
def c26_28 : ACode := (.seq c26_16 c26_27)
def c26_29 : ACode := (.loop [2, 6, 7, 8, 37, 38, 39] c26_28)
def c26_30 : ACode := (.block 0 c26_29)
def c26_31 : ACode := (.seq c26_14 c26_30)
def o26_32 : List AOper := [⟨some 47, (.load 1 false (.tmp 6)), false, none⟩,
  ⟨some 48, (.call i_bitset_Set_Len [(.tmp 47)]), false, none⟩,
  ⟨some 49, (.fieldAddr 3 (.tmp 2)), false, none⟩,
  ⟨some 50, (.load 1 false (.tmp 49)), false, none⟩,
  ⟨some 51, (.bin .leq .none (.tmp 48) (.tmp 50)), true, none⟩,
  ⟨some 52, (.mov (.tmp 51)), true, none⟩,
  ⟨some 53, (.load 1 false (.tmp 7)), false, some (52, true)⟩,
  ⟨some 54, (.fieldAddr 5 (.tmp 2)), false, some (52, true)⟩,
  ⟨some 55, (.load 1 false (.tmp 54)), false, some (52, true)⟩,
  ⟨some 56, (.conv .u64 (.tmp 55)), false, some (52, true)⟩,
  ⟨some 57, (.call i_bitset_Set_Within [(.tmp 53), (.tmp 56)]), true, some (52, true)⟩,
  ⟨some 58, (.pick (.tmp 52) (.tmp 57) (.const (.bool false))), true, none⟩,
  ⟨some 4, (.mov (.tmp 58)), true, none⟩]
def c26_33 : ACode := (.mixed o26_32 [true, true, true, true, true, true, true, true, true, true, false, true, true] [4])
def w26_33 (P : Program) (Q : Exit → Slots → Mem → Prop) (M : Mem) (v2 : V) (v6 : V) (v7 : V) : Prop :=
  @OptVH (loadV 1 false v6 M) ⟨fun t47_1 =>
  @CallQ P i_bitset_Set_Len [t47_1] M ⟨fun t48_2 M2 =>
  @OptVH (moveV 3 v2) ⟨fun t49_3 =>
  @OptVH (loadV 1 false t49_3 M2) ⟨fun t50_4 =>
  @OptBH (binV .leq .none t48_2 t50_4) ⟨fun b51_5 =>
  @BIfH b51_5
  ⟨@OptVH (loadV 1 false v7 M2) ⟨fun t53_7 =>
  @OptVH (moveV 5 v2) ⟨fun t54_8 =>
  @OptVH (loadV 1 false t54_8 M2) ⟨fun t55_9 =>
  @OptVH (convV .u64 t55_9) ⟨fun t56_10 =>
  @CallH P i_bitset_Set_Within [t53_7, t56_10] M2 ⟨fun t57_11 M11 => @OptBH (some t57_11) ⟨fun b57_11 =>
  Q .normal [(4, (.bool b57_11))] M11⟩⟩⟩⟩⟩⟩⟩
  ⟨Q .normal [(4, (.bool false))] M2⟩⟩⟩⟩⟩⟩
theorem e26_33 (P : Program) (Q : Exit → Slots → Mem → Prop) (s : Slots) (M : Mem) : wpC P c26_33 Q s M = w26_33 P Q M (sget s 2) (sget s 6) (sget s 7) := by kernel_rfl
def c26_34 : ACode := (.seq c26_33 .ret)
def c26_35 : ACode := (.seq c26_31 c26_34)
def c26_36 : ACode := (.seq c26_12 c26_35)
def c26_37 : ACode := (.seq c26_10 c26_36)
def c26_38 : ACode := (.seq c26_8 c26_37)
def c26_39 : ACode := (.seq c26_3 c26_38)
def c26_40 : ACode := (.seq c26_1 c26_39)
def fn_product_Covers : AFn := ⟨59, [(.tmp 4)], c26_40⟩
theorem fn_product_Covers_ok : resFn PR h_product_Covers i_product_Covers = some fn_product_Covers := by kernel_rfl

def h_farestate_State_price : Hints := ⟨[(0, [0, 2, 3, 5]), (1, [0, 5, 31]), (2, [8]), (3, [8])], [], []⟩
def o27_0 : List AOper := [⟨some 5, (.box 6 (.tmp 1)), false, none⟩,
  ⟨some 8, (.mov (.const (.int .i64 0))), false, none⟩]
def c27_1 : ACode := (.region o27_0 [0, 2, 3, 5])
def w27_1 (_P : Program) (Q : Exit → Slots → Mem → Prop) (M : Mem) (v0 : V) (v1 : V) (v2 : V) (v3 : V) : Prop :=
  @OptMH (boxV 6 v1 M) ⟨fun t5_1 M1 =>
  Q .normal [(0, v0), (2, v2), (3, v3), (5, t5_1)] M1⟩
theorem e27_1 (P : Program) (Q : Exit → Slots → Mem → Prop) (s : Slots) (M : Mem) : wpC P c27_1 Q s M = w27_1 P Q M (sget s 0) (sget s 1) (sget s 2) (sget s 3) := by kernel_rfl
def o27_2 : List AOper := [⟨some 32, (.fieldAddr 1 (.tmp 5)), false, none⟩,
  ⟨some 33, (.load 1 false (.tmp 32)), false, none⟩,
  ⟨some 34, (.mov (.tmp 0)), false, none⟩,
  ⟨some 35, (.nilCheck (.tmp 34)), false, none⟩,
  ⟨some 36, (.fieldAddr 0 (.tmp 35)), false, none⟩,
  ⟨some 37, (.load 1 false (.tmp 36)), false, none⟩,
  ⟨some 38, (.nilCheck (.tmp 37)), false, none⟩,
  ⟨some 39, (.fieldAddr 1 (.tmp 38)), false, none⟩,
  ⟨some 40, (.load 1 false (.tmp 39)), false, none⟩,
  ⟨some 41, (.bin .sub .none (.tmp 33) (.tmp 40)), false, none⟩,
  ⟨some 42, (.minmax true (.const (.int .i64 0)) (.tmp 41)), false, none⟩,
  ⟨some 8, (.mov (.tmp 42)), false, none⟩]
def c27_3 : ACode := (.mixed o27_2 [true, true, true, true, true, true, true, true, true, true, true, true] [8])
def w27_3 (_P : Program) (Q : Exit → Slots → Mem → Prop) (M : Mem) (v0 : V) (v5 : V) : Prop :=
  @OptVH (moveV 1 v5) ⟨fun t32_1 =>
  @OptVH (loadV 1 false t32_1 M) ⟨fun t33_2 =>
  @OptVH (nilCheckV v0) ⟨fun t35_4 =>
  @OptVH (moveV 0 t35_4) ⟨fun t36_5 =>
  @OptVH (loadV 1 false t36_5 M) ⟨fun t37_6 =>
  @OptVH (nilCheckV t37_6) ⟨fun t38_7 =>
  @OptVH (moveV 1 t38_7) ⟨fun t39_8 =>
  @OptVH (loadV 1 false t39_8 M) ⟨fun t40_9 =>
  @OptVH (binV .sub .none t33_2 t40_9) ⟨fun t41_10 =>
  @OptVH (minmaxV true (.int .i64 0) t41_10) ⟨fun t42_11 =>
  Q .normal [(8, t42_11)] M⟩⟩⟩⟩⟩⟩⟩⟩⟩⟩
theorem e27_3 (P : Program) (Q : Exit → Slots → Mem → Prop) (s : Slots) (M : Mem) : wpC P c27_3 Q s M = w27_3 P Q M (sget s 0) (sget s 5) := by kernel_rfl
def c27_4 : ACode := (.seq c27_3 .ret)
def o27_5 : List AOper := [⟨some 9, (.mov (.tmp 3)), false, none⟩,
  ⟨some 10, (.bin .gtr .none (.tmp 9) (.const (.int .i64 0))), true, none⟩,
  ⟨some 11, (.mov (.tmp 10)), true, none⟩,
  ⟨some 12, (.mov (.tmp 2)), false, some (11, true)⟩,
  ⟨some 13, (.mov (.tmp 3)), false, some (11, true)⟩,
  ⟨some 14, (.bin .sub .none (.tmp 13) (.const (.int .i64 1))), false, some (11, true)⟩,
  ⟨some 15, (.indexSl 4 (.tmp 12) (.tmp 14)), false, some (11, true)⟩,
  ⟨some 16, (.fieldAddr 1 (.tmp 15)), false, some (11, true)⟩,
  ⟨some 17, (.load 1 false (.tmp 16)), false, some (11, true)⟩,
  ⟨some 18, (.mov (.tmp 2)), false, some (11, true)⟩,
  ⟨some 19, (.mov (.tmp 3)), false, some (11, true)⟩,
  ⟨some 20, (.indexSl 4 (.tmp 18) (.tmp 19)), false, some (11, true)⟩,
  ⟨some 21, (.fieldAddr 0 (.tmp 20)), false, some (11, true)⟩,
  ⟨some 22, (.load 1 false (.tmp 21)), false, some (11, true)⟩,
  ⟨some 23, (.mov (.tmp 0)), false, some (11, true)⟩,
  ⟨some 24, (.nilCheck (.tmp 23)), false, some (11, true)⟩,
  ⟨some 25, (.fieldAddr 0 (.tmp 24)), false, some (11, true)⟩,
  ⟨some 26, (.load 1 false (.tmp 25)), false, some (11, true)⟩,
  ⟨some 27, (.nilCheck (.tmp 26)), false, some (11, true)⟩,
  ⟨some 28, (.fieldAddr 2 (.tmp 27)), false, some (11, true)⟩,
  ⟨some 29, (.load 1 false (.tmp 28)), false, some (11, true)⟩,
  ⟨some 30, (.call i_farestate_within [(.tmp 17), (.tmp 22), (.tmp 29)]), true, some (11, true)⟩,
  ⟨some 31, (.pick (.tmp 11) (.tmp 30) (.const (.bool false))), true, none⟩]
def c27_6 : ACode := (.seq (.mixed o27_5 [true, true, true, true, true, true, true, true, true, true, true, true, true, true, true, true, true, true, true, true, true, false, true] [0, 5, 31]) (.cond (.tmp 31) c27_4 .skip))
def w27_6 (P : Program) (Q : Exit → Slots → Mem → Prop) (M : Mem) (v0 : V) (v2 : V) (v3 : V) (v5 : V) : Prop :=
  @OptBH (binV .gtr .none v3 (.int .i64 0)) ⟨fun b10_2 =>
  @BIfH b10_2
  ⟨@OptVH (binV .sub .none v3 (.int .i64 1)) ⟨fun t14_6 =>
  @OptVH (indexSlV 4 v2 t14_6 M) ⟨fun t15_7 =>
  @OptVH (moveV 1 t15_7) ⟨fun t16_8 =>
  @OptVH (loadV 1 false t16_8 M) ⟨fun t17_9 =>
  @OptVH (indexSlV 4 v2 v3 M) ⟨fun t20_12 =>
  @OptVH (moveV 0 t20_12) ⟨fun t21_13 =>
  @OptVH (loadV 1 false t21_13 M) ⟨fun t22_14 =>
  @OptVH (nilCheckV v0) ⟨fun t24_16 =>
  @OptVH (moveV 0 t24_16) ⟨fun t25_17 =>
  @OptVH (loadV 1 false t25_17 M) ⟨fun t26_18 =>
  @OptVH (nilCheckV t26_18) ⟨fun t27_19 =>
  @OptVH (moveV 2 t27_19) ⟨fun t28_20 =>
  @OptVH (loadV 1 false t28_20 M) ⟨fun t29_21 =>
  @CallH P i_farestate_within [t17_9, t22_14, t29_21] M ⟨fun t30_22 M22 => @OptBH (some t30_22) ⟨fun b30_22 =>
  @BIfH b30_22
  ⟨wpC P c27_4 Q [(0, v0), (5, v5), (31, (.bool b30_22))] M22⟩
  ⟨Q .normal [(0, v0), (5, v5), (31, (.bool b30_22))] M22⟩⟩⟩⟩⟩⟩⟩⟩⟩⟩⟩⟩⟩⟩⟩⟩⟩
  ⟨Q .normal [(0, v0), (5, v5), (31, (.bool false))] M⟩⟩
theorem e27_6 (P : Program) (Q : Exit → Slots → Mem → Prop) (s : Slots) (M : Mem) : wpC P c27_6 Q s M = w27_6 P Q M (sget s 0) (sget s 2) (sget s 3) (sget s 5) := by kernel_rfl
def o27_7 : List AOper := [⟨some 43, (.fieldAddr 1 (.tmp 5)), false, none⟩,
  ⟨some 44, (.load 1 false (.tmp 43)), false, none⟩,
  ⟨some 8, (.mov (.tmp 44)), false, none⟩]
def c27_8 : ACode := (.region o27_7 [8])
def w27_8 (_P : Program) (Q : Exit → Slots → Mem → Prop) (M : Mem) (v5 : V) : Prop :=
  @OptVH (moveV 1 v5) ⟨fun t43_1 =>
  @OptVH (loadV 1 false t43_1 M) ⟨fun t44_2 =>
  Q .normal [(8, t44_2)] M⟩⟩
theorem e27_8 (P : Program) (Q : Exit → Slots → Mem → Prop) (s : Slots) (M : Mem) : wpC P c27_8 Q s M = w27_8 P Q M (sget s 5) := by kernel_rfl
def c27_9 : ACode := (.seq c27_8 .ret)
def c27_10 : ACode := (.seq c27_6 c27_9)
def c27_11 : ACode := (.seq c27_1 c27_10)
def fn_farestate_State_price : AFn := ⟨45, [(.tmp 8)], c27_11⟩
theorem fn_farestate_State_price_ok : resFn PR h_farestate_State_price i_farestate_State_price = some fn_farestate_State_price := by kernel_rfl

def h_transitref35_Price : Hints := ⟨[(0, [1, 2]), (1, [1, 2, 11]), (2, [4, 5, 6]), (3, [1, 2, 14]), (4, [4, 5, 6]), (5, [2, 7, 8]), (6, [2, 7, 22]), (7, [4, 5, 6]), (8, [4, 5, 6])], [], []⟩
def o28_0 : List AOper := [⟨some 2, (.box 4 (.tmp 0)), false, none⟩,
  ⟨some 4, (.mov (.const (.int .i64 0))), false, none⟩,
  ⟨some 5, (.mov (.const (.slice [] .nil))), false, none⟩,
  ⟨some 6, (.mov (.const (.int .i64 0))), false, none⟩]
def c28_1 : ACode := (.region o28_0 [1, 2])
def w28_1 (_P : Program) (Q : Exit → Slots → Mem → Prop) (M : Mem) (v0 : V) (v1 : V) : Prop :=
  @OptMH (boxV 4 v0 M) ⟨fun t2_1 M1 =>
  Q .normal [(1, v1), (2, t2_1)] M1⟩
theorem e28_1 (P : Program) (Q : Exit → Slots → Mem → Prop) (s : Slots) (M : Mem) : wpC P c28_1 Q s M = w28_1 P Q M (sget s 0) (sget s 1) := by kernel_rfl
def o28_2 : List AOper := [⟨some 4, (.mov (.const (.int .i64 0))), false, none⟩,
  ⟨some 5, (.mov (.const (.slice [] .nil))), false, none⟩,
  ⟨some 6, (.mov (.const (.int .i64 20))), false, none⟩]
def c28_3 : ACode := (.region o28_2 [4, 5, 6])
def w28_3 (_P : Program) (Q : Exit → Slots → Mem → Prop) (M : Mem) : Prop :=
  Q .normal [(4, (.int .i64 0)), (5, (.slice [] .nil)), (6, (.int .i64 20))] M
theorem e28_3 (P : Program) (Q : Exit → Slots → Mem → Prop) (s : Slots) (M : Mem) : wpC P c28_3 Q s M = w28_3 P Q M := by kernel_rfl
def c28_4 : ACode := (.seq c28_3 .ret)
def o28_5 : List AOper := [⟨some 9, (.load 4 true (.tmp 2)), false, none⟩,
  ⟨some 10, (.call i_transitref35_Valid [(.tmp 9)]), true, none⟩,
  ⟨some 11, (.un .not (.tmp 10)), true, none⟩]
def c28_6 : ACode := (.seq (.region o28_5 [1, 2, 11]) (.cond (.tmp 11) c28_4 .skip))
def w28_6 (P : Program) (Q : Exit → Slots → Mem → Prop) (M : Mem) (v1 : V) (v2 : V) : Prop :=
  @OptVH (loadV 4 true v2 M) ⟨fun t9_1 =>
  @CallH P i_transitref35_Valid [t9_1] M ⟨fun t10_2 M2 => @OptBH (some t10_2) ⟨fun b10_2 =>
  @OptBH (unV .not (.bool b10_2)) ⟨fun b11_3 =>
  @BIfH b11_3
  ⟨wpC P c28_4 Q [(1, v1), (2, v2), (11, (.bool b11_3))] M2⟩
  ⟨Q .normal [(1, v1), (2, v2), (11, (.bool b11_3))] M2⟩⟩⟩⟩⟩
theorem e28_6 (P : Program) (Q : Exit → Slots → Mem → Prop) (s : Slots) (M : Mem) : wpC P c28_6 Q s M = w28_6 P Q M (sget s 1) (sget s 2) := by kernel_rfl
def o28_7 : List AOper := [⟨some 4, (.mov (.const (.int .i64 0))), false, none⟩,
  ⟨some 5, (.mov (.const (.slice [] .nil))), false, none⟩,
  ⟨some 6, (.mov (.const (.int .i64 33))), false, none⟩]
def c28_8 : ACode := (.region o28_7 [4, 5, 6])
def w28_8 (_P : Program) (Q : Exit → Slots → Mem → Prop) (M : Mem) : Prop :=
  Q .normal [(4, (.int .i64 0)), (5, (.slice [] .nil)), (6, (.int .i64 33))] M
theorem e28_8 (P : Program) (Q : Exit → Slots → Mem → Prop) (s : Slots) (M : Mem) : wpC P c28_8 Q s M = w28_8 P Q M := by kernel_rfl
def c28_9 : ACode := (.seq c28_8 .ret)
def o28_10 : List AOper := [⟨some 12, (.mov (.tmp 1)), false, none⟩,
  ⟨some 13, (.lenSl (.tmp 12)), false, none⟩,
  ⟨some 14, (.bin .gtr .none (.tmp 13) (.const (.int .i64 8))), true, none⟩]
def c28_11 : ACode := (.seq (.region o28_10 [1, 2, 14]) (.cond (.tmp 14) c28_9 .skip))
def w28_11 (P : Program) (Q : Exit → Slots → Mem → Prop) (M : Mem) (v1 : V) (v2 : V) : Prop :=
  @OptVH (lenV v1 M) ⟨fun t13_2 =>
  @OptBH (binV .gtr .none t13_2 (.int .i64 8)) ⟨fun b14_3 =>
  @BIfH b14_3
  ⟨wpC P c28_9 Q [(1, v1), (2, v2), (14, (.bool b14_3))] M⟩
  ⟨Q .normal [(1, v1), (2, v2), (14, (.bool b14_3))] M⟩⟩⟩
theorem e28_11 (P : Program) (Q : Exit → Slots → Mem → Prop) (s : Slots) (M : Mem) : wpC P c28_11 Q s M = w28_11 P Q M (sget s 1) (sget s 2) := by kernel_rfl
def o28_12 : List AOper := [⟨some 16, (.load 4 true (.tmp 2)), false, none⟩,
  ⟨some 17, (.mov (.tmp 1)), false, none⟩,
  ⟨some 18, (.call i_transitref35_Best [(.tmp 16), (.tmp 17)]), false, none⟩,
  ⟨some 15, (.mov (.tmp 18)), false, none⟩,
  ⟨some 19, (.extract (.tmp 15) 0), false, none⟩,
  ⟨some 20, (.extract (.tmp 15) 1), true, none⟩,
  ⟨some 7, (.mov (.tmp 19)), false, none⟩,
  ⟨some 8, (.mov (.tmp 20)), true, none⟩]
def c28_13 : ACode := (.region o28_12 [2, 7, 8])
def w28_13 (P : Program) (Q : Exit → Slots → Mem → Prop) (M : Mem) (v1 : V) (v2 : V) : Prop :=
  @OptVH (loadV 4 true v2 M) ⟨fun t16_1 =>
  @CallH P i_transitref35_Best [t16_1, v1] M ⟨fun t18_3 M3 =>
  @OptVH (extractV t18_3 0) ⟨fun t19_5 =>
  @OptBH (extractV t18_3 1) ⟨fun b20_6 =>
  Q .normal [(2, v2), (7, t19_5), (8, (.bool b20_6))] M3⟩⟩⟩⟩
theorem e28_13 (P : Program) (Q : Exit → Slots → Mem → Prop) (s : Slots) (M : Mem) : wpC P c28_13 Q s M = w28_13 P Q M (sget s 1) (sget s 2) := by kernel_rfl
def o28_14 : List AOper := [⟨some 4, (.mov (.const (.int .i64 0))), false, none⟩,
  ⟨some 5, (.mov (.const (.slice [] .nil))), false, none⟩,
  ⟨some 6, (.mov (.const (.int .i64 34))), false, none⟩]
def c28_15 : ACode := (.region o28_14 [4, 5, 6])
def w28_15 (_P : Program) (Q : Exit → Slots → Mem → Prop) (M : Mem) : Prop :=
  Q .normal [(4, (.int .i64 0)), (5, (.slice [] .nil)), (6, (.int .i64 34))] M
theorem e28_15 (P : Program) (Q : Exit → Slots → Mem → Prop) (s : Slots) (M : Mem) : wpC P c28_15 Q s M = w28_15 P Q M := by kernel_rfl
def c28_16 : ACode := (.seq c28_15 .ret)
def o28_17 : List AOper := [⟨some 21, (.mov (.tmp 8)), true, none⟩,
  ⟨some 22, (.un .not (.tmp 21)), true, none⟩]
def c28_18 : ACode := (.seq (.region o28_17 [2, 7, 22]) (.cond (.tmp 22) c28_16 .skip))
def w28_18 (P : Program) (Q : Exit → Slots → Mem → Prop) (M : Mem) (v2 : V) (v7 : V) (v8 : V) : Prop :=
  @OptBH (some v8) ⟨fun b21_1 =>
  @OptBH (unV .not (.bool b21_1)) ⟨fun b22_2 =>
  @BIfH b22_2
  ⟨wpC P c28_16 Q [(2, v2), (7, v7), (22, (.bool b22_2))] M⟩
  ⟨Q .normal [(2, v2), (7, v7), (22, (.bool b22_2))] M⟩⟩⟩
theorem e28_18 (P : Program) (Q : Exit → Slots → Mem → Prop) (s : Slots) (M : Mem) : wpC P c28_18 Q s M = w28_18 P Q M (sget s 2) (sget s 7) (sget s 8) := by kernel_rfl
def o28_19 : List AOper := [⟨some 23, (.load 4 true (.tmp 2)), false, none⟩,
  ⟨some 24, (.mov (.tmp 7)), false, none⟩,
  ⟨some 25, (.call i_transitref35_Sum [(.tmp 24)]), false, none⟩,
  ⟨some 26, (.call i_transitref35_Capped [(.tmp 23), (.tmp 25)]), false, none⟩,
  ⟨some 27, (.mov (.tmp 7)), false, none⟩,
  ⟨some 4, (.mov (.tmp 26)), false, none⟩,
  ⟨some 5, (.mov (.tmp 27)), false, none⟩,
  ⟨some 6, (.mov (.const (.int .i64 0))), false, none⟩]
def c28_20 : ACode := (.mixed o28_19 [true, true, true, true, true, true, true, true] [4, 5, 6])
def w28_20 (P : Program) (Q : Exit → Slots → Mem → Prop) (M : Mem) (v2 : V) (v7 : V) : Prop :=
  @OptVH (loadV 4 true v2 M) ⟨fun t23_1 =>
  @CallQ P i_transitref35_Sum [v7] M ⟨fun t25_3 M3 =>
  @CallQ P i_transitref35_Capped [t23_1, t25_3] M3 ⟨fun t26_4 M4 =>
  Q .normal [(4, t26_4), (5, v7), (6, (.int .i64 0))] M4⟩⟩⟩
theorem e28_20 (P : Program) (Q : Exit → Slots → Mem → Prop) (s : Slots) (M : Mem) : wpC P c28_20 Q s M = w28_20 P Q M (sget s 2) (sget s 7) := by kernel_rfl
def c28_21 : ACode := (.seq c28_20 .ret)
def c28_22 : ACode := (.seq c28_18 c28_21)
def c28_23 : ACode := (.seq c28_13 c28_22)
def c28_24 : ACode := (.seq c28_11 c28_23)
def c28_25 : ACode := (.seq c28_6 c28_24)
def c28_26 : ACode := (.seq c28_1 c28_25)
def fn_transitref35_Price : AFn := ⟨28, [(.tmp 4), (.tmp 5), (.tmp 6)], c28_26⟩
theorem fn_transitref35_Price_ok : resFn PR h_transitref35_Price i_transitref35_Price = some fn_transitref35_Price := by kernel_rfl

def h_farestate_sameFares : Hints := ⟨[(0, [0, 1]), (1, [0, 1, 9]), (2, [4]), (3, [0, 1, 53]), (4, [4]), (5, [1, 57, 58, 59]), (6, [1, 57, 58, 59, 60]), (7, [1, 5, 6, 57, 58, 59]), (8, [1, 57, 58, 59, 72]), (9, [4]), (10, [1, 57, 58, 59]), (11, [4])], [(6, [1, 57, 58, 59])], [(1, [2])]⟩
def o29_0 : List AOper := [⟨some 4, (.mov (.const (.bool false))), true, none⟩]
def c29_1 : ACode := (.region o29_0 [0, 1])
def w29_1 (_P : Program) (Q : Exit → Slots → Mem → Prop) (M : Mem) (v0 : V) (v1 : V) : Prop :=
  Q .normal [(0, v0), (1, v1)] M
theorem e29_1 (P : Program) (Q : Exit → Slots → Mem → Prop) (s : Slots) (M : Mem) : wpC P c29_1 Q s M = w29_1 P Q M (sget s 0) (sget s 1) := by kernel_rfl
def o29_2 : List AOper := [⟨some 7, (.mov (.tmp 0)), false, none⟩,
  ⟨some 8, (.mov (.tmp 1)), false, none⟩,
  ⟨some 9, (.peq false (.tmp 7) (.tmp 8)), true, none⟩]
def c29_3 : ACode := (.region o29_2 [0, 1, 9])
def w29_3 (_P : Program) (Q : Exit → Slots → Mem → Prop) (M : Mem) (v0 : V) (v1 : V) : Prop :=
  @OptMH (peqV false v0 v1 M) ⟨fun t9_3 M3 =>
  Q .normal [(0, v0), (1, v1), (9, t9_3)] M3⟩
theorem e29_3 (P : Program) (Q : Exit → Slots → Mem → Prop) (s : Slots) (M : Mem) : wpC P c29_3 Q s M = w29_3 P Q M (sget s 0) (sget s 1) := by kernel_rfl
def o29_4 : List AOper := [⟨some 4, (.mov (.const (.bool true))), true, none⟩]
def c29_5 : ACode := (.region o29_4 [4])
def w29_5 (_P : Program) (Q : Exit → Slots → Mem → Prop) (M : Mem) : Prop :=
  Q .normal [(4, (.bool true))] M
theorem e29_5 (P : Program) (Q : Exit → Slots → Mem → Prop) (s : Slots) (M : Mem) : wpC P c29_5 Q s M = w29_5 P Q M := by kernel_rfl
def c29_6 : ACode := (.seq c29_5 .ret)
def c29_7 : ACode := (.cond (.tmp 9) c29_6 .skip)
def c29_8 : ACode := (.seq c29_3 c29_7)
def o29_9 : List AOper := [⟨some 4, (.mov (.const (.bool false))), true, none⟩]
def c29_10 : ACode := (.region o29_9 [4])
def w29_10 (_P : Program) (Q : Exit → Slots → Mem → Prop) (M : Mem) : Prop :=
  Q .normal [(4, (.bool false))] M
theorem e29_10 (P : Program) (Q : Exit → Slots → Mem → Prop) (s : Slots) (M : Mem) : wpC P c29_10 Q s M = w29_10 P Q M := by kernel_rfl
def c29_11 : ACode := (.seq c29_10 .ret)
def o29_12 : List AOper := [⟨some 10, (.mov (.tmp 0)), false, none⟩,
  ⟨some 11, (.nilCheck (.tmp 10)), false, none⟩,
  ⟨some 12, (.fieldAddr 0 (.tmp 11)), false, none⟩,
  ⟨some 13, (.load 1 false (.tmp 12)), false, none⟩,
  ⟨some 14, (.lenSl (.tmp 13)), false, none⟩,
  ⟨some 15, (.mov (.tmp 1)), false, none⟩,
  ⟨some 16, (.nilCheck (.tmp 15)), false, none⟩,
  ⟨some 17, (.fieldAddr 0 (.tmp 16)), false, none⟩,
  ⟨some 18, (.load 1 false (.tmp 17)), false, none⟩,
  ⟨some 19, (.lenSl (.tmp 18)), false, none⟩,
  ⟨some 20, (.bin .neq .none (.tmp 14) (.tmp 19)), true, none⟩,
  ⟨some 21, (.mov (.tmp 20)), true, none⟩,
  ⟨some 22, (.mov (.tmp 0)), false, some (21, false)⟩,
  ⟨some 23, (.nilCheck (.tmp 22)), false, some (21, false)⟩,
  ⟨some 24, (.fieldAddr 1 (.tmp 23)), false, some (21, false)⟩,
  ⟨some 25, (.load 1 false (.tmp 24)), false, some (21, false)⟩,
  ⟨some 26, (.mov (.tmp 1)), false, some (21, false)⟩,
  ⟨some 27, (.nilCheck (.tmp 26)), false, some (21, false)⟩,
  ⟨some 28, (.fieldAddr 1 (.tmp 27)), false, some (21, false)⟩,
  ⟨some 29, (.load 1 false (.tmp 28)), false, some (21, false)⟩,
  ⟨some 30, (.bin .neq .none (.tmp 25) (.tmp 29)), true, some (21, false)⟩,
  ⟨some 31, (.pick (.tmp 21) (.const (.bool true)) (.tmp 30)), true, none⟩,
  ⟨some 32, (.mov (.tmp 31)), true, none⟩,
  ⟨some 33, (.mov (.tmp 0)), false, some (32, false)⟩,
  ⟨some 34, (.nilCheck (.tmp 33)), false, some (32, false)⟩,
  ⟨some 35, (.fieldAddr 2 (.tmp 34)), false, some (32, false)⟩,
  ⟨some 36, (.load 1 false (.tmp 35)), false, some (32, false)⟩,
  ⟨some 37, (.mov (.tmp 1)), false, some (32, false)⟩,
  ⟨some 38, (.nilCheck (.tmp 37)), false, some (32, false)⟩,
  ⟨some 39, (.fieldAddr 2 (.tmp 38)), false, some (32, false)⟩,
  ⟨some 40, (.load 1 false (.tmp 39)), false, some (32, false)⟩,
  ⟨some 41, (.bin .neq .none (.tmp 36) (.tmp 40)), true, some (32, false)⟩,
  ⟨some 42, (.pick (.tmp 32) (.const (.bool true)) (.tmp 41)), true, none⟩,
  ⟨some 43, (.mov (.tmp 42)), true, none⟩,
  ⟨some 44, (.mov (.tmp 0)), false, some (43, false)⟩,
  ⟨some 45, (.nilCheck (.tmp 44)), false, some (43, false)⟩,
  ⟨some 46, (.fieldAddr 3 (.tmp 45)), false, some (43, false)⟩,
  ⟨some 47, (.load 1 false (.tmp 46)), false, some (43, false)⟩,
  ⟨some 48, (.mov (.tmp 1)), false, some (43, false)⟩,
  ⟨some 49, (.nilCheck (.tmp 48)), false, some (43, false)⟩,
  ⟨some 50, (.fieldAddr 3 (.tmp 49)), false, some (43, false)⟩,
  ⟨some 51, (.load 1 false (.tmp 50)), false, some (43, false)⟩,
  ⟨some 52, (.bin .neq .none (.tmp 47) (.tmp 51)), true, some (43, false)⟩,
  ⟨some 53, (.pick (.tmp 43) (.const (.bool true)) (.tmp 52)), true, none⟩]
def c29_13 : ACode := (.seq (.mixed o29_12 [true, true, true, true, true, true, true, true, true, true, true, true, true, true, true, true, true, true, true, true, true, true, true, true, true, true, true, true, true, true, true, true, true, true, true, true, true, true, true, true, true, true, true, true] [0, 1, 53]) (.cond (.tmp 53) c29_11 .skip))
def w29_13 (P : Program) (Q : Exit → Slots → Mem → Prop) (M : Mem) (v0 : V) (v1 : V) : Prop :=
  @OptVH (nilCheckV v0) ⟨fun t11_2 =>
  @OptVH (moveV 0 t11_2) ⟨fun t12_3 =>
  @OptVH (loadV 1 false t12_3 M) ⟨fun t13_4 =>
  @OptVH (lenV t13_4 M) ⟨fun t14_5 =>
  @OptVH (nilCheckV v1) ⟨fun t16_7 =>
  @OptVH (moveV 0 t16_7) ⟨fun t17_8 =>
  @OptVH (loadV 1 false t17_8 M) ⟨fun t18_9 =>
  @OptVH (lenV t18_9 M) ⟨fun t19_10 =>
  @OptBH (binV .neq .none t14_5 t19_10) ⟨fun b20_11 =>
  @BIfH b20_11
  ⟨wpC P c29_11 Q [(0, v0), (1, v1), (53, (.bool true))] M⟩
  ⟨@OptVH (nilCheckV v0) ⟨fun t23_19 =>
  @OptVH (moveV 1 t23_19) ⟨fun t24_20 =>
  @OptVH (loadV 1 false t24_20 M) ⟨fun t25_21 =>
  @OptVH (nilCheckV v1) ⟨fun t27_23 =>
  @OptVH (moveV 1 t27_23) ⟨fun t28_24 =>
  @OptVH (loadV 1 false t28_24 M) ⟨fun t29_25 =>
  @OptBH (binV .neq .none t25_21 t29_25) ⟨fun b30_26 =>
  @BIfH b30_26
  ⟨wpC P c29_11 Q [(0, v0), (1, v1), (53, (.bool true))] M⟩
  ⟨@OptVH (nilCheckV v0) ⟨fun t34_33 =>
  @OptVH (moveV 2 t34_33) ⟨fun t35_34 =>
  @OptVH (loadV 1 false t35_34 M) ⟨fun t36_35 =>
  @OptVH (nilCheckV v1) ⟨fun t38_37 =>
  @OptVH (moveV 2 t38_37) ⟨fun t39_38 =>
  @OptVH (loadV 1 false t39_38 M) ⟨fun t40_39 =>
  @OptBH (binV .neq .none t36_35 t40_39) ⟨fun b41_40 =>
  @BIfH b41_40
  ⟨wpC P c29_11 Q [(0, v0), (1, v1), (53, (.bool true))] M⟩
  ⟨@OptVH (nilCheckV v0) ⟨fun t45_45 =>
  @OptVH (moveV 3 t45_45) ⟨fun t46_46 =>
  @OptVH (loadV 1 false t46_46 M) ⟨fun t47_47 =>
  @OptVH (nilCheckV v1) ⟨fun t49_49 =>
  @OptVH (moveV 3 t49_49) ⟨fun t50_50 =>
  @OptVH (loadV 1 false t50_50 M) ⟨fun t51_51 =>
  @OptBH (binV .neq .none t47_47 t51_51) ⟨fun b52_52 =>
  @BIfH b52_52
  ⟨wpC P c29_11 Q [(0, v0), (1, v1), (53, (.bool b52_52))] M⟩
  ⟨Q .normal [(0, v0), (1, v1), (53, (.bool b52_52))] M⟩⟩⟩⟩⟩⟩⟩⟩⟩⟩⟩⟩⟩⟩⟩⟩⟩⟩⟩⟩⟩⟩⟩⟩⟩⟩⟩⟩⟩⟩⟩⟩⟩⟩
theorem e29_13 (P : Program) (Q : Exit → Slots → Mem → Prop) (s : Slots) (M : Mem) : wpC P c29_13 Q s M = w29_13 P Q M (sget s 0) (sget s 1) := by kernel_rfl
def o29_14 : List AOper := [⟨some 54, (.mov (.tmp 0)), false, none⟩,
  ⟨some 55, (.nilCheck (.tmp 54)), false, none⟩,
  ⟨some 56, (.fieldAddr 0 (.tmp 55)), false, none⟩,
  ⟨some 57, (.load 1 false (.tmp 56)), false, none⟩,
  ⟨some 58, (.lenSl (.tmp 57)), false, none⟩,
  ⟨some 59, (.mov (.const (.int .i64 0))), false, none⟩]
def c29_15 : ACode := (.region o29_14 [1, 57, 58, 59])
def w29_15 (_P : Program) (Q : Exit → Slots → Mem → Prop) (M : Mem) (v0 : V) (v1 : V) : Prop :=
  @OptVH (nilCheckV v0) ⟨fun t55_2 =>
  @OptVH (moveV 0 t55_2) ⟨fun t56_3 =>
  @OptVH (loadV 1 false t56_3 M) ⟨fun t57_4 =>
  @OptVH (lenV t57_4 M) ⟨fun t58_5 =>
  Q .normal [(1, v1), (57, t57_4), (58, t58_5), (59, (.int .i64 0))] M⟩⟩⟩⟩
theorem e29_15 (P : Program) (Q : Exit → Slots → Mem → Prop) (s : Slots) (M : Mem) : wpC P c29_15 Q s M = w29_15 P Q M (sget s 0) (sget s 1) := by kernel_rfl
def o29_16 : List AOper := [⟨some 60, (.bin .lss .none (.tmp 59) (.tmp 58)), false, none⟩]
def c29_17 : ACode := (.region o29_16 [1, 57, 58, 59, 60])
def w29_17 (_P : Program) (Q : Exit → Slots → Mem → Prop) (M : Mem) (v1 : V) (v57 : V) (v58 : V) (v59 : V) : Prop :=
  @OptVH (binV .lss .none v59 v58) ⟨fun t60_1 =>
  Q .normal [(1, v1), (57, v57), (58, v58), (59, v59), (60, t60_1)] M⟩
theorem e29_17 (P : Program) (Q : Exit → Slots → Mem → Prop) (s : Slots) (M : Mem) : wpC P c29_17 Q s M = w29_17 P Q M (sget s 1) (sget s 57) (sget s 58) (sget s 59) := by kernel_rfl
def c29_18 : ACode := (.cond (.tmp 60) .skip (.exit 0))
def o29_19 : List AOper := [⟨some 61, (.mov (.tmp 59)), false, none⟩,
  ⟨some 62, (.indexSl 6 (.tmp 57) (.tmp 59)), false, none⟩,
  ⟨some 63, (.load 6 true (.tmp 62)), false, none⟩,
  ⟨some 6, (.alloc [(.str []), (.int .i64 0), (.int .i64 0), (.int .i64 0), (.int .i64 0), (.int .i64 0)]), false, none⟩,
  ⟨some 5, (.mov (.tmp 61)), false, none⟩,
  ⟨none, (.store 6 (.tmp 6) (.tmp 63)), false, none⟩]
def c29_20 : ACode := (.region o29_19 [1, 5, 6, 57, 58, 59])
def w29_20 (_P : Program) (Q : Exit → Slots → Mem → Prop) (M : Mem) (v1 : V) (v57 : V) (v58 : V) (v59 : V) : Prop :=
  @OptVH (indexSlV 6 v57 v59 M) ⟨fun t62_2 =>
  @OptVH (loadV 6 true t62_2 M) ⟨fun t63_3 =>
  @OptMH (allocV [(.str []), (.int .i64 0), (.int .i64 0), (.int .i64 0), (.int .i64 0), (.int .i64 0)] M) ⟨fun t6_4 M4 =>
  @OptMH (storeVM 6 t6_4 t63_3 M4) ⟨fun _tx_6 M6 =>
  Q .normal [(1, v1), (5, v59), (6, t6_4), (57, v57), (58, v58), (59, v59)] M6⟩⟩⟩⟩
theorem e29_20 (P : Program) (Q : Exit → Slots → Mem → Prop) (s : Slots) (M : Mem) : wpC P c29_20 Q s M = w29_20 P Q M (sget s 1) (sget s 57) (sget s 58) (sget s 59) := by kernel_rfl
def o29_21 : List AOper := [⟨some 4, (.mov (.const (.bool false))), true, none⟩]
def c29_22 : ACode := (.region o29_21 [4])
def w29_22 (_P : Program) (Q : Exit → Slots → Mem → Prop) (M : Mem) : Prop :=
  Q .normal [(4, (.bool false))] M
theorem e29_22 (P : Program) (Q : Exit → Slots → Mem → Prop) (s : Slots) (M : Mem) : wpC P c29_22 Q s M = w29_22 P Q M := by kernel_rfl
def c29_23 : ACode := (.seq c29_22 .ret)
def o29_24 : List AOper := [⟨some 64, (.load 6 true (.tmp 6)), false, none⟩,
  ⟨some 65, (.mov (.tmp 1)), false, none⟩,
  ⟨some 66, (.nilCheck (.tmp 65)), false, none⟩,
  ⟨some 67, (.fieldAddr 0 (.tmp 66)), false, none⟩,
  ⟨some 68, (.load 1 false (.tmp 67)), false, none⟩,
  ⟨some 69, (.mov (.tmp 5)), false, none⟩,
  ⟨some 70, (.indexSl 6 (.tmp 68) (.tmp 69)), false, none⟩,
  ⟨some 71, (.load 6 true (.tmp 70)), false, none⟩,
  ⟨some 72, (.bin .neq (.cells [.str, .int, .int, .int, .int, .int]) (.tmp 64) (.tmp 71)), true, none⟩]
def c29_25 : ACode := (.seq (.mixed o29_24 [true, true, true, true, true, true, true, true, true] [1, 57, 58, 59, 72]) (.cond (.tmp 72) c29_23 .skip))
def w29_25 (P : Program) (Q : Exit → Slots → Mem → Prop) (M : Mem) (v1 : V) (v5 : V) (v6 : V) (v57 : V) (v58 : V) (v59 : V) : Prop :=
  @OptVH (loadV 6 true v6 M) ⟨fun t64_1 =>
  @OptVH (nilCheckV v1) ⟨fun t66_3 =>
  @OptVH (moveV 0 t66_3) ⟨fun t67_4 =>
  @OptVH (loadV 1 false t67_4 M) ⟨fun t68_5 =>
  @OptVH (indexSlV 6 t68_5 v5 M) ⟨fun t70_7 =>
  @OptVH (loadV 6 true t70_7 M) ⟨fun t71_8 =>
  @OptBH (binV .neq (.cells [.str, .int, .int, .int, .int, .int]) t64_1 t71_8) ⟨fun b72_9 =>
  @BIfH b72_9
  ⟨wpC P c29_23 Q [(1, v1), (57, v57), (58, v58), (59, v59), (72, (.bool b72_9))] M⟩
  ⟨Q .normal [(1, v1), (57, v57), (58, v58), (59, v59), (72, (.bool b72_9))] M⟩⟩⟩⟩⟩⟩⟩⟩
theorem e29_25 (P : Program) (Q : Exit → Slots → Mem → Prop) (s : Slots) (M : Mem) : wpC P c29_25 Q s M = w29_25 P Q M (sget s 1) (sget s 5) (sget s 6) (sget s 57) (sget s 58) (sget s 59) := by kernel_rfl
def c29_26 : ACode := (.seq c29_20 c29_25)
def c29_27 : ACode := (.block 1 c29_26)
def o29_28 : List AOper := [⟨some 73, (.bin .add .none (.tmp 59) (.const (.int .i64 1))), false, none⟩,
  ⟨some 59, (.mov (.tmp 73)), false, none⟩]
def c29_29 : ACode := (.region o29_28 [1, 57, 58, 59])
def w29_29 (_P : Program) (Q : Exit → Slots → Mem → Prop) (M : Mem) (v1 : V) (v57 : V) (v58 : V) (v59 : V) : Prop :=
  @OptVH (binV .add .none v59 (.int .i64 1)) ⟨fun t73_1 =>
  Q .normal [(1, v1), (57, v57), (58, v58), (59, t73_1)] M⟩
theorem e29_29 (P : Program) (Q : Exit → Slots → Mem → Prop) (s : Slots) (M : Mem) : wpC P c29_29 Q s M = w29_29 P Q M (sget s 1) (sget s 57) (sget s 58) (sget s 59) := by kernel_rfl
def c29_30 : ACode := (.seq c29_27 c29_29)
def c29_31 : ACode := (.seq c29_18 c29_30)
def c29_32 : ACode := (.seq c29_17 c29_31)
def c29_33 : ACode := (.loop [1, 57, 58, 59] c29_32)
def c29_34 : ACode := (.block 0 c29_33)
def c29_35 : ACode := (.seq c29_15 c29_34)
def o29_36 : List AOper := [⟨some 4, (.mov (.const (.bool true))), true, none⟩]
def c29_37 : ACode := (.region o29_36 [4])
def w29_37 (_P : Program) (Q : Exit → Slots → Mem → Prop) (M : Mem) : Prop :=
  Q .normal [(4, (.bool true))] M
theorem e29_37 (P : Program) (Q : Exit → Slots → Mem → Prop) (s : Slots) (M : Mem) : wpC P c29_37 Q s M = w29_37 P Q M := by kernel_rfl
def c29_38 : ACode := (.seq c29_37 .ret)
def c29_39 : ACode := (.seq c29_35 c29_38)
def c29_40 : ACode := (.seq c29_13 c29_39)
def c29_41 : ACode := (.seq c29_8 c29_40)
def c29_42 : ACode := (.seq c29_1 c29_41)
def fn_farestate_sameFares : AFn := ⟨74, [(.tmp 4)], c29_42⟩
theorem fn_farestate_sameFares_ok : resFn PR h_farestate_sameFares i_farestate_sameFares = some fn_farestate_sameFares := by kernel_rfl

def h_farestate_closedBetter : Hints := ⟨[(0, [0, 1]), (1, [0, 1, 5, 6]), (2, [0, 1, 5, 6, 25]), (3, [4]), (4, [0, 1, 5, 6, 28]), (5, [4]), (6, [0, 1, 36]), (7, [4]), (8, [4])], [], []⟩
def o30_0 : List AOper := [⟨some 4, (.mov (.const (.bool false))), true, none⟩]
def c30_1 : ACode := (.region o30_0 [0, 1])
def w30_1 (_P : Program) (Q : Exit → Slots → Mem → Prop) (M : Mem) (v0 : V) (v1 : V) : Prop :=
  Q .normal [(0, v0), (1, v1)] M
theorem e30_1 (P : Program) (Q : Exit → Slots → Mem → Prop) (s : Slots) (M : Mem) : wpC P c30_1 Q s M = w30_1 P Q M (sget s 0) (sget s 1) := by kernel_rfl
def o30_2 : List AOper := [⟨some 7, (.mov (.tmp 0)), false, none⟩,
  ⟨some 8, (.mov (.tmp 0)), false, none⟩,
  ⟨some 9, (.nilCheck (.tmp 8)), false, none⟩,
  ⟨some 10, (.fieldAddr 6 (.tmp 9)), false, none⟩,
  ⟨some 11, (.load 1 false (.tmp 10)), false, none⟩,
  ⟨some 12, (.nilCheck (.tmp 7)), false, none⟩,
  ⟨some 13, (.fieldAddr 7 (.tmp 12)), false, none⟩,
  ⟨some 14, (.indexArr 9 1 (.tmp 13) (.tmp 11)), false, none⟩,
  ⟨some 15, (.load 1 false (.tmp 14)), false, none⟩,
  ⟨some 16, (.mov (.tmp 1)), false, none⟩,
  ⟨some 17, (.mov (.tmp 1)), false, none⟩,
  ⟨some 18, (.nilCheck (.tmp 17)), false, none⟩,
  ⟨some 19, (.fieldAddr 6 (.tmp 18)), false, none⟩,
  ⟨some 20, (.load 1 false (.tmp 19)), false, none⟩,
  ⟨some 21, (.nilCheck (.tmp 16)), false, none⟩,
  ⟨some 22, (.fieldAddr 7 (.tmp 21)), false, none⟩,
  ⟨some 23, (.indexArr 9 1 (.tmp 22) (.tmp 20)), false, none⟩,
  ⟨some 24, (.load 1 false (.tmp 23)), false, none⟩,
  ⟨some 5, (.mov (.tmp 15)), false, none⟩,
  ⟨some 6, (.mov (.tmp 24)), false, none⟩]
def c30_3 : ACode := (.mixed o30_2 [true, true, true, true, true, true, true, true, true, true, true, true, true, true, true, true, true, true, true, true] [0, 1, 5, 6])
def w30_3 (_P : Program) (Q : Exit → Slots → Mem → Prop) (M : Mem) (v0 : V) (v1 : V) : Prop :=
  @OptVH (nilCheckV v0) ⟨fun t9_3 =>
  @OptVH (moveV 6 t9_3) ⟨fun t10_4 =>
  @OptVH (loadV 1 false t10_4 M) ⟨fun t11_5 =>
  @OptVH (nilCheckV v0) ⟨fun t12_6 =>
  @OptVH (moveV 7 t12_6) ⟨fun t13_7 =>
  @OptVH (indexArrV 9 1 t13_7 t11_5) ⟨fun t14_8 =>
  @OptVH (loadV 1 false t14_8 M) ⟨fun t15_9 =>
  @OptVH (nilCheckV v1) ⟨fun t18_12 =>
  @OptVH (moveV 6 t18_12) ⟨fun t19_13 =>
  @OptVH (loadV 1 false t19_13 M) ⟨fun t20_14 =>
  @OptVH (nilCheckV v1) ⟨fun t21_15 =>
  @OptVH (moveV 7 t21_15) ⟨fun t22_16 =>
  @OptVH (indexArrV 9 1 t22_16 t20_14) ⟨fun t23_17 =>
  @OptVH (loadV 1 false t23_17 M) ⟨fun t24_18 =>
  Q .normal [(0, v0), (1, v1), (5, t15_9), (6, t24_18)] M⟩⟩⟩⟩⟩⟩⟩⟩⟩⟩⟩⟩⟩⟩
theorem e30_3 (P : Program) (Q : Exit → Slots → Mem → Prop) (s : Slots) (M : Mem) : wpC P c30_3 Q s M = w30_3 P Q M (sget s 0) (sget s 1) := by kernel_rfl
def o30_4 : List AOper := [⟨some 4, (.mov (.const (.bool true))), true, none⟩]
def c30_5 : ACode := (.region o30_4 [4])
def w30_5 (_P : Program) (Q : Exit → Slots → Mem → Prop) (M : Mem) : Prop :=
  Q .normal [(4, (.bool true))] M
theorem e30_5 (P : Program) (Q : Exit → Slots → Mem → Prop) (s : Slots) (M : Mem) : wpC P c30_5 Q s M = w30_5 P Q M := by kernel_rfl
def c30_6 : ACode := (.seq c30_5 .ret)
def o30_7 : List AOper := [⟨some 4, (.mov (.const (.bool false))), true, none⟩]
def c30_8 : ACode := (.region o30_7 [4])
def w30_8 (_P : Program) (Q : Exit → Slots → Mem → Prop) (M : Mem) : Prop :=
  Q .normal [(4, (.bool false))] M
theorem e30_8 (P : Program) (Q : Exit → Slots → Mem → Prop) (s : Slots) (M : Mem) : wpC P c30_8 Q s M = w30_8 P Q M := by kernel_rfl
def c30_9 : ACode := (.seq c30_8 .ret)
def o30_10 : List AOper := [⟨some 4, (.mov (.const (.bool true))), true, none⟩]
def c30_11 : ACode := (.region o30_10 [4])
def w30_11 (_P : Program) (Q : Exit → Slots → Mem → Prop) (M : Mem) : Prop :=
  Q .normal [(4, (.bool true))] M
theorem e30_11 (P : Program) (Q : Exit → Slots → Mem → Prop) (s : Slots) (M : Mem) : wpC P c30_11 Q s M = w30_11 P Q M := by kernel_rfl
def c30_12 : ACode := (.seq c30_11 .ret)
def o30_13 : List AOper := [⟨some 37, (.mov (.tmp 0)), false, none⟩,
  ⟨some 38, (.nilCheck (.tmp 37)), false, none⟩,
  ⟨some 39, (.fieldAddr 0 (.tmp 38)), false, none⟩,
  ⟨some 40, (.load 1 false (.tmp 39)), false, none⟩,
  ⟨some 41, (.nilCheck (.tmp 40)), false, none⟩,
  ⟨some 42, (.fieldAddr 1 (.tmp 41)), false, none⟩,
  ⟨some 43, (.load 1 false (.tmp 42)), false, none⟩,
  ⟨some 44, (.bin .eql .none (.tmp 43) (.const (.int .i64 0))), true, none⟩,
  ⟨some 45, (.mov (.tmp 44)), true, none⟩,
  ⟨some 46, (.mov (.tmp 1)), false, some (45, false)⟩,
  ⟨some 47, (.nilCheck (.tmp 46)), false, some (45, false)⟩,
  ⟨some 48, (.fieldAddr 6 (.tmp 47)), false, some (45, false)⟩,
  ⟨some 49, (.load 1 false (.tmp 48)), false, some (45, false)⟩,
  ⟨some 50, (.bin .eql .none (.tmp 49) (.const (.int .i64 0))), true, some (45, false)⟩,
  ⟨some 51, (.pick (.tmp 45) (.const (.bool true)) (.tmp 50)), true, none⟩,
  ⟨some 52, (.mov (.tmp 51)), true, none⟩,
  ⟨some 53, (.mov (.tmp 5)), false, some (52, false)⟩,
  ⟨some 54, (.mov (.tmp 0)), false, some (52, false)⟩,
  ⟨some 55, (.nilCheck (.tmp 54)), false, some (52, false)⟩,
  ⟨some 56, (.fieldAddr 0 (.tmp 55)), false, some (52, false)⟩,
  ⟨some 57, (.load 1 false (.tmp 56)), false, some (52, false)⟩,
  ⟨some 58, (.nilCheck (.tmp 57)), false, some (52, false)⟩,
  ⟨some 59, (.fieldAddr 1 (.tmp 58)), false, some (52, false)⟩,
  ⟨some 60, (.load 1 false (.tmp 59)), false, some (52, false)⟩,
  ⟨some 61, (.bin .add .none (.tmp 53) (.tmp 60)), false, some (52, false)⟩,
  ⟨some 62, (.mov (.tmp 6)), false, some (52, false)⟩,
  ⟨some 63, (.bin .leq .none (.tmp 61) (.tmp 62)), true, some (52, false)⟩,
  ⟨some 64, (.pick (.tmp 52) (.const (.bool true)) (.tmp 63)), true, none⟩,
  ⟨some 36, (.mov (.tmp 64)), true, none⟩]
def c30_14 : ACode := (.seq (.region o30_13 [0, 1, 36]) (.cond (.tmp 36) c30_12 .skip))
def w30_14 (P : Program) (Q : Exit → Slots → Mem → Prop) (M : Mem) (v0 : V) (v1 : V) (v5 : V) (v6 : V) : Prop :=
  @OptVH (nilCheckV v0) ⟨fun t38_2 =>
  @OptVH (moveV 0 t38_2) ⟨fun t39_3 =>
  @OptVH (loadV 1 false t39_3 M) ⟨fun t40_4 =>
  @OptVH (nilCheckV t40_4) ⟨fun t41_5 =>
  @OptVH (moveV 1 t41_5) ⟨fun t42_6 =>
  @OptVH (loadV 1 false t42_6 M) ⟨fun t43_7 =>
  @OptBH (binV .eql .none t43_7 (.int .i64 0)) ⟨fun b44_8 =>
  @BIfH b44_8
  ⟨wpC P c30_12 Q [(0, v0), (1, v1), (36, (.bool true))] M⟩
  ⟨@OptVH (nilCheckV v1) ⟨fun t47_15 =>
  @OptVH (moveV 6 t47_15) ⟨fun t48_16 =>
  @OptVH (loadV 1 false t48_16 M) ⟨fun t49_17 =>
  @OptBH (binV .eql .none t49_17 (.int .i64 0)) ⟨fun b50_18 =>
  @BIfH b50_18
  ⟨wpC P c30_12 Q [(0, v0), (1, v1), (36, (.bool true))] M⟩
  ⟨@OptVH (nilCheckV v0) ⟨fun t55_25 =>
  @OptVH (moveV 0 t55_25) ⟨fun t56_26 =>
  @OptVH (loadV 1 false t56_26 M) ⟨fun t57_27 =>
  @OptVH (nilCheckV t57_27) ⟨fun t58_28 =>
  @OptVH (moveV 1 t58_28) ⟨fun t59_29 =>
  @OptVH (loadV 1 false t59_29 M) ⟨fun t60_30 =>
  @OptVH (binV .add .none v5 t60_30) ⟨fun t61_31 =>
  @OptBH (binV .leq .none t61_31 v6) ⟨fun b63_33 =>
  @BIfH b63_33
  ⟨wpC P c30_12 Q [(0, v0), (1, v1), (36, (.bool b63_33))] M⟩
  ⟨Q .normal [(0, v0), (1, v1), (36, (.bool b63_33))] M⟩⟩⟩⟩⟩⟩⟩⟩⟩⟩⟩⟩⟩⟩⟩⟩⟩⟩⟩⟩⟩⟩
theorem e30_14 (P : Program) (Q : Exit → Slots → Mem → Prop) (s : Slots) (M : Mem) : wpC P c30_14 Q s M = w30_14 P Q M (sget s 0) (sget s 1) (sget s 5) (sget s 6) := by kernel_rfl
def o30_15 : List AOper := [⟨some 29, (.mov (.tmp 5)), false, none⟩,
  ⟨some 30, (.bin .lss .none (.tmp 29) (.const (.int .i64 0))), true, none⟩,
  ⟨some 31, (.mov (.tmp 30)), true, none⟩,
  ⟨some 32, (.mov (.tmp 5)), false, some (31, false)⟩,
  ⟨some 33, (.mov (.tmp 6)), false, some (31, false)⟩,
  ⟨some 34, (.bin .gtr .none (.tmp 32) (.tmp 33)), true, some (31, false)⟩,
  ⟨some 35, (.pick (.tmp 31) (.const (.bool true)) (.tmp 34)), true, none⟩,
  ⟨some 28, (.mov (.tmp 35)), true, none⟩]
def c30_16 : ACode := (.seq (.region o30_15 [0, 1, 5, 6, 28]) (.cond (.tmp 28) c30_9 c30_14))
def w30_16 (P : Program) (Q : Exit → Slots → Mem → Prop) (M : Mem) (v0 : V) (v1 : V) (v5 : V) (v6 : V) : Prop :=
  @OptBH (binV .lss .none v5 (.int .i64 0)) ⟨fun b30_2 =>
  @BIfH b30_2
  ⟨wpC P c30_9 Q [(0, v0), (1, v1), (5, v5), (6, v6), (28, (.bool true))] M⟩
  ⟨@OptBH (binV .gtr .none v5 v6) ⟨fun b34_8 =>
  @BIfH b34_8
  ⟨wpC P c30_9 Q [(0, v0), (1, v1), (5, v5), (6, v6), (28, (.bool b34_8))] M⟩
  ⟨wpC P c30_14 Q [(0, v0), (1, v1), (5, v5), (6, v6), (28, (.bool b34_8))] M⟩⟩⟩⟩
theorem e30_16 (P : Program) (Q : Exit → Slots → Mem → Prop) (s : Slots) (M : Mem) : wpC P c30_16 Q s M = w30_16 P Q M (sget s 0) (sget s 1) (sget s 5) (sget s 6) := by kernel_rfl
def o30_17 : List AOper := [⟨some 26, (.mov (.tmp 6)), false, none⟩,
  ⟨some 27, (.bin .lss .none (.tmp 26) (.const (.int .i64 0))), true, none⟩,
  ⟨some 25, (.mov (.tmp 27)), true, none⟩]
def c30_18 : ACode := (.seq (.region o30_17 [0, 1, 5, 6, 25]) (.cond (.tmp 25) c30_6 c30_16))
def w30_18 (P : Program) (Q : Exit → Slots → Mem → Prop) (M : Mem) (v0 : V) (v1 : V) (v5 : V) (v6 : V) : Prop :=
  @OptBH (binV .lss .none v6 (.int .i64 0)) ⟨fun b27_2 =>
  @BIfH b27_2
  ⟨wpC P c30_6 Q [(0, v0), (1, v1), (5, v5), (6, v6), (25, (.bool b27_2))] M⟩
  ⟨wpC P c30_16 Q [(0, v0), (1, v1), (5, v5), (6, v6), (25, (.bool b27_2))] M⟩⟩
theorem e30_18 (P : Program) (Q : Exit → Slots → Mem → Prop) (s : Slots) (M : Mem) : wpC P c30_18 Q s M = w30_18 P Q M (sget s 0) (sget s 1) (sget s 5) (sget s 6) := by kernel_rfl
def c30_19 : ACode := (.block 0 c30_18)
def o30_20 : List AOper := [⟨some 65, (.mov (.tmp 0)), false, none⟩,
  ⟨some 66, (.nilCheck (.tmp 65)), false, none⟩,
  ⟨some 67, (.fieldAddr 6 (.tmp 66)), false, none⟩,
  ⟨some 68, (.load 1 false (.tmp 67)), false, none⟩,
  ⟨some 69, (.bin .gtr .none (.tmp 68) (.const (.int .i64 0))), true, none⟩,
  ⟨some 70, (.mov (.tmp 69)), true, none⟩,
  ⟨some 71, (.mov (.tmp 0)), false, some (70, true)⟩,
  ⟨some 72, (.nilCheck (.tmp 71)), false, some (70, true)⟩,
  ⟨some 73, (.fieldAddr 2 (.tmp 72)), false, some (70, true)⟩,
  ⟨some 74, (.fieldAddr 1 (.tmp 73)), false, some (70, true)⟩,
  ⟨some 75, (.load 1 false (.tmp 74)), false, some (70, true)⟩,
  ⟨some 76, (.mov (.tmp 1)), false, some (70, true)⟩,
  ⟨some 77, (.nilCheck (.tmp 76)), false, some (70, true)⟩,
  ⟨some 78, (.fieldAddr 2 (.tmp 77)), false, some (70, true)⟩,
  ⟨some 79, (.fieldAddr 1 (.tmp 78)), false, some (70, true)⟩,
  ⟨some 80, (.load 1 false (.tmp 79)), false, some (70, true)⟩,
  ⟨some 81, (.bin .geq .none (.tmp 75) (.tmp 80)), true, some (70, true)⟩,
  ⟨some 82, (.pick (.tmp 70) (.tmp 81) (.const (.bool false))), true, none⟩,
  ⟨some 4, (.mov (.tmp 82)), true, none⟩]
def c30_21 : ACode := (.mixed o30_20 [true, true, true, true, true, true, true, true, true, true, true, true, true, true, true, true, true, true, true] [4])
def w30_21 (_P : Program) (Q : Exit → Slots → Mem → Prop) (M : Mem) (v0 : V) (v1 : V) : Prop :=
  @OptVH (nilCheckV v0) ⟨fun t66_2 =>
  @OptVH (moveV 6 t66_2) ⟨fun t67_3 =>
  @OptVH (loadV 1 false t67_3 M) ⟨fun t68_4 =>
  @OptBH (binV .gtr .none t68_4 (.int .i64 0)) ⟨fun b69_5 =>
  @BIfH b69_5
  ⟨@OptVH (nilCheckV v0) ⟨fun t72_8 =>
  @OptVH (moveV 2 t72_8) ⟨fun t73_9 =>
  @OptVH (moveV 1 t73_9) ⟨fun t74_10 =>
  @OptVH (loadV 1 false t74_10 M) ⟨fun t75_11 =>
  @OptVH (nilCheckV v1) ⟨fun t77_13 =>
  @OptVH (moveV 2 t77_13) ⟨fun t78_14 =>
  @OptVH (moveV 1 t78_14) ⟨fun t79_15 =>
  @OptVH (loadV 1 false t79_15 M) ⟨fun t80_16 =>
  @OptBH (binV .geq .none t75_11 t80_16) ⟨fun b81_17 =>
  Q .normal [(4, (.bool b81_17))] M⟩⟩⟩⟩⟩⟩⟩⟩⟩⟩
  ⟨Q .normal [(4, (.bool false))] M⟩⟩⟩⟩⟩
theorem e30_21 (P : Program) (Q : Exit → Slots → Mem → Prop) (s : Slots) (M : Mem) : wpC P c30_21 Q s M = w30_21 P Q M (sget s 0) (sget s 1) := by kernel_rfl
def c30_22 : ACode := (.seq c30_21 .ret)
def c30_23 : ACode := (.seq c30_19 c30_22)
def c30_24 : ACode := (.seq c30_3 c30_23)
def c30_25 : ACode := (.seq c30_1 c30_24)
def fn_farestate_closedBetter : AFn := ⟨83, [(.tmp 4)], c30_25⟩
theorem fn_farestate_closedBetter_ok : resFn PR h_farestate_closedBetter i_farestate_closedBetter = some fn_farestate_closedBetter := by kernel_rfl

def h_farestate_State_tickets : Hints := ⟨[(0, [0]), (1, [0, 3]), (2, [0, 3, 4]), (3, [0, 3, 4, 15, 16]), (4, [0, 3, 4, 15, 16, 17]), (5, [0, 3, 4, 5, 15, 16]), (6, [0, 3, 4, 5, 15, 16, 25]), (7, [0, 3, 4, 5, 6, 7, 15, 16]), (8, [0, 3, 4, 5, 6, 7, 15, 16, 28, 29, 30]), (9, [0, 3, 4, 5, 6, 7, 15, 16, 28, 29, 30, 31]), (10, [0, 3, 4, 5, 6, 7, 9, 15, 16, 28, 29, 30]), (11, [0, 3, 4, 5, 6, 7, 9, 15, 16, 28, 29, 30]), (12, [0, 3, 4, 5, 6, 7, 15, 16, 28, 29, 30]), (13, [0, 3, 4, 5, 6, 7, 15, 16, 28, 29, 30]), (14, [0, 3, 4, 5, 6, 7, 15, 16, 51, 52, 53]), (15, [0, 3, 4, 5, 6, 7, 15, 16, 51, 52, 53, 54]), (16, [0, 3, 4, 5, 6, 7, 10, 11, 15, 16, 51, 52, 53]), (17, [0, 3, 4, 5, 6, 7, 10, 11, 15, 16, 51, 52, 53, 79]), (18, [0, 3, 4, 5, 6, 7, 15, 16, 51, 52, 53]), (19, [0, 3, 4, 5, 6, 7, 15, 16, 51, 52, 53]), (20, [0, 3, 4, 15, 16]), (21, [2])], [(4, [0, 3, 4, 15, 16]), (9, [0, 3, 4, 5, 6, 7, 15, 16, 28, 29, 30]), (15, [0, 3, 4, 5, 6, 7, 15, 16, 51, 52, 53])], [(1, [0])]⟩
def o31_0 : List AOper := [⟨some 2, (.mov (.const (.slice [] .nil))), false, none⟩]
def c31_1 : ACode := (.region o31_0 [0])
def w31_1 (_P : Program) (Q : Exit → Slots → Mem → Prop) (M : Mem) (v0 : V) : Prop :=
  Q .normal [(0, v0)] M
theorem e31_1 (P : Program) (Q : Exit → Slots → Mem → Prop) (s : Slots) (M : Mem) : wpC P c31_1 Q s M = w31_1 P Q M (sget s 0) := by kernel_rfl
def o31_2 : List AOper := [⟨some 3, (.newarr 5), false, none⟩]
def c31_3 : ACode := (.region o31_2 [0, 3])
def w31_3 (_P : Program) (Q : Exit → Slots → Mem → Prop) (M : Mem) (v0 : V) : Prop :=
  @OptMH (newarrV 5 M) ⟨fun t3_1 M1 =>
  Q .normal [(0, v0), (3, t3_1)] M1⟩
theorem e31_3 (P : Program) (Q : Exit → Slots → Mem → Prop) (s : Slots) (M : Mem) : wpC P c31_3 Q s M = w31_3 P Q M (sget s 0) := by kernel_rfl
def o31_4 : List AOper := [⟨some 12, (.mov (.tmp 0)), false, none⟩,
  ⟨some 13, (.call i_farestate_State_list [(.tmp 12)]), false, none⟩,
  ⟨some 4, (.mov (.tmp 13)), false, none⟩]
def c31_5 : ACode := (.region o31_4 [0, 3, 4])
def w31_5 (P : Program) (Q : Exit → Slots → Mem → Prop) (M : Mem) (v0 : V) (v3 : V) : Prop :=
  @CallH P i_farestate_State_list [v0] M ⟨fun t13_2 M2 =>
  Q .normal [(0, v0), (3, v3), (4, t13_2)] M2⟩
theorem e31_5 (P : Program) (Q : Exit → Slots → Mem → Prop) (s : Slots) (M : Mem) : wpC P c31_5 Q s M = w31_5 P Q M (sget s 0) (sget s 3) := by kernel_rfl
def o31_6 : List AOper := [⟨some 14, (.mov (.tmp 4)), false, none⟩,
  ⟨some 15, (.lenSl (.tmp 14)), false, none⟩,
  ⟨some 16, (.mov (.const (.int .i64 0))), false, none⟩]
def c31_7 : ACode := (.region o31_6 [0, 3, 4, 15, 16])
def w31_7 (_P : Program) (Q : Exit → Slots → Mem → Prop) (M : Mem) (v0 : V) (v3 : V) (v4 : V) : Prop :=
  @OptVH (lenV v4 M) ⟨fun t15_2 =>
  Q .normal [(0, v0), (3, v3), (4, v4), (15, t15_2), (16, (.int .i64 0))] M⟩
theorem e31_7 (P : Program) (Q : Exit → Slots → Mem → Prop) (s : Slots) (M : Mem) : wpC P c31_7 Q s M = w31_7 P Q M (sget s 0) (sget s 3) (sget s 4) := by kernel_rfl
def o31_8 : List AOper := [⟨some 17, (.bin .lss .none (.tmp 16) (.tmp 15)), false, none⟩]
def c31_9 : ACode := (.region o31_8 [0, 3, 4, 15, 16, 17])
def w31_9 (_P : Program) (Q : Exit → Slots → Mem → Prop) (M : Mem) (v0 : V) (v3 : V) (v4 : V) (v15 : V) (v16 : V) : Prop :=
  @OptVH (binV .lss .none v16 v15) ⟨fun t17_1 =>
  Q .normal [(0, v0), (3, v3), (4, v4), (15, v15), (16, v16), (17, t17_1)] M⟩
theorem e31_9 (P : Program) (Q : Exit → Slots → Mem → Prop) (s : Slots) (M : Mem) : wpC P c31_9 Q s M = w31_9 P Q M (sget s 0) (sget s 3) (sget s 4) (sget s 15) (sget s 16) := by kernel_rfl
def c31_10 : ACode := (.cond (.tmp 17) .skip (.exit 0))
def o31_11 : List AOper := [⟨some 18, (.mov (.tmp 16)), false, none⟩,
  ⟨some 5, (.mov (.tmp 18)), false, none⟩]
def c31_12 : ACode := (.region o31_11 [0, 3, 4, 5, 15, 16])
def w31_12 (_P : Program) (Q : Exit → Slots → Mem → Prop) (M : Mem) (v0 : V) (v3 : V) (v4 : V) (v15 : V) (v16 : V) : Prop :=
  Q .normal [(0, v0), (3, v3), (4, v4), (5, v16), (15, v15), (16, v16)] M
theorem e31_12 (P : Program) (Q : Exit → Slots → Mem → Prop) (s : Slots) (M : Mem) : wpC P c31_12 Q s M = w31_12 P Q M (sget s 0) (sget s 3) (sget s 4) (sget s 15) (sget s 16) := by kernel_rfl
def o31_13 : List AOper := [⟨some 19, (.mov (.tmp 0)), false, none⟩,
  ⟨some 20, (.mov (.tmp 5)), false, none⟩,
  ⟨some 21, (.nilCheck (.tmp 19)), false, none⟩,
  ⟨some 22, (.fieldAddr 7 (.tmp 21)), false, none⟩,
  ⟨some 23, (.indexArr 9 1 (.tmp 22) (.tmp 20)), false, none⟩,
  ⟨some 24, (.load 1 false (.tmp 23)), false, none⟩,
  ⟨some 25, (.bin .lss .none (.tmp 24) (.const (.int .i64 0))), true, none⟩]
def c31_14 : ACode := (.seq (.region o31_13 [0, 3, 4, 5, 15, 16, 25]) (.cond (.tmp 25) (.exit 1) .skip))
def w31_14 (_P : Program) (Q : Exit → Slots → Mem → Prop) (M : Mem) (v0 : V) (v3 : V) (v4 : V) (v5 : V) (v15 : V) (v16 : V) : Prop :=
  @OptVH (nilCheckV v0) ⟨fun t21_3 =>
  @OptVH (moveV 7 t21_3) ⟨fun t22_4 =>
  @OptVH (indexArrV 9 1 t22_4 v5) ⟨fun t23_5 =>
  @OptVH (loadV 1 false t23_5 M) ⟨fun t24_6 =>
  @OptBH (binV .lss .none t24_6 (.int .i64 0)) ⟨fun b25_7 =>
  @BIfH b25_7
  ⟨Q (.exit 1) [(0, v0), (3, v3), (4, v4), (5, v5), (15, v15), (16, v16), (25, (.bool b25_7))] M⟩
  ⟨Q .normal [(0, v0), (3, v3), (4, v4), (5, v5), (15, v15), (16, v16), (25, (.bool b25_7))] M⟩⟩⟩⟩⟩⟩
theorem e31_14 (P : Program) (Q : Exit → Slots → Mem → Prop) (s : Slots) (M : Mem) : wpC P c31_14 Q s M = w31_14 P Q M (sget s 0) (sget s 3) (sget s 4) (sget s 5) (sget s 15) (sget s 16) := by kernel_rfl
def o31_15 : List AOper := [⟨some 6, (.mov (.const (.int .u64 0))), false, none⟩,
  ⟨some 7, (.mov (.const (.int .u64 0))), false, none⟩]
def c31_16 : ACode := (.region o31_15 [0, 3, 4, 5, 6, 7, 15, 16])
def w31_16 (_P : Program) (Q : Exit → Slots → Mem → Prop) (M : Mem) (v0 : V) (v3 : V) (v4 : V) (v5 : V) (v15 : V) (v16 : V) : Prop :=
  Q .normal [(0, v0), (3, v3), (4, v4), (5, v5), (6, (.int .u64 0)), (7, (.int .u64 0)), (15, v15), (16, v16)] M
theorem e31_16 (P : Program) (Q : Exit → Slots → Mem → Prop) (s : Slots) (M : Mem) : wpC P c31_16 Q s M = w31_16 P Q M (sget s 0) (sget s 3) (sget s 4) (sget s 5) (sget s 15) (sget s 16) := by kernel_rfl
def o31_17 : List AOper := [⟨some 26, (.mov (.tmp 4)), false, none⟩,
  ⟨some 27, (.mov (.tmp 5)), false, none⟩,
  ⟨some 28, (.slice 4 (.tmp 26) (some (.tmp 27)) none none), false, none⟩,
  ⟨some 29, (.lenSl (.tmp 28)), false, none⟩,
  ⟨some 30, (.mov (.const (.int .i64 0))), false, none⟩]
def c31_18 : ACode := (.region o31_17 [0, 3, 4, 5, 6, 7, 15, 16, 28, 29, 30])
def w31_18 (_P : Program) (Q : Exit → Slots → Mem → Prop) (M : Mem) (v0 : V) (v3 : V) (v4 : V) (v5 : V) (v6 : V) (v7 : V) (v15 : V) (v16 : V) : Prop :=
  @OptVH (sliceV 4 v4 (some v5) none none M) ⟨fun t28_3 =>
  @OptVH (lenV t28_3 M) ⟨fun t29_4 =>
  Q .normal [(0, v0), (3, v3), (4, v4), (5, v5), (6, v6), (7, v7), (15, v15), (16, v16), (28, t28_3), (29, t29_4), (30, (.int .i64 0))] M⟩⟩
theorem e31_18 (P : Program) (Q : Exit → Slots → Mem → Prop) (s : Slots) (M : Mem) : wpC P c31_18 Q s M = w31_18 P Q M (sget s 0) (sget s 3) (sget s 4) (sget s 5) (sget s 6) (sget s 7) (sget s 15) (sget s 16) := by kernel_rfl
def o31_19 : List AOper := [⟨some 31, (.bin .lss .none (.tmp 30) (.tmp 29)), false, none⟩]
def c31_20 : ACode := (.region o31_19 [0, 3, 4, 5, 6, 7, 15, 16, 28, 29, 30, 31])
def w31_20 (_P : Program) (Q : Exit → Slots → Mem → Prop) (M : Mem) (v0 : V) (v3 : V) (v4 : V) (v5 : V) (v6 : V) (v7 : V) (v15 : V) (v16 : V) (v28 : V) (v29 : V) (v30 : V) : Prop :=
  @OptVH (binV .lss .none v30 v29) ⟨fun t31_1 =>
  Q .normal [(0, v0), (3, v3), (4, v4), (5, v5), (6, v6), (7, v7), (15, v15), (16, v16), (28, v28), (29, v29), (30, v30), (31, t31_1)] M⟩
theorem e31_20 (P : Program) (Q : Exit → Slots → Mem → Prop) (s : Slots) (M : Mem) : wpC P c31_20 Q s M = w31_20 P Q M (sget s 0) (sget s 3) (sget s 4) (sget s 5) (sget s 6) (sget s 7) (sget s 15) (sget s 16) (sget s 28) (sget s 29) (sget s 30) := by kernel_rfl
def c31_21 : ACode := (.cond (.tmp 31) .skip (.exit 2))
def o31_22 : List AOper := [⟨some 32, (.indexSl 4 (.tmp 28) (.tmp 30)), false, none⟩,
  ⟨some 33, (.load 4 true (.tmp 32)), false, none⟩,
  ⟨some 9, (.alloc [(.int .i64 0), (.int .i64 0), (.int .i64 0), (.int .i64 0)]), false, none⟩,
  ⟨none, (.store 4 (.tmp 9) (.tmp 33)), false, none⟩]
def c31_23 : ACode := (.region o31_22 [0, 3, 4, 5, 6, 7, 9, 15, 16, 28, 29, 30])
def w31_23 (_P : Program) (Q : Exit → Slots → Mem → Prop) (M : Mem) (v0 : V) (v3 : V) (v4 : V) (v5 : V) (v6 : V) (v7 : V) (v15 : V) (v16 : V) (v28 : V) (v29 : V) (v30 : V) : Prop :=
  @OptVH (indexSlV 4 v28 v30 M) ⟨fun t32_1 =>
  @OptVH (loadV 4 true t32_1 M) ⟨fun t33_2 =>
  @OptMH (allocV [(.int .i64 0), (.int .i64 0), (.int .i64 0), (.int .i64 0)] M) ⟨fun t9_3 M3 =>
  @OptMH (storeVM 4 t9_3 t33_2 M3) ⟨fun _tx_4 M4 =>
  Q .normal [(0, v0), (3, v3), (4, v4), (5, v5), (6, v6), (7, v7), (9, t9_3), (15, v15), (16, v16), (28, v28), (29, v29), (30, v30)] M4⟩⟩⟩⟩
theorem e31_23 (P : Program) (Q : Exit → Slots → Mem → Prop) (s : Slots) (M : Mem) : wpC P c31_23 Q s M = w31_23 P Q M (sget s 0) (sget s 3) (sget s 4) (sget s 5) (sget s 6) (sget s 7) (sget s 15) (sget s 16) (sget s 28) (sget s 29) (sget s 30) := by kernel_rfl
def o31_24 : List AOper := [⟨some 34, (.mov (.tmp 6)), false, none⟩,
  ⟨some 35, (.fieldAddr 2 (.tmp 9)), false, none⟩,
  ⟨some 36, (.load 1 false (.tmp 35)), false, none⟩,
  ⟨some 37, (.conv .u64 (.tmp 36)), false, none⟩,
  ⟨some 38, (.bin .or .none (.tmp 34) (.tmp 37)), false, none⟩,
  ⟨some 6, (.mov (.tmp 38)), false, none⟩]
def c31_25 : ACode := (.region o31_24 [0, 3, 4, 5, 6, 7, 9, 15, 16, 28, 29, 30])
def w31_25 (_P : Program) (Q : Exit → Slots → Mem → Prop) (M : Mem) (v0 : V) (v3 : V) (v4 : V) (v5 : V) (v6 : V) (v7 : V) (v9 : V) (v15 : V) (v16 : V) (v28 : V) (v29 : V) (v30 : V) : Prop :=
  @OptVH (moveV 2 v9) ⟨fun t35_2 =>
  @OptVH (loadV 1 false t35_2 M) ⟨fun t36_3 =>
  @OptVH (convV .u64 t36_3) ⟨fun t37_4 =>
  @OptVH (binV .or .none v6 t37_4) ⟨fun t38_5 =>
  Q .normal [(0, v0), (3, v3), (4, v4), (5, v5), (6, t38_5), (7, v7), (9, v9), (15, v15), (16, v16), (28, v28), (29, v29), (30, v30)] M⟩⟩⟩⟩
theorem e31_25 (P : Program) (Q : Exit → Slots → Mem → Prop) (s : Slots) (M : Mem) : wpC P c31_25 Q s M = w31_25 P Q M (sget s 0) (sget s 3) (sget s 4) (sget s 5) (sget s 6) (sget s 7) (sget s 9) (sget s 15) (sget s 16) (sget s 28) (sget s 29) (sget s 30) := by kernel_rfl
def o31_26 : List AOper := [⟨some 39, (.mov (.tmp 7)), false, none⟩,
  ⟨some 40, (.fieldAddr 3 (.tmp 9)), false, none⟩,
  ⟨some 41, (.load 1 false (.tmp 40)), false, none⟩,
  ⟨some 42, (.conv .u64 (.tmp 41)), false, none⟩,
  ⟨some 43, (.bin .or .none (.tmp 39) (.tmp 42)), false, none⟩,
  ⟨some 7, (.mov (.tmp 43)), false, none⟩]
def c31_27 : ACode := (.region o31_26 [0, 3, 4, 5, 6, 7, 15, 16, 28, 29, 30])
def w31_27 (_P : Program) (Q : Exit → Slots → Mem → Prop) (M : Mem) (v0 : V) (v3 : V) (v4 : V) (v5 : V) (v6 : V) (v7 : V) (v9 : V) (v15 : V) (v16 : V) (v28 : V) (v29 : V) (v30 : V) : Prop :=
  @OptVH (moveV 3 v9) ⟨fun t40_2 =>
  @OptVH (loadV 1 false t40_2 M) ⟨fun t41_3 =>
  @OptVH (convV .u64 t41_3) ⟨fun t42_4 =>
  @OptVH (binV .or .none v7 t42_4) ⟨fun t43_5 =>
  Q .normal [(0, v0), (3, v3), (4, v4), (5, v5), (6, v6), (7, t43_5), (15, v15), (16, v16), (28, v28), (29, v29), (30, v30)] M⟩⟩⟩⟩
theorem e31_27 (P : Program) (Q : Exit → Slots → Mem → Prop) (s : Slots) (M : Mem) : wpC P c31_27 Q s M = w31_27 P Q M (sget s 0) (sget s 3) (sget s 4) (sget s 5) (sget s 6) (sget s 7) (sget s 9) (sget s 15) (sget s 16) (sget s 28) (sget s 29) (sget s 30) := by kernel_rfl
def c31_28 : ACode := (.seq c31_25 c31_27)
def c31_29 : ACode := (.seq c31_23 c31_28)
def c31_30 : ACode := (.block 3 c31_29)
def o31_31 : List AOper := [⟨some 44, (.bin .add .none (.tmp 30) (.const (.int .i64 1))), false, none⟩,
  ⟨some 30, (.mov (.tmp 44)), false, none⟩]
def c31_32 : ACode := (.region o31_31 [0, 3, 4, 5, 6, 7, 15, 16, 28, 29, 30])
def w31_32 (_P : Program) (Q : Exit → Slots → Mem → Prop) (M : Mem) (v0 : V) (v3 : V) (v4 : V) (v5 : V) (v6 : V) (v7 : V) (v15 : V) (v16 : V) (v28 : V) (v29 : V) (v30 : V) : Prop :=
  @OptVH (binV .add .none v30 (.int .i64 1)) ⟨fun t44_1 =>
  Q .normal [(0, v0), (3, v3), (4, v4), (5, v5), (6, v6), (7, v7), (15, v15), (16, v16), (28, v28), (29, v29), (30, t44_1)] M⟩
theorem e31_32 (P : Program) (Q : Exit → Slots → Mem → Prop) (s : Slots) (M : Mem) : wpC P c31_32 Q s M = w31_32 P Q M (sget s 0) (sget s 3) (sget s 4) (sget s 5) (sget s 6) (sget s 7) (sget s 15) (sget s 16) (sget s 28) (sget s 29) (sget s 30) := by kernel_rfl
def c31_33 : ACode := (.seq c31_30 c31_32)
def c31_34 : ACode := (.seq c31_21 c31_33)
def c31_35 : ACode := (.seq c31_20 c31_34)
def c31_36 : ACode := (.loop [0, 3, 4, 5, 6, 7, 15, 16, 28, 29, 30] c31_35)
def c31_37 : ACode := (.block 2 c31_36)
def c31_38 : ACode := (.seq c31_18 c31_37)
def o31_39 : List AOper := [⟨some 45, (.mov (.tmp 0)), false, none⟩,
  ⟨some 46, (.nilCheck (.tmp 45)), false, none⟩,
  ⟨some 47, (.fieldAddr 0 (.tmp 46)), false, none⟩,
  ⟨some 48, (.load 1 false (.tmp 47)), false, none⟩,
  ⟨some 49, (.nilCheck (.tmp 48)), false, none⟩,
  ⟨some 50, (.fieldAddr 0 (.tmp 49)), false, none⟩,
  ⟨some 51, (.load 1 false (.tmp 50)), false, none⟩,
  ⟨some 52, (.lenSl (.tmp 51)), false, none⟩,
  ⟨some 53, (.mov (.const (.int .i64 0))), false, none⟩]
def c31_40 : ACode := (.region o31_39 [0, 3, 4, 5, 6, 7, 15, 16, 51, 52, 53])
def w31_40 (_P : Program) (Q : Exit → Slots → Mem → Prop) (M : Mem) (v0 : V) (v3 : V) (v4 : V) (v5 : V) (v6 : V) (v7 : V) (v15 : V) (v16 : V) : Prop :=
  @OptVH (nilCheckV v0) ⟨fun t46_2 =>
  @OptVH (moveV 0 t46_2) ⟨fun t47_3 =>
  @OptVH (loadV 1 false t47_3 M) ⟨fun t48_4 =>
  @OptVH (nilCheckV t48_4) ⟨fun t49_5 =>
  @OptVH (moveV 0 t49_5) ⟨fun t50_6 =>
  @OptVH (loadV 1 false t50_6 M) ⟨fun t51_7 =>
  @OptVH (lenV t51_7 M) ⟨fun t52_8 =>
  Q .normal [(0, v0), (3, v3), (4, v4), (5, v5), (6, v6), (7, v7), (15, v15), (16, v16), (51, t51_7), (52, t52_8), (53, (.int .i64 0))] M⟩⟩⟩⟩⟩⟩⟩
theorem e31_40 (P : Program) (Q : Exit → Slots → Mem → Prop) (s : Slots) (M : Mem) : wpC P c31_40 Q s M = w31_40 P Q M (sget s 0) (sget s 3) (sget s 4) (sget s 5) (sget s 6) (sget s 7) (sget s 15) (sget s 16) := by kernel_rfl
def o31_41 : List AOper := [⟨some 54, (.bin .lss .none (.tmp 53) (.tmp 52)), false, none⟩]
def c31_42 : ACode := (.region o31_41 [0, 3, 4, 5, 6, 7, 15, 16, 51, 52, 53, 54])
def w31_42 (_P : Program) (Q : Exit → Slots → Mem → Prop) (M : Mem) (v0 : V) (v3 : V) (v4 : V) (v5 : V) (v6 : V) (v7 : V) (v15 : V) (v16 : V) (v51 : V) (v52 : V) (v53 : V) : Prop :=
  @OptVH (binV .lss .none v53 v52) ⟨fun t54_1 =>
  Q .normal [(0, v0), (3, v3), (4, v4), (5, v5), (6, v6), (7, v7), (15, v15), (16, v16), (51, v51), (52, v52), (53, v53), (54, t54_1)] M⟩
theorem e31_42 (P : Program) (Q : Exit → Slots → Mem → Prop) (s : Slots) (M : Mem) : wpC P c31_42 Q s M = w31_42 P Q M (sget s 0) (sget s 3) (sget s 4) (sget s 5) (sget s 6) (sget s 7) (sget s 15) (sget s 16) (sget s 51) (sget s 52) (sget s 53) := by kernel_rfl
def c31_43 : ACode := (.cond (.tmp 54) .skip (.exit 4))
def o31_44 : List AOper := [⟨some 55, (.mov (.tmp 53)), false, none⟩,
  ⟨some 56, (.indexSl 6 (.tmp 51) (.tmp 53)), false, none⟩,
  ⟨some 57, (.load 6 true (.tmp 56)), false, none⟩,
  ⟨some 11, (.alloc [(.str []), (.int .i64 0), (.int .i64 0), (.int .i64 0), (.int .i64 0), (.int .i64 0)]), false, none⟩,
  ⟨some 10, (.mov (.tmp 55)), false, none⟩,
  ⟨none, (.store 6 (.tmp 11) (.tmp 57)), false, none⟩]
def c31_45 : ACode := (.region o31_44 [0, 3, 4, 5, 6, 7, 10, 11, 15, 16, 51, 52, 53])
def w31_45 (_P : Program) (Q : Exit → Slots → Mem → Prop) (M : Mem) (v0 : V) (v3 : V) (v4 : V) (v5 : V) (v6 : V) (v7 : V) (v15 : V) (v16 : V) (v51 : V) (v52 : V) (v53 : V) : Prop :=
  @OptVH (indexSlV 6 v51 v53 M) ⟨fun t56_2 =>
  @OptVH (loadV 6 true t56_2 M) ⟨fun t57_3 =>
  @OptMH (allocV [(.str []), (.int .i64 0), (.int .i64 0), (.int .i64 0), (.int .i64 0), (.int .i64 0)] M) ⟨fun t11_4 M4 =>
  @OptMH (storeVM 6 t11_4 t57_3 M4) ⟨fun _tx_6 M6 =>
  Q .normal [(0, v0), (3, v3), (4, v4), (5, v5), (6, v6), (7, v7), (10, v53), (11, t11_4), (15, v15), (16, v16), (51, v51), (52, v52), (53, v53)] M6⟩⟩⟩⟩
theorem e31_45 (P : Program) (Q : Exit → Slots → Mem → Prop) (s : Slots) (M : Mem) : wpC P c31_45 Q s M = w31_45 P Q M (sget s 0) (sget s 3) (sget s 4) (sget s 5) (sget s 6) (sget s 7) (sget s 15) (sget s 16) (sget s 51) (sget s 52) (sget s 53) := by kernel_rfl
def o31_46 : List AOper := [⟨some 80, (.mov (.tmp 3)), false, none⟩,
  ⟨some 81, (.mov (.tmp 10)), false, none⟩,
  ⟨some 82, (.mov (.tmp 4)), false, none⟩,
  ⟨some 83, (.mov (.tmp 5)), false, none⟩,
  ⟨some 84, (.indexSl 4 (.tmp 82) (.tmp 83)), false, none⟩,
  ⟨some 85, (.fieldAddr 0 (.tmp 84)), false, none⟩,
  ⟨some 86, (.load 1 false (.tmp 85)), false, none⟩,
  ⟨some 87, (.mov (.tmp 4)), false, none⟩,
  ⟨some 88, (.lenSl (.tmp 87)), false, none⟩,
  ⟨some 89, (.mov (.tmp 5)), false, none⟩,
  ⟨some 90, (.bin .sub .none (.tmp 88) (.tmp 89)), false, none⟩,
  ⟨some 91, (.mov (.tmp 0)), false, none⟩,
  ⟨some 92, (.mov (.tmp 5)), false, none⟩,
  ⟨some 93, (.nilCheck (.tmp 91)), false, none⟩,
  ⟨some 94, (.fieldAddr 7 (.tmp 93)), false, none⟩,
  ⟨some 95, (.indexArr 9 1 (.tmp 94) (.tmp 92)), false, none⟩,
  ⟨some 96, (.load 1 false (.tmp 95)), false, none⟩,
  ⟨some 97, (.mov (.tmp 0)), false, none⟩,
  ⟨some 98, (.load 6 true (.tmp 11)), false, none⟩,
  ⟨some 99, (.mov (.tmp 4)), false, none⟩,
  ⟨some 100, (.mov (.tmp 5)), false, none⟩,
  ⟨some 101, (.call i_farestate_State_price [(.tmp 97), (.tmp 98), (.tmp 99), (.tmp 100)]), false, none⟩,
  ⟨some 102, (.bin .add .none (.tmp 96) (.tmp 101)), false, none⟩,
  ⟨some 103, (.mov (.tmp 6)), false, none⟩,
  ⟨some 104, (.build [(.int .i64 0), (.int .i64 0), (.int .i64 0), (.int .i64 0), (.int .u64 0)] [(0, (1, (.tmp 81))), (1, (1, (.tmp 86))), (2, (1, (.tmp 90))), (3, (1, (.tmp 102))), (4, (1, (.tmp 103)))]), false, none⟩,
  ⟨some 105, (.buildSlice [(.int .i64 0), (.int .i64 0), (.int .i64 0), (.int .i64 0), (.int .u64 0)] 5 1 [(0, (5, (.tmp 104)))]), false, none⟩,
  ⟨some 106, (.append false 5 40 (.tmp 80) (.tmp 105)), false, none⟩,
  ⟨some 3, (.mov (.tmp 106)), false, none⟩]
def c31_47 : ACode := (.mixed o31_46 [true, true, true, true, true, true, true, true, true, true, true, true, true, true, true, true, true, true, true, true, true, true, true, true, true, true, false, true] [0, 3, 4, 5, 6, 7, 15, 16, 51, 52, 53])
def w31_47 (P : Program) (Q : Exit → Slots → Mem → Prop) (M : Mem) (v0 : V) (v3 : V) (v4 : V) (v5 : V) (v6 : V) (v7 : V) (v10 : V) (v11 : V) (v15 : V) (v16 : V) (v51 : V) (v52 : V) (v53 : V) : Prop :=
  @OptVH (indexSlV 4 v4 v5 M) ⟨fun t84_5 =>
  @OptVH (moveV 0 t84_5) ⟨fun t85_6 =>
  @OptVH (loadV 1 false t85_6 M) ⟨fun t86_7 =>
  @OptVH (lenV v4 M) ⟨fun t88_9 =>
  @OptVH (binV .sub .none t88_9 v5) ⟨fun t90_11 =>
  @OptVH (nilCheckV v0) ⟨fun t93_14 =>
  @OptVH (moveV 7 t93_14) ⟨fun t94_15 =>
  @OptVH (indexArrV 9 1 t94_15 v5) ⟨fun t95_16 =>
  @OptVH (loadV 1 false t95_16 M) ⟨fun t96_17 =>
  @OptVH (loadV 6 true v11 M) ⟨fun t98_19 =>
  @CallQ P i_farestate_State_price [v0, t98_19, v4, v5] M ⟨fun t101_22 M22 =>
  @OptVH (binV .add .none t96_17 t101_22) ⟨fun t102_23 =>
  @OptVH (buildV [(.int .i64 0), (.int .i64 0), (.int .i64 0), (.int .i64 0), (.int .u64 0)] [(0, 1, v10), (1, 1, t86_7), (2, 1, t90_11), (3, 1, t102_23), (4, 1, v6)]) ⟨fun t104_25 =>
  @OptVH (buildSliceV [(.int .i64 0), (.int .i64 0), (.int .i64 0), (.int .i64 0), (.int .u64 0)] 5 1 [(0, 5, t104_25)]) ⟨fun t105_26 =>
  @OptMH (appV false 5 40 v3 t105_26 M22) ⟨fun t106_27 M27 =>
  Q .normal [(0, v0), (3, t106_27), (4, v4), (5, v5), (6, v6), (7, v7), (15, v15), (16, v16), (51, v51), (52, v52), (53, v53)] M27⟩⟩⟩⟩⟩⟩⟩⟩⟩⟩⟩⟩⟩⟩⟩
theorem e31_47 (P : Program) (Q : Exit → Slots → Mem → Prop) (s : Slots) (M : Mem) : wpC P c31_47 Q s M = w31_47 P Q M (sget s 0) (sget s 3) (sget s 4) (sget s 5) (sget s 6) (sget s 7) (sget s 10) (sget s 11) (sget s 15) (sget s 16) (sget s 51) (sget s 52) (sget s 53) := by kernel_rfl
def o31_48 : List AOper := [⟨some 58, (.mov (.tmp 4)), false, none⟩,
  ⟨some 59, (.lenSl (.tmp 58)), false, none⟩,
  ⟨some 60, (.mov (.tmp 5)), false, none⟩,
  ⟨some 61, (.bin .sub .none (.tmp 59) (.tmp 60)), false, none⟩,
  ⟨some 62, (.fieldAddr 2 (.tmp 11)), false, none⟩,
  ⟨some 63, (.load 1 false (.tmp 62)), false, none⟩,
  ⟨some 64, (.bin .lss .none (.tmp 61) (.tmp 63)), true, none⟩,
  ⟨some 65, (.mov (.tmp 64)), true, none⟩,
  ⟨some 66, (.mov (.tmp 6)), false, some (65, true)⟩,
  ⟨some 67, (.call i_math_bits_OnesCount64 [(.tmp 66)]), false, some (65, true)⟩,
  ⟨some 68, (.fieldAddr 3 (.tmp 11)), false, some (65, true)⟩,
  ⟨some 69, (.load 1 false (.tmp 68)), false, some (65, true)⟩,
  ⟨some 70, (.bin .leq .none (.tmp 67) (.tmp 69)), true, some (65, true)⟩,
  ⟨some 71, (.pick (.tmp 65) (.tmp 70) (.const (.bool false))), true, none⟩,
  ⟨some 72, (.mov (.tmp 71)), true, none⟩,
  ⟨some 73, (.mov (.tmp 7)), false, some (72, true)⟩,
  ⟨some 74, (.fieldAddr 5 (.tmp 11)), false, some (72, true)⟩,
  ⟨some 75, (.load 1 false (.tmp 74)), false, some (72, true)⟩,
  ⟨some 76, (.conv .u64 (.tmp 75)), false, some (72, true)⟩,
  ⟨some 77, (.bin .andNot .none (.tmp 73) (.tmp 76)), false, some (72, true)⟩,
  ⟨some 78, (.bin .eql .none (.tmp 77) (.const (.int .u64 0))), true, some (72, true)⟩,
  ⟨some 79, (.pick (.tmp 72) (.tmp 78) (.const (.bool false))), true, none⟩]
def c31_49 : ACode := (.seq (.mixed o31_48 [true, true, true, true, true, true, true, true, true, true, true, true, true, true, true, true, true, true, true, true, true, true] [0, 3, 4, 5, 6, 7, 10, 11, 15, 16, 51, 52, 53, 79]) (.cond (.tmp 79) c31_47 .skip))
def w31_49 (P : Program) (Q : Exit → Slots → Mem → Prop) (M : Mem) (v0 : V) (v3 : V) (v4 : V) (v5 : V) (v6 : V) (v7 : V) (v10 : V) (v11 : V) (v15 : V) (v16 : V) (v51 : V) (v52 : V) (v53 : V) : Prop :=
  @OptVH (lenV v4 M) ⟨fun t59_2 =>
  @OptVH (binV .sub .none t59_2 v5) ⟨fun t61_4 =>
  @OptVH (moveV 2 v11) ⟨fun t62_5 =>
  @OptVH (loadV 1 false t62_5 M) ⟨fun t63_6 =>
  @OptBH (binV .lss .none t61_4 t63_6) ⟨fun b64_7 =>
  @BIfH b64_7
  ⟨@CallQ P i_math_bits_OnesCount64 [v6] M ⟨fun t67_10 M10 =>
  @OptVH (moveV 3 v11) ⟨fun t68_11 =>
  @OptVH (loadV 1 false t68_11 M10) ⟨fun t69_12 =>
  @OptBH (binV .leq .none t67_10 t69_12) ⟨fun b70_13 =>
  @BIfH b70_13
  ⟨@OptVH (moveV 5 v11) ⟨fun t74_17 =>
  @OptVH (loadV 1 false t74_17 M10) ⟨fun t75_18 =>
  @OptVH (convV .u64 t75_18) ⟨fun t76_19 =>
  @OptVH (binV .andNot .none v7 t76_19) ⟨fun t77_20 =>
  @OptBH (binV .eql .none t77_20 (.int .u64 0)) ⟨fun b78_21 =>
  @BIfH b78_21
  ⟨wpC P c31_47 Q [(0, v0), (3, v3), (4, v4), (5, v5), (6, v6), (7, v7), (10, v10), (11, v11), (15, v15), (16, v16), (51, v51), (52, v52), (53, v53), (79, (.bool b78_21))] M10⟩
  ⟨Q .normal [(0, v0), (3, v3), (4, v4), (5, v5), (6, v6), (7, v7), (10, v10), (11, v11), (15, v15), (16, v16), (51, v51), (52, v52), (53, v53), (79, (.bool b78_21))] M10⟩⟩⟩⟩⟩⟩⟩
  ⟨Q .normal [(0, v0), (3, v3), (4, v4), (5, v5), (6, v6), (7, v7), (10, v10), (11, v11), (15, v15), (16, v16), (51, v51), (52, v52), (53, v53), (79, (.bool false))] M10⟩⟩⟩⟩⟩⟩
  ⟨Q .normal [(0, v0), (3, v3), (4, v4), (5, v5), (6, v6), (7, v7), (10, v10), (11, v11), (15, v15), (16, v16), (51, v51), (52, v52), (53, v53), (79, (.bool false))] M⟩⟩⟩⟩⟩⟩
theorem e31_49 (P : Program) (Q : Exit → Slots → Mem → Prop) (s : Slots) (M : Mem) : wpC P c31_49 Q s M = w31_49 P Q M (sget s 0) (sget s 3) (sget s 4) (sget s 5) (sget s 6) (sget s 7) (sget s 10) (sget s 11) (sget s 15) (sget s 16) (sget s 51) (sget s 52) (sget s 53) := by kernel_rfl
def c31_50 : ACode := (.seq c31_45 c31_49)
def c31_51 : ACode := (.block 5 c31_50)
def o31_52 : List AOper := [⟨some 107, (.bin .add .none (.tmp 53) (.const (.int .i64 1))), false, none⟩,
  ⟨some 53, (.mov (.tmp 107)), false, none⟩]
def c31_53 : ACode := (.region o31_52 [0, 3, 4, 5, 6, 7, 15, 16, 51, 52, 53])
def w31_53 (_P : Program) (Q : Exit → Slots → Mem → Prop) (M : Mem) (v0 : V) (v3 : V) (v4 : V) (v5 : V) (v6 : V) (v7 : V) (v15 : V) (v16 : V) (v51 : V) (v52 : V) (v53 : V) : Prop :=
  @OptVH (binV .add .none v53 (.int .i64 1)) ⟨fun t107_1 =>
  Q .normal [(0, v0), (3, v3), (4, v4), (5, v5), (6, v6), (7, v7), (15, v15), (16, v16), (51, v51), (52, v52), (53, t107_1)] M⟩
theorem e31_53 (P : Program) (Q : Exit → Slots → Mem → Prop) (s : Slots) (M : Mem) : wpC P c31_53 Q s M = w31_53 P Q M (sget s 0) (sget s 3) (sget s 4) (sget s 5) (sget s 6) (sget s 7) (sget s 15) (sget s 16) (sget s 51) (sget s 52) (sget s 53) := by kernel_rfl
def c31_54 : ACode := (.seq c31_51 c31_53)
def c31_55 : ACode := (.seq c31_43 c31_54)
def c31_56 : ACode := (.seq c31_42 c31_55)
def c31_57 : ACode := (.loop [0, 3, 4, 5, 6, 7, 15, 16, 51, 52, 53] c31_56)
def c31_58 : ACode := (.block 4 c31_57)
def c31_59 : ACode := (.seq c31_40 c31_58)
def c31_60 : ACode := (.seq c31_38 c31_59)
def c31_61 : ACode := (.seq c31_16 c31_60)
def c31_62 : ACode := (.seq c31_14 c31_61)
def c31_63 : ACode := (.seq c31_12 c31_62)
def c31_64 : ACode := (.block 1 c31_63)
def o31_65 : List AOper := [⟨some 108, (.bin .add .none (.tmp 16) (.const (.int .i64 1))), false, none⟩,
  ⟨some 16, (.mov (.tmp 108)), false, none⟩]
def c31_66 : ACode := (.region o31_65 [0, 3, 4, 15, 16])
def w31_66 (_P : Program) (Q : Exit → Slots → Mem → Prop) (M : Mem) (v0 : V) (v3 : V) (v4 : V) (v15 : V) (v16 : V) : Prop :=
  @OptVH (binV .add .none v16 (.int .i64 1)) ⟨fun t108_1 =>
  Q .normal [(0, v0), (3, v3), (4, v4), (15, v15), (16, t108_1)] M⟩
theorem e31_66 (P : Program) (Q : Exit → Slots → Mem → Prop) (s : Slots) (M : Mem) : wpC P c31_66 Q s M = w31_66 P Q M (sget s 0) (sget s 3) (sget s 4) (sget s 15) (sget s 16) := by kernel_rfl
def c31_67 : ACode := (.seq c31_64 c31_66)
def c31_68 : ACode := (.seq c31_10 c31_67)
def c31_69 : ACode := (.seq c31_9 c31_68)
def c31_70 : ACode := (.loop [0, 3, 4, 15, 16] c31_69)
def c31_71 : ACode := (.block 0 c31_70)
def c31_72 : ACode := (.seq c31_7 c31_71)
def o31_73 : List AOper := [⟨some 109, (.mov (.tmp 3)), false, none⟩,
  ⟨some 2, (.mov (.tmp 109)), false, none⟩]
def c31_74 : ACode := (.region o31_73 [2])
def w31_74 (_P : Program) (Q : Exit → Slots → Mem → Prop) (M : Mem) (v3 : V) : Prop :=
  Q .normal [(2, v3)] M
theorem e31_74 (P : Program) (Q : Exit → Slots → Mem → Prop) (s : Slots) (M : Mem) : wpC P c31_74 Q s M = w31_74 P Q M (sget s 3) := by kernel_rfl
def c31_75 : ACode := (.seq c31_74 .ret)
def c31_76 : ACode := (.seq c31_72 c31_75)
def c31_77 : ACode := (.seq c31_5 c31_76)
def c31_78 : ACode := (.seq c31_3 c31_77)
def c31_79 : ACode := (.seq c31_1 c31_78)
def fn_farestate_State_tickets : AFn := ⟨110, [(.tmp 2)], c31_79⟩
theorem fn_farestate_State_tickets_ok : resFn PR h_farestate_State_tickets i_farestate_State_tickets = some fn_farestate_State_tickets := by kernel_rfl

def h_farestate_open_replaces : Hints := ⟨[(0, [2, 3]), (1, [4])], [], []⟩
def o32_0 : List AOper := [⟨some 2, (.box 5 (.tmp 0)), false, none⟩,
  ⟨some 3, (.box 5 (.tmp 1)), false, none⟩,
  ⟨some 4, (.mov (.const (.bool false))), true, none⟩]
def c32_1 : ACode := (.region o32_0 [2, 3])
def w32_1 (_P : Program) (Q : Exit → Slots → Mem → Prop) (M : Mem) (v0 : V) (v1 : V) : Prop :=
  @OptMH (boxV 5 v0 M) ⟨fun t2_1 M1 =>
  @OptMH (boxV 5 v1 M1) ⟨fun t3_2 M2 =>
  Q .normal [(2, t2_1), (3, t3_2)] M2⟩⟩
theorem e32_1 (P : Program) (Q : Exit → Slots → Mem → Prop) (s : Slots) (M : Mem) : wpC P c32_1 Q s M = w32_1 P Q M (sget s 0) (sget s 1) := by kernel_rfl
def o32_2 : List AOper := [⟨some 5, (.fieldAddr 0 (.tmp 2)), false, none⟩,
  ⟨some 6, (.load 1 false (.tmp 5)), false, none⟩,
  ⟨some 7, (.fieldAddr 0 (.tmp 3)), false, none⟩,
  ⟨some 8, (.load 1 false (.tmp 7)), false, none⟩,
  ⟨some 9, (.bin .eql .none (.tmp 6) (.tmp 8)), true, none⟩,
  ⟨some 10, (.mov (.tmp 9)), true, none⟩,
  ⟨some 11, (.fieldAddr 1 (.tmp 2)), false, some (10, true)⟩,
  ⟨some 12, (.load 1 false (.tmp 11)), false, some (10, true)⟩,
  ⟨some 13, (.fieldAddr 1 (.tmp 3)), false, some (10, true)⟩,
  ⟨some 14, (.load 1 false (.tmp 13)), false, some (10, true)⟩,
  ⟨some 15, (.bin .geq .none (.tmp 12) (.tmp 14)), true, some (10, true)⟩,
  ⟨some 16, (.pick (.tmp 10) (.tmp 15) (.const (.bool false))), true, none⟩,
  ⟨some 17, (.mov (.tmp 16)), true, none⟩,
  ⟨some 18, (.fieldAddr 2 (.tmp 2)), false, some (17, true)⟩,
  ⟨some 19, (.load 1 false (.tmp 18)), false, some (17, true)⟩,
  ⟨some 20, (.fieldAddr 2 (.tmp 3)), false, some (17, true)⟩,
  ⟨some 21, (.load 1 false (.tmp 20)), false, some (17, true)⟩,
  ⟨some 22, (.bin .leq .none (.tmp 19) (.tmp 21)), true, some (17, true)⟩,
  ⟨some 23, (.pick (.tmp 17) (.tmp 22) (.const (.bool false))), true, none⟩,
  ⟨some 24, (.mov (.tmp 23)), true, none⟩,
  ⟨some 25, (.fieldAddr 3 (.tmp 2)), false, some (24, true)⟩,
  ⟨some 26, (.load 1 false (.tmp 25)), false, some (24, true)⟩,
  ⟨some 27, (.fieldAddr 3 (.tmp 3)), false, some (24, true)⟩,
  ⟨some 28, (.load 1 false (.tmp 27)), false, some (24, true)⟩,
  ⟨some 29, (.bin .leq .none (.tmp 26) (.tmp 28)), true, some (24, true)⟩,
  ⟨some 30, (.pick (.tmp 24) (.tmp 29) (.const (.bool false))), true, none⟩,
  ⟨some 31, (.mov (.tmp 30)), true, none⟩,
  ⟨some 32, (.fieldAddr 4 (.tmp 2)), false, some (31, true)⟩,
  ⟨some 33, (.load 1 false (.tmp 32)), false, some (31, true)⟩,
  ⟨some 34, (.fieldAddr 4 (.tmp 3)), false, some (31, true)⟩,
  ⟨some 35, (.load 1 false (.tmp 34)), false, some (31, true)⟩,
  ⟨some 36, (.bin .andNot .none (.tmp 33) (.tmp 35)), false, some (31, true)⟩,
  ⟨some 37, (.bin .eql .none (.tmp 36) (.const (.int .u64 0))), true, some (31, true)⟩,
  ⟨some 38, (.pick (.tmp 31) (.tmp 37) (.const (.bool false))), true, none⟩,
  ⟨some 4, (.mov (.tmp 38)), true, none⟩]
def c32_3 : ACode := (.region o32_2 [4])
def w32_3 (_P : Program) (Q : Exit → Slots → Mem → Prop) (M : Mem) (v2 : V) (v3 : V) : Prop :=
  @OptVH (moveV 0 v2) ⟨fun t5_1 =>
  @OptVH (loadV 1 false t5_1 M) ⟨fun t6_2 =>
  @OptVH (moveV 0 v3) ⟨fun t7_3 =>
  @OptVH (loadV 1 false t7_3 M) ⟨fun t8_4 =>
  @OptBH (binV .eql .none t6_2 t8_4) ⟨fun b9_5 =>
  @BIfH b9_5
  ⟨@OptVH (moveV 1 v2) ⟨fun t11_7 =>
  @OptVH (loadV 1 false t11_7 M) ⟨fun t12_8 =>
  @OptVH (moveV 1 v3) ⟨fun t13_9 =>
  @OptVH (loadV 1 false t13_9 M) ⟨fun t14_10 =>
  @OptBH (binV .geq .none t12_8 t14_10) ⟨fun b15_11 =>
  @BIfH b15_11
  ⟨@OptVH (moveV 2 v2) ⟨fun t18_14 =>
  @OptVH (loadV 1 false t18_14 M) ⟨fun t19_15 =>
  @OptVH (moveV 2 v3) ⟨fun t20_16 =>
  @OptVH (loadV 1 false t20_16 M) ⟨fun t21_17 =>
  @OptBH (binV .leq .none t19_15 t21_17) ⟨fun b22_18 =>
  @BIfH b22_18
  ⟨@OptVH (moveV 3 v2) ⟨fun t25_21 =>
  @OptVH (loadV 1 false t25_21 M) ⟨fun t26_22 =>
  @OptVH (moveV 3 v3) ⟨fun t27_23 =>
  @OptVH (loadV 1 false t27_23 M) ⟨fun t28_24 =>
  @OptBH (binV .leq .none t26_22 t28_24) ⟨fun b29_25 =>
  @BIfH b29_25
  ⟨@OptVH (moveV 4 v2) ⟨fun t32_28 =>
  @OptVH (loadV 1 false t32_28 M) ⟨fun t33_29 =>
  @OptVH (moveV 4 v3) ⟨fun t34_30 =>
  @OptVH (loadV 1 false t34_30 M) ⟨fun t35_31 =>
  @OptVH (binV .andNot .none t33_29 t35_31) ⟨fun t36_32 =>
  @OptBH (binV .eql .none t36_32 (.int .u64 0)) ⟨fun b37_33 =>
  Q .normal [(4, (.bool b37_33))] M⟩⟩⟩⟩⟩⟩⟩
  ⟨Q .normal [(4, (.bool false))] M⟩⟩⟩⟩⟩⟩⟩
  ⟨Q .normal [(4, (.bool false))] M⟩⟩⟩⟩⟩⟩⟩
  ⟨Q .normal [(4, (.bool false))] M⟩⟩⟩⟩⟩⟩⟩
  ⟨Q .normal [(4, (.bool false))] M⟩⟩⟩⟩⟩⟩
theorem e32_3 (P : Program) (Q : Exit → Slots → Mem → Prop) (s : Slots) (M : Mem) : wpC P c32_3 Q s M = w32_3 P Q M (sget s 2) (sget s 3) := by kernel_rfl
def c32_4 : ACode := (.seq c32_3 .ret)
def c32_5 : ACode := (.seq c32_1 c32_4)
def fn_farestate_open_replaces : AFn := ⟨39, [(.tmp 4)], c32_5⟩
theorem fn_farestate_open_replaces_ok : resFn PR h_farestate_open_replaces i_farestate_open_replaces = some fn_farestate_open_replaces := by kernel_rfl

def h_transitref36_joined : Hints := ⟨[(0, [0, 1]), (1, [0, 1, 5]), (2, [1, 5]), (3, [4])], [], [(1, [0])]⟩
def o33_0 : List AOper := [⟨some 4, (.mov (.const (.slice [] .nil))), false, none⟩]
def c33_1 : ACode := (.region o33_0 [0, 1])
def w33_1 (_P : Program) (Q : Exit → Slots → Mem → Prop) (M : Mem) (v0 : V) (v1 : V) : Prop :=
  Q .normal [(0, v0), (1, v1)] M
theorem e33_1 (P : Program) (Q : Exit → Slots → Mem → Prop) (s : Slots) (M : Mem) : wpC P c33_1 Q s M = w33_1 P Q M (sget s 0) (sget s 1) := by kernel_rfl
def o33_2 : List AOper := [⟨some 5, (.newarr 4), false, none⟩]
def c33_3 : ACode := (.region o33_2 [0, 1, 5])
def w33_3 (_P : Program) (Q : Exit → Slots → Mem → Prop) (M : Mem) (v0 : V) (v1 : V) : Prop :=
  @OptMH (newarrV 4 M) ⟨fun t5_1 M1 =>
  Q .normal [(0, v0), (1, v1), (5, t5_1)] M1⟩
theorem e33_3 (P : Program) (Q : Exit → Slots → Mem → Prop) (s : Slots) (M : Mem) : wpC P c33_3 Q s M = w33_3 P Q M (sget s 0) (sget s 1) := by kernel_rfl
def o33_4 : List AOper := [⟨some 6, (.mov (.tmp 5)), false, none⟩,
  ⟨some 7, (.mov (.tmp 0)), false, none⟩,
  ⟨some 8, (.append false 4 32 (.tmp 6) (.tmp 7)), false, none⟩,
  ⟨some 5, (.mov (.tmp 8)), false, none⟩]
def c33_5 : ACode := (.region o33_4 [1, 5])
def w33_5 (_P : Program) (Q : Exit → Slots → Mem → Prop) (M : Mem) (v0 : V) (v1 : V) (v5 : V) : Prop :=
  @OptMH (appV false 4 32 v5 v0 M) ⟨fun t8_3 M3 =>
  Q .normal [(1, v1), (5, t8_3)] M3⟩
theorem e33_5 (P : Program) (Q : Exit → Slots → Mem → Prop) (s : Slots) (M : Mem) : wpC P c33_5 Q s M = w33_5 P Q M (sget s 0) (sget s 1) (sget s 5) := by kernel_rfl
def o33_6 : List AOper := [⟨some 9, (.mov (.tmp 5)), false, none⟩,
  ⟨some 10, (.mov (.tmp 1)), false, none⟩,
  ⟨some 11, (.append false 4 32 (.tmp 9) (.tmp 10)), false, none⟩,
  ⟨some 4, (.mov (.tmp 11)), false, none⟩]
def c33_7 : ACode := (.region o33_6 [4])
def w33_7 (_P : Program) (Q : Exit → Slots → Mem → Prop) (M : Mem) (v1 : V) (v5 : V) : Prop :=
  @OptMH (appV false 4 32 v5 v1 M) ⟨fun t11_3 M3 =>
  Q .normal [(4, t11_3)] M3⟩
theorem e33_7 (P : Program) (Q : Exit → Slots → Mem → Prop) (s : Slots) (M : Mem) : wpC P c33_7 Q s M = w33_7 P Q M (sget s 1) (sget s 5) := by kernel_rfl
def c33_8 : ACode := (.seq c33_7 .ret)
def c33_9 : ACode := (.seq c33_5 c33_8)
def c33_10 : ACode := (.seq c33_3 c33_9)
def c33_11 : ACode := (.seq c33_1 c33_10)
def fn_transitref36_joined : AFn := ⟨12, [(.tmp 4)], c33_11⟩
theorem fn_transitref36_joined_ok : resFn PR h_transitref36_joined i_transitref36_joined = some fn_transitref36_joined := by kernel_rfl

def h_product_within : Hints := ⟨[(0, [0, 1, 2]), (1, [6])], [], []⟩
def o34_0 : List AOper := [⟨some 6, (.mov (.const (.bool false))), true, none⟩]
def c34_1 : ACode := (.region o34_0 [0, 1, 2])
def w34_1 (_P : Program) (Q : Exit → Slots → Mem → Prop) (M : Mem) (v0 : V) (v1 : V) (v2 : V) : Prop :=
  Q .normal [(0, v0), (1, v1), (2, v2)] M
theorem e34_1 (P : Program) (Q : Exit → Slots → Mem → Prop) (s : Slots) (M : Mem) : wpC P c34_1 Q s M = w34_1 P Q M (sget s 0) (sget s 1) (sget s 2) := by kernel_rfl
def o34_2 : List AOper := [⟨some 7, (.mov (.tmp 0)), false, none⟩,
  ⟨some 8, (.mov (.tmp 1)), false, none⟩,
  ⟨some 9, (.bin .geq .none (.tmp 7) (.tmp 8)), true, none⟩,
  ⟨some 10, (.mov (.tmp 9)), true, none⟩,
  ⟨some 11, (.mov (.tmp 0)), false, some (10, true)⟩,
  ⟨some 12, (.mov (.tmp 2)), false, some (10, true)⟩,
  ⟨some 13, (.bin .leq .none (.tmp 11) (.tmp 12)), true, some (10, true)⟩,
  ⟨some 14, (.pick (.tmp 10) (.tmp 13) (.const (.bool false))), true, none⟩,
  ⟨some 6, (.mov (.tmp 14)), true, none⟩]
def c34_3 : ACode := (.region o34_2 [6])
def w34_3 (_P : Program) (Q : Exit → Slots → Mem → Prop) (M : Mem) (v0 : V) (v1 : V) (v2 : V) : Prop :=
  @OptBH (binV .geq .none v0 v1) ⟨fun b9_3 =>
  @BIfH b9_3
  ⟨@OptBH (binV .leq .none v0 v2) ⟨fun b13_7 =>
  Q .normal [(6, (.bool b13_7))] M⟩⟩
  ⟨Q .normal [(6, (.bool false))] M⟩⟩
theorem e34_3 (P : Program) (Q : Exit → Slots → Mem → Prop) (s : Slots) (M : Mem) : wpC P c34_3 Q s M = w34_3 P Q M (sget s 0) (sget s 1) (sget s 2) := by kernel_rfl
def c34_4 : ACode := (.seq c34_3 .ret)
def c34_5 : ACode := (.seq c34_1 c34_4)
def fn_product_within : AFn := ⟨15, [(.tmp 6)], c34_5⟩
theorem fn_product_within_ok : resFn PR h_product_within i_product_within = some fn_product_within := by kernel_rfl

def h_ident_Valid : Hints := ⟨[(0, [0]), (1, [0, 3]), (2, [0, 3, 8]), (3, [0, 3]), (4, [0, 3, 4]), (5, [2]), (6, [0, 3, 4, 14]), (7, [0, 3, 4, 14]), (8, [0, 3, 4, 14]), (9, [0, 3, 4, 33]), (10, [0, 3, 4, 33]), (11, [0, 3, 33]), (12, [2])], [(2, [0, 3])], []⟩
def o35_0 : List AOper := [⟨some 2, (.mov (.const (.bool false))), true, none⟩]
def c35_1 : ACode := (.region o35_0 [0])
def w35_1 (_P : Program) (Q : Exit → Slots → Mem → Prop) (M : Mem) (v0 : V) : Prop :=
  Q .normal [(0, v0)] M
theorem e35_1 (P : Program) (Q : Exit → Slots → Mem → Prop) (s : Slots) (M : Mem) : wpC P c35_1 Q s M = w35_1 P Q M (sget s 0) := by kernel_rfl
def o35_2 : List AOper := [⟨some 3, (.mov (.const (.int .i64 0))), false, none⟩]
def c35_3 : ACode := (.region o35_2 [0, 3])
def w35_3 (_P : Program) (Q : Exit → Slots → Mem → Prop) (M : Mem) (v0 : V) : Prop :=
  Q .normal [(0, v0), (3, (.int .i64 0))] M
theorem e35_3 (P : Program) (Q : Exit → Slots → Mem → Prop) (s : Slots) (M : Mem) : wpC P c35_3 Q s M = w35_3 P Q M (sget s 0) := by kernel_rfl
def o35_4 : List AOper := [⟨some 5, (.mov (.tmp 3)), false, none⟩,
  ⟨some 6, (.mov (.tmp 0)), false, none⟩,
  ⟨some 7, (.lenStr (.tmp 6)), false, none⟩,
  ⟨some 8, (.bin .lss .none (.tmp 5) (.tmp 7)), true, none⟩]
def c35_5 : ACode := (.seq (.region o35_4 [0, 3, 8]) (.cond (.tmp 8) .skip (.exit 0)))
def w35_5 (_P : Program) (Q : Exit → Slots → Mem → Prop) (M : Mem) (v0 : V) (v3 : V) : Prop :=
  @OptVH (lenStrV v0) ⟨fun t7_3 =>
  @OptBH (binV .lss .none v3 t7_3) ⟨fun b8_4 =>
  @BIfH b8_4
  ⟨Q .normal [(0, v0), (3, v3), (8, (.bool b8_4))] M⟩
  ⟨Q (.exit 0) [(0, v0), (3, v3), (8, (.bool b8_4))] M⟩⟩⟩
theorem e35_5 (P : Program) (Q : Exit → Slots → Mem → Prop) (s : Slots) (M : Mem) : wpC P c35_5 Q s M = w35_5 P Q M (sget s 0) (sget s 3) := by kernel_rfl
def o35_6 : List AOper := [⟨some 11, (.mov (.tmp 0)), false, none⟩,
  ⟨some 12, (.mov (.tmp 3)), false, none⟩,
  ⟨some 13, (.indexStr (.tmp 11) (.tmp 12)), false, none⟩,
  ⟨some 4, (.mov (.tmp 13)), false, none⟩]
def c35_7 : ACode := (.region o35_6 [0, 3, 4])
def w35_7 (_P : Program) (Q : Exit → Slots → Mem → Prop) (M : Mem) (v0 : V) (v3 : V) : Prop :=
  @OptVH (indexStrV v0 v3) ⟨fun t13_3 =>
  Q .normal [(0, v0), (3, v3), (4, t13_3)] M⟩
theorem e35_7 (P : Program) (Q : Exit → Slots → Mem → Prop) (s : Slots) (M : Mem) : wpC P c35_7 Q s M = w35_7 P Q M (sget s 0) (sget s 3) := by kernel_rfl
def o35_8 : List AOper := [⟨some 27, (.mov (.tmp 4)), false, none⟩,
  ⟨some 28, (.bin .leq .none (.const (.int .u8 48)) (.tmp 27)), true, none⟩,
  ⟨some 29, (.mov (.tmp 28)), true, none⟩,
  ⟨some 30, (.mov (.tmp 4)), false, some (29, true)⟩,
  ⟨some 31, (.bin .leq .none (.tmp 30) (.const (.int .u8 57))), true, some (29, true)⟩,
  ⟨some 32, (.pick (.tmp 29) (.tmp 31) (.const (.bool false))), true, none⟩,
  ⟨some 14, (.mov (.tmp 32)), true, none⟩]
def c35_9 : ACode := (.region o35_8 [0, 3, 4, 14])
def w35_9 (_P : Program) (Q : Exit → Slots → Mem → Prop) (M : Mem) (v0 : V) (v3 : V) (v4 : V) : Prop :=
  @OptBH (binV .leq .none (.int .u8 48) v4) ⟨fun b28_2 =>
  @BIfH b28_2
  ⟨@OptBH (binV .leq .none v4 (.int .u8 57)) ⟨fun b31_5 =>
  Q .normal [(0, v0), (3, v3), (4, v4), (14, (.bool b31_5))] M⟩⟩
  ⟨Q .normal [(0, v0), (3, v3), (4, v4), (14, (.bool false))] M⟩⟩
theorem e35_9 (P : Program) (Q : Exit → Slots → Mem → Prop) (s : Slots) (M : Mem) : wpC P c35_9 Q s M = w35_9 P Q M (sget s 0) (sget s 3) (sget s 4) := by kernel_rfl
def o35_10 : List AOper := [⟨some 21, (.mov (.tmp 4)), false, none⟩,
  ⟨some 22, (.bin .leq .none (.const (.int .u8 65)) (.tmp 21)), true, none⟩,
  ⟨some 23, (.mov (.tmp 22)), true, none⟩,
  ⟨some 24, (.mov (.tmp 4)), false, some (23, true)⟩,
  ⟨some 25, (.bin .leq .none (.tmp 24) (.const (.int .u8 90))), true, some (23, true)⟩,
  ⟨some 26, (.pick (.tmp 23) (.tmp 25) (.const (.bool false))), true, none⟩,
  ⟨some 14, (.mov (.tmp 26)), true, none⟩]
def c35_11 : ACode := (.seq (.region o35_10 [0, 3, 4, 14]) (.cond (.tmp 14) .skip c35_9))
def w35_11 (P : Program) (Q : Exit → Slots → Mem → Prop) (M : Mem) (v0 : V) (v3 : V) (v4 : V) : Prop :=
  @OptBH (binV .leq .none (.int .u8 65) v4) ⟨fun b22_2 =>
  @BIfH b22_2
  ⟨@OptBH (binV .leq .none v4 (.int .u8 90)) ⟨fun b25_5 =>
  @BIfH b25_5
  ⟨Q .normal [(0, v0), (3, v3), (4, v4), (14, (.bool b25_5))] M⟩
  ⟨wpC P c35_9 Q [(0, v0), (3, v3), (4, v4), (14, (.bool b25_5))] M⟩⟩⟩
  ⟨wpC P c35_9 Q [(0, v0), (3, v3), (4, v4), (14, (.bool false))] M⟩⟩
theorem e35_11 (P : Program) (Q : Exit → Slots → Mem → Prop) (s : Slots) (M : Mem) : wpC P c35_11 Q s M = w35_11 P Q M (sget s 0) (sget s 3) (sget s 4) := by kernel_rfl
def o35_12 : List AOper := [⟨some 15, (.mov (.tmp 4)), false, none⟩,
  ⟨some 16, (.bin .leq .none (.const (.int .u8 97)) (.tmp 15)), true, none⟩,
  ⟨some 17, (.mov (.tmp 16)), true, none⟩,
  ⟨some 18, (.mov (.tmp 4)), false, some (17, true)⟩,
  ⟨some 19, (.bin .leq .none (.tmp 18) (.const (.int .u8 122))), true, some (17, true)⟩,
  ⟨some 20, (.pick (.tmp 17) (.tmp 19) (.const (.bool false))), true, none⟩,
  ⟨some 14, (.mov (.tmp 20)), true, none⟩]
def c35_13 : ACode := (.seq (.region o35_12 [0, 3, 4, 14]) (.cond (.tmp 14) .skip c35_11))
def w35_13 (P : Program) (Q : Exit → Slots → Mem → Prop) (M : Mem) (v0 : V) (v3 : V) (v4 : V) : Prop :=
  @OptBH (binV .leq .none (.int .u8 97) v4) ⟨fun b16_2 =>
  @BIfH b16_2
  ⟨@OptBH (binV .leq .none v4 (.int .u8 122)) ⟨fun b19_5 =>
  @BIfH b19_5
  ⟨Q .normal [(0, v0), (3, v3), (4, v4), (14, (.bool b19_5))] M⟩
  ⟨wpC P c35_11 Q [(0, v0), (3, v3), (4, v4), (14, (.bool b19_5))] M⟩⟩⟩
  ⟨wpC P c35_11 Q [(0, v0), (3, v3), (4, v4), (14, (.bool false))] M⟩⟩
theorem e35_13 (P : Program) (Q : Exit → Slots → Mem → Prop) (s : Slots) (M : Mem) : wpC P c35_13 Q s M = w35_13 P Q M (sget s 0) (sget s 3) (sget s 4) := by kernel_rfl
def o35_14 : List AOper := [⟨some 38, (.mov (.tmp 4)), false, none⟩,
  ⟨some 39, (.bin .eql .none (.tmp 38) (.const (.int .u8 46))), true, none⟩,
  ⟨some 33, (.mov (.tmp 39)), true, none⟩]
def c35_15 : ACode := (.region o35_14 [0, 3, 33])
def w35_15 (_P : Program) (Q : Exit → Slots → Mem → Prop) (M : Mem) (v0 : V) (v3 : V) (v4 : V) : Prop :=
  @OptBH (binV .eql .none v4 (.int .u8 46)) ⟨fun b39_2 =>
  Q .normal [(0, v0), (3, v3), (33, (.bool b39_2))] M⟩
theorem e35_15 (P : Program) (Q : Exit → Slots → Mem → Prop) (s : Slots) (M : Mem) : wpC P c35_15 Q s M = w35_15 P Q M (sget s 0) (sget s 3) (sget s 4) := by kernel_rfl
def o35_16 : List AOper := [⟨some 36, (.mov (.tmp 4)), false, none⟩,
  ⟨some 37, (.bin .eql .none (.tmp 36) (.const (.int .u8 95))), true, none⟩,
  ⟨some 33, (.mov (.tmp 37)), true, none⟩]
def c35_17 : ACode := (.seq (.region o35_16 [0, 3, 4, 33]) (.cond (.tmp 33) .skip c35_15))
def w35_17 (P : Program) (Q : Exit → Slots → Mem → Prop) (M : Mem) (v0 : V) (v3 : V) (v4 : V) : Prop :=
  @OptBH (binV .eql .none v4 (.int .u8 95)) ⟨fun b37_2 =>
  @BIfH b37_2
  ⟨Q .normal [(0, v0), (3, v3), (4, v4), (33, (.bool b37_2))] M⟩
  ⟨wpC P c35_15 Q [(0, v0), (3, v3), (4, v4), (33, (.bool b37_2))] M⟩⟩
theorem e35_17 (P : Program) (Q : Exit → Slots → Mem → Prop) (s : Slots) (M : Mem) : wpC P c35_17 Q s M = w35_17 P Q M (sget s 0) (sget s 3) (sget s 4) := by kernel_rfl
def o35_18 : List AOper := [⟨some 34, (.mov (.tmp 4)), false, none⟩,
  ⟨some 35, (.bin .eql .none (.tmp 34) (.const (.int .u8 45))), true, none⟩,
  ⟨some 33, (.mov (.tmp 35)), true, none⟩]
def c35_19 : ACode := (.seq (.region o35_18 [0, 3, 4, 33]) (.cond (.tmp 33) .skip c35_17))
def w35_19 (P : Program) (Q : Exit → Slots → Mem → Prop) (M : Mem) (v0 : V) (v3 : V) (v4 : V) : Prop :=
  @OptBH (binV .eql .none v4 (.int .u8 45)) ⟨fun b35_2 =>
  @BIfH b35_2
  ⟨Q .normal [(0, v0), (3, v3), (4, v4), (33, (.bool b35_2))] M⟩
  ⟨wpC P c35_17 Q [(0, v0), (3, v3), (4, v4), (33, (.bool b35_2))] M⟩⟩
theorem e35_19 (P : Program) (Q : Exit → Slots → Mem → Prop) (s : Slots) (M : Mem) : wpC P c35_19 Q s M = w35_19 P Q M (sget s 0) (sget s 3) (sget s 4) := by kernel_rfl
def o35_20 : List AOper := [⟨some 2, (.mov (.const (.bool false))), true, none⟩]
def c35_21 : ACode := (.region o35_20 [2])
def w35_21 (_P : Program) (Q : Exit → Slots → Mem → Prop) (M : Mem) : Prop :=
  Q .normal [(2, (.bool false))] M
theorem e35_21 (P : Program) (Q : Exit → Slots → Mem → Prop) (s : Slots) (M : Mem) : wpC P c35_21 Q s M = w35_21 P Q M := by kernel_rfl
def c35_22 : ACode := (.seq c35_21 .ret)
def c35_23 : ACode := (.cond (.tmp 33) .skip c35_22)
def c35_24 : ACode := (.seq c35_19 c35_23)
def c35_25 : ACode := (.cond (.tmp 14) .skip c35_24)
def c35_26 : ACode := (.seq c35_13 c35_25)
def c35_27 : ACode := (.block 2 c35_26)
def c35_28 : ACode := (.seq c35_7 c35_27)
def c35_29 : ACode := (.block 1 c35_28)
def o35_30 : List AOper := [⟨some 9, (.mov (.tmp 3)), false, none⟩,
  ⟨some 10, (.bin .add .none (.tmp 9) (.const (.int .i64 1))), false, none⟩,
  ⟨some 3, (.mov (.tmp 10)), false, none⟩]
def c35_31 : ACode := (.region o35_30 [0, 3])
def w35_31 (_P : Program) (Q : Exit → Slots → Mem → Prop) (M : Mem) (v0 : V) (v3 : V) : Prop :=
  @OptVH (binV .add .none v3 (.int .i64 1)) ⟨fun t10_2 =>
  Q .normal [(0, v0), (3, t10_2)] M⟩
theorem e35_31 (P : Program) (Q : Exit → Slots → Mem → Prop) (s : Slots) (M : Mem) : wpC P c35_31 Q s M = w35_31 P Q M (sget s 0) (sget s 3) := by kernel_rfl
def c35_32 : ACode := (.seq c35_29 c35_31)
def c35_33 : ACode := (.seq c35_5 c35_32)
def c35_34 : ACode := (.loop [0, 3] c35_33)
def c35_35 : ACode := (.block 0 c35_34)
def c35_36 : ACode := (.seq c35_3 c35_35)
def o35_37 : List AOper := [⟨some 40, (.mov (.tmp 0)), false, none⟩,
  ⟨some 41, (.lenStr (.tmp 40)), false, none⟩,
  ⟨some 42, (.bin .gtr .none (.tmp 41) (.const (.int .i64 0))), true, none⟩,
  ⟨some 43, (.mov (.tmp 42)), true, none⟩,
  ⟨some 44, (.mov (.tmp 0)), false, some (43, true)⟩,
  ⟨some 45, (.lenStr (.tmp 44)), false, some (43, true)⟩,
  ⟨some 46, (.bin .leq .none (.tmp 45) (.const (.int .i64 32))), true, some (43, true)⟩,
  ⟨some 47, (.pick (.tmp 43) (.tmp 46) (.const (.bool false))), true, none⟩,
  ⟨some 2, (.mov (.tmp 47)), true, none⟩]
def c35_38 : ACode := (.region o35_37 [2])
def w35_38 (_P : Program) (Q : Exit → Slots → Mem → Prop) (M : Mem) (v0 : V) : Prop :=
  @OptVH (lenStrV v0) ⟨fun t41_2 =>
  @OptBH (binV .gtr .none t41_2 (.int .i64 0)) ⟨fun b42_3 =>
  @BIfH b42_3
  ⟨@OptVH (lenStrV v0) ⟨fun t45_6 =>
  @OptBH (binV .leq .none t45_6 (.int .i64 32)) ⟨fun b46_7 =>
  Q .normal [(2, (.bool b46_7))] M⟩⟩⟩
  ⟨Q .normal [(2, (.bool false))] M⟩⟩⟩
theorem e35_38 (P : Program) (Q : Exit → Slots → Mem → Prop) (s : Slots) (M : Mem) : wpC P c35_38 Q s M = w35_38 P Q M (sget s 0) := by kernel_rfl
def c35_39 : ACode := (.seq c35_38 .ret)
def c35_40 : ACode := (.seq c35_36 c35_39)
def c35_41 : ACode := (.seq c35_1 c35_40)
def fn_ident_Valid : AFn := ⟨48, [(.tmp 2)], c35_41⟩
theorem fn_ident_Valid_ok : resFn PR h_ident_Valid i_ident_Valid = some fn_ident_Valid := by kernel_rfl

def h_transitref26_in : Hints := ⟨[(0, [0, 1, 2]), (1, [6])], [], []⟩
def o36_0 : List AOper := [⟨some 6, (.mov (.const (.bool false))), true, none⟩]
def c36_1 : ACode := (.region o36_0 [0, 1, 2])
def w36_1 (_P : Program) (Q : Exit → Slots → Mem → Prop) (M : Mem) (v0 : V) (v1 : V) (v2 : V) : Prop :=
  Q .normal [(0, v0), (1, v1), (2, v2)] M
theorem e36_1 (P : Program) (Q : Exit → Slots → Mem → Prop) (s : Slots) (M : Mem) : wpC P c36_1 Q s M = w36_1 P Q M (sget s 0) (sget s 1) (sget s 2) := by kernel_rfl
def o36_2 : List AOper := [⟨some 7, (.mov (.tmp 0)), false, none⟩,
  ⟨some 8, (.mov (.tmp 1)), false, none⟩,
  ⟨some 9, (.bin .geq .none (.tmp 7) (.tmp 8)), true, none⟩,
  ⟨some 10, (.mov (.tmp 9)), true, none⟩,
  ⟨some 11, (.mov (.tmp 0)), false, some (10, true)⟩,
  ⟨some 12, (.mov (.tmp 2)), false, some (10, true)⟩,
  ⟨some 13, (.bin .leq .none (.tmp 11) (.tmp 12)), true, some (10, true)⟩,
  ⟨some 14, (.pick (.tmp 10) (.tmp 13) (.const (.bool false))), true, none⟩,
  ⟨some 6, (.mov (.tmp 14)), true, none⟩]
def c36_3 : ACode := (.region o36_2 [6])
def w36_3 (_P : Program) (Q : Exit → Slots → Mem → Prop) (M : Mem) (v0 : V) (v1 : V) (v2 : V) : Prop :=
  @OptBH (binV .geq .none v0 v1) ⟨fun b9_3 =>
  @BIfH b9_3
  ⟨@OptBH (binV .leq .none v0 v2) ⟨fun b13_7 =>
  Q .normal [(6, (.bool b13_7))] M⟩⟩
  ⟨Q .normal [(6, (.bool false))] M⟩⟩
theorem e36_3 (P : Program) (Q : Exit → Slots → Mem → Prop) (s : Slots) (M : Mem) : wpC P c36_3 Q s M = w36_3 P Q M (sget s 0) (sget s 1) (sget s 2) := by kernel_rfl
def c36_4 : ACode := (.seq c36_3 .ret)
def c36_5 : ACode := (.seq c36_1 c36_4)
def fn_transitref26_in : AFn := ⟨15, [(.tmp 6)], c36_5⟩
theorem fn_transitref26_in_ok : resFn PR h_transitref26_in i_transitref26_in = some fn_transitref26_in := by kernel_rfl

def h_transitref26_ValidID : Hints := ⟨[(0, [0]), (1, [0, 13]), (2, [2]), (3, [0, 3]), (4, [0, 3, 17]), (5, [0, 3]), (6, [0, 3, 4]), (7, [0, 3, 4, 5]), (8, [0, 3, 58]), (9, [2]), (10, [2])], [(4, [0, 3])], []⟩
def o37_0 : List AOper := [⟨some 2, (.mov (.const (.bool false))), true, none⟩]
def c37_1 : ACode := (.region o37_0 [0])
def w37_1 (_P : Program) (Q : Exit → Slots → Mem → Prop) (M : Mem) (v0 : V) : Prop :=
  Q .normal [(0, v0)] M
theorem e37_1 (P : Program) (Q : Exit → Slots → Mem → Prop) (s : Slots) (M : Mem) : wpC P c37_1 Q s M = w37_1 P Q M (sget s 0) := by kernel_rfl
def o37_2 : List AOper := [⟨some 2, (.mov (.const (.bool false))), true, none⟩]
def c37_3 : ACode := (.region o37_2 [2])
def w37_3 (_P : Program) (Q : Exit → Slots → Mem → Prop) (M : Mem) : Prop :=
  Q .normal [(2, (.bool false))] M
theorem e37_3 (P : Program) (Q : Exit → Slots → Mem → Prop) (s : Slots) (M : Mem) : wpC P c37_3 Q s M = w37_3 P Q M := by kernel_rfl
def c37_4 : ACode := (.seq c37_3 .ret)
def o37_5 : List AOper := [⟨some 6, (.mov (.tmp 0)), false, none⟩,
  ⟨some 7, (.lenStr (.tmp 6)), false, none⟩,
  ⟨some 8, (.bin .lss .none (.tmp 7) (.const (.int .i64 1))), true, none⟩,
  ⟨some 9, (.mov (.tmp 8)), true, none⟩,
  ⟨some 10, (.mov (.tmp 0)), false, some (9, false)⟩,
  ⟨some 11, (.lenStr (.tmp 10)), false, some (9, false)⟩,
  ⟨some 12, (.bin .gtr .none (.tmp 11) (.const (.int .i64 32))), true, some (9, false)⟩,
  ⟨some 13, (.pick (.tmp 9) (.const (.bool true)) (.tmp 12)), true, none⟩]
def c37_6 : ACode := (.seq (.region o37_5 [0, 13]) (.cond (.tmp 13) c37_4 .skip))
def w37_6 (P : Program) (Q : Exit → Slots → Mem → Prop) (M : Mem) (v0 : V) : Prop :=
  @OptVH (lenStrV v0) ⟨fun t7_2 =>
  @OptBH (binV .lss .none t7_2 (.int .i64 1)) ⟨fun b8_3 =>
  @BIfH b8_3
  ⟨wpC P c37_4 Q [(0, v0), (13, (.bool true))] M⟩
  ⟨@OptVH (lenStrV v0) ⟨fun t11_7 =>
  @OptBH (binV .gtr .none t11_7 (.int .i64 32)) ⟨fun b12_8 =>
  @BIfH b12_8
  ⟨wpC P c37_4 Q [(0, v0), (13, (.bool b12_8))] M⟩
  ⟨Q .normal [(0, v0), (13, (.bool b12_8))] M⟩⟩⟩⟩⟩⟩
theorem e37_6 (P : Program) (Q : Exit → Slots → Mem → Prop) (s : Slots) (M : Mem) : wpC P c37_6 Q s M = w37_6 P Q M (sget s 0) := by kernel_rfl
def o37_7 : List AOper := [⟨some 3, (.mov (.const (.int .i64 0))), false, none⟩]
def c37_8 : ACode := (.region o37_7 [0, 3])
def w37_8 (_P : Program) (Q : Exit → Slots → Mem → Prop) (M : Mem) (v0 : V) : Prop :=
  Q .normal [(0, v0), (3, (.int .i64 0))] M
theorem e37_8 (P : Program) (Q : Exit → Slots → Mem → Prop) (s : Slots) (M : Mem) : wpC P c37_8 Q s M = w37_8 P Q M (sget s 0) := by kernel_rfl
def o37_9 : List AOper := [⟨some 14, (.mov (.tmp 3)), false, none⟩,
  ⟨some 15, (.mov (.tmp 0)), false, none⟩,
  ⟨some 16, (.lenStr (.tmp 15)), false, none⟩,
  ⟨some 17, (.bin .lss .none (.tmp 14) (.tmp 16)), true, none⟩]
def c37_10 : ACode := (.seq (.region o37_9 [0, 3, 17]) (.cond (.tmp 17) .skip (.exit 0)))
def w37_10 (_P : Program) (Q : Exit → Slots → Mem → Prop) (M : Mem) (v0 : V) (v3 : V) : Prop :=
  @OptVH (lenStrV v0) ⟨fun t16_3 =>
  @OptBH (binV .lss .none v3 t16_3) ⟨fun b17_4 =>
  @BIfH b17_4
  ⟨Q .normal [(0, v0), (3, v3), (17, (.bool b17_4))] M⟩
  ⟨Q (.exit 0) [(0, v0), (3, v3), (17, (.bool b17_4))] M⟩⟩⟩
theorem e37_10 (P : Program) (Q : Exit → Slots → Mem → Prop) (s : Slots) (M : Mem) : wpC P c37_10 Q s M = w37_10 P Q M (sget s 0) (sget s 3) := by kernel_rfl
def o37_11 : List AOper := [⟨some 20, (.mov (.tmp 0)), false, none⟩,
  ⟨some 21, (.mov (.tmp 3)), false, none⟩,
  ⟨some 22, (.indexStr (.tmp 20) (.tmp 21)), false, none⟩,
  ⟨some 4, (.mov (.tmp 22)), false, none⟩]
def c37_12 : ACode := (.region o37_11 [0, 3, 4])
def w37_12 (_P : Program) (Q : Exit → Slots → Mem → Prop) (M : Mem) (v0 : V) (v3 : V) : Prop :=
  @OptVH (indexStrV v0 v3) ⟨fun t22_3 =>
  Q .normal [(0, v0), (3, v3), (4, t22_3)] M⟩
theorem e37_12 (P : Program) (Q : Exit → Slots → Mem → Prop) (s : Slots) (M : Mem) : wpC P c37_12 Q s M = w37_12 P Q M (sget s 0) (sget s 3) := by kernel_rfl
def o37_13 : List AOper := [⟨some 23, (.mov (.tmp 4)), false, none⟩,
  ⟨some 24, (.bin .geq .none (.tmp 23) (.const (.int .u8 97))), true, none⟩,
  ⟨some 25, (.mov (.tmp 24)), true, none⟩,
  ⟨some 26, (.mov (.tmp 4)), false, some (25, true)⟩,
  ⟨some 27, (.bin .leq .none (.tmp 26) (.const (.int .u8 122))), true, some (25, true)⟩,
  ⟨some 28, (.pick (.tmp 25) (.tmp 27) (.const (.bool false))), true, none⟩,
  ⟨some 29, (.mov (.tmp 28)), true, none⟩,
  ⟨some 30, (.mov (.tmp 4)), false, some (29, false)⟩,
  ⟨some 31, (.bin .geq .none (.tmp 30) (.const (.int .u8 65))), true, some (29, false)⟩,
  ⟨some 32, (.mov (.tmp 31)), true, some (29, false)⟩,
  ⟨some 33, (.mov (.tmp 4)), false, some (32, true)⟩,
  ⟨some 34, (.bin .leq .none (.tmp 33) (.const (.int .u8 90))), true, some (32, true)⟩,
  ⟨some 35, (.pick (.tmp 32) (.tmp 34) (.const (.bool false))), true, some (29, false)⟩,
  ⟨some 36, (.pick (.tmp 29) (.const (.bool true)) (.tmp 35)), true, none⟩,
  ⟨some 37, (.mov (.tmp 36)), true, none⟩,
  ⟨some 38, (.mov (.tmp 4)), false, some (37, false)⟩,
  ⟨some 39, (.bin .geq .none (.tmp 38) (.const (.int .u8 48))), true, some (37, false)⟩,
  ⟨some 40, (.mov (.tmp 39)), true, some (37, false)⟩,
  ⟨some 41, (.mov (.tmp 4)), false, some (40, true)⟩,
  ⟨some 42, (.bin .leq .none (.tmp 41) (.const (.int .u8 57))), true, some (40, true)⟩,
  ⟨some 43, (.pick (.tmp 40) (.tmp 42) (.const (.bool false))), true, some (37, false)⟩,
  ⟨some 44, (.pick (.tmp 37) (.const (.bool true)) (.tmp 43)), true, none⟩,
  ⟨some 5, (.mov (.tmp 44)), true, none⟩]
def c37_14 : ACode := (.region o37_13 [0, 3, 4, 5])
def w37_14 (_P : Program) (Q : Exit → Slots → Mem → Prop) (M : Mem) (v0 : V) (v3 : V) (v4 : V) : Prop :=
  @OptBH (binV .geq .none v4 (.int .u8 97)) ⟨fun b24_2 =>
  @BIfH b24_2
  ⟨@OptBH (binV .leq .none v4 (.int .u8 122)) ⟨fun b27_5 =>
  @BIfH b27_5
  ⟨Q .normal [(0, v0), (3, v3), (4, v4), (5, (.bool true))] M⟩
  ⟨@OptBH (binV .geq .none v4 (.int .u8 65)) ⟨fun b31_13 =>
  @BIfH b31_13
  ⟨@OptBH (binV .leq .none v4 (.int .u8 90)) ⟨fun b34_16 =>
  @BIfH b34_16
  ⟨Q .normal [(0, v0), (3, v3), (4, v4), (5, (.bool true))] M⟩
  ⟨@OptBH (binV .geq .none v4 (.int .u8 48)) ⟨fun b39_23 =>
  @BIfH b39_23
  ⟨@OptBH (binV .leq .none v4 (.int .u8 57)) ⟨fun b42_26 =>
  Q .normal [(0, v0), (3, v3), (4, v4), (5, (.bool b42_26))] M⟩⟩
  ⟨Q .normal [(0, v0), (3, v3), (4, v4), (5, (.bool false))] M⟩⟩⟩⟩⟩
  ⟨@OptBH (binV .geq .none v4 (.int .u8 48)) ⟨fun b39_37 =>
  @BIfH b39_37
  ⟨@OptBH (binV .leq .none v4 (.int .u8 57)) ⟨fun b42_40 =>
  Q .normal [(0, v0), (3, v3), (4, v4), (5, (.bool b42_40))] M⟩⟩
  ⟨Q .normal [(0, v0), (3, v3), (4, v4), (5, (.bool false))] M⟩⟩⟩⟩⟩⟩⟩
  ⟨@OptBH (binV .geq .none v4 (.int .u8 65)) ⟨fun b31_50 =>
  @BIfH b31_50
  ⟨@OptBH (binV .leq .none v4 (.int .u8 90)) ⟨fun b34_53 =>
  @BIfH b34_53
  ⟨Q .normal [(0, v0), (3, v3), (4, v4), (5, (.bool true))] M⟩
  ⟨@OptBH (binV .geq .none v4 (.int .u8 48)) ⟨fun b39_60 =>
  @BIfH b39_60
  ⟨@OptBH (binV .leq .none v4 (.int .u8 57)) ⟨fun b42_63 =>
  Q .normal [(0, v0), (3, v3), (4, v4), (5, (.bool b42_63))] M⟩⟩
  ⟨Q .normal [(0, v0), (3, v3), (4, v4), (5, (.bool false))] M⟩⟩⟩⟩⟩
  ⟨@OptBH (binV .geq .none v4 (.int .u8 48)) ⟨fun b39_74 =>
  @BIfH b39_74
  ⟨@OptBH (binV .leq .none v4 (.int .u8 57)) ⟨fun b42_77 =>
  Q .normal [(0, v0), (3, v3), (4, v4), (5, (.bool b42_77))] M⟩⟩
  ⟨Q .normal [(0, v0), (3, v3), (4, v4), (5, (.bool false))] M⟩⟩⟩⟩⟩⟩
theorem e37_14 (P : Program) (Q : Exit → Slots → Mem → Prop) (s : Slots) (M : Mem) : wpC P c37_14 Q s M = w37_14 P Q M (sget s 0) (sget s 3) (sget s 4) := by kernel_rfl
def o37_15 : List AOper := [⟨some 2, (.mov (.const (.bool false))), true, none⟩]
def c37_16 : ACode := (.region o37_15 [2])
def w37_16 (_P : Program) (Q : Exit → Slots → Mem → Prop) (M : Mem) : Prop :=
  Q .normal [(2, (.bool false))] M
theorem e37_16 (P : Program) (Q : Exit → Slots → Mem → Prop) (s : Slots) (M : Mem) : wpC P c37_16 Q s M = w37_16 P Q M := by kernel_rfl
def c37_17 : ACode := (.seq c37_16 .ret)
def o37_18 : List AOper := [⟨some 45, (.mov (.tmp 5)), true, none⟩,
  ⟨some 46, (.un .not (.tmp 45)), true, none⟩,
  ⟨some 47, (.mov (.tmp 46)), true, none⟩,
  ⟨some 48, (.mov (.tmp 4)), false, some (47, true)⟩,
  ⟨some 49, (.bin .neq .none (.tmp 48) (.const (.int .u8 45))), true, some (47, true)⟩,
  ⟨some 50, (.pick (.tmp 47) (.tmp 49) (.const (.bool false))), true, none⟩,
  ⟨some 51, (.mov (.tmp 50)), true, none⟩,
  ⟨some 52, (.mov (.tmp 4)), false, some (51, true)⟩,
  ⟨some 53, (.bin .neq .none (.tmp 52) (.const (.int .u8 95))), true, some (51, true)⟩,
  ⟨some 54, (.pick (.tmp 51) (.tmp 53) (.const (.bool false))), true, none⟩,
  ⟨some 55, (.mov (.tmp 54)), true, none⟩,
  ⟨some 56, (.mov (.tmp 4)), false, some (55, true)⟩,
  ⟨some 57, (.bin .neq .none (.tmp 56) (.const (.int .u8 46))), true, some (55, true)⟩,
  ⟨some 58, (.pick (.tmp 55) (.tmp 57) (.const (.bool false))), true, none⟩]
def c37_19 : ACode := (.seq (.region o37_18 [0, 3, 58]) (.cond (.tmp 58) c37_17 .skip))
def w37_19 (P : Program) (Q : Exit → Slots → Mem → Prop) (M : Mem) (v0 : V) (v3 : V) (v4 : V) (v5 : V) : Prop :=
  @OptBH (some v5) ⟨fun b45_1 =>
  @OptBH (unV .not (.bool b45_1)) ⟨fun b46_2 =>
  @BIfH b46_2
  ⟨@OptBH (binV .neq .none v4 (.int .u8 45)) ⟨fun b49_5 =>
  @BIfH b49_5
  ⟨@OptBH (binV .neq .none v4 (.int .u8 95)) ⟨fun b53_9 =>
  @BIfH b53_9
  ⟨@OptBH (binV .neq .none v4 (.int .u8 46)) ⟨fun b57_13 =>
  @BIfH b57_13
  ⟨wpC P c37_17 Q [(0, v0), (3, v3), (58, (.bool b57_13))] M⟩
  ⟨Q .normal [(0, v0), (3, v3), (58, (.bool b57_13))] M⟩⟩⟩
  ⟨Q .normal [(0, v0), (3, v3), (58, (.bool false))] M⟩⟩⟩
  ⟨Q .normal [(0, v0), (3, v3), (58, (.bool false))] M⟩⟩⟩
  ⟨Q .normal [(0, v0), (3, v3), (58, (.bool false))] M⟩⟩⟩
theorem e37_19 (P : Program) (Q : Exit → Slots → Mem → Prop) (s : Slots) (M : Mem) : wpC P c37_19 Q s M = w37_19 P Q M (sget s 0) (sget s 3) (sget s 4) (sget s 5) := by kernel_rfl
def c37_20 : ACode := (.seq c37_14 c37_19)
def c37_21 : ACode := (.seq c37_12 c37_20)
def c37_22 : ACode := (.block 1 c37_21)
def o37_23 : List AOper := [⟨some 18, (.mov (.tmp 3)), false, none⟩,
  ⟨some 19, (.bin .add .none (.tmp 18) (.const (.int .i64 1))), false, none⟩,
  ⟨some 3, (.mov (.tmp 19)), false, none⟩]
def c37_24 : ACode := (.region o37_23 [0, 3])
def w37_24 (_P : Program) (Q : Exit → Slots → Mem → Prop) (M : Mem) (v0 : V) (v3 : V) : Prop :=
  @OptVH (binV .add .none v3 (.int .i64 1)) ⟨fun t19_2 =>
  Q .normal [(0, v0), (3, t19_2)] M⟩
theorem e37_24 (P : Program) (Q : Exit → Slots → Mem → Prop) (s : Slots) (M : Mem) : wpC P c37_24 Q s M = w37_24 P Q M (sget s 0) (sget s 3) := by kernel_rfl
def c37_25 : ACode := (.seq c37_22 c37_24)
def c37_26 : ACode := (.seq c37_10 c37_25)
def c37_27 : ACode := (.loop [0, 3] c37_26)
def c37_28 : ACode := (.block 0 c37_27)
def c37_29 : ACode := (.seq c37_8 c37_28)
def o37_30 : List AOper := [⟨some 2, (.mov (.const (.bool true))), true, none⟩]
def c37_31 : ACode := (.region o37_30 [2])
def w37_31 (_P : Program) (Q : Exit → Slots → Mem → Prop) (M : Mem) : Prop :=
  Q .normal [(2, (.bool true))] M
theorem e37_31 (P : Program) (Q : Exit → Slots → Mem → Prop) (s : Slots) (M : Mem) : wpC P c37_31 Q s M = w37_31 P Q M := by kernel_rfl
def c37_32 : ACode := (.seq c37_31 .ret)
def c37_33 : ACode := (.seq c37_29 c37_32)
def c37_34 : ACode := (.seq c37_6 c37_33)
def c37_35 : ACode := (.seq c37_1 c37_34)
def fn_transitref26_ValidID : AFn := ⟨59, [(.tmp 2)], c37_35⟩
theorem fn_transitref26_ValidID_ok : resFn PR h_transitref26_ValidID i_transitref26_ValidID = some fn_transitref26_ValidID := by kernel_rfl

def h_product_later : Hints := ⟨[(0, [0, 1, 2]), (1, [0, 1, 2, 9]), (2, [6]), (3, [6])], [], []⟩
def o38_0 : List AOper := [⟨some 6, (.mov (.const (.bool false))), true, none⟩]
def c38_1 : ACode := (.region o38_0 [0, 1, 2])
def w38_1 (_P : Program) (Q : Exit → Slots → Mem → Prop) (M : Mem) (v0 : V) (v1 : V) (v2 : V) : Prop :=
  Q .normal [(0, v0), (1, v1), (2, v2)] M
theorem e38_1 (P : Program) (Q : Exit → Slots → Mem → Prop) (s : Slots) (M : Mem) : wpC P c38_1 Q s M = w38_1 P Q M (sget s 0) (sget s 1) (sget s 2) := by kernel_rfl
def o38_2 : List AOper := [⟨some 10, (.mov (.tmp 2)), false, none⟩,
  ⟨some 11, (.bin .lss .none (.tmp 10) (.const (.int .i64 0))), true, none⟩,
  ⟨some 12, (.mov (.tmp 11)), true, none⟩,
  ⟨some 13, (.mov (.tmp 1)), false, some (12, false)⟩,
  ⟨some 14, (.conv .u64 (.tmp 13)), false, some (12, false)⟩,
  ⟨some 15, (.mov (.tmp 0)), false, some (12, false)⟩,
  ⟨some 16, (.conv .u64 (.tmp 15)), false, some (12, false)⟩,
  ⟨some 17, (.bin .sub .none (.tmp 14) (.tmp 16)), false, some (12, false)⟩,
  ⟨some 18, (.mov (.tmp 2)), false, some (12, false)⟩,
  ⟨some 19, (.conv .u64 (.tmp 18)), false, some (12, false)⟩,
  ⟨some 20, (.bin .gtr .none (.tmp 17) (.tmp 19)), true, some (12, false)⟩,
  ⟨some 21, (.pick (.tmp 12) (.const (.bool true)) (.tmp 20)), true, none⟩,
  ⟨some 6, (.mov (.tmp 21)), true, none⟩]
def c38_3 : ACode := (.region o38_2 [6])
def w38_3 (_P : Program) (Q : Exit → Slots → Mem → Prop) (M : Mem) (v0 : V) (v1 : V) (v2 : V) : Prop :=
  @OptBH (binV .lss .none v2 (.int .i64 0)) ⟨fun b11_2 =>
  @BIfH b11_2
  ⟨Q .normal [(6, (.bool true))] M⟩
  ⟨@OptVH (convV .u64 v1) ⟨fun t14_7 =>
  @OptVH (convV .u64 v0) ⟨fun t16_9 =>
  @OptVH (binV .sub .none t14_7 t16_9) ⟨fun t17_10 =>
  @OptVH (convV .u64 v2) ⟨fun t19_12 =>
  @OptBH (binV .gtr .none t17_10 t19_12) ⟨fun b20_13 =>
  Q .normal [(6, (.bool b20_13))] M⟩⟩⟩⟩⟩⟩⟩
theorem e38_3 (P : Program) (Q : Exit → Slots → Mem → Prop) (s : Slots) (M : Mem) : wpC P c38_3 Q s M = w38_3 P Q M (sget s 0) (sget s 1) (sget s 2) := by kernel_rfl
def c38_4 : ACode := (.seq c38_3 .ret)
def o38_5 : List AOper := [⟨some 7, (.mov (.tmp 1)), false, none⟩,
  ⟨some 8, (.mov (.tmp 0)), false, none⟩,
  ⟨some 9, (.bin .geq .none (.tmp 7) (.tmp 8)), true, none⟩]
def c38_6 : ACode := (.seq (.region o38_5 [0, 1, 2, 9]) (.cond (.tmp 9) c38_4 .skip))
def w38_6 (P : Program) (Q : Exit → Slots → Mem → Prop) (M : Mem) (v0 : V) (v1 : V) (v2 : V) : Prop :=
  @OptBH (binV .geq .none v1 v0) ⟨fun b9_3 =>
  @BIfH b9_3
  ⟨wpC P c38_4 Q [(0, v0), (1, v1), (2, v2), (9, (.bool b9_3))] M⟩
  ⟨Q .normal [(0, v0), (1, v1), (2, v2), (9, (.bool b9_3))] M⟩⟩
theorem e38_6 (P : Program) (Q : Exit → Slots → Mem → Prop) (s : Slots) (M : Mem) : wpC P c38_6 Q s M = w38_6 P Q M (sget s 0) (sget s 1) (sget s 2) := by kernel_rfl
def o38_7 : List AOper := [⟨some 22, (.mov (.tmp 2)), false, none⟩,
  ⟨some 23, (.bin .lss .none (.tmp 22) (.const (.int .i64 0))), true, none⟩,
  ⟨some 24, (.mov (.tmp 23)), true, none⟩,
  ⟨some 25, (.mov (.tmp 0)), false, some (24, true)⟩,
  ⟨some 26, (.conv .u64 (.tmp 25)), false, some (24, true)⟩,
  ⟨some 27, (.mov (.tmp 1)), false, some (24, true)⟩,
  ⟨some 28, (.conv .u64 (.tmp 27)), false, some (24, true)⟩,
  ⟨some 29, (.bin .sub .none (.tmp 26) (.tmp 28)), false, some (24, true)⟩,
  ⟨some 30, (.mov (.tmp 2)), false, some (24, true)⟩,
  ⟨some 31, (.conv .u64 (.tmp 30)), false, some (24, true)⟩,
  ⟨some 32, (.un .neg (.tmp 31)), false, some (24, true)⟩,
  ⟨some 33, (.bin .lss .none (.tmp 29) (.tmp 32)), true, some (24, true)⟩,
  ⟨some 34, (.pick (.tmp 24) (.tmp 33) (.const (.bool false))), true, none⟩,
  ⟨some 6, (.mov (.tmp 34)), true, none⟩]
def c38_8 : ACode := (.region o38_7 [6])
def w38_8 (_P : Program) (Q : Exit → Slots → Mem → Prop) (M : Mem) (v0 : V) (v1 : V) (v2 : V) : Prop :=
  @OptBH (binV .lss .none v2 (.int .i64 0)) ⟨fun b23_2 =>
  @BIfH b23_2
  ⟨@OptVH (convV .u64 v0) ⟨fun t26_5 =>
  @OptVH (convV .u64 v1) ⟨fun t28_7 =>
  @OptVH (binV .sub .none t26_5 t28_7) ⟨fun t29_8 =>
  @OptVH (convV .u64 v2) ⟨fun t31_10 =>
  @OptVH (unV .neg t31_10) ⟨fun t32_11 =>
  @OptBH (binV .lss .none t29_8 t32_11) ⟨fun b33_12 =>
  Q .normal [(6, (.bool b33_12))] M⟩⟩⟩⟩⟩⟩⟩
  ⟨Q .normal [(6, (.bool false))] M⟩⟩
theorem e38_8 (P : Program) (Q : Exit → Slots → Mem → Prop) (s : Slots) (M : Mem) : wpC P c38_8 Q s M = w38_8 P Q M (sget s 0) (sget s 1) (sget s 2) := by kernel_rfl
def c38_9 : ACode := (.seq c38_8 .ret)
def c38_10 : ACode := (.seq c38_6 c38_9)
def c38_11 : ACode := (.seq c38_1 c38_10)
def fn_product_later : AFn := ⟨35, [(.tmp 6)], c38_11⟩
theorem fn_product_later_ok : resFn PR h_product_later i_product_later = some fn_product_later := by kernel_rfl

def h_product_Covers_1 : Hints := ⟨[(0, [1, 2, 3]), (1, [2, 3]), (2, [])], [], []⟩
def o39_0 : List AOper := [⟨some 3, (.box 4 (.tmp 0)), false, none⟩]
def c39_1 : ACode := (.region o39_0 [1, 2, 3])
def w39_1 (_P : Program) (Q : Exit → Slots → Mem → Prop) (M : Mem) (v0 : V) (v1 : V) (v2 : V) : Prop :=
  @OptMH (boxV 4 v0 M) ⟨fun t3_1 M1 =>
  Q .normal [(1, v1), (2, v2), (3, t3_1)] M1⟩
theorem e39_1 (P : Program) (Q : Exit → Slots → Mem → Prop) (s : Slots) (M : Mem) : wpC P c39_1 Q s M = w39_1 P Q M (sget s 0) (sget s 1) (sget s 2) := by kernel_rfl
def o39_2 : List AOper := [⟨some 4, (.load 1 false (.tmp 1)), false, none⟩,
  ⟨some 5, (.fieldAddr 2 (.tmp 3)), false, none⟩,
  ⟨some 6, (.load 1 false (.tmp 5)), false, none⟩,
  ⟨some 7, (.conv .u64 (.tmp 6)), false, none⟩,
  ⟨some 8, (.call i_bitset_Set_Union [(.tmp 4), (.tmp 7)]), false, none⟩,
  ⟨none, (.store 1 (.tmp 1) (.tmp 8)), false, none⟩]
def c39_3 : ACode := (.region o39_2 [2, 3])
def w39_3 (P : Program) (Q : Exit → Slots → Mem → Prop) (M : Mem) (v1 : V) (v2 : V) (v3 : V) : Prop :=
  @OptVH (loadV 1 false v1 M) ⟨fun t4_1 =>
  @OptVH (moveV 2 v3) ⟨fun t5_2 =>
  @OptVH (loadV 1 false t5_2 M) ⟨fun t6_3 =>
  @OptVH (convV .u64 t6_3) ⟨fun t7_4 =>
  @CallH P i_bitset_Set_Union [t4_1, t7_4] M ⟨fun t8_5 M5 =>
  @OptMH (storeVM 1 v1 t8_5 M5) ⟨fun _tx_6 M6 =>
  Q .normal [(2, v2), (3, v3)] M6⟩⟩⟩⟩⟩⟩
theorem e39_3 (P : Program) (Q : Exit → Slots → Mem → Prop) (s : Slots) (M : Mem) : wpC P c39_3 Q s M = w39_3 P Q M (sget s 1) (sget s 2) (sget s 3) := by kernel_rfl
def o39_4 : List AOper := [⟨some 9, (.load 1 false (.tmp 2)), false, none⟩,
  ⟨some 10, (.fieldAddr 3 (.tmp 3)), false, none⟩,
  ⟨some 11, (.load 1 false (.tmp 10)), false, none⟩,
  ⟨some 12, (.conv .u64 (.tmp 11)), false, none⟩,
  ⟨some 13, (.call i_bitset_Set_Union [(.tmp 9), (.tmp 12)]), false, none⟩,
  ⟨none, (.store 1 (.tmp 2) (.tmp 13)), false, none⟩]
def c39_5 : ACode := (.region o39_4 [])
def w39_5 (P : Program) (Q : Exit → Slots → Mem → Prop) (M : Mem) (v2 : V) (v3 : V) : Prop :=
  @OptVH (loadV 1 false v2 M) ⟨fun t9_1 =>
  @OptVH (moveV 3 v3) ⟨fun t10_2 =>
  @OptVH (loadV 1 false t10_2 M) ⟨fun t11_3 =>
  @OptVH (convV .u64 t11_3) ⟨fun t12_4 =>
  @CallH P i_bitset_Set_Union [t9_1, t12_4] M ⟨fun t13_5 M5 =>
  @OptMH (storeVM 1 v2 t13_5 M5) ⟨fun _tx_6 M6 =>
  Q .normal [] M6⟩⟩⟩⟩⟩⟩
theorem e39_5 (P : Program) (Q : Exit → Slots → Mem → Prop) (s : Slots) (M : Mem) : wpC P c39_5 Q s M = w39_5 P Q M (sget s 2) (sget s 3) := by kernel_rfl
def c39_6 : ACode := (.seq c39_3 c39_5)
def c39_7 : ACode := (.seq c39_1 c39_6)
def fn_product_Covers_1 : AFn := ⟨14, [], c39_7⟩
theorem fn_product_Covers_1_ok : resFn PR h_product_Covers_1 i_product_Covers_1 = some fn_product_Covers_1 := by kernel_rfl

def h_bitset_Set_Union : Hints := ⟨[(0, [0, 1]), (1, [4])], [], []⟩
def o40_0 : List AOper := [⟨some 4, (.mov (.const (.int .u64 0))), false, none⟩]
def c40_1 : ACode := (.region o40_0 [0, 1])
def w40_1 (_P : Program) (Q : Exit → Slots → Mem → Prop) (M : Mem) (v0 : V) (v1 : V) : Prop :=
  Q .normal [(0, v0), (1, v1)] M
theorem e40_1 (P : Program) (Q : Exit → Slots → Mem → Prop) (s : Slots) (M : Mem) : wpC P c40_1 Q s M = w40_1 P Q M (sget s 0) (sget s 1) := by kernel_rfl
def o40_2 : List AOper := [⟨some 5, (.mov (.tmp 0)), false, none⟩,
  ⟨some 6, (.mov (.tmp 1)), false, none⟩,
  ⟨some 7, (.bin .or .none (.tmp 5) (.tmp 6)), false, none⟩,
  ⟨some 4, (.mov (.tmp 7)), false, none⟩]
def c40_3 : ACode := (.region o40_2 [4])
def w40_3 (_P : Program) (Q : Exit → Slots → Mem → Prop) (M : Mem) (v0 : V) (v1 : V) : Prop :=
  @OptVH (binV .or .none v0 v1) ⟨fun t7_3 =>
  Q .normal [(4, t7_3)] M⟩
theorem e40_3 (P : Program) (Q : Exit → Slots → Mem → Prop) (s : Slots) (M : Mem) : wpC P c40_3 Q s M = w40_3 P Q M (sget s 0) (sget s 1) := by kernel_rfl
def c40_4 : ACode := (.seq c40_3 .ret)
def c40_5 : ACode := (.seq c40_1 c40_4)
def fn_bitset_Set_Union : AFn := ⟨8, [(.tmp 4)], c40_5⟩
theorem fn_bitset_Set_Union_ok : resFn PR h_bitset_Set_Union i_bitset_Set_Union = some fn_bitset_Set_Union := by kernel_rfl

def h_bitset_Set_Len : Hints := ⟨[(0, [0]), (1, [0, 3]), (2, [0, 3, 5]), (3, [2]), (4, [0, 3]), (5, [0, 3])], [(2, [0, 3])], []⟩
def o41_0 : List AOper := [⟨some 2, (.mov (.const (.int .i64 0))), false, none⟩]
def c41_1 : ACode := (.region o41_0 [0])
def w41_1 (_P : Program) (Q : Exit → Slots → Mem → Prop) (M : Mem) (v0 : V) : Prop :=
  Q .normal [(0, v0)] M
theorem e41_1 (P : Program) (Q : Exit → Slots → Mem → Prop) (s : Slots) (M : Mem) : wpC P c41_1 Q s M = w41_1 P Q M (sget s 0) := by kernel_rfl
def o41_2 : List AOper := [⟨some 3, (.mov (.const (.int .i64 0))), false, none⟩]
def c41_3 : ACode := (.region o41_2 [0, 3])
def w41_3 (_P : Program) (Q : Exit → Slots → Mem → Prop) (M : Mem) (v0 : V) : Prop :=
  Q .normal [(0, v0), (3, (.int .i64 0))] M
theorem e41_3 (P : Program) (Q : Exit → Slots → Mem → Prop) (s : Slots) (M : Mem) : wpC P c41_3 Q s M = w41_3 P Q M (sget s 0) := by kernel_rfl
def o41_4 : List AOper := [⟨some 6, (.mov (.tmp 3)), false, none⟩,
  ⟨some 2, (.mov (.tmp 6)), false, none⟩]
def c41_5 : ACode := (.region o41_4 [2])
def w41_5 (_P : Program) (Q : Exit → Slots → Mem → Prop) (M : Mem) (v3 : V) : Prop :=
  Q .normal [(2, v3)] M
theorem e41_5 (P : Program) (Q : Exit → Slots → Mem → Prop) (s : Slots) (M : Mem) : wpC P c41_5 Q s M = w41_5 P Q M (sget s 3) := by kernel_rfl
def c41_6 : ACode := (.seq c41_5 .ret)
def o41_7 : List AOper := [⟨some 4, (.mov (.tmp 0)), false, none⟩,
  ⟨some 5, (.bin .eql .none (.tmp 4) (.const (.int .u64 0))), true, none⟩]
def c41_8 : ACode := (.seq (.region o41_7 [0, 3, 5]) (.cond (.tmp 5) c41_6 .skip))
def w41_8 (P : Program) (Q : Exit → Slots → Mem → Prop) (M : Mem) (v0 : V) (v3 : V) : Prop :=
  @OptBH (binV .eql .none v0 (.int .u64 0)) ⟨fun b5_2 =>
  @BIfH b5_2
  ⟨wpC P c41_6 Q [(0, v0), (3, v3), (5, (.bool b5_2))] M⟩
  ⟨Q .normal [(0, v0), (3, v3), (5, (.bool b5_2))] M⟩⟩
theorem e41_8 (P : Program) (Q : Exit → Slots → Mem → Prop) (s : Slots) (M : Mem) : wpC P c41_8 Q s M = w41_8 P Q M (sget s 0) (sget s 3) := by kernel_rfl
def o41_9 : List AOper := [⟨some 7, (.mov (.tmp 0)), false, none⟩,
  ⟨some 8, (.mov (.tmp 0)), false, none⟩,
  ⟨some 9, (.bin .sub .none (.tmp 8) (.const (.int .u64 1))), false, none⟩,
  ⟨some 10, (.bin .and .none (.tmp 7) (.tmp 9)), false, none⟩,
  ⟨some 0, (.mov (.tmp 10)), false, none⟩]
def c41_10 : ACode := (.region o41_9 [0, 3])
def w41_10 (_P : Program) (Q : Exit → Slots → Mem → Prop) (M : Mem) (v0 : V) (v3 : V) : Prop :=
  @OptVH (binV .sub .none v0 (.int .u64 1)) ⟨fun t9_3 =>
  @OptVH (binV .and .none v0 t9_3) ⟨fun t10_4 =>
  Q .normal [(0, t10_4), (3, v3)] M⟩⟩
theorem e41_10 (P : Program) (Q : Exit → Slots → Mem → Prop) (s : Slots) (M : Mem) : wpC P c41_10 Q s M = w41_10 P Q M (sget s 0) (sget s 3) := by kernel_rfl
def o41_11 : List AOper := [⟨some 11, (.mov (.tmp 3)), false, none⟩,
  ⟨some 12, (.bin .add .none (.tmp 11) (.const (.int .i64 1))), false, none⟩,
  ⟨some 3, (.mov (.tmp 12)), false, none⟩]
def c41_12 : ACode := (.region o41_11 [0, 3])
def w41_12 (_P : Program) (Q : Exit → Slots → Mem → Prop) (M : Mem) (v0 : V) (v3 : V) : Prop :=
  @OptVH (binV .add .none v3 (.int .i64 1)) ⟨fun t12_2 =>
  Q .normal [(0, v0), (3, t12_2)] M⟩
theorem e41_12 (P : Program) (Q : Exit → Slots → Mem → Prop) (s : Slots) (M : Mem) : wpC P c41_12 Q s M = w41_12 P Q M (sget s 0) (sget s 3) := by kernel_rfl
def c41_13 : ACode := (.seq c41_12 (.goto 0))
def c41_14 : ACode := (.seq c41_10 c41_13)
def c41_15 : ACode := (.seq c41_8 c41_14)
def c41_16 : ACode := (.seq .label c41_15)
def c41_17 : ACode := (.seq c41_3 c41_16)
def o41_18 : List AOper := [⟨some 6, (.mov (.tmp 3)), false, none⟩,
  ⟨some 2, (.mov (.tmp 6)), false, none⟩]
def c41_19 : ACode := (.region o41_18 [2])
def w41_19 (_P : Program) (Q : Exit → Slots → Mem → Prop) (M : Mem) (v3 : V) : Prop :=
  Q .normal [(2, v3)] M
theorem e41_19 (P : Program) (Q : Exit → Slots → Mem → Prop) (s : Slots) (M : Mem) : wpC P c41_19 Q s M = w41_19 P Q M (sget s 3) := by kernel_rfl
def c41_20 : ACode := (.seq c41_19 .ret)
def o41_21 : List AOper := [⟨some 4, (.mov (.tmp 0)), false, none⟩,
  ⟨some 5, (.bin .eql .none (.tmp 4) (.const (.int .u64 0))), true, none⟩]
def c41_22 : ACode := (.seq (.region o41_21 [0, 3, 5]) (.cond (.tmp 5) c41_20 .skip))
def w41_22 (P : Program) (Q : Exit → Slots → Mem → Prop) (M : Mem) (v0 : V) (v3 : V) : Prop :=
  @OptBH (binV .eql .none v0 (.int .u64 0)) ⟨fun b5_2 =>
  @BIfH b5_2
  ⟨wpC P c41_20 Q [(0, v0), (3, v3), (5, (.bool b5_2))] M⟩
  ⟨Q .normal [(0, v0), (3, v3), (5, (.bool b5_2))] M⟩⟩
theorem e41_22 (P : Program) (Q : Exit → Slots → Mem → Prop) (s : Slots) (M : Mem) : wpC P c41_22 Q s M = w41_22 P Q M (sget s 0) (sget s 3) := by kernel_rfl
def o41_23 : List AOper := [⟨some 7, (.mov (.tmp 0)), false, none⟩,
  ⟨some 8, (.mov (.tmp 0)), false, none⟩,
  ⟨some 9, (.bin .sub .none (.tmp 8) (.const (.int .u64 1))), false, none⟩,
  ⟨some 10, (.bin .and .none (.tmp 7) (.tmp 9)), false, none⟩,
  ⟨some 0, (.mov (.tmp 10)), false, none⟩]
def c41_24 : ACode := (.region o41_23 [0, 3])
def w41_24 (_P : Program) (Q : Exit → Slots → Mem → Prop) (M : Mem) (v0 : V) (v3 : V) : Prop :=
  @OptVH (binV .sub .none v0 (.int .u64 1)) ⟨fun t9_3 =>
  @OptVH (binV .and .none v0 t9_3) ⟨fun t10_4 =>
  Q .normal [(0, t10_4), (3, v3)] M⟩⟩
theorem e41_24 (P : Program) (Q : Exit → Slots → Mem → Prop) (s : Slots) (M : Mem) : wpC P c41_24 Q s M = w41_24 P Q M (sget s 0) (sget s 3) := by kernel_rfl
def o41_25 : List AOper := [⟨some 11, (.mov (.tmp 3)), false, none⟩,
  ⟨some 12, (.bin .add .none (.tmp 11) (.const (.int .i64 1))), false, none⟩,
  ⟨some 3, (.mov (.tmp 12)), false, none⟩]
def c41_26 : ACode := (.region o41_25 [0, 3])
def w41_26 (_P : Program) (Q : Exit → Slots → Mem → Prop) (M : Mem) (v0 : V) (v3 : V) : Prop :=
  @OptVH (binV .add .none v3 (.int .i64 1)) ⟨fun t12_2 =>
  Q .normal [(0, v0), (3, t12_2)] M⟩
theorem e41_26 (P : Program) (Q : Exit → Slots → Mem → Prop) (s : Slots) (M : Mem) : wpC P c41_26 Q s M = w41_26 P Q M (sget s 0) (sget s 3) := by kernel_rfl
def c41_27 : ACode := (.seq c41_26 (.goto 0))
def c41_28 : ACode := (.seq c41_24 c41_27)
def c41_29 : ACode := (.seq c41_22 c41_28)
def c41_30 : ACode := (.seq .skip c41_29)
def c41_31 : ACode := (.scope 0 [0, 3] c41_17 c41_30)
def c41_32 : ACode := (.seq c41_1 c41_31)
def fn_bitset_Set_Len : AFn := ⟨13, [(.tmp 2)], c41_32⟩
theorem fn_bitset_Set_Len_ok : resFn PR h_bitset_Set_Len i_bitset_Set_Len = some fn_bitset_Set_Len := by kernel_rfl

def h_bitset_Set_Within : Hints := ⟨[(0, [0, 1]), (1, [4])], [], []⟩
def o42_0 : List AOper := [⟨some 4, (.mov (.const (.bool false))), true, none⟩]
def c42_1 : ACode := (.region o42_0 [0, 1])
def w42_1 (_P : Program) (Q : Exit → Slots → Mem → Prop) (M : Mem) (v0 : V) (v1 : V) : Prop :=
  Q .normal [(0, v0), (1, v1)] M
theorem e42_1 (P : Program) (Q : Exit → Slots → Mem → Prop) (s : Slots) (M : Mem) : wpC P c42_1 Q s M = w42_1 P Q M (sget s 0) (sget s 1) := by kernel_rfl
def o42_2 : List AOper := [⟨some 5, (.mov (.tmp 0)), false, none⟩,
  ⟨some 6, (.mov (.tmp 1)), false, none⟩,
  ⟨some 7, (.bin .andNot .none (.tmp 5) (.tmp 6)), false, none⟩,
  ⟨some 8, (.bin .eql .none (.tmp 7) (.const (.int .u64 0))), true, none⟩,
  ⟨some 4, (.mov (.tmp 8)), true, none⟩]
def c42_3 : ACode := (.region o42_2 [4])
def w42_3 (_P : Program) (Q : Exit → Slots → Mem → Prop) (M : Mem) (v0 : V) (v1 : V) : Prop :=
  @OptVH (binV .andNot .none v0 v1) ⟨fun t7_3 =>
  @OptBH (binV .eql .none t7_3 (.int .u64 0)) ⟨fun b8_4 =>
  Q .normal [(4, (.bool b8_4))] M⟩⟩
theorem e42_3 (P : Program) (Q : Exit → Slots → Mem → Prop) (s : Slots) (M : Mem) : wpC P c42_3 Q s M = w42_3 P Q M (sget s 0) (sget s 1) := by kernel_rfl
def c42_4 : ACode := (.seq c42_3 .ret)
def c42_5 : ACode := (.seq c42_1 c42_4)
def fn_bitset_Set_Within : AFn := ⟨9, [(.tmp 4)], c42_5⟩
theorem fn_bitset_Set_Within_ok : resFn PR h_bitset_Set_Within i_bitset_Set_Within = some fn_bitset_Set_Within := by kernel_rfl

def h_farestate_within : Hints := ⟨[(0, [0, 1, 2]), (1, [6])], [], []⟩
def o43_0 : List AOper := [⟨some 6, (.mov (.const (.bool false))), true, none⟩]
def c43_1 : ACode := (.region o43_0 [0, 1, 2])
def w43_1 (_P : Program) (Q : Exit → Slots → Mem → Prop) (M : Mem) (v0 : V) (v1 : V) (v2 : V) : Prop :=
  Q .normal [(0, v0), (1, v1), (2, v2)] M
theorem e43_1 (P : Program) (Q : Exit → Slots → Mem → Prop) (s : Slots) (M : Mem) : wpC P c43_1 Q s M = w43_1 P Q M (sget s 0) (sget s 1) (sget s 2) := by kernel_rfl
def o43_2 : List AOper := [⟨some 7, (.mov (.tmp 1)), false, none⟩,
  ⟨some 8, (.mov (.tmp 0)), false, none⟩,
  ⟨some 9, (.bin .leq .none (.tmp 7) (.tmp 8)), true, none⟩,
  ⟨some 10, (.mov (.tmp 9)), true, none⟩,
  ⟨some 11, (.mov (.tmp 1)), false, some (10, false)⟩,
  ⟨some 12, (.conv .u64 (.tmp 11)), false, some (10, false)⟩,
  ⟨some 13, (.mov (.tmp 0)), false, some (10, false)⟩,
  ⟨some 14, (.conv .u64 (.tmp 13)), false, some (10, false)⟩,
  ⟨some 15, (.bin .sub .none (.tmp 12) (.tmp 14)), false, some (10, false)⟩,
  ⟨some 16, (.mov (.tmp 2)), false, some (10, false)⟩,
  ⟨some 17, (.conv .u64 (.tmp 16)), false, some (10, false)⟩,
  ⟨some 18, (.bin .leq .none (.tmp 15) (.tmp 17)), true, some (10, false)⟩,
  ⟨some 19, (.pick (.tmp 10) (.const (.bool true)) (.tmp 18)), true, none⟩,
  ⟨some 6, (.mov (.tmp 19)), true, none⟩]
def c43_3 : ACode := (.region o43_2 [6])
def w43_3 (_P : Program) (Q : Exit → Slots → Mem → Prop) (M : Mem) (v0 : V) (v1 : V) (v2 : V) : Prop :=
  @OptBH (binV .leq .none v1 v0) ⟨fun b9_3 =>
  @BIfH b9_3
  ⟨Q .normal [(6, (.bool true))] M⟩
  ⟨@OptVH (convV .u64 v1) ⟨fun t12_8 =>
  @OptVH (convV .u64 v0) ⟨fun t14_10 =>
  @OptVH (binV .sub .none t12_8 t14_10) ⟨fun t15_11 =>
  @OptVH (convV .u64 v2) ⟨fun t17_13 =>
  @OptBH (binV .leq .none t15_11 t17_13) ⟨fun b18_14 =>
  Q .normal [(6, (.bool b18_14))] M⟩⟩⟩⟩⟩⟩⟩
theorem e43_3 (P : Program) (Q : Exit → Slots → Mem → Prop) (s : Slots) (M : Mem) : wpC P c43_3 Q s M = w43_3 P Q M (sget s 0) (sget s 1) (sget s 2) := by kernel_rfl
def c43_4 : ACode := (.seq c43_3 .ret)
def c43_5 : ACode := (.seq c43_1 c43_4)
def fn_farestate_within : AFn := ⟨20, [(.tmp 6)], c43_5⟩
theorem fn_farestate_within_ok : resFn PR h_farestate_within i_farestate_within = some fn_farestate_within := by kernel_rfl

def h_transitref35_Best : Hints := ⟨[(0, [1, 2]), (1, [1, 2, 6]), (2, [1, 2, 6, 7]), (3, [1, 2, 6, 7]), (4, [1, 2, 6, 7, 8]), (5, [1, 2, 6, 7, 8, 28]), (6, [1, 2, 6, 7, 8]), (7, [1, 2, 6, 7, 8, 9]), (8, [1, 2, 6, 7, 8, 9, 35]), (9, [1, 2, 6, 7, 8, 9]), (10, [1, 2, 6, 7, 8, 9, 10]), (11, [1, 2, 6, 7, 8, 9, 10, 49]), (12, [1, 2, 6, 7, 8, 9, 10]), (13, [1, 2, 6, 7, 8, 9, 10, 61]), (14, [1, 2, 6, 7, 8, 9, 10, 11]), (15, [1, 2, 6, 7, 8, 9, 10, 11]), (16, [1, 2, 6, 7, 8, 9, 10, 11, 95]), (17, [1, 2, 6, 7, 8, 9, 10]), (18, [4, 5])], [(5, [1, 2, 6, 7, 8]), (8, [1, 2, 6, 7, 8, 9]), (11, [1, 2, 6, 7, 8, 9, 10])], [(15, [6])]⟩
def o44_0 : List AOper := [⟨some 2, (.box 4 (.tmp 0)), false, none⟩,
  ⟨some 4, (.mov (.const (.slice [] .nil))), false, none⟩,
  ⟨some 5, (.mov (.const (.bool false))), true, none⟩]
def c44_1 : ACode := (.region o44_0 [1, 2])
def w44_1 (_P : Program) (Q : Exit → Slots → Mem → Prop) (M : Mem) (v0 : V) (v1 : V) : Prop :=
  @OptMH (boxV 4 v0 M) ⟨fun t2_1 M1 =>
  Q .normal [(1, v1), (2, t2_1)] M1⟩
theorem e44_1 (P : Program) (Q : Exit → Slots → Mem → Prop) (s : Slots) (M : Mem) : wpC P c44_1 Q s M = w44_1 P Q M (sget s 0) (sget s 1) := by kernel_rfl
def o44_2 : List AOper := [⟨some 12, (.mov (.tmp 1)), false, none⟩,
  ⟨some 13, (.lenSl (.tmp 12)), false, none⟩,
  ⟨some 14, (.bin .add .none (.tmp 13) (.const (.int .i64 1))), false, none⟩,
  ⟨some 15, (.makeSlice [(.slice [] .nil)] 1 24 (.tmp 14) (.tmp 14)), false, none⟩,
  ⟨some 6, (.mov (.tmp 15)), false, none⟩]
def c44_3 : ACode := (.region o44_2 [1, 2, 6])
def w44_3 (_P : Program) (Q : Exit → Slots → Mem → Prop) (M : Mem) (v1 : V) (v2 : V) : Prop :=
  @OptVH (lenV v1 M) ⟨fun t13_2 =>
  @OptVH (binV .add .none t13_2 (.int .i64 1)) ⟨fun t14_3 =>
  @OptMH (makeSliceV [(.slice [] .nil)] 1 24 t14_3 t14_3 M) ⟨fun t15_4 M4 =>
  Q .normal [(1, v1), (2, v2), (6, t15_4)] M4⟩⟩⟩
theorem e44_3 (P : Program) (Q : Exit → Slots → Mem → Prop) (s : Slots) (M : Mem) : wpC P c44_3 Q s M = w44_3 P Q M (sget s 1) (sget s 2) := by kernel_rfl
def o44_4 : List AOper := [⟨some 16, (.mov (.tmp 1)), false, none⟩,
  ⟨some 17, (.lenSl (.tmp 16)), false, none⟩,
  ⟨some 18, (.bin .add .none (.tmp 17) (.const (.int .i64 1))), false, none⟩,
  ⟨some 19, (.makeSlice [(.bool false)] 1 1 (.tmp 18) (.tmp 18)), false, none⟩,
  ⟨some 7, (.mov (.tmp 19)), false, none⟩]
def c44_5 : ACode := (.region o44_4 [1, 2, 6, 7])
def w44_5 (_P : Program) (Q : Exit → Slots → Mem → Prop) (M : Mem) (v1 : V) (v2 : V) (v6 : V) : Prop :=
  @OptVH (lenV v1 M) ⟨fun t17_2 =>
  @OptVH (binV .add .none t17_2 (.int .i64 1)) ⟨fun t18_3 =>
  @OptMH (makeSliceV [(.bool false)] 1 1 t18_3 t18_3 M) ⟨fun t19_4 M4 =>
  Q .normal [(1, v1), (2, v2), (6, v6), (7, t19_4)] M4⟩⟩⟩
theorem e44_5 (P : Program) (Q : Exit → Slots → Mem → Prop) (s : Slots) (M : Mem) : wpC P c44_5 Q s M = w44_5 P Q M (sget s 1) (sget s 2) (sget s 6) := by kernel_rfl
def o44_6 : List AOper := [⟨some 20, (.mov (.tmp 7)), false, none⟩,
  ⟨some 21, (.mov (.tmp 1)), false, none⟩,
  ⟨some 22, (.lenSl (.tmp 21)), false, none⟩,
  ⟨some 23, (.indexSl 1 (.tmp 20) (.tmp 22)), false, none⟩,
  ⟨none, (.store 1 (.tmp 23) (.const (.bool true))), false, none⟩]
def c44_7 : ACode := (.region o44_6 [1, 2, 6, 7])
def w44_7 (_P : Program) (Q : Exit → Slots → Mem → Prop) (M : Mem) (v1 : V) (v2 : V) (v6 : V) (v7 : V) : Prop :=
  @OptVH (lenV v1 M) ⟨fun t22_3 =>
  @OptVH (indexSlV 1 v7 t22_3 M) ⟨fun t23_4 =>
  @OptMH (storeVM 1 t23_4 (.bool true) M) ⟨fun _tx_5 M5 =>
  Q .normal [(1, v1), (2, v2), (6, v6), (7, v7)] M5⟩⟩⟩
theorem e44_7 (P : Program) (Q : Exit → Slots → Mem → Prop) (s : Slots) (M : Mem) : wpC P c44_7 Q s M = w44_7 P Q M (sget s 1) (sget s 2) (sget s 6) (sget s 7) := by kernel_rfl
def o44_8 : List AOper := [⟨some 24, (.mov (.tmp 1)), false, none⟩,
  ⟨some 25, (.lenSl (.tmp 24)), false, none⟩,
  ⟨some 26, (.bin .sub .none (.tmp 25) (.const (.int .i64 1))), false, none⟩,
  ⟨some 8, (.mov (.tmp 26)), false, none⟩]
def c44_9 : ACode := (.region o44_8 [1, 2, 6, 7, 8])
def w44_9 (_P : Program) (Q : Exit → Slots → Mem → Prop) (M : Mem) (v1 : V) (v2 : V) (v6 : V) (v7 : V) : Prop :=
  @OptVH (lenV v1 M) ⟨fun t25_2 =>
  @OptVH (binV .sub .none t25_2 (.int .i64 1)) ⟨fun t26_3 =>
  Q .normal [(1, v1), (2, v2), (6, v6), (7, v7), (8, t26_3)] M⟩⟩
theorem e44_9 (P : Program) (Q : Exit → Slots → Mem → Prop) (s : Slots) (M : Mem) : wpC P c44_9 Q s M = w44_9 P Q M (sget s 1) (sget s 2) (sget s 6) (sget s 7) := by kernel_rfl
def o44_10 : List AOper := [⟨some 27, (.mov (.tmp 8)), false, none⟩,
  ⟨some 28, (.bin .geq .none (.tmp 27) (.const (.int .i64 0))), true, none⟩]
def c44_11 : ACode := (.seq (.region o44_10 [1, 2, 6, 7, 8, 28]) (.cond (.tmp 28) .skip (.exit 0)))
def w44_11 (_P : Program) (Q : Exit → Slots → Mem → Prop) (M : Mem) (v1 : V) (v2 : V) (v6 : V) (v7 : V) (v8 : V) : Prop :=
  @OptBH (binV .geq .none v8 (.int .i64 0)) ⟨fun b28_2 =>
  @BIfH b28_2
  ⟨Q .normal [(1, v1), (2, v2), (6, v6), (7, v7), (8, v8), (28, (.bool b28_2))] M⟩
  ⟨Q (.exit 0) [(1, v1), (2, v2), (6, v6), (7, v7), (8, v8), (28, (.bool b28_2))] M⟩⟩
theorem e44_11 (P : Program) (Q : Exit → Slots → Mem → Prop) (s : Slots) (M : Mem) : wpC P c44_11 Q s M = w44_11 P Q M (sget s 1) (sget s 2) (sget s 6) (sget s 7) (sget s 8) := by kernel_rfl
def o44_12 : List AOper := [⟨some 31, (.mov (.tmp 8)), false, none⟩,
  ⟨some 9, (.mov (.tmp 31)), false, none⟩]
def c44_13 : ACode := (.region o44_12 [1, 2, 6, 7, 8, 9])
def w44_13 (_P : Program) (Q : Exit → Slots → Mem → Prop) (M : Mem) (v1 : V) (v2 : V) (v6 : V) (v7 : V) (v8 : V) : Prop :=
  Q .normal [(1, v1), (2, v2), (6, v6), (7, v7), (8, v8), (9, v8)] M
theorem e44_13 (P : Program) (Q : Exit → Slots → Mem → Prop) (s : Slots) (M : Mem) : wpC P c44_13 Q s M = w44_13 P Q M (sget s 1) (sget s 2) (sget s 6) (sget s 7) (sget s 8) := by kernel_rfl
def o44_14 : List AOper := [⟨some 32, (.mov (.tmp 9)), false, none⟩,
  ⟨some 33, (.mov (.tmp 1)), false, none⟩,
  ⟨some 34, (.lenSl (.tmp 33)), false, none⟩,
  ⟨some 35, (.bin .lss .none (.tmp 32) (.tmp 34)), true, none⟩]
def c44_15 : ACode := (.seq (.region o44_14 [1, 2, 6, 7, 8, 9, 35]) (.cond (.tmp 35) .skip (.exit 2)))
def w44_15 (_P : Program) (Q : Exit → Slots → Mem → Prop) (M : Mem) (v1 : V) (v2 : V) (v6 : V) (v7 : V) (v8 : V) (v9 : V) : Prop :=
  @OptVH (lenV v1 M) ⟨fun t34_3 =>
  @OptBH (binV .lss .none v9 t34_3) ⟨fun b35_4 =>
  @BIfH b35_4
  ⟨Q .normal [(1, v1), (2, v2), (6, v6), (7, v7), (8, v8), (9, v9), (35, (.bool b35_4))] M⟩
  ⟨Q (.exit 2) [(1, v1), (2, v2), (6, v6), (7, v7), (8, v8), (9, v9), (35, (.bool b35_4))] M⟩⟩⟩
theorem e44_15 (P : Program) (Q : Exit → Slots → Mem → Prop) (s : Slots) (M : Mem) : wpC P c44_15 Q s M = w44_15 P Q M (sget s 1) (sget s 2) (sget s 6) (sget s 7) (sget s 8) (sget s 9) := by kernel_rfl
def o44_16 : List AOper := [⟨some 10, (.mov (.const (.int .i64 0))), false, none⟩]
def c44_17 : ACode := (.region o44_16 [1, 2, 6, 7, 8, 9, 10])
def w44_17 (_P : Program) (Q : Exit → Slots → Mem → Prop) (M : Mem) (v1 : V) (v2 : V) (v6 : V) (v7 : V) (v8 : V) (v9 : V) : Prop :=
  Q .normal [(1, v1), (2, v2), (6, v6), (7, v7), (8, v8), (9, v9), (10, (.int .i64 0))] M
theorem e44_17 (P : Program) (Q : Exit → Slots → Mem → Prop) (s : Slots) (M : Mem) : wpC P c44_17 Q s M = w44_17 P Q M (sget s 1) (sget s 2) (sget s 6) (sget s 7) (sget s 8) (sget s 9) := by kernel_rfl
def o44_18 : List AOper := [⟨some 38, (.mov (.tmp 10)), false, none⟩,
  ⟨some 39, (.fieldAddr 0 (.tmp 2)), false, none⟩,
  ⟨some 40, (.load 1 false (.tmp 39)), false, none⟩,
  ⟨some 41, (.lenSl (.tmp 40)), false, none⟩,
  ⟨some 42, (.bin .lss .none (.tmp 38) (.tmp 41)), true, none⟩,
  ⟨some 43, (.mov (.tmp 42)), true, none⟩,
  ⟨some 44, (.mov (.tmp 7)), false, some (43, true)⟩,
  ⟨some 45, (.mov (.tmp 9)), false, some (43, true)⟩,
  ⟨some 46, (.bin .add .none (.tmp 45) (.const (.int .i64 1))), false, some (43, true)⟩,
  ⟨some 47, (.indexSl 1 (.tmp 44) (.tmp 46)), false, some (43, true)⟩,
  ⟨some 48, (.load 1 false (.tmp 47)), true, some (43, true)⟩,
  ⟨some 49, (.pick (.tmp 43) (.tmp 48) (.const (.bool false))), true, none⟩]
def c44_19 : ACode := (.seq (.region o44_18 [1, 2, 6, 7, 8, 9, 10, 49]) (.cond (.tmp 49) .skip (.exit 4)))
def w44_19 (_P : Program) (Q : Exit → Slots → Mem → Prop) (M : Mem) (v1 : V) (v2 : V) (v6 : V) (v7 : V) (v8 : V) (v9 : V) (v10 : V) : Prop :=
  @OptVH (moveV 0 v2) ⟨fun t39_2 =>
  @OptVH (loadV 1 false t39_2 M) ⟨fun t40_3 =>
  @OptVH (lenV t40_3 M) ⟨fun t41_4 =>
  @OptBH (binV .lss .none v10 t41_4) ⟨fun b42_5 =>
  @BIfH b42_5
  ⟨@OptVH (binV .add .none v9 (.int .i64 1)) ⟨fun t46_9 =>
  @OptVH (indexSlV 1 v7 t46_9 M) ⟨fun t47_10 =>
  @OptBH (loadV 1 false t47_10 M) ⟨fun b48_11 =>
  @BIfH b48_11
  ⟨Q .normal [(1, v1), (2, v2), (6, v6), (7, v7), (8, v8), (9, v9), (10, v10), (49, (.bool b48_11))] M⟩
  ⟨Q (.exit 4) [(1, v1), (2, v2), (6, v6), (7, v7), (8, v8), (9, v9), (10, v10), (49, (.bool b48_11))] M⟩⟩⟩⟩⟩
  ⟨Q (.exit 4) [(1, v1), (2, v2), (6, v6), (7, v7), (8, v8), (9, v9), (10, v10), (49, (.bool false))] M⟩⟩⟩⟩⟩
theorem e44_19 (P : Program) (Q : Exit → Slots → Mem → Prop) (s : Slots) (M : Mem) : wpC P c44_19 Q s M = w44_19 P Q M (sget s 1) (sget s 2) (sget s 6) (sget s 7) (sget s 8) (sget s 9) (sget s 10) := by kernel_rfl
def o44_20 : List AOper := [⟨some 52, (.fieldAddr 0 (.tmp 2)), false, none⟩,
  ⟨some 53, (.load 1 false (.tmp 52)), false, none⟩,
  ⟨some 54, (.mov (.tmp 10)), false, none⟩,
  ⟨some 55, (.indexSl 6 (.tmp 53) (.tmp 54)), false, none⟩,
  ⟨some 56, (.load 6 true (.tmp 55)), false, none⟩,
  ⟨some 57, (.mov (.tmp 1)), false, none⟩,
  ⟨some 58, (.mov (.tmp 8)), false, none⟩,
  ⟨some 59, (.mov (.tmp 9)), false, none⟩,
  ⟨some 60, (.call i_transitref35_Covers [(.tmp 56), (.tmp 57), (.tmp 58), (.tmp 59)]), true, none⟩,
  ⟨some 61, (.un .not (.tmp 60)), true, none⟩]
def c44_21 : ACode := (.seq (.region o44_20 [1, 2, 6, 7, 8, 9, 10, 61]) (.cond (.tmp 61) (.exit 5) .skip))
def w44_21 (P : Program) (Q : Exit → Slots → Mem → Prop) (M : Mem) (v1 : V) (v2 : V) (v6 : V) (v7 : V) (v8 : V) (v9 : V) (v10 : V) : Prop :=
  @OptVH (moveV 0 v2) ⟨fun t52_1 =>
  @OptVH (loadV 1 false t52_1 M) ⟨fun t53_2 =>
  @OptVH (indexSlV 6 t53_2 v10 M) ⟨fun t55_4 =>
  @OptVH (loadV 6 true t55_4 M) ⟨fun t56_5 =>
  @CallH P i_transitref35_Covers [t56_5, v1, v8, v9] M ⟨fun t60_9 M9 => @OptBH (some t60_9) ⟨fun b60_9 =>
  @OptBH (unV .not (.bool b60_9)) ⟨fun b61_10 =>
  @BIfH b61_10
  ⟨Q (.exit 5) [(1, v1), (2, v2), (6, v6), (7, v7), (8, v8), (9, v9), (10, v10), (61, (.bool b61_10))] M9⟩
  ⟨Q .normal [(1, v1), (2, v2), (6, v6), (7, v7), (8, v8), (9, v9), (10, v10), (61, (.bool b61_10))] M9⟩⟩⟩⟩⟩⟩⟩⟩
theorem e44_21 (P : Program) (Q : Exit → Slots → Mem → Prop) (s : Slots) (M : Mem) : wpC P c44_21 Q s M = w44_21 P Q M (sget s 1) (sget s 2) (sget s 6) (sget s 7) (sget s 8) (sget s 9) (sget s 10) := by kernel_rfl
def o44_22 : List AOper := [⟨some 62, (.mov (.tmp 10)), false, none⟩,
  ⟨some 63, (.mov (.tmp 8)), false, none⟩,
  ⟨some 64, (.mov (.tmp 9)), false, none⟩,
  ⟨some 65, (.load 4 true (.tmp 2)), false, none⟩,
  ⟨some 66, (.fieldAddr 0 (.tmp 2)), false, none⟩,
  ⟨some 67, (.load 1 false (.tmp 66)), false, none⟩,
  ⟨some 68, (.mov (.tmp 10)), false, none⟩,
  ⟨some 69, (.indexSl 6 (.tmp 67) (.tmp 68)), false, none⟩,
  ⟨some 70, (.load 6 true (.tmp 69)), false, none⟩,
  ⟨some 71, (.mov (.tmp 1)), false, none⟩,
  ⟨some 72, (.mov (.tmp 8)), false, none⟩,
  ⟨some 73, (.call i_transitref35_Ticket [(.tmp 65), (.tmp 70), (.tmp 71), (.tmp 72)]), false, none⟩,
  ⟨some 74, (.build [(.int .i64 0), (.int .i64 0), (.int .i64 0), (.int .i64 0)] [(0, (1, (.tmp 62))), (1, (1, (.tmp 63))), (2, (1, (.tmp 64))), (3, (1, (.tmp 73)))]), false, none⟩,
  ⟨some 75, (.buildSlice [(.int .i64 0), (.int .i64 0), (.int .i64 0), (.int .i64 0)] 4 1 [(0, (4, (.tmp 74)))]), false, none⟩,
  ⟨some 11, (.mov (.tmp 75)), false, none⟩]
def c44_23 : ACode := (.mixed o44_22 [true, true, true, true, true, true, true, true, true, true, true, true, true, true, true] [1, 2, 6, 7, 8, 9, 10, 11])
def w44_23 (P : Program) (Q : Exit → Slots → Mem → Prop) (M : Mem) (v1 : V) (v2 : V) (v6 : V) (v7 : V) (v8 : V) (v9 : V) (v10 : V) : Prop :=
  @OptVH (loadV 4 true v2 M) ⟨fun t65_4 =>
  @OptVH (moveV 0 v2) ⟨fun t66_5 =>
  @OptVH (loadV 1 false t66_5 M) ⟨fun t67_6 =>
  @OptVH (indexSlV 6 t67_6 v10 M) ⟨fun t69_8 =>
  @OptVH (loadV 6 true t69_8 M) ⟨fun t70_9 =>
  @CallQ P i_transitref35_Ticket [t65_4, t70_9, v1, v8] M ⟨fun t73_12 M12 =>
  @OptVH (buildV [(.int .i64 0), (.int .i64 0), (.int .i64 0), (.int .i64 0)] [(0, 1, v10), (1, 1, v8), (2, 1, v9), (3, 1, t73_12)]) ⟨fun t74_13 =>
  @OptVH (buildSliceV [(.int .i64 0), (.int .i64 0), (.int .i64 0), (.int .i64 0)] 4 1 [(0, 4, t74_13)]) ⟨fun t75_14 =>
  Q .normal [(1, v1), (2, v2), (6, v6), (7, v7), (8, v8), (9, v9), (10, v10), (11, t75_14)] M12⟩⟩⟩⟩⟩⟩⟩⟩
theorem e44_23 (P : Program) (Q : Exit → Slots → Mem → Prop) (s : Slots) (M : Mem) : wpC P c44_23 Q s M = w44_23 P Q M (sget s 1) (sget s 2) (sget s 6) (sget s 7) (sget s 8) (sget s 9) (sget s 10) := by kernel_rfl
def o44_24 : List AOper := [⟨some 76, (.mov (.tmp 11)), false, none⟩,
  ⟨some 77, (.mov (.tmp 6)), false, none⟩,
  ⟨some 78, (.mov (.tmp 9)), false, none⟩,
  ⟨some 79, (.bin .add .none (.tmp 78) (.const (.int .i64 1))), false, none⟩,
  ⟨some 80, (.indexSl 1 (.tmp 77) (.tmp 79)), false, none⟩,
  ⟨some 81, (.load 1 false (.tmp 80)), false, none⟩,
  ⟨some 82, (.append true 4 32 (.tmp 76) (.tmp 81)), false, none⟩,
  ⟨some 11, (.mov (.tmp 82)), false, none⟩]
def c44_25 : ACode := (.region o44_24 [1, 2, 6, 7, 8, 9, 10, 11])
def w44_25 (_P : Program) (Q : Exit → Slots → Mem → Prop) (M : Mem) (v1 : V) (v2 : V) (v6 : V) (v7 : V) (v8 : V) (v9 : V) (v10 : V) (v11 : V) : Prop :=
  @OptVH (binV .add .none v9 (.int .i64 1)) ⟨fun t79_4 =>
  @OptVH (indexSlV 1 v6 t79_4 M) ⟨fun t80_5 =>
  @OptVH (loadV 1 false t80_5 M) ⟨fun t81_6 =>
  @OptMH (appV true 4 32 v11 t81_6 M) ⟨fun t82_7 M7 =>
  Q .normal [(1, v1), (2, v2), (6, v6), (7, v7), (8, v8), (9, v9), (10, v10), (11, t82_7)] M7⟩⟩⟩⟩
theorem e44_25 (P : Program) (Q : Exit → Slots → Mem → Prop) (s : Slots) (M : Mem) : wpC P c44_25 Q s M = w44_25 P Q M (sget s 1) (sget s 2) (sget s 6) (sget s 7) (sget s 8) (sget s 9) (sget s 10) (sget s 11) := by kernel_rfl
def o44_26 : List AOper := [⟨some 96, (.mov (.tmp 6)), false, none⟩,
  ⟨some 97, (.mov (.tmp 8)), false, none⟩,
  ⟨some 98, (.mov (.tmp 7)), false, none⟩,
  ⟨some 99, (.mov (.tmp 8)), false, none⟩,
  ⟨some 100, (.mov (.tmp 11)), false, none⟩,
  ⟨some 101, (.indexSl 1 (.tmp 96) (.tmp 97)), false, none⟩,
  ⟨none, (.store 1 (.tmp 101) (.tmp 100)), false, none⟩,
  ⟨some 102, (.indexSl 1 (.tmp 98) (.tmp 99)), false, none⟩,
  ⟨none, (.store 1 (.tmp 102) (.const (.bool true))), false, none⟩]
def c44_27 : ACode := (.region o44_26 [1, 2, 6, 7, 8, 9, 10])
def w44_27 (_P : Program) (Q : Exit → Slots → Mem → Prop) (M : Mem) (v1 : V) (v2 : V) (v6 : V) (v7 : V) (v8 : V) (v9 : V) (v10 : V) (v11 : V) : Prop :=
  @OptVH (indexSlV 1 v6 v8 M) ⟨fun t101_6 =>
  @OptMH (storeVM 1 t101_6 v11 M) ⟨fun _tx_7 M7 =>
  @OptVH (indexSlV 1 v7 v8 M7) ⟨fun t102_8 =>
  @OptMH (storeVM 1 t102_8 (.bool true) M7) ⟨fun _tx_9 M9 =>
  Q .normal [(1, v1), (2, v2), (6, v6), (7, v7), (8, v8), (9, v9), (10, v10)] M9⟩⟩⟩⟩
theorem e44_27 (P : Program) (Q : Exit → Slots → Mem → Prop) (s : Slots) (M : Mem) : wpC P c44_27 Q s M = w44_27 P Q M (sget s 1) (sget s 2) (sget s 6) (sget s 7) (sget s 8) (sget s 9) (sget s 10) (sget s 11) := by kernel_rfl
def o44_28 : List AOper := [⟨some 83, (.mov (.tmp 7)), false, none⟩,
  ⟨some 84, (.mov (.tmp 8)), false, none⟩,
  ⟨some 85, (.indexSl 1 (.tmp 83) (.tmp 84)), false, none⟩,
  ⟨some 86, (.load 1 false (.tmp 85)), true, none⟩,
  ⟨some 87, (.un .not (.tmp 86)), true, none⟩,
  ⟨some 88, (.mov (.tmp 87)), true, none⟩,
  ⟨some 89, (.mov (.tmp 11)), false, some (88, false)⟩,
  ⟨some 90, (.mov (.tmp 6)), false, some (88, false)⟩,
  ⟨some 91, (.mov (.tmp 8)), false, some (88, false)⟩,
  ⟨some 92, (.indexSl 1 (.tmp 90) (.tmp 91)), false, some (88, false)⟩,
  ⟨some 93, (.load 1 false (.tmp 92)), false, some (88, false)⟩,
  ⟨some 94, (.call i_transitref35_better [(.tmp 89), (.tmp 93)]), true, some (88, false)⟩,
  ⟨some 95, (.pick (.tmp 88) (.const (.bool true)) (.tmp 94)), true, none⟩]
def c44_29 : ACode := (.seq (.region o44_28 [1, 2, 6, 7, 8, 9, 10, 11, 95]) (.cond (.tmp 95) c44_27 .skip))
def w44_29 (P : Program) (Q : Exit → Slots → Mem → Prop) (M : Mem) (v1 : V) (v2 : V) (v6 : V) (v7 : V) (v8 : V) (v9 : V) (v10 : V) (v11 : V) : Prop :=
  @OptVH (indexSlV 1 v7 v8 M) ⟨fun t85_3 =>
  @OptBH (loadV 1 false t85_3 M) ⟨fun b86_4 =>
  @OptBH (unV .not (.bool b86_4)) ⟨fun b87_5 =>
  @BIfH b87_5
  ⟨wpC P c44_27 Q [(1, v1), (2, v2), (6, v6), (7, v7), (8, v8), (9, v9), (10, v10), (11, v11), (95, (.bool true))] M⟩
  ⟨@OptVH (indexSlV 1 v6 v8 M) ⟨fun t92_11 =>
  @OptVH (loadV 1 false t92_11 M) ⟨fun t93_12 =>
  @CallH P i_transitref35_better [v11, t93_12] M ⟨fun t94_13 M13 => @OptBH (some t94_13) ⟨fun b94_13 =>
  @BIfH b94_13
  ⟨wpC P c44_27 Q [(1, v1), (2, v2), (6, v6), (7, v7), (8, v8), (9, v9), (10, v10), (11, v11), (95, (.bool b94_13))] M13⟩
  ⟨Q .normal [(1, v1), (2, v2), (6, v6), (7, v7), (8, v8), (9, v9), (10, v10), (11, v11), (95, (.bool b94_13))] M13⟩⟩⟩⟩⟩⟩⟩⟩⟩
theorem e44_29 (P : Program) (Q : Exit → Slots → Mem → Prop) (s : Slots) (M : Mem) : wpC P c44_29 Q s M = w44_29 P Q M (sget s 1) (sget s 2) (sget s 6) (sget s 7) (sget s 8) (sget s 9) (sget s 10) (sget s 11) := by kernel_rfl
def c44_30 : ACode := (.seq c44_25 c44_29)
def c44_31 : ACode := (.seq c44_23 c44_30)
def c44_32 : ACode := (.seq c44_21 c44_31)
def c44_33 : ACode := (.block 5 c44_32)
def o44_34 : List AOper := [⟨some 50, (.mov (.tmp 10)), false, none⟩,
  ⟨some 51, (.bin .add .none (.tmp 50) (.const (.int .i64 1))), false, none⟩,
  ⟨some 10, (.mov (.tmp 51)), false, none⟩]
def c44_35 : ACode := (.region o44_34 [1, 2, 6, 7, 8, 9, 10])
def w44_35 (_P : Program) (Q : Exit → Slots → Mem → Prop) (M : Mem) (v1 : V) (v2 : V) (v6 : V) (v7 : V) (v8 : V) (v9 : V) (v10 : V) : Prop :=
  @OptVH (binV .add .none v10 (.int .i64 1)) ⟨fun t51_2 =>
  Q .normal [(1, v1), (2, v2), (6, v6), (7, v7), (8, v8), (9, v9), (10, t51_2)] M⟩
theorem e44_35 (P : Program) (Q : Exit → Slots → Mem → Prop) (s : Slots) (M : Mem) : wpC P c44_35 Q s M = w44_35 P Q M (sget s 1) (sget s 2) (sget s 6) (sget s 7) (sget s 8) (sget s 9) (sget s 10) := by kernel_rfl
def c44_36 : ACode := (.seq c44_33 c44_35)
def c44_37 : ACode := (.seq c44_19 c44_36)
def c44_38 : ACode := (.loop [1, 2, 6, 7, 8, 9, 10] c44_37)
def c44_39 : ACode := (.block 4 c44_38)
def c44_40 : ACode := (.seq c44_17 c44_39)
def c44_41 : ACode := (.block 3 c44_40)
def o44_42 : List AOper := [⟨some 36, (.mov (.tmp 9)), false, none⟩,
  ⟨some 37, (.bin .add .none (.tmp 36) (.const (.int .i64 1))), false, none⟩,
  ⟨some 9, (.mov (.tmp 37)), false, none⟩]
def c44_43 : ACode := (.region o44_42 [1, 2, 6, 7, 8, 9])
def w44_43 (_P : Program) (Q : Exit → Slots → Mem → Prop) (M : Mem) (v1 : V) (v2 : V) (v6 : V) (v7 : V) (v8 : V) (v9 : V) : Prop :=
  @OptVH (binV .add .none v9 (.int .i64 1)) ⟨fun t37_2 =>
  Q .normal [(1, v1), (2, v2), (6, v6), (7, v7), (8, v8), (9, t37_2)] M⟩
theorem e44_43 (P : Program) (Q : Exit → Slots → Mem → Prop) (s : Slots) (M : Mem) : wpC P c44_43 Q s M = w44_43 P Q M (sget s 1) (sget s 2) (sget s 6) (sget s 7) (sget s 8) (sget s 9) := by kernel_rfl
def c44_44 : ACode := (.seq c44_41 c44_43)
def c44_45 : ACode := (.seq c44_15 c44_44)
def c44_46 : ACode := (.loop [1, 2, 6, 7, 8, 9] c44_45)
def c44_47 : ACode := (.block 2 c44_46)
def c44_48 : ACode := (.seq c44_13 c44_47)
def c44_49 : ACode := (.block 1 c44_48)
def o44_50 : List AOper := [⟨some 29, (.mov (.tmp 8)), false, none⟩,
  ⟨some 30, (.bin .sub .none (.tmp 29) (.const (.int .i64 1))), false, none⟩,
  ⟨some 8, (.mov (.tmp 30)), false, none⟩]
def c44_51 : ACode := (.region o44_50 [1, 2, 6, 7, 8])
def w44_51 (_P : Program) (Q : Exit → Slots → Mem → Prop) (M : Mem) (v1 : V) (v2 : V) (v6 : V) (v7 : V) (v8 : V) : Prop :=
  @OptVH (binV .sub .none v8 (.int .i64 1)) ⟨fun t30_2 =>
  Q .normal [(1, v1), (2, v2), (6, v6), (7, v7), (8, t30_2)] M⟩
theorem e44_51 (P : Program) (Q : Exit → Slots → Mem → Prop) (s : Slots) (M : Mem) : wpC P c44_51 Q s M = w44_51 P Q M (sget s 1) (sget s 2) (sget s 6) (sget s 7) (sget s 8) := by kernel_rfl
def c44_52 : ACode := (.seq c44_49 c44_51)
def c44_53 : ACode := (.seq c44_11 c44_52)
def c44_54 : ACode := (.loop [1, 2, 6, 7, 8] c44_53)
def c44_55 : ACode := (.block 0 c44_54)
def c44_56 : ACode := (.seq c44_9 c44_55)
def o44_57 : List AOper := [⟨some 103, (.mov (.tmp 6)), false, none⟩,
  ⟨some 104, (.indexSl 1 (.tmp 103) (.const (.int .i64 0))), false, none⟩,
  ⟨some 105, (.load 1 false (.tmp 104)), false, none⟩,
  ⟨some 106, (.mov (.tmp 7)), false, none⟩,
  ⟨some 107, (.indexSl 1 (.tmp 106) (.const (.int .i64 0))), false, none⟩,
  ⟨some 108, (.load 1 false (.tmp 107)), true, none⟩,
  ⟨some 4, (.mov (.tmp 105)), false, none⟩,
  ⟨some 5, (.mov (.tmp 108)), true, none⟩]
def c44_58 : ACode := (.mixed o44_57 [true, true, true, true, true, true, true, true] [4, 5])
def w44_58 (_P : Program) (Q : Exit → Slots → Mem → Prop) (M : Mem) (v6 : V) (v7 : V) : Prop :=
  @OptVH (indexSlV 1 v6 (.int .i64 0) M) ⟨fun t104_2 =>
  @OptVH (loadV 1 false t104_2 M) ⟨fun t105_3 =>
  @OptVH (indexSlV 1 v7 (.int .i64 0) M) ⟨fun t107_5 =>
  @OptBH (loadV 1 false t107_5 M) ⟨fun b108_6 =>
  Q .normal [(4, t105_3), (5, (.bool b108_6))] M⟩⟩⟩⟩
theorem e44_58 (P : Program) (Q : Exit → Slots → Mem → Prop) (s : Slots) (M : Mem) : wpC P c44_58 Q s M = w44_58 P Q M (sget s 6) (sget s 7) := by kernel_rfl
def c44_59 : ACode := (.seq c44_58 .ret)
def c44_60 : ACode := (.seq c44_56 c44_59)
def c44_61 : ACode := (.seq c44_7 c44_60)
def c44_62 : ACode := (.seq c44_5 c44_61)
def c44_63 : ACode := (.seq c44_3 c44_62)
def c44_64 : ACode := (.seq c44_1 c44_63)
def fn_transitref35_Best : AFn := ⟨109, [(.tmp 4), (.tmp 5)], c44_64⟩
theorem fn_transitref35_Best_ok : resFn PR h_transitref35_Best i_transitref35_Best = some fn_transitref35_Best := by kernel_rfl

def h_transitref35_Capped : Hints := ⟨[(0, [1, 2]), (1, [1, 2, 7]), (2, [4]), (3, [4])], [], []⟩
def o45_0 : List AOper := [⟨some 2, (.box 4 (.tmp 0)), false, none⟩,
  ⟨some 4, (.mov (.const (.int .i64 0))), false, none⟩]
def c45_1 : ACode := (.region o45_0 [1, 2])
def w45_1 (_P : Program) (Q : Exit → Slots → Mem → Prop) (M : Mem) (v0 : V) (v1 : V) : Prop :=
  @OptMH (boxV 4 v0 M) ⟨fun t2_1 M1 =>
  Q .normal [(1, v1), (2, t2_1)] M1⟩
theorem e45_1 (P : Program) (Q : Exit → Slots → Mem → Prop) (s : Slots) (M : Mem) : wpC P c45_1 Q s M = w45_1 P Q M (sget s 0) (sget s 1) := by kernel_rfl
def o45_2 : List AOper := [⟨some 8, (.fieldAddr 3 (.tmp 2)), false, none⟩,
  ⟨some 9, (.load 1 false (.tmp 8)), false, none⟩,
  ⟨some 10, (.mov (.tmp 1)), false, none⟩,
  ⟨some 11, (.minmax false (.tmp 9) (.tmp 10)), false, none⟩,
  ⟨some 4, (.mov (.tmp 11)), false, none⟩]
def c45_3 : ACode := (.region o45_2 [4])
def w45_3 (_P : Program) (Q : Exit → Slots → Mem → Prop) (M : Mem) (v1 : V) (v2 : V) : Prop :=
  @OptVH (moveV 3 v2) ⟨fun t8_1 =>
  @OptVH (loadV 1 false t8_1 M) ⟨fun t9_2 =>
  @OptVH (minmaxV false t9_2 v1) ⟨fun t11_4 =>
  Q .normal [(4, t11_4)] M⟩⟩⟩
theorem e45_3 (P : Program) (Q : Exit → Slots → Mem → Prop) (s : Slots) (M : Mem) : wpC P c45_3 Q s M = w45_3 P Q M (sget s 1) (sget s 2) := by kernel_rfl
def c45_4 : ACode := (.seq c45_3 .ret)
def o45_5 : List AOper := [⟨some 5, (.fieldAddr 3 (.tmp 2)), false, none⟩,
  ⟨some 6, (.load 1 false (.tmp 5)), false, none⟩,
  ⟨some 7, (.bin .neq .none (.tmp 6) (.const (.int .i64 0))), true, none⟩]
def c45_6 : ACode := (.seq (.region o45_5 [1, 2, 7]) (.cond (.tmp 7) c45_4 .skip))
def w45_6 (P : Program) (Q : Exit → Slots → Mem → Prop) (M : Mem) (v1 : V) (v2 : V) : Prop :=
  @OptVH (moveV 3 v2) ⟨fun t5_1 =>
  @OptVH (loadV 1 false t5_1 M) ⟨fun t6_2 =>
  @OptBH (binV .neq .none t6_2 (.int .i64 0)) ⟨fun b7_3 =>
  @BIfH b7_3
  ⟨wpC P c45_4 Q [(1, v1), (2, v2), (7, (.bool b7_3))] M⟩
  ⟨Q .normal [(1, v1), (2, v2), (7, (.bool b7_3))] M⟩⟩⟩⟩
theorem e45_6 (P : Program) (Q : Exit → Slots → Mem → Prop) (s : Slots) (M : Mem) : wpC P c45_6 Q s M = w45_6 P Q M (sget s 1) (sget s 2) := by kernel_rfl
def o45_7 : List AOper := [⟨some 12, (.mov (.tmp 1)), false, none⟩,
  ⟨some 4, (.mov (.tmp 12)), false, none⟩]
def c45_8 : ACode := (.region o45_7 [4])
def w45_8 (_P : Program) (Q : Exit → Slots → Mem → Prop) (M : Mem) (v1 : V) : Prop :=
  Q .normal [(4, v1)] M
theorem e45_8 (P : Program) (Q : Exit → Slots → Mem → Prop) (s : Slots) (M : Mem) : wpC P c45_8 Q s M = w45_8 P Q M (sget s 1) := by kernel_rfl
def c45_9 : ACode := (.seq c45_8 .ret)
def c45_10 : ACode := (.seq c45_6 c45_9)
def c45_11 : ACode := (.seq c45_1 c45_10)
def fn_transitref35_Capped : AFn := ⟨13, [(.tmp 4)], c45_11⟩
theorem fn_transitref35_Capped_ok : resFn PR h_transitref35_Capped i_transitref35_Capped = some fn_transitref35_Capped := by kernel_rfl

def h_transitref35_Sum : Hints := ⟨[(0, [0]), (1, [0, 3]), (2, [0, 3, 4]), (3, [0, 3, 4, 8]), (4, [0, 3, 4]), (5, [0, 3, 4]), (6, [2])], [(3, [0, 3, 4])], []⟩
def o46_0 : List AOper := [⟨some 2, (.mov (.const (.int .i64 0))), false, none⟩]
def c46_1 : ACode := (.region o46_0 [0])
def w46_1 (_P : Program) (Q : Exit → Slots → Mem → Prop) (M : Mem) (v0 : V) : Prop :=
  Q .normal [(0, v0)] M
theorem e46_1 (P : Program) (Q : Exit → Slots → Mem → Prop) (s : Slots) (M : Mem) : wpC P c46_1 Q s M = w46_1 P Q M (sget s 0) := by kernel_rfl
def o46_2 : List AOper := [⟨some 3, (.mov (.const (.int .i64 0))), false, none⟩]
def c46_3 : ACode := (.region o46_2 [0, 3])
def w46_3 (_P : Program) (Q : Exit → Slots → Mem → Prop) (M : Mem) (v0 : V) : Prop :=
  Q .normal [(0, v0), (3, (.int .i64 0))] M
theorem e46_3 (P : Program) (Q : Exit → Slots → Mem → Prop) (s : Slots) (M : Mem) : wpC P c46_3 Q s M = w46_3 P Q M (sget s 0) := by kernel_rfl
def o46_4 : List AOper := [⟨some 4, (.mov (.const (.int .i64 0))), false, none⟩]
def c46_5 : ACode := (.region o46_4 [0, 3, 4])
def w46_5 (_P : Program) (Q : Exit → Slots → Mem → Prop) (M : Mem) (v0 : V) (v3 : V) : Prop :=
  Q .normal [(0, v0), (3, v3), (4, (.int .i64 0))] M
theorem e46_5 (P : Program) (Q : Exit → Slots → Mem → Prop) (s : Slots) (M : Mem) : wpC P c46_5 Q s M = w46_5 P Q M (sget s 0) (sget s 3) := by kernel_rfl
def o46_6 : List AOper := [⟨some 5, (.mov (.tmp 4)), false, none⟩,
  ⟨some 6, (.mov (.tmp 0)), false, none⟩,
  ⟨some 7, (.lenSl (.tmp 6)), false, none⟩,
  ⟨some 8, (.bin .lss .none (.tmp 5) (.tmp 7)), true, none⟩]
def c46_7 : ACode := (.seq (.region o46_6 [0, 3, 4, 8]) (.cond (.tmp 8) .skip (.exit 0)))
def w46_7 (_P : Program) (Q : Exit → Slots → Mem → Prop) (M : Mem) (v0 : V) (v3 : V) (v4 : V) : Prop :=
  @OptVH (lenV v0 M) ⟨fun t7_3 =>
  @OptBH (binV .lss .none v4 t7_3) ⟨fun b8_4 =>
  @BIfH b8_4
  ⟨Q .normal [(0, v0), (3, v3), (4, v4), (8, (.bool b8_4))] M⟩
  ⟨Q (.exit 0) [(0, v0), (3, v3), (4, v4), (8, (.bool b8_4))] M⟩⟩⟩
theorem e46_7 (P : Program) (Q : Exit → Slots → Mem → Prop) (s : Slots) (M : Mem) : wpC P c46_7 Q s M = w46_7 P Q M (sget s 0) (sget s 3) (sget s 4) := by kernel_rfl
def o46_8 : List AOper := [⟨some 11, (.mov (.tmp 3)), false, none⟩,
  ⟨some 12, (.mov (.tmp 0)), false, none⟩,
  ⟨some 13, (.mov (.tmp 4)), false, none⟩,
  ⟨some 14, (.indexSl 4 (.tmp 12) (.tmp 13)), false, none⟩,
  ⟨some 15, (.fieldAddr 3 (.tmp 14)), false, none⟩,
  ⟨some 16, (.load 1 false (.tmp 15)), false, none⟩,
  ⟨some 17, (.bin .add .none (.tmp 11) (.tmp 16)), false, none⟩,
  ⟨some 3, (.mov (.tmp 17)), false, none⟩]
def c46_9 : ACode := (.region o46_8 [0, 3, 4])
def w46_9 (_P : Program) (Q : Exit → Slots → Mem → Prop) (M : Mem) (v0 : V) (v3 : V) (v4 : V) : Prop :=
  @OptVH (indexSlV 4 v0 v4 M) ⟨fun t14_4 =>
  @OptVH (moveV 3 t14_4) ⟨fun t15_5 =>
  @OptVH (loadV 1 false t15_5 M) ⟨fun t16_6 =>
  @OptVH (binV .add .none v3 t16_6) ⟨fun t17_7 =>
  Q .normal [(0, v0), (3, t17_7), (4, v4)] M⟩⟩⟩⟩
theorem e46_9 (P : Program) (Q : Exit → Slots → Mem → Prop) (s : Slots) (M : Mem) : wpC P c46_9 Q s M = w46_9 P Q M (sget s 0) (sget s 3) (sget s 4) := by kernel_rfl
def c46_10 : ACode := (.block 1 c46_9)
def o46_11 : List AOper := [⟨some 9, (.mov (.tmp 4)), false, none⟩,
  ⟨some 10, (.bin .add .none (.tmp 9) (.const (.int .i64 1))), false, none⟩,
  ⟨some 4, (.mov (.tmp 10)), false, none⟩]
def c46_12 : ACode := (.region o46_11 [0, 3, 4])
def w46_12 (_P : Program) (Q : Exit → Slots → Mem → Prop) (M : Mem) (v0 : V) (v3 : V) (v4 : V) : Prop :=
  @OptVH (binV .add .none v4 (.int .i64 1)) ⟨fun t10_2 =>
  Q .normal [(0, v0), (3, v3), (4, t10_2)] M⟩
theorem e46_12 (P : Program) (Q : Exit → Slots → Mem → Prop) (s : Slots) (M : Mem) : wpC P c46_12 Q s M = w46_12 P Q M (sget s 0) (sget s 3) (sget s 4) := by kernel_rfl
def c46_13 : ACode := (.seq c46_10 c46_12)
def c46_14 : ACode := (.seq c46_7 c46_13)
def c46_15 : ACode := (.loop [0, 3, 4] c46_14)
def c46_16 : ACode := (.block 0 c46_15)
def c46_17 : ACode := (.seq c46_5 c46_16)
def o46_18 : List AOper := [⟨some 18, (.mov (.tmp 3)), false, none⟩,
  ⟨some 2, (.mov (.tmp 18)), false, none⟩]
def c46_19 : ACode := (.region o46_18 [2])
def w46_19 (_P : Program) (Q : Exit → Slots → Mem → Prop) (M : Mem) (v3 : V) : Prop :=
  Q .normal [(2, v3)] M
theorem e46_19 (P : Program) (Q : Exit → Slots → Mem → Prop) (s : Slots) (M : Mem) : wpC P c46_19 Q s M = w46_19 P Q M (sget s 3) := by kernel_rfl
def c46_20 : ACode := (.seq c46_19 .ret)
def c46_21 : ACode := (.seq c46_17 c46_20)
def c46_22 : ACode := (.seq c46_3 c46_21)
def c46_23 : ACode := (.seq c46_1 c46_22)
def fn_transitref35_Sum : AFn := ⟨19, [(.tmp 2)], c46_23⟩
theorem fn_transitref35_Sum_ok : resFn PR h_transitref35_Sum i_transitref35_Sum = some fn_transitref35_Sum := by kernel_rfl

def h_math_bits_OnesCount64 : Hints := ⟨[(0, [0]), (1, [0]), (2, [0]), (3, [0]), (4, [0]), (5, [0]), (6, [0]), (7, [2])], [], []⟩
def o47_0 : List AOper := [⟨some 2, (.mov (.const (.int .i64 0))), false, none⟩]
def c47_1 : ACode := (.region o47_0 [0])
def w47_1 (_P : Program) (Q : Exit → Slots → Mem → Prop) (M : Mem) (v0 : V) : Prop :=
  Q .normal [(0, v0)] M
theorem e47_1 (P : Program) (Q : Exit → Slots → Mem → Prop) (s : Slots) (M : Mem) : wpC P c47_1 Q s M = w47_1 P Q M (sget s 0) := by kernel_rfl
def o47_2 : List AOper := [⟨some 3, (.mov (.tmp 0)), false, none⟩,
  ⟨some 4, (.bin .shr .none (.tmp 3) (.const (.int .u64 1))), false, none⟩,
  ⟨some 5, (.bin .and .none (.tmp 4) (.const (.int .u64 6148914691236517205))), false, none⟩,
  ⟨some 6, (.mov (.tmp 0)), false, none⟩,
  ⟨some 7, (.bin .and .none (.tmp 6) (.const (.int .u64 6148914691236517205))), false, none⟩,
  ⟨some 8, (.bin .add .none (.tmp 5) (.tmp 7)), false, none⟩,
  ⟨some 0, (.mov (.tmp 8)), false, none⟩]
def c47_3 : ACode := (.region o47_2 [0])
def w47_3 (_P : Program) (Q : Exit → Slots → Mem → Prop) (M : Mem) (v0 : V) : Prop :=
  @OptVH (binV .shr .none v0 (.int .u64 1)) ⟨fun t4_2 =>
  @OptVH (binV .and .none t4_2 (.int .u64 6148914691236517205)) ⟨fun t5_3 =>
  @OptVH (binV .and .none v0 (.int .u64 6148914691236517205)) ⟨fun t7_5 =>
  @OptVH (binV .add .none t5_3 t7_5) ⟨fun t8_6 =>
  Q .normal [(0, t8_6)] M⟩⟩⟩⟩
theorem e47_3 (P : Program) (Q : Exit → Slots → Mem → Prop) (s : Slots) (M : Mem) : wpC P c47_3 Q s M = w47_3 P Q M (sget s 0) := by kernel_rfl
def o47_4 : List AOper := [⟨some 9, (.mov (.tmp 0)), false, none⟩,
  ⟨some 10, (.bin .shr .none (.tmp 9) (.const (.int .u64 2))), false, none⟩,
  ⟨some 11, (.bin .and .none (.tmp 10) (.const (.int .u64 3689348814741910323))), false, none⟩,
  ⟨some 12, (.mov (.tmp 0)), false, none⟩,
  ⟨some 13, (.bin .and .none (.tmp 12) (.const (.int .u64 3689348814741910323))), false, none⟩,
  ⟨some 14, (.bin .add .none (.tmp 11) (.tmp 13)), false, none⟩,
  ⟨some 0, (.mov (.tmp 14)), false, none⟩]
def c47_5 : ACode := (.region o47_4 [0])
def w47_5 (_P : Program) (Q : Exit → Slots → Mem → Prop) (M : Mem) (v0 : V) : Prop :=
  @OptVH (binV .shr .none v0 (.int .u64 2)) ⟨fun t10_2 =>
  @OptVH (binV .and .none t10_2 (.int .u64 3689348814741910323)) ⟨fun t11_3 =>
  @OptVH (binV .and .none v0 (.int .u64 3689348814741910323)) ⟨fun t13_5 =>
  @OptVH (binV .add .none t11_3 t13_5) ⟨fun t14_6 =>
  Q .normal [(0, t14_6)] M⟩⟩⟩⟩
theorem e47_5 (P : Program) (Q : Exit → Slots → Mem → Prop) (s : Slots) (M : Mem) : wpC P c47_5 Q s M = w47_5 P Q M (sget s 0) := by kernel_rfl
def o47_6 : List AOper := [⟨some 15, (.mov (.tmp 0)), false, none⟩,
  ⟨some 16, (.bin .shr .none (.tmp 15) (.const (.int .u64 4))), false, none⟩,
  ⟨some 17, (.mov (.tmp 0)), false, none⟩,
  ⟨some 18, (.bin .add .none (.tmp 16) (.tmp 17)), false, none⟩,
  ⟨some 19, (.bin .and .none (.tmp 18) (.const (.int .u64 1085102592571150095))), false, none⟩,
  ⟨some 0, (.mov (.tmp 19)), false, none⟩]
def c47_7 : ACode := (.region o47_6 [0])
def w47_7 (_P : Program) (Q : Exit → Slots → Mem → Prop) (M : Mem) (v0 : V) : Prop :=
  @OptVH (binV .shr .none v0 (.int .u64 4)) ⟨fun t16_2 =>
  @OptVH (binV .add .none t16_2 v0) ⟨fun t18_4 =>
  @OptVH (binV .and .none t18_4 (.int .u64 1085102592571150095)) ⟨fun t19_5 =>
  Q .normal [(0, t19_5)] M⟩⟩⟩
theorem e47_7 (P : Program) (Q : Exit → Slots → Mem → Prop) (s : Slots) (M : Mem) : wpC P c47_7 Q s M = w47_7 P Q M (sget s 0) := by kernel_rfl
def o47_8 : List AOper := [⟨some 20, (.mov (.tmp 0)), false, none⟩,
  ⟨some 21, (.mov (.tmp 0)), false, none⟩,
  ⟨some 22, (.bin .shr .none (.tmp 21) (.const (.int .u64 8))), false, none⟩,
  ⟨some 23, (.bin .add .none (.tmp 20) (.tmp 22)), false, none⟩,
  ⟨some 0, (.mov (.tmp 23)), false, none⟩]
def c47_9 : ACode := (.region o47_8 [0])
def w47_9 (_P : Program) (Q : Exit → Slots → Mem → Prop) (M : Mem) (v0 : V) : Prop :=
  @OptVH (binV .shr .none v0 (.int .u64 8)) ⟨fun t22_3 =>
  @OptVH (binV .add .none v0 t22_3) ⟨fun t23_4 =>
  Q .normal [(0, t23_4)] M⟩⟩
theorem e47_9 (P : Program) (Q : Exit → Slots → Mem → Prop) (s : Slots) (M : Mem) : wpC P c47_9 Q s M = w47_9 P Q M (sget s 0) := by kernel_rfl
def o47_10 : List AOper := [⟨some 24, (.mov (.tmp 0)), false, none⟩,
  ⟨some 25, (.mov (.tmp 0)), false, none⟩,
  ⟨some 26, (.bin .shr .none (.tmp 25) (.const (.int .u64 16))), false, none⟩,
  ⟨some 27, (.bin .add .none (.tmp 24) (.tmp 26)), false, none⟩,
  ⟨some 0, (.mov (.tmp 27)), false, none⟩]
def c47_11 : ACode := (.region o47_10 [0])
def w47_11 (_P : Program) (Q : Exit → Slots → Mem → Prop) (M : Mem) (v0 : V) : Prop :=
  @OptVH (binV .shr .none v0 (.int .u64 16)) ⟨fun t26_3 =>
  @OptVH (binV .add .none v0 t26_3) ⟨fun t27_4 =>
  Q .normal [(0, t27_4)] M⟩⟩
theorem e47_11 (P : Program) (Q : Exit → Slots → Mem → Prop) (s : Slots) (M : Mem) : wpC P c47_11 Q s M = w47_11 P Q M (sget s 0) := by kernel_rfl
def o47_12 : List AOper := [⟨some 28, (.mov (.tmp 0)), false, none⟩,
  ⟨some 29, (.mov (.tmp 0)), false, none⟩,
  ⟨some 30, (.bin .shr .none (.tmp 29) (.const (.int .u64 32))), false, none⟩,
  ⟨some 31, (.bin .add .none (.tmp 28) (.tmp 30)), false, none⟩,
  ⟨some 0, (.mov (.tmp 31)), false, none⟩]
def c47_13 : ACode := (.region o47_12 [0])
def w47_13 (_P : Program) (Q : Exit → Slots → Mem → Prop) (M : Mem) (v0 : V) : Prop :=
  @OptVH (binV .shr .none v0 (.int .u64 32)) ⟨fun t30_3 =>
  @OptVH (binV .add .none v0 t30_3) ⟨fun t31_4 =>
  Q .normal [(0, t31_4)] M⟩⟩
theorem e47_13 (P : Program) (Q : Exit → Slots → Mem → Prop) (s : Slots) (M : Mem) : wpC P c47_13 Q s M = w47_13 P Q M (sget s 0) := by kernel_rfl
def o47_14 : List AOper := [⟨some 32, (.mov (.tmp 0)), false, none⟩,
  ⟨some 33, (.conv .i64 (.tmp 32)), false, none⟩,
  ⟨some 34, (.bin .and .none (.tmp 33) (.const (.int .i64 127))), false, none⟩,
  ⟨some 2, (.mov (.tmp 34)), false, none⟩]
def c47_15 : ACode := (.region o47_14 [2])
def w47_15 (_P : Program) (Q : Exit → Slots → Mem → Prop) (M : Mem) (v0 : V) : Prop :=
  @OptVH (convV .i64 v0) ⟨fun t33_2 =>
  @OptVH (binV .and .none t33_2 (.int .i64 127)) ⟨fun t34_3 =>
  Q .normal [(2, t34_3)] M⟩⟩
theorem e47_15 (P : Program) (Q : Exit → Slots → Mem → Prop) (s : Slots) (M : Mem) : wpC P c47_15 Q s M = w47_15 P Q M (sget s 0) := by kernel_rfl
def c47_16 : ACode := (.seq c47_15 .ret)
def c47_17 : ACode := (.seq c47_13 c47_16)
def c47_18 : ACode := (.seq c47_11 c47_17)
def c47_19 : ACode := (.seq c47_9 c47_18)
def c47_20 : ACode := (.seq c47_7 c47_19)
def c47_21 : ACode := (.seq c47_5 c47_20)
def c47_22 : ACode := (.seq c47_3 c47_21)
def c47_23 : ACode := (.seq c47_1 c47_22)
def fn_math_bits_OnesCount64 : AFn := ⟨35, [(.tmp 2)], c47_23⟩
theorem fn_math_bits_OnesCount64_ok : resFn PR h_math_bits_OnesCount64 i_math_bits_OnesCount64 = some fn_math_bits_OnesCount64 := by kernel_rfl

def h_transitref35_Covers : Hints := ⟨[(0, [1, 2, 3, 4]), (1, [1, 2, 3, 4, 9, 10]), (2, [1, 2, 3, 4, 9, 10, 11]), (3, [1, 2, 3, 4, 9, 10, 11, 15]), (4, [1, 2, 3, 4, 9, 10, 11]), (5, [1, 2, 3, 4, 9, 10, 11]), (6, [1, 2, 3, 4, 9, 10, 11]), (7, [8])], [(3, [1, 2, 3, 4, 9, 10, 11])], []⟩
def o48_0 : List AOper := [⟨some 4, (.box 6 (.tmp 0)), false, none⟩,
  ⟨some 8, (.mov (.const (.bool false))), true, none⟩]
def c48_1 : ACode := (.region o48_0 [1, 2, 3, 4])
def w48_1 (_P : Program) (Q : Exit → Slots → Mem → Prop) (M : Mem) (v0 : V) (v1 : V) (v2 : V) (v3 : V) : Prop :=
  @OptMH (boxV 6 v0 M) ⟨fun t4_1 M1 =>
  Q .normal [(1, v1), (2, v2), (3, v3), (4, t4_1)] M1⟩
theorem e48_1 (P : Program) (Q : Exit → Slots → Mem → Prop) (s : Slots) (M : Mem) : wpC P c48_1 Q s M = w48_1 P Q M (sget s 0) (sget s 1) (sget s 2) (sget s 3) := by kernel_rfl
def o48_2 : List AOper := [⟨some 9, (.mov (.const (.int .i64 0))), false, none⟩,
  ⟨some 10, (.mov (.const (.int .i64 0))), false, none⟩]
def c48_3 : ACode := (.region o48_2 [1, 2, 3, 4, 9, 10])
def w48_3 (_P : Program) (Q : Exit → Slots → Mem → Prop) (M : Mem) (v1 : V) (v2 : V) (v3 : V) (v4 : V) : Prop :=
  Q .normal [(1, v1), (2, v2), (3, v3), (4, v4), (9, (.int .i64 0)), (10, (.int .i64 0))] M
theorem e48_3 (P : Program) (Q : Exit → Slots → Mem → Prop) (s : Slots) (M : Mem) : wpC P c48_3 Q s M = w48_3 P Q M (sget s 1) (sget s 2) (sget s 3) (sget s 4) := by kernel_rfl
def o48_4 : List AOper := [⟨some 12, (.mov (.tmp 2)), false, none⟩,
  ⟨some 11, (.mov (.tmp 12)), false, none⟩]
def c48_5 : ACode := (.region o48_4 [1, 2, 3, 4, 9, 10, 11])
def w48_5 (_P : Program) (Q : Exit → Slots → Mem → Prop) (M : Mem) (v1 : V) (v2 : V) (v3 : V) (v4 : V) (v9 : V) (v10 : V) : Prop :=
  Q .normal [(1, v1), (2, v2), (3, v3), (4, v4), (9, v9), (10, v10), (11, v2)] M
theorem e48_5 (P : Program) (Q : Exit → Slots → Mem → Prop) (s : Slots) (M : Mem) : wpC P c48_5 Q s M = w48_5 P Q M (sget s 1) (sget s 2) (sget s 3) (sget s 4) (sget s 9) (sget s 10) := by kernel_rfl
def o48_6 : List AOper := [⟨some 13, (.mov (.tmp 11)), false, none⟩,
  ⟨some 14, (.mov (.tmp 3)), false, none⟩,
  ⟨some 15, (.bin .leq .none (.tmp 13) (.tmp 14)), true, none⟩]
def c48_7 : ACode := (.seq (.region o48_6 [1, 2, 3, 4, 9, 10, 11, 15]) (.cond (.tmp 15) .skip (.exit 0)))
def w48_7 (_P : Program) (Q : Exit → Slots → Mem → Prop) (M : Mem) (v1 : V) (v2 : V) (v3 : V) (v4 : V) (v9 : V) (v10 : V) (v11 : V) : Prop :=
  @OptBH (binV .leq .none v11 v3) ⟨fun b15_3 =>
  @BIfH b15_3
  ⟨Q .normal [(1, v1), (2, v2), (3, v3), (4, v4), (9, v9), (10, v10), (11, v11), (15, (.bool b15_3))] M⟩
  ⟨Q (.exit 0) [(1, v1), (2, v2), (3, v3), (4, v4), (9, v9), (10, v10), (11, v11), (15, (.bool b15_3))] M⟩⟩
theorem e48_7 (P : Program) (Q : Exit → Slots → Mem → Prop) (s : Slots) (M : Mem) : wpC P c48_7 Q s M = w48_7 P Q M (sget s 1) (sget s 2) (sget s 3) (sget s 4) (sget s 9) (sget s 10) (sget s 11) := by kernel_rfl
def o48_8 : List AOper := [⟨some 18, (.mov (.tmp 9)), false, none⟩,
  ⟨some 19, (.mov (.tmp 1)), false, none⟩,
  ⟨some 20, (.mov (.tmp 11)), false, none⟩,
  ⟨some 21, (.indexSl 4 (.tmp 19) (.tmp 20)), false, none⟩,
  ⟨some 22, (.fieldAddr 2 (.tmp 21)), false, none⟩,
  ⟨some 23, (.load 1 false (.tmp 22)), false, none⟩,
  ⟨some 24, (.bin .or .none (.tmp 18) (.tmp 23)), false, none⟩,
  ⟨some 9, (.mov (.tmp 24)), false, none⟩]
def c48_9 : ACode := (.region o48_8 [1, 2, 3, 4, 9, 10, 11])
def w48_9 (_P : Program) (Q : Exit → Slots → Mem → Prop) (M : Mem) (v1 : V) (v2 : V) (v3 : V) (v4 : V) (v9 : V) (v10 : V) (v11 : V) : Prop :=
  @OptVH (indexSlV 4 v1 v11 M) ⟨fun t21_4 =>
  @OptVH (moveV 2 t21_4) ⟨fun t22_5 =>
  @OptVH (loadV 1 false t22_5 M) ⟨fun t23_6 =>
  @OptVH (binV .or .none v9 t23_6) ⟨fun t24_7 =>
  Q .normal [(1, v1), (2, v2), (3, v3), (4, v4), (9, t24_7), (10, v10), (11, v11)] M⟩⟩⟩⟩
theorem e48_9 (P : Program) (Q : Exit → Slots → Mem → Prop) (s : Slots) (M : Mem) : wpC P c48_9 Q s M = w48_9 P Q M (sget s 1) (sget s 2) (sget s 3) (sget s 4) (sget s 9) (sget s 10) (sget s 11) := by kernel_rfl
def o48_10 : List AOper := [⟨some 25, (.mov (.tmp 10)), false, none⟩,
  ⟨some 26, (.mov (.tmp 1)), false, none⟩,
  ⟨some 27, (.mov (.tmp 11)), false, none⟩,
  ⟨some 28, (.indexSl 4 (.tmp 26) (.tmp 27)), false, none⟩,
  ⟨some 29, (.fieldAddr 3 (.tmp 28)), false, none⟩,
  ⟨some 30, (.load 1 false (.tmp 29)), false, none⟩,
  ⟨some 31, (.bin .or .none (.tmp 25) (.tmp 30)), false, none⟩,
  ⟨some 10, (.mov (.tmp 31)), false, none⟩]
def c48_11 : ACode := (.region o48_10 [1, 2, 3, 4, 9, 10, 11])
def w48_11 (_P : Program) (Q : Exit → Slots → Mem → Prop) (M : Mem) (v1 : V) (v2 : V) (v3 : V) (v4 : V) (v9 : V) (v10 : V) (v11 : V) : Prop :=
  @OptVH (indexSlV 4 v1 v11 M) ⟨fun t28_4 =>
  @OptVH (moveV 3 t28_4) ⟨fun t29_5 =>
  @OptVH (loadV 1 false t29_5 M) ⟨fun t30_6 =>
  @OptVH (binV .or .none v10 t30_6) ⟨fun t31_7 =>
  Q .normal [(1, v1), (2, v2), (3, v3), (4, v4), (9, v9), (10, t31_7), (11, v11)] M⟩⟩⟩⟩
theorem e48_11 (P : Program) (Q : Exit → Slots → Mem → Prop) (s : Slots) (M : Mem) : wpC P c48_11 Q s M = w48_11 P Q M (sget s 1) (sget s 2) (sget s 3) (sget s 4) (sget s 9) (sget s 10) (sget s 11) := by kernel_rfl
def c48_12 : ACode := (.seq c48_9 c48_11)
def c48_13 : ACode := (.block 1 c48_12)
def o48_14 : List AOper := [⟨some 16, (.mov (.tmp 11)), false, none⟩,
  ⟨some 17, (.bin .add .none (.tmp 16) (.const (.int .i64 1))), false, none⟩,
  ⟨some 11, (.mov (.tmp 17)), false, none⟩]
def c48_15 : ACode := (.region o48_14 [1, 2, 3, 4, 9, 10, 11])
def w48_15 (_P : Program) (Q : Exit → Slots → Mem → Prop) (M : Mem) (v1 : V) (v2 : V) (v3 : V) (v4 : V) (v9 : V) (v10 : V) (v11 : V) : Prop :=
  @OptVH (binV .add .none v11 (.int .i64 1)) ⟨fun t17_2 =>
  Q .normal [(1, v1), (2, v2), (3, v3), (4, v4), (9, v9), (10, v10), (11, t17_2)] M⟩
theorem e48_15 (P : Program) (Q : Exit → Slots → Mem → Prop) (s : Slots) (M : Mem) : wpC P c48_15 Q s M = w48_15 P Q M (sget s 1) (sget s 2) (sget s 3) (sget s 4) (sget s 9) (sget s 10) (sget s 11) := by kernel_rfl
def c48_16 : ACode := (.seq c48_13 c48_15)
def c48_17 : ACode := (.seq c48_7 c48_16)
def c48_18 : ACode := (.loop [1, 2, 3, 4, 9, 10, 11] c48_17)
def c48_19 : ACode := (.block 0 c48_18)
def c48_20 : ACode := (.seq c48_5 c48_19)
def o48_21 : List AOper := [⟨some 32, (.mov (.tmp 3)), false, none⟩,
  ⟨some 33, (.mov (.tmp 2)), false, none⟩,
  ⟨some 34, (.bin .sub .none (.tmp 32) (.tmp 33)), false, none⟩,
  ⟨some 35, (.bin .add .none (.tmp 34) (.const (.int .i64 1))), false, none⟩,
  ⟨some 36, (.fieldAddr 2 (.tmp 4)), false, none⟩,
  ⟨some 37, (.load 1 false (.tmp 36)), false, none⟩,
  ⟨some 38, (.bin .leq .none (.tmp 35) (.tmp 37)), true, none⟩,
  ⟨some 39, (.mov (.tmp 38)), true, none⟩,
  ⟨some 40, (.mov (.tmp 9)), false, some (39, true)⟩,
  ⟨some 41, (.call i_transitref35_bits [(.tmp 40)]), false, some (39, true)⟩,
  ⟨some 42, (.fieldAddr 3 (.tmp 4)), false, some (39, true)⟩,
  ⟨some 43, (.load 1 false (.tmp 42)), false, some (39, true)⟩,
  ⟨some 44, (.bin .leq .none (.tmp 41) (.tmp 43)), true, some (39, true)⟩,
  ⟨some 45, (.pick (.tmp 39) (.tmp 44) (.const (.bool false))), true, none⟩,
  ⟨some 46, (.mov (.tmp 45)), true, none⟩,
  ⟨some 47, (.mov (.tmp 1)), false, some (46, true)⟩,
  ⟨some 48, (.mov (.tmp 2)), false, some (46, true)⟩,
  ⟨some 49, (.indexSl 4 (.tmp 47) (.tmp 48)), false, some (46, true)⟩,
  ⟨some 50, (.fieldAddr 0 (.tmp 49)), false, some (46, true)⟩,
  ⟨some 51, (.load 1 false (.tmp 50)), false, some (46, true)⟩,
  ⟨some 52, (.mov (.tmp 1)), false, some (46, true)⟩,
  ⟨some 53, (.mov (.tmp 3)), false, some (46, true)⟩,
  ⟨some 54, (.indexSl 4 (.tmp 52) (.tmp 53)), false, some (46, true)⟩,
  ⟨some 55, (.fieldAddr 0 (.tmp 54)), false, some (46, true)⟩,
  ⟨some 56, (.load 1 false (.tmp 55)), false, some (46, true)⟩,
  ⟨some 57, (.fieldAddr 4 (.tmp 4)), false, some (46, true)⟩,
  ⟨some 58, (.load 1 false (.tmp 57)), false, some (46, true)⟩,
  ⟨some 59, (.call i_transitref35_within [(.tmp 51), (.tmp 56), (.tmp 58)]), true, some (46, true)⟩,
  ⟨some 60, (.pick (.tmp 46) (.tmp 59) (.const (.bool false))), true, none⟩,
  ⟨some 61, (.mov (.tmp 60)), true, none⟩,
  ⟨some 62, (.mov (.tmp 10)), false, some (61, true)⟩,
  ⟨some 63, (.fieldAddr 5 (.tmp 4)), false, some (61, true)⟩,
  ⟨some 64, (.load 1 false (.tmp 63)), false, some (61, true)⟩,
  ⟨some 65, (.bin .andNot .none (.tmp 62) (.tmp 64)), false, some (61, true)⟩,
  ⟨some 66, (.bin .eql .none (.tmp 65) (.const (.int .i64 0))), true, some (61, true)⟩,
  ⟨some 67, (.pick (.tmp 61) (.tmp 66) (.const (.bool false))), true, none⟩,
  ⟨some 8, (.mov (.tmp 67)), true, none⟩]
def c48_22 : ACode := (.mixed o48_21 [true, true, true, true, true, true, true, true, true, true, true, true, true, true, true, true, true, true, true, true, true, true, true, true, true, true, true, false, true, true, true, true, true, true, true, true, true] [8])
def w48_22 (P : Program) (Q : Exit → Slots → Mem → Prop) (M : Mem) (v1 : V) (v2 : V) (v3 : V) (v4 : V) (v9 : V) (v10 : V) : Prop :=
  @OptVH (binV .sub .none v3 v2) ⟨fun t34_3 =>
  @OptVH (binV .add .none t34_3 (.int .i64 1)) ⟨fun t35_4 =>
  @OptVH (moveV 2 v4) ⟨fun t36_5 =>
  @OptVH (loadV 1 false t36_5 M) ⟨fun t37_6 =>
  @OptBH (binV .leq .none t35_4 t37_6) ⟨fun b38_7 =>
  @BIfH b38_7
  ⟨@CallQ P i_transitref35_bits [v9] M ⟨fun t41_10 M10 =>
  @OptVH (moveV 3 v4) ⟨fun t42_11 =>
  @OptVH (loadV 1 false t42_11 M10) ⟨fun t43_12 =>
  @OptBH (binV .leq .none t41_10 t43_12) ⟨fun b44_13 =>
  @BIfH b44_13
  ⟨@OptVH (indexSlV 4 v1 v2 M10) ⟨fun t49_18 =>
  @OptVH (moveV 0 t49_18) ⟨fun t50_19 =>
  @OptVH (loadV 1 false t50_19 M10) ⟨fun t51_20 =>
  @OptVH (indexSlV 4 v1 v3 M10) ⟨fun t54_23 =>
  @OptVH (moveV 0 t54_23) ⟨fun t55_24 =>
  @OptVH (loadV 1 false t55_24 M10) ⟨fun t56_25 =>
  @OptVH (moveV 4 v4) ⟨fun t57_26 =>
  @OptVH (loadV 1 false t57_26 M10) ⟨fun t58_27 =>
  @CallH P i_transitref35_within [t51_20, t56_25, t58_27] M10 ⟨fun t59_28 M28 => @OptBH (some t59_28) ⟨fun b59_28 =>
  @BIfH b59_28
  ⟨@OptVH (moveV 5 v4) ⟨fun t63_32 =>
  @OptVH (loadV 1 false t63_32 M28) ⟨fun t64_33 =>
  @OptVH (binV .andNot .none v10 t64_33) ⟨fun t65_34 =>
  @OptBH (binV .eql .none t65_34 (.int .i64 0)) ⟨fun b66_35 =>
  Q .normal [(8, (.bool b66_35))] M28⟩⟩⟩⟩⟩
  ⟨Q .normal [(8, (.bool false))] M28⟩⟩⟩⟩⟩⟩⟩⟩⟩⟩⟩⟩
  ⟨Q .normal [(8, (.bool false))] M10⟩⟩⟩⟩⟩⟩
  ⟨Q .normal [(8, (.bool false))] M⟩⟩⟩⟩⟩⟩
theorem e48_22 (P : Program) (Q : Exit → Slots → Mem → Prop) (s : Slots) (M : Mem) : wpC P c48_22 Q s M = w48_22 P Q M (sget s 1) (sget s 2) (sget s 3) (sget s 4) (sget s 9) (sget s 10) := by kernel_rfl
def c48_23 : ACode := (.seq c48_22 .ret)
def c48_24 : ACode := (.seq c48_20 c48_23)
def c48_25 : ACode := (.seq c48_3 c48_24)
def c48_26 : ACode := (.seq c48_1 c48_25)
def fn_transitref35_Covers : AFn := ⟨68, [(.tmp 8)], c48_26⟩
theorem fn_transitref35_Covers_ok : resFn PR h_transitref35_Covers i_transitref35_Covers = some fn_transitref35_Covers := by kernel_rfl

def h_transitref35_Ticket : Hints := ⟨[(0, [2, 3, 4, 5]), (1, [4, 5, 26]), (2, [8]), (3, [8])], [], []⟩
def o49_0 : List AOper := [⟨some 4, (.box 4 (.tmp 0)), false, none⟩,
  ⟨some 5, (.box 6 (.tmp 1)), false, none⟩,
  ⟨some 8, (.mov (.const (.int .i64 0))), false, none⟩]
def c49_1 : ACode := (.region o49_0 [2, 3, 4, 5])
def w49_1 (_P : Program) (Q : Exit → Slots → Mem → Prop) (M : Mem) (v0 : V) (v1 : V) (v2 : V) (v3 : V) : Prop :=
  @OptMH (boxV 4 v0 M) ⟨fun t4_1 M1 =>
  @OptMH (boxV 6 v1 M1) ⟨fun t5_2 M2 =>
  Q .normal [(2, v2), (3, v3), (4, t4_1), (5, t5_2)] M2⟩⟩
theorem e49_1 (P : Program) (Q : Exit → Slots → Mem → Prop) (s : Slots) (M : Mem) : wpC P c49_1 Q s M = w49_1 P Q M (sget s 0) (sget s 1) (sget s 2) (sget s 3) := by kernel_rfl
def o49_2 : List AOper := [⟨some 27, (.fieldAddr 1 (.tmp 5)), false, none⟩,
  ⟨some 28, (.load 1 false (.tmp 27)), false, none⟩,
  ⟨some 29, (.fieldAddr 1 (.tmp 4)), false, none⟩,
  ⟨some 30, (.load 1 false (.tmp 29)), false, none⟩,
  ⟨some 31, (.bin .sub .none (.tmp 28) (.tmp 30)), false, none⟩,
  ⟨some 32, (.minmax true (.const (.int .i64 0)) (.tmp 31)), false, none⟩,
  ⟨some 8, (.mov (.tmp 32)), false, none⟩]
def c49_3 : ACode := (.region o49_2 [8])
def w49_3 (_P : Program) (Q : Exit → Slots → Mem → Prop) (M : Mem) (v4 : V) (v5 : V) : Prop :=
  @OptVH (moveV 1 v5) ⟨fun t27_1 =>
  @OptVH (loadV 1 false t27_1 M) ⟨fun t28_2 =>
  @OptVH (moveV 1 v4) ⟨fun t29_3 =>
  @OptVH (loadV 1 false t29_3 M) ⟨fun t30_4 =>
  @OptVH (binV .sub .none t28_2 t30_4) ⟨fun t31_5 =>
  @OptVH (minmaxV true (.int .i64 0) t31_5) ⟨fun t32_6 =>
  Q .normal [(8, t32_6)] M⟩⟩⟩⟩⟩⟩
theorem e49_3 (P : Program) (Q : Exit → Slots → Mem → Prop) (s : Slots) (M : Mem) : wpC P c49_3 Q s M = w49_3 P Q M (sget s 4) (sget s 5) := by kernel_rfl
def c49_4 : ACode := (.seq c49_3 .ret)
def o49_5 : List AOper := [⟨some 9, (.mov (.tmp 3)), false, none⟩,
  ⟨some 10, (.bin .gtr .none (.tmp 9) (.const (.int .i64 0))), true, none⟩,
  ⟨some 11, (.mov (.tmp 10)), true, none⟩,
  ⟨some 12, (.mov (.tmp 2)), false, some (11, true)⟩,
  ⟨some 13, (.mov (.tmp 3)), false, some (11, true)⟩,
  ⟨some 14, (.bin .sub .none (.tmp 13) (.const (.int .i64 1))), false, some (11, true)⟩,
  ⟨some 15, (.indexSl 4 (.tmp 12) (.tmp 14)), false, some (11, true)⟩,
  ⟨some 16, (.fieldAddr 1 (.tmp 15)), false, some (11, true)⟩,
  ⟨some 17, (.load 1 false (.tmp 16)), false, some (11, true)⟩,
  ⟨some 18, (.mov (.tmp 2)), false, some (11, true)⟩,
  ⟨some 19, (.mov (.tmp 3)), false, some (11, true)⟩,
  ⟨some 20, (.indexSl 4 (.tmp 18) (.tmp 19)), false, some (11, true)⟩,
  ⟨some 21, (.fieldAddr 0 (.tmp 20)), false, some (11, true)⟩,
  ⟨some 22, (.load 1 false (.tmp 21)), false, some (11, true)⟩,
  ⟨some 23, (.fieldAddr 2 (.tmp 4)), false, some (11, true)⟩,
  ⟨some 24, (.load 1 false (.tmp 23)), false, some (11, true)⟩,
  ⟨some 25, (.call i_transitref35_within [(.tmp 17), (.tmp 22), (.tmp 24)]), true, some (11, true)⟩,
  ⟨some 26, (.pick (.tmp 11) (.tmp 25) (.const (.bool false))), true, none⟩]
def c49_6 : ACode := (.seq (.mixed o49_5 [true, true, true, true, true, true, true, true, true, true, true, true, true, true, true, true, false, true] [4, 5, 26]) (.cond (.tmp 26) c49_4 .skip))
def w49_6 (P : Program) (Q : Exit → Slots → Mem → Prop) (M : Mem) (v2 : V) (v3 : V) (v4 : V) (v5 : V) : Prop :=
  @OptBH (binV .gtr .none v3 (.int .i64 0)) ⟨fun b10_2 =>
  @BIfH b10_2
  ⟨@OptVH (binV .sub .none v3 (.int .i64 1)) ⟨fun t14_6 =>
  @OptVH (indexSlV 4 v2 t14_6 M) ⟨fun t15_7 =>
  @OptVH (moveV 1 t15_7) ⟨fun t16_8 =>
  @OptVH (loadV 1 false t16_8 M) ⟨fun t17_9 =>
  @OptVH (indexSlV 4 v2 v3 M) ⟨fun t20_12 =>
  @OptVH (moveV 0 t20_12) ⟨fun t21_13 =>
  @OptVH (loadV 1 false t21_13 M) ⟨fun t22_14 =>
  @OptVH (moveV 2 v4) ⟨fun t23_15 =>
  @OptVH (loadV 1 false t23_15 M) ⟨fun t24_16 =>
  @CallH P i_transitref35_within [t17_9, t22_14, t24_16] M ⟨fun t25_17 M17 => @OptBH (some t25_17) ⟨fun b25_17 =>
  @BIfH b25_17
  ⟨wpC P c49_4 Q [(4, v4), (5, v5), (26, (.bool b25_17))] M17⟩
  ⟨Q .normal [(4, v4), (5, v5), (26, (.bool b25_17))] M17⟩⟩⟩⟩⟩⟩⟩⟩⟩⟩⟩⟩⟩
  ⟨Q .normal [(4, v4), (5, v5), (26, (.bool false))] M⟩⟩
theorem e49_6 (P : Program) (Q : Exit → Slots → Mem → Prop) (s : Slots) (M : Mem) : wpC P c49_6 Q s M = w49_6 P Q M (sget s 2) (sget s 3) (sget s 4) (sget s 5) := by kernel_rfl
def o49_7 : List AOper := [⟨some 33, (.fieldAddr 1 (.tmp 5)), false, none⟩,
  ⟨some 34, (.load 1 false (.tmp 33)), false, none⟩,
  ⟨some 8, (.mov (.tmp 34)), false, none⟩]
def c49_8 : ACode := (.region o49_7 [8])
def w49_8 (_P : Program) (Q : Exit → Slots → Mem → Prop) (M : Mem) (v5 : V) : Prop :=
  @OptVH (moveV 1 v5) ⟨fun t33_1 =>
  @OptVH (loadV 1 false t33_1 M) ⟨fun t34_2 =>
  Q .normal [(8, t34_2)] M⟩⟩
theorem e49_8 (P : Program) (Q : Exit → Slots → Mem → Prop) (s : Slots) (M : Mem) : wpC P c49_8 Q s M = w49_8 P Q M (sget s 5) := by kernel_rfl
def c49_9 : ACode := (.seq c49_8 .ret)
def c49_10 : ACode := (.seq c49_6 c49_9)
def c49_11 : ACode := (.seq c49_1 c49_10)
def fn_transitref35_Ticket : AFn := ⟨35, [(.tmp 8)], c49_11⟩
theorem fn_transitref35_Ticket_ok : resFn PR h_transitref35_Ticket i_transitref35_Ticket = some fn_transitref35_Ticket := by kernel_rfl

def h_transitref35_better : Hints := ⟨[(0, [0, 1]), (1, [0, 1, 10]), (2, [4]), (3, [0, 1, 20]), (4, [4]), (5, [0, 1, 5]), (6, [0, 1, 5, 29]), (7, [0, 1, 5]), (8, [0, 1, 5, 42]), (9, [4]), (10, [0, 1, 5, 64]), (11, [4]), (12, [4])], [(6, [0, 1, 5])], []⟩
def o50_0 : List AOper := [⟨some 4, (.mov (.const (.bool false))), true, none⟩]
def c50_1 : ACode := (.region o50_0 [0, 1])
def w50_1 (_P : Program) (Q : Exit → Slots → Mem → Prop) (M : Mem) (v0 : V) (v1 : V) : Prop :=
  Q .normal [(0, v0), (1, v1)] M
theorem e50_1 (P : Program) (Q : Exit → Slots → Mem → Prop) (s : Slots) (M : Mem) : wpC P c50_1 Q s M = w50_1 P Q M (sget s 0) (sget s 1) := by kernel_rfl
def o50_2 : List AOper := [⟨some 11, (.mov (.tmp 0)), false, none⟩,
  ⟨some 12, (.call i_transitref35_Sum [(.tmp 11)]), false, none⟩,
  ⟨some 13, (.mov (.tmp 1)), false, none⟩,
  ⟨some 14, (.call i_transitref35_Sum [(.tmp 13)]), false, none⟩,
  ⟨some 15, (.bin .lss .none (.tmp 12) (.tmp 14)), true, none⟩,
  ⟨some 4, (.mov (.tmp 15)), true, none⟩]
def c50_3 : ACode := (.region o50_2 [4])
def w50_3 (P : Program) (Q : Exit → Slots → Mem → Prop) (M : Mem) (v0 : V) (v1 : V) : Prop :=
  @CallH P i_transitref35_Sum [v0] M ⟨fun t12_2 M2 =>
  @CallH P i_transitref35_Sum [v1] M2 ⟨fun t14_4 M4 =>
  @OptBH (binV .lss .none t12_2 t14_4) ⟨fun b15_5 =>
  Q .normal [(4, (.bool b15_5))] M4⟩⟩⟩
theorem e50_3 (P : Program) (Q : Exit → Slots → Mem → Prop) (s : Slots) (M : Mem) : wpC P c50_3 Q s M = w50_3 P Q M (sget s 0) (sget s 1) := by kernel_rfl
def c50_4 : ACode := (.seq c50_3 .ret)
def o50_5 : List AOper := [⟨some 6, (.mov (.tmp 0)), false, none⟩,
  ⟨some 7, (.call i_transitref35_Sum [(.tmp 6)]), false, none⟩,
  ⟨some 8, (.mov (.tmp 1)), false, none⟩,
  ⟨some 9, (.call i_transitref35_Sum [(.tmp 8)]), false, none⟩,
  ⟨some 10, (.bin .neq .none (.tmp 7) (.tmp 9)), true, none⟩]
def c50_6 : ACode := (.seq (.region o50_5 [0, 1, 10]) (.cond (.tmp 10) c50_4 .skip))
def w50_6 (P : Program) (Q : Exit → Slots → Mem → Prop) (M : Mem) (v0 : V) (v1 : V) : Prop :=
  @CallH P i_transitref35_Sum [v0] M ⟨fun t7_2 M2 =>
  @CallH P i_transitref35_Sum [v1] M2 ⟨fun t9_4 M4 =>
  @OptBH (binV .neq .none t7_2 t9_4) ⟨fun b10_5 =>
  @BIfH b10_5
  ⟨wpC P c50_4 Q [(0, v0), (1, v1), (10, (.bool b10_5))] M4⟩
  ⟨Q .normal [(0, v0), (1, v1), (10, (.bool b10_5))] M4⟩⟩⟩⟩
theorem e50_6 (P : Program) (Q : Exit → Slots → Mem → Prop) (s : Slots) (M : Mem) : wpC P c50_6 Q s M = w50_6 P Q M (sget s 0) (sget s 1) := by kernel_rfl
def o50_7 : List AOper := [⟨some 21, (.mov (.tmp 0)), false, none⟩,
  ⟨some 22, (.lenSl (.tmp 21)), false, none⟩,
  ⟨some 23, (.mov (.tmp 1)), false, none⟩,
  ⟨some 24, (.lenSl (.tmp 23)), false, none⟩,
  ⟨some 25, (.bin .lss .none (.tmp 22) (.tmp 24)), true, none⟩,
  ⟨some 4, (.mov (.tmp 25)), true, none⟩]
def c50_8 : ACode := (.region o50_7 [4])
def w50_8 (_P : Program) (Q : Exit → Slots → Mem → Prop) (M : Mem) (v0 : V) (v1 : V) : Prop :=
  @OptVH (lenV v0 M) ⟨fun t22_2 =>
  @OptVH (lenV v1 M) ⟨fun t24_4 =>
  @OptBH (binV .lss .none t22_2 t24_4) ⟨fun b25_5 =>
  Q .normal [(4, (.bool b25_5))] M⟩⟩⟩
theorem e50_8 (P : Program) (Q : Exit → Slots → Mem → Prop) (s : Slots) (M : Mem) : wpC P c50_8 Q s M = w50_8 P Q M (sget s 0) (sget s 1) := by kernel_rfl
def c50_9 : ACode := (.seq c50_8 .ret)
def o50_10 : List AOper := [⟨some 16, (.mov (.tmp 0)), false, none⟩,
  ⟨some 17, (.lenSl (.tmp 16)), false, none⟩,
  ⟨some 18, (.mov (.tmp 1)), false, none⟩,
  ⟨some 19, (.lenSl (.tmp 18)), false, none⟩,
  ⟨some 20, (.bin .neq .none (.tmp 17) (.tmp 19)), true, none⟩]
def c50_11 : ACode := (.seq (.region o50_10 [0, 1, 20]) (.cond (.tmp 20) c50_9 .skip))
def w50_11 (P : Program) (Q : Exit → Slots → Mem → Prop) (M : Mem) (v0 : V) (v1 : V) : Prop :=
  @OptVH (lenV v0 M) ⟨fun t17_2 =>
  @OptVH (lenV v1 M) ⟨fun t19_4 =>
  @OptBH (binV .neq .none t17_2 t19_4) ⟨fun b20_5 =>
  @BIfH b20_5
  ⟨wpC P c50_9 Q [(0, v0), (1, v1), (20, (.bool b20_5))] M⟩
  ⟨Q .normal [(0, v0), (1, v1), (20, (.bool b20_5))] M⟩⟩⟩⟩
theorem e50_11 (P : Program) (Q : Exit → Slots → Mem → Prop) (s : Slots) (M : Mem) : wpC P c50_11 Q s M = w50_11 P Q M (sget s 0) (sget s 1) := by kernel_rfl
def o50_12 : List AOper := [⟨some 5, (.mov (.const (.int .i64 0))), false, none⟩]
def c50_13 : ACode := (.region o50_12 [0, 1, 5])
def w50_13 (_P : Program) (Q : Exit → Slots → Mem → Prop) (M : Mem) (v0 : V) (v1 : V) : Prop :=
  Q .normal [(0, v0), (1, v1), (5, (.int .i64 0))] M
theorem e50_13 (P : Program) (Q : Exit → Slots → Mem → Prop) (s : Slots) (M : Mem) : wpC P c50_13 Q s M = w50_13 P Q M (sget s 0) (sget s 1) := by kernel_rfl
def o50_14 : List AOper := [⟨some 26, (.mov (.tmp 5)), false, none⟩,
  ⟨some 27, (.mov (.tmp 0)), false, none⟩,
  ⟨some 28, (.lenSl (.tmp 27)), false, none⟩,
  ⟨some 29, (.bin .lss .none (.tmp 26) (.tmp 28)), true, none⟩]
def c50_15 : ACode := (.seq (.region o50_14 [0, 1, 5, 29]) (.cond (.tmp 29) .skip (.exit 0)))
def w50_15 (_P : Program) (Q : Exit → Slots → Mem → Prop) (M : Mem) (v0 : V) (v1 : V) (v5 : V) : Prop :=
  @OptVH (lenV v0 M) ⟨fun t28_3 =>
  @OptBH (binV .lss .none v5 t28_3) ⟨fun b29_4 =>
  @BIfH b29_4
  ⟨Q .normal [(0, v0), (1, v1), (5, v5), (29, (.bool b29_4))] M⟩
  ⟨Q (.exit 0) [(0, v0), (1, v1), (5, v5), (29, (.bool b29_4))] M⟩⟩⟩
theorem e50_15 (P : Program) (Q : Exit → Slots → Mem → Prop) (s : Slots) (M : Mem) : wpC P c50_15 Q s M = w50_15 P Q M (sget s 0) (sget s 1) (sget s 5) := by kernel_rfl
def o50_16 : List AOper := [⟨some 43, (.mov (.tmp 0)), false, none⟩,
  ⟨some 44, (.mov (.tmp 5)), false, none⟩,
  ⟨some 45, (.indexSl 4 (.tmp 43) (.tmp 44)), false, none⟩,
  ⟨some 46, (.fieldAddr 2 (.tmp 45)), false, none⟩,
  ⟨some 47, (.load 1 false (.tmp 46)), false, none⟩,
  ⟨some 48, (.mov (.tmp 1)), false, none⟩,
  ⟨some 49, (.mov (.tmp 5)), false, none⟩,
  ⟨some 50, (.indexSl 4 (.tmp 48) (.tmp 49)), false, none⟩,
  ⟨some 51, (.fieldAddr 2 (.tmp 50)), false, none⟩,
  ⟨some 52, (.load 1 false (.tmp 51)), false, none⟩,
  ⟨some 53, (.bin .lss .none (.tmp 47) (.tmp 52)), true, none⟩,
  ⟨some 4, (.mov (.tmp 53)), true, none⟩]
def c50_17 : ACode := (.mixed o50_16 [true, true, true, true, true, true, true, true, true, true, true, true] [4])
def w50_17 (_P : Program) (Q : Exit → Slots → Mem → Prop) (M : Mem) (v0 : V) (v1 : V) (v5 : V) : Prop :=
  @OptVH (indexSlV 4 v0 v5 M) ⟨fun t45_3 =>
  @OptVH (moveV 2 t45_3) ⟨fun t46_4 =>
  @OptVH (loadV 1 false t46_4 M) ⟨fun t47_5 =>
  @OptVH (indexSlV 4 v1 v5 M) ⟨fun t50_8 =>
  @OptVH (moveV 2 t50_8) ⟨fun t51_9 =>
  @OptVH (loadV 1 false t51_9 M) ⟨fun t52_10 =>
  @OptBH (binV .lss .none t47_5 t52_10) ⟨fun b53_11 =>
  Q .normal [(4, (.bool b53_11))] M⟩⟩⟩⟩⟩⟩⟩
theorem e50_17 (P : Program) (Q : Exit → Slots → Mem → Prop) (s : Slots) (M : Mem) : wpC P c50_17 Q s M = w50_17 P Q M (sget s 0) (sget s 1) (sget s 5) := by kernel_rfl
def c50_18 : ACode := (.seq c50_17 .ret)
def o50_19 : List AOper := [⟨some 32, (.mov (.tmp 0)), false, none⟩,
  ⟨some 33, (.mov (.tmp 5)), false, none⟩,
  ⟨some 34, (.indexSl 4 (.tmp 32) (.tmp 33)), false, none⟩,
  ⟨some 35, (.fieldAddr 2 (.tmp 34)), false, none⟩,
  ⟨some 36, (.load 1 false (.tmp 35)), false, none⟩,
  ⟨some 37, (.mov (.tmp 1)), false, none⟩,
  ⟨some 38, (.mov (.tmp 5)), false, none⟩,
  ⟨some 39, (.indexSl 4 (.tmp 37) (.tmp 38)), false, none⟩,
  ⟨some 40, (.fieldAddr 2 (.tmp 39)), false, none⟩,
  ⟨some 41, (.load 1 false (.tmp 40)), false, none⟩,
  ⟨some 42, (.bin .neq .none (.tmp 36) (.tmp 41)), true, none⟩]
def c50_20 : ACode := (.seq (.mixed o50_19 [true, true, true, true, true, true, true, true, true, true, true] [0, 1, 5, 42]) (.cond (.tmp 42) c50_18 .skip))
def w50_20 (P : Program) (Q : Exit → Slots → Mem → Prop) (M : Mem) (v0 : V) (v1 : V) (v5 : V) : Prop :=
  @OptVH (indexSlV 4 v0 v5 M) ⟨fun t34_3 =>
  @OptVH (moveV 2 t34_3) ⟨fun t35_4 =>
  @OptVH (loadV 1 false t35_4 M) ⟨fun t36_5 =>
  @OptVH (indexSlV 4 v1 v5 M) ⟨fun t39_8 =>
  @OptVH (moveV 2 t39_8) ⟨fun t40_9 =>
  @OptVH (loadV 1 false t40_9 M) ⟨fun t41_10 =>
  @OptBH (binV .neq .none t36_5 t41_10) ⟨fun b42_11 =>
  @BIfH b42_11
  ⟨wpC P c50_18 Q [(0, v0), (1, v1), (5, v5), (42, (.bool b42_11))] M⟩
  ⟨Q .normal [(0, v0), (1, v1), (5, v5), (42, (.bool b42_11))] M⟩⟩⟩⟩⟩⟩⟩⟩
theorem e50_20 (P : Program) (Q : Exit → Slots → Mem → Prop) (s : Slots) (M : Mem) : wpC P c50_20 Q s M = w50_20 P Q M (sget s 0) (sget s 1) (sget s 5) := by kernel_rfl
def o50_21 : List AOper := [⟨some 65, (.mov (.tmp 0)), false, none⟩,
  ⟨some 66, (.mov (.tmp 5)), false, none⟩,
  ⟨some 67, (.indexSl 4 (.tmp 65) (.tmp 66)), false, none⟩,
  ⟨some 68, (.fieldAddr 0 (.tmp 67)), false, none⟩,
  ⟨some 69, (.load 1 false (.tmp 68)), false, none⟩,
  ⟨some 70, (.mov (.tmp 1)), false, none⟩,
  ⟨some 71, (.mov (.tmp 5)), false, none⟩,
  ⟨some 72, (.indexSl 4 (.tmp 70) (.tmp 71)), false, none⟩,
  ⟨some 73, (.fieldAddr 0 (.tmp 72)), false, none⟩,
  ⟨some 74, (.load 1 false (.tmp 73)), false, none⟩,
  ⟨some 75, (.bin .lss .none (.tmp 69) (.tmp 74)), true, none⟩,
  ⟨some 4, (.mov (.tmp 75)), true, none⟩]
def c50_22 : ACode := (.mixed o50_21 [true, true, true, true, true, true, true, true, true, true, true, true] [4])
def w50_22 (_P : Program) (Q : Exit → Slots → Mem → Prop) (M : Mem) (v0 : V) (v1 : V) (v5 : V) : Prop :=
  @OptVH (indexSlV 4 v0 v5 M) ⟨fun t67_3 =>
  @OptVH (moveV 0 t67_3) ⟨fun t68_4 =>
  @OptVH (loadV 1 false t68_4 M) ⟨fun t69_5 =>
  @OptVH (indexSlV 4 v1 v5 M) ⟨fun t72_8 =>
  @OptVH (moveV 0 t72_8) ⟨fun t73_9 =>
  @OptVH (loadV 1 false t73_9 M) ⟨fun t74_10 =>
  @OptBH (binV .lss .none t69_5 t74_10) ⟨fun b75_11 =>
  Q .normal [(4, (.bool b75_11))] M⟩⟩⟩⟩⟩⟩⟩
theorem e50_22 (P : Program) (Q : Exit → Slots → Mem → Prop) (s : Slots) (M : Mem) : wpC P c50_22 Q s M = w50_22 P Q M (sget s 0) (sget s 1) (sget s 5) := by kernel_rfl
def c50_23 : ACode := (.seq c50_22 .ret)
def o50_24 : List AOper := [⟨some 54, (.mov (.tmp 0)), false, none⟩,
  ⟨some 55, (.mov (.tmp 5)), false, none⟩,
  ⟨some 56, (.indexSl 4 (.tmp 54) (.tmp 55)), false, none⟩,
  ⟨some 57, (.fieldAddr 0 (.tmp 56)), false, none⟩,
  ⟨some 58, (.load 1 false (.tmp 57)), false, none⟩,
  ⟨some 59, (.mov (.tmp 1)), false, none⟩,
  ⟨some 60, (.mov (.tmp 5)), false, none⟩,
  ⟨some 61, (.indexSl 4 (.tmp 59) (.tmp 60)), false, none⟩,
  ⟨some 62, (.fieldAddr 0 (.tmp 61)), false, none⟩,
  ⟨some 63, (.load 1 false (.tmp 62)), false, none⟩,
  ⟨some 64, (.bin .neq .none (.tmp 58) (.tmp 63)), true, none⟩]
def c50_25 : ACode := (.seq (.mixed o50_24 [true, true, true, true, true, true, true, true, true, true, true] [0, 1, 5, 64]) (.cond (.tmp 64) c50_23 .skip))
def w50_25 (P : Program) (Q : Exit → Slots → Mem → Prop) (M : Mem) (v0 : V) (v1 : V) (v5 : V) : Prop :=
  @OptVH (indexSlV 4 v0 v5 M) ⟨fun t56_3 =>
  @OptVH (moveV 0 t56_3) ⟨fun t57_4 =>
  @OptVH (loadV 1 false t57_4 M) ⟨fun t58_5 =>
  @OptVH (indexSlV 4 v1 v5 M) ⟨fun t61_8 =>
  @OptVH (moveV 0 t61_8) ⟨fun t62_9 =>
  @OptVH (loadV 1 false t62_9 M) ⟨fun t63_10 =>
  @OptBH (binV .neq .none t58_5 t63_10) ⟨fun b64_11 =>
  @BIfH b64_11
  ⟨wpC P c50_23 Q [(0, v0), (1, v1), (5, v5), (64, (.bool b64_11))] M⟩
  ⟨Q .normal [(0, v0), (1, v1), (5, v5), (64, (.bool b64_11))] M⟩⟩⟩⟩⟩⟩⟩⟩
theorem e50_25 (P : Program) (Q : Exit → Slots → Mem → Prop) (s : Slots) (M : Mem) : wpC P c50_25 Q s M = w50_25 P Q M (sget s 0) (sget s 1) (sget s 5) := by kernel_rfl
def c50_26 : ACode := (.seq c50_20 c50_25)
def c50_27 : ACode := (.block 1 c50_26)
def o50_28 : List AOper := [⟨some 30, (.mov (.tmp 5)), false, none⟩,
  ⟨some 31, (.bin .add .none (.tmp 30) (.const (.int .i64 1))), false, none⟩,
  ⟨some 5, (.mov (.tmp 31)), false, none⟩]
def c50_29 : ACode := (.region o50_28 [0, 1, 5])
def w50_29 (_P : Program) (Q : Exit → Slots → Mem → Prop) (M : Mem) (v0 : V) (v1 : V) (v5 : V) : Prop :=
  @OptVH (binV .add .none v5 (.int .i64 1)) ⟨fun t31_2 =>
  Q .normal [(0, v0), (1, v1), (5, t31_2)] M⟩
theorem e50_29 (P : Program) (Q : Exit → Slots → Mem → Prop) (s : Slots) (M : Mem) : wpC P c50_29 Q s M = w50_29 P Q M (sget s 0) (sget s 1) (sget s 5) := by kernel_rfl
def c50_30 : ACode := (.seq c50_27 c50_29)
def c50_31 : ACode := (.seq c50_15 c50_30)
def c50_32 : ACode := (.loop [0, 1, 5] c50_31)
def c50_33 : ACode := (.block 0 c50_32)
def c50_34 : ACode := (.seq c50_13 c50_33)
def o50_35 : List AOper := [⟨some 4, (.mov (.const (.bool false))), true, none⟩]
def c50_36 : ACode := (.region o50_35 [4])
def w50_36 (_P : Program) (Q : Exit → Slots → Mem → Prop) (M : Mem) : Prop :=
  Q .normal [(4, (.bool false))] M
theorem e50_36 (P : Program) (Q : Exit → Slots → Mem → Prop) (s : Slots) (M : Mem) : wpC P c50_36 Q s M = w50_36 P Q M := by kernel_rfl
def c50_37 : ACode := (.seq c50_36 .ret)
def c50_38 : ACode := (.seq c50_34 c50_37)
def c50_39 : ACode := (.seq c50_11 c50_38)
def c50_40 : ACode := (.seq c50_6 c50_39)
def c50_41 : ACode := (.seq c50_1 c50_40)
def fn_transitref35_better : AFn := ⟨76, [(.tmp 4)], c50_41⟩
theorem fn_transitref35_better_ok : resFn PR h_transitref35_better i_transitref35_better = some fn_transitref35_better := by kernel_rfl

def h_transitref35_bits : Hints := ⟨[(0, [0]), (1, [0, 3]), (2, [0, 3, 4]), (3, [0, 3, 4, 6]), (4, [0, 3, 4]), (5, [0, 3, 4, 14]), (6, [0, 3, 4]), (7, [2])], [(3, [0, 3, 4])], []⟩
def o51_0 : List AOper := [⟨some 2, (.mov (.const (.int .i64 0))), false, none⟩]
def c51_1 : ACode := (.region o51_0 [0])
def w51_1 (_P : Program) (Q : Exit → Slots → Mem → Prop) (M : Mem) (v0 : V) : Prop :=
  Q .normal [(0, v0)] M
theorem e51_1 (P : Program) (Q : Exit → Slots → Mem → Prop) (s : Slots) (M : Mem) : wpC P c51_1 Q s M = w51_1 P Q M (sget s 0) := by kernel_rfl
def o51_2 : List AOper := [⟨some 3, (.mov (.const (.int .i64 0))), false, none⟩]
def c51_3 : ACode := (.region o51_2 [0, 3])
def w51_3 (_P : Program) (Q : Exit → Slots → Mem → Prop) (M : Mem) (v0 : V) : Prop :=
  Q .normal [(0, v0), (3, (.int .i64 0))] M
theorem e51_3 (P : Program) (Q : Exit → Slots → Mem → Prop) (s : Slots) (M : Mem) : wpC P c51_3 Q s M = w51_3 P Q M (sget s 0) := by kernel_rfl
def o51_4 : List AOper := [⟨some 4, (.mov (.const (.int .i64 0))), false, none⟩]
def c51_5 : ACode := (.region o51_4 [0, 3, 4])
def w51_5 (_P : Program) (Q : Exit → Slots → Mem → Prop) (M : Mem) (v0 : V) (v3 : V) : Prop :=
  Q .normal [(0, v0), (3, v3), (4, (.int .i64 0))] M
theorem e51_5 (P : Program) (Q : Exit → Slots → Mem → Prop) (s : Slots) (M : Mem) : wpC P c51_5 Q s M = w51_5 P Q M (sget s 0) (sget s 3) := by kernel_rfl
def o51_6 : List AOper := [⟨some 5, (.mov (.tmp 4)), false, none⟩,
  ⟨some 6, (.bin .lss .none (.tmp 5) (.const (.int .i64 64))), true, none⟩]
def c51_7 : ACode := (.seq (.region o51_6 [0, 3, 4, 6]) (.cond (.tmp 6) .skip (.exit 0)))
def w51_7 (_P : Program) (Q : Exit → Slots → Mem → Prop) (M : Mem) (v0 : V) (v3 : V) (v4 : V) : Prop :=
  @OptBH (binV .lss .none v4 (.int .i64 64)) ⟨fun b6_2 =>
  @BIfH b6_2
  ⟨Q .normal [(0, v0), (3, v3), (4, v4), (6, (.bool b6_2))] M⟩
  ⟨Q (.exit 0) [(0, v0), (3, v3), (4, v4), (6, (.bool b6_2))] M⟩⟩
theorem e51_7 (P : Program) (Q : Exit → Slots → Mem → Prop) (s : Slots) (M : Mem) : wpC P c51_7 Q s M = w51_7 P Q M (sget s 0) (sget s 3) (sget s 4) := by kernel_rfl
def o51_8 : List AOper := [⟨some 15, (.mov (.tmp 3)), false, none⟩,
  ⟨some 16, (.bin .add .none (.tmp 15) (.const (.int .i64 1))), false, none⟩,
  ⟨some 3, (.mov (.tmp 16)), false, none⟩]
def c51_9 : ACode := (.region o51_8 [0, 3, 4])
def w51_9 (_P : Program) (Q : Exit → Slots → Mem → Prop) (M : Mem) (v0 : V) (v3 : V) (v4 : V) : Prop :=
  @OptVH (binV .add .none v3 (.int .i64 1)) ⟨fun t16_2 =>
  Q .normal [(0, v0), (3, t16_2), (4, v4)] M⟩
theorem e51_9 (P : Program) (Q : Exit → Slots → Mem → Prop) (s : Slots) (M : Mem) : wpC P c51_9 Q s M = w51_9 P Q M (sget s 0) (sget s 3) (sget s 4) := by kernel_rfl
def o51_10 : List AOper := [⟨some 9, (.mov (.tmp 0)), false, none⟩,
  ⟨some 10, (.conv .u64 (.tmp 9)), false, none⟩,
  ⟨some 11, (.mov (.tmp 4)), false, none⟩,
  ⟨some 12, (.bin .shr .none (.tmp 10) (.tmp 11)), false, none⟩,
  ⟨some 13, (.bin .and .none (.tmp 12) (.const (.int .u64 1))), false, none⟩,
  ⟨some 14, (.bin .eql .none (.tmp 13) (.const (.int .u64 1))), true, none⟩]
def c51_11 : ACode := (.seq (.region o51_10 [0, 3, 4, 14]) (.cond (.tmp 14) c51_9 .skip))
def w51_11 (P : Program) (Q : Exit → Slots → Mem → Prop) (M : Mem) (v0 : V) (v3 : V) (v4 : V) : Prop :=
  @OptVH (convV .u64 v0) ⟨fun t10_2 =>
  @OptVH (binV .shr .none t10_2 v4) ⟨fun t12_4 =>
  @OptVH (binV .and .none t12_4 (.int .u64 1)) ⟨fun t13_5 =>
  @OptBH (binV .eql .none t13_5 (.int .u64 1)) ⟨fun b14_6 =>
  @BIfH b14_6
  ⟨wpC P c51_9 Q [(0, v0), (3, v3), (4, v4), (14, (.bool b14_6))] M⟩
  ⟨Q .normal [(0, v0), (3, v3), (4, v4), (14, (.bool b14_6))] M⟩⟩⟩⟩⟩
theorem e51_11 (P : Program) (Q : Exit → Slots → Mem → Prop) (s : Slots) (M : Mem) : wpC P c51_11 Q s M = w51_11 P Q M (sget s 0) (sget s 3) (sget s 4) := by kernel_rfl
def c51_12 : ACode := (.block 1 c51_11)
def o51_13 : List AOper := [⟨some 7, (.mov (.tmp 4)), false, none⟩,
  ⟨some 8, (.bin .add .none (.tmp 7) (.const (.int .i64 1))), false, none⟩,
  ⟨some 4, (.mov (.tmp 8)), false, none⟩]
def c51_14 : ACode := (.region o51_13 [0, 3, 4])
def w51_14 (_P : Program) (Q : Exit → Slots → Mem → Prop) (M : Mem) (v0 : V) (v3 : V) (v4 : V) : Prop :=
  @OptVH (binV .add .none v4 (.int .i64 1)) ⟨fun t8_2 =>
  Q .normal [(0, v0), (3, v3), (4, t8_2)] M⟩
theorem e51_14 (P : Program) (Q : Exit → Slots → Mem → Prop) (s : Slots) (M : Mem) : wpC P c51_14 Q s M = w51_14 P Q M (sget s 0) (sget s 3) (sget s 4) := by kernel_rfl
def c51_15 : ACode := (.seq c51_12 c51_14)
def c51_16 : ACode := (.seq c51_7 c51_15)
def c51_17 : ACode := (.loop [0, 3, 4] c51_16)
def c51_18 : ACode := (.block 0 c51_17)
def c51_19 : ACode := (.seq c51_5 c51_18)
def o51_20 : List AOper := [⟨some 17, (.mov (.tmp 3)), false, none⟩,
  ⟨some 2, (.mov (.tmp 17)), false, none⟩]
def c51_21 : ACode := (.region o51_20 [2])
def w51_21 (_P : Program) (Q : Exit → Slots → Mem → Prop) (M : Mem) (v3 : V) : Prop :=
  Q .normal [(2, v3)] M
theorem e51_21 (P : Program) (Q : Exit → Slots → Mem → Prop) (s : Slots) (M : Mem) : wpC P c51_21 Q s M = w51_21 P Q M (sget s 3) := by kernel_rfl
def c51_22 : ACode := (.seq c51_21 .ret)
def c51_23 : ACode := (.seq c51_19 c51_22)
def c51_24 : ACode := (.seq c51_3 c51_23)
def c51_25 : ACode := (.seq c51_1 c51_24)
def fn_transitref35_bits : AFn := ⟨18, [(.tmp 2)], c51_25⟩
theorem fn_transitref35_bits_ok : resFn PR h_transitref35_bits i_transitref35_bits = some fn_transitref35_bits := by kernel_rfl

end Go.Vm.C
