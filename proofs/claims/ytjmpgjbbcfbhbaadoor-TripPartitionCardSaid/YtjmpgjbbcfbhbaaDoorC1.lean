/- The abstract code of the functions that the statements reach, printed by a program, each with the equation that it is what the loaded program says. Part 1. -/
import Derived.Test.YtjmpgjbbcfbhbaaDoorC0
namespace Go.Vm.C
open Go.Vm
def h_transitref17_Overtakes : Hints := ⟨[(0, [2, 3]), (1, [2, 3, 10]), (2, [4]), (3, [2, 3, 5]), (4, [2, 3, 5, 16]), (5, [2, 3, 5]), (6, [2, 3, 5, 6]), (7, [2, 3, 5, 6, 26]), (8, [2, 3, 5, 6]), (9, [2, 3, 5, 6, 44]), (10, [4]), (11, [4])], [(4, [2, 3, 5]), (7, [2, 3, 5, 6])], []⟩
def o26_0 : List AOper := [⟨some 2, (.box 5 (.tmp 0)), false, none⟩,
  ⟨some 3, (.box 5 (.tmp 1)), false, none⟩,
  ⟨some 4, (.mov (.const (.bool false))), true, none⟩]
def c26_1 : ACode := (.region o26_0 [2, 3])
def w26_1 (_P : Program) (Q : Exit → Slots → Mem → Prop) (M : Mem) (v0 : V) (v1 : V) : Prop :=
  @OptMH (boxV 5 v0 M) ⟨fun t2_1 M1 =>
  @OptMH (boxV 5 v1 M1) ⟨fun t3_2 M2 =>
  Q .normal [(2, t2_1), (3, t3_2)] M2⟩⟩
theorem e26_1 (P : Program) (Q : Exit → Slots → Mem → Prop) (s : Slots) (M : Mem) : wpC P c26_1 Q s M = w26_1 P Q M (sget s 0) (sget s 1) := by kernel_rfl
def o26_2 : List AOper := [⟨some 4, (.mov (.const (.bool false))), true, none⟩]
def c26_3 : ACode := (.region o26_2 [4])
def w26_3 (_P : Program) (Q : Exit → Slots → Mem → Prop) (M : Mem) : Prop :=
  Q .normal [(4, (.bool false))] M
theorem e26_3 (P : Program) (Q : Exit → Slots → Mem → Prop) (s : Slots) (M : Mem) : wpC P c26_3 Q s M = w26_3 P Q M := by kernel_rfl
def c26_4 : ACode := (.seq c26_3 .ret)
def o26_5 : List AOper := [⟨some 7, (.load 5 true (.tmp 2)), false, none⟩,
  ⟨some 8, (.load 5 true (.tmp 3)), false, none⟩,
  ⟨some 9, (.call i_transitref17_SamePattern [(.tmp 7), (.tmp 8)]), true, none⟩,
  ⟨some 10, (.un .not (.tmp 9)), true, none⟩]
def c26_6 : ACode := (.seq (.region o26_5 [2, 3, 10]) (.cond (.tmp 10) c26_4 .skip))
def w26_6 (P : Program) (Q : Exit → Slots → Mem → Prop) (M : Mem) (v2 : V) (v3 : V) : Prop :=
  @OptVH (loadV 5 true v2 M) ⟨fun t7_1 =>
  @OptVH (loadV 5 true v3 M) ⟨fun t8_2 =>
  @CallH P i_transitref17_SamePattern [t7_1, t8_2] M ⟨fun t9_3 M3 => @OptBH (some t9_3) ⟨fun b9_3 =>
  @OptBH (unV .not (.bool b9_3)) ⟨fun b10_4 =>
  @BIfH b10_4
  ⟨wpC P c26_4 Q [(2, v2), (3, v3), (10, (.bool b10_4))] M3⟩
  ⟨Q .normal [(2, v2), (3, v3), (10, (.bool b10_4))] M3⟩⟩⟩⟩⟩⟩
theorem e26_6 (P : Program) (Q : Exit → Slots → Mem → Prop) (s : Slots) (M : Mem) : wpC P c26_6 Q s M = w26_6 P Q M (sget s 2) (sget s 3) := by kernel_rfl
def o26_7 : List AOper := [⟨some 5, (.mov (.const (.int .i64 0))), false, none⟩]
def c26_8 : ACode := (.region o26_7 [2, 3, 5])
def w26_8 (_P : Program) (Q : Exit → Slots → Mem → Prop) (M : Mem) (v2 : V) (v3 : V) : Prop :=
  Q .normal [(2, v2), (3, v3), (5, (.int .i64 0))] M
theorem e26_8 (P : Program) (Q : Exit → Slots → Mem → Prop) (s : Slots) (M : Mem) : wpC P c26_8 Q s M = w26_8 P Q M (sget s 2) (sget s 3) := by kernel_rfl
def o26_9 : List AOper := [⟨some 11, (.mov (.tmp 5)), false, none⟩,
  ⟨some 12, (.fieldAddr 4 (.tmp 2)), false, none⟩,
  ⟨some 13, (.load 1 false (.tmp 12)), false, none⟩,
  ⟨some 14, (.lenSl (.tmp 13)), false, none⟩,
  ⟨some 15, (.bin .mul .none (.const (.int .i64 2)) (.tmp 14)), false, none⟩,
  ⟨some 16, (.bin .lss .none (.tmp 11) (.tmp 15)), true, none⟩]
def c26_10 : ACode := (.seq (.region o26_9 [2, 3, 5, 16]) (.cond (.tmp 16) .skip (.exit 0)))
def w26_10 (_P : Program) (Q : Exit → Slots → Mem → Prop) (M : Mem) (v2 : V) (v3 : V) (v5 : V) : Prop :=
  @OptVH (moveV 4 v2) ⟨fun t12_2 =>
  @OptVH (loadV 1 false t12_2 M) ⟨fun t13_3 =>
  @OptVH (lenV t13_3 M) ⟨fun t14_4 =>
  @OptVH (binV .mul .none (.int .i64 2) t14_4) ⟨fun t15_5 =>
  @OptBH (binV .lss .none v5 t15_5) ⟨fun b16_6 =>
  @BIfH b16_6
  ⟨Q .normal [(2, v2), (3, v3), (5, v5), (16, (.bool b16_6))] M⟩
  ⟨Q (.exit 0) [(2, v2), (3, v3), (5, v5), (16, (.bool b16_6))] M⟩⟩⟩⟩⟩⟩
theorem e26_10 (P : Program) (Q : Exit → Slots → Mem → Prop) (s : Slots) (M : Mem) : wpC P c26_10 Q s M = w26_10 P Q M (sget s 2) (sget s 3) (sget s 5) := by kernel_rfl
def o26_11 : List AOper := [⟨some 19, (.mov (.tmp 5)), false, none⟩,
  ⟨some 20, (.bin .add .none (.tmp 19) (.const (.int .i64 1))), false, none⟩,
  ⟨some 6, (.mov (.tmp 20)), false, none⟩]
def c26_12 : ACode := (.region o26_11 [2, 3, 5, 6])
def w26_12 (_P : Program) (Q : Exit → Slots → Mem → Prop) (M : Mem) (v2 : V) (v3 : V) (v5 : V) : Prop :=
  @OptVH (binV .add .none v5 (.int .i64 1)) ⟨fun t20_2 =>
  Q .normal [(2, v2), (3, v3), (5, v5), (6, t20_2)] M⟩
theorem e26_12 (P : Program) (Q : Exit → Slots → Mem → Prop) (s : Slots) (M : Mem) : wpC P c26_12 Q s M = w26_12 P Q M (sget s 2) (sget s 3) (sget s 5) := by kernel_rfl
def o26_13 : List AOper := [⟨some 21, (.mov (.tmp 6)), false, none⟩,
  ⟨some 22, (.fieldAddr 4 (.tmp 2)), false, none⟩,
  ⟨some 23, (.load 1 false (.tmp 22)), false, none⟩,
  ⟨some 24, (.lenSl (.tmp 23)), false, none⟩,
  ⟨some 25, (.bin .mul .none (.const (.int .i64 2)) (.tmp 24)), false, none⟩,
  ⟨some 26, (.bin .lss .none (.tmp 21) (.tmp 25)), true, none⟩]
def c26_14 : ACode := (.seq (.region o26_13 [2, 3, 5, 6, 26]) (.cond (.tmp 26) .skip (.exit 2)))
def w26_14 (_P : Program) (Q : Exit → Slots → Mem → Prop) (M : Mem) (v2 : V) (v3 : V) (v5 : V) (v6 : V) : Prop :=
  @OptVH (moveV 4 v2) ⟨fun t22_2 =>
  @OptVH (loadV 1 false t22_2 M) ⟨fun t23_3 =>
  @OptVH (lenV t23_3 M) ⟨fun t24_4 =>
  @OptVH (binV .mul .none (.int .i64 2) t24_4) ⟨fun t25_5 =>
  @OptBH (binV .lss .none v6 t25_5) ⟨fun b26_6 =>
  @BIfH b26_6
  ⟨Q .normal [(2, v2), (3, v3), (5, v5), (6, v6), (26, (.bool b26_6))] M⟩
  ⟨Q (.exit 2) [(2, v2), (3, v3), (5, v5), (6, v6), (26, (.bool b26_6))] M⟩⟩⟩⟩⟩⟩
theorem e26_14 (P : Program) (Q : Exit → Slots → Mem → Prop) (s : Slots) (M : Mem) : wpC P c26_14 Q s M = w26_14 P Q M (sget s 2) (sget s 3) (sget s 5) (sget s 6) := by kernel_rfl
def o26_15 : List AOper := [⟨some 4, (.mov (.const (.bool true))), true, none⟩]
def c26_16 : ACode := (.region o26_15 [4])
def w26_16 (_P : Program) (Q : Exit → Slots → Mem → Prop) (M : Mem) : Prop :=
  Q .normal [(4, (.bool true))] M
theorem e26_16 (P : Program) (Q : Exit → Slots → Mem → Prop) (s : Slots) (M : Mem) : wpC P c26_16 Q s M = w26_16 P Q M := by kernel_rfl
def c26_17 : ACode := (.seq c26_16 .ret)
def o26_18 : List AOper := [⟨some 29, (.load 5 true (.tmp 2)), false, none⟩,
  ⟨some 30, (.mov (.tmp 5)), false, none⟩,
  ⟨some 31, (.call i_transitref17_event [(.tmp 29), (.tmp 30)]), false, none⟩,
  ⟨some 32, (.load 5 true (.tmp 3)), false, none⟩,
  ⟨some 33, (.mov (.tmp 5)), false, none⟩,
  ⟨some 34, (.call i_transitref17_event [(.tmp 32), (.tmp 33)]), false, none⟩,
  ⟨some 35, (.bin .gtr .none (.tmp 31) (.tmp 34)), true, none⟩,
  ⟨some 36, (.mov (.tmp 35)), true, none⟩,
  ⟨some 37, (.load 5 true (.tmp 2)), false, some (36, true)⟩,
  ⟨some 38, (.mov (.tmp 6)), false, some (36, true)⟩,
  ⟨some 39, (.call i_transitref17_event [(.tmp 37), (.tmp 38)]), false, some (36, true)⟩,
  ⟨some 40, (.load 5 true (.tmp 3)), false, some (36, true)⟩,
  ⟨some 41, (.mov (.tmp 6)), false, some (36, true)⟩,
  ⟨some 42, (.call i_transitref17_event [(.tmp 40), (.tmp 41)]), false, some (36, true)⟩,
  ⟨some 43, (.bin .lss .none (.tmp 39) (.tmp 42)), true, some (36, true)⟩,
  ⟨some 44, (.pick (.tmp 36) (.tmp 43) (.const (.bool false))), true, none⟩]
def c26_19 : ACode := (.seq (.mixed o26_18 [true, true, true, true, true, false, true, true, true, true, true, true, true, false, true, true] [2, 3, 5, 6, 44]) (.cond (.tmp 44) c26_17 .skip))
def w26_19 (P : Program) (Q : Exit → Slots → Mem → Prop) (M : Mem) (v2 : V) (v3 : V) (v5 : V) (v6 : V) : Prop :=
  @OptVH (loadV 5 true v2 M) ⟨fun t29_1 =>
  @CallQ P i_transitref17_event [t29_1, v5] M ⟨fun t31_3 M3 =>
  @OptVH (loadV 5 true v3 M3) ⟨fun t32_4 =>
  @CallH P i_transitref17_event [t32_4, v5] M3 ⟨fun t34_6 M6 =>
  @OptBH (binV .gtr .none t31_3 t34_6) ⟨fun b35_7 =>
  @BIfH b35_7
  ⟨@OptVH (loadV 5 true v2 M6) ⟨fun t37_9 =>
  @CallQ P i_transitref17_event [t37_9, v6] M6 ⟨fun t39_11 M11 =>
  @OptVH (loadV 5 true v3 M11) ⟨fun t40_12 =>
  @CallH P i_transitref17_event [t40_12, v6] M11 ⟨fun t42_14 M14 =>
  @OptBH (binV .lss .none t39_11 t42_14) ⟨fun b43_15 =>
  @BIfH b43_15
  ⟨wpC P c26_17 Q [(2, v2), (3, v3), (5, v5), (6, v6), (44, (.bool b43_15))] M14⟩
  ⟨Q .normal [(2, v2), (3, v3), (5, v5), (6, v6), (44, (.bool b43_15))] M14⟩⟩⟩⟩⟩⟩⟩
  ⟨Q .normal [(2, v2), (3, v3), (5, v5), (6, v6), (44, (.bool false))] M6⟩⟩⟩⟩⟩⟩
theorem e26_19 (P : Program) (Q : Exit → Slots → Mem → Prop) (s : Slots) (M : Mem) : wpC P c26_19 Q s M = w26_19 P Q M (sget s 2) (sget s 3) (sget s 5) (sget s 6) := by kernel_rfl
def c26_20 : ACode := (.block 3 c26_19)
def o26_21 : List AOper := [⟨some 27, (.mov (.tmp 6)), false, none⟩,
  ⟨some 28, (.bin .add .none (.tmp 27) (.const (.int .i64 1))), false, none⟩,
  ⟨some 6, (.mov (.tmp 28)), false, none⟩]
def c26_22 : ACode := (.region o26_21 [2, 3, 5, 6])
def w26_22 (_P : Program) (Q : Exit → Slots → Mem → Prop) (M : Mem) (v2 : V) (v3 : V) (v5 : V) (v6 : V) : Prop :=
  @OptVH (binV .add .none v6 (.int .i64 1)) ⟨fun t28_2 =>
  Q .normal [(2, v2), (3, v3), (5, v5), (6, t28_2)] M⟩
theorem e26_22 (P : Program) (Q : Exit → Slots → Mem → Prop) (s : Slots) (M : Mem) : wpC P c26_22 Q s M = w26_22 P Q M (sget s 2) (sget s 3) (sget s 5) (sget s 6) := by kernel_rfl
def c26_23 : ACode := (.seq c26_20 c26_22)
def c26_24 : ACode := (.seq c26_14 c26_23)
def c26_25 : ACode := (.loop [2, 3, 5, 6] c26_24)
def c26_26 : ACode := (.block 2 c26_25)
def c26_27 : ACode := (.seq c26_12 c26_26)
def c26_28 : ACode := (.block 1 c26_27)
def o26_29 : List AOper := [⟨some 17, (.mov (.tmp 5)), false, none⟩,
  ⟨some 18, (.bin .add .none (.tmp 17) (.const (.int .i64 1))), false, none⟩,
  ⟨some 5, (.mov (.tmp 18)), false, none⟩]
def c26_30 : ACode := (.region o26_29 [2, 3, 5])
def w26_30 (_P : Program) (Q : Exit → Slots → Mem → Prop) (M : Mem) (v2 : V) (v3 : V) (v5 : V) : Prop :=
  @OptVH (binV .add .none v5 (.int .i64 1)) ⟨fun t18_2 =>
  Q .normal [(2, v2), (3, v3), (5, t18_2)] M⟩
theorem e26_30 (P : Program) (Q : Exit → Slots → Mem → Prop) (s : Slots) (M : Mem) : wpC P c26_30 Q s M = w26_30 P Q M (sget s 2) (sget s 3) (sget s 5) := by kernel_rfl
def c26_31 : ACode := (.seq c26_28 c26_30)
def c26_32 : ACode := (.seq c26_10 c26_31)
def c26_33 : ACode := (.loop [2, 3, 5] c26_32)
def c26_34 : ACode := (.block 0 c26_33)
def c26_35 : ACode := (.seq c26_8 c26_34)
def o26_36 : List AOper := [⟨some 4, (.mov (.const (.bool false))), true, none⟩]
def c26_37 : ACode := (.region o26_36 [4])
def w26_37 (_P : Program) (Q : Exit → Slots → Mem → Prop) (M : Mem) : Prop :=
  Q .normal [(4, (.bool false))] M
theorem e26_37 (P : Program) (Q : Exit → Slots → Mem → Prop) (s : Slots) (M : Mem) : wpC P c26_37 Q s M = w26_37 P Q M := by kernel_rfl
def c26_38 : ACode := (.seq c26_37 .ret)
def c26_39 : ACode := (.seq c26_35 c26_38)
def c26_40 : ACode := (.seq c26_6 c26_39)
def c26_41 : ACode := (.seq c26_1 c26_40)
def fn_transitref17_Overtakes : AFn := ⟨45, [(.tmp 4)], c26_41⟩
theorem fn_transitref17_Overtakes_ok : resFn PR h_transitref17_Overtakes i_transitref17_Overtakes = some fn_transitref17_Overtakes := by kernel_rfl

def h_trip_Between : Hints := ⟨[(0, [0, 1, 2]), (1, [0, 1, 2, 7]), (2, [1, 2, 7, 10, 11, 12]), (3, [1, 2, 7, 10, 11, 12, 13]), (4, [1, 2, 7, 8, 9, 10, 11, 12]), (5, [1, 2, 7, 8, 10, 11, 12, 20]), (6, [1, 2, 7, 10, 11, 12]), (7, [1, 2, 7, 10, 11, 12]), (8, [6])], [(3, [1, 2, 7, 10, 11, 12])], [(1, [0])]⟩
def o27_0 : List AOper := [⟨some 6, (.mov (.const (.slice [] .nil))), false, none⟩]
def c27_1 : ACode := (.region o27_0 [0, 1, 2])
def w27_1 (_P : Program) (Q : Exit → Slots → Mem → Prop) (M : Mem) (v0 : V) (v1 : V) (v2 : V) : Prop :=
  Q .normal [(0, v0), (1, v1), (2, v2)] M
theorem e27_1 (P : Program) (Q : Exit → Slots → Mem → Prop) (s : Slots) (M : Mem) : wpC P c27_1 Q s M = w27_1 P Q M (sget s 0) (sget s 1) (sget s 2) := by kernel_rfl
def o27_2 : List AOper := [⟨some 7, (.newarr 1), false, none⟩]
def c27_3 : ACode := (.region o27_2 [0, 1, 2, 7])
def w27_3 (_P : Program) (Q : Exit → Slots → Mem → Prop) (M : Mem) (v0 : V) (v1 : V) (v2 : V) : Prop :=
  @OptMH (newarrV 1 M) ⟨fun t7_1 M1 =>
  Q .normal [(0, v0), (1, v1), (2, v2), (7, t7_1)] M1⟩
theorem e27_3 (P : Program) (Q : Exit → Slots → Mem → Prop) (s : Slots) (M : Mem) : wpC P c27_3 Q s M = w27_3 P Q M (sget s 0) (sget s 1) (sget s 2) := by kernel_rfl
def o27_4 : List AOper := [⟨some 10, (.mov (.tmp 0)), false, none⟩,
  ⟨some 11, (.lenSl (.tmp 10)), false, none⟩,
  ⟨some 12, (.mov (.const (.int .i64 0))), false, none⟩]
def c27_5 : ACode := (.region o27_4 [1, 2, 7, 10, 11, 12])
def w27_5 (_P : Program) (Q : Exit → Slots → Mem → Prop) (M : Mem) (v0 : V) (v1 : V) (v2 : V) (v7 : V) : Prop :=
  @OptVH (lenV v0 M) ⟨fun t11_2 =>
  Q .normal [(1, v1), (2, v2), (7, v7), (10, v0), (11, t11_2), (12, (.int .i64 0))] M⟩
theorem e27_5 (P : Program) (Q : Exit → Slots → Mem → Prop) (s : Slots) (M : Mem) : wpC P c27_5 Q s M = w27_5 P Q M (sget s 0) (sget s 1) (sget s 2) (sget s 7) := by kernel_rfl
def o27_6 : List AOper := [⟨some 13, (.bin .lss .none (.tmp 12) (.tmp 11)), false, none⟩]
def c27_7 : ACode := (.region o27_6 [1, 2, 7, 10, 11, 12, 13])
def w27_7 (_P : Program) (Q : Exit → Slots → Mem → Prop) (M : Mem) (v1 : V) (v2 : V) (v7 : V) (v10 : V) (v11 : V) (v12 : V) : Prop :=
  @OptVH (binV .lss .none v12 v11) ⟨fun t13_1 =>
  Q .normal [(1, v1), (2, v2), (7, v7), (10, v10), (11, v11), (12, v12), (13, t13_1)] M⟩
theorem e27_7 (P : Program) (Q : Exit → Slots → Mem → Prop) (s : Slots) (M : Mem) : wpC P c27_7 Q s M = w27_7 P Q M (sget s 1) (sget s 2) (sget s 7) (sget s 10) (sget s 11) (sget s 12) := by kernel_rfl
def c27_8 : ACode := (.cond (.tmp 13) .skip (.exit 0))
def o27_9 : List AOper := [⟨some 14, (.mov (.tmp 12)), false, none⟩,
  ⟨some 15, (.indexSl 5 (.tmp 10) (.tmp 12)), false, none⟩,
  ⟨some 16, (.load 5 true (.tmp 15)), false, none⟩,
  ⟨some 9, (.alloc [(.str []), (.int .i64 0), (.int .i64 0), (.bool false), (.slice [] .nil)]), false, none⟩,
  ⟨some 8, (.mov (.tmp 14)), false, none⟩,
  ⟨none, (.store 5 (.tmp 9) (.tmp 16)), false, none⟩]
def c27_10 : ACode := (.region o27_9 [1, 2, 7, 8, 9, 10, 11, 12])
def w27_10 (_P : Program) (Q : Exit → Slots → Mem → Prop) (M : Mem) (v1 : V) (v2 : V) (v7 : V) (v10 : V) (v11 : V) (v12 : V) : Prop :=
  @OptVH (indexSlV 5 v10 v12 M) ⟨fun t15_2 =>
  @OptVH (loadV 5 true t15_2 M) ⟨fun t16_3 =>
  @OptMH (allocV [(.str []), (.int .i64 0), (.int .i64 0), (.bool false), (.slice [] .nil)] M) ⟨fun t9_4 M4 =>
  @OptMH (storeVM 5 t9_4 t16_3 M4) ⟨fun _tx_6 M6 =>
  Q .normal [(1, v1), (2, v2), (7, v7), (8, v12), (9, t9_4), (10, v10), (11, v11), (12, v12)] M6⟩⟩⟩⟩
theorem e27_10 (P : Program) (Q : Exit → Slots → Mem → Prop) (s : Slots) (M : Mem) : wpC P c27_10 Q s M = w27_10 P Q M (sget s 1) (sget s 2) (sget s 7) (sget s 10) (sget s 11) (sget s 12) := by kernel_rfl
def o27_11 : List AOper := [⟨some 21, (.mov (.tmp 7)), false, none⟩,
  ⟨some 22, (.mov (.tmp 8)), false, none⟩,
  ⟨some 23, (.buildSlice [(.int .i64 0)] 1 1 [(0, (1, (.tmp 22)))]), false, none⟩,
  ⟨some 24, (.append false 1 8 (.tmp 21) (.tmp 23)), false, none⟩,
  ⟨some 7, (.mov (.tmp 24)), false, none⟩]
def c27_12 : ACode := (.region o27_11 [1, 2, 7, 10, 11, 12])
def w27_12 (_P : Program) (Q : Exit → Slots → Mem → Prop) (M : Mem) (v1 : V) (v2 : V) (v7 : V) (v8 : V) (v10 : V) (v11 : V) (v12 : V) : Prop :=
  @OptVH (buildSliceV [(.int .i64 0)] 1 1 [(0, 1, v8)]) ⟨fun t23_3 =>
  @OptMH (appV false 1 8 v7 t23_3 M) ⟨fun t24_4 M4 =>
  Q .normal [(1, v1), (2, v2), (7, t24_4), (10, v10), (11, v11), (12, v12)] M4⟩⟩
theorem e27_12 (P : Program) (Q : Exit → Slots → Mem → Prop) (s : Slots) (M : Mem) : wpC P c27_12 Q s M = w27_12 P Q M (sget s 1) (sget s 2) (sget s 7) (sget s 8) (sget s 10) (sget s 11) (sget s 12) := by kernel_rfl
def o27_13 : List AOper := [⟨some 17, (.load 5 true (.tmp 9)), false, none⟩,
  ⟨some 18, (.mov (.tmp 1)), false, none⟩,
  ⟨some 19, (.mov (.tmp 2)), false, none⟩,
  ⟨some 20, (.call i_trip_connects [(.tmp 17), (.tmp 18), (.tmp 19)]), true, none⟩]
def c27_14 : ACode := (.seq (.region o27_13 [1, 2, 7, 8, 10, 11, 12, 20]) (.cond (.tmp 20) c27_12 .skip))
def w27_14 (P : Program) (Q : Exit → Slots → Mem → Prop) (M : Mem) (v1 : V) (v2 : V) (v7 : V) (v8 : V) (v9 : V) (v10 : V) (v11 : V) (v12 : V) : Prop :=
  @OptVH (loadV 5 true v9 M) ⟨fun t17_1 =>
  @CallH P i_trip_connects [t17_1, v1, v2] M ⟨fun t20_4 M4 => @OptBH (some t20_4) ⟨fun b20_4 =>
  @BIfH b20_4
  ⟨wpC P c27_12 Q [(1, v1), (2, v2), (7, v7), (8, v8), (10, v10), (11, v11), (12, v12), (20, (.bool b20_4))] M4⟩
  ⟨Q .normal [(1, v1), (2, v2), (7, v7), (8, v8), (10, v10), (11, v11), (12, v12), (20, (.bool b20_4))] M4⟩⟩⟩⟩
theorem e27_14 (P : Program) (Q : Exit → Slots → Mem → Prop) (s : Slots) (M : Mem) : wpC P c27_14 Q s M = w27_14 P Q M (sget s 1) (sget s 2) (sget s 7) (sget s 8) (sget s 9) (sget s 10) (sget s 11) (sget s 12) := by kernel_rfl
def c27_15 : ACode := (.seq c27_10 c27_14)
def c27_16 : ACode := (.block 1 c27_15)
def o27_17 : List AOper := [⟨some 25, (.bin .add .none (.tmp 12) (.const (.int .i64 1))), false, none⟩,
  ⟨some 12, (.mov (.tmp 25)), false, none⟩]
def c27_18 : ACode := (.region o27_17 [1, 2, 7, 10, 11, 12])
def w27_18 (_P : Program) (Q : Exit → Slots → Mem → Prop) (M : Mem) (v1 : V) (v2 : V) (v7 : V) (v10 : V) (v11 : V) (v12 : V) : Prop :=
  @OptVH (binV .add .none v12 (.int .i64 1)) ⟨fun t25_1 =>
  Q .normal [(1, v1), (2, v2), (7, v7), (10, v10), (11, v11), (12, t25_1)] M⟩
theorem e27_18 (P : Program) (Q : Exit → Slots → Mem → Prop) (s : Slots) (M : Mem) : wpC P c27_18 Q s M = w27_18 P Q M (sget s 1) (sget s 2) (sget s 7) (sget s 10) (sget s 11) (sget s 12) := by kernel_rfl
def c27_19 : ACode := (.seq c27_16 c27_18)
def c27_20 : ACode := (.seq c27_8 c27_19)
def c27_21 : ACode := (.seq c27_7 c27_20)
def c27_22 : ACode := (.loop [1, 2, 7, 10, 11, 12] c27_21)
def c27_23 : ACode := (.block 0 c27_22)
def c27_24 : ACode := (.seq c27_5 c27_23)
def o27_25 : List AOper := [⟨some 26, (.mov (.tmp 7)), false, none⟩,
  ⟨some 6, (.mov (.tmp 26)), false, none⟩]
def c27_26 : ACode := (.region o27_25 [6])
def w27_26 (_P : Program) (Q : Exit → Slots → Mem → Prop) (M : Mem) (v7 : V) : Prop :=
  Q .normal [(6, v7)] M
theorem e27_26 (P : Program) (Q : Exit → Slots → Mem → Prop) (s : Slots) (M : Mem) : wpC P c27_26 Q s M = w27_26 P Q M (sget s 7) := by kernel_rfl
def c27_27 : ACode := (.seq c27_26 .ret)
def c27_28 : ACode := (.seq c27_24 c27_27)
def c27_29 : ACode := (.seq c27_3 c27_28)
def c27_30 : ACode := (.seq c27_1 c27_29)
def fn_trip_Between : AFn := ⟨27, [(.tmp 6)], c27_30⟩
theorem fn_trip_Between_ok : resFn PR h_trip_Between i_trip_Between = some fn_trip_Between := by kernel_rfl

def h_transitref17_Connects : Hints := ⟨[(0, [1, 2, 3]), (1, [1, 2, 3, 7]), (2, [1, 2, 3, 7, 13]), (3, [1, 2, 3, 7]), (4, [1, 2, 3, 7, 8]), (5, [1, 2, 3, 7, 8, 22]), (6, [1, 2, 3, 7, 8]), (7, [1, 2, 3, 7, 8, 58]), (8, [6]), (9, [6])], [(2, [1, 2, 3, 7]), (5, [1, 2, 3, 7, 8])], []⟩
def o28_0 : List AOper := [⟨some 3, (.box 5 (.tmp 0)), false, none⟩,
  ⟨some 6, (.mov (.const (.bool false))), true, none⟩]
def c28_1 : ACode := (.region o28_0 [1, 2, 3])
def w28_1 (_P : Program) (Q : Exit → Slots → Mem → Prop) (M : Mem) (v0 : V) (v1 : V) (v2 : V) : Prop :=
  @OptMH (boxV 5 v0 M) ⟨fun t3_1 M1 =>
  Q .normal [(1, v1), (2, v2), (3, t3_1)] M1⟩
theorem e28_1 (P : Program) (Q : Exit → Slots → Mem → Prop) (s : Slots) (M : Mem) : wpC P c28_1 Q s M = w28_1 P Q M (sget s 0) (sget s 1) (sget s 2) := by kernel_rfl
def o28_2 : List AOper := [⟨some 7, (.mov (.const (.int .i64 0))), false, none⟩]
def c28_3 : ACode := (.region o28_2 [1, 2, 3, 7])
def w28_3 (_P : Program) (Q : Exit → Slots → Mem → Prop) (M : Mem) (v1 : V) (v2 : V) (v3 : V) : Prop :=
  Q .normal [(1, v1), (2, v2), (3, v3), (7, (.int .i64 0))] M
theorem e28_3 (P : Program) (Q : Exit → Slots → Mem → Prop) (s : Slots) (M : Mem) : wpC P c28_3 Q s M = w28_3 P Q M (sget s 1) (sget s 2) (sget s 3) := by kernel_rfl
def o28_4 : List AOper := [⟨some 9, (.mov (.tmp 7)), false, none⟩,
  ⟨some 10, (.fieldAddr 4 (.tmp 3)), false, none⟩,
  ⟨some 11, (.load 1 false (.tmp 10)), false, none⟩,
  ⟨some 12, (.lenSl (.tmp 11)), false, none⟩,
  ⟨some 13, (.bin .lss .none (.tmp 9) (.tmp 12)), true, none⟩]
def c28_5 : ACode := (.seq (.region o28_4 [1, 2, 3, 7, 13]) (.cond (.tmp 13) .skip (.exit 0)))
def w28_5 (_P : Program) (Q : Exit → Slots → Mem → Prop) (M : Mem) (v1 : V) (v2 : V) (v3 : V) (v7 : V) : Prop :=
  @OptVH (moveV 4 v3) ⟨fun t10_2 =>
  @OptVH (loadV 1 false t10_2 M) ⟨fun t11_3 =>
  @OptVH (lenV t11_3 M) ⟨fun t12_4 =>
  @OptBH (binV .lss .none v7 t12_4) ⟨fun b13_5 =>
  @BIfH b13_5
  ⟨Q .normal [(1, v1), (2, v2), (3, v3), (7, v7), (13, (.bool b13_5))] M⟩
  ⟨Q (.exit 0) [(1, v1), (2, v2), (3, v3), (7, v7), (13, (.bool b13_5))] M⟩⟩⟩⟩⟩
theorem e28_5 (P : Program) (Q : Exit → Slots → Mem → Prop) (s : Slots) (M : Mem) : wpC P c28_5 Q s M = w28_5 P Q M (sget s 1) (sget s 2) (sget s 3) (sget s 7) := by kernel_rfl
def o28_6 : List AOper := [⟨some 16, (.mov (.tmp 7)), false, none⟩,
  ⟨some 17, (.bin .add .none (.tmp 16) (.const (.int .i64 1))), false, none⟩,
  ⟨some 8, (.mov (.tmp 17)), false, none⟩]
def c28_7 : ACode := (.region o28_6 [1, 2, 3, 7, 8])
def w28_7 (_P : Program) (Q : Exit → Slots → Mem → Prop) (M : Mem) (v1 : V) (v2 : V) (v3 : V) (v7 : V) : Prop :=
  @OptVH (binV .add .none v7 (.int .i64 1)) ⟨fun t17_2 =>
  Q .normal [(1, v1), (2, v2), (3, v3), (7, v7), (8, t17_2)] M⟩
theorem e28_7 (P : Program) (Q : Exit → Slots → Mem → Prop) (s : Slots) (M : Mem) : wpC P c28_7 Q s M = w28_7 P Q M (sget s 1) (sget s 2) (sget s 3) (sget s 7) := by kernel_rfl
def o28_8 : List AOper := [⟨some 18, (.mov (.tmp 8)), false, none⟩,
  ⟨some 19, (.fieldAddr 4 (.tmp 3)), false, none⟩,
  ⟨some 20, (.load 1 false (.tmp 19)), false, none⟩,
  ⟨some 21, (.lenSl (.tmp 20)), false, none⟩,
  ⟨some 22, (.bin .lss .none (.tmp 18) (.tmp 21)), true, none⟩]
def c28_9 : ACode := (.seq (.region o28_8 [1, 2, 3, 7, 8, 22]) (.cond (.tmp 22) .skip (.exit 2)))
def w28_9 (_P : Program) (Q : Exit → Slots → Mem → Prop) (M : Mem) (v1 : V) (v2 : V) (v3 : V) (v7 : V) (v8 : V) : Prop :=
  @OptVH (moveV 4 v3) ⟨fun t19_2 =>
  @OptVH (loadV 1 false t19_2 M) ⟨fun t20_3 =>
  @OptVH (lenV t20_3 M) ⟨fun t21_4 =>
  @OptBH (binV .lss .none v8 t21_4) ⟨fun b22_5 =>
  @BIfH b22_5
  ⟨Q .normal [(1, v1), (2, v2), (3, v3), (7, v7), (8, v8), (22, (.bool b22_5))] M⟩
  ⟨Q (.exit 2) [(1, v1), (2, v2), (3, v3), (7, v7), (8, v8), (22, (.bool b22_5))] M⟩⟩⟩⟩⟩
theorem e28_9 (P : Program) (Q : Exit → Slots → Mem → Prop) (s : Slots) (M : Mem) : wpC P c28_9 Q s M = w28_9 P Q M (sget s 1) (sget s 2) (sget s 3) (sget s 7) (sget s 8) := by kernel_rfl
def o28_10 : List AOper := [⟨some 6, (.mov (.const (.bool true))), true, none⟩]
def c28_11 : ACode := (.region o28_10 [6])
def w28_11 (_P : Program) (Q : Exit → Slots → Mem → Prop) (M : Mem) : Prop :=
  Q .normal [(6, (.bool true))] M
theorem e28_11 (P : Program) (Q : Exit → Slots → Mem → Prop) (s : Slots) (M : Mem) : wpC P c28_11 Q s M = w28_11 P Q M := by kernel_rfl
def c28_12 : ACode := (.seq c28_11 .ret)
def o28_13 : List AOper := [⟨some 25, (.fieldAddr 4 (.tmp 3)), false, none⟩,
  ⟨some 26, (.load 1 false (.tmp 25)), false, none⟩,
  ⟨some 27, (.mov (.tmp 7)), false, none⟩,
  ⟨some 28, (.indexSl 5 (.tmp 26) (.tmp 27)), false, none⟩,
  ⟨some 29, (.fieldAddr 0 (.tmp 28)), false, none⟩,
  ⟨some 30, (.load 1 false (.tmp 29)), false, none⟩,
  ⟨some 31, (.mov (.tmp 1)), false, none⟩,
  ⟨some 32, (.bin .eql .none (.tmp 30) (.tmp 31)), true, none⟩,
  ⟨some 33, (.mov (.tmp 32)), true, none⟩,
  ⟨some 34, (.fieldAddr 4 (.tmp 3)), false, some (33, true)⟩,
  ⟨some 35, (.load 1 false (.tmp 34)), false, some (33, true)⟩,
  ⟨some 36, (.mov (.tmp 7)), false, some (33, true)⟩,
  ⟨some 37, (.indexSl 5 (.tmp 35) (.tmp 36)), false, some (33, true)⟩,
  ⟨some 38, (.fieldAddr 3 (.tmp 37)), false, some (33, true)⟩,
  ⟨some 39, (.load 1 false (.tmp 38)), true, some (33, true)⟩,
  ⟨some 40, (.pick (.tmp 33) (.tmp 39) (.const (.bool false))), true, none⟩,
  ⟨some 41, (.mov (.tmp 40)), true, none⟩,
  ⟨some 42, (.fieldAddr 4 (.tmp 3)), false, some (41, true)⟩,
  ⟨some 43, (.load 1 false (.tmp 42)), false, some (41, true)⟩,
  ⟨some 44, (.mov (.tmp 8)), false, some (41, true)⟩,
  ⟨some 45, (.indexSl 5 (.tmp 43) (.tmp 44)), false, some (41, true)⟩,
  ⟨some 46, (.fieldAddr 0 (.tmp 45)), false, some (41, true)⟩,
  ⟨some 47, (.load 1 false (.tmp 46)), false, some (41, true)⟩,
  ⟨some 48, (.mov (.tmp 2)), false, some (41, true)⟩,
  ⟨some 49, (.bin .eql .none (.tmp 47) (.tmp 48)), true, some (41, true)⟩,
  ⟨some 50, (.pick (.tmp 41) (.tmp 49) (.const (.bool false))), true, none⟩,
  ⟨some 51, (.mov (.tmp 50)), true, none⟩,
  ⟨some 52, (.fieldAddr 4 (.tmp 3)), false, some (51, true)⟩,
  ⟨some 53, (.load 1 false (.tmp 52)), false, some (51, true)⟩,
  ⟨some 54, (.mov (.tmp 8)), false, some (51, true)⟩,
  ⟨some 55, (.indexSl 5 (.tmp 53) (.tmp 54)), false, some (51, true)⟩,
  ⟨some 56, (.fieldAddr 4 (.tmp 55)), false, some (51, true)⟩,
  ⟨some 57, (.load 1 false (.tmp 56)), true, some (51, true)⟩,
  ⟨some 58, (.pick (.tmp 51) (.tmp 57) (.const (.bool false))), true, none⟩]
def c28_14 : ACode := (.seq (.region o28_13 [1, 2, 3, 7, 8, 58]) (.cond (.tmp 58) c28_12 .skip))
def w28_14 (P : Program) (Q : Exit → Slots → Mem → Prop) (M : Mem) (v1 : V) (v2 : V) (v3 : V) (v7 : V) (v8 : V) : Prop :=
  @OptVH (moveV 4 v3) ⟨fun t25_1 =>
  @OptVH (loadV 1 false t25_1 M) ⟨fun t26_2 =>
  @OptVH (indexSlV 5 t26_2 v7 M) ⟨fun t28_4 =>
  @OptVH (moveV 0 t28_4) ⟨fun t29_5 =>
  @OptVH (loadV 1 false t29_5 M) ⟨fun t30_6 =>
  @OptBH (binV .eql .none t30_6 v1) ⟨fun b32_8 =>
  @BIfH b32_8
  ⟨@OptVH (moveV 4 v3) ⟨fun t34_10 =>
  @OptVH (loadV 1 false t34_10 M) ⟨fun t35_11 =>
  @OptVH (indexSlV 5 t35_11 v7 M) ⟨fun t37_13 =>
  @OptVH (moveV 3 t37_13) ⟨fun t38_14 =>
  @OptBH (loadV 1 false t38_14 M) ⟨fun b39_15 =>
  @BIfH b39_15
  ⟨@OptVH (moveV 4 v3) ⟨fun t42_18 =>
  @OptVH (loadV 1 false t42_18 M) ⟨fun t43_19 =>
  @OptVH (indexSlV 5 t43_19 v8 M) ⟨fun t45_21 =>
  @OptVH (moveV 0 t45_21) ⟨fun t46_22 =>
  @OptVH (loadV 1 false t46_22 M) ⟨fun t47_23 =>
  @OptBH (binV .eql .none t47_23 v2) ⟨fun b49_25 =>
  @BIfH b49_25
  ⟨@OptVH (moveV 4 v3) ⟨fun t52_28 =>
  @OptVH (loadV 1 false t52_28 M) ⟨fun t53_29 =>
  @OptVH (indexSlV 5 t53_29 v8 M) ⟨fun t55_31 =>
  @OptVH (moveV 4 t55_31) ⟨fun t56_32 =>
  @OptBH (loadV 1 false t56_32 M) ⟨fun b57_33 =>
  @BIfH b57_33
  ⟨wpC P c28_12 Q [(1, v1), (2, v2), (3, v3), (7, v7), (8, v8), (58, (.bool b57_33))] M⟩
  ⟨Q .normal [(1, v1), (2, v2), (3, v3), (7, v7), (8, v8), (58, (.bool b57_33))] M⟩⟩⟩⟩⟩⟩⟩
  ⟨Q .normal [(1, v1), (2, v2), (3, v3), (7, v7), (8, v8), (58, (.bool false))] M⟩⟩⟩⟩⟩⟩⟩⟩
  ⟨Q .normal [(1, v1), (2, v2), (3, v3), (7, v7), (8, v8), (58, (.bool false))] M⟩⟩⟩⟩⟩⟩⟩
  ⟨Q .normal [(1, v1), (2, v2), (3, v3), (7, v7), (8, v8), (58, (.bool false))] M⟩⟩⟩⟩⟩⟩⟩
theorem e28_14 (P : Program) (Q : Exit → Slots → Mem → Prop) (s : Slots) (M : Mem) : wpC P c28_14 Q s M = w28_14 P Q M (sget s 1) (sget s 2) (sget s 3) (sget s 7) (sget s 8) := by kernel_rfl
def c28_15 : ACode := (.block 3 c28_14)
def o28_16 : List AOper := [⟨some 23, (.mov (.tmp 8)), false, none⟩,
  ⟨some 24, (.bin .add .none (.tmp 23) (.const (.int .i64 1))), false, none⟩,
  ⟨some 8, (.mov (.tmp 24)), false, none⟩]
def c28_17 : ACode := (.region o28_16 [1, 2, 3, 7, 8])
def w28_17 (_P : Program) (Q : Exit → Slots → Mem → Prop) (M : Mem) (v1 : V) (v2 : V) (v3 : V) (v7 : V) (v8 : V) : Prop :=
  @OptVH (binV .add .none v8 (.int .i64 1)) ⟨fun t24_2 =>
  Q .normal [(1, v1), (2, v2), (3, v3), (7, v7), (8, t24_2)] M⟩
theorem e28_17 (P : Program) (Q : Exit → Slots → Mem → Prop) (s : Slots) (M : Mem) : wpC P c28_17 Q s M = w28_17 P Q M (sget s 1) (sget s 2) (sget s 3) (sget s 7) (sget s 8) := by kernel_rfl
def c28_18 : ACode := (.seq c28_15 c28_17)
def c28_19 : ACode := (.seq c28_9 c28_18)
def c28_20 : ACode := (.loop [1, 2, 3, 7, 8] c28_19)
def c28_21 : ACode := (.block 2 c28_20)
def c28_22 : ACode := (.seq c28_7 c28_21)
def c28_23 : ACode := (.block 1 c28_22)
def o28_24 : List AOper := [⟨some 14, (.mov (.tmp 7)), false, none⟩,
  ⟨some 15, (.bin .add .none (.tmp 14) (.const (.int .i64 1))), false, none⟩,
  ⟨some 7, (.mov (.tmp 15)), false, none⟩]
def c28_25 : ACode := (.region o28_24 [1, 2, 3, 7])
def w28_25 (_P : Program) (Q : Exit → Slots → Mem → Prop) (M : Mem) (v1 : V) (v2 : V) (v3 : V) (v7 : V) : Prop :=
  @OptVH (binV .add .none v7 (.int .i64 1)) ⟨fun t15_2 =>
  Q .normal [(1, v1), (2, v2), (3, v3), (7, t15_2)] M⟩
theorem e28_25 (P : Program) (Q : Exit → Slots → Mem → Prop) (s : Slots) (M : Mem) : wpC P c28_25 Q s M = w28_25 P Q M (sget s 1) (sget s 2) (sget s 3) (sget s 7) := by kernel_rfl
def c28_26 : ACode := (.seq c28_23 c28_25)
def c28_27 : ACode := (.seq c28_5 c28_26)
def c28_28 : ACode := (.loop [1, 2, 3, 7] c28_27)
def c28_29 : ACode := (.block 0 c28_28)
def c28_30 : ACode := (.seq c28_3 c28_29)
def o28_31 : List AOper := [⟨some 6, (.mov (.const (.bool false))), true, none⟩]
def c28_32 : ACode := (.region o28_31 [6])
def w28_32 (_P : Program) (Q : Exit → Slots → Mem → Prop) (M : Mem) : Prop :=
  Q .normal [(6, (.bool false))] M
theorem e28_32 (P : Program) (Q : Exit → Slots → Mem → Prop) (s : Slots) (M : Mem) : wpC P c28_32 Q s M = w28_32 P Q M := by kernel_rfl
def c28_33 : ACode := (.seq c28_32 .ret)
def c28_34 : ACode := (.seq c28_30 c28_33)
def c28_35 : ACode := (.seq c28_1 c28_34)
def fn_transitref17_Connects : AFn := ⟨59, [(.tmp 6)], c28_35⟩
theorem fn_transitref17_Connects_ok : resFn PR h_transitref17_Connects i_transitref17_Connects = some fn_transitref17_Connects := by kernel_rfl

def h_transitlaw17_passes : Hints := ⟨[(0, [0, 1, 2]), (1, [0, 1, 2, 7]), (2, [0, 1, 2, 7, 12]), (3, [0, 1, 2, 7]), (4, [0, 1, 2, 7, 8]), (5, [0, 1, 2, 7, 8, 20]), (6, [0, 1, 2, 7, 8]), (7, [0, 1, 2, 7, 8, 36]), (8, [6]), (9, [6])], [(2, [0, 1, 2, 7]), (5, [0, 1, 2, 7, 8])], []⟩
def o29_0 : List AOper := [⟨some 6, (.mov (.const (.bool false))), true, none⟩]
def c29_1 : ACode := (.region o29_0 [0, 1, 2])
def w29_1 (_P : Program) (Q : Exit → Slots → Mem → Prop) (M : Mem) (v0 : V) (v1 : V) (v2 : V) : Prop :=
  Q .normal [(0, v0), (1, v1), (2, v2)] M
theorem e29_1 (P : Program) (Q : Exit → Slots → Mem → Prop) (s : Slots) (M : Mem) : wpC P c29_1 Q s M = w29_1 P Q M (sget s 0) (sget s 1) (sget s 2) := by kernel_rfl
def o29_2 : List AOper := [⟨some 7, (.mov (.const (.int .i64 0))), false, none⟩]
def c29_3 : ACode := (.region o29_2 [0, 1, 2, 7])
def w29_3 (_P : Program) (Q : Exit → Slots → Mem → Prop) (M : Mem) (v0 : V) (v1 : V) (v2 : V) : Prop :=
  Q .normal [(0, v0), (1, v1), (2, v2), (7, (.int .i64 0))] M
theorem e29_3 (P : Program) (Q : Exit → Slots → Mem → Prop) (s : Slots) (M : Mem) : wpC P c29_3 Q s M = w29_3 P Q M (sget s 0) (sget s 1) (sget s 2) := by kernel_rfl
def o29_4 : List AOper := [⟨some 9, (.mov (.tmp 7)), false, none⟩,
  ⟨some 10, (.mov (.tmp 0)), false, none⟩,
  ⟨some 11, (.lenSl (.tmp 10)), false, none⟩,
  ⟨some 12, (.bin .lss .none (.tmp 9) (.tmp 11)), true, none⟩]
def c29_5 : ACode := (.seq (.region o29_4 [0, 1, 2, 7, 12]) (.cond (.tmp 12) .skip (.exit 0)))
def w29_5 (_P : Program) (Q : Exit → Slots → Mem → Prop) (M : Mem) (v0 : V) (v1 : V) (v2 : V) (v7 : V) : Prop :=
  @OptVH (lenV v0 M) ⟨fun t11_3 =>
  @OptBH (binV .lss .none v7 t11_3) ⟨fun b12_4 =>
  @BIfH b12_4
  ⟨Q .normal [(0, v0), (1, v1), (2, v2), (7, v7), (12, (.bool b12_4))] M⟩
  ⟨Q (.exit 0) [(0, v0), (1, v1), (2, v2), (7, v7), (12, (.bool b12_4))] M⟩⟩⟩
theorem e29_5 (P : Program) (Q : Exit → Slots → Mem → Prop) (s : Slots) (M : Mem) : wpC P c29_5 Q s M = w29_5 P Q M (sget s 0) (sget s 1) (sget s 2) (sget s 7) := by kernel_rfl
def o29_6 : List AOper := [⟨some 15, (.mov (.tmp 7)), false, none⟩,
  ⟨some 16, (.bin .add .none (.tmp 15) (.const (.int .i64 1))), false, none⟩,
  ⟨some 8, (.mov (.tmp 16)), false, none⟩]
def c29_7 : ACode := (.region o29_6 [0, 1, 2, 7, 8])
def w29_7 (_P : Program) (Q : Exit → Slots → Mem → Prop) (M : Mem) (v0 : V) (v1 : V) (v2 : V) (v7 : V) : Prop :=
  @OptVH (binV .add .none v7 (.int .i64 1)) ⟨fun t16_2 =>
  Q .normal [(0, v0), (1, v1), (2, v2), (7, v7), (8, t16_2)] M⟩
theorem e29_7 (P : Program) (Q : Exit → Slots → Mem → Prop) (s : Slots) (M : Mem) : wpC P c29_7 Q s M = w29_7 P Q M (sget s 0) (sget s 1) (sget s 2) (sget s 7) := by kernel_rfl
def o29_8 : List AOper := [⟨some 17, (.mov (.tmp 8)), false, none⟩,
  ⟨some 18, (.mov (.tmp 0)), false, none⟩,
  ⟨some 19, (.lenSl (.tmp 18)), false, none⟩,
  ⟨some 20, (.bin .lss .none (.tmp 17) (.tmp 19)), true, none⟩]
def c29_9 : ACode := (.seq (.region o29_8 [0, 1, 2, 7, 8, 20]) (.cond (.tmp 20) .skip (.exit 2)))
def w29_9 (_P : Program) (Q : Exit → Slots → Mem → Prop) (M : Mem) (v0 : V) (v1 : V) (v2 : V) (v7 : V) (v8 : V) : Prop :=
  @OptVH (lenV v0 M) ⟨fun t19_3 =>
  @OptBH (binV .lss .none v8 t19_3) ⟨fun b20_4 =>
  @BIfH b20_4
  ⟨Q .normal [(0, v0), (1, v1), (2, v2), (7, v7), (8, v8), (20, (.bool b20_4))] M⟩
  ⟨Q (.exit 2) [(0, v0), (1, v1), (2, v2), (7, v7), (8, v8), (20, (.bool b20_4))] M⟩⟩⟩
theorem e29_9 (P : Program) (Q : Exit → Slots → Mem → Prop) (s : Slots) (M : Mem) : wpC P c29_9 Q s M = w29_9 P Q M (sget s 0) (sget s 1) (sget s 2) (sget s 7) (sget s 8) := by kernel_rfl
def o29_10 : List AOper := [⟨some 6, (.mov (.const (.bool true))), true, none⟩]
def c29_11 : ACode := (.region o29_10 [6])
def w29_11 (_P : Program) (Q : Exit → Slots → Mem → Prop) (M : Mem) : Prop :=
  Q .normal [(6, (.bool true))] M
theorem e29_11 (P : Program) (Q : Exit → Slots → Mem → Prop) (s : Slots) (M : Mem) : wpC P c29_11 Q s M = w29_11 P Q M := by kernel_rfl
def c29_12 : ACode := (.seq c29_11 .ret)
def o29_13 : List AOper := [⟨some 23, (.mov (.tmp 0)), false, none⟩,
  ⟨some 24, (.mov (.tmp 7)), false, none⟩,
  ⟨some 25, (.indexSl 1 (.tmp 23) (.tmp 24)), false, none⟩,
  ⟨some 26, (.load 1 false (.tmp 25)), false, none⟩,
  ⟨some 27, (.mov (.tmp 1)), false, none⟩,
  ⟨some 28, (.bin .eql .none (.tmp 26) (.tmp 27)), true, none⟩,
  ⟨some 29, (.mov (.tmp 28)), true, none⟩,
  ⟨some 30, (.mov (.tmp 0)), false, some (29, true)⟩,
  ⟨some 31, (.mov (.tmp 8)), false, some (29, true)⟩,
  ⟨some 32, (.indexSl 1 (.tmp 30) (.tmp 31)), false, some (29, true)⟩,
  ⟨some 33, (.load 1 false (.tmp 32)), false, some (29, true)⟩,
  ⟨some 34, (.mov (.tmp 2)), false, some (29, true)⟩,
  ⟨some 35, (.bin .eql .none (.tmp 33) (.tmp 34)), true, some (29, true)⟩,
  ⟨some 36, (.pick (.tmp 29) (.tmp 35) (.const (.bool false))), true, none⟩]
def c29_14 : ACode := (.seq (.region o29_13 [0, 1, 2, 7, 8, 36]) (.cond (.tmp 36) c29_12 .skip))
def w29_14 (P : Program) (Q : Exit → Slots → Mem → Prop) (M : Mem) (v0 : V) (v1 : V) (v2 : V) (v7 : V) (v8 : V) : Prop :=
  @OptVH (indexSlV 1 v0 v7 M) ⟨fun t25_3 =>
  @OptVH (loadV 1 false t25_3 M) ⟨fun t26_4 =>
  @OptBH (binV .eql .none t26_4 v1) ⟨fun b28_6 =>
  @BIfH b28_6
  ⟨@OptVH (indexSlV 1 v0 v8 M) ⟨fun t32_10 =>
  @OptVH (loadV 1 false t32_10 M) ⟨fun t33_11 =>
  @OptBH (binV .eql .none t33_11 v2) ⟨fun b35_13 =>
  @BIfH b35_13
  ⟨wpC P c29_12 Q [(0, v0), (1, v1), (2, v2), (7, v7), (8, v8), (36, (.bool b35_13))] M⟩
  ⟨Q .normal [(0, v0), (1, v1), (2, v2), (7, v7), (8, v8), (36, (.bool b35_13))] M⟩⟩⟩⟩⟩
  ⟨Q .normal [(0, v0), (1, v1), (2, v2), (7, v7), (8, v8), (36, (.bool false))] M⟩⟩⟩⟩
theorem e29_14 (P : Program) (Q : Exit → Slots → Mem → Prop) (s : Slots) (M : Mem) : wpC P c29_14 Q s M = w29_14 P Q M (sget s 0) (sget s 1) (sget s 2) (sget s 7) (sget s 8) := by kernel_rfl
def c29_15 : ACode := (.block 3 c29_14)
def o29_16 : List AOper := [⟨some 21, (.mov (.tmp 8)), false, none⟩,
  ⟨some 22, (.bin .add .none (.tmp 21) (.const (.int .i64 1))), false, none⟩,
  ⟨some 8, (.mov (.tmp 22)), false, none⟩]
def c29_17 : ACode := (.region o29_16 [0, 1, 2, 7, 8])
def w29_17 (_P : Program) (Q : Exit → Slots → Mem → Prop) (M : Mem) (v0 : V) (v1 : V) (v2 : V) (v7 : V) (v8 : V) : Prop :=
  @OptVH (binV .add .none v8 (.int .i64 1)) ⟨fun t22_2 =>
  Q .normal [(0, v0), (1, v1), (2, v2), (7, v7), (8, t22_2)] M⟩
theorem e29_17 (P : Program) (Q : Exit → Slots → Mem → Prop) (s : Slots) (M : Mem) : wpC P c29_17 Q s M = w29_17 P Q M (sget s 0) (sget s 1) (sget s 2) (sget s 7) (sget s 8) := by kernel_rfl
def c29_18 : ACode := (.seq c29_15 c29_17)
def c29_19 : ACode := (.seq c29_9 c29_18)
def c29_20 : ACode := (.loop [0, 1, 2, 7, 8] c29_19)
def c29_21 : ACode := (.block 2 c29_20)
def c29_22 : ACode := (.seq c29_7 c29_21)
def c29_23 : ACode := (.block 1 c29_22)
def o29_24 : List AOper := [⟨some 13, (.mov (.tmp 7)), false, none⟩,
  ⟨some 14, (.bin .add .none (.tmp 13) (.const (.int .i64 1))), false, none⟩,
  ⟨some 7, (.mov (.tmp 14)), false, none⟩]
def c29_25 : ACode := (.region o29_24 [0, 1, 2, 7])
def w29_25 (_P : Program) (Q : Exit → Slots → Mem → Prop) (M : Mem) (v0 : V) (v1 : V) (v2 : V) (v7 : V) : Prop :=
  @OptVH (binV .add .none v7 (.int .i64 1)) ⟨fun t14_2 =>
  Q .normal [(0, v0), (1, v1), (2, v2), (7, t14_2)] M⟩
theorem e29_25 (P : Program) (Q : Exit → Slots → Mem → Prop) (s : Slots) (M : Mem) : wpC P c29_25 Q s M = w29_25 P Q M (sget s 0) (sget s 1) (sget s 2) (sget s 7) := by kernel_rfl
def c29_26 : ACode := (.seq c29_23 c29_25)
def c29_27 : ACode := (.seq c29_5 c29_26)
def c29_28 : ACode := (.loop [0, 1, 2, 7] c29_27)
def c29_29 : ACode := (.block 0 c29_28)
def c29_30 : ACode := (.seq c29_3 c29_29)
def o29_31 : List AOper := [⟨some 6, (.mov (.const (.bool false))), true, none⟩]
def c29_32 : ACode := (.region o29_31 [6])
def w29_32 (_P : Program) (Q : Exit → Slots → Mem → Prop) (M : Mem) : Prop :=
  Q .normal [(6, (.bool false))] M
theorem e29_32 (P : Program) (Q : Exit → Slots → Mem → Prop) (s : Slots) (M : Mem) : wpC P c29_32 Q s M = w29_32 P Q M := by kernel_rfl
def c29_33 : ACode := (.seq c29_32 .ret)
def c29_34 : ACode := (.seq c29_30 c29_33)
def c29_35 : ACode := (.seq c29_1 c29_34)
def fn_transitlaw17_passes : AFn := ⟨37, [(.tmp 6)], c29_35⟩
theorem fn_transitlaw17_passes_ok : resFn PR h_transitlaw17_passes i_transitlaw17_passes = some fn_transitlaw17_passes := by kernel_rfl

def h_transitlaw17_example : Hints := ⟨[(0, []), (1, [1]), (2, [1, 2]), (3, [1, 2, 3]), (4, [0])], [], []⟩
def o30_0 : List AOper := [⟨some 0, (.mov (.const (.slice [] .nil))), false, none⟩]
def c30_1 : ACode := (.region o30_0 [])
def w30_1 (_P : Program) (Q : Exit → Slots → Mem → Prop) (M : Mem) : Prop :=
  Q .normal [] M
theorem e30_1 (P : Program) (Q : Exit → Slots → Mem → Prop) (s : Slots) (M : Mem) : wpC P c30_1 Q s M = w30_1 P Q M := by kernel_rfl
def o30_2 : List AOper := [⟨some 4, (.build [(.int .i64 0), (.int .i64 0), (.int .i64 0), (.bool false), (.bool false)] [(0, (1, (.const (.int .i64 0)))), (1, (1, (.const (.int .i64 100)))), (2, (1, (.const (.int .i64 100)))), (3, (1, (.const (.bool true)))), (4, (1, (.const (.bool true))))]), false, none⟩,
  ⟨some 5, (.build [(.int .i64 0), (.int .i64 0), (.int .i64 0), (.bool false), (.bool false)] [(0, (1, (.const (.int .i64 1)))), (1, (1, (.const (.int .i64 200)))), (2, (1, (.const (.int .i64 200)))), (3, (1, (.const (.bool true))))]), false, none⟩,
  ⟨some 6, (.build [(.int .i64 0), (.int .i64 0), (.int .i64 0), (.bool false), (.bool false)] [(0, (1, (.const (.int .i64 2)))), (1, (1, (.const (.int .i64 300)))), (2, (1, (.const (.int .i64 300)))), (3, (1, (.const (.bool true)))), (4, (1, (.const (.bool true))))]), false, none⟩,
  ⟨some 7, (.buildSlice [(.int .i64 0), (.int .i64 0), (.int .i64 0), (.bool false), (.bool false), (.int .i64 0), (.int .i64 0), (.int .i64 0), (.bool false), (.bool false), (.int .i64 0), (.int .i64 0), (.int .i64 0), (.bool false), (.bool false)] 5 3 [(0, (5, (.tmp 4))), (5, (5, (.tmp 5))), (10, (5, (.tmp 6)))]), false, none⟩,
  ⟨some 8, (.build [(.str []), (.int .i64 0), (.int .i64 0), (.bool false), (.slice [] .nil)] [(0, (1, (.const (.str [97])))), (4, (1, (.tmp 7)))]), false, none⟩,
  ⟨some 1, (.alloc [(.str []), (.int .i64 0), (.int .i64 0), (.bool false), (.slice [] .nil)]), false, none⟩,
  ⟨none, (.store 5 (.tmp 1) (.tmp 8)), false, none⟩]
def c30_3 : ACode := (.region o30_2 [1])
def w30_3 (_P : Program) (Q : Exit → Slots → Mem → Prop) (M : Mem) : Prop :=
  @OptVH (buildV [(.int .i64 0), (.int .i64 0), (.int .i64 0), (.bool false), (.bool false)] [(0, 1, (.int .i64 0)), (1, 1, (.int .i64 100)), (2, 1, (.int .i64 100)), (3, 1, (.bool true)), (4, 1, (.bool true))]) ⟨fun t4_1 =>
  @OptVH (buildV [(.int .i64 0), (.int .i64 0), (.int .i64 0), (.bool false), (.bool false)] [(0, 1, (.int .i64 1)), (1, 1, (.int .i64 200)), (2, 1, (.int .i64 200)), (3, 1, (.bool true))]) ⟨fun t5_2 =>
  @OptVH (buildV [(.int .i64 0), (.int .i64 0), (.int .i64 0), (.bool false), (.bool false)] [(0, 1, (.int .i64 2)), (1, 1, (.int .i64 300)), (2, 1, (.int .i64 300)), (3, 1, (.bool true)), (4, 1, (.bool true))]) ⟨fun t6_3 =>
  @OptVH (buildSliceV [(.int .i64 0), (.int .i64 0), (.int .i64 0), (.bool false), (.bool false), (.int .i64 0), (.int .i64 0), (.int .i64 0), (.bool false), (.bool false), (.int .i64 0), (.int .i64 0), (.int .i64 0), (.bool false), (.bool false)] 5 3 [(0, 5, t4_1), (5, 5, t5_2), (10, 5, t6_3)]) ⟨fun t7_4 =>
  @OptVH (buildV [(.str []), (.int .i64 0), (.int .i64 0), (.bool false), (.slice [] .nil)] [(0, 1, (.str [97])), (4, 1, t7_4)]) ⟨fun t8_5 =>
  @OptMH (allocV [(.str []), (.int .i64 0), (.int .i64 0), (.bool false), (.slice [] .nil)] M) ⟨fun t1_6 M6 =>
  @OptMH (storeVM 5 t1_6 t8_5 M6) ⟨fun _tx_7 M7 =>
  Q .normal [(1, t1_6)] M7⟩⟩⟩⟩⟩⟩⟩
theorem e30_3 (P : Program) (Q : Exit → Slots → Mem → Prop) (s : Slots) (M : Mem) : wpC P c30_3 Q s M = w30_3 P Q M := by kernel_rfl
def o30_4 : List AOper := [⟨some 9, (.build [(.int .i64 0), (.int .i64 0), (.int .i64 0), (.bool false), (.bool false)] [(0, (1, (.const (.int .i64 0)))), (3, (1, (.const (.bool true))))]), false, none⟩,
  ⟨some 10, (.build [(.int .i64 0), (.int .i64 0), (.int .i64 0), (.bool false), (.bool false)] [(0, (1, (.const (.int .i64 2)))), (1, (1, (.const (.int .i64 50)))), (2, (1, (.const (.int .i64 50)))), (4, (1, (.const (.bool true))))]), false, none⟩,
  ⟨some 11, (.buildSlice [(.int .i64 0), (.int .i64 0), (.int .i64 0), (.bool false), (.bool false), (.int .i64 0), (.int .i64 0), (.int .i64 0), (.bool false), (.bool false)] 5 2 [(0, (5, (.tmp 9))), (5, (5, (.tmp 10)))]), false, none⟩,
  ⟨some 12, (.build [(.str []), (.int .i64 0), (.int .i64 0), (.bool false), (.slice [] .nil)] [(0, (1, (.const (.str [98])))), (4, (1, (.tmp 11)))]), false, none⟩,
  ⟨some 2, (.alloc [(.str []), (.int .i64 0), (.int .i64 0), (.bool false), (.slice [] .nil)]), false, none⟩,
  ⟨none, (.store 5 (.tmp 2) (.tmp 12)), false, none⟩]
def c30_5 : ACode := (.region o30_4 [1, 2])
def w30_5 (_P : Program) (Q : Exit → Slots → Mem → Prop) (M : Mem) (v1 : V) : Prop :=
  @OptVH (buildV [(.int .i64 0), (.int .i64 0), (.int .i64 0), (.bool false), (.bool false)] [(0, 1, (.int .i64 0)), (3, 1, (.bool true))]) ⟨fun t9_1 =>
  @OptVH (buildV [(.int .i64 0), (.int .i64 0), (.int .i64 0), (.bool false), (.bool false)] [(0, 1, (.int .i64 2)), (1, 1, (.int .i64 50)), (2, 1, (.int .i64 50)), (4, 1, (.bool true))]) ⟨fun t10_2 =>
  @OptVH (buildSliceV [(.int .i64 0), (.int .i64 0), (.int .i64 0), (.bool false), (.bool false), (.int .i64 0), (.int .i64 0), (.int .i64 0), (.bool false), (.bool false)] 5 2 [(0, 5, t9_1), (5, 5, t10_2)]) ⟨fun t11_3 =>
  @OptVH (buildV [(.str []), (.int .i64 0), (.int .i64 0), (.bool false), (.slice [] .nil)] [(0, 1, (.str [98])), (4, 1, t11_3)]) ⟨fun t12_4 =>
  @OptMH (allocV [(.str []), (.int .i64 0), (.int .i64 0), (.bool false), (.slice [] .nil)] M) ⟨fun t2_5 M5 =>
  @OptMH (storeVM 5 t2_5 t12_4 M5) ⟨fun _tx_6 M6 =>
  Q .normal [(1, v1), (2, t2_5)] M6⟩⟩⟩⟩⟩⟩
theorem e30_5 (P : Program) (Q : Exit → Slots → Mem → Prop) (s : Slots) (M : Mem) : wpC P c30_5 Q s M = w30_5 P Q M (sget s 1) := by kernel_rfl
def o30_6 : List AOper := [⟨some 13, (.build [(.int .i64 0), (.int .i64 0), (.int .i64 0), (.bool false), (.bool false)] [(0, (1, (.const (.int .i64 0)))), (1, (1, (.const (.int .i64 160)))), (2, (1, (.const (.int .i64 160)))), (3, (1, (.const (.bool true)))), (4, (1, (.const (.bool true))))]), false, none⟩,
  ⟨some 14, (.build [(.int .i64 0), (.int .i64 0), (.int .i64 0), (.bool false), (.bool false)] [(0, (1, (.const (.int .i64 1)))), (1, (1, (.const (.int .i64 200)))), (2, (1, (.const (.int .i64 200)))), (3, (1, (.const (.bool true))))]), false, none⟩,
  ⟨some 15, (.build [(.int .i64 0), (.int .i64 0), (.int .i64 0), (.bool false), (.bool false)] [(0, (1, (.const (.int .i64 2)))), (1, (1, (.const (.int .i64 240)))), (2, (1, (.const (.int .i64 240)))), (3, (1, (.const (.bool true)))), (4, (1, (.const (.bool true))))]), false, none⟩,
  ⟨some 16, (.buildSlice [(.int .i64 0), (.int .i64 0), (.int .i64 0), (.bool false), (.bool false), (.int .i64 0), (.int .i64 0), (.int .i64 0), (.bool false), (.bool false), (.int .i64 0), (.int .i64 0), (.int .i64 0), (.bool false), (.bool false)] 5 3 [(0, (5, (.tmp 13))), (5, (5, (.tmp 14))), (10, (5, (.tmp 15)))]), false, none⟩,
  ⟨some 17, (.build [(.str []), (.int .i64 0), (.int .i64 0), (.bool false), (.slice [] .nil)] [(0, (1, (.const (.str [99])))), (4, (1, (.tmp 16)))]), false, none⟩,
  ⟨some 3, (.alloc [(.str []), (.int .i64 0), (.int .i64 0), (.bool false), (.slice [] .nil)]), false, none⟩,
  ⟨none, (.store 5 (.tmp 3) (.tmp 17)), false, none⟩]
def c30_7 : ACode := (.region o30_6 [1, 2, 3])
def w30_7 (_P : Program) (Q : Exit → Slots → Mem → Prop) (M : Mem) (v1 : V) (v2 : V) : Prop :=
  @OptVH (buildV [(.int .i64 0), (.int .i64 0), (.int .i64 0), (.bool false), (.bool false)] [(0, 1, (.int .i64 0)), (1, 1, (.int .i64 160)), (2, 1, (.int .i64 160)), (3, 1, (.bool true)), (4, 1, (.bool true))]) ⟨fun t13_1 =>
  @OptVH (buildV [(.int .i64 0), (.int .i64 0), (.int .i64 0), (.bool false), (.bool false)] [(0, 1, (.int .i64 1)), (1, 1, (.int .i64 200)), (2, 1, (.int .i64 200)), (3, 1, (.bool true))]) ⟨fun t14_2 =>
  @OptVH (buildV [(.int .i64 0), (.int .i64 0), (.int .i64 0), (.bool false), (.bool false)] [(0, 1, (.int .i64 2)), (1, 1, (.int .i64 240)), (2, 1, (.int .i64 240)), (3, 1, (.bool true)), (4, 1, (.bool true))]) ⟨fun t15_3 =>
  @OptVH (buildSliceV [(.int .i64 0), (.int .i64 0), (.int .i64 0), (.bool false), (.bool false), (.int .i64 0), (.int .i64 0), (.int .i64 0), (.bool false), (.bool false), (.int .i64 0), (.int .i64 0), (.int .i64 0), (.bool false), (.bool false)] 5 3 [(0, 5, t13_1), (5, 5, t14_2), (10, 5, t15_3)]) ⟨fun t16_4 =>
  @OptVH (buildV [(.str []), (.int .i64 0), (.int .i64 0), (.bool false), (.slice [] .nil)] [(0, 1, (.str [99])), (4, 1, t16_4)]) ⟨fun t17_5 =>
  @OptMH (allocV [(.str []), (.int .i64 0), (.int .i64 0), (.bool false), (.slice [] .nil)] M) ⟨fun t3_6 M6 =>
  @OptMH (storeVM 5 t3_6 t17_5 M6) ⟨fun _tx_7 M7 =>
  Q .normal [(1, v1), (2, v2), (3, t3_6)] M7⟩⟩⟩⟩⟩⟩⟩
theorem e30_7 (P : Program) (Q : Exit → Slots → Mem → Prop) (s : Slots) (M : Mem) : wpC P c30_7 Q s M = w30_7 P Q M (sget s 1) (sget s 2) := by kernel_rfl
def o30_8 : List AOper := [⟨some 18, (.load 5 true (.tmp 1)), false, none⟩,
  ⟨some 19, (.load 5 true (.tmp 2)), false, none⟩,
  ⟨some 20, (.load 5 true (.tmp 3)), false, none⟩,
  ⟨some 21, (.buildSlice [(.str []), (.int .i64 0), (.int .i64 0), (.bool false), (.slice [] .nil), (.str []), (.int .i64 0), (.int .i64 0), (.bool false), (.slice [] .nil), (.str []), (.int .i64 0), (.int .i64 0), (.bool false), (.slice [] .nil)] 5 3 [(0, (5, (.tmp 18))), (5, (5, (.tmp 19))), (10, (5, (.tmp 20)))]), false, none⟩,
  ⟨some 0, (.mov (.tmp 21)), false, none⟩]
def c30_9 : ACode := (.region o30_8 [0])
def w30_9 (_P : Program) (Q : Exit → Slots → Mem → Prop) (M : Mem) (v1 : V) (v2 : V) (v3 : V) : Prop :=
  @OptVH (loadV 5 true v1 M) ⟨fun t18_1 =>
  @OptVH (loadV 5 true v2 M) ⟨fun t19_2 =>
  @OptVH (loadV 5 true v3 M) ⟨fun t20_3 =>
  @OptVH (buildSliceV [(.str []), (.int .i64 0), (.int .i64 0), (.bool false), (.slice [] .nil), (.str []), (.int .i64 0), (.int .i64 0), (.bool false), (.slice [] .nil), (.str []), (.int .i64 0), (.int .i64 0), (.bool false), (.slice [] .nil)] 5 3 [(0, 5, t18_1), (5, 5, t19_2), (10, 5, t20_3)]) ⟨fun t21_4 =>
  Q .normal [(0, t21_4)] M⟩⟩⟩⟩
theorem e30_9 (P : Program) (Q : Exit → Slots → Mem → Prop) (s : Slots) (M : Mem) : wpC P c30_9 Q s M = w30_9 P Q M (sget s 1) (sget s 2) (sget s 3) := by kernel_rfl
def c30_10 : ACode := (.seq c30_9 .ret)
def c30_11 : ACode := (.seq c30_7 c30_10)
def c30_12 : ACode := (.seq c30_5 c30_11)
def c30_13 : ACode := (.seq c30_3 c30_12)
def c30_14 : ACode := (.seq c30_1 c30_13)
def fn_transitlaw17_example : AFn := ⟨22, [(.tmp 0)], c30_14⟩
theorem fn_transitlaw17_example_ok : resFn PR h_transitlaw17_example i_transitlaw17_example = some fn_transitlaw17_example := by kernel_rfl

def h_ident_Valid : Hints := ⟨[(0, [0]), (1, [0, 3]), (2, [0, 3, 8]), (3, [0, 3]), (4, [0, 3, 4]), (5, [2]), (6, [0, 3, 4, 14]), (7, [0, 3, 4, 14]), (8, [0, 3, 4, 14]), (9, [0, 3, 4, 33]), (10, [0, 3, 4, 33]), (11, [0, 3, 33]), (12, [2])], [(2, [0, 3])], []⟩
def o31_0 : List AOper := [⟨some 2, (.mov (.const (.bool false))), true, none⟩]
def c31_1 : ACode := (.region o31_0 [0])
def w31_1 (_P : Program) (Q : Exit → Slots → Mem → Prop) (M : Mem) (v0 : V) : Prop :=
  Q .normal [(0, v0)] M
theorem e31_1 (P : Program) (Q : Exit → Slots → Mem → Prop) (s : Slots) (M : Mem) : wpC P c31_1 Q s M = w31_1 P Q M (sget s 0) := by kernel_rfl
def o31_2 : List AOper := [⟨some 3, (.mov (.const (.int .i64 0))), false, none⟩]
def c31_3 : ACode := (.region o31_2 [0, 3])
def w31_3 (_P : Program) (Q : Exit → Slots → Mem → Prop) (M : Mem) (v0 : V) : Prop :=
  Q .normal [(0, v0), (3, (.int .i64 0))] M
theorem e31_3 (P : Program) (Q : Exit → Slots → Mem → Prop) (s : Slots) (M : Mem) : wpC P c31_3 Q s M = w31_3 P Q M (sget s 0) := by kernel_rfl
def o31_4 : List AOper := [⟨some 5, (.mov (.tmp 3)), false, none⟩,
  ⟨some 6, (.mov (.tmp 0)), false, none⟩,
  ⟨some 7, (.lenStr (.tmp 6)), false, none⟩,
  ⟨some 8, (.bin .lss .none (.tmp 5) (.tmp 7)), true, none⟩]
def c31_5 : ACode := (.seq (.region o31_4 [0, 3, 8]) (.cond (.tmp 8) .skip (.exit 0)))
def w31_5 (_P : Program) (Q : Exit → Slots → Mem → Prop) (M : Mem) (v0 : V) (v3 : V) : Prop :=
  @OptVH (lenStrV v0) ⟨fun t7_3 =>
  @OptBH (binV .lss .none v3 t7_3) ⟨fun b8_4 =>
  @BIfH b8_4
  ⟨Q .normal [(0, v0), (3, v3), (8, (.bool b8_4))] M⟩
  ⟨Q (.exit 0) [(0, v0), (3, v3), (8, (.bool b8_4))] M⟩⟩⟩
theorem e31_5 (P : Program) (Q : Exit → Slots → Mem → Prop) (s : Slots) (M : Mem) : wpC P c31_5 Q s M = w31_5 P Q M (sget s 0) (sget s 3) := by kernel_rfl
def o31_6 : List AOper := [⟨some 11, (.mov (.tmp 0)), false, none⟩,
  ⟨some 12, (.mov (.tmp 3)), false, none⟩,
  ⟨some 13, (.indexStr (.tmp 11) (.tmp 12)), false, none⟩,
  ⟨some 4, (.mov (.tmp 13)), false, none⟩]
def c31_7 : ACode := (.region o31_6 [0, 3, 4])
def w31_7 (_P : Program) (Q : Exit → Slots → Mem → Prop) (M : Mem) (v0 : V) (v3 : V) : Prop :=
  @OptVH (indexStrV v0 v3) ⟨fun t13_3 =>
  Q .normal [(0, v0), (3, v3), (4, t13_3)] M⟩
theorem e31_7 (P : Program) (Q : Exit → Slots → Mem → Prop) (s : Slots) (M : Mem) : wpC P c31_7 Q s M = w31_7 P Q M (sget s 0) (sget s 3) := by kernel_rfl
def o31_8 : List AOper := [⟨some 27, (.mov (.tmp 4)), false, none⟩,
  ⟨some 28, (.bin .leq .none (.const (.int .u8 48)) (.tmp 27)), true, none⟩,
  ⟨some 29, (.mov (.tmp 28)), true, none⟩,
  ⟨some 30, (.mov (.tmp 4)), false, some (29, true)⟩,
  ⟨some 31, (.bin .leq .none (.tmp 30) (.const (.int .u8 57))), true, some (29, true)⟩,
  ⟨some 32, (.pick (.tmp 29) (.tmp 31) (.const (.bool false))), true, none⟩,
  ⟨some 14, (.mov (.tmp 32)), true, none⟩]
def c31_9 : ACode := (.region o31_8 [0, 3, 4, 14])
def w31_9 (_P : Program) (Q : Exit → Slots → Mem → Prop) (M : Mem) (v0 : V) (v3 : V) (v4 : V) : Prop :=
  @OptBH (binV .leq .none (.int .u8 48) v4) ⟨fun b28_2 =>
  @BIfH b28_2
  ⟨@OptBH (binV .leq .none v4 (.int .u8 57)) ⟨fun b31_5 =>
  Q .normal [(0, v0), (3, v3), (4, v4), (14, (.bool b31_5))] M⟩⟩
  ⟨Q .normal [(0, v0), (3, v3), (4, v4), (14, (.bool false))] M⟩⟩
theorem e31_9 (P : Program) (Q : Exit → Slots → Mem → Prop) (s : Slots) (M : Mem) : wpC P c31_9 Q s M = w31_9 P Q M (sget s 0) (sget s 3) (sget s 4) := by kernel_rfl
def o31_10 : List AOper := [⟨some 21, (.mov (.tmp 4)), false, none⟩,
  ⟨some 22, (.bin .leq .none (.const (.int .u8 65)) (.tmp 21)), true, none⟩,
  ⟨some 23, (.mov (.tmp 22)), true, none⟩,
  ⟨some 24, (.mov (.tmp 4)), false, some (23, true)⟩,
  ⟨some 25, (.bin .leq .none (.tmp 24) (.const (.int .u8 90))), true, some (23, true)⟩,
  ⟨some 26, (.pick (.tmp 23) (.tmp 25) (.const (.bool false))), true, none⟩,
  ⟨some 14, (.mov (.tmp 26)), true, none⟩]
def c31_11 : ACode := (.seq (.region o31_10 [0, 3, 4, 14]) (.cond (.tmp 14) .skip c31_9))
def w31_11 (P : Program) (Q : Exit → Slots → Mem → Prop) (M : Mem) (v0 : V) (v3 : V) (v4 : V) : Prop :=
  @OptBH (binV .leq .none (.int .u8 65) v4) ⟨fun b22_2 =>
  @BIfH b22_2
  ⟨@OptBH (binV .leq .none v4 (.int .u8 90)) ⟨fun b25_5 =>
  @BIfH b25_5
  ⟨Q .normal [(0, v0), (3, v3), (4, v4), (14, (.bool b25_5))] M⟩
  ⟨wpC P c31_9 Q [(0, v0), (3, v3), (4, v4), (14, (.bool b25_5))] M⟩⟩⟩
  ⟨wpC P c31_9 Q [(0, v0), (3, v3), (4, v4), (14, (.bool false))] M⟩⟩
theorem e31_11 (P : Program) (Q : Exit → Slots → Mem → Prop) (s : Slots) (M : Mem) : wpC P c31_11 Q s M = w31_11 P Q M (sget s 0) (sget s 3) (sget s 4) := by kernel_rfl
def o31_12 : List AOper := [⟨some 15, (.mov (.tmp 4)), false, none⟩,
  ⟨some 16, (.bin .leq .none (.const (.int .u8 97)) (.tmp 15)), true, none⟩,
  ⟨some 17, (.mov (.tmp 16)), true, none⟩,
  ⟨some 18, (.mov (.tmp 4)), false, some (17, true)⟩,
  ⟨some 19, (.bin .leq .none (.tmp 18) (.const (.int .u8 122))), true, some (17, true)⟩,
  ⟨some 20, (.pick (.tmp 17) (.tmp 19) (.const (.bool false))), true, none⟩,
  ⟨some 14, (.mov (.tmp 20)), true, none⟩]
def c31_13 : ACode := (.seq (.region o31_12 [0, 3, 4, 14]) (.cond (.tmp 14) .skip c31_11))
def w31_13 (P : Program) (Q : Exit → Slots → Mem → Prop) (M : Mem) (v0 : V) (v3 : V) (v4 : V) : Prop :=
  @OptBH (binV .leq .none (.int .u8 97) v4) ⟨fun b16_2 =>
  @BIfH b16_2
  ⟨@OptBH (binV .leq .none v4 (.int .u8 122)) ⟨fun b19_5 =>
  @BIfH b19_5
  ⟨Q .normal [(0, v0), (3, v3), (4, v4), (14, (.bool b19_5))] M⟩
  ⟨wpC P c31_11 Q [(0, v0), (3, v3), (4, v4), (14, (.bool b19_5))] M⟩⟩⟩
  ⟨wpC P c31_11 Q [(0, v0), (3, v3), (4, v4), (14, (.bool false))] M⟩⟩
theorem e31_13 (P : Program) (Q : Exit → Slots → Mem → Prop) (s : Slots) (M : Mem) : wpC P c31_13 Q s M = w31_13 P Q M (sget s 0) (sget s 3) (sget s 4) := by kernel_rfl
def o31_14 : List AOper := [⟨some 38, (.mov (.tmp 4)), false, none⟩,
  ⟨some 39, (.bin .eql .none (.tmp 38) (.const (.int .u8 46))), true, none⟩,
  ⟨some 33, (.mov (.tmp 39)), true, none⟩]
def c31_15 : ACode := (.region o31_14 [0, 3, 33])
def w31_15 (_P : Program) (Q : Exit → Slots → Mem → Prop) (M : Mem) (v0 : V) (v3 : V) (v4 : V) : Prop :=
  @OptBH (binV .eql .none v4 (.int .u8 46)) ⟨fun b39_2 =>
  Q .normal [(0, v0), (3, v3), (33, (.bool b39_2))] M⟩
theorem e31_15 (P : Program) (Q : Exit → Slots → Mem → Prop) (s : Slots) (M : Mem) : wpC P c31_15 Q s M = w31_15 P Q M (sget s 0) (sget s 3) (sget s 4) := by kernel_rfl
def o31_16 : List AOper := [⟨some 36, (.mov (.tmp 4)), false, none⟩,
  ⟨some 37, (.bin .eql .none (.tmp 36) (.const (.int .u8 95))), true, none⟩,
  ⟨some 33, (.mov (.tmp 37)), true, none⟩]
def c31_17 : ACode := (.seq (.region o31_16 [0, 3, 4, 33]) (.cond (.tmp 33) .skip c31_15))
def w31_17 (P : Program) (Q : Exit → Slots → Mem → Prop) (M : Mem) (v0 : V) (v3 : V) (v4 : V) : Prop :=
  @OptBH (binV .eql .none v4 (.int .u8 95)) ⟨fun b37_2 =>
  @BIfH b37_2
  ⟨Q .normal [(0, v0), (3, v3), (4, v4), (33, (.bool b37_2))] M⟩
  ⟨wpC P c31_15 Q [(0, v0), (3, v3), (4, v4), (33, (.bool b37_2))] M⟩⟩
theorem e31_17 (P : Program) (Q : Exit → Slots → Mem → Prop) (s : Slots) (M : Mem) : wpC P c31_17 Q s M = w31_17 P Q M (sget s 0) (sget s 3) (sget s 4) := by kernel_rfl
def o31_18 : List AOper := [⟨some 34, (.mov (.tmp 4)), false, none⟩,
  ⟨some 35, (.bin .eql .none (.tmp 34) (.const (.int .u8 45))), true, none⟩,
  ⟨some 33, (.mov (.tmp 35)), true, none⟩]
def c31_19 : ACode := (.seq (.region o31_18 [0, 3, 4, 33]) (.cond (.tmp 33) .skip c31_17))
def w31_19 (P : Program) (Q : Exit → Slots → Mem → Prop) (M : Mem) (v0 : V) (v3 : V) (v4 : V) : Prop :=
  @OptBH (binV .eql .none v4 (.int .u8 45)) ⟨fun b35_2 =>
  @BIfH b35_2
  ⟨Q .normal [(0, v0), (3, v3), (4, v4), (33, (.bool b35_2))] M⟩
  ⟨wpC P c31_17 Q [(0, v0), (3, v3), (4, v4), (33, (.bool b35_2))] M⟩⟩
theorem e31_19 (P : Program) (Q : Exit → Slots → Mem → Prop) (s : Slots) (M : Mem) : wpC P c31_19 Q s M = w31_19 P Q M (sget s 0) (sget s 3) (sget s 4) := by kernel_rfl
def o31_20 : List AOper := [⟨some 2, (.mov (.const (.bool false))), true, none⟩]
def c31_21 : ACode := (.region o31_20 [2])
def w31_21 (_P : Program) (Q : Exit → Slots → Mem → Prop) (M : Mem) : Prop :=
  Q .normal [(2, (.bool false))] M
theorem e31_21 (P : Program) (Q : Exit → Slots → Mem → Prop) (s : Slots) (M : Mem) : wpC P c31_21 Q s M = w31_21 P Q M := by kernel_rfl
def c31_22 : ACode := (.seq c31_21 .ret)
def c31_23 : ACode := (.cond (.tmp 33) .skip c31_22)
def c31_24 : ACode := (.seq c31_19 c31_23)
def c31_25 : ACode := (.cond (.tmp 14) .skip c31_24)
def c31_26 : ACode := (.seq c31_13 c31_25)
def c31_27 : ACode := (.block 2 c31_26)
def c31_28 : ACode := (.seq c31_7 c31_27)
def c31_29 : ACode := (.block 1 c31_28)
def o31_30 : List AOper := [⟨some 9, (.mov (.tmp 3)), false, none⟩,
  ⟨some 10, (.bin .add .none (.tmp 9) (.const (.int .i64 1))), false, none⟩,
  ⟨some 3, (.mov (.tmp 10)), false, none⟩]
def c31_31 : ACode := (.region o31_30 [0, 3])
def w31_31 (_P : Program) (Q : Exit → Slots → Mem → Prop) (M : Mem) (v0 : V) (v3 : V) : Prop :=
  @OptVH (binV .add .none v3 (.int .i64 1)) ⟨fun t10_2 =>
  Q .normal [(0, v0), (3, t10_2)] M⟩
theorem e31_31 (P : Program) (Q : Exit → Slots → Mem → Prop) (s : Slots) (M : Mem) : wpC P c31_31 Q s M = w31_31 P Q M (sget s 0) (sget s 3) := by kernel_rfl
def c31_32 : ACode := (.seq c31_29 c31_31)
def c31_33 : ACode := (.seq c31_5 c31_32)
def c31_34 : ACode := (.loop [0, 3] c31_33)
def c31_35 : ACode := (.block 0 c31_34)
def c31_36 : ACode := (.seq c31_3 c31_35)
def o31_37 : List AOper := [⟨some 40, (.mov (.tmp 0)), false, none⟩,
  ⟨some 41, (.lenStr (.tmp 40)), false, none⟩,
  ⟨some 42, (.bin .gtr .none (.tmp 41) (.const (.int .i64 0))), true, none⟩,
  ⟨some 43, (.mov (.tmp 42)), true, none⟩,
  ⟨some 44, (.mov (.tmp 0)), false, some (43, true)⟩,
  ⟨some 45, (.lenStr (.tmp 44)), false, some (43, true)⟩,
  ⟨some 46, (.bin .leq .none (.tmp 45) (.const (.int .i64 32))), true, some (43, true)⟩,
  ⟨some 47, (.pick (.tmp 43) (.tmp 46) (.const (.bool false))), true, none⟩,
  ⟨some 2, (.mov (.tmp 47)), true, none⟩]
def c31_38 : ACode := (.region o31_37 [2])
def w31_38 (_P : Program) (Q : Exit → Slots → Mem → Prop) (M : Mem) (v0 : V) : Prop :=
  @OptVH (lenStrV v0) ⟨fun t41_2 =>
  @OptBH (binV .gtr .none t41_2 (.int .i64 0)) ⟨fun b42_3 =>
  @BIfH b42_3
  ⟨@OptVH (lenStrV v0) ⟨fun t45_6 =>
  @OptBH (binV .leq .none t45_6 (.int .i64 32)) ⟨fun b46_7 =>
  Q .normal [(2, (.bool b46_7))] M⟩⟩⟩
  ⟨Q .normal [(2, (.bool false))] M⟩⟩⟩
theorem e31_38 (P : Program) (Q : Exit → Slots → Mem → Prop) (s : Slots) (M : Mem) : wpC P c31_38 Q s M = w31_38 P Q M (sget s 0) := by kernel_rfl
def c31_39 : ACode := (.seq c31_38 .ret)
def c31_40 : ACode := (.seq c31_36 c31_39)
def c31_41 : ACode := (.seq c31_1 c31_40)
def fn_ident_Valid : AFn := ⟨48, [(.tmp 2)], c31_41⟩
theorem fn_ident_Valid_ok : resFn PR h_ident_Valid i_ident_Valid = some fn_ident_Valid := by kernel_rfl

def h_call_Check : Hints := ⟨[(0, [0, 1, 2, 3]), (1, [0, 1, 2, 3, 19]), (2, [8, 9]), (3, [0, 1, 2, 3, 21, 22]), (4, [0, 1, 2, 3, 21, 22, 23]), (5, [0, 1, 2, 3, 10, 21, 22]), (6, [0, 1, 2, 3, 10, 11, 21, 22]), (7, [0, 1, 2, 3, 10, 11, 21, 22, 32]), (8, [8, 9]), (9, [0, 1, 2, 3, 21, 22]), (10, [8, 9])], [(4, [0, 1, 2, 3, 21, 22])], []⟩
def o32_0 : List AOper := [⟨some 8, (.mov (.const (.int .i64 0))), false, none⟩,
  ⟨some 9, (.mov (.const (.int .i64 0))), false, none⟩]
def c32_1 : ACode := (.region o32_0 [0, 1, 2, 3])
def w32_1 (_P : Program) (Q : Exit → Slots → Mem → Prop) (M : Mem) (v0 : V) (v1 : V) (v2 : V) (v3 : V) : Prop :=
  Q .normal [(0, v0), (1, v1), (2, v2), (3, v3)] M
theorem e32_1 (P : Program) (Q : Exit → Slots → Mem → Prop) (s : Slots) (M : Mem) : wpC P c32_1 Q s M = w32_1 P Q M (sget s 0) (sget s 1) (sget s 2) (sget s 3) := by kernel_rfl
def o32_2 : List AOper := [⟨some 8, (.mov (.const (.int .i64 0))), false, none⟩,
  ⟨some 9, (.mov (.const (.int .i64 5))), false, none⟩]
def c32_3 : ACode := (.region o32_2 [8, 9])
def w32_3 (_P : Program) (Q : Exit → Slots → Mem → Prop) (M : Mem) : Prop :=
  Q .normal [(8, (.int .i64 0)), (9, (.int .i64 5))] M
theorem e32_3 (P : Program) (Q : Exit → Slots → Mem → Prop) (s : Slots) (M : Mem) : wpC P c32_3 Q s M = w32_3 P Q M := by kernel_rfl
def c32_4 : ACode := (.seq c32_3 .ret)
def o32_5 : List AOper := [⟨some 12, (.mov (.tmp 0)), false, none⟩,
  ⟨some 13, (.lenSl (.tmp 12)), false, none⟩,
  ⟨some 14, (.bin .lss .none (.tmp 13) (.const (.int .i64 2))), true, none⟩,
  ⟨some 15, (.mov (.tmp 14)), true, none⟩,
  ⟨some 16, (.mov (.tmp 0)), false, some (15, false)⟩,
  ⟨some 17, (.lenSl (.tmp 16)), false, some (15, false)⟩,
  ⟨some 18, (.bin .gtr .none (.tmp 17) (.const (.int .i64 32))), true, some (15, false)⟩,
  ⟨some 19, (.pick (.tmp 15) (.const (.bool true)) (.tmp 18)), true, none⟩]
def c32_6 : ACode := (.seq (.region o32_5 [0, 1, 2, 3, 19]) (.cond (.tmp 19) c32_4 .skip))
def w32_6 (P : Program) (Q : Exit → Slots → Mem → Prop) (M : Mem) (v0 : V) (v1 : V) (v2 : V) (v3 : V) : Prop :=
  @OptVH (lenV v0 M) ⟨fun t13_2 =>
  @OptBH (binV .lss .none t13_2 (.int .i64 2)) ⟨fun b14_3 =>
  @BIfH b14_3
  ⟨wpC P c32_4 Q [(0, v0), (1, v1), (2, v2), (3, v3), (19, (.bool true))] M⟩
  ⟨@OptVH (lenV v0 M) ⟨fun t17_7 =>
  @OptBH (binV .gtr .none t17_7 (.int .i64 32)) ⟨fun b18_8 =>
  @BIfH b18_8
  ⟨wpC P c32_4 Q [(0, v0), (1, v1), (2, v2), (3, v3), (19, (.bool b18_8))] M⟩
  ⟨Q .normal [(0, v0), (1, v1), (2, v2), (3, v3), (19, (.bool b18_8))] M⟩⟩⟩⟩⟩⟩
theorem e32_6 (P : Program) (Q : Exit → Slots → Mem → Prop) (s : Slots) (M : Mem) : wpC P c32_6 Q s M = w32_6 P Q M (sget s 0) (sget s 1) (sget s 2) (sget s 3) := by kernel_rfl
def o32_7 : List AOper := [⟨some 20, (.mov (.tmp 0)), false, none⟩,
  ⟨some 21, (.lenSl (.tmp 20)), false, none⟩,
  ⟨some 22, (.mov (.const (.int .i64 0))), false, none⟩]
def c32_8 : ACode := (.region o32_7 [0, 1, 2, 3, 21, 22])
def w32_8 (_P : Program) (Q : Exit → Slots → Mem → Prop) (M : Mem) (v0 : V) (v1 : V) (v2 : V) (v3 : V) : Prop :=
  @OptVH (lenV v0 M) ⟨fun t21_2 =>
  Q .normal [(0, v0), (1, v1), (2, v2), (3, v3), (21, t21_2), (22, (.int .i64 0))] M⟩
theorem e32_8 (P : Program) (Q : Exit → Slots → Mem → Prop) (s : Slots) (M : Mem) : wpC P c32_8 Q s M = w32_8 P Q M (sget s 0) (sget s 1) (sget s 2) (sget s 3) := by kernel_rfl
def o32_9 : List AOper := [⟨some 23, (.bin .lss .none (.tmp 22) (.tmp 21)), false, none⟩]
def c32_10 : ACode := (.region o32_9 [0, 1, 2, 3, 21, 22, 23])
def w32_10 (_P : Program) (Q : Exit → Slots → Mem → Prop) (M : Mem) (v0 : V) (v1 : V) (v2 : V) (v3 : V) (v21 : V) (v22 : V) : Prop :=
  @OptVH (binV .lss .none v22 v21) ⟨fun t23_1 =>
  Q .normal [(0, v0), (1, v1), (2, v2), (3, v3), (21, v21), (22, v22), (23, t23_1)] M⟩
theorem e32_10 (P : Program) (Q : Exit → Slots → Mem → Prop) (s : Slots) (M : Mem) : wpC P c32_10 Q s M = w32_10 P Q M (sget s 0) (sget s 1) (sget s 2) (sget s 3) (sget s 21) (sget s 22) := by kernel_rfl
def c32_11 : ACode := (.cond (.tmp 23) .skip (.exit 0))
def o32_12 : List AOper := [⟨some 24, (.mov (.tmp 22)), false, none⟩,
  ⟨some 10, (.mov (.tmp 24)), false, none⟩]
def c32_13 : ACode := (.region o32_12 [0, 1, 2, 3, 10, 21, 22])
def w32_13 (_P : Program) (Q : Exit → Slots → Mem → Prop) (M : Mem) (v0 : V) (v1 : V) (v2 : V) (v3 : V) (v21 : V) (v22 : V) : Prop :=
  Q .normal [(0, v0), (1, v1), (2, v2), (3, v3), (10, v22), (21, v21), (22, v22)] M
theorem e32_13 (P : Program) (Q : Exit → Slots → Mem → Prop) (s : Slots) (M : Mem) : wpC P c32_13 Q s M = w32_13 P Q M (sget s 0) (sget s 1) (sget s 2) (sget s 3) (sget s 21) (sget s 22) := by kernel_rfl
def o32_14 : List AOper := [⟨some 25, (.mov (.tmp 0)), false, none⟩,
  ⟨some 26, (.mov (.tmp 10)), false, none⟩,
  ⟨some 27, (.mov (.tmp 1)), false, none⟩,
  ⟨some 28, (.mov (.tmp 2)), false, none⟩,
  ⟨some 29, (.mov (.tmp 3)), false, none⟩,
  ⟨some 30, (.call i_call_one [(.tmp 25), (.tmp 26), (.tmp 27), (.tmp 28), (.tmp 29)]), false, none⟩,
  ⟨some 11, (.mov (.tmp 30)), false, none⟩]
def c32_15 : ACode := (.region o32_14 [0, 1, 2, 3, 10, 11, 21, 22])
def w32_15 (P : Program) (Q : Exit → Slots → Mem → Prop) (M : Mem) (v0 : V) (v1 : V) (v2 : V) (v3 : V) (v10 : V) (v21 : V) (v22 : V) : Prop :=
  @CallH P i_call_one [v0, v10, v1, v2, v3] M ⟨fun t30_6 M6 =>
  Q .normal [(0, v0), (1, v1), (2, v2), (3, v3), (10, v10), (11, t30_6), (21, v21), (22, v22)] M6⟩
theorem e32_15 (P : Program) (Q : Exit → Slots → Mem → Prop) (s : Slots) (M : Mem) : wpC P c32_15 Q s M = w32_15 P Q M (sget s 0) (sget s 1) (sget s 2) (sget s 3) (sget s 10) (sget s 21) (sget s 22) := by kernel_rfl
def o32_16 : List AOper := [⟨some 33, (.mov (.tmp 10)), false, none⟩,
  ⟨some 34, (.mov (.tmp 11)), false, none⟩,
  ⟨some 8, (.mov (.tmp 33)), false, none⟩,
  ⟨some 9, (.mov (.tmp 34)), false, none⟩]
def c32_17 : ACode := (.region o32_16 [8, 9])
def w32_17 (_P : Program) (Q : Exit → Slots → Mem → Prop) (M : Mem) (v10 : V) (v11 : V) : Prop :=
  Q .normal [(8, v10), (9, v11)] M
theorem e32_17 (P : Program) (Q : Exit → Slots → Mem → Prop) (s : Slots) (M : Mem) : wpC P c32_17 Q s M = w32_17 P Q M (sget s 10) (sget s 11) := by kernel_rfl
def c32_18 : ACode := (.seq c32_17 .ret)
def o32_19 : List AOper := [⟨some 31, (.mov (.tmp 11)), false, none⟩,
  ⟨some 32, (.bin .neq .none (.tmp 31) (.const (.int .i64 0))), true, none⟩]
def c32_20 : ACode := (.seq (.region o32_19 [0, 1, 2, 3, 10, 11, 21, 22, 32]) (.cond (.tmp 32) c32_18 .skip))
def w32_20 (P : Program) (Q : Exit → Slots → Mem → Prop) (M : Mem) (v0 : V) (v1 : V) (v2 : V) (v3 : V) (v10 : V) (v11 : V) (v21 : V) (v22 : V) : Prop :=
  @OptBH (binV .neq .none v11 (.int .i64 0)) ⟨fun b32_2 =>
  @BIfH b32_2
  ⟨wpC P c32_18 Q [(0, v0), (1, v1), (2, v2), (3, v3), (10, v10), (11, v11), (21, v21), (22, v22), (32, (.bool b32_2))] M⟩
  ⟨Q .normal [(0, v0), (1, v1), (2, v2), (3, v3), (10, v10), (11, v11), (21, v21), (22, v22), (32, (.bool b32_2))] M⟩⟩
theorem e32_20 (P : Program) (Q : Exit → Slots → Mem → Prop) (s : Slots) (M : Mem) : wpC P c32_20 Q s M = w32_20 P Q M (sget s 0) (sget s 1) (sget s 2) (sget s 3) (sget s 10) (sget s 11) (sget s 21) (sget s 22) := by kernel_rfl
def c32_21 : ACode := (.seq c32_15 c32_20)
def c32_22 : ACode := (.seq c32_13 c32_21)
def c32_23 : ACode := (.block 1 c32_22)
def o32_24 : List AOper := [⟨some 35, (.bin .add .none (.tmp 22) (.const (.int .i64 1))), false, none⟩,
  ⟨some 22, (.mov (.tmp 35)), false, none⟩]
def c32_25 : ACode := (.region o32_24 [0, 1, 2, 3, 21, 22])
def w32_25 (_P : Program) (Q : Exit → Slots → Mem → Prop) (M : Mem) (v0 : V) (v1 : V) (v2 : V) (v3 : V) (v21 : V) (v22 : V) : Prop :=
  @OptVH (binV .add .none v22 (.int .i64 1)) ⟨fun t35_1 =>
  Q .normal [(0, v0), (1, v1), (2, v2), (3, v3), (21, v21), (22, t35_1)] M⟩
theorem e32_25 (P : Program) (Q : Exit → Slots → Mem → Prop) (s : Slots) (M : Mem) : wpC P c32_25 Q s M = w32_25 P Q M (sget s 0) (sget s 1) (sget s 2) (sget s 3) (sget s 21) (sget s 22) := by kernel_rfl
def c32_26 : ACode := (.seq c32_23 c32_25)
def c32_27 : ACode := (.seq c32_11 c32_26)
def c32_28 : ACode := (.seq c32_10 c32_27)
def c32_29 : ACode := (.loop [0, 1, 2, 3, 21, 22] c32_28)
def c32_30 : ACode := (.block 0 c32_29)
def c32_31 : ACode := (.seq c32_8 c32_30)
def o32_32 : List AOper := [⟨some 8, (.mov (.const (.int .i64 0))), false, none⟩,
  ⟨some 9, (.mov (.const (.int .i64 0))), false, none⟩]
def c32_33 : ACode := (.region o32_32 [8, 9])
def w32_33 (_P : Program) (Q : Exit → Slots → Mem → Prop) (M : Mem) : Prop :=
  Q .normal [(8, (.int .i64 0)), (9, (.int .i64 0))] M
theorem e32_33 (P : Program) (Q : Exit → Slots → Mem → Prop) (s : Slots) (M : Mem) : wpC P c32_33 Q s M = w32_33 P Q M := by kernel_rfl
def c32_34 : ACode := (.seq c32_33 .ret)
def c32_35 : ACode := (.seq c32_31 c32_34)
def c32_36 : ACode := (.seq c32_6 c32_35)
def c32_37 : ACode := (.seq c32_1 c32_36)
def fn_call_Check : AFn := ⟨36, [(.tmp 8), (.tmp 9)], c32_37⟩
theorem fn_call_Check_ok : resFn PR h_call_Check i_call_Check = some fn_call_Check := by kernel_rfl

def h_transitref17_one : Hints := ⟨[(0, [0, 1, 2, 3, 4]), (1, [0, 1, 2, 3, 4, 11]), (2, [0, 1, 2, 3, 4, 11, 19]), (3, [10]), (4, [2, 3, 4, 11, 26]), (5, [10]), (6, [2, 11, 46]), (7, [10]), (8, [10])], [], []⟩
def o33_0 : List AOper := [⟨some 10, (.mov (.const (.int .i64 0))), false, none⟩]
def c33_1 : ACode := (.region o33_0 [0, 1, 2, 3, 4])
def w33_1 (_P : Program) (Q : Exit → Slots → Mem → Prop) (M : Mem) (v0 : V) (v1 : V) (v2 : V) (v3 : V) (v4 : V) : Prop :=
  Q .normal [(0, v0), (1, v1), (2, v2), (3, v3), (4, v4)] M
theorem e33_1 (P : Program) (Q : Exit → Slots → Mem → Prop) (s : Slots) (M : Mem) : wpC P c33_1 Q s M = w33_1 P Q M (sget s 0) (sget s 1) (sget s 2) (sget s 3) (sget s 4) := by kernel_rfl
def o33_2 : List AOper := [⟨some 12, (.mov (.tmp 0)), false, none⟩,
  ⟨some 13, (.mov (.tmp 1)), false, none⟩,
  ⟨some 14, (.indexSl 5 (.tmp 12) (.tmp 13)), false, none⟩,
  ⟨some 15, (.load 5 true (.tmp 14)), false, none⟩,
  ⟨some 11, (.alloc [(.str []), (.int .i64 0), (.int .i64 0), (.bool false), (.slice [] .nil)]), false, none⟩,
  ⟨none, (.store 5 (.tmp 11) (.tmp 15)), false, none⟩]
def c33_3 : ACode := (.region o33_2 [0, 1, 2, 3, 4, 11])
def w33_3 (_P : Program) (Q : Exit → Slots → Mem → Prop) (M : Mem) (v0 : V) (v1 : V) (v2 : V) (v3 : V) (v4 : V) : Prop :=
  @OptVH (indexSlV 5 v0 v1 M) ⟨fun t14_3 =>
  @OptVH (loadV 5 true t14_3 M) ⟨fun t15_4 =>
  @OptMH (allocV [(.str []), (.int .i64 0), (.int .i64 0), (.bool false), (.slice [] .nil)] M) ⟨fun t11_5 M5 =>
  @OptMH (storeVM 5 t11_5 t15_4 M5) ⟨fun _tx_6 M6 =>
  Q .normal [(0, v0), (1, v1), (2, v2), (3, v3), (4, v4), (11, t11_5)] M6⟩⟩⟩⟩
theorem e33_3 (P : Program) (Q : Exit → Slots → Mem → Prop) (s : Slots) (M : Mem) : wpC P c33_3 Q s M = w33_3 P Q M (sget s 0) (sget s 1) (sget s 2) (sget s 3) (sget s 4) := by kernel_rfl
def o33_4 : List AOper := [⟨some 10, (.mov (.const (.int .i64 12))), false, none⟩]
def c33_5 : ACode := (.region o33_4 [10])
def w33_5 (_P : Program) (Q : Exit → Slots → Mem → Prop) (M : Mem) : Prop :=
  Q .normal [(10, (.int .i64 12))] M
theorem e33_5 (P : Program) (Q : Exit → Slots → Mem → Prop) (s : Slots) (M : Mem) : wpC P c33_5 Q s M = w33_5 P Q M := by kernel_rfl
def c33_6 : ACode := (.seq c33_5 .ret)
def o33_7 : List AOper := [⟨some 16, (.fieldAddr 0 (.tmp 11)), false, none⟩,
  ⟨some 17, (.load 1 false (.tmp 16)), false, none⟩,
  ⟨some 18, (.call i_transitref05_Valid [(.tmp 17)]), true, none⟩,
  ⟨some 19, (.un .not (.tmp 18)), true, none⟩]
def c33_8 : ACode := (.seq (.region o33_7 [0, 1, 2, 3, 4, 11, 19]) (.cond (.tmp 19) c33_6 .skip))
def w33_8 (P : Program) (Q : Exit → Slots → Mem → Prop) (M : Mem) (v0 : V) (v1 : V) (v2 : V) (v3 : V) (v4 : V) (v11 : V) : Prop :=
  @OptVH (moveV 0 v11) ⟨fun t16_1 =>
  @OptVH (loadV 1 false t16_1 M) ⟨fun t17_2 =>
  @CallH P i_transitref05_Valid [t17_2] M ⟨fun t18_3 M3 => @OptBH (some t18_3) ⟨fun b18_3 =>
  @OptBH (unV .not (.bool b18_3)) ⟨fun b19_4 =>
  @BIfH b19_4
  ⟨wpC P c33_6 Q [(0, v0), (1, v1), (2, v2), (3, v3), (4, v4), (11, v11), (19, (.bool b19_4))] M3⟩
  ⟨Q .normal [(0, v0), (1, v1), (2, v2), (3, v3), (4, v4), (11, v11), (19, (.bool b19_4))] M3⟩⟩⟩⟩⟩⟩
theorem e33_8 (P : Program) (Q : Exit → Slots → Mem → Prop) (s : Slots) (M : Mem) : wpC P c33_8 Q s M = w33_8 P Q M (sget s 0) (sget s 1) (sget s 2) (sget s 3) (sget s 4) (sget s 11) := by kernel_rfl
def o33_9 : List AOper := [⟨some 10, (.mov (.const (.int .i64 6))), false, none⟩]
def c33_10 : ACode := (.region o33_9 [10])
def w33_10 (_P : Program) (Q : Exit → Slots → Mem → Prop) (M : Mem) : Prop :=
  Q .normal [(10, (.int .i64 6))] M
theorem e33_10 (P : Program) (Q : Exit → Slots → Mem → Prop) (s : Slots) (M : Mem) : wpC P c33_10 Q s M = w33_10 P Q M := by kernel_rfl
def c33_11 : ACode := (.seq c33_10 .ret)
def o33_12 : List AOper := [⟨some 20, (.mov (.tmp 0)), false, none⟩,
  ⟨some 21, (.mov (.tmp 1)), false, none⟩,
  ⟨some 22, (.slice 5 (.tmp 20) none (some (.tmp 21)) none), false, none⟩,
  ⟨some 23, (.fieldAddr 0 (.tmp 11)), false, none⟩,
  ⟨some 24, (.load 1 false (.tmp 23)), false, none⟩,
  ⟨some 25, (.call i_transitref17_Find [(.tmp 22), (.tmp 24)]), false, none⟩,
  ⟨some 26, (.bin .geq .none (.tmp 25) (.const (.int .i64 0))), true, none⟩]
def c33_13 : ACode := (.seq (.mixed o33_12 [true, true, true, true, true, false, true] [2, 3, 4, 11, 26]) (.cond (.tmp 26) c33_11 .skip))
def w33_13 (P : Program) (Q : Exit → Slots → Mem → Prop) (M : Mem) (v0 : V) (v1 : V) (v2 : V) (v3 : V) (v4 : V) (v11 : V) : Prop :=
  @OptVH (sliceV 5 v0 none (some v1) none M) ⟨fun t22_3 =>
  @OptVH (moveV 0 v11) ⟨fun t23_4 =>
  @OptVH (loadV 1 false t23_4 M) ⟨fun t24_5 =>
  @CallH P i_transitref17_Find [t22_3, t24_5] M ⟨fun t25_6 M6 =>
  @OptBH (binV .geq .none t25_6 (.int .i64 0)) ⟨fun b26_7 =>
  @BIfH b26_7
  ⟨wpC P c33_11 Q [(2, v2), (3, v3), (4, v4), (11, v11), (26, (.bool b26_7))] M6⟩
  ⟨Q .normal [(2, v2), (3, v3), (4, v4), (11, v11), (26, (.bool b26_7))] M6⟩⟩⟩⟩⟩⟩
theorem e33_13 (P : Program) (Q : Exit → Slots → Mem → Prop) (s : Slots) (M : Mem) : wpC P c33_13 Q s M = w33_13 P Q M (sget s 0) (sget s 1) (sget s 2) (sget s 3) (sget s 4) (sget s 11) := by kernel_rfl
def o33_14 : List AOper := [⟨some 10, (.mov (.const (.int .i64 9))), false, none⟩]
def c33_15 : ACode := (.region o33_14 [10])
def w33_15 (_P : Program) (Q : Exit → Slots → Mem → Prop) (M : Mem) : Prop :=
  Q .normal [(10, (.int .i64 9))] M
theorem e33_15 (P : Program) (Q : Exit → Slots → Mem → Prop) (s : Slots) (M : Mem) : wpC P c33_15 Q s M = w33_15 P Q M := by kernel_rfl
def c33_16 : ACode := (.seq c33_15 .ret)
def o33_17 : List AOper := [⟨some 27, (.fieldAddr 1 (.tmp 11)), false, none⟩,
  ⟨some 28, (.load 1 false (.tmp 27)), false, none⟩,
  ⟨some 29, (.bin .lss .none (.tmp 28) (.const (.int .i64 0))), true, none⟩,
  ⟨some 30, (.mov (.tmp 29)), true, none⟩,
  ⟨some 31, (.fieldAddr 1 (.tmp 11)), false, some (30, false)⟩,
  ⟨some 32, (.load 1 false (.tmp 31)), false, some (30, false)⟩,
  ⟨some 33, (.mov (.tmp 3)), false, some (30, false)⟩,
  ⟨some 34, (.bin .geq .none (.tmp 32) (.tmp 33)), true, some (30, false)⟩,
  ⟨some 35, (.pick (.tmp 30) (.const (.bool true)) (.tmp 34)), true, none⟩,
  ⟨some 36, (.mov (.tmp 35)), true, none⟩,
  ⟨some 37, (.fieldAddr 2 (.tmp 11)), false, some (36, false)⟩,
  ⟨some 38, (.load 1 false (.tmp 37)), false, some (36, false)⟩,
  ⟨some 39, (.bin .lss .none (.tmp 38) (.const (.int .i64 0))), true, some (36, false)⟩,
  ⟨some 40, (.pick (.tmp 36) (.const (.bool true)) (.tmp 39)), true, none⟩,
  ⟨some 41, (.mov (.tmp 40)), true, none⟩,
  ⟨some 42, (.fieldAddr 2 (.tmp 11)), false, some (41, false)⟩,
  ⟨some 43, (.load 1 false (.tmp 42)), false, some (41, false)⟩,
  ⟨some 44, (.mov (.tmp 4)), false, some (41, false)⟩,
  ⟨some 45, (.bin .geq .none (.tmp 43) (.tmp 44)), true, some (41, false)⟩,
  ⟨some 46, (.pick (.tmp 41) (.const (.bool true)) (.tmp 45)), true, none⟩]
def c33_18 : ACode := (.seq (.region o33_17 [2, 11, 46]) (.cond (.tmp 46) c33_16 .skip))
def w33_18 (P : Program) (Q : Exit → Slots → Mem → Prop) (M : Mem) (v2 : V) (v3 : V) (v4 : V) (v11 : V) : Prop :=
  @OptVH (moveV 1 v11) ⟨fun t27_1 =>
  @OptVH (loadV 1 false t27_1 M) ⟨fun t28_2 =>
  @OptBH (binV .lss .none t28_2 (.int .i64 0)) ⟨fun b29_3 =>
  @BIfH b29_3
  ⟨wpC P c33_16 Q [(2, v2), (11, v11), (46, (.bool true))] M⟩
  ⟨@OptVH (moveV 1 v11) ⟨fun t31_10 =>
  @OptVH (loadV 1 false t31_10 M) ⟨fun t32_11 =>
  @OptBH (binV .geq .none t32_11 v3) ⟨fun b34_13 =>
  @BIfH b34_13
  ⟨wpC P c33_16 Q [(2, v2), (11, v11), (46, (.bool true))] M⟩
  ⟨@OptVH (moveV 2 v11) ⟨fun t37_19 =>
  @OptVH (loadV 1 false t37_19 M) ⟨fun t38_20 =>
  @OptBH (binV .lss .none t38_20 (.int .i64 0)) ⟨fun b39_21 =>
  @BIfH b39_21
  ⟨wpC P c33_16 Q [(2, v2), (11, v11), (46, (.bool true))] M⟩
  ⟨@OptVH (moveV 2 v11) ⟨fun t42_25 =>
  @OptVH (loadV 1 false t42_25 M) ⟨fun t43_26 =>
  @OptBH (binV .geq .none t43_26 v4) ⟨fun b45_28 =>
  @BIfH b45_28
  ⟨wpC P c33_16 Q [(2, v2), (11, v11), (46, (.bool b45_28))] M⟩
  ⟨Q .normal [(2, v2), (11, v11), (46, (.bool b45_28))] M⟩⟩⟩⟩⟩⟩⟩⟩⟩⟩⟩⟩⟩⟩⟩⟩
theorem e33_18 (P : Program) (Q : Exit → Slots → Mem → Prop) (s : Slots) (M : Mem) : wpC P c33_18 Q s M = w33_18 P Q M (sget s 2) (sget s 3) (sget s 4) (sget s 11) := by kernel_rfl
def o33_19 : List AOper := [⟨some 47, (.fieldAddr 4 (.tmp 11)), false, none⟩,
  ⟨some 48, (.load 1 false (.tmp 47)), false, none⟩,
  ⟨some 49, (.mov (.tmp 2)), false, none⟩,
  ⟨some 50, (.call i_transitref17_calls [(.tmp 48), (.tmp 49)]), false, none⟩,
  ⟨some 10, (.mov (.tmp 50)), false, none⟩]
def c33_20 : ACode := (.region o33_19 [10])
def w33_20 (P : Program) (Q : Exit → Slots → Mem → Prop) (M : Mem) (v2 : V) (v11 : V) : Prop :=
  @OptVH (moveV 4 v11) ⟨fun t47_1 =>
  @OptVH (loadV 1 false t47_1 M) ⟨fun t48_2 =>
  @CallH P i_transitref17_calls [t48_2, v2] M ⟨fun t50_4 M4 =>
  Q .normal [(10, t50_4)] M4⟩⟩⟩
theorem e33_20 (P : Program) (Q : Exit → Slots → Mem → Prop) (s : Slots) (M : Mem) : wpC P c33_20 Q s M = w33_20 P Q M (sget s 2) (sget s 11) := by kernel_rfl
def c33_21 : ACode := (.seq c33_20 .ret)
def c33_22 : ACode := (.seq c33_18 c33_21)
def c33_23 : ACode := (.seq c33_13 c33_22)
def c33_24 : ACode := (.seq c33_8 c33_23)
def c33_25 : ACode := (.seq c33_3 c33_24)
def c33_26 : ACode := (.seq c33_1 c33_25)
def fn_transitref17_one : AFn := ⟨51, [(.tmp 10)], c33_26⟩
theorem fn_transitref17_one_ok : resFn PR h_transitref17_one i_transitref17_one = some fn_transitref17_one := by kernel_rfl

def h_transitref17_event : Hints := ⟨[(0, [1, 2]), (1, [1, 2, 7]), (2, [4]), (3, [4])], [], []⟩
def o35_0 : List AOper := [⟨some 2, (.box 5 (.tmp 0)), false, none⟩,
  ⟨some 4, (.mov (.const (.int .i64 0))), false, none⟩]
def c35_1 : ACode := (.region o35_0 [1, 2])
def w35_1 (_P : Program) (Q : Exit → Slots → Mem → Prop) (M : Mem) (v0 : V) (v1 : V) : Prop :=
  @OptMH (boxV 5 v0 M) ⟨fun t2_1 M1 =>
  Q .normal [(1, v1), (2, t2_1)] M1⟩
theorem e35_1 (P : Program) (Q : Exit → Slots → Mem → Prop) (s : Slots) (M : Mem) : wpC P c35_1 Q s M = w35_1 P Q M (sget s 0) (sget s 1) := by kernel_rfl
def o35_2 : List AOper := [⟨some 8, (.fieldAddr 4 (.tmp 2)), false, none⟩,
  ⟨some 9, (.load 1 false (.tmp 8)), false, none⟩,
  ⟨some 10, (.mov (.tmp 1)), false, none⟩,
  ⟨some 11, (.bin .quo .none (.tmp 10) (.const (.int .i64 2))), false, none⟩,
  ⟨some 12, (.indexSl 5 (.tmp 9) (.tmp 11)), false, none⟩,
  ⟨some 13, (.fieldAddr 1 (.tmp 12)), false, none⟩,
  ⟨some 14, (.load 1 false (.tmp 13)), false, none⟩,
  ⟨some 4, (.mov (.tmp 14)), false, none⟩]
def c35_3 : ACode := (.region o35_2 [4])
def w35_3 (_P : Program) (Q : Exit → Slots → Mem → Prop) (M : Mem) (v1 : V) (v2 : V) : Prop :=
  @OptVH (moveV 4 v2) ⟨fun t8_1 =>
  @OptVH (loadV 1 false t8_1 M) ⟨fun t9_2 =>
  @OptVH (binV .quo .none v1 (.int .i64 2)) ⟨fun t11_4 =>
  @OptVH (indexSlV 5 t9_2 t11_4 M) ⟨fun t12_5 =>
  @OptVH (moveV 1 t12_5) ⟨fun t13_6 =>
  @OptVH (loadV 1 false t13_6 M) ⟨fun t14_7 =>
  Q .normal [(4, t14_7)] M⟩⟩⟩⟩⟩⟩
theorem e35_3 (P : Program) (Q : Exit → Slots → Mem → Prop) (s : Slots) (M : Mem) : wpC P c35_3 Q s M = w35_3 P Q M (sget s 1) (sget s 2) := by kernel_rfl
def c35_4 : ACode := (.seq c35_3 .ret)
def o35_5 : List AOper := [⟨some 5, (.mov (.tmp 1)), false, none⟩,
  ⟨some 6, (.bin .rem .none (.tmp 5) (.const (.int .i64 2))), false, none⟩,
  ⟨some 7, (.bin .eql .none (.tmp 6) (.const (.int .i64 0))), true, none⟩]
def c35_6 : ACode := (.seq (.region o35_5 [1, 2, 7]) (.cond (.tmp 7) c35_4 .skip))
def w35_6 (P : Program) (Q : Exit → Slots → Mem → Prop) (M : Mem) (v1 : V) (v2 : V) : Prop :=
  @OptVH (binV .rem .none v1 (.int .i64 2)) ⟨fun t6_2 =>
  @OptBH (binV .eql .none t6_2 (.int .i64 0)) ⟨fun b7_3 =>
  @BIfH b7_3
  ⟨wpC P c35_4 Q [(1, v1), (2, v2), (7, (.bool b7_3))] M⟩
  ⟨Q .normal [(1, v1), (2, v2), (7, (.bool b7_3))] M⟩⟩⟩
theorem e35_6 (P : Program) (Q : Exit → Slots → Mem → Prop) (s : Slots) (M : Mem) : wpC P c35_6 Q s M = w35_6 P Q M (sget s 1) (sget s 2) := by kernel_rfl
def o35_7 : List AOper := [⟨some 15, (.fieldAddr 4 (.tmp 2)), false, none⟩,
  ⟨some 16, (.load 1 false (.tmp 15)), false, none⟩,
  ⟨some 17, (.mov (.tmp 1)), false, none⟩,
  ⟨some 18, (.bin .quo .none (.tmp 17) (.const (.int .i64 2))), false, none⟩,
  ⟨some 19, (.indexSl 5 (.tmp 16) (.tmp 18)), false, none⟩,
  ⟨some 20, (.fieldAddr 2 (.tmp 19)), false, none⟩,
  ⟨some 21, (.load 1 false (.tmp 20)), false, none⟩,
  ⟨some 4, (.mov (.tmp 21)), false, none⟩]
def c35_8 : ACode := (.region o35_7 [4])
def w35_8 (_P : Program) (Q : Exit → Slots → Mem → Prop) (M : Mem) (v1 : V) (v2 : V) : Prop :=
  @OptVH (moveV 4 v2) ⟨fun t15_1 =>
  @OptVH (loadV 1 false t15_1 M) ⟨fun t16_2 =>
  @OptVH (binV .quo .none v1 (.int .i64 2)) ⟨fun t18_4 =>
  @OptVH (indexSlV 5 t16_2 t18_4 M) ⟨fun t19_5 =>
  @OptVH (moveV 2 t19_5) ⟨fun t20_6 =>
  @OptVH (loadV 1 false t20_6 M) ⟨fun t21_7 =>
  Q .normal [(4, t21_7)] M⟩⟩⟩⟩⟩⟩
theorem e35_8 (P : Program) (Q : Exit → Slots → Mem → Prop) (s : Slots) (M : Mem) : wpC P c35_8 Q s M = w35_8 P Q M (sget s 1) (sget s 2) := by kernel_rfl
def c35_9 : ACode := (.seq c35_8 .ret)
def c35_10 : ACode := (.seq c35_6 c35_9)
def c35_11 : ACode := (.seq c35_1 c35_10)
def fn_transitref17_event : AFn := ⟨22, [(.tmp 4)], c35_11⟩
theorem fn_transitref17_event_ok : resFn PR h_transitref17_event i_transitref17_event = some fn_transitref17_event := by kernel_rfl

def h_trip_connects : Hints := ⟨[(0, [1, 2, 3]), (1, [1, 2, 3, 7]), (2, [1, 2, 7, 11, 12, 13]), (3, [1, 2, 7, 11, 12, 13, 14]), (4, [1, 2, 7, 9, 11, 12, 13]), (5, [1, 2, 7, 9, 11, 12, 13, 27]), (6, [6]), (7, [1, 2, 7, 11, 12, 13]), (8, [1, 2, 7, 11, 12, 13]), (9, [6])], [(3, [1, 2, 7, 11, 12, 13])], []⟩
def o36_0 : List AOper := [⟨some 3, (.box 5 (.tmp 0)), false, none⟩,
  ⟨some 6, (.mov (.const (.bool false))), true, none⟩]
def c36_1 : ACode := (.region o36_0 [1, 2, 3])
def w36_1 (_P : Program) (Q : Exit → Slots → Mem → Prop) (M : Mem) (v0 : V) (v1 : V) (v2 : V) : Prop :=
  @OptMH (boxV 5 v0 M) ⟨fun t3_1 M1 =>
  Q .normal [(1, v1), (2, v2), (3, t3_1)] M1⟩
theorem e36_1 (P : Program) (Q : Exit → Slots → Mem → Prop) (s : Slots) (M : Mem) : wpC P c36_1 Q s M = w36_1 P Q M (sget s 0) (sget s 1) (sget s 2) := by kernel_rfl
def o36_2 : List AOper := [⟨some 7, (.mov (.const (.bool false))), true, none⟩]
def c36_3 : ACode := (.region o36_2 [1, 2, 3, 7])
def w36_3 (_P : Program) (Q : Exit → Slots → Mem → Prop) (M : Mem) (v1 : V) (v2 : V) (v3 : V) : Prop :=
  Q .normal [(1, v1), (2, v2), (3, v3), (7, (.bool false))] M
theorem e36_3 (P : Program) (Q : Exit → Slots → Mem → Prop) (s : Slots) (M : Mem) : wpC P c36_3 Q s M = w36_3 P Q M (sget s 1) (sget s 2) (sget s 3) := by kernel_rfl
def o36_4 : List AOper := [⟨some 10, (.fieldAddr 4 (.tmp 3)), false, none⟩,
  ⟨some 11, (.load 1 false (.tmp 10)), false, none⟩,
  ⟨some 12, (.lenSl (.tmp 11)), false, none⟩,
  ⟨some 13, (.mov (.const (.int .i64 0))), false, none⟩]
def c36_5 : ACode := (.region o36_4 [1, 2, 7, 11, 12, 13])
def w36_5 (_P : Program) (Q : Exit → Slots → Mem → Prop) (M : Mem) (v1 : V) (v2 : V) (v3 : V) (v7 : V) : Prop :=
  @OptVH (moveV 4 v3) ⟨fun t10_1 =>
  @OptVH (loadV 1 false t10_1 M) ⟨fun t11_2 =>
  @OptVH (lenV t11_2 M) ⟨fun t12_3 =>
  Q .normal [(1, v1), (2, v2), (7, v7), (11, t11_2), (12, t12_3), (13, (.int .i64 0))] M⟩⟩⟩
theorem e36_5 (P : Program) (Q : Exit → Slots → Mem → Prop) (s : Slots) (M : Mem) : wpC P c36_5 Q s M = w36_5 P Q M (sget s 1) (sget s 2) (sget s 3) (sget s 7) := by kernel_rfl
def o36_6 : List AOper := [⟨some 14, (.bin .lss .none (.tmp 13) (.tmp 12)), false, none⟩]
def c36_7 : ACode := (.region o36_6 [1, 2, 7, 11, 12, 13, 14])
def w36_7 (_P : Program) (Q : Exit → Slots → Mem → Prop) (M : Mem) (v1 : V) (v2 : V) (v7 : V) (v11 : V) (v12 : V) (v13 : V) : Prop :=
  @OptVH (binV .lss .none v13 v12) ⟨fun t14_1 =>
  Q .normal [(1, v1), (2, v2), (7, v7), (11, v11), (12, v12), (13, v13), (14, t14_1)] M⟩
theorem e36_7 (P : Program) (Q : Exit → Slots → Mem → Prop) (s : Slots) (M : Mem) : wpC P c36_7 Q s M = w36_7 P Q M (sget s 1) (sget s 2) (sget s 7) (sget s 11) (sget s 12) (sget s 13) := by kernel_rfl
def c36_8 : ACode := (.cond (.tmp 14) .skip (.exit 0))
def o36_9 : List AOper := [⟨some 15, (.indexSl 5 (.tmp 11) (.tmp 13)), false, none⟩,
  ⟨some 16, (.load 5 true (.tmp 15)), false, none⟩,
  ⟨some 9, (.alloc [(.int .i64 0), (.int .i64 0), (.int .i64 0), (.bool false), (.bool false)]), false, none⟩,
  ⟨none, (.store 5 (.tmp 9) (.tmp 16)), false, none⟩]
def c36_10 : ACode := (.region o36_9 [1, 2, 7, 9, 11, 12, 13])
def w36_10 (_P : Program) (Q : Exit → Slots → Mem → Prop) (M : Mem) (v1 : V) (v2 : V) (v7 : V) (v11 : V) (v12 : V) (v13 : V) : Prop :=
  @OptVH (indexSlV 5 v11 v13 M) ⟨fun t15_1 =>
  @OptVH (loadV 5 true t15_1 M) ⟨fun t16_2 =>
  @OptMH (allocV [(.int .i64 0), (.int .i64 0), (.int .i64 0), (.bool false), (.bool false)] M) ⟨fun t9_3 M3 =>
  @OptMH (storeVM 5 t9_3 t16_2 M3) ⟨fun _tx_4 M4 =>
  Q .normal [(1, v1), (2, v2), (7, v7), (9, t9_3), (11, v11), (12, v12), (13, v13)] M4⟩⟩⟩⟩
theorem e36_10 (P : Program) (Q : Exit → Slots → Mem → Prop) (s : Slots) (M : Mem) : wpC P c36_10 Q s M = w36_10 P Q M (sget s 1) (sget s 2) (sget s 7) (sget s 11) (sget s 12) (sget s 13) := by kernel_rfl
def o36_11 : List AOper := [⟨some 6, (.mov (.const (.bool true))), true, none⟩]
def c36_12 : ACode := (.region o36_11 [6])
def w36_12 (_P : Program) (Q : Exit → Slots → Mem → Prop) (M : Mem) : Prop :=
  Q .normal [(6, (.bool true))] M
theorem e36_12 (P : Program) (Q : Exit → Slots → Mem → Prop) (s : Slots) (M : Mem) : wpC P c36_12 Q s M = w36_12 P Q M := by kernel_rfl
def c36_13 : ACode := (.seq c36_12 .ret)
def o36_14 : List AOper := [⟨some 17, (.mov (.tmp 7)), true, none⟩,
  ⟨some 18, (.mov (.tmp 17)), true, none⟩,
  ⟨some 19, (.fieldAddr 0 (.tmp 9)), false, some (18, true)⟩,
  ⟨some 20, (.load 1 false (.tmp 19)), false, some (18, true)⟩,
  ⟨some 21, (.mov (.tmp 2)), false, some (18, true)⟩,
  ⟨some 22, (.bin .eql .none (.tmp 20) (.tmp 21)), true, some (18, true)⟩,
  ⟨some 23, (.pick (.tmp 18) (.tmp 22) (.const (.bool false))), true, none⟩,
  ⟨some 24, (.mov (.tmp 23)), true, none⟩,
  ⟨some 25, (.fieldAddr 4 (.tmp 9)), false, some (24, true)⟩,
  ⟨some 26, (.load 1 false (.tmp 25)), true, some (24, true)⟩,
  ⟨some 27, (.pick (.tmp 24) (.tmp 26) (.const (.bool false))), true, none⟩]
def c36_15 : ACode := (.seq (.region o36_14 [1, 2, 7, 9, 11, 12, 13, 27]) (.cond (.tmp 27) c36_13 .skip))
def w36_15 (P : Program) (Q : Exit → Slots → Mem → Prop) (M : Mem) (v1 : V) (v2 : V) (v7 : V) (v9 : V) (v11 : V) (v12 : V) (v13 : V) : Prop :=
  @OptBH (some v7) ⟨fun b17_1 =>
  @BIfH b17_1
  ⟨@OptVH (moveV 0 v9) ⟨fun t19_3 =>
  @OptVH (loadV 1 false t19_3 M) ⟨fun t20_4 =>
  @OptBH (binV .eql .none t20_4 v2) ⟨fun b22_6 =>
  @BIfH b22_6
  ⟨@OptVH (moveV 4 v9) ⟨fun t25_9 =>
  @OptBH (loadV 1 false t25_9 M) ⟨fun b26_10 =>
  @BIfH b26_10
  ⟨wpC P c36_13 Q [(1, v1), (2, v2), (7, v7), (9, v9), (11, v11), (12, v12), (13, v13), (27, (.bool b26_10))] M⟩
  ⟨Q .normal [(1, v1), (2, v2), (7, v7), (9, v9), (11, v11), (12, v12), (13, v13), (27, (.bool b26_10))] M⟩⟩⟩⟩
  ⟨Q .normal [(1, v1), (2, v2), (7, v7), (9, v9), (11, v11), (12, v12), (13, v13), (27, (.bool false))] M⟩⟩⟩⟩⟩
  ⟨Q .normal [(1, v1), (2, v2), (7, v7), (9, v9), (11, v11), (12, v12), (13, v13), (27, (.bool false))] M⟩⟩
theorem e36_15 (P : Program) (Q : Exit → Slots → Mem → Prop) (s : Slots) (M : Mem) : wpC P c36_15 Q s M = w36_15 P Q M (sget s 1) (sget s 2) (sget s 7) (sget s 9) (sget s 11) (sget s 12) (sget s 13) := by kernel_rfl
def o36_16 : List AOper := [⟨some 28, (.mov (.tmp 7)), true, none⟩,
  ⟨some 29, (.mov (.tmp 28)), true, none⟩,
  ⟨some 30, (.fieldAddr 0 (.tmp 9)), false, some (29, false)⟩,
  ⟨some 31, (.load 1 false (.tmp 30)), false, some (29, false)⟩,
  ⟨some 32, (.mov (.tmp 1)), false, some (29, false)⟩,
  ⟨some 33, (.bin .eql .none (.tmp 31) (.tmp 32)), true, some (29, false)⟩,
  ⟨some 34, (.mov (.tmp 33)), true, some (29, false)⟩,
  ⟨some 35, (.fieldAddr 3 (.tmp 9)), false, some (34, true)⟩,
  ⟨some 36, (.load 1 false (.tmp 35)), true, some (34, true)⟩,
  ⟨some 37, (.pick (.tmp 34) (.tmp 36) (.const (.bool false))), true, some (29, false)⟩,
  ⟨some 38, (.pick (.tmp 29) (.const (.bool true)) (.tmp 37)), true, none⟩,
  ⟨some 7, (.mov (.tmp 38)), true, none⟩]
def c36_17 : ACode := (.region o36_16 [1, 2, 7, 11, 12, 13])
def w36_17 (_P : Program) (Q : Exit → Slots → Mem → Prop) (M : Mem) (v1 : V) (v2 : V) (v7 : V) (v9 : V) (v11 : V) (v12 : V) (v13 : V) : Prop :=
  @OptBH (some v7) ⟨fun b28_1 =>
  @BIfH b28_1
  ⟨Q .normal [(1, v1), (2, v2), (7, (.bool true)), (11, v11), (12, v12), (13, v13)] M⟩
  ⟨@OptVH (moveV 0 v9) ⟨fun t30_5 =>
  @OptVH (loadV 1 false t30_5 M) ⟨fun t31_6 =>
  @OptBH (binV .eql .none t31_6 v1) ⟨fun b33_8 =>
  @BIfH b33_8
  ⟨@OptVH (moveV 3 v9) ⟨fun t35_10 =>
  @OptBH (loadV 1 false t35_10 M) ⟨fun b36_11 =>
  Q .normal [(1, v1), (2, v2), (7, (.bool b36_11)), (11, v11), (12, v12), (13, v13)] M⟩⟩⟩
  ⟨Q .normal [(1, v1), (2, v2), (7, (.bool false)), (11, v11), (12, v12), (13, v13)] M⟩⟩⟩⟩⟩⟩
theorem e36_17 (P : Program) (Q : Exit → Slots → Mem → Prop) (s : Slots) (M : Mem) : wpC P c36_17 Q s M = w36_17 P Q M (sget s 1) (sget s 2) (sget s 7) (sget s 9) (sget s 11) (sget s 12) (sget s 13) := by kernel_rfl
def c36_18 : ACode := (.seq c36_15 c36_17)
def c36_19 : ACode := (.seq c36_10 c36_18)
def c36_20 : ACode := (.block 1 c36_19)
def o36_21 : List AOper := [⟨some 39, (.bin .add .none (.tmp 13) (.const (.int .i64 1))), false, none⟩,
  ⟨some 13, (.mov (.tmp 39)), false, none⟩]
def c36_22 : ACode := (.region o36_21 [1, 2, 7, 11, 12, 13])
def w36_22 (_P : Program) (Q : Exit → Slots → Mem → Prop) (M : Mem) (v1 : V) (v2 : V) (v7 : V) (v11 : V) (v12 : V) (v13 : V) : Prop :=
  @OptVH (binV .add .none v13 (.int .i64 1)) ⟨fun t39_1 =>
  Q .normal [(1, v1), (2, v2), (7, v7), (11, v11), (12, v12), (13, t39_1)] M⟩
theorem e36_22 (P : Program) (Q : Exit → Slots → Mem → Prop) (s : Slots) (M : Mem) : wpC P c36_22 Q s M = w36_22 P Q M (sget s 1) (sget s 2) (sget s 7) (sget s 11) (sget s 12) (sget s 13) := by kernel_rfl
def c36_23 : ACode := (.seq c36_20 c36_22)
def c36_24 : ACode := (.seq c36_8 c36_23)
def c36_25 : ACode := (.seq c36_7 c36_24)
def c36_26 : ACode := (.loop [1, 2, 7, 11, 12, 13] c36_25)
def c36_27 : ACode := (.block 0 c36_26)
def c36_28 : ACode := (.seq c36_5 c36_27)
def o36_29 : List AOper := [⟨some 6, (.mov (.const (.bool false))), true, none⟩]
def c36_30 : ACode := (.region o36_29 [6])
def w36_30 (_P : Program) (Q : Exit → Slots → Mem → Prop) (M : Mem) : Prop :=
  Q .normal [(6, (.bool false))] M
theorem e36_30 (P : Program) (Q : Exit → Slots → Mem → Prop) (s : Slots) (M : Mem) : wpC P c36_30 Q s M = w36_30 P Q M := by kernel_rfl
def c36_31 : ACode := (.seq c36_30 .ret)
def c36_32 : ACode := (.seq c36_28 c36_31)
def c36_33 : ACode := (.seq c36_3 c36_32)
def c36_34 : ACode := (.seq c36_1 c36_33)
def fn_trip_connects : AFn := ⟨40, [(.tmp 6)], c36_34⟩
theorem fn_trip_connects_ok : resFn PR h_trip_connects i_trip_connects = some fn_trip_connects := by kernel_rfl

def h_call_one : Hints := ⟨[(0, [0, 1, 2, 3, 4]), (1, [0, 1, 2, 3, 4, 11]), (2, [0, 1, 3, 4, 11, 24]), (3, [10]), (4, [0, 1, 3, 4, 11, 37]), (5, [10]), (6, [69]), (7, [10]), (8, [10])], [], []⟩
def o37_0 : List AOper := [⟨some 10, (.mov (.const (.int .i64 0))), false, none⟩]
def c37_1 : ACode := (.region o37_0 [0, 1, 2, 3, 4])
def w37_1 (_P : Program) (Q : Exit → Slots → Mem → Prop) (M : Mem) (v0 : V) (v1 : V) (v2 : V) (v3 : V) (v4 : V) : Prop :=
  Q .normal [(0, v0), (1, v1), (2, v2), (3, v3), (4, v4)] M
theorem e37_1 (P : Program) (Q : Exit → Slots → Mem → Prop) (s : Slots) (M : Mem) : wpC P c37_1 Q s M = w37_1 P Q M (sget s 0) (sget s 1) (sget s 2) (sget s 3) (sget s 4) := by kernel_rfl
def o37_2 : List AOper := [⟨some 12, (.mov (.tmp 0)), false, none⟩,
  ⟨some 13, (.mov (.tmp 1)), false, none⟩,
  ⟨some 14, (.indexSl 5 (.tmp 12) (.tmp 13)), false, none⟩,
  ⟨some 15, (.load 5 true (.tmp 14)), false, none⟩,
  ⟨some 11, (.alloc [(.int .i64 0), (.int .i64 0), (.int .i64 0), (.bool false), (.bool false)]), false, none⟩,
  ⟨none, (.store 5 (.tmp 11) (.tmp 15)), false, none⟩]
def c37_3 : ACode := (.region o37_2 [0, 1, 2, 3, 4, 11])
def w37_3 (_P : Program) (Q : Exit → Slots → Mem → Prop) (M : Mem) (v0 : V) (v1 : V) (v2 : V) (v3 : V) (v4 : V) : Prop :=
  @OptVH (indexSlV 5 v0 v1 M) ⟨fun t14_3 =>
  @OptVH (loadV 5 true t14_3 M) ⟨fun t15_4 =>
  @OptMH (allocV [(.int .i64 0), (.int .i64 0), (.int .i64 0), (.bool false), (.bool false)] M) ⟨fun t11_5 M5 =>
  @OptMH (storeVM 5 t11_5 t15_4 M5) ⟨fun _tx_6 M6 =>
  Q .normal [(0, v0), (1, v1), (2, v2), (3, v3), (4, v4), (11, t11_5)] M6⟩⟩⟩⟩
theorem e37_3 (P : Program) (Q : Exit → Slots → Mem → Prop) (s : Slots) (M : Mem) : wpC P c37_3 Q s M = w37_3 P Q M (sget s 0) (sget s 1) (sget s 2) (sget s 3) (sget s 4) := by kernel_rfl
def o37_4 : List AOper := [⟨some 10, (.mov (.const (.int .i64 9))), false, none⟩]
def c37_5 : ACode := (.region o37_4 [10])
def w37_5 (_P : Program) (Q : Exit → Slots → Mem → Prop) (M : Mem) : Prop :=
  Q .normal [(10, (.int .i64 9))] M
theorem e37_5 (P : Program) (Q : Exit → Slots → Mem → Prop) (s : Slots) (M : Mem) : wpC P c37_5 Q s M = w37_5 P Q M := by kernel_rfl
def c37_6 : ACode := (.seq c37_5 .ret)
def o37_7 : List AOper := [⟨some 16, (.fieldAddr 0 (.tmp 11)), false, none⟩,
  ⟨some 17, (.load 1 false (.tmp 16)), false, none⟩,
  ⟨some 18, (.bin .lss .none (.tmp 17) (.const (.int .i64 0))), true, none⟩,
  ⟨some 19, (.mov (.tmp 18)), true, none⟩,
  ⟨some 20, (.fieldAddr 0 (.tmp 11)), false, some (19, false)⟩,
  ⟨some 21, (.load 1 false (.tmp 20)), false, some (19, false)⟩,
  ⟨some 22, (.mov (.tmp 2)), false, some (19, false)⟩,
  ⟨some 23, (.bin .geq .none (.tmp 21) (.tmp 22)), true, some (19, false)⟩,
  ⟨some 24, (.pick (.tmp 19) (.const (.bool true)) (.tmp 23)), true, none⟩]
def c37_8 : ACode := (.seq (.region o37_7 [0, 1, 3, 4, 11, 24]) (.cond (.tmp 24) c37_6 .skip))
def w37_8 (P : Program) (Q : Exit → Slots → Mem → Prop) (M : Mem) (v0 : V) (v1 : V) (v2 : V) (v3 : V) (v4 : V) (v11 : V) : Prop :=
  @OptVH (moveV 0 v11) ⟨fun t16_1 =>
  @OptVH (loadV 1 false t16_1 M) ⟨fun t17_2 =>
  @OptBH (binV .lss .none t17_2 (.int .i64 0)) ⟨fun b18_3 =>
  @BIfH b18_3
  ⟨wpC P c37_6 Q [(0, v0), (1, v1), (3, v3), (4, v4), (11, v11), (24, (.bool true))] M⟩
  ⟨@OptVH (moveV 0 v11) ⟨fun t20_6 =>
  @OptVH (loadV 1 false t20_6 M) ⟨fun t21_7 =>
  @OptBH (binV .geq .none t21_7 v2) ⟨fun b23_9 =>
  @BIfH b23_9
  ⟨wpC P c37_6 Q [(0, v0), (1, v1), (3, v3), (4, v4), (11, v11), (24, (.bool b23_9))] M⟩
  ⟨Q .normal [(0, v0), (1, v1), (3, v3), (4, v4), (11, v11), (24, (.bool b23_9))] M⟩⟩⟩⟩⟩⟩⟩⟩
theorem e37_8 (P : Program) (Q : Exit → Slots → Mem → Prop) (s : Slots) (M : Mem) : wpC P c37_8 Q s M = w37_8 P Q M (sget s 0) (sget s 1) (sget s 2) (sget s 3) (sget s 4) (sget s 11) := by kernel_rfl
def o37_9 : List AOper := [⟨some 10, (.mov (.const (.int .i64 13))), false, none⟩]
def c37_10 : ACode := (.region o37_9 [10])
def w37_10 (_P : Program) (Q : Exit → Slots → Mem → Prop) (M : Mem) : Prop :=
  Q .normal [(10, (.int .i64 13))] M
theorem e37_10 (P : Program) (Q : Exit → Slots → Mem → Prop) (s : Slots) (M : Mem) : wpC P c37_10 Q s M = w37_10 P Q M := by kernel_rfl
def c37_11 : ACode := (.seq c37_10 .ret)
def o37_12 : List AOper := [⟨some 25, (.mov (.tmp 1)), false, none⟩,
  ⟨some 26, (.bin .gtr .none (.tmp 25) (.const (.int .i64 0))), true, none⟩,
  ⟨some 27, (.mov (.tmp 26)), true, none⟩,
  ⟨some 28, (.mov (.tmp 0)), false, some (27, true)⟩,
  ⟨some 29, (.mov (.tmp 1)), false, some (27, true)⟩,
  ⟨some 30, (.bin .sub .none (.tmp 29) (.const (.int .i64 1))), false, some (27, true)⟩,
  ⟨some 31, (.indexSl 5 (.tmp 28) (.tmp 30)), false, some (27, true)⟩,
  ⟨some 32, (.fieldAddr 0 (.tmp 31)), false, some (27, true)⟩,
  ⟨some 33, (.load 1 false (.tmp 32)), false, some (27, true)⟩,
  ⟨some 34, (.fieldAddr 0 (.tmp 11)), false, some (27, true)⟩,
  ⟨some 35, (.load 1 false (.tmp 34)), false, some (27, true)⟩,
  ⟨some 36, (.bin .eql .none (.tmp 33) (.tmp 35)), true, some (27, true)⟩,
  ⟨some 37, (.pick (.tmp 27) (.tmp 36) (.const (.bool false))), true, none⟩]
def c37_13 : ACode := (.seq (.mixed o37_12 [true, true, true, true, true, true, true, true, true, true, true, true, true] [0, 1, 3, 4, 11, 37]) (.cond (.tmp 37) c37_11 .skip))
def w37_13 (P : Program) (Q : Exit → Slots → Mem → Prop) (M : Mem) (v0 : V) (v1 : V) (v3 : V) (v4 : V) (v11 : V) : Prop :=
  @OptBH (binV .gtr .none v1 (.int .i64 0)) ⟨fun b26_2 =>
  @BIfH b26_2
  ⟨@OptVH (binV .sub .none v1 (.int .i64 1)) ⟨fun t30_6 =>
  @OptVH (indexSlV 5 v0 t30_6 M) ⟨fun t31_7 =>
  @OptVH (moveV 0 t31_7) ⟨fun t32_8 =>
  @OptVH (loadV 1 false t32_8 M) ⟨fun t33_9 =>
  @OptVH (moveV 0 v11) ⟨fun t34_10 =>
  @OptVH (loadV 1 false t34_10 M) ⟨fun t35_11 =>
  @OptBH (binV .eql .none t33_9 t35_11) ⟨fun b36_12 =>
  @BIfH b36_12
  ⟨wpC P c37_11 Q [(0, v0), (1, v1), (3, v3), (4, v4), (11, v11), (37, (.bool b36_12))] M⟩
  ⟨Q .normal [(0, v0), (1, v1), (3, v3), (4, v4), (11, v11), (37, (.bool b36_12))] M⟩⟩⟩⟩⟩⟩⟩⟩⟩
  ⟨Q .normal [(0, v0), (1, v1), (3, v3), (4, v4), (11, v11), (37, (.bool false))] M⟩⟩
theorem e37_13 (P : Program) (Q : Exit → Slots → Mem → Prop) (s : Slots) (M : Mem) : wpC P c37_13 Q s M = w37_13 P Q M (sget s 0) (sget s 1) (sget s 3) (sget s 4) (sget s 11) := by kernel_rfl
def o37_14 : List AOper := [⟨some 10, (.mov (.const (.int .i64 10))), false, none⟩]
def c37_15 : ACode := (.region o37_14 [10])
def w37_15 (_P : Program) (Q : Exit → Slots → Mem → Prop) (M : Mem) : Prop :=
  Q .normal [(10, (.int .i64 10))] M
theorem e37_15 (P : Program) (Q : Exit → Slots → Mem → Prop) (s : Slots) (M : Mem) : wpC P c37_15 Q s M = w37_15 P Q M := by kernel_rfl
def c37_16 : ACode := (.seq c37_15 .ret)
def o37_17 : List AOper := [⟨some 38, (.fieldAddr 1 (.tmp 11)), false, none⟩,
  ⟨some 39, (.load 1 false (.tmp 38)), false, none⟩,
  ⟨some 40, (.mov (.tmp 3)), false, none⟩,
  ⟨some 41, (.bin .lss .none (.tmp 39) (.tmp 40)), true, none⟩,
  ⟨some 42, (.mov (.tmp 41)), true, none⟩,
  ⟨some 43, (.fieldAddr 1 (.tmp 11)), false, some (42, false)⟩,
  ⟨some 44, (.load 1 false (.tmp 43)), false, some (42, false)⟩,
  ⟨some 45, (.fieldAddr 2 (.tmp 11)), false, some (42, false)⟩,
  ⟨some 46, (.load 1 false (.tmp 45)), false, some (42, false)⟩,
  ⟨some 47, (.bin .gtr .none (.tmp 44) (.tmp 46)), true, some (42, false)⟩,
  ⟨some 48, (.pick (.tmp 42) (.const (.bool true)) (.tmp 47)), true, none⟩,
  ⟨some 49, (.mov (.tmp 48)), true, none⟩,
  ⟨some 50, (.fieldAddr 2 (.tmp 11)), false, some (49, false)⟩,
  ⟨some 51, (.load 1 false (.tmp 50)), false, some (49, false)⟩,
  ⟨some 52, (.mov (.tmp 4)), false, some (49, false)⟩,
  ⟨some 53, (.bin .gtr .none (.tmp 51) (.tmp 52)), true, some (49, false)⟩,
  ⟨some 54, (.pick (.tmp 49) (.const (.bool true)) (.tmp 53)), true, none⟩,
  ⟨some 55, (.mov (.tmp 54)), true, none⟩,
  ⟨some 56, (.mov (.tmp 1)), false, some (55, false)⟩,
  ⟨some 57, (.bin .gtr .none (.tmp 56) (.const (.int .i64 0))), true, some (55, false)⟩,
  ⟨some 58, (.mov (.tmp 57)), true, some (55, false)⟩,
  ⟨some 59, (.fieldAddr 1 (.tmp 11)), false, some (58, true)⟩,
  ⟨some 60, (.load 1 false (.tmp 59)), false, some (58, true)⟩,
  ⟨some 61, (.mov (.tmp 0)), false, some (58, true)⟩,
  ⟨some 62, (.mov (.tmp 1)), false, some (58, true)⟩,
  ⟨some 63, (.bin .sub .none (.tmp 62) (.const (.int .i64 1))), false, some (58, true)⟩,
  ⟨some 64, (.indexSl 5 (.tmp 61) (.tmp 63)), false, some (58, true)⟩,
  ⟨some 65, (.fieldAddr 2 (.tmp 64)), false, some (58, true)⟩,
  ⟨some 66, (.load 1 false (.tmp 65)), false, some (58, true)⟩,
  ⟨some 67, (.bin .lss .none (.tmp 60) (.tmp 66)), true, some (58, true)⟩,
  ⟨some 68, (.pick (.tmp 58) (.tmp 67) (.const (.bool false))), true, some (55, false)⟩,
  ⟨some 69, (.pick (.tmp 55) (.const (.bool true)) (.tmp 68)), true, none⟩]
def c37_18 : ACode := (.seq (.mixed o37_17 [true, true, true, true, true, true, true, true, true, true, true, true, true, true, true, true, true, true, true, true, true, true, true, true, true, true, true, true, true, true, true, true] [69]) (.cond (.tmp 69) c37_16 .skip))
def w37_18 (P : Program) (Q : Exit → Slots → Mem → Prop) (M : Mem) (v0 : V) (v1 : V) (v3 : V) (v4 : V) (v11 : V) : Prop :=
  @OptVH (moveV 1 v11) ⟨fun t38_1 =>
  @OptVH (loadV 1 false t38_1 M) ⟨fun t39_2 =>
  @OptBH (binV .lss .none t39_2 v3) ⟨fun b41_4 =>
  @BIfH b41_4
  ⟨wpC P c37_16 Q [(69, (.bool true))] M⟩
  ⟨@OptVH (moveV 1 v11) ⟨fun t43_11 =>
  @OptVH (loadV 1 false t43_11 M) ⟨fun t44_12 =>
  @OptVH (moveV 2 v11) ⟨fun t45_13 =>
  @OptVH (loadV 1 false t45_13 M) ⟨fun t46_14 =>
  @OptBH (binV .gtr .none t44_12 t46_14) ⟨fun b47_15 =>
  @BIfH b47_15
  ⟨wpC P c37_16 Q [(69, (.bool true))] M⟩
  ⟨@OptVH (moveV 2 v11) ⟨fun t50_21 =>
  @OptVH (loadV 1 false t50_21 M) ⟨fun t51_22 =>
  @OptBH (binV .gtr .none t51_22 v4) ⟨fun b53_24 =>
  @BIfH b53_24
  ⟨wpC P c37_16 Q [(69, (.bool true))] M⟩
  ⟨@OptBH (binV .gtr .none v1 (.int .i64 0)) ⟨fun b57_29 =>
  @BIfH b57_29
  ⟨@OptVH (moveV 1 v11) ⟨fun t59_31 =>
  @OptVH (loadV 1 false t59_31 M) ⟨fun t60_32 =>
  @OptVH (binV .sub .none v1 (.int .i64 1)) ⟨fun t63_35 =>
  @OptVH (indexSlV 5 v0 t63_35 M) ⟨fun t64_36 =>
  @OptVH (moveV 2 t64_36) ⟨fun t65_37 =>
  @OptVH (loadV 1 false t65_37 M) ⟨fun t66_38 =>
  @OptBH (binV .lss .none t60_32 t66_38) ⟨fun b67_39 =>
  @BIfH b67_39
  ⟨wpC P c37_16 Q [(69, (.bool b67_39))] M⟩
  ⟨Q .normal [(69, (.bool b67_39))] M⟩⟩⟩⟩⟩⟩⟩⟩⟩
  ⟨Q .normal [(69, (.bool false))] M⟩⟩⟩⟩⟩⟩⟩⟩⟩⟩⟩⟩⟩⟩⟩⟩
theorem e37_18 (P : Program) (Q : Exit → Slots → Mem → Prop) (s : Slots) (M : Mem) : wpC P c37_18 Q s M = w37_18 P Q M (sget s 0) (sget s 1) (sget s 3) (sget s 4) (sget s 11) := by kernel_rfl
def o37_19 : List AOper := [⟨some 10, (.mov (.const (.int .i64 0))), false, none⟩]
def c37_20 : ACode := (.region o37_19 [10])
def w37_20 (_P : Program) (Q : Exit → Slots → Mem → Prop) (M : Mem) : Prop :=
  Q .normal [(10, (.int .i64 0))] M
theorem e37_20 (P : Program) (Q : Exit → Slots → Mem → Prop) (s : Slots) (M : Mem) : wpC P c37_20 Q s M = w37_20 P Q M := by kernel_rfl
def c37_21 : ACode := (.seq c37_20 .ret)
def c37_22 : ACode := (.seq c37_18 c37_21)
def c37_23 : ACode := (.seq c37_13 c37_22)
def c37_24 : ACode := (.seq c37_8 c37_23)
def c37_25 : ACode := (.seq c37_3 c37_24)
def c37_26 : ACode := (.seq c37_1 c37_25)
def fn_call_one : AFn := ⟨70, [(.tmp 10)], c37_26⟩
theorem fn_call_one_ok : resFn PR h_call_one i_call_one = some fn_call_one := by kernel_rfl

def h_transitref05_Valid : Hints := ⟨[(0, [0]), (1, [0, 13]), (2, [2]), (3, [0, 3]), (4, [0, 3, 17]), (5, [0, 3]), (6, [0, 3, 4]), (7, [0, 3, 4, 5]), (8, [0, 3, 59]), (9, [2]), (10, [2])], [(4, [0, 3])], []⟩
def o38_0 : List AOper := [⟨some 2, (.mov (.const (.bool false))), true, none⟩]
def c38_1 : ACode := (.region o38_0 [0])
def w38_1 (_P : Program) (Q : Exit → Slots → Mem → Prop) (M : Mem) (v0 : V) : Prop :=
  Q .normal [(0, v0)] M
theorem e38_1 (P : Program) (Q : Exit → Slots → Mem → Prop) (s : Slots) (M : Mem) : wpC P c38_1 Q s M = w38_1 P Q M (sget s 0) := by kernel_rfl
def o38_2 : List AOper := [⟨some 2, (.mov (.const (.bool false))), true, none⟩]
def c38_3 : ACode := (.region o38_2 [2])
def w38_3 (_P : Program) (Q : Exit → Slots → Mem → Prop) (M : Mem) : Prop :=
  Q .normal [(2, (.bool false))] M
theorem e38_3 (P : Program) (Q : Exit → Slots → Mem → Prop) (s : Slots) (M : Mem) : wpC P c38_3 Q s M = w38_3 P Q M := by kernel_rfl
def c38_4 : ACode := (.seq c38_3 .ret)
def o38_5 : List AOper := [⟨some 6, (.mov (.tmp 0)), false, none⟩,
  ⟨some 7, (.lenStr (.tmp 6)), false, none⟩,
  ⟨some 8, (.bin .eql .none (.tmp 7) (.const (.int .i64 0))), true, none⟩,
  ⟨some 9, (.mov (.tmp 8)), true, none⟩,
  ⟨some 10, (.mov (.tmp 0)), false, some (9, false)⟩,
  ⟨some 11, (.lenStr (.tmp 10)), false, some (9, false)⟩,
  ⟨some 12, (.bin .gtr .none (.tmp 11) (.const (.int .i64 32))), true, some (9, false)⟩,
  ⟨some 13, (.pick (.tmp 9) (.const (.bool true)) (.tmp 12)), true, none⟩]
def c38_6 : ACode := (.seq (.region o38_5 [0, 13]) (.cond (.tmp 13) c38_4 .skip))
def w38_6 (P : Program) (Q : Exit → Slots → Mem → Prop) (M : Mem) (v0 : V) : Prop :=
  @OptVH (lenStrV v0) ⟨fun t7_2 =>
  @OptBH (binV .eql .none t7_2 (.int .i64 0)) ⟨fun b8_3 =>
  @BIfH b8_3
  ⟨wpC P c38_4 Q [(0, v0), (13, (.bool true))] M⟩
  ⟨@OptVH (lenStrV v0) ⟨fun t11_7 =>
  @OptBH (binV .gtr .none t11_7 (.int .i64 32)) ⟨fun b12_8 =>
  @BIfH b12_8
  ⟨wpC P c38_4 Q [(0, v0), (13, (.bool b12_8))] M⟩
  ⟨Q .normal [(0, v0), (13, (.bool b12_8))] M⟩⟩⟩⟩⟩⟩
theorem e38_6 (P : Program) (Q : Exit → Slots → Mem → Prop) (s : Slots) (M : Mem) : wpC P c38_6 Q s M = w38_6 P Q M (sget s 0) := by kernel_rfl
def o38_7 : List AOper := [⟨some 3, (.mov (.const (.int .i64 0))), false, none⟩]
def c38_8 : ACode := (.region o38_7 [0, 3])
def w38_8 (_P : Program) (Q : Exit → Slots → Mem → Prop) (M : Mem) (v0 : V) : Prop :=
  Q .normal [(0, v0), (3, (.int .i64 0))] M
theorem e38_8 (P : Program) (Q : Exit → Slots → Mem → Prop) (s : Slots) (M : Mem) : wpC P c38_8 Q s M = w38_8 P Q M (sget s 0) := by kernel_rfl
def o38_9 : List AOper := [⟨some 14, (.mov (.tmp 3)), false, none⟩,
  ⟨some 15, (.mov (.tmp 0)), false, none⟩,
  ⟨some 16, (.lenStr (.tmp 15)), false, none⟩,
  ⟨some 17, (.bin .lss .none (.tmp 14) (.tmp 16)), true, none⟩]
def c38_10 : ACode := (.seq (.region o38_9 [0, 3, 17]) (.cond (.tmp 17) .skip (.exit 0)))
def w38_10 (_P : Program) (Q : Exit → Slots → Mem → Prop) (M : Mem) (v0 : V) (v3 : V) : Prop :=
  @OptVH (lenStrV v0) ⟨fun t16_3 =>
  @OptBH (binV .lss .none v3 t16_3) ⟨fun b17_4 =>
  @BIfH b17_4
  ⟨Q .normal [(0, v0), (3, v3), (17, (.bool b17_4))] M⟩
  ⟨Q (.exit 0) [(0, v0), (3, v3), (17, (.bool b17_4))] M⟩⟩⟩
theorem e38_10 (P : Program) (Q : Exit → Slots → Mem → Prop) (s : Slots) (M : Mem) : wpC P c38_10 Q s M = w38_10 P Q M (sget s 0) (sget s 3) := by kernel_rfl
def o38_11 : List AOper := [⟨some 20, (.mov (.tmp 0)), false, none⟩,
  ⟨some 21, (.mov (.tmp 3)), false, none⟩,
  ⟨some 22, (.indexStr (.tmp 20) (.tmp 21)), false, none⟩,
  ⟨some 4, (.mov (.tmp 22)), false, none⟩]
def c38_12 : ACode := (.region o38_11 [0, 3, 4])
def w38_12 (_P : Program) (Q : Exit → Slots → Mem → Prop) (M : Mem) (v0 : V) (v3 : V) : Prop :=
  @OptVH (indexStrV v0 v3) ⟨fun t22_3 =>
  Q .normal [(0, v0), (3, v3), (4, t22_3)] M⟩
theorem e38_12 (P : Program) (Q : Exit → Slots → Mem → Prop) (s : Slots) (M : Mem) : wpC P c38_12 Q s M = w38_12 P Q M (sget s 0) (sget s 3) := by kernel_rfl
def o38_13 : List AOper := [⟨some 23, (.mov (.tmp 4)), false, none⟩,
  ⟨some 24, (.bin .geq .none (.tmp 23) (.const (.int .u8 65))), true, none⟩,
  ⟨some 25, (.mov (.tmp 24)), true, none⟩,
  ⟨some 26, (.mov (.tmp 4)), false, some (25, true)⟩,
  ⟨some 27, (.bin .leq .none (.tmp 26) (.const (.int .u8 90))), true, some (25, true)⟩,
  ⟨some 28, (.pick (.tmp 25) (.tmp 27) (.const (.bool false))), true, none⟩,
  ⟨some 29, (.mov (.tmp 28)), true, none⟩,
  ⟨some 30, (.mov (.tmp 4)), false, some (29, false)⟩,
  ⟨some 31, (.bin .geq .none (.tmp 30) (.const (.int .u8 97))), true, some (29, false)⟩,
  ⟨some 32, (.mov (.tmp 31)), true, some (29, false)⟩,
  ⟨some 33, (.mov (.tmp 4)), false, some (32, true)⟩,
  ⟨some 34, (.bin .leq .none (.tmp 33) (.const (.int .u8 122))), true, some (32, true)⟩,
  ⟨some 35, (.pick (.tmp 32) (.tmp 34) (.const (.bool false))), true, some (29, false)⟩,
  ⟨some 36, (.pick (.tmp 29) (.const (.bool true)) (.tmp 35)), true, none⟩,
  ⟨some 5, (.mov (.tmp 36)), true, none⟩]
def c38_14 : ACode := (.region o38_13 [0, 3, 4, 5])
def w38_14 (_P : Program) (Q : Exit → Slots → Mem → Prop) (M : Mem) (v0 : V) (v3 : V) (v4 : V) : Prop :=
  @OptBH (binV .geq .none v4 (.int .u8 65)) ⟨fun b24_2 =>
  @BIfH b24_2
  ⟨@OptBH (binV .leq .none v4 (.int .u8 90)) ⟨fun b27_5 =>
  @BIfH b27_5
  ⟨Q .normal [(0, v0), (3, v3), (4, v4), (5, (.bool true))] M⟩
  ⟨@OptBH (binV .geq .none v4 (.int .u8 97)) ⟨fun b31_11 =>
  @BIfH b31_11
  ⟨@OptBH (binV .leq .none v4 (.int .u8 122)) ⟨fun b34_14 =>
  Q .normal [(0, v0), (3, v3), (4, v4), (5, (.bool b34_14))] M⟩⟩
  ⟨Q .normal [(0, v0), (3, v3), (4, v4), (5, (.bool false))] M⟩⟩⟩⟩⟩
  ⟨@OptBH (binV .geq .none v4 (.int .u8 97)) ⟨fun b31_24 =>
  @BIfH b31_24
  ⟨@OptBH (binV .leq .none v4 (.int .u8 122)) ⟨fun b34_27 =>
  Q .normal [(0, v0), (3, v3), (4, v4), (5, (.bool b34_27))] M⟩⟩
  ⟨Q .normal [(0, v0), (3, v3), (4, v4), (5, (.bool false))] M⟩⟩⟩⟩
theorem e38_14 (P : Program) (Q : Exit → Slots → Mem → Prop) (s : Slots) (M : Mem) : wpC P c38_14 Q s M = w38_14 P Q M (sget s 0) (sget s 3) (sget s 4) := by kernel_rfl
def o38_15 : List AOper := [⟨some 2, (.mov (.const (.bool false))), true, none⟩]
def c38_16 : ACode := (.region o38_15 [2])
def w38_16 (_P : Program) (Q : Exit → Slots → Mem → Prop) (M : Mem) : Prop :=
  Q .normal [(2, (.bool false))] M
theorem e38_16 (P : Program) (Q : Exit → Slots → Mem → Prop) (s : Slots) (M : Mem) : wpC P c38_16 Q s M = w38_16 P Q M := by kernel_rfl
def c38_17 : ACode := (.seq c38_16 .ret)
def o38_18 : List AOper := [⟨some 37, (.mov (.tmp 5)), true, none⟩,
  ⟨some 38, (.un .not (.tmp 37)), true, none⟩,
  ⟨some 39, (.mov (.tmp 38)), true, none⟩,
  ⟨some 40, (.mov (.tmp 4)), false, some (39, true)⟩,
  ⟨some 41, (.bin .geq .none (.tmp 40) (.const (.int .u8 48))), true, some (39, true)⟩,
  ⟨some 42, (.mov (.tmp 41)), true, some (39, true)⟩,
  ⟨some 43, (.mov (.tmp 4)), false, some (42, true)⟩,
  ⟨some 44, (.bin .leq .none (.tmp 43) (.const (.int .u8 57))), true, some (42, true)⟩,
  ⟨some 45, (.pick (.tmp 42) (.tmp 44) (.const (.bool false))), true, some (39, true)⟩,
  ⟨some 46, (.un .not (.tmp 45)), true, some (39, true)⟩,
  ⟨some 47, (.pick (.tmp 39) (.tmp 46) (.const (.bool false))), true, none⟩,
  ⟨some 48, (.mov (.tmp 47)), true, none⟩,
  ⟨some 49, (.mov (.tmp 4)), false, some (48, true)⟩,
  ⟨some 50, (.bin .neq .none (.tmp 49) (.const (.int .u8 45))), true, some (48, true)⟩,
  ⟨some 51, (.pick (.tmp 48) (.tmp 50) (.const (.bool false))), true, none⟩,
  ⟨some 52, (.mov (.tmp 51)), true, none⟩,
  ⟨some 53, (.mov (.tmp 4)), false, some (52, true)⟩,
  ⟨some 54, (.bin .neq .none (.tmp 53) (.const (.int .u8 95))), true, some (52, true)⟩,
  ⟨some 55, (.pick (.tmp 52) (.tmp 54) (.const (.bool false))), true, none⟩,
  ⟨some 56, (.mov (.tmp 55)), true, none⟩,
  ⟨some 57, (.mov (.tmp 4)), false, some (56, true)⟩,
  ⟨some 58, (.bin .neq .none (.tmp 57) (.const (.int .u8 46))), true, some (56, true)⟩,
  ⟨some 59, (.pick (.tmp 56) (.tmp 58) (.const (.bool false))), true, none⟩]
def c38_19 : ACode := (.seq (.region o38_18 [0, 3, 59]) (.cond (.tmp 59) c38_17 .skip))
def w38_19 (P : Program) (Q : Exit → Slots → Mem → Prop) (M : Mem) (v0 : V) (v3 : V) (v4 : V) (v5 : V) : Prop :=
  @OptBH (some v5) ⟨fun b37_1 =>
  @OptBH (unV .not (.bool b37_1)) ⟨fun b38_2 =>
  @BIfH b38_2
  ⟨@OptBH (binV .geq .none v4 (.int .u8 48)) ⟨fun b41_5 =>
  @BIfH b41_5
  ⟨@OptBH (binV .leq .none v4 (.int .u8 57)) ⟨fun b44_8 =>
  @OptBH (unV .not (.bool b44_8)) ⟨fun b46_10 =>
  @BIfH b46_10
  ⟨@OptBH (binV .neq .none v4 (.int .u8 45)) ⟨fun b50_14 =>
  @BIfH b50_14
  ⟨@OptBH (binV .neq .none v4 (.int .u8 95)) ⟨fun b54_18 =>
  @BIfH b54_18
  ⟨@OptBH (binV .neq .none v4 (.int .u8 46)) ⟨fun b58_22 =>
  @BIfH b58_22
  ⟨wpC P c38_17 Q [(0, v0), (3, v3), (59, (.bool b58_22))] M⟩
  ⟨Q .normal [(0, v0), (3, v3), (59, (.bool b58_22))] M⟩⟩⟩
  ⟨Q .normal [(0, v0), (3, v3), (59, (.bool false))] M⟩⟩⟩
  ⟨Q .normal [(0, v0), (3, v3), (59, (.bool false))] M⟩⟩⟩
  ⟨Q .normal [(0, v0), (3, v3), (59, (.bool false))] M⟩⟩⟩⟩
  ⟨@OptBH (unV .not (.bool false)) ⟨fun b46_34 =>
  @BIfH b46_34
  ⟨@OptBH (binV .neq .none v4 (.int .u8 45)) ⟨fun b50_38 =>
  @BIfH b50_38
  ⟨@OptBH (binV .neq .none v4 (.int .u8 95)) ⟨fun b54_42 =>
  @BIfH b54_42
  ⟨@OptBH (binV .neq .none v4 (.int .u8 46)) ⟨fun b58_46 =>
  @BIfH b58_46
  ⟨wpC P c38_17 Q [(0, v0), (3, v3), (59, (.bool b58_46))] M⟩
  ⟨Q .normal [(0, v0), (3, v3), (59, (.bool b58_46))] M⟩⟩⟩
  ⟨Q .normal [(0, v0), (3, v3), (59, (.bool false))] M⟩⟩⟩
  ⟨Q .normal [(0, v0), (3, v3), (59, (.bool false))] M⟩⟩⟩
  ⟨Q .normal [(0, v0), (3, v3), (59, (.bool false))] M⟩⟩⟩⟩⟩
  ⟨Q .normal [(0, v0), (3, v3), (59, (.bool false))] M⟩⟩⟩
theorem e38_19 (P : Program) (Q : Exit → Slots → Mem → Prop) (s : Slots) (M : Mem) : wpC P c38_19 Q s M = w38_19 P Q M (sget s 0) (sget s 3) (sget s 4) (sget s 5) := by kernel_rfl
def c38_20 : ACode := (.seq c38_14 c38_19)
def c38_21 : ACode := (.seq c38_12 c38_20)
def c38_22 : ACode := (.block 1 c38_21)
def o38_23 : List AOper := [⟨some 18, (.mov (.tmp 3)), false, none⟩,
  ⟨some 19, (.bin .add .none (.tmp 18) (.const (.int .i64 1))), false, none⟩,
  ⟨some 3, (.mov (.tmp 19)), false, none⟩]
def c38_24 : ACode := (.region o38_23 [0, 3])
def w38_24 (_P : Program) (Q : Exit → Slots → Mem → Prop) (M : Mem) (v0 : V) (v3 : V) : Prop :=
  @OptVH (binV .add .none v3 (.int .i64 1)) ⟨fun t19_2 =>
  Q .normal [(0, v0), (3, t19_2)] M⟩
theorem e38_24 (P : Program) (Q : Exit → Slots → Mem → Prop) (s : Slots) (M : Mem) : wpC P c38_24 Q s M = w38_24 P Q M (sget s 0) (sget s 3) := by kernel_rfl
def c38_25 : ACode := (.seq c38_22 c38_24)
def c38_26 : ACode := (.seq c38_10 c38_25)
def c38_27 : ACode := (.loop [0, 3] c38_26)
def c38_28 : ACode := (.block 0 c38_27)
def c38_29 : ACode := (.seq c38_8 c38_28)
def o38_30 : List AOper := [⟨some 2, (.mov (.const (.bool true))), true, none⟩]
def c38_31 : ACode := (.region o38_30 [2])
def w38_31 (_P : Program) (Q : Exit → Slots → Mem → Prop) (M : Mem) : Prop :=
  Q .normal [(2, (.bool true))] M
theorem e38_31 (P : Program) (Q : Exit → Slots → Mem → Prop) (s : Slots) (M : Mem) : wpC P c38_31 Q s M = w38_31 P Q M := by kernel_rfl
def c38_32 : ACode := (.seq c38_31 .ret)
def c38_33 : ACode := (.seq c38_29 c38_32)
def c38_34 : ACode := (.seq c38_6 c38_33)
def c38_35 : ACode := (.seq c38_1 c38_34)
def fn_transitref05_Valid : AFn := ⟨60, [(.tmp 2)], c38_35⟩
theorem fn_transitref05_Valid_ok : resFn PR h_transitref05_Valid i_transitref05_Valid = some fn_transitref05_Valid := by kernel_rfl

def h_transitref17_calls : Hints := ⟨[(0, [0, 1]), (1, [0, 1, 13]), (2, [4]), (3, [0, 1, 5]), (4, [0, 1, 5, 17]), (5, [0, 1, 5]), (6, [0, 1, 5, 34]), (7, [4]), (8, [0, 1, 5, 50]), (9, [4]), (10, [0, 1, 5, 95]), (11, [4]), (12, [4])], [(4, [0, 1, 5])], []⟩
def o39_0 : List AOper := [⟨some 4, (.mov (.const (.int .i64 0))), false, none⟩]
def c39_1 : ACode := (.region o39_0 [0, 1])
def w39_1 (_P : Program) (Q : Exit → Slots → Mem → Prop) (M : Mem) (v0 : V) (v1 : V) : Prop :=
  Q .normal [(0, v0), (1, v1)] M
theorem e39_1 (P : Program) (Q : Exit → Slots → Mem → Prop) (s : Slots) (M : Mem) : wpC P c39_1 Q s M = w39_1 P Q M (sget s 0) (sget s 1) := by kernel_rfl
def o39_2 : List AOper := [⟨some 4, (.mov (.const (.int .i64 5))), false, none⟩]
def c39_3 : ACode := (.region o39_2 [4])
def w39_3 (_P : Program) (Q : Exit → Slots → Mem → Prop) (M : Mem) : Prop :=
  Q .normal [(4, (.int .i64 5))] M
theorem e39_3 (P : Program) (Q : Exit → Slots → Mem → Prop) (s : Slots) (M : Mem) : wpC P c39_3 Q s M = w39_3 P Q M := by kernel_rfl
def c39_4 : ACode := (.seq c39_3 .ret)
def o39_5 : List AOper := [⟨some 6, (.mov (.tmp 0)), false, none⟩,
  ⟨some 7, (.lenSl (.tmp 6)), false, none⟩,
  ⟨some 8, (.bin .lss .none (.tmp 7) (.const (.int .i64 2))), true, none⟩,
  ⟨some 9, (.mov (.tmp 8)), true, none⟩,
  ⟨some 10, (.mov (.tmp 0)), false, some (9, false)⟩,
  ⟨some 11, (.lenSl (.tmp 10)), false, some (9, false)⟩,
  ⟨some 12, (.bin .gtr .none (.tmp 11) (.const (.int .i64 32))), true, some (9, false)⟩,
  ⟨some 13, (.pick (.tmp 9) (.const (.bool true)) (.tmp 12)), true, none⟩]
def c39_6 : ACode := (.seq (.region o39_5 [0, 1, 13]) (.cond (.tmp 13) c39_4 .skip))
def w39_6 (P : Program) (Q : Exit → Slots → Mem → Prop) (M : Mem) (v0 : V) (v1 : V) : Prop :=
  @OptVH (lenV v0 M) ⟨fun t7_2 =>
  @OptBH (binV .lss .none t7_2 (.int .i64 2)) ⟨fun b8_3 =>
  @BIfH b8_3
  ⟨wpC P c39_4 Q [(0, v0), (1, v1), (13, (.bool true))] M⟩
  ⟨@OptVH (lenV v0 M) ⟨fun t11_7 =>
  @OptBH (binV .gtr .none t11_7 (.int .i64 32)) ⟨fun b12_8 =>
  @BIfH b12_8
  ⟨wpC P c39_4 Q [(0, v0), (1, v1), (13, (.bool b12_8))] M⟩
  ⟨Q .normal [(0, v0), (1, v1), (13, (.bool b12_8))] M⟩⟩⟩⟩⟩⟩
theorem e39_6 (P : Program) (Q : Exit → Slots → Mem → Prop) (s : Slots) (M : Mem) : wpC P c39_6 Q s M = w39_6 P Q M (sget s 0) (sget s 1) := by kernel_rfl
def o39_7 : List AOper := [⟨some 5, (.mov (.const (.int .i64 0))), false, none⟩]
def c39_8 : ACode := (.region o39_7 [0, 1, 5])
def w39_8 (_P : Program) (Q : Exit → Slots → Mem → Prop) (M : Mem) (v0 : V) (v1 : V) : Prop :=
  Q .normal [(0, v0), (1, v1), (5, (.int .i64 0))] M
theorem e39_8 (P : Program) (Q : Exit → Slots → Mem → Prop) (s : Slots) (M : Mem) : wpC P c39_8 Q s M = w39_8 P Q M (sget s 0) (sget s 1) := by kernel_rfl
def o39_9 : List AOper := [⟨some 14, (.mov (.tmp 5)), false, none⟩,
  ⟨some 15, (.mov (.tmp 0)), false, none⟩,
  ⟨some 16, (.lenSl (.tmp 15)), false, none⟩,
  ⟨some 17, (.bin .lss .none (.tmp 14) (.tmp 16)), true, none⟩]
def c39_10 : ACode := (.seq (.region o39_9 [0, 1, 5, 17]) (.cond (.tmp 17) .skip (.exit 0)))
def w39_10 (_P : Program) (Q : Exit → Slots → Mem → Prop) (M : Mem) (v0 : V) (v1 : V) (v5 : V) : Prop :=
  @OptVH (lenV v0 M) ⟨fun t16_3 =>
  @OptBH (binV .lss .none v5 t16_3) ⟨fun b17_4 =>
  @BIfH b17_4
  ⟨Q .normal [(0, v0), (1, v1), (5, v5), (17, (.bool b17_4))] M⟩
  ⟨Q (.exit 0) [(0, v0), (1, v1), (5, v5), (17, (.bool b17_4))] M⟩⟩⟩
theorem e39_10 (P : Program) (Q : Exit → Slots → Mem → Prop) (s : Slots) (M : Mem) : wpC P c39_10 Q s M = w39_10 P Q M (sget s 0) (sget s 1) (sget s 5) := by kernel_rfl
def o39_11 : List AOper := [⟨some 4, (.mov (.const (.int .i64 9))), false, none⟩]
def c39_12 : ACode := (.region o39_11 [4])
def w39_12 (_P : Program) (Q : Exit → Slots → Mem → Prop) (M : Mem) : Prop :=
  Q .normal [(4, (.int .i64 9))] M
theorem e39_12 (P : Program) (Q : Exit → Slots → Mem → Prop) (s : Slots) (M : Mem) : wpC P c39_12 Q s M = w39_12 P Q M := by kernel_rfl
def c39_13 : ACode := (.seq c39_12 .ret)
def o39_14 : List AOper := [⟨some 20, (.mov (.tmp 0)), false, none⟩,
  ⟨some 21, (.mov (.tmp 5)), false, none⟩,
  ⟨some 22, (.indexSl 5 (.tmp 20) (.tmp 21)), false, none⟩,
  ⟨some 23, (.fieldAddr 0 (.tmp 22)), false, none⟩,
  ⟨some 24, (.load 1 false (.tmp 23)), false, none⟩,
  ⟨some 25, (.bin .lss .none (.tmp 24) (.const (.int .i64 0))), true, none⟩,
  ⟨some 26, (.mov (.tmp 25)), true, none⟩,
  ⟨some 27, (.mov (.tmp 0)), false, some (26, false)⟩,
  ⟨some 28, (.mov (.tmp 5)), false, some (26, false)⟩,
  ⟨some 29, (.indexSl 5 (.tmp 27) (.tmp 28)), false, some (26, false)⟩,
  ⟨some 30, (.fieldAddr 0 (.tmp 29)), false, some (26, false)⟩,
  ⟨some 31, (.load 1 false (.tmp 30)), false, some (26, false)⟩,
  ⟨some 32, (.mov (.tmp 1)), false, some (26, false)⟩,
  ⟨some 33, (.bin .geq .none (.tmp 31) (.tmp 32)), true, some (26, false)⟩,
  ⟨some 34, (.pick (.tmp 26) (.const (.bool true)) (.tmp 33)), true, none⟩]
def c39_15 : ACode := (.seq (.region o39_14 [0, 1, 5, 34]) (.cond (.tmp 34) c39_13 .skip))
def w39_15 (P : Program) (Q : Exit → Slots → Mem → Prop) (M : Mem) (v0 : V) (v1 : V) (v5 : V) : Prop :=
  @OptVH (indexSlV 5 v0 v5 M) ⟨fun t22_3 =>
  @OptVH (moveV 0 t22_3) ⟨fun t23_4 =>
  @OptVH (loadV 1 false t23_4 M) ⟨fun t24_5 =>
  @OptBH (binV .lss .none t24_5 (.int .i64 0)) ⟨fun b25_6 =>
  @BIfH b25_6
  ⟨wpC P c39_13 Q [(0, v0), (1, v1), (5, v5), (34, (.bool true))] M⟩
  ⟨@OptVH (indexSlV 5 v0 v5 M) ⟨fun t29_11 =>
  @OptVH (moveV 0 t29_11) ⟨fun t30_12 =>
  @OptVH (loadV 1 false t30_12 M) ⟨fun t31_13 =>
  @OptBH (binV .geq .none t31_13 v1) ⟨fun b33_15 =>
  @BIfH b33_15
  ⟨wpC P c39_13 Q [(0, v0), (1, v1), (5, v5), (34, (.bool b33_15))] M⟩
  ⟨Q .normal [(0, v0), (1, v1), (5, v5), (34, (.bool b33_15))] M⟩⟩⟩⟩⟩⟩⟩⟩⟩⟩
theorem e39_15 (P : Program) (Q : Exit → Slots → Mem → Prop) (s : Slots) (M : Mem) : wpC P c39_15 Q s M = w39_15 P Q M (sget s 0) (sget s 1) (sget s 5) := by kernel_rfl
def o39_16 : List AOper := [⟨some 4, (.mov (.const (.int .i64 13))), false, none⟩]
def c39_17 : ACode := (.region o39_16 [4])
def w39_17 (_P : Program) (Q : Exit → Slots → Mem → Prop) (M : Mem) : Prop :=
  Q .normal [(4, (.int .i64 13))] M
theorem e39_17 (P : Program) (Q : Exit → Slots → Mem → Prop) (s : Slots) (M : Mem) : wpC P c39_17 Q s M = w39_17 P Q M := by kernel_rfl
def c39_18 : ACode := (.seq c39_17 .ret)
def o39_19 : List AOper := [⟨some 35, (.mov (.tmp 5)), false, none⟩,
  ⟨some 36, (.bin .gtr .none (.tmp 35) (.const (.int .i64 0))), true, none⟩,
  ⟨some 37, (.mov (.tmp 36)), true, none⟩,
  ⟨some 38, (.mov (.tmp 0)), false, some (37, true)⟩,
  ⟨some 39, (.mov (.tmp 5)), false, some (37, true)⟩,
  ⟨some 40, (.indexSl 5 (.tmp 38) (.tmp 39)), false, some (37, true)⟩,
  ⟨some 41, (.fieldAddr 0 (.tmp 40)), false, some (37, true)⟩,
  ⟨some 42, (.load 1 false (.tmp 41)), false, some (37, true)⟩,
  ⟨some 43, (.mov (.tmp 0)), false, some (37, true)⟩,
  ⟨some 44, (.mov (.tmp 5)), false, some (37, true)⟩,
  ⟨some 45, (.bin .sub .none (.tmp 44) (.const (.int .i64 1))), false, some (37, true)⟩,
  ⟨some 46, (.indexSl 5 (.tmp 43) (.tmp 45)), false, some (37, true)⟩,
  ⟨some 47, (.fieldAddr 0 (.tmp 46)), false, some (37, true)⟩,
  ⟨some 48, (.load 1 false (.tmp 47)), false, some (37, true)⟩,
  ⟨some 49, (.bin .eql .none (.tmp 42) (.tmp 48)), true, some (37, true)⟩,
  ⟨some 50, (.pick (.tmp 37) (.tmp 49) (.const (.bool false))), true, none⟩]
def c39_20 : ACode := (.seq (.mixed o39_19 [true, true, true, true, true, true, true, true, true, true, true, true, true, true, true, true] [0, 1, 5, 50]) (.cond (.tmp 50) c39_18 .skip))
def w39_20 (P : Program) (Q : Exit → Slots → Mem → Prop) (M : Mem) (v0 : V) (v1 : V) (v5 : V) : Prop :=
  @OptBH (binV .gtr .none v5 (.int .i64 0)) ⟨fun b36_2 =>
  @BIfH b36_2
  ⟨@OptVH (indexSlV 5 v0 v5 M) ⟨fun t40_6 =>
  @OptVH (moveV 0 t40_6) ⟨fun t41_7 =>
  @OptVH (loadV 1 false t41_7 M) ⟨fun t42_8 =>
  @OptVH (binV .sub .none v5 (.int .i64 1)) ⟨fun t45_11 =>
  @OptVH (indexSlV 5 v0 t45_11 M) ⟨fun t46_12 =>
  @OptVH (moveV 0 t46_12) ⟨fun t47_13 =>
  @OptVH (loadV 1 false t47_13 M) ⟨fun t48_14 =>
  @OptBH (binV .eql .none t42_8 t48_14) ⟨fun b49_15 =>
  @BIfH b49_15
  ⟨wpC P c39_18 Q [(0, v0), (1, v1), (5, v5), (50, (.bool b49_15))] M⟩
  ⟨Q .normal [(0, v0), (1, v1), (5, v5), (50, (.bool b49_15))] M⟩⟩⟩⟩⟩⟩⟩⟩⟩⟩
  ⟨Q .normal [(0, v0), (1, v1), (5, v5), (50, (.bool false))] M⟩⟩
theorem e39_20 (P : Program) (Q : Exit → Slots → Mem → Prop) (s : Slots) (M : Mem) : wpC P c39_20 Q s M = w39_20 P Q M (sget s 0) (sget s 1) (sget s 5) := by kernel_rfl
def o39_21 : List AOper := [⟨some 4, (.mov (.const (.int .i64 10))), false, none⟩]
def c39_22 : ACode := (.region o39_21 [4])
def w39_22 (_P : Program) (Q : Exit → Slots → Mem → Prop) (M : Mem) : Prop :=
  Q .normal [(4, (.int .i64 10))] M
theorem e39_22 (P : Program) (Q : Exit → Slots → Mem → Prop) (s : Slots) (M : Mem) : wpC P c39_22 Q s M = w39_22 P Q M := by kernel_rfl
def c39_23 : ACode := (.seq c39_22 .ret)
def o39_24 : List AOper := [⟨some 51, (.mov (.tmp 0)), false, none⟩,
  ⟨some 52, (.mov (.tmp 5)), false, none⟩,
  ⟨some 53, (.indexSl 5 (.tmp 51) (.tmp 52)), false, none⟩,
  ⟨some 54, (.fieldAddr 1 (.tmp 53)), false, none⟩,
  ⟨some 55, (.load 1 false (.tmp 54)), false, none⟩,
  ⟨some 56, (.bin .lss .none (.tmp 55) (.const (.int .i64 0))), true, none⟩,
  ⟨some 57, (.mov (.tmp 56)), true, none⟩,
  ⟨some 58, (.mov (.tmp 0)), false, some (57, false)⟩,
  ⟨some 59, (.mov (.tmp 5)), false, some (57, false)⟩,
  ⟨some 60, (.indexSl 5 (.tmp 58) (.tmp 59)), false, some (57, false)⟩,
  ⟨some 61, (.fieldAddr 1 (.tmp 60)), false, some (57, false)⟩,
  ⟨some 62, (.load 1 false (.tmp 61)), false, some (57, false)⟩,
  ⟨some 63, (.mov (.tmp 0)), false, some (57, false)⟩,
  ⟨some 64, (.mov (.tmp 5)), false, some (57, false)⟩,
  ⟨some 65, (.indexSl 5 (.tmp 63) (.tmp 64)), false, some (57, false)⟩,
  ⟨some 66, (.fieldAddr 2 (.tmp 65)), false, some (57, false)⟩,
  ⟨some 67, (.load 1 false (.tmp 66)), false, some (57, false)⟩,
  ⟨some 68, (.bin .gtr .none (.tmp 62) (.tmp 67)), true, some (57, false)⟩,
  ⟨some 69, (.pick (.tmp 57) (.const (.bool true)) (.tmp 68)), true, none⟩,
  ⟨some 70, (.mov (.tmp 69)), true, none⟩,
  ⟨some 71, (.mov (.tmp 0)), false, some (70, false)⟩,
  ⟨some 72, (.mov (.tmp 5)), false, some (70, false)⟩,
  ⟨some 73, (.indexSl 5 (.tmp 71) (.tmp 72)), false, some (70, false)⟩,
  ⟨some 74, (.fieldAddr 2 (.tmp 73)), false, some (70, false)⟩,
  ⟨some 75, (.load 1 false (.tmp 74)), false, some (70, false)⟩,
  ⟨some 76, (.bin .gtr .none (.tmp 75) (.const (.int .i64 172800))), true, some (70, false)⟩,
  ⟨some 77, (.pick (.tmp 70) (.const (.bool true)) (.tmp 76)), true, none⟩,
  ⟨some 78, (.mov (.tmp 77)), true, none⟩,
  ⟨some 79, (.mov (.tmp 5)), false, some (78, false)⟩,
  ⟨some 80, (.bin .gtr .none (.tmp 79) (.const (.int .i64 0))), true, some (78, false)⟩,
  ⟨some 81, (.mov (.tmp 80)), true, some (78, false)⟩,
  ⟨some 82, (.mov (.tmp 0)), false, some (81, true)⟩,
  ⟨some 83, (.mov (.tmp 5)), false, some (81, true)⟩,
  ⟨some 84, (.indexSl 5 (.tmp 82) (.tmp 83)), false, some (81, true)⟩,
  ⟨some 85, (.fieldAddr 1 (.tmp 84)), false, some (81, true)⟩,
  ⟨some 86, (.load 1 false (.tmp 85)), false, some (81, true)⟩,
  ⟨some 87, (.mov (.tmp 0)), false, some (81, true)⟩,
  ⟨some 88, (.mov (.tmp 5)), false, some (81, true)⟩,
  ⟨some 89, (.bin .sub .none (.tmp 88) (.const (.int .i64 1))), false, some (81, true)⟩,
  ⟨some 90, (.indexSl 5 (.tmp 87) (.tmp 89)), false, some (81, true)⟩,
  ⟨some 91, (.fieldAddr 2 (.tmp 90)), false, some (81, true)⟩,
  ⟨some 92, (.load 1 false (.tmp 91)), false, some (81, true)⟩,
  ⟨some 93, (.bin .lss .none (.tmp 86) (.tmp 92)), true, some (81, true)⟩,
  ⟨some 94, (.pick (.tmp 81) (.tmp 93) (.const (.bool false))), true, some (78, false)⟩,
  ⟨some 95, (.pick (.tmp 78) (.const (.bool true)) (.tmp 94)), true, none⟩]
def c39_25 : ACode := (.seq (.mixed o39_24 [true, true, true, true, true, true, true, true, true, true, true, true, true, true, true, true, true, true, true, true, true, true, true, true, true, true, true, true, true, true, true, true, true, true, true, true, true, true, true, true, true, true, true, true, true] [0, 1, 5, 95]) (.cond (.tmp 95) c39_23 .skip))
def w39_25 (P : Program) (Q : Exit → Slots → Mem → Prop) (M : Mem) (v0 : V) (v1 : V) (v5 : V) : Prop :=
  @OptVH (indexSlV 5 v0 v5 M) ⟨fun t53_3 =>
  @OptVH (moveV 1 t53_3) ⟨fun t54_4 =>
  @OptVH (loadV 1 false t54_4 M) ⟨fun t55_5 =>
  @OptBH (binV .lss .none t55_5 (.int .i64 0)) ⟨fun b56_6 =>
  @BIfH b56_6
  ⟨wpC P c39_23 Q [(0, v0), (1, v1), (5, v5), (95, (.bool true))] M⟩
  ⟨@OptVH (indexSlV 5 v0 v5 M) ⟨fun t60_15 =>
  @OptVH (moveV 1 t60_15) ⟨fun t61_16 =>
  @OptVH (loadV 1 false t61_16 M) ⟨fun t62_17 =>
  @OptVH (indexSlV 5 v0 v5 M) ⟨fun t65_20 =>
  @OptVH (moveV 2 t65_20) ⟨fun t66_21 =>
  @OptVH (loadV 1 false t66_21 M) ⟨fun t67_22 =>
  @OptBH (binV .gtr .none t62_17 t67_22) ⟨fun b68_23 =>
  @BIfH b68_23
  ⟨wpC P c39_23 Q [(0, v0), (1, v1), (5, v5), (95, (.bool true))] M⟩
  ⟨@OptVH (indexSlV 5 v0 v5 M) ⟨fun t73_31 =>
  @OptVH (moveV 2 t73_31) ⟨fun t74_32 =>
  @OptVH (loadV 1 false t74_32 M) ⟨fun t75_33 =>
  @OptBH (binV .gtr .none t75_33 (.int .i64 172800)) ⟨fun b76_34 =>
  @BIfH b76_34
  ⟨wpC P c39_23 Q [(0, v0), (1, v1), (5, v5), (95, (.bool true))] M⟩
  ⟨@OptBH (binV .gtr .none v5 (.int .i64 0)) ⟨fun b80_39 =>
  @BIfH b80_39
  ⟨@OptVH (indexSlV 5 v0 v5 M) ⟨fun t84_43 =>
  @OptVH (moveV 1 t84_43) ⟨fun t85_44 =>
  @OptVH (loadV 1 false t85_44 M) ⟨fun t86_45 =>
  @OptVH (binV .sub .none v5 (.int .i64 1)) ⟨fun t89_48 =>
  @OptVH (indexSlV 5 v0 t89_48 M) ⟨fun t90_49 =>
  @OptVH (moveV 2 t90_49) ⟨fun t91_50 =>
  @OptVH (loadV 1 false t91_50 M) ⟨fun t92_51 =>
  @OptBH (binV .lss .none t86_45 t92_51) ⟨fun b93_52 =>
  @BIfH b93_52
  ⟨wpC P c39_23 Q [(0, v0), (1, v1), (5, v5), (95, (.bool b93_52))] M⟩
  ⟨Q .normal [(0, v0), (1, v1), (5, v5), (95, (.bool b93_52))] M⟩⟩⟩⟩⟩⟩⟩⟩⟩⟩
  ⟨Q .normal [(0, v0), (1, v1), (5, v5), (95, (.bool false))] M⟩⟩⟩⟩⟩⟩⟩⟩⟩⟩⟩⟩⟩⟩⟩⟩⟩⟩⟩⟩
theorem e39_25 (P : Program) (Q : Exit → Slots → Mem → Prop) (s : Slots) (M : Mem) : wpC P c39_25 Q s M = w39_25 P Q M (sget s 0) (sget s 1) (sget s 5) := by kernel_rfl
def c39_26 : ACode := (.seq c39_20 c39_25)
def c39_27 : ACode := (.seq c39_15 c39_26)
def c39_28 : ACode := (.block 1 c39_27)
def o39_29 : List AOper := [⟨some 18, (.mov (.tmp 5)), false, none⟩,
  ⟨some 19, (.bin .add .none (.tmp 18) (.const (.int .i64 1))), false, none⟩,
  ⟨some 5, (.mov (.tmp 19)), false, none⟩]
def c39_30 : ACode := (.region o39_29 [0, 1, 5])
def w39_30 (_P : Program) (Q : Exit → Slots → Mem → Prop) (M : Mem) (v0 : V) (v1 : V) (v5 : V) : Prop :=
  @OptVH (binV .add .none v5 (.int .i64 1)) ⟨fun t19_2 =>
  Q .normal [(0, v0), (1, v1), (5, t19_2)] M⟩
theorem e39_30 (P : Program) (Q : Exit → Slots → Mem → Prop) (s : Slots) (M : Mem) : wpC P c39_30 Q s M = w39_30 P Q M (sget s 0) (sget s 1) (sget s 5) := by kernel_rfl
def c39_31 : ACode := (.seq c39_28 c39_30)
def c39_32 : ACode := (.seq c39_10 c39_31)
def c39_33 : ACode := (.loop [0, 1, 5] c39_32)
def c39_34 : ACode := (.block 0 c39_33)
def c39_35 : ACode := (.seq c39_8 c39_34)
def o39_36 : List AOper := [⟨some 4, (.mov (.const (.int .i64 0))), false, none⟩]
def c39_37 : ACode := (.region o39_36 [4])
def w39_37 (_P : Program) (Q : Exit → Slots → Mem → Prop) (M : Mem) : Prop :=
  Q .normal [(4, (.int .i64 0))] M
theorem e39_37 (P : Program) (Q : Exit → Slots → Mem → Prop) (s : Slots) (M : Mem) : wpC P c39_37 Q s M = w39_37 P Q M := by kernel_rfl
def c39_38 : ACode := (.seq c39_37 .ret)
def c39_39 : ACode := (.seq c39_35 c39_38)
def c39_40 : ACode := (.seq c39_6 c39_39)
def c39_41 : ACode := (.seq c39_1 c39_40)
def fn_transitref17_calls : AFn := ⟨96, [(.tmp 4)], c39_41⟩
theorem fn_transitref17_calls_ok : resFn PR h_transitref17_calls i_transitref17_calls = some fn_transitref17_calls := by kernel_rfl

def tabL : List (Nat × AFn × Bool) := [(3, fn_transitlaw17_TripChecks, false), (4, fn_transitlaw17_TripFinds, false), (5, fn_transitlaw17_TripPatterns, false), (6, fn_transitlaw17_TripGroups, false), (7, fn_transitlaw17_TripOvertakes, false), (8, fn_transitlaw17_TripConnects, false), (9, fn_transitlaw17_TripPartition, false), (10, fn_transitlaw17_TripFollows, false), (11, fn_transitlaw17_TripPasses, false), (12, fn_transitlaw17_table, false), (13, fn_transitlaw17_exampleHolds, false), (14, fn_trip_Check, false), (15, fn_transitref17_Check, false), (16, fn_trip_Find, false), (17, fn_transitref17_Find, false), (18, fn_transitlaw17_small, false), (19, fn_trip_Pattern, false), (20, fn_trip_SamePattern, false), (21, fn_transitref17_SamePattern, false), (22, fn_trip_Groups, false), (23, fn_transitref17_Group, false), (24, fn_transitlaw17_same, false), (25, fn_trip_Overtakes, false), (26, fn_transitref17_Overtakes, false), (27, fn_trip_Between, false), (28, fn_transitref17_Connects, false), (29, fn_transitlaw17_passes, false), (30, fn_transitlaw17_example, false), (31, fn_ident_Valid, false), (32, fn_call_Check, false), (33, fn_transitref17_one, false), (35, fn_transitref17_event, false), (36, fn_trip_connects, false), (37, fn_call_one, false), (38, fn_transitref05_Valid, false), (39, fn_transitref17_calls, false)]
theorem tab_ok : TabOK PR (tabOf tabL) := tabOf_cons fn_transitlaw17_TripChecks_ok (tabOf_cons fn_transitlaw17_TripFinds_ok (tabOf_cons fn_transitlaw17_TripPatterns_ok (tabOf_cons fn_transitlaw17_TripGroups_ok (tabOf_cons fn_transitlaw17_TripOvertakes_ok (tabOf_cons fn_transitlaw17_TripConnects_ok (tabOf_cons fn_transitlaw17_TripPartition_ok (tabOf_cons fn_transitlaw17_TripFollows_ok (tabOf_cons fn_transitlaw17_TripPasses_ok (tabOf_cons fn_transitlaw17_table_ok (tabOf_cons fn_transitlaw17_exampleHolds_ok (tabOf_cons fn_trip_Check_ok (tabOf_cons fn_transitref17_Check_ok (tabOf_cons fn_trip_Find_ok (tabOf_cons fn_transitref17_Find_ok (tabOf_cons fn_transitlaw17_small_ok (tabOf_cons fn_trip_Pattern_ok (tabOf_cons fn_trip_SamePattern_ok (tabOf_cons fn_transitref17_SamePattern_ok (tabOf_cons fn_trip_Groups_ok (tabOf_cons fn_transitref17_Group_ok (tabOf_cons fn_transitlaw17_same_ok (tabOf_cons fn_trip_Overtakes_ok (tabOf_cons fn_transitref17_Overtakes_ok (tabOf_cons fn_trip_Between_ok (tabOf_cons fn_transitref17_Connects_ok (tabOf_cons fn_transitlaw17_passes_ok (tabOf_cons fn_transitlaw17_example_ok (tabOf_cons fn_ident_Valid_ok (tabOf_cons fn_call_Check_ok (tabOf_cons fn_transitref17_one_ok (tabOf_cons fn_transitref17_event_ok (tabOf_cons fn_trip_connects_ok (tabOf_cons fn_call_one_ok (tabOf_cons fn_transitref05_Valid_ok (tabOf_cons fn_transitref17_calls_ok (tabOf_nil))))))))))))))))))))))))))))))))))))

end Go.Vm.C
