/- The abstract code of the functions that the statements reach, printed by a program, each with the equation that it is what the loaded program says. Part 1. -/
import Derived.Test.YtojpmklnmaomlaaC0
namespace Go.Vm.C
open Go.Vm
def h_fare_divide_1 : Hints := ⟨[(0, [0, 1, 2, 3, 4, 5, 23]), (1, [0, 1, 2, 5, 9]), (2, [0, 1, 2, 5, 9, 10, 11]), (3, [0, 1, 2, 5, 9, 10, 11, 51]), (4, [])], [], []⟩
def o52_0 : List AOper := [⟨some 12, (.fieldAddr 0 (.tmp 3)), false, none⟩,
  ⟨some 13, (.load 1 false (.tmp 12)), false, none⟩,
  ⟨some 14, (.mov (.tmp 2)), false, none⟩,
  ⟨some 15, (.indexSl 6 (.tmp 13) (.tmp 14)), false, none⟩,
  ⟨some 16, (.load 6 true (.tmp 15)), false, none⟩,
  ⟨some 17, (.load 1 false (.tmp 4)), false, none⟩,
  ⟨some 18, (.mov (.tmp 0)), false, none⟩,
  ⟨some 19, (.mov (.tmp 1)), false, none⟩,
  ⟨some 20, (.bin .add .none (.tmp 19) (.const (.int .i64 1))), false, none⟩,
  ⟨some 21, (.slice 4 (.tmp 17) (some (.tmp 18)) (some (.tmp 20)) none), false, none⟩,
  ⟨some 22, (.call i_product_Covers [(.tmp 16), (.tmp 21)]), true, none⟩,
  ⟨some 23, (.un .not (.tmp 22)), true, none⟩]
def c52_1 : ACode := (.seq (.mixed o52_0 [true, true, true, true, true, true, true, true, true, true, false, true] [0, 1, 2, 3, 4, 5, 23]) (.cond (.tmp 23) .ret .skip))
def w52_1 (P : Program) (Q : Exit → Slots → Mem → Prop) (M : Mem) (v0 : V) (v1 : V) (v2 : V) (v3 : V) (v4 : V) (v5 : V) : Prop :=
  @OptVH (moveV 0 v3) ⟨fun t12_1 =>
  @OptVH (loadV 1 false t12_1 M) ⟨fun t13_2 =>
  @OptVH (indexSlV 6 t13_2 v2 M) ⟨fun t15_4 =>
  @OptVH (loadV 6 true t15_4 M) ⟨fun t16_5 =>
  @OptVH (loadV 1 false v4 M) ⟨fun t17_6 =>
  @OptVH (binV .add .none v1 (.int .i64 1)) ⟨fun t20_9 =>
  @OptVH (sliceV 4 t17_6 (some v0) (some t20_9) none M) ⟨fun t21_10 =>
  @CallH P i_product_Covers [t16_5, t21_10] M ⟨fun t22_11 M11 => @OptBH (some t22_11) ⟨fun b22_11 =>
  @OptBH (unV .not (.bool b22_11)) ⟨fun b23_12 =>
  @BIfH b23_12
  ⟨Q .ret [(0, v0), (1, v1), (2, v2), (3, v3), (4, v4), (5, v5), (23, (.bool b23_12))] M11⟩
  ⟨Q .normal [(0, v0), (1, v1), (2, v2), (3, v3), (4, v4), (5, v5), (23, (.bool b23_12))] M11⟩⟩⟩⟩⟩⟩⟩⟩⟩⟩⟩
theorem e52_1 (P : Program) (Q : Exit → Slots → Mem → Prop) (s : Slots) (M : Mem) : wpC P c52_1 Q s M = w52_1 P Q M (sget s 0) (sget s 1) (sget s 2) (sget s 3) (sget s 4) (sget s 5) := by kernel_rfl
def o52_2 : List AOper := [⟨some 24, (.load 4 true (.tmp 3)), false, none⟩,
  ⟨some 25, (.fieldAddr 0 (.tmp 3)), false, none⟩,
  ⟨some 26, (.load 1 false (.tmp 25)), false, none⟩,
  ⟨some 27, (.mov (.tmp 2)), false, none⟩,
  ⟨some 28, (.indexSl 6 (.tmp 26) (.tmp 27)), false, none⟩,
  ⟨some 29, (.load 6 true (.tmp 28)), false, none⟩,
  ⟨some 30, (.load 1 false (.tmp 4)), false, none⟩,
  ⟨some 31, (.mov (.tmp 0)), false, none⟩,
  ⟨some 32, (.call i_fare_ticketPrice [(.tmp 24), (.tmp 29), (.tmp 30), (.tmp 31)]), false, none⟩,
  ⟨some 9, (.mov (.tmp 32)), false, none⟩]
def c52_3 : ACode := (.mixed o52_2 [true, true, true, true, true, true, true, true, false, true] [0, 1, 2, 5, 9])
def w52_3 (P : Program) (Q : Exit → Slots → Mem → Prop) (M : Mem) (v0 : V) (v1 : V) (v2 : V) (v3 : V) (v4 : V) (v5 : V) : Prop :=
  @OptVH (loadV 4 true v3 M) ⟨fun t24_1 =>
  @OptVH (moveV 0 v3) ⟨fun t25_2 =>
  @OptVH (loadV 1 false t25_2 M) ⟨fun t26_3 =>
  @OptVH (indexSlV 6 t26_3 v2 M) ⟨fun t28_5 =>
  @OptVH (loadV 6 true t28_5 M) ⟨fun t29_6 =>
  @OptVH (loadV 1 false v4 M) ⟨fun t30_7 =>
  @CallH P i_fare_ticketPrice [t24_1, t29_6, t30_7, v0] M ⟨fun t32_9 M9 =>
  Q .normal [(0, v0), (1, v1), (2, v2), (5, v5), (9, t32_9)] M9⟩⟩⟩⟩⟩⟩⟩
theorem e52_3 (P : Program) (Q : Exit → Slots → Mem → Prop) (s : Slots) (M : Mem) : wpC P c52_3 Q s M = w52_3 P Q M (sget s 0) (sget s 1) (sget s 2) (sget s 3) (sget s 4) (sget s 5) := by kernel_rfl
def o52_4 : List AOper := [⟨some 33, (.mov (.tmp 9)), false, none⟩,
  ⟨some 34, (.mov (.tmp 1)), false, none⟩,
  ⟨some 35, (.bin .add .none (.tmp 34) (.const (.int .i64 1))), false, none⟩,
  ⟨some 36, (.indexArr 9 7 (.tmp 5) (.tmp 35)), false, none⟩,
  ⟨some 37, (.fieldAddr 1 (.tmp 36)), false, none⟩,
  ⟨some 38, (.load 1 false (.tmp 37)), false, none⟩,
  ⟨some 39, (.bin .add .none (.tmp 33) (.tmp 38)), false, none⟩,
  ⟨some 40, (.mov (.tmp 1)), false, none⟩,
  ⟨some 41, (.bin .add .none (.tmp 40) (.const (.int .i64 1))), false, none⟩,
  ⟨some 42, (.indexArr 9 7 (.tmp 5) (.tmp 41)), false, none⟩,
  ⟨some 43, (.fieldAddr 2 (.tmp 42)), false, none⟩,
  ⟨some 44, (.load 1 false (.tmp 43)), false, none⟩,
  ⟨some 45, (.bin .add .none (.tmp 44) (.const (.int .i64 1))), false, none⟩,
  ⟨some 10, (.mov (.tmp 39)), false, none⟩,
  ⟨some 11, (.mov (.tmp 45)), false, none⟩]
def c52_5 : ACode := (.mixed o52_4 [true, true, true, true, true, true, true, true, true, true, true, true, true, true, true] [0, 1, 2, 5, 9, 10, 11])
def w52_5 (_P : Program) (Q : Exit → Slots → Mem → Prop) (M : Mem) (v0 : V) (v1 : V) (v2 : V) (v5 : V) (v9 : V) : Prop :=
  @OptVH (binV .add .none v1 (.int .i64 1)) ⟨fun t35_3 =>
  @OptVH (indexArrV 9 7 v5 t35_3) ⟨fun t36_4 =>
  @OptVH (moveV 1 t36_4) ⟨fun t37_5 =>
  @OptVH (loadV 1 false t37_5 M) ⟨fun t38_6 =>
  @OptVH (binV .add .none v9 t38_6) ⟨fun t39_7 =>
  @OptVH (binV .add .none v1 (.int .i64 1)) ⟨fun t41_9 =>
  @OptVH (indexArrV 9 7 v5 t41_9) ⟨fun t42_10 =>
  @OptVH (moveV 2 t42_10) ⟨fun t43_11 =>
  @OptVH (loadV 1 false t43_11 M) ⟨fun t44_12 =>
  @OptVH (binV .add .none t44_12 (.int .i64 1)) ⟨fun t45_13 =>
  Q .normal [(0, v0), (1, v1), (2, v2), (5, v5), (9, v9), (10, t39_7), (11, t45_13)] M⟩⟩⟩⟩⟩⟩⟩⟩⟩⟩
theorem e52_5 (P : Program) (Q : Exit → Slots → Mem → Prop) (s : Slots) (M : Mem) : wpC P c52_5 Q s M = w52_5 P Q M (sget s 0) (sget s 1) (sget s 2) (sget s 5) (sget s 9) := by kernel_rfl
def o52_6 : List AOper := [⟨some 52, (.mov (.tmp 0)), false, none⟩,
  ⟨some 53, (.mov (.tmp 10)), false, none⟩,
  ⟨some 54, (.mov (.tmp 11)), false, none⟩,
  ⟨some 55, (.mov (.tmp 2)), false, none⟩,
  ⟨some 56, (.mov (.tmp 0)), false, none⟩,
  ⟨some 57, (.mov (.tmp 1)), false, none⟩,
  ⟨some 58, (.mov (.tmp 9)), false, none⟩,
  ⟨some 59, (.build [(.int .i64 0), (.int .i64 0), (.int .i64 0), (.int .i64 0)] [(0, (1, (.tmp 55))), (1, (1, (.tmp 56))), (2, (1, (.tmp 57))), (3, (1, (.tmp 58)))]), false, none⟩,
  ⟨some 60, (.build [(.bool false), (.int .i64 0), (.int .i64 0), (.int .i64 0), (.int .i64 0), (.int .i64 0), (.int .i64 0)] [(0, (1, (.const (.bool true)))), (1, (1, (.tmp 53))), (2, (1, (.tmp 54))), (3, (4, (.tmp 59)))]), false, none⟩,
  ⟨some 61, (.indexArr 9 7 (.tmp 5) (.tmp 52)), false, none⟩,
  ⟨none, (.store 7 (.tmp 61) (.tmp 60)), false, none⟩]
def c52_7 : ACode := (.region o52_6 [])
def w52_7 (_P : Program) (Q : Exit → Slots → Mem → Prop) (M : Mem) (v0 : V) (v1 : V) (v2 : V) (v5 : V) (v9 : V) (v10 : V) (v11 : V) : Prop :=
  @OptVH (buildV [(.int .i64 0), (.int .i64 0), (.int .i64 0), (.int .i64 0)] [(0, 1, v2), (1, 1, v0), (2, 1, v1), (3, 1, v9)]) ⟨fun t59_8 =>
  @OptVH (buildV [(.bool false), (.int .i64 0), (.int .i64 0), (.int .i64 0), (.int .i64 0), (.int .i64 0), (.int .i64 0)] [(0, 1, (.bool true)), (1, 1, v10), (2, 1, v11), (3, 4, t59_8)]) ⟨fun t60_9 =>
  @OptVH (indexArrV 9 7 v5 v0) ⟨fun t61_10 =>
  @OptMH (storeVM 7 t61_10 t60_9 M) ⟨fun _tx_11 M11 =>
  Q .normal [] M11⟩⟩⟩⟩
theorem e52_7 (P : Program) (Q : Exit → Slots → Mem → Prop) (s : Slots) (M : Mem) : wpC P c52_7 Q s M = w52_7 P Q M (sget s 0) (sget s 1) (sget s 2) (sget s 5) (sget s 9) (sget s 10) (sget s 11) := by kernel_rfl
def o52_8 : List AOper := [⟨some 46, (.mov (.tmp 0)), false, none⟩,
  ⟨some 47, (.indexArr 9 7 (.tmp 5) (.tmp 46)), false, none⟩,
  ⟨some 48, (.load 7 true (.tmp 47)), false, none⟩,
  ⟨some 49, (.mov (.tmp 10)), false, none⟩,
  ⟨some 50, (.mov (.tmp 11)), false, none⟩,
  ⟨some 51, (.call i_fare_rest_better [(.tmp 48), (.tmp 49), (.tmp 50)]), true, none⟩]
def c52_9 : ACode := (.seq (.region o52_8 [0, 1, 2, 5, 9, 10, 11, 51]) (.cond (.tmp 51) c52_7 .skip))
def w52_9 (P : Program) (Q : Exit → Slots → Mem → Prop) (M : Mem) (v0 : V) (v1 : V) (v2 : V) (v5 : V) (v9 : V) (v10 : V) (v11 : V) : Prop :=
  @OptVH (indexArrV 9 7 v5 v0) ⟨fun t47_2 =>
  @OptVH (loadV 7 true t47_2 M) ⟨fun t48_3 =>
  @CallH P i_fare_rest_better [t48_3, v10, v11] M ⟨fun t51_6 M6 => @OptBH (some t51_6) ⟨fun b51_6 =>
  @BIfH b51_6
  ⟨wpC P c52_7 Q [(0, v0), (1, v1), (2, v2), (5, v5), (9, v9), (10, v10), (11, v11), (51, (.bool b51_6))] M6⟩
  ⟨Q .normal [(0, v0), (1, v1), (2, v2), (5, v5), (9, v9), (10, v10), (11, v11), (51, (.bool b51_6))] M6⟩⟩⟩⟩⟩
theorem e52_9 (P : Program) (Q : Exit → Slots → Mem → Prop) (s : Slots) (M : Mem) : wpC P c52_9 Q s M = w52_9 P Q M (sget s 0) (sget s 1) (sget s 2) (sget s 5) (sget s 9) (sget s 10) (sget s 11) := by kernel_rfl
def c52_10 : ACode := (.seq c52_5 c52_9)
def c52_11 : ACode := (.seq c52_3 c52_10)
def c52_12 : ACode := (.seq c52_1 c52_11)
def fn_fare_divide_1 : AFn := ⟨62, [], c52_12⟩
theorem fn_fare_divide_1_ok : resFn PR h_fare_divide_1 i_fare_divide_1 = some fn_fare_divide_1 := by kernel_rfl

def h_product_Covers : Hints := ⟨[(0, [1, 2]), (1, [1, 2, 5]), (2, [1, 2, 35]), (3, [4]), (4, [1, 2, 6, 7]), (5, [1, 2, 6, 7, 8]), (6, [2, 6, 7, 8, 37, 38, 39]), (7, [2, 6, 7, 8, 37, 38, 39, 40]), (8, [2, 6, 7, 8, 10, 37, 38, 39]), (9, [2, 6, 7, 8, 37, 38, 39]), (10, [2, 6, 7, 8, 37, 38, 39]), (11, [4])], [(7, [2, 6, 7, 8, 37, 38, 39])], []⟩
def o53_0 : List AOper := [⟨some 2, (.box 6 (.tmp 0)), false, none⟩,
  ⟨some 4, (.mov (.const (.bool false))), true, none⟩]
def c53_1 : ACode := (.region o53_0 [1, 2])
def w53_1 (_P : Program) (Q : Exit → Slots → Mem → Prop) (M : Mem) (v0 : V) (v1 : V) : Prop :=
  @OptMH (boxV 6 v0 M) ⟨fun t2_1 M1 =>
  Q .normal [(1, v1), (2, t2_1)] M1⟩
theorem e53_1 (P : Program) (Q : Exit → Slots → Mem → Prop) (s : Slots) (M : Mem) : wpC P c53_1 Q s M = w53_1 P Q M (sget s 0) (sget s 1) := by kernel_rfl
def o53_2 : List AOper := [⟨some 11, (.mov (.tmp 1)), false, none⟩,
  ⟨some 12, (.lenSl (.tmp 11)), false, none⟩,
  ⟨some 5, (.mov (.tmp 12)), false, none⟩]
def c53_3 : ACode := (.region o53_2 [1, 2, 5])
def w53_3 (_P : Program) (Q : Exit → Slots → Mem → Prop) (M : Mem) (v1 : V) (v2 : V) : Prop :=
  @OptVH (lenV v1 M) ⟨fun t12_2 =>
  Q .normal [(1, v1), (2, v2), (5, t12_2)] M⟩
theorem e53_3 (P : Program) (Q : Exit → Slots → Mem → Prop) (s : Slots) (M : Mem) : wpC P c53_3 Q s M = w53_3 P Q M (sget s 1) (sget s 2) := by kernel_rfl
def o53_4 : List AOper := [⟨some 4, (.mov (.const (.bool false))), true, none⟩]
def c53_5 : ACode := (.region o53_4 [4])
def w53_5 (_P : Program) (Q : Exit → Slots → Mem → Prop) (M : Mem) : Prop :=
  Q .normal [(4, (.bool false))] M
theorem e53_5 (P : Program) (Q : Exit → Slots → Mem → Prop) (s : Slots) (M : Mem) : wpC P c53_5 Q s M = w53_5 P Q M := by kernel_rfl
def c53_6 : ACode := (.seq c53_5 .ret)
def o53_7 : List AOper := [⟨some 13, (.mov (.tmp 5)), false, none⟩,
  ⟨some 14, (.bin .eql .none (.tmp 13) (.const (.int .i64 0))), true, none⟩,
  ⟨some 15, (.mov (.tmp 14)), true, none⟩,
  ⟨some 16, (.mov (.tmp 5)), false, some (15, false)⟩,
  ⟨some 17, (.fieldAddr 2 (.tmp 2)), false, some (15, false)⟩,
  ⟨some 18, (.load 1 false (.tmp 17)), false, some (15, false)⟩,
  ⟨some 19, (.bin .gtr .none (.tmp 16) (.tmp 18)), true, some (15, false)⟩,
  ⟨some 20, (.pick (.tmp 15) (.const (.bool true)) (.tmp 19)), true, none⟩,
  ⟨some 21, (.mov (.tmp 20)), true, none⟩,
  ⟨some 22, (.mov (.tmp 1)), false, some (21, false)⟩,
  ⟨some 23, (.indexSl 4 (.tmp 22) (.const (.int .i64 0))), false, some (21, false)⟩,
  ⟨some 24, (.fieldAddr 0 (.tmp 23)), false, some (21, false)⟩,
  ⟨some 25, (.load 1 false (.tmp 24)), false, some (21, false)⟩,
  ⟨some 26, (.mov (.tmp 1)), false, some (21, false)⟩,
  ⟨some 27, (.mov (.tmp 5)), false, some (21, false)⟩,
  ⟨some 28, (.bin .sub .none (.tmp 27) (.const (.int .i64 1))), false, some (21, false)⟩,
  ⟨some 29, (.indexSl 4 (.tmp 26) (.tmp 28)), false, some (21, false)⟩,
  ⟨some 30, (.fieldAddr 0 (.tmp 29)), false, some (21, false)⟩,
  ⟨some 31, (.load 1 false (.tmp 30)), false, some (21, false)⟩,
  ⟨some 32, (.fieldAddr 4 (.tmp 2)), false, some (21, false)⟩,
  ⟨some 33, (.load 1 false (.tmp 32)), false, some (21, false)⟩,
  ⟨some 34, (.call i_product_later [(.tmp 25), (.tmp 31), (.tmp 33)]), true, some (21, false)⟩,
  ⟨some 35, (.pick (.tmp 21) (.const (.bool true)) (.tmp 34)), true, none⟩]
def c53_8 : ACode := (.seq (.mixed o53_7 [true, true, true, true, true, true, true, true, true, true, true, true, true, true, true, true, true, true, true, true, true, false, true] [1, 2, 35]) (.cond (.tmp 35) c53_6 .skip))
def w53_8 (P : Program) (Q : Exit → Slots → Mem → Prop) (M : Mem) (v1 : V) (v2 : V) (v5 : V) : Prop :=
  @OptBH (binV .eql .none v5 (.int .i64 0)) ⟨fun b14_2 =>
  @BIfH b14_2
  ⟨wpC P c53_6 Q [(1, v1), (2, v2), (35, (.bool true))] M⟩
  ⟨@OptVH (moveV 2 v2) ⟨fun t17_8 =>
  @OptVH (loadV 1 false t17_8 M) ⟨fun t18_9 =>
  @OptBH (binV .gtr .none v5 t18_9) ⟨fun b19_10 =>
  @BIfH b19_10
  ⟨wpC P c53_6 Q [(1, v1), (2, v2), (35, (.bool true))] M⟩
  ⟨@OptVH (indexSlV 4 v1 (.int .i64 0) M) ⟨fun t23_15 =>
  @OptVH (moveV 0 t23_15) ⟨fun t24_16 =>
  @OptVH (loadV 1 false t24_16 M) ⟨fun t25_17 =>
  @OptVH (binV .sub .none v5 (.int .i64 1)) ⟨fun t28_20 =>
  @OptVH (indexSlV 4 v1 t28_20 M) ⟨fun t29_21 =>
  @OptVH (moveV 0 t29_21) ⟨fun t30_22 =>
  @OptVH (loadV 1 false t30_22 M) ⟨fun t31_23 =>
  @OptVH (moveV 4 v2) ⟨fun t32_24 =>
  @OptVH (loadV 1 false t32_24 M) ⟨fun t33_25 =>
  @CallH P i_product_later [t25_17, t31_23, t33_25] M ⟨fun t34_26 M26 => @OptBH (some t34_26) ⟨fun b34_26 =>
  @BIfH b34_26
  ⟨wpC P c53_6 Q [(1, v1), (2, v2), (35, (.bool b34_26))] M26⟩
  ⟨Q .normal [(1, v1), (2, v2), (35, (.bool b34_26))] M26⟩⟩⟩⟩⟩⟩⟩⟩⟩⟩⟩⟩⟩⟩⟩⟩⟩⟩
theorem e53_8 (P : Program) (Q : Exit → Slots → Mem → Prop) (s : Slots) (M : Mem) : wpC P c53_8 Q s M = w53_8 P Q M (sget s 1) (sget s 2) (sget s 5) := by kernel_rfl
def o53_9 : List AOper := [⟨some 6, (.alloc [(.int .u64 0)]), false, none⟩,
  ⟨some 7, (.alloc [(.int .u64 0)]), false, none⟩]
def c53_10 : ACode := (.region o53_9 [1, 2, 6, 7])
def w53_10 (_P : Program) (Q : Exit → Slots → Mem → Prop) (M : Mem) (v1 : V) (v2 : V) : Prop :=
  @OptMH (allocV [(.int .u64 0)] M) ⟨fun t6_1 M1 =>
  @OptMH (allocV [(.int .u64 0)] M1) ⟨fun t7_2 M2 =>
  Q .normal [(1, v1), (2, v2), (6, t6_1), (7, t7_2)] M2⟩⟩
theorem e53_10 (P : Program) (Q : Exit → Slots → Mem → Prop) (s : Slots) (M : Mem) : wpC P c53_10 Q s M = w53_10 P Q M (sget s 1) (sget s 2) := by kernel_rfl
def o53_11 : List AOper := [⟨some 36, (.mkfn i_product_Covers_1 [(.tmp 6), (.tmp 7)]), false, none⟩,
  ⟨some 8, (.mov (.tmp 36)), false, none⟩]
def c53_12 : ACode := (.region o53_11 [1, 2, 6, 7, 8])
def w53_12 (_P : Program) (Q : Exit → Slots → Mem → Prop) (M : Mem) (v1 : V) (v2 : V) (v6 : V) (v7 : V) : Prop :=
  Q .normal [(1, v1), (2, v2), (6, v6), (7, v7), (8, (mkfnV i_product_Covers_1 [v6, v7]))] M
theorem e53_12 (P : Program) (Q : Exit → Slots → Mem → Prop) (s : Slots) (M : Mem) : wpC P c53_12 Q s M = w53_12 P Q M (sget s 1) (sget s 2) (sget s 6) (sget s 7) := by kernel_rfl
def o53_13 : List AOper := [⟨some 37, (.mov (.tmp 1)), false, none⟩,
  ⟨some 38, (.lenSl (.tmp 37)), false, none⟩,
  ⟨some 39, (.mov (.const (.int .i64 0))), false, none⟩]
def c53_14 : ACode := (.region o53_13 [2, 6, 7, 8, 37, 38, 39])
def w53_14 (_P : Program) (Q : Exit → Slots → Mem → Prop) (M : Mem) (v1 : V) (v2 : V) (v6 : V) (v7 : V) (v8 : V) : Prop :=
  @OptVH (lenV v1 M) ⟨fun t38_2 =>
  Q .normal [(2, v2), (6, v6), (7, v7), (8, v8), (37, v1), (38, t38_2), (39, (.int .i64 0))] M⟩
theorem e53_14 (P : Program) (Q : Exit → Slots → Mem → Prop) (s : Slots) (M : Mem) : wpC P c53_14 Q s M = w53_14 P Q M (sget s 1) (sget s 2) (sget s 6) (sget s 7) (sget s 8) := by kernel_rfl
def o53_15 : List AOper := [⟨some 40, (.bin .lss .none (.tmp 39) (.tmp 38)), false, none⟩]
def c53_16 : ACode := (.region o53_15 [2, 6, 7, 8, 37, 38, 39, 40])
def w53_16 (_P : Program) (Q : Exit → Slots → Mem → Prop) (M : Mem) (v2 : V) (v6 : V) (v7 : V) (v8 : V) (v37 : V) (v38 : V) (v39 : V) : Prop :=
  @OptVH (binV .lss .none v39 v38) ⟨fun t40_1 =>
  Q .normal [(2, v2), (6, v6), (7, v7), (8, v8), (37, v37), (38, v38), (39, v39), (40, t40_1)] M⟩
theorem e53_16 (P : Program) (Q : Exit → Slots → Mem → Prop) (s : Slots) (M : Mem) : wpC P c53_16 Q s M = w53_16 P Q M (sget s 2) (sget s 6) (sget s 7) (sget s 8) (sget s 37) (sget s 38) (sget s 39) := by kernel_rfl
def c53_17 : ACode := (.cond (.tmp 40) .skip (.exit 0))
def o53_18 : List AOper := [⟨some 41, (.indexSl 4 (.tmp 37) (.tmp 39)), false, none⟩,
  ⟨some 42, (.load 4 true (.tmp 41)), false, none⟩,
  ⟨some 10, (.alloc [(.int .i64 0), (.int .i64 0), (.int .i64 0), (.int .i64 0)]), false, none⟩,
  ⟨none, (.store 4 (.tmp 10) (.tmp 42)), false, none⟩]
def c53_19 : ACode := (.region o53_18 [2, 6, 7, 8, 10, 37, 38, 39])
def w53_19 (_P : Program) (Q : Exit → Slots → Mem → Prop) (M : Mem) (v2 : V) (v6 : V) (v7 : V) (v8 : V) (v37 : V) (v38 : V) (v39 : V) : Prop :=
  @OptVH (indexSlV 4 v37 v39 M) ⟨fun t41_1 =>
  @OptVH (loadV 4 true t41_1 M) ⟨fun t42_2 =>
  @OptMH (allocV [(.int .i64 0), (.int .i64 0), (.int .i64 0), (.int .i64 0)] M) ⟨fun t10_3 M3 =>
  @OptMH (storeVM 4 t10_3 t42_2 M3) ⟨fun _tx_4 M4 =>
  Q .normal [(2, v2), (6, v6), (7, v7), (8, v8), (10, t10_3), (37, v37), (38, v38), (39, v39)] M4⟩⟩⟩⟩
theorem e53_19 (P : Program) (Q : Exit → Slots → Mem → Prop) (s : Slots) (M : Mem) : wpC P c53_19 Q s M = w53_19 P Q M (sget s 2) (sget s 6) (sget s 7) (sget s 8) (sget s 37) (sget s 38) (sget s 39) := by kernel_rfl
def o53_20 : List AOper := [⟨some 43, (.mov (.tmp 8)), false, none⟩,
  ⟨some 44, (.load 4 true (.tmp 10)), false, none⟩,
  ⟨some 45, (.callv (.tmp 43) [(.tmp 44)]), false, none⟩]
def c53_21 : ACode := (.region o53_20 [2, 6, 7, 8, 37, 38, 39])
def w53_21 (P : Program) (Q : Exit → Slots → Mem → Prop) (M : Mem) (v2 : V) (v6 : V) (v7 : V) (v8 : V) (v10 : V) (v37 : V) (v38 : V) (v39 : V) : Prop :=
  @OptVH (loadV 4 true v10 M) ⟨fun t44_2 =>
  @CallV P false v8 [t44_2] M ⟨fun _t45_3 M3 =>
  Q .normal [(2, v2), (6, v6), (7, v7), (8, v8), (37, v37), (38, v38), (39, v39)] M3⟩⟩
theorem e53_21 (P : Program) (Q : Exit → Slots → Mem → Prop) (s : Slots) (M : Mem) : wpC P c53_21 Q s M = w53_21 P Q M (sget s 2) (sget s 6) (sget s 7) (sget s 8) (sget s 10) (sget s 37) (sget s 38) (sget s 39) := by kernel_rfl
def c53_22 : ACode := (.seq c53_19 c53_21)
def c53_23 : ACode := (.block 1 c53_22)
def o53_24 : List AOper := [⟨some 46, (.bin .add .none (.tmp 39) (.const (.int .i64 1))), false, none⟩,
  ⟨some 39, (.mov (.tmp 46)), false, none⟩]
def c53_25 : ACode := (.region o53_24 [2, 6, 7, 8, 37, 38, 39])
def w53_25 (_P : Program) (Q : Exit → Slots → Mem → Prop) (M : Mem) (v2 : V) (v6 : V) (v7 : V) (v8 : V) (v37 : V) (v38 : V) (v39 : V) : Prop :=
  @OptVH (binV .add .none v39 (.int .i64 1)) ⟨fun t46_1 =>
  Q .normal [(2, v2), (6, v6), (7, v7), (8, v8), (37, v37), (38, v38), (39, t46_1)] M⟩
theorem e53_25 (P : Program) (Q : Exit → Slots → Mem → Prop) (s : Slots) (M : Mem) : wpC P c53_25 Q s M = w53_25 P Q M (sget s 2) (sget s 6) (sget s 7) (sget s 8) (sget s 37) (sget s 38) (sget s 39) := by kernel_rfl
def c53_26 : ACode := (.seq c53_23 c53_25)
def c53_27 : ACode := (.seq c53_17 c53_26)
def c53_28 : ACode := (.seq c53_16 c53_27)
def c53_29 : ACode := (.loop [2, 6, 7, 8, 37, 38, 39] c53_28)
def c53_30 : ACode := (.block 0 c53_29)
def c53_31 : ACode := (.seq c53_14 c53_30)
def o53_32 : List AOper := [⟨some 47, (.load 1 false (.tmp 6)), false, none⟩,
  ⟨some 48, (.call i_bitset_Set_Len [(.tmp 47)]), false, none⟩,
  ⟨some 49, (.fieldAddr 3 (.tmp 2)), false, none⟩,
  ⟨some 50, (.load 1 false (.tmp 49)), false, none⟩,
  ⟨some 51, (.bin .leq .none (.tmp 48) (.tmp 50)), true, none⟩,
  ⟨some 52, (.mov (.tmp 51)), true, none⟩,
  ⟨some 53, (.load 1 false (.tmp 7)), false, some (52, true)⟩,
  ⟨some 54, (.fieldAddr 5 (.tmp 2)), false, some (52, true)⟩,
  ⟨some 55, (.load 1 false (.tmp 54)), false, some (52, true)⟩,
  ⟨some 56, (.conv .u64 (.tmp 55)), false, some (52, true)⟩,
  ⟨some 57, (.call i_bitset_Set_Within [(.tmp 53), (.tmp 56)]), true, some (52, true)⟩,
  ⟨some 58, (.pick (.tmp 52) (.tmp 57) (.const (.bool false))), true, none⟩,
  ⟨some 4, (.mov (.tmp 58)), true, none⟩]
def c53_33 : ACode := (.mixed o53_32 [true, true, true, true, true, true, true, true, true, true, false, true, true] [4])
def w53_33 (P : Program) (Q : Exit → Slots → Mem → Prop) (M : Mem) (v2 : V) (v6 : V) (v7 : V) : Prop :=
  @OptVH (loadV 1 false v6 M) ⟨fun t47_1 =>
  @CallQ P i_bitset_Set_Len [t47_1] M ⟨fun t48_2 M2 =>
  @OptVH (moveV 3 v2) ⟨fun t49_3 =>
  @OptVH (loadV 1 false t49_3 M2) ⟨fun t50_4 =>
  @OptBH (binV .leq .none t48_2 t50_4) ⟨fun b51_5 =>
  @BIfH b51_5
  ⟨@OptVH (loadV 1 false v7 M2) ⟨fun t53_7 =>
  @OptVH (moveV 5 v2) ⟨fun t54_8 =>
  @OptVH (loadV 1 false t54_8 M2) ⟨fun t55_9 =>
  @OptVH (convV .u64 t55_9) ⟨fun t56_10 =>
  @CallH P i_bitset_Set_Within [t53_7, t56_10] M2 ⟨fun t57_11 M11 => @OptBH (some t57_11) ⟨fun b57_11 =>
  Q .normal [(4, (.bool b57_11))] M11⟩⟩⟩⟩⟩⟩⟩
  ⟨Q .normal [(4, (.bool false))] M2⟩⟩⟩⟩⟩⟩
theorem e53_33 (P : Program) (Q : Exit → Slots → Mem → Prop) (s : Slots) (M : Mem) : wpC P c53_33 Q s M = w53_33 P Q M (sget s 2) (sget s 6) (sget s 7) := by kernel_rfl
def c53_34 : ACode := (.seq c53_33 .ret)
def c53_35 : ACode := (.seq c53_31 c53_34)
def c53_36 : ACode := (.seq c53_12 c53_35)
def c53_37 : ACode := (.seq c53_10 c53_36)
def c53_38 : ACode := (.seq c53_8 c53_37)
def c53_39 : ACode := (.seq c53_3 c53_38)
def c53_40 : ACode := (.seq c53_1 c53_39)
def fn_product_Covers : AFn := ⟨59, [(.tmp 4)], c53_40⟩
theorem fn_product_Covers_ok : resFn PR h_product_Covers i_product_Covers = some fn_product_Covers := by kernel_rfl

def h_fare_ticketPrice : Hints := ⟨[(0, [2, 3, 4, 5]), (1, [4, 5, 26]), (2, [8]), (3, [8])], [], []⟩
def o54_0 : List AOper := [⟨some 4, (.box 4 (.tmp 0)), false, none⟩,
  ⟨some 5, (.box 6 (.tmp 1)), false, none⟩,
  ⟨some 8, (.mov (.const (.int .i64 0))), false, none⟩]
def c54_1 : ACode := (.region o54_0 [2, 3, 4, 5])
def w54_1 (_P : Program) (Q : Exit → Slots → Mem → Prop) (M : Mem) (v0 : V) (v1 : V) (v2 : V) (v3 : V) : Prop :=
  @OptMH (boxV 4 v0 M) ⟨fun t4_1 M1 =>
  @OptMH (boxV 6 v1 M1) ⟨fun t5_2 M2 =>
  Q .normal [(2, v2), (3, v3), (4, t4_1), (5, t5_2)] M2⟩⟩
theorem e54_1 (P : Program) (Q : Exit → Slots → Mem → Prop) (s : Slots) (M : Mem) : wpC P c54_1 Q s M = w54_1 P Q M (sget s 0) (sget s 1) (sget s 2) (sget s 3) := by kernel_rfl
def o54_2 : List AOper := [⟨some 27, (.fieldAddr 1 (.tmp 5)), false, none⟩,
  ⟨some 28, (.load 1 false (.tmp 27)), false, none⟩,
  ⟨some 29, (.fieldAddr 1 (.tmp 4)), false, none⟩,
  ⟨some 30, (.load 1 false (.tmp 29)), false, none⟩,
  ⟨some 31, (.bin .sub .none (.tmp 28) (.tmp 30)), false, none⟩,
  ⟨some 32, (.minmax true (.const (.int .i64 0)) (.tmp 31)), false, none⟩,
  ⟨some 8, (.mov (.tmp 32)), false, none⟩]
def c54_3 : ACode := (.region o54_2 [8])
def w54_3 (_P : Program) (Q : Exit → Slots → Mem → Prop) (M : Mem) (v4 : V) (v5 : V) : Prop :=
  @OptVH (moveV 1 v5) ⟨fun t27_1 =>
  @OptVH (loadV 1 false t27_1 M) ⟨fun t28_2 =>
  @OptVH (moveV 1 v4) ⟨fun t29_3 =>
  @OptVH (loadV 1 false t29_3 M) ⟨fun t30_4 =>
  @OptVH (binV .sub .none t28_2 t30_4) ⟨fun t31_5 =>
  @OptVH (minmaxV true (.int .i64 0) t31_5) ⟨fun t32_6 =>
  Q .normal [(8, t32_6)] M⟩⟩⟩⟩⟩⟩
theorem e54_3 (P : Program) (Q : Exit → Slots → Mem → Prop) (s : Slots) (M : Mem) : wpC P c54_3 Q s M = w54_3 P Q M (sget s 4) (sget s 5) := by kernel_rfl
def c54_4 : ACode := (.seq c54_3 .ret)
def o54_5 : List AOper := [⟨some 9, (.mov (.tmp 3)), false, none⟩,
  ⟨some 10, (.bin .gtr .none (.tmp 9) (.const (.int .i64 0))), true, none⟩,
  ⟨some 11, (.mov (.tmp 10)), true, none⟩,
  ⟨some 12, (.mov (.tmp 2)), false, some (11, true)⟩,
  ⟨some 13, (.mov (.tmp 3)), false, some (11, true)⟩,
  ⟨some 14, (.bin .sub .none (.tmp 13) (.const (.int .i64 1))), false, some (11, true)⟩,
  ⟨some 15, (.indexSl 4 (.tmp 12) (.tmp 14)), false, some (11, true)⟩,
  ⟨some 16, (.fieldAddr 1 (.tmp 15)), false, some (11, true)⟩,
  ⟨some 17, (.load 1 false (.tmp 16)), false, some (11, true)⟩,
  ⟨some 18, (.mov (.tmp 2)), false, some (11, true)⟩,
  ⟨some 19, (.mov (.tmp 3)), false, some (11, true)⟩,
  ⟨some 20, (.indexSl 4 (.tmp 18) (.tmp 19)), false, some (11, true)⟩,
  ⟨some 21, (.fieldAddr 0 (.tmp 20)), false, some (11, true)⟩,
  ⟨some 22, (.load 1 false (.tmp 21)), false, some (11, true)⟩,
  ⟨some 23, (.fieldAddr 2 (.tmp 4)), false, some (11, true)⟩,
  ⟨some 24, (.load 1 false (.tmp 23)), false, some (11, true)⟩,
  ⟨some 25, (.call i_fare_within [(.tmp 17), (.tmp 22), (.tmp 24)]), true, some (11, true)⟩,
  ⟨some 26, (.pick (.tmp 11) (.tmp 25) (.const (.bool false))), true, none⟩]
def c54_6 : ACode := (.seq (.mixed o54_5 [true, true, true, true, true, true, true, true, true, true, true, true, true, true, true, true, false, true] [4, 5, 26]) (.cond (.tmp 26) c54_4 .skip))
def w54_6 (P : Program) (Q : Exit → Slots → Mem → Prop) (M : Mem) (v2 : V) (v3 : V) (v4 : V) (v5 : V) : Prop :=
  @OptBH (binV .gtr .none v3 (.int .i64 0)) ⟨fun b10_2 =>
  @BIfH b10_2
  ⟨@OptVH (binV .sub .none v3 (.int .i64 1)) ⟨fun t14_6 =>
  @OptVH (indexSlV 4 v2 t14_6 M) ⟨fun t15_7 =>
  @OptVH (moveV 1 t15_7) ⟨fun t16_8 =>
  @OptVH (loadV 1 false t16_8 M) ⟨fun t17_9 =>
  @OptVH (indexSlV 4 v2 v3 M) ⟨fun t20_12 =>
  @OptVH (moveV 0 t20_12) ⟨fun t21_13 =>
  @OptVH (loadV 1 false t21_13 M) ⟨fun t22_14 =>
  @OptVH (moveV 2 v4) ⟨fun t23_15 =>
  @OptVH (loadV 1 false t23_15 M) ⟨fun t24_16 =>
  @CallH P i_fare_within [t17_9, t22_14, t24_16] M ⟨fun t25_17 M17 => @OptBH (some t25_17) ⟨fun b25_17 =>
  @BIfH b25_17
  ⟨wpC P c54_4 Q [(4, v4), (5, v5), (26, (.bool b25_17))] M17⟩
  ⟨Q .normal [(4, v4), (5, v5), (26, (.bool b25_17))] M17⟩⟩⟩⟩⟩⟩⟩⟩⟩⟩⟩⟩⟩
  ⟨Q .normal [(4, v4), (5, v5), (26, (.bool false))] M⟩⟩
theorem e54_6 (P : Program) (Q : Exit → Slots → Mem → Prop) (s : Slots) (M : Mem) : wpC P c54_6 Q s M = w54_6 P Q M (sget s 2) (sget s 3) (sget s 4) (sget s 5) := by kernel_rfl
def o54_7 : List AOper := [⟨some 33, (.fieldAddr 1 (.tmp 5)), false, none⟩,
  ⟨some 34, (.load 1 false (.tmp 33)), false, none⟩,
  ⟨some 8, (.mov (.tmp 34)), false, none⟩]
def c54_8 : ACode := (.region o54_7 [8])
def w54_8 (_P : Program) (Q : Exit → Slots → Mem → Prop) (M : Mem) (v5 : V) : Prop :=
  @OptVH (moveV 1 v5) ⟨fun t33_1 =>
  @OptVH (loadV 1 false t33_1 M) ⟨fun t34_2 =>
  Q .normal [(8, t34_2)] M⟩⟩
theorem e54_8 (P : Program) (Q : Exit → Slots → Mem → Prop) (s : Slots) (M : Mem) : wpC P c54_8 Q s M = w54_8 P Q M (sget s 5) := by kernel_rfl
def c54_9 : ACode := (.seq c54_8 .ret)
def c54_10 : ACode := (.seq c54_6 c54_9)
def c54_11 : ACode := (.seq c54_1 c54_10)
def fn_fare_ticketPrice : AFn := ⟨35, [(.tmp 8)], c54_11⟩
theorem fn_fare_ticketPrice_ok : resFn PR h_fare_ticketPrice i_fare_ticketPrice = some fn_fare_ticketPrice := by kernel_rfl

def h_fare_rest_better : Hints := ⟨[(0, [1, 2, 3]), (1, [6])], [], []⟩
def o55_0 : List AOper := [⟨some 3, (.box 7 (.tmp 0)), false, none⟩,
  ⟨some 6, (.mov (.const (.bool false))), true, none⟩]
def c55_1 : ACode := (.region o55_0 [1, 2, 3])
def w55_1 (_P : Program) (Q : Exit → Slots → Mem → Prop) (M : Mem) (v0 : V) (v1 : V) (v2 : V) : Prop :=
  @OptMH (boxV 7 v0 M) ⟨fun t3_1 M1 =>
  Q .normal [(1, v1), (2, v2), (3, t3_1)] M1⟩
theorem e55_1 (P : Program) (Q : Exit → Slots → Mem → Prop) (s : Slots) (M : Mem) : wpC P c55_1 Q s M = w55_1 P Q M (sget s 0) (sget s 1) (sget s 2) := by kernel_rfl
def o55_2 : List AOper := [⟨some 7, (.fieldAddr 0 (.tmp 3)), false, none⟩,
  ⟨some 8, (.load 1 false (.tmp 7)), true, none⟩,
  ⟨some 9, (.un .not (.tmp 8)), true, none⟩,
  ⟨some 10, (.mov (.tmp 9)), true, none⟩,
  ⟨some 11, (.mov (.tmp 1)), false, some (10, false)⟩,
  ⟨some 12, (.fieldAddr 1 (.tmp 3)), false, some (10, false)⟩,
  ⟨some 13, (.load 1 false (.tmp 12)), false, some (10, false)⟩,
  ⟨some 14, (.bin .lss .none (.tmp 11) (.tmp 13)), true, some (10, false)⟩,
  ⟨some 15, (.pick (.tmp 10) (.const (.bool true)) (.tmp 14)), true, none⟩,
  ⟨some 16, (.mov (.tmp 15)), true, none⟩,
  ⟨some 17, (.mov (.tmp 1)), false, some (16, false)⟩,
  ⟨some 18, (.fieldAddr 1 (.tmp 3)), false, some (16, false)⟩,
  ⟨some 19, (.load 1 false (.tmp 18)), false, some (16, false)⟩,
  ⟨some 20, (.bin .eql .none (.tmp 17) (.tmp 19)), true, some (16, false)⟩,
  ⟨some 21, (.mov (.tmp 20)), true, some (16, false)⟩,
  ⟨some 22, (.mov (.tmp 2)), false, some (21, true)⟩,
  ⟨some 23, (.fieldAddr 2 (.tmp 3)), false, some (21, true)⟩,
  ⟨some 24, (.load 1 false (.tmp 23)), false, some (21, true)⟩,
  ⟨some 25, (.bin .lss .none (.tmp 22) (.tmp 24)), true, some (21, true)⟩,
  ⟨some 26, (.pick (.tmp 21) (.tmp 25) (.const (.bool false))), true, some (16, false)⟩,
  ⟨some 27, (.pick (.tmp 16) (.const (.bool true)) (.tmp 26)), true, none⟩,
  ⟨some 6, (.mov (.tmp 27)), true, none⟩]
def c55_3 : ACode := (.region o55_2 [6])
def w55_3 (_P : Program) (Q : Exit → Slots → Mem → Prop) (M : Mem) (v1 : V) (v2 : V) (v3 : V) : Prop :=
  @OptVH (moveV 0 v3) ⟨fun t7_1 =>
  @OptBH (loadV 1 false t7_1 M) ⟨fun b8_2 =>
  @OptBH (unV .not (.bool b8_2)) ⟨fun b9_3 =>
  @BIfH b9_3
  ⟨Q .normal [(6, (.bool true))] M⟩
  ⟨@OptVH (moveV 1 v3) ⟨fun t12_10 =>
  @OptVH (loadV 1 false t12_10 M) ⟨fun t13_11 =>
  @OptBH (binV .lss .none v1 t13_11) ⟨fun b14_12 =>
  @BIfH b14_12
  ⟨Q .normal [(6, (.bool true))] M⟩
  ⟨@OptVH (moveV 1 v3) ⟨fun t18_18 =>
  @OptVH (loadV 1 false t18_18 M) ⟨fun t19_19 =>
  @OptBH (binV .eql .none v1 t19_19) ⟨fun b20_20 =>
  @BIfH b20_20
  ⟨@OptVH (moveV 2 v3) ⟨fun t23_23 =>
  @OptVH (loadV 1 false t23_23 M) ⟨fun t24_24 =>
  @OptBH (binV .lss .none v2 t24_24) ⟨fun b25_25 =>
  Q .normal [(6, (.bool b25_25))] M⟩⟩⟩⟩
  ⟨Q .normal [(6, (.bool false))] M⟩⟩⟩⟩⟩⟩⟩⟩⟩⟩⟩⟩
theorem e55_3 (P : Program) (Q : Exit → Slots → Mem → Prop) (s : Slots) (M : Mem) : wpC P c55_3 Q s M = w55_3 P Q M (sget s 1) (sget s 2) (sget s 3) := by kernel_rfl
def c55_4 : ACode := (.seq c55_3 .ret)
def c55_5 : ACode := (.seq c55_1 c55_4)
def fn_fare_rest_better : AFn := ⟨28, [(.tmp 6)], c55_5⟩
theorem fn_fare_rest_better_ok : resFn PR h_fare_rest_better i_fare_rest_better = some fn_fare_rest_better := by kernel_rfl

def h_transitref26_in : Hints := ⟨[(0, [0, 1, 2]), (1, [6])], [], []⟩
def o56_0 : List AOper := [⟨some 6, (.mov (.const (.bool false))), true, none⟩]
def c56_1 : ACode := (.region o56_0 [0, 1, 2])
def w56_1 (_P : Program) (Q : Exit → Slots → Mem → Prop) (M : Mem) (v0 : V) (v1 : V) (v2 : V) : Prop :=
  Q .normal [(0, v0), (1, v1), (2, v2)] M
theorem e56_1 (P : Program) (Q : Exit → Slots → Mem → Prop) (s : Slots) (M : Mem) : wpC P c56_1 Q s M = w56_1 P Q M (sget s 0) (sget s 1) (sget s 2) := by kernel_rfl
def o56_2 : List AOper := [⟨some 7, (.mov (.tmp 0)), false, none⟩,
  ⟨some 8, (.mov (.tmp 1)), false, none⟩,
  ⟨some 9, (.bin .geq .none (.tmp 7) (.tmp 8)), true, none⟩,
  ⟨some 10, (.mov (.tmp 9)), true, none⟩,
  ⟨some 11, (.mov (.tmp 0)), false, some (10, true)⟩,
  ⟨some 12, (.mov (.tmp 2)), false, some (10, true)⟩,
  ⟨some 13, (.bin .leq .none (.tmp 11) (.tmp 12)), true, some (10, true)⟩,
  ⟨some 14, (.pick (.tmp 10) (.tmp 13) (.const (.bool false))), true, none⟩,
  ⟨some 6, (.mov (.tmp 14)), true, none⟩]
def c56_3 : ACode := (.region o56_2 [6])
def w56_3 (_P : Program) (Q : Exit → Slots → Mem → Prop) (M : Mem) (v0 : V) (v1 : V) (v2 : V) : Prop :=
  @OptBH (binV .geq .none v0 v1) ⟨fun b9_3 =>
  @BIfH b9_3
  ⟨@OptBH (binV .leq .none v0 v2) ⟨fun b13_7 =>
  Q .normal [(6, (.bool b13_7))] M⟩⟩
  ⟨Q .normal [(6, (.bool false))] M⟩⟩
theorem e56_3 (P : Program) (Q : Exit → Slots → Mem → Prop) (s : Slots) (M : Mem) : wpC P c56_3 Q s M = w56_3 P Q M (sget s 0) (sget s 1) (sget s 2) := by kernel_rfl
def c56_4 : ACode := (.seq c56_3 .ret)
def c56_5 : ACode := (.seq c56_1 c56_4)
def fn_transitref26_in : AFn := ⟨15, [(.tmp 6)], c56_5⟩
theorem fn_transitref26_in_ok : resFn PR h_transitref26_in i_transitref26_in = some fn_transitref26_in := by kernel_rfl

def h_transitref26_ValidID : Hints := ⟨[(0, [0]), (1, [0, 13]), (2, [2]), (3, [0, 3]), (4, [0, 3, 17]), (5, [0, 3]), (6, [0, 3, 4]), (7, [0, 3, 4, 5]), (8, [0, 3, 58]), (9, [2]), (10, [2])], [(4, [0, 3])], []⟩
def o57_0 : List AOper := [⟨some 2, (.mov (.const (.bool false))), true, none⟩]
def c57_1 : ACode := (.region o57_0 [0])
def w57_1 (_P : Program) (Q : Exit → Slots → Mem → Prop) (M : Mem) (v0 : V) : Prop :=
  Q .normal [(0, v0)] M
theorem e57_1 (P : Program) (Q : Exit → Slots → Mem → Prop) (s : Slots) (M : Mem) : wpC P c57_1 Q s M = w57_1 P Q M (sget s 0) := by kernel_rfl
def o57_2 : List AOper := [⟨some 2, (.mov (.const (.bool false))), true, none⟩]
def c57_3 : ACode := (.region o57_2 [2])
def w57_3 (_P : Program) (Q : Exit → Slots → Mem → Prop) (M : Mem) : Prop :=
  Q .normal [(2, (.bool false))] M
theorem e57_3 (P : Program) (Q : Exit → Slots → Mem → Prop) (s : Slots) (M : Mem) : wpC P c57_3 Q s M = w57_3 P Q M := by kernel_rfl
def c57_4 : ACode := (.seq c57_3 .ret)
def o57_5 : List AOper := [⟨some 6, (.mov (.tmp 0)), false, none⟩,
  ⟨some 7, (.lenStr (.tmp 6)), false, none⟩,
  ⟨some 8, (.bin .lss .none (.tmp 7) (.const (.int .i64 1))), true, none⟩,
  ⟨some 9, (.mov (.tmp 8)), true, none⟩,
  ⟨some 10, (.mov (.tmp 0)), false, some (9, false)⟩,
  ⟨some 11, (.lenStr (.tmp 10)), false, some (9, false)⟩,
  ⟨some 12, (.bin .gtr .none (.tmp 11) (.const (.int .i64 32))), true, some (9, false)⟩,
  ⟨some 13, (.pick (.tmp 9) (.const (.bool true)) (.tmp 12)), true, none⟩]
def c57_6 : ACode := (.seq (.region o57_5 [0, 13]) (.cond (.tmp 13) c57_4 .skip))
def w57_6 (P : Program) (Q : Exit → Slots → Mem → Prop) (M : Mem) (v0 : V) : Prop :=
  @OptVH (lenStrV v0) ⟨fun t7_2 =>
  @OptBH (binV .lss .none t7_2 (.int .i64 1)) ⟨fun b8_3 =>
  @BIfH b8_3
  ⟨wpC P c57_4 Q [(0, v0), (13, (.bool true))] M⟩
  ⟨@OptVH (lenStrV v0) ⟨fun t11_7 =>
  @OptBH (binV .gtr .none t11_7 (.int .i64 32)) ⟨fun b12_8 =>
  @BIfH b12_8
  ⟨wpC P c57_4 Q [(0, v0), (13, (.bool b12_8))] M⟩
  ⟨Q .normal [(0, v0), (13, (.bool b12_8))] M⟩⟩⟩⟩⟩⟩
theorem e57_6 (P : Program) (Q : Exit → Slots → Mem → Prop) (s : Slots) (M : Mem) : wpC P c57_6 Q s M = w57_6 P Q M (sget s 0) := by kernel_rfl
def o57_7 : List AOper := [⟨some 3, (.mov (.const (.int .i64 0))), false, none⟩]
def c57_8 : ACode := (.region o57_7 [0, 3])
def w57_8 (_P : Program) (Q : Exit → Slots → Mem → Prop) (M : Mem) (v0 : V) : Prop :=
  Q .normal [(0, v0), (3, (.int .i64 0))] M
theorem e57_8 (P : Program) (Q : Exit → Slots → Mem → Prop) (s : Slots) (M : Mem) : wpC P c57_8 Q s M = w57_8 P Q M (sget s 0) := by kernel_rfl
def o57_9 : List AOper := [⟨some 14, (.mov (.tmp 3)), false, none⟩,
  ⟨some 15, (.mov (.tmp 0)), false, none⟩,
  ⟨some 16, (.lenStr (.tmp 15)), false, none⟩,
  ⟨some 17, (.bin .lss .none (.tmp 14) (.tmp 16)), true, none⟩]
def c57_10 : ACode := (.seq (.region o57_9 [0, 3, 17]) (.cond (.tmp 17) .skip (.exit 0)))
def w57_10 (_P : Program) (Q : Exit → Slots → Mem → Prop) (M : Mem) (v0 : V) (v3 : V) : Prop :=
  @OptVH (lenStrV v0) ⟨fun t16_3 =>
  @OptBH (binV .lss .none v3 t16_3) ⟨fun b17_4 =>
  @BIfH b17_4
  ⟨Q .normal [(0, v0), (3, v3), (17, (.bool b17_4))] M⟩
  ⟨Q (.exit 0) [(0, v0), (3, v3), (17, (.bool b17_4))] M⟩⟩⟩
theorem e57_10 (P : Program) (Q : Exit → Slots → Mem → Prop) (s : Slots) (M : Mem) : wpC P c57_10 Q s M = w57_10 P Q M (sget s 0) (sget s 3) := by kernel_rfl
def o57_11 : List AOper := [⟨some 20, (.mov (.tmp 0)), false, none⟩,
  ⟨some 21, (.mov (.tmp 3)), false, none⟩,
  ⟨some 22, (.indexStr (.tmp 20) (.tmp 21)), false, none⟩,
  ⟨some 4, (.mov (.tmp 22)), false, none⟩]
def c57_12 : ACode := (.region o57_11 [0, 3, 4])
def w57_12 (_P : Program) (Q : Exit → Slots → Mem → Prop) (M : Mem) (v0 : V) (v3 : V) : Prop :=
  @OptVH (indexStrV v0 v3) ⟨fun t22_3 =>
  Q .normal [(0, v0), (3, v3), (4, t22_3)] M⟩
theorem e57_12 (P : Program) (Q : Exit → Slots → Mem → Prop) (s : Slots) (M : Mem) : wpC P c57_12 Q s M = w57_12 P Q M (sget s 0) (sget s 3) := by kernel_rfl
def o57_13 : List AOper := [⟨some 23, (.mov (.tmp 4)), false, none⟩,
  ⟨some 24, (.bin .geq .none (.tmp 23) (.const (.int .u8 97))), true, none⟩,
  ⟨some 25, (.mov (.tmp 24)), true, none⟩,
  ⟨some 26, (.mov (.tmp 4)), false, some (25, true)⟩,
  ⟨some 27, (.bin .leq .none (.tmp 26) (.const (.int .u8 122))), true, some (25, true)⟩,
  ⟨some 28, (.pick (.tmp 25) (.tmp 27) (.const (.bool false))), true, none⟩,
  ⟨some 29, (.mov (.tmp 28)), true, none⟩,
  ⟨some 30, (.mov (.tmp 4)), false, some (29, false)⟩,
  ⟨some 31, (.bin .geq .none (.tmp 30) (.const (.int .u8 65))), true, some (29, false)⟩,
  ⟨some 32, (.mov (.tmp 31)), true, some (29, false)⟩,
  ⟨some 33, (.mov (.tmp 4)), false, some (32, true)⟩,
  ⟨some 34, (.bin .leq .none (.tmp 33) (.const (.int .u8 90))), true, some (32, true)⟩,
  ⟨some 35, (.pick (.tmp 32) (.tmp 34) (.const (.bool false))), true, some (29, false)⟩,
  ⟨some 36, (.pick (.tmp 29) (.const (.bool true)) (.tmp 35)), true, none⟩,
  ⟨some 37, (.mov (.tmp 36)), true, none⟩,
  ⟨some 38, (.mov (.tmp 4)), false, some (37, false)⟩,
  ⟨some 39, (.bin .geq .none (.tmp 38) (.const (.int .u8 48))), true, some (37, false)⟩,
  ⟨some 40, (.mov (.tmp 39)), true, some (37, false)⟩,
  ⟨some 41, (.mov (.tmp 4)), false, some (40, true)⟩,
  ⟨some 42, (.bin .leq .none (.tmp 41) (.const (.int .u8 57))), true, some (40, true)⟩,
  ⟨some 43, (.pick (.tmp 40) (.tmp 42) (.const (.bool false))), true, some (37, false)⟩,
  ⟨some 44, (.pick (.tmp 37) (.const (.bool true)) (.tmp 43)), true, none⟩,
  ⟨some 5, (.mov (.tmp 44)), true, none⟩]
def c57_14 : ACode := (.region o57_13 [0, 3, 4, 5])
def w57_14 (_P : Program) (Q : Exit → Slots → Mem → Prop) (M : Mem) (v0 : V) (v3 : V) (v4 : V) : Prop :=
  @OptBH (binV .geq .none v4 (.int .u8 97)) ⟨fun b24_2 =>
  @BIfH b24_2
  ⟨@OptBH (binV .leq .none v4 (.int .u8 122)) ⟨fun b27_5 =>
  @BIfH b27_5
  ⟨Q .normal [(0, v0), (3, v3), (4, v4), (5, (.bool true))] M⟩
  ⟨@OptBH (binV .geq .none v4 (.int .u8 65)) ⟨fun b31_13 =>
  @BIfH b31_13
  ⟨@OptBH (binV .leq .none v4 (.int .u8 90)) ⟨fun b34_16 =>
  @BIfH b34_16
  ⟨Q .normal [(0, v0), (3, v3), (4, v4), (5, (.bool true))] M⟩
  ⟨@OptBH (binV .geq .none v4 (.int .u8 48)) ⟨fun b39_23 =>
  @BIfH b39_23
  ⟨@OptBH (binV .leq .none v4 (.int .u8 57)) ⟨fun b42_26 =>
  Q .normal [(0, v0), (3, v3), (4, v4), (5, (.bool b42_26))] M⟩⟩
  ⟨Q .normal [(0, v0), (3, v3), (4, v4), (5, (.bool false))] M⟩⟩⟩⟩⟩
  ⟨@OptBH (binV .geq .none v4 (.int .u8 48)) ⟨fun b39_37 =>
  @BIfH b39_37
  ⟨@OptBH (binV .leq .none v4 (.int .u8 57)) ⟨fun b42_40 =>
  Q .normal [(0, v0), (3, v3), (4, v4), (5, (.bool b42_40))] M⟩⟩
  ⟨Q .normal [(0, v0), (3, v3), (4, v4), (5, (.bool false))] M⟩⟩⟩⟩⟩⟩⟩
  ⟨@OptBH (binV .geq .none v4 (.int .u8 65)) ⟨fun b31_50 =>
  @BIfH b31_50
  ⟨@OptBH (binV .leq .none v4 (.int .u8 90)) ⟨fun b34_53 =>
  @BIfH b34_53
  ⟨Q .normal [(0, v0), (3, v3), (4, v4), (5, (.bool true))] M⟩
  ⟨@OptBH (binV .geq .none v4 (.int .u8 48)) ⟨fun b39_60 =>
  @BIfH b39_60
  ⟨@OptBH (binV .leq .none v4 (.int .u8 57)) ⟨fun b42_63 =>
  Q .normal [(0, v0), (3, v3), (4, v4), (5, (.bool b42_63))] M⟩⟩
  ⟨Q .normal [(0, v0), (3, v3), (4, v4), (5, (.bool false))] M⟩⟩⟩⟩⟩
  ⟨@OptBH (binV .geq .none v4 (.int .u8 48)) ⟨fun b39_74 =>
  @BIfH b39_74
  ⟨@OptBH (binV .leq .none v4 (.int .u8 57)) ⟨fun b42_77 =>
  Q .normal [(0, v0), (3, v3), (4, v4), (5, (.bool b42_77))] M⟩⟩
  ⟨Q .normal [(0, v0), (3, v3), (4, v4), (5, (.bool false))] M⟩⟩⟩⟩⟩⟩
theorem e57_14 (P : Program) (Q : Exit → Slots → Mem → Prop) (s : Slots) (M : Mem) : wpC P c57_14 Q s M = w57_14 P Q M (sget s 0) (sget s 3) (sget s 4) := by kernel_rfl
def o57_15 : List AOper := [⟨some 2, (.mov (.const (.bool false))), true, none⟩]
def c57_16 : ACode := (.region o57_15 [2])
def w57_16 (_P : Program) (Q : Exit → Slots → Mem → Prop) (M : Mem) : Prop :=
  Q .normal [(2, (.bool false))] M
theorem e57_16 (P : Program) (Q : Exit → Slots → Mem → Prop) (s : Slots) (M : Mem) : wpC P c57_16 Q s M = w57_16 P Q M := by kernel_rfl
def c57_17 : ACode := (.seq c57_16 .ret)
def o57_18 : List AOper := [⟨some 45, (.mov (.tmp 5)), true, none⟩,
  ⟨some 46, (.un .not (.tmp 45)), true, none⟩,
  ⟨some 47, (.mov (.tmp 46)), true, none⟩,
  ⟨some 48, (.mov (.tmp 4)), false, some (47, true)⟩,
  ⟨some 49, (.bin .neq .none (.tmp 48) (.const (.int .u8 45))), true, some (47, true)⟩,
  ⟨some 50, (.pick (.tmp 47) (.tmp 49) (.const (.bool false))), true, none⟩,
  ⟨some 51, (.mov (.tmp 50)), true, none⟩,
  ⟨some 52, (.mov (.tmp 4)), false, some (51, true)⟩,
  ⟨some 53, (.bin .neq .none (.tmp 52) (.const (.int .u8 95))), true, some (51, true)⟩,
  ⟨some 54, (.pick (.tmp 51) (.tmp 53) (.const (.bool false))), true, none⟩,
  ⟨some 55, (.mov (.tmp 54)), true, none⟩,
  ⟨some 56, (.mov (.tmp 4)), false, some (55, true)⟩,
  ⟨some 57, (.bin .neq .none (.tmp 56) (.const (.int .u8 46))), true, some (55, true)⟩,
  ⟨some 58, (.pick (.tmp 55) (.tmp 57) (.const (.bool false))), true, none⟩]
def c57_19 : ACode := (.seq (.region o57_18 [0, 3, 58]) (.cond (.tmp 58) c57_17 .skip))
def w57_19 (P : Program) (Q : Exit → Slots → Mem → Prop) (M : Mem) (v0 : V) (v3 : V) (v4 : V) (v5 : V) : Prop :=
  @OptBH (some v5) ⟨fun b45_1 =>
  @OptBH (unV .not (.bool b45_1)) ⟨fun b46_2 =>
  @BIfH b46_2
  ⟨@OptBH (binV .neq .none v4 (.int .u8 45)) ⟨fun b49_5 =>
  @BIfH b49_5
  ⟨@OptBH (binV .neq .none v4 (.int .u8 95)) ⟨fun b53_9 =>
  @BIfH b53_9
  ⟨@OptBH (binV .neq .none v4 (.int .u8 46)) ⟨fun b57_13 =>
  @BIfH b57_13
  ⟨wpC P c57_17 Q [(0, v0), (3, v3), (58, (.bool b57_13))] M⟩
  ⟨Q .normal [(0, v0), (3, v3), (58, (.bool b57_13))] M⟩⟩⟩
  ⟨Q .normal [(0, v0), (3, v3), (58, (.bool false))] M⟩⟩⟩
  ⟨Q .normal [(0, v0), (3, v3), (58, (.bool false))] M⟩⟩⟩
  ⟨Q .normal [(0, v0), (3, v3), (58, (.bool false))] M⟩⟩⟩
theorem e57_19 (P : Program) (Q : Exit → Slots → Mem → Prop) (s : Slots) (M : Mem) : wpC P c57_19 Q s M = w57_19 P Q M (sget s 0) (sget s 3) (sget s 4) (sget s 5) := by kernel_rfl
def c57_20 : ACode := (.seq c57_14 c57_19)
def c57_21 : ACode := (.seq c57_12 c57_20)
def c57_22 : ACode := (.block 1 c57_21)
def o57_23 : List AOper := [⟨some 18, (.mov (.tmp 3)), false, none⟩,
  ⟨some 19, (.bin .add .none (.tmp 18) (.const (.int .i64 1))), false, none⟩,
  ⟨some 3, (.mov (.tmp 19)), false, none⟩]
def c57_24 : ACode := (.region o57_23 [0, 3])
def w57_24 (_P : Program) (Q : Exit → Slots → Mem → Prop) (M : Mem) (v0 : V) (v3 : V) : Prop :=
  @OptVH (binV .add .none v3 (.int .i64 1)) ⟨fun t19_2 =>
  Q .normal [(0, v0), (3, t19_2)] M⟩
theorem e57_24 (P : Program) (Q : Exit → Slots → Mem → Prop) (s : Slots) (M : Mem) : wpC P c57_24 Q s M = w57_24 P Q M (sget s 0) (sget s 3) := by kernel_rfl
def c57_25 : ACode := (.seq c57_22 c57_24)
def c57_26 : ACode := (.seq c57_10 c57_25)
def c57_27 : ACode := (.loop [0, 3] c57_26)
def c57_28 : ACode := (.block 0 c57_27)
def c57_29 : ACode := (.seq c57_8 c57_28)
def o57_30 : List AOper := [⟨some 2, (.mov (.const (.bool true))), true, none⟩]
def c57_31 : ACode := (.region o57_30 [2])
def w57_31 (_P : Program) (Q : Exit → Slots → Mem → Prop) (M : Mem) : Prop :=
  Q .normal [(2, (.bool true))] M
theorem e57_31 (P : Program) (Q : Exit → Slots → Mem → Prop) (s : Slots) (M : Mem) : wpC P c57_31 Q s M = w57_31 P Q M := by kernel_rfl
def c57_32 : ACode := (.seq c57_31 .ret)
def c57_33 : ACode := (.seq c57_29 c57_32)
def c57_34 : ACode := (.seq c57_6 c57_33)
def c57_35 : ACode := (.seq c57_1 c57_34)
def fn_transitref26_ValidID : AFn := ⟨59, [(.tmp 2)], c57_35⟩
theorem fn_transitref26_ValidID_ok : resFn PR h_transitref26_ValidID i_transitref26_ValidID = some fn_transitref26_ValidID := by kernel_rfl

def h_transitref35_bits : Hints := ⟨[(0, [0]), (1, [0, 3]), (2, [0, 3, 4]), (3, [0, 3, 4, 6]), (4, [0, 3, 4]), (5, [0, 3, 4, 14]), (6, [0, 3, 4]), (7, [2])], [(3, [0, 3, 4])], []⟩
def o58_0 : List AOper := [⟨some 2, (.mov (.const (.int .i64 0))), false, none⟩]
def c58_1 : ACode := (.region o58_0 [0])
def w58_1 (_P : Program) (Q : Exit → Slots → Mem → Prop) (M : Mem) (v0 : V) : Prop :=
  Q .normal [(0, v0)] M
theorem e58_1 (P : Program) (Q : Exit → Slots → Mem → Prop) (s : Slots) (M : Mem) : wpC P c58_1 Q s M = w58_1 P Q M (sget s 0) := by kernel_rfl
def o58_2 : List AOper := [⟨some 3, (.mov (.const (.int .i64 0))), false, none⟩]
def c58_3 : ACode := (.region o58_2 [0, 3])
def w58_3 (_P : Program) (Q : Exit → Slots → Mem → Prop) (M : Mem) (v0 : V) : Prop :=
  Q .normal [(0, v0), (3, (.int .i64 0))] M
theorem e58_3 (P : Program) (Q : Exit → Slots → Mem → Prop) (s : Slots) (M : Mem) : wpC P c58_3 Q s M = w58_3 P Q M (sget s 0) := by kernel_rfl
def o58_4 : List AOper := [⟨some 4, (.mov (.const (.int .i64 0))), false, none⟩]
def c58_5 : ACode := (.region o58_4 [0, 3, 4])
def w58_5 (_P : Program) (Q : Exit → Slots → Mem → Prop) (M : Mem) (v0 : V) (v3 : V) : Prop :=
  Q .normal [(0, v0), (3, v3), (4, (.int .i64 0))] M
theorem e58_5 (P : Program) (Q : Exit → Slots → Mem → Prop) (s : Slots) (M : Mem) : wpC P c58_5 Q s M = w58_5 P Q M (sget s 0) (sget s 3) := by kernel_rfl
def o58_6 : List AOper := [⟨some 5, (.mov (.tmp 4)), false, none⟩,
  ⟨some 6, (.bin .lss .none (.tmp 5) (.const (.int .i64 64))), true, none⟩]
def c58_7 : ACode := (.seq (.region o58_6 [0, 3, 4, 6]) (.cond (.tmp 6) .skip (.exit 0)))
def w58_7 (_P : Program) (Q : Exit → Slots → Mem → Prop) (M : Mem) (v0 : V) (v3 : V) (v4 : V) : Prop :=
  @OptBH (binV .lss .none v4 (.int .i64 64)) ⟨fun b6_2 =>
  @BIfH b6_2
  ⟨Q .normal [(0, v0), (3, v3), (4, v4), (6, (.bool b6_2))] M⟩
  ⟨Q (.exit 0) [(0, v0), (3, v3), (4, v4), (6, (.bool b6_2))] M⟩⟩
theorem e58_7 (P : Program) (Q : Exit → Slots → Mem → Prop) (s : Slots) (M : Mem) : wpC P c58_7 Q s M = w58_7 P Q M (sget s 0) (sget s 3) (sget s 4) := by kernel_rfl
def o58_8 : List AOper := [⟨some 15, (.mov (.tmp 3)), false, none⟩,
  ⟨some 16, (.bin .add .none (.tmp 15) (.const (.int .i64 1))), false, none⟩,
  ⟨some 3, (.mov (.tmp 16)), false, none⟩]
def c58_9 : ACode := (.region o58_8 [0, 3, 4])
def w58_9 (_P : Program) (Q : Exit → Slots → Mem → Prop) (M : Mem) (v0 : V) (v3 : V) (v4 : V) : Prop :=
  @OptVH (binV .add .none v3 (.int .i64 1)) ⟨fun t16_2 =>
  Q .normal [(0, v0), (3, t16_2), (4, v4)] M⟩
theorem e58_9 (P : Program) (Q : Exit → Slots → Mem → Prop) (s : Slots) (M : Mem) : wpC P c58_9 Q s M = w58_9 P Q M (sget s 0) (sget s 3) (sget s 4) := by kernel_rfl
def o58_10 : List AOper := [⟨some 9, (.mov (.tmp 0)), false, none⟩,
  ⟨some 10, (.conv .u64 (.tmp 9)), false, none⟩,
  ⟨some 11, (.mov (.tmp 4)), false, none⟩,
  ⟨some 12, (.bin .shr .none (.tmp 10) (.tmp 11)), false, none⟩,
  ⟨some 13, (.bin .and .none (.tmp 12) (.const (.int .u64 1))), false, none⟩,
  ⟨some 14, (.bin .eql .none (.tmp 13) (.const (.int .u64 1))), true, none⟩]
def c58_11 : ACode := (.seq (.region o58_10 [0, 3, 4, 14]) (.cond (.tmp 14) c58_9 .skip))
def w58_11 (P : Program) (Q : Exit → Slots → Mem → Prop) (M : Mem) (v0 : V) (v3 : V) (v4 : V) : Prop :=
  @OptVH (convV .u64 v0) ⟨fun t10_2 =>
  @OptVH (binV .shr .none t10_2 v4) ⟨fun t12_4 =>
  @OptVH (binV .and .none t12_4 (.int .u64 1)) ⟨fun t13_5 =>
  @OptBH (binV .eql .none t13_5 (.int .u64 1)) ⟨fun b14_6 =>
  @BIfH b14_6
  ⟨wpC P c58_9 Q [(0, v0), (3, v3), (4, v4), (14, (.bool b14_6))] M⟩
  ⟨Q .normal [(0, v0), (3, v3), (4, v4), (14, (.bool b14_6))] M⟩⟩⟩⟩⟩
theorem e58_11 (P : Program) (Q : Exit → Slots → Mem → Prop) (s : Slots) (M : Mem) : wpC P c58_11 Q s M = w58_11 P Q M (sget s 0) (sget s 3) (sget s 4) := by kernel_rfl
def c58_12 : ACode := (.block 1 c58_11)
def o58_13 : List AOper := [⟨some 7, (.mov (.tmp 4)), false, none⟩,
  ⟨some 8, (.bin .add .none (.tmp 7) (.const (.int .i64 1))), false, none⟩,
  ⟨some 4, (.mov (.tmp 8)), false, none⟩]
def c58_14 : ACode := (.region o58_13 [0, 3, 4])
def w58_14 (_P : Program) (Q : Exit → Slots → Mem → Prop) (M : Mem) (v0 : V) (v3 : V) (v4 : V) : Prop :=
  @OptVH (binV .add .none v4 (.int .i64 1)) ⟨fun t8_2 =>
  Q .normal [(0, v0), (3, v3), (4, t8_2)] M⟩
theorem e58_14 (P : Program) (Q : Exit → Slots → Mem → Prop) (s : Slots) (M : Mem) : wpC P c58_14 Q s M = w58_14 P Q M (sget s 0) (sget s 3) (sget s 4) := by kernel_rfl
def c58_15 : ACode := (.seq c58_12 c58_14)
def c58_16 : ACode := (.seq c58_7 c58_15)
def c58_17 : ACode := (.loop [0, 3, 4] c58_16)
def c58_18 : ACode := (.block 0 c58_17)
def c58_19 : ACode := (.seq c58_5 c58_18)
def o58_20 : List AOper := [⟨some 17, (.mov (.tmp 3)), false, none⟩,
  ⟨some 2, (.mov (.tmp 17)), false, none⟩]
def c58_21 : ACode := (.region o58_20 [2])
def w58_21 (_P : Program) (Q : Exit → Slots → Mem → Prop) (M : Mem) (v3 : V) : Prop :=
  Q .normal [(2, v3)] M
theorem e58_21 (P : Program) (Q : Exit → Slots → Mem → Prop) (s : Slots) (M : Mem) : wpC P c58_21 Q s M = w58_21 P Q M (sget s 3) := by kernel_rfl
def c58_22 : ACode := (.seq c58_21 .ret)
def c58_23 : ACode := (.seq c58_19 c58_22)
def c58_24 : ACode := (.seq c58_3 c58_23)
def c58_25 : ACode := (.seq c58_1 c58_24)
def fn_transitref35_bits : AFn := ⟨18, [(.tmp 2)], c58_25⟩
theorem fn_transitref35_bits_ok : resFn PR h_transitref35_bits i_transitref35_bits = some fn_transitref35_bits := by kernel_rfl

def h_transitref35_within : Hints := ⟨[(0, [0, 1, 2]), (1, [0, 1, 2, 9]), (2, [6]), (3, [6])], [], []⟩
def o59_0 : List AOper := [⟨some 6, (.mov (.const (.bool false))), true, none⟩]
def c59_1 : ACode := (.region o59_0 [0, 1, 2])
def w59_1 (_P : Program) (Q : Exit → Slots → Mem → Prop) (M : Mem) (v0 : V) (v1 : V) (v2 : V) : Prop :=
  Q .normal [(0, v0), (1, v1), (2, v2)] M
theorem e59_1 (P : Program) (Q : Exit → Slots → Mem → Prop) (s : Slots) (M : Mem) : wpC P c59_1 Q s M = w59_1 P Q M (sget s 0) (sget s 1) (sget s 2) := by kernel_rfl
def o59_2 : List AOper := [⟨some 6, (.mov (.const (.bool true))), true, none⟩]
def c59_3 : ACode := (.region o59_2 [6])
def w59_3 (_P : Program) (Q : Exit → Slots → Mem → Prop) (M : Mem) : Prop :=
  Q .normal [(6, (.bool true))] M
theorem e59_3 (P : Program) (Q : Exit → Slots → Mem → Prop) (s : Slots) (M : Mem) : wpC P c59_3 Q s M = w59_3 P Q M := by kernel_rfl
def c59_4 : ACode := (.seq c59_3 .ret)
def o59_5 : List AOper := [⟨some 7, (.mov (.tmp 1)), false, none⟩,
  ⟨some 8, (.mov (.tmp 0)), false, none⟩,
  ⟨some 9, (.bin .leq .none (.tmp 7) (.tmp 8)), true, none⟩]
def c59_6 : ACode := (.seq (.region o59_5 [0, 1, 2, 9]) (.cond (.tmp 9) c59_4 .skip))
def w59_6 (P : Program) (Q : Exit → Slots → Mem → Prop) (M : Mem) (v0 : V) (v1 : V) (v2 : V) : Prop :=
  @OptBH (binV .leq .none v1 v0) ⟨fun b9_3 =>
  @BIfH b9_3
  ⟨wpC P c59_4 Q [(0, v0), (1, v1), (2, v2), (9, (.bool b9_3))] M⟩
  ⟨Q .normal [(0, v0), (1, v1), (2, v2), (9, (.bool b9_3))] M⟩⟩
theorem e59_6 (P : Program) (Q : Exit → Slots → Mem → Prop) (s : Slots) (M : Mem) : wpC P c59_6 Q s M = w59_6 P Q M (sget s 0) (sget s 1) (sget s 2) := by kernel_rfl
def o59_7 : List AOper := [⟨some 10, (.mov (.tmp 1)), false, none⟩,
  ⟨some 11, (.conv .u64 (.tmp 10)), false, none⟩,
  ⟨some 12, (.mov (.tmp 0)), false, none⟩,
  ⟨some 13, (.conv .u64 (.tmp 12)), false, none⟩,
  ⟨some 14, (.bin .sub .none (.tmp 11) (.tmp 13)), false, none⟩,
  ⟨some 15, (.mov (.tmp 2)), false, none⟩,
  ⟨some 16, (.conv .u64 (.tmp 15)), false, none⟩,
  ⟨some 17, (.bin .leq .none (.tmp 14) (.tmp 16)), true, none⟩,
  ⟨some 6, (.mov (.tmp 17)), true, none⟩]
def c59_8 : ACode := (.region o59_7 [6])
def w59_8 (_P : Program) (Q : Exit → Slots → Mem → Prop) (M : Mem) (v0 : V) (v1 : V) (v2 : V) : Prop :=
  @OptVH (convV .u64 v1) ⟨fun t11_2 =>
  @OptVH (convV .u64 v0) ⟨fun t13_4 =>
  @OptVH (binV .sub .none t11_2 t13_4) ⟨fun t14_5 =>
  @OptVH (convV .u64 v2) ⟨fun t16_7 =>
  @OptBH (binV .leq .none t14_5 t16_7) ⟨fun b17_8 =>
  Q .normal [(6, (.bool b17_8))] M⟩⟩⟩⟩⟩
theorem e59_8 (P : Program) (Q : Exit → Slots → Mem → Prop) (s : Slots) (M : Mem) : wpC P c59_8 Q s M = w59_8 P Q M (sget s 0) (sget s 1) (sget s 2) := by kernel_rfl
def c59_9 : ACode := (.seq c59_8 .ret)
def c59_10 : ACode := (.seq c59_6 c59_9)
def c59_11 : ACode := (.seq c59_1 c59_10)
def fn_transitref35_within : AFn := ⟨18, [(.tmp 6)], c59_11⟩
theorem fn_transitref35_within_ok : resFn PR h_transitref35_within i_transitref35_within = some fn_transitref35_within := by kernel_rfl

def h_product_within : Hints := ⟨[(0, [0, 1, 2]), (1, [6])], [], []⟩
def o71_0 : List AOper := [⟨some 6, (.mov (.const (.bool false))), true, none⟩]
def c71_1 : ACode := (.region o71_0 [0, 1, 2])
def w71_1 (_P : Program) (Q : Exit → Slots → Mem → Prop) (M : Mem) (v0 : V) (v1 : V) (v2 : V) : Prop :=
  Q .normal [(0, v0), (1, v1), (2, v2)] M
theorem e71_1 (P : Program) (Q : Exit → Slots → Mem → Prop) (s : Slots) (M : Mem) : wpC P c71_1 Q s M = w71_1 P Q M (sget s 0) (sget s 1) (sget s 2) := by kernel_rfl
def o71_2 : List AOper := [⟨some 7, (.mov (.tmp 0)), false, none⟩,
  ⟨some 8, (.mov (.tmp 1)), false, none⟩,
  ⟨some 9, (.bin .geq .none (.tmp 7) (.tmp 8)), true, none⟩,
  ⟨some 10, (.mov (.tmp 9)), true, none⟩,
  ⟨some 11, (.mov (.tmp 0)), false, some (10, true)⟩,
  ⟨some 12, (.mov (.tmp 2)), false, some (10, true)⟩,
  ⟨some 13, (.bin .leq .none (.tmp 11) (.tmp 12)), true, some (10, true)⟩,
  ⟨some 14, (.pick (.tmp 10) (.tmp 13) (.const (.bool false))), true, none⟩,
  ⟨some 6, (.mov (.tmp 14)), true, none⟩]
def c71_3 : ACode := (.region o71_2 [6])
def w71_3 (_P : Program) (Q : Exit → Slots → Mem → Prop) (M : Mem) (v0 : V) (v1 : V) (v2 : V) : Prop :=
  @OptBH (binV .geq .none v0 v1) ⟨fun b9_3 =>
  @BIfH b9_3
  ⟨@OptBH (binV .leq .none v0 v2) ⟨fun b13_7 =>
  Q .normal [(6, (.bool b13_7))] M⟩⟩
  ⟨Q .normal [(6, (.bool false))] M⟩⟩
theorem e71_3 (P : Program) (Q : Exit → Slots → Mem → Prop) (s : Slots) (M : Mem) : wpC P c71_3 Q s M = w71_3 P Q M (sget s 0) (sget s 1) (sget s 2) := by kernel_rfl
def c71_4 : ACode := (.seq c71_3 .ret)
def c71_5 : ACode := (.seq c71_1 c71_4)
def fn_product_within : AFn := ⟨15, [(.tmp 6)], c71_5⟩
theorem fn_product_within_ok : resFn PR h_product_within i_product_within = some fn_product_within := by kernel_rfl

def h_ident_Valid : Hints := ⟨[(0, [0]), (1, [0, 3]), (2, [0, 3, 8]), (3, [0, 3]), (4, [0, 3, 4]), (5, [2]), (6, [0, 3, 4, 14]), (7, [0, 3, 4, 14]), (8, [0, 3, 4, 14]), (9, [0, 3, 4, 33]), (10, [0, 3, 4, 33]), (11, [0, 3, 33]), (12, [2])], [(2, [0, 3])], []⟩
def o72_0 : List AOper := [⟨some 2, (.mov (.const (.bool false))), true, none⟩]
def c72_1 : ACode := (.region o72_0 [0])
def w72_1 (_P : Program) (Q : Exit → Slots → Mem → Prop) (M : Mem) (v0 : V) : Prop :=
  Q .normal [(0, v0)] M
theorem e72_1 (P : Program) (Q : Exit → Slots → Mem → Prop) (s : Slots) (M : Mem) : wpC P c72_1 Q s M = w72_1 P Q M (sget s 0) := by kernel_rfl
def o72_2 : List AOper := [⟨some 3, (.mov (.const (.int .i64 0))), false, none⟩]
def c72_3 : ACode := (.region o72_2 [0, 3])
def w72_3 (_P : Program) (Q : Exit → Slots → Mem → Prop) (M : Mem) (v0 : V) : Prop :=
  Q .normal [(0, v0), (3, (.int .i64 0))] M
theorem e72_3 (P : Program) (Q : Exit → Slots → Mem → Prop) (s : Slots) (M : Mem) : wpC P c72_3 Q s M = w72_3 P Q M (sget s 0) := by kernel_rfl
def o72_4 : List AOper := [⟨some 5, (.mov (.tmp 3)), false, none⟩,
  ⟨some 6, (.mov (.tmp 0)), false, none⟩,
  ⟨some 7, (.lenStr (.tmp 6)), false, none⟩,
  ⟨some 8, (.bin .lss .none (.tmp 5) (.tmp 7)), true, none⟩]
def c72_5 : ACode := (.seq (.region o72_4 [0, 3, 8]) (.cond (.tmp 8) .skip (.exit 0)))
def w72_5 (_P : Program) (Q : Exit → Slots → Mem → Prop) (M : Mem) (v0 : V) (v3 : V) : Prop :=
  @OptVH (lenStrV v0) ⟨fun t7_3 =>
  @OptBH (binV .lss .none v3 t7_3) ⟨fun b8_4 =>
  @BIfH b8_4
  ⟨Q .normal [(0, v0), (3, v3), (8, (.bool b8_4))] M⟩
  ⟨Q (.exit 0) [(0, v0), (3, v3), (8, (.bool b8_4))] M⟩⟩⟩
theorem e72_5 (P : Program) (Q : Exit → Slots → Mem → Prop) (s : Slots) (M : Mem) : wpC P c72_5 Q s M = w72_5 P Q M (sget s 0) (sget s 3) := by kernel_rfl
def o72_6 : List AOper := [⟨some 11, (.mov (.tmp 0)), false, none⟩,
  ⟨some 12, (.mov (.tmp 3)), false, none⟩,
  ⟨some 13, (.indexStr (.tmp 11) (.tmp 12)), false, none⟩,
  ⟨some 4, (.mov (.tmp 13)), false, none⟩]
def c72_7 : ACode := (.region o72_6 [0, 3, 4])
def w72_7 (_P : Program) (Q : Exit → Slots → Mem → Prop) (M : Mem) (v0 : V) (v3 : V) : Prop :=
  @OptVH (indexStrV v0 v3) ⟨fun t13_3 =>
  Q .normal [(0, v0), (3, v3), (4, t13_3)] M⟩
theorem e72_7 (P : Program) (Q : Exit → Slots → Mem → Prop) (s : Slots) (M : Mem) : wpC P c72_7 Q s M = w72_7 P Q M (sget s 0) (sget s 3) := by kernel_rfl
def o72_8 : List AOper := [⟨some 27, (.mov (.tmp 4)), false, none⟩,
  ⟨some 28, (.bin .leq .none (.const (.int .u8 48)) (.tmp 27)), true, none⟩,
  ⟨some 29, (.mov (.tmp 28)), true, none⟩,
  ⟨some 30, (.mov (.tmp 4)), false, some (29, true)⟩,
  ⟨some 31, (.bin .leq .none (.tmp 30) (.const (.int .u8 57))), true, some (29, true)⟩,
  ⟨some 32, (.pick (.tmp 29) (.tmp 31) (.const (.bool false))), true, none⟩,
  ⟨some 14, (.mov (.tmp 32)), true, none⟩]
def c72_9 : ACode := (.region o72_8 [0, 3, 4, 14])
def w72_9 (_P : Program) (Q : Exit → Slots → Mem → Prop) (M : Mem) (v0 : V) (v3 : V) (v4 : V) : Prop :=
  @OptBH (binV .leq .none (.int .u8 48) v4) ⟨fun b28_2 =>
  @BIfH b28_2
  ⟨@OptBH (binV .leq .none v4 (.int .u8 57)) ⟨fun b31_5 =>
  Q .normal [(0, v0), (3, v3), (4, v4), (14, (.bool b31_5))] M⟩⟩
  ⟨Q .normal [(0, v0), (3, v3), (4, v4), (14, (.bool false))] M⟩⟩
theorem e72_9 (P : Program) (Q : Exit → Slots → Mem → Prop) (s : Slots) (M : Mem) : wpC P c72_9 Q s M = w72_9 P Q M (sget s 0) (sget s 3) (sget s 4) := by kernel_rfl
def o72_10 : List AOper := [⟨some 21, (.mov (.tmp 4)), false, none⟩,
  ⟨some 22, (.bin .leq .none (.const (.int .u8 65)) (.tmp 21)), true, none⟩,
  ⟨some 23, (.mov (.tmp 22)), true, none⟩,
  ⟨some 24, (.mov (.tmp 4)), false, some (23, true)⟩,
  ⟨some 25, (.bin .leq .none (.tmp 24) (.const (.int .u8 90))), true, some (23, true)⟩,
  ⟨some 26, (.pick (.tmp 23) (.tmp 25) (.const (.bool false))), true, none⟩,
  ⟨some 14, (.mov (.tmp 26)), true, none⟩]
def c72_11 : ACode := (.seq (.region o72_10 [0, 3, 4, 14]) (.cond (.tmp 14) .skip c72_9))
def w72_11 (P : Program) (Q : Exit → Slots → Mem → Prop) (M : Mem) (v0 : V) (v3 : V) (v4 : V) : Prop :=
  @OptBH (binV .leq .none (.int .u8 65) v4) ⟨fun b22_2 =>
  @BIfH b22_2
  ⟨@OptBH (binV .leq .none v4 (.int .u8 90)) ⟨fun b25_5 =>
  @BIfH b25_5
  ⟨Q .normal [(0, v0), (3, v3), (4, v4), (14, (.bool b25_5))] M⟩
  ⟨wpC P c72_9 Q [(0, v0), (3, v3), (4, v4), (14, (.bool b25_5))] M⟩⟩⟩
  ⟨wpC P c72_9 Q [(0, v0), (3, v3), (4, v4), (14, (.bool false))] M⟩⟩
theorem e72_11 (P : Program) (Q : Exit → Slots → Mem → Prop) (s : Slots) (M : Mem) : wpC P c72_11 Q s M = w72_11 P Q M (sget s 0) (sget s 3) (sget s 4) := by kernel_rfl
def o72_12 : List AOper := [⟨some 15, (.mov (.tmp 4)), false, none⟩,
  ⟨some 16, (.bin .leq .none (.const (.int .u8 97)) (.tmp 15)), true, none⟩,
  ⟨some 17, (.mov (.tmp 16)), true, none⟩,
  ⟨some 18, (.mov (.tmp 4)), false, some (17, true)⟩,
  ⟨some 19, (.bin .leq .none (.tmp 18) (.const (.int .u8 122))), true, some (17, true)⟩,
  ⟨some 20, (.pick (.tmp 17) (.tmp 19) (.const (.bool false))), true, none⟩,
  ⟨some 14, (.mov (.tmp 20)), true, none⟩]
def c72_13 : ACode := (.seq (.region o72_12 [0, 3, 4, 14]) (.cond (.tmp 14) .skip c72_11))
def w72_13 (P : Program) (Q : Exit → Slots → Mem → Prop) (M : Mem) (v0 : V) (v3 : V) (v4 : V) : Prop :=
  @OptBH (binV .leq .none (.int .u8 97) v4) ⟨fun b16_2 =>
  @BIfH b16_2
  ⟨@OptBH (binV .leq .none v4 (.int .u8 122)) ⟨fun b19_5 =>
  @BIfH b19_5
  ⟨Q .normal [(0, v0), (3, v3), (4, v4), (14, (.bool b19_5))] M⟩
  ⟨wpC P c72_11 Q [(0, v0), (3, v3), (4, v4), (14, (.bool b19_5))] M⟩⟩⟩
  ⟨wpC P c72_11 Q [(0, v0), (3, v3), (4, v4), (14, (.bool false))] M⟩⟩
theorem e72_13 (P : Program) (Q : Exit → Slots → Mem → Prop) (s : Slots) (M : Mem) : wpC P c72_13 Q s M = w72_13 P Q M (sget s 0) (sget s 3) (sget s 4) := by kernel_rfl
def o72_14 : List AOper := [⟨some 38, (.mov (.tmp 4)), false, none⟩,
  ⟨some 39, (.bin .eql .none (.tmp 38) (.const (.int .u8 46))), true, none⟩,
  ⟨some 33, (.mov (.tmp 39)), true, none⟩]
def c72_15 : ACode := (.region o72_14 [0, 3, 33])
def w72_15 (_P : Program) (Q : Exit → Slots → Mem → Prop) (M : Mem) (v0 : V) (v3 : V) (v4 : V) : Prop :=
  @OptBH (binV .eql .none v4 (.int .u8 46)) ⟨fun b39_2 =>
  Q .normal [(0, v0), (3, v3), (33, (.bool b39_2))] M⟩
theorem e72_15 (P : Program) (Q : Exit → Slots → Mem → Prop) (s : Slots) (M : Mem) : wpC P c72_15 Q s M = w72_15 P Q M (sget s 0) (sget s 3) (sget s 4) := by kernel_rfl
def o72_16 : List AOper := [⟨some 36, (.mov (.tmp 4)), false, none⟩,
  ⟨some 37, (.bin .eql .none (.tmp 36) (.const (.int .u8 95))), true, none⟩,
  ⟨some 33, (.mov (.tmp 37)), true, none⟩]
def c72_17 : ACode := (.seq (.region o72_16 [0, 3, 4, 33]) (.cond (.tmp 33) .skip c72_15))
def w72_17 (P : Program) (Q : Exit → Slots → Mem → Prop) (M : Mem) (v0 : V) (v3 : V) (v4 : V) : Prop :=
  @OptBH (binV .eql .none v4 (.int .u8 95)) ⟨fun b37_2 =>
  @BIfH b37_2
  ⟨Q .normal [(0, v0), (3, v3), (4, v4), (33, (.bool b37_2))] M⟩
  ⟨wpC P c72_15 Q [(0, v0), (3, v3), (4, v4), (33, (.bool b37_2))] M⟩⟩
theorem e72_17 (P : Program) (Q : Exit → Slots → Mem → Prop) (s : Slots) (M : Mem) : wpC P c72_17 Q s M = w72_17 P Q M (sget s 0) (sget s 3) (sget s 4) := by kernel_rfl
def o72_18 : List AOper := [⟨some 34, (.mov (.tmp 4)), false, none⟩,
  ⟨some 35, (.bin .eql .none (.tmp 34) (.const (.int .u8 45))), true, none⟩,
  ⟨some 33, (.mov (.tmp 35)), true, none⟩]
def c72_19 : ACode := (.seq (.region o72_18 [0, 3, 4, 33]) (.cond (.tmp 33) .skip c72_17))
def w72_19 (P : Program) (Q : Exit → Slots → Mem → Prop) (M : Mem) (v0 : V) (v3 : V) (v4 : V) : Prop :=
  @OptBH (binV .eql .none v4 (.int .u8 45)) ⟨fun b35_2 =>
  @BIfH b35_2
  ⟨Q .normal [(0, v0), (3, v3), (4, v4), (33, (.bool b35_2))] M⟩
  ⟨wpC P c72_17 Q [(0, v0), (3, v3), (4, v4), (33, (.bool b35_2))] M⟩⟩
theorem e72_19 (P : Program) (Q : Exit → Slots → Mem → Prop) (s : Slots) (M : Mem) : wpC P c72_19 Q s M = w72_19 P Q M (sget s 0) (sget s 3) (sget s 4) := by kernel_rfl
def o72_20 : List AOper := [⟨some 2, (.mov (.const (.bool false))), true, none⟩]
def c72_21 : ACode := (.region o72_20 [2])
def w72_21 (_P : Program) (Q : Exit → Slots → Mem → Prop) (M : Mem) : Prop :=
  Q .normal [(2, (.bool false))] M
theorem e72_21 (P : Program) (Q : Exit → Slots → Mem → Prop) (s : Slots) (M : Mem) : wpC P c72_21 Q s M = w72_21 P Q M := by kernel_rfl
def c72_22 : ACode := (.seq c72_21 .ret)
def c72_23 : ACode := (.cond (.tmp 33) .skip c72_22)
def c72_24 : ACode := (.seq c72_19 c72_23)
def c72_25 : ACode := (.cond (.tmp 14) .skip c72_24)
def c72_26 : ACode := (.seq c72_13 c72_25)
def c72_27 : ACode := (.block 2 c72_26)
def c72_28 : ACode := (.seq c72_7 c72_27)
def c72_29 : ACode := (.block 1 c72_28)
def o72_30 : List AOper := [⟨some 9, (.mov (.tmp 3)), false, none⟩,
  ⟨some 10, (.bin .add .none (.tmp 9) (.const (.int .i64 1))), false, none⟩,
  ⟨some 3, (.mov (.tmp 10)), false, none⟩]
def c72_31 : ACode := (.region o72_30 [0, 3])
def w72_31 (_P : Program) (Q : Exit → Slots → Mem → Prop) (M : Mem) (v0 : V) (v3 : V) : Prop :=
  @OptVH (binV .add .none v3 (.int .i64 1)) ⟨fun t10_2 =>
  Q .normal [(0, v0), (3, t10_2)] M⟩
theorem e72_31 (P : Program) (Q : Exit → Slots → Mem → Prop) (s : Slots) (M : Mem) : wpC P c72_31 Q s M = w72_31 P Q M (sget s 0) (sget s 3) := by kernel_rfl
def c72_32 : ACode := (.seq c72_29 c72_31)
def c72_33 : ACode := (.seq c72_5 c72_32)
def c72_34 : ACode := (.loop [0, 3] c72_33)
def c72_35 : ACode := (.block 0 c72_34)
def c72_36 : ACode := (.seq c72_3 c72_35)
def o72_37 : List AOper := [⟨some 40, (.mov (.tmp 0)), false, none⟩,
  ⟨some 41, (.lenStr (.tmp 40)), false, none⟩,
  ⟨some 42, (.bin .gtr .none (.tmp 41) (.const (.int .i64 0))), true, none⟩,
  ⟨some 43, (.mov (.tmp 42)), true, none⟩,
  ⟨some 44, (.mov (.tmp 0)), false, some (43, true)⟩,
  ⟨some 45, (.lenStr (.tmp 44)), false, some (43, true)⟩,
  ⟨some 46, (.bin .leq .none (.tmp 45) (.const (.int .i64 32))), true, some (43, true)⟩,
  ⟨some 47, (.pick (.tmp 43) (.tmp 46) (.const (.bool false))), true, none⟩,
  ⟨some 2, (.mov (.tmp 47)), true, none⟩]
def c72_38 : ACode := (.region o72_37 [2])
def w72_38 (_P : Program) (Q : Exit → Slots → Mem → Prop) (M : Mem) (v0 : V) : Prop :=
  @OptVH (lenStrV v0) ⟨fun t41_2 =>
  @OptBH (binV .gtr .none t41_2 (.int .i64 0)) ⟨fun b42_3 =>
  @BIfH b42_3
  ⟨@OptVH (lenStrV v0) ⟨fun t45_6 =>
  @OptBH (binV .leq .none t45_6 (.int .i64 32)) ⟨fun b46_7 =>
  Q .normal [(2, (.bool b46_7))] M⟩⟩⟩
  ⟨Q .normal [(2, (.bool false))] M⟩⟩⟩
theorem e72_38 (P : Program) (Q : Exit → Slots → Mem → Prop) (s : Slots) (M : Mem) : wpC P c72_38 Q s M = w72_38 P Q M (sget s 0) := by kernel_rfl
def c72_39 : ACode := (.seq c72_38 .ret)
def c72_40 : ACode := (.seq c72_36 c72_39)
def c72_41 : ACode := (.seq c72_1 c72_40)
def fn_ident_Valid : AFn := ⟨48, [(.tmp 2)], c72_41⟩
theorem fn_ident_Valid_ok : resFn PR h_ident_Valid i_ident_Valid = some fn_ident_Valid := by kernel_rfl

def h_product_later : Hints := ⟨[(0, [0, 1, 2]), (1, [0, 1, 2, 9]), (2, [6]), (3, [6])], [], []⟩
def o73_0 : List AOper := [⟨some 6, (.mov (.const (.bool false))), true, none⟩]
def c73_1 : ACode := (.region o73_0 [0, 1, 2])
def w73_1 (_P : Program) (Q : Exit → Slots → Mem → Prop) (M : Mem) (v0 : V) (v1 : V) (v2 : V) : Prop :=
  Q .normal [(0, v0), (1, v1), (2, v2)] M
theorem e73_1 (P : Program) (Q : Exit → Slots → Mem → Prop) (s : Slots) (M : Mem) : wpC P c73_1 Q s M = w73_1 P Q M (sget s 0) (sget s 1) (sget s 2) := by kernel_rfl
def o73_2 : List AOper := [⟨some 10, (.mov (.tmp 2)), false, none⟩,
  ⟨some 11, (.bin .lss .none (.tmp 10) (.const (.int .i64 0))), true, none⟩,
  ⟨some 12, (.mov (.tmp 11)), true, none⟩,
  ⟨some 13, (.mov (.tmp 1)), false, some (12, false)⟩,
  ⟨some 14, (.conv .u64 (.tmp 13)), false, some (12, false)⟩,
  ⟨some 15, (.mov (.tmp 0)), false, some (12, false)⟩,
  ⟨some 16, (.conv .u64 (.tmp 15)), false, some (12, false)⟩,
  ⟨some 17, (.bin .sub .none (.tmp 14) (.tmp 16)), false, some (12, false)⟩,
  ⟨some 18, (.mov (.tmp 2)), false, some (12, false)⟩,
  ⟨some 19, (.conv .u64 (.tmp 18)), false, some (12, false)⟩,
  ⟨some 20, (.bin .gtr .none (.tmp 17) (.tmp 19)), true, some (12, false)⟩,
  ⟨some 21, (.pick (.tmp 12) (.const (.bool true)) (.tmp 20)), true, none⟩,
  ⟨some 6, (.mov (.tmp 21)), true, none⟩]
def c73_3 : ACode := (.region o73_2 [6])
def w73_3 (_P : Program) (Q : Exit → Slots → Mem → Prop) (M : Mem) (v0 : V) (v1 : V) (v2 : V) : Prop :=
  @OptBH (binV .lss .none v2 (.int .i64 0)) ⟨fun b11_2 =>
  @BIfH b11_2
  ⟨Q .normal [(6, (.bool true))] M⟩
  ⟨@OptVH (convV .u64 v1) ⟨fun t14_7 =>
  @OptVH (convV .u64 v0) ⟨fun t16_9 =>
  @OptVH (binV .sub .none t14_7 t16_9) ⟨fun t17_10 =>
  @OptVH (convV .u64 v2) ⟨fun t19_12 =>
  @OptBH (binV .gtr .none t17_10 t19_12) ⟨fun b20_13 =>
  Q .normal [(6, (.bool b20_13))] M⟩⟩⟩⟩⟩⟩⟩
theorem e73_3 (P : Program) (Q : Exit → Slots → Mem → Prop) (s : Slots) (M : Mem) : wpC P c73_3 Q s M = w73_3 P Q M (sget s 0) (sget s 1) (sget s 2) := by kernel_rfl
def c73_4 : ACode := (.seq c73_3 .ret)
def o73_5 : List AOper := [⟨some 7, (.mov (.tmp 1)), false, none⟩,
  ⟨some 8, (.mov (.tmp 0)), false, none⟩,
  ⟨some 9, (.bin .geq .none (.tmp 7) (.tmp 8)), true, none⟩]
def c73_6 : ACode := (.seq (.region o73_5 [0, 1, 2, 9]) (.cond (.tmp 9) c73_4 .skip))
def w73_6 (P : Program) (Q : Exit → Slots → Mem → Prop) (M : Mem) (v0 : V) (v1 : V) (v2 : V) : Prop :=
  @OptBH (binV .geq .none v1 v0) ⟨fun b9_3 =>
  @BIfH b9_3
  ⟨wpC P c73_4 Q [(0, v0), (1, v1), (2, v2), (9, (.bool b9_3))] M⟩
  ⟨Q .normal [(0, v0), (1, v1), (2, v2), (9, (.bool b9_3))] M⟩⟩
theorem e73_6 (P : Program) (Q : Exit → Slots → Mem → Prop) (s : Slots) (M : Mem) : wpC P c73_6 Q s M = w73_6 P Q M (sget s 0) (sget s 1) (sget s 2) := by kernel_rfl
def o73_7 : List AOper := [⟨some 22, (.mov (.tmp 2)), false, none⟩,
  ⟨some 23, (.bin .lss .none (.tmp 22) (.const (.int .i64 0))), true, none⟩,
  ⟨some 24, (.mov (.tmp 23)), true, none⟩,
  ⟨some 25, (.mov (.tmp 0)), false, some (24, true)⟩,
  ⟨some 26, (.conv .u64 (.tmp 25)), false, some (24, true)⟩,
  ⟨some 27, (.mov (.tmp 1)), false, some (24, true)⟩,
  ⟨some 28, (.conv .u64 (.tmp 27)), false, some (24, true)⟩,
  ⟨some 29, (.bin .sub .none (.tmp 26) (.tmp 28)), false, some (24, true)⟩,
  ⟨some 30, (.mov (.tmp 2)), false, some (24, true)⟩,
  ⟨some 31, (.conv .u64 (.tmp 30)), false, some (24, true)⟩,
  ⟨some 32, (.un .neg (.tmp 31)), false, some (24, true)⟩,
  ⟨some 33, (.bin .lss .none (.tmp 29) (.tmp 32)), true, some (24, true)⟩,
  ⟨some 34, (.pick (.tmp 24) (.tmp 33) (.const (.bool false))), true, none⟩,
  ⟨some 6, (.mov (.tmp 34)), true, none⟩]
def c73_8 : ACode := (.region o73_7 [6])
def w73_8 (_P : Program) (Q : Exit → Slots → Mem → Prop) (M : Mem) (v0 : V) (v1 : V) (v2 : V) : Prop :=
  @OptBH (binV .lss .none v2 (.int .i64 0)) ⟨fun b23_2 =>
  @BIfH b23_2
  ⟨@OptVH (convV .u64 v0) ⟨fun t26_5 =>
  @OptVH (convV .u64 v1) ⟨fun t28_7 =>
  @OptVH (binV .sub .none t26_5 t28_7) ⟨fun t29_8 =>
  @OptVH (convV .u64 v2) ⟨fun t31_10 =>
  @OptVH (unV .neg t31_10) ⟨fun t32_11 =>
  @OptBH (binV .lss .none t29_8 t32_11) ⟨fun b33_12 =>
  Q .normal [(6, (.bool b33_12))] M⟩⟩⟩⟩⟩⟩⟩
  ⟨Q .normal [(6, (.bool false))] M⟩⟩
theorem e73_8 (P : Program) (Q : Exit → Slots → Mem → Prop) (s : Slots) (M : Mem) : wpC P c73_8 Q s M = w73_8 P Q M (sget s 0) (sget s 1) (sget s 2) := by kernel_rfl
def c73_9 : ACode := (.seq c73_8 .ret)
def c73_10 : ACode := (.seq c73_6 c73_9)
def c73_11 : ACode := (.seq c73_1 c73_10)
def fn_product_later : AFn := ⟨35, [(.tmp 6)], c73_11⟩
theorem fn_product_later_ok : resFn PR h_product_later i_product_later = some fn_product_later := by kernel_rfl

def h_product_Covers_1 : Hints := ⟨[(0, [1, 2, 3]), (1, [2, 3]), (2, [])], [], []⟩
def o74_0 : List AOper := [⟨some 3, (.box 4 (.tmp 0)), false, none⟩]
def c74_1 : ACode := (.region o74_0 [1, 2, 3])
def w74_1 (_P : Program) (Q : Exit → Slots → Mem → Prop) (M : Mem) (v0 : V) (v1 : V) (v2 : V) : Prop :=
  @OptMH (boxV 4 v0 M) ⟨fun t3_1 M1 =>
  Q .normal [(1, v1), (2, v2), (3, t3_1)] M1⟩
theorem e74_1 (P : Program) (Q : Exit → Slots → Mem → Prop) (s : Slots) (M : Mem) : wpC P c74_1 Q s M = w74_1 P Q M (sget s 0) (sget s 1) (sget s 2) := by kernel_rfl
def o74_2 : List AOper := [⟨some 4, (.load 1 false (.tmp 1)), false, none⟩,
  ⟨some 5, (.fieldAddr 2 (.tmp 3)), false, none⟩,
  ⟨some 6, (.load 1 false (.tmp 5)), false, none⟩,
  ⟨some 7, (.conv .u64 (.tmp 6)), false, none⟩,
  ⟨some 8, (.call i_bitset_Set_Union [(.tmp 4), (.tmp 7)]), false, none⟩,
  ⟨none, (.store 1 (.tmp 1) (.tmp 8)), false, none⟩]
def c74_3 : ACode := (.region o74_2 [2, 3])
def w74_3 (P : Program) (Q : Exit → Slots → Mem → Prop) (M : Mem) (v1 : V) (v2 : V) (v3 : V) : Prop :=
  @OptVH (loadV 1 false v1 M) ⟨fun t4_1 =>
  @OptVH (moveV 2 v3) ⟨fun t5_2 =>
  @OptVH (loadV 1 false t5_2 M) ⟨fun t6_3 =>
  @OptVH (convV .u64 t6_3) ⟨fun t7_4 =>
  @CallH P i_bitset_Set_Union [t4_1, t7_4] M ⟨fun t8_5 M5 =>
  @OptMH (storeVM 1 v1 t8_5 M5) ⟨fun _tx_6 M6 =>
  Q .normal [(2, v2), (3, v3)] M6⟩⟩⟩⟩⟩⟩
theorem e74_3 (P : Program) (Q : Exit → Slots → Mem → Prop) (s : Slots) (M : Mem) : wpC P c74_3 Q s M = w74_3 P Q M (sget s 1) (sget s 2) (sget s 3) := by kernel_rfl
def o74_4 : List AOper := [⟨some 9, (.load 1 false (.tmp 2)), false, none⟩,
  ⟨some 10, (.fieldAddr 3 (.tmp 3)), false, none⟩,
  ⟨some 11, (.load 1 false (.tmp 10)), false, none⟩,
  ⟨some 12, (.conv .u64 (.tmp 11)), false, none⟩,
  ⟨some 13, (.call i_bitset_Set_Union [(.tmp 9), (.tmp 12)]), false, none⟩,
  ⟨none, (.store 1 (.tmp 2) (.tmp 13)), false, none⟩]
def c74_5 : ACode := (.region o74_4 [])
def w74_5 (P : Program) (Q : Exit → Slots → Mem → Prop) (M : Mem) (v2 : V) (v3 : V) : Prop :=
  @OptVH (loadV 1 false v2 M) ⟨fun t9_1 =>
  @OptVH (moveV 3 v3) ⟨fun t10_2 =>
  @OptVH (loadV 1 false t10_2 M) ⟨fun t11_3 =>
  @OptVH (convV .u64 t11_3) ⟨fun t12_4 =>
  @CallH P i_bitset_Set_Union [t9_1, t12_4] M ⟨fun t13_5 M5 =>
  @OptMH (storeVM 1 v2 t13_5 M5) ⟨fun _tx_6 M6 =>
  Q .normal [] M6⟩⟩⟩⟩⟩⟩
theorem e74_5 (P : Program) (Q : Exit → Slots → Mem → Prop) (s : Slots) (M : Mem) : wpC P c74_5 Q s M = w74_5 P Q M (sget s 2) (sget s 3) := by kernel_rfl
def c74_6 : ACode := (.seq c74_3 c74_5)
def c74_7 : ACode := (.seq c74_1 c74_6)
def fn_product_Covers_1 : AFn := ⟨14, [], c74_7⟩
theorem fn_product_Covers_1_ok : resFn PR h_product_Covers_1 i_product_Covers_1 = some fn_product_Covers_1 := by kernel_rfl

def h_bitset_Set_Union : Hints := ⟨[(0, [0, 1]), (1, [4])], [], []⟩
def o75_0 : List AOper := [⟨some 4, (.mov (.const (.int .u64 0))), false, none⟩]
def c75_1 : ACode := (.region o75_0 [0, 1])
def w75_1 (_P : Program) (Q : Exit → Slots → Mem → Prop) (M : Mem) (v0 : V) (v1 : V) : Prop :=
  Q .normal [(0, v0), (1, v1)] M
theorem e75_1 (P : Program) (Q : Exit → Slots → Mem → Prop) (s : Slots) (M : Mem) : wpC P c75_1 Q s M = w75_1 P Q M (sget s 0) (sget s 1) := by kernel_rfl
def o75_2 : List AOper := [⟨some 5, (.mov (.tmp 0)), false, none⟩,
  ⟨some 6, (.mov (.tmp 1)), false, none⟩,
  ⟨some 7, (.bin .or .none (.tmp 5) (.tmp 6)), false, none⟩,
  ⟨some 4, (.mov (.tmp 7)), false, none⟩]
def c75_3 : ACode := (.region o75_2 [4])
def w75_3 (_P : Program) (Q : Exit → Slots → Mem → Prop) (M : Mem) (v0 : V) (v1 : V) : Prop :=
  @OptVH (binV .or .none v0 v1) ⟨fun t7_3 =>
  Q .normal [(4, t7_3)] M⟩
theorem e75_3 (P : Program) (Q : Exit → Slots → Mem → Prop) (s : Slots) (M : Mem) : wpC P c75_3 Q s M = w75_3 P Q M (sget s 0) (sget s 1) := by kernel_rfl
def c75_4 : ACode := (.seq c75_3 .ret)
def c75_5 : ACode := (.seq c75_1 c75_4)
def fn_bitset_Set_Union : AFn := ⟨8, [(.tmp 4)], c75_5⟩
theorem fn_bitset_Set_Union_ok : resFn PR h_bitset_Set_Union i_bitset_Set_Union = some fn_bitset_Set_Union := by kernel_rfl

def h_bitset_Set_Len : Hints := ⟨[(0, [0]), (1, [0, 3]), (2, [0, 3, 5]), (3, [2]), (4, [0, 3]), (5, [0, 3])], [(2, [0, 3])], []⟩
def o76_0 : List AOper := [⟨some 2, (.mov (.const (.int .i64 0))), false, none⟩]
def c76_1 : ACode := (.region o76_0 [0])
def w76_1 (_P : Program) (Q : Exit → Slots → Mem → Prop) (M : Mem) (v0 : V) : Prop :=
  Q .normal [(0, v0)] M
theorem e76_1 (P : Program) (Q : Exit → Slots → Mem → Prop) (s : Slots) (M : Mem) : wpC P c76_1 Q s M = w76_1 P Q M (sget s 0) := by kernel_rfl
def o76_2 : List AOper := [⟨some 3, (.mov (.const (.int .i64 0))), false, none⟩]
def c76_3 : ACode := (.region o76_2 [0, 3])
def w76_3 (_P : Program) (Q : Exit → Slots → Mem → Prop) (M : Mem) (v0 : V) : Prop :=
  Q .normal [(0, v0), (3, (.int .i64 0))] M
theorem e76_3 (P : Program) (Q : Exit → Slots → Mem → Prop) (s : Slots) (M : Mem) : wpC P c76_3 Q s M = w76_3 P Q M (sget s 0) := by kernel_rfl
def o76_4 : List AOper := [⟨some 6, (.mov (.tmp 3)), false, none⟩,
  ⟨some 2, (.mov (.tmp 6)), false, none⟩]
def c76_5 : ACode := (.region o76_4 [2])
def w76_5 (_P : Program) (Q : Exit → Slots → Mem → Prop) (M : Mem) (v3 : V) : Prop :=
  Q .normal [(2, v3)] M
theorem e76_5 (P : Program) (Q : Exit → Slots → Mem → Prop) (s : Slots) (M : Mem) : wpC P c76_5 Q s M = w76_5 P Q M (sget s 3) := by kernel_rfl
def c76_6 : ACode := (.seq c76_5 .ret)
def o76_7 : List AOper := [⟨some 4, (.mov (.tmp 0)), false, none⟩,
  ⟨some 5, (.bin .eql .none (.tmp 4) (.const (.int .u64 0))), true, none⟩]
def c76_8 : ACode := (.seq (.region o76_7 [0, 3, 5]) (.cond (.tmp 5) c76_6 .skip))
def w76_8 (P : Program) (Q : Exit → Slots → Mem → Prop) (M : Mem) (v0 : V) (v3 : V) : Prop :=
  @OptBH (binV .eql .none v0 (.int .u64 0)) ⟨fun b5_2 =>
  @BIfH b5_2
  ⟨wpC P c76_6 Q [(0, v0), (3, v3), (5, (.bool b5_2))] M⟩
  ⟨Q .normal [(0, v0), (3, v3), (5, (.bool b5_2))] M⟩⟩
theorem e76_8 (P : Program) (Q : Exit → Slots → Mem → Prop) (s : Slots) (M : Mem) : wpC P c76_8 Q s M = w76_8 P Q M (sget s 0) (sget s 3) := by kernel_rfl
def o76_9 : List AOper := [⟨some 7, (.mov (.tmp 0)), false, none⟩,
  ⟨some 8, (.mov (.tmp 0)), false, none⟩,
  ⟨some 9, (.bin .sub .none (.tmp 8) (.const (.int .u64 1))), false, none⟩,
  ⟨some 10, (.bin .and .none (.tmp 7) (.tmp 9)), false, none⟩,
  ⟨some 0, (.mov (.tmp 10)), false, none⟩]
def c76_10 : ACode := (.region o76_9 [0, 3])
def w76_10 (_P : Program) (Q : Exit → Slots → Mem → Prop) (M : Mem) (v0 : V) (v3 : V) : Prop :=
  @OptVH (binV .sub .none v0 (.int .u64 1)) ⟨fun t9_3 =>
  @OptVH (binV .and .none v0 t9_3) ⟨fun t10_4 =>
  Q .normal [(0, t10_4), (3, v3)] M⟩⟩
theorem e76_10 (P : Program) (Q : Exit → Slots → Mem → Prop) (s : Slots) (M : Mem) : wpC P c76_10 Q s M = w76_10 P Q M (sget s 0) (sget s 3) := by kernel_rfl
def o76_11 : List AOper := [⟨some 11, (.mov (.tmp 3)), false, none⟩,
  ⟨some 12, (.bin .add .none (.tmp 11) (.const (.int .i64 1))), false, none⟩,
  ⟨some 3, (.mov (.tmp 12)), false, none⟩]
def c76_12 : ACode := (.region o76_11 [0, 3])
def w76_12 (_P : Program) (Q : Exit → Slots → Mem → Prop) (M : Mem) (v0 : V) (v3 : V) : Prop :=
  @OptVH (binV .add .none v3 (.int .i64 1)) ⟨fun t12_2 =>
  Q .normal [(0, v0), (3, t12_2)] M⟩
theorem e76_12 (P : Program) (Q : Exit → Slots → Mem → Prop) (s : Slots) (M : Mem) : wpC P c76_12 Q s M = w76_12 P Q M (sget s 0) (sget s 3) := by kernel_rfl
def c76_13 : ACode := (.seq c76_12 (.goto 0))
def c76_14 : ACode := (.seq c76_10 c76_13)
def c76_15 : ACode := (.seq c76_8 c76_14)
def c76_16 : ACode := (.seq .label c76_15)
def c76_17 : ACode := (.seq c76_3 c76_16)
def o76_18 : List AOper := [⟨some 6, (.mov (.tmp 3)), false, none⟩,
  ⟨some 2, (.mov (.tmp 6)), false, none⟩]
def c76_19 : ACode := (.region o76_18 [2])
def w76_19 (_P : Program) (Q : Exit → Slots → Mem → Prop) (M : Mem) (v3 : V) : Prop :=
  Q .normal [(2, v3)] M
theorem e76_19 (P : Program) (Q : Exit → Slots → Mem → Prop) (s : Slots) (M : Mem) : wpC P c76_19 Q s M = w76_19 P Q M (sget s 3) := by kernel_rfl
def c76_20 : ACode := (.seq c76_19 .ret)
def o76_21 : List AOper := [⟨some 4, (.mov (.tmp 0)), false, none⟩,
  ⟨some 5, (.bin .eql .none (.tmp 4) (.const (.int .u64 0))), true, none⟩]
def c76_22 : ACode := (.seq (.region o76_21 [0, 3, 5]) (.cond (.tmp 5) c76_20 .skip))
def w76_22 (P : Program) (Q : Exit → Slots → Mem → Prop) (M : Mem) (v0 : V) (v3 : V) : Prop :=
  @OptBH (binV .eql .none v0 (.int .u64 0)) ⟨fun b5_2 =>
  @BIfH b5_2
  ⟨wpC P c76_20 Q [(0, v0), (3, v3), (5, (.bool b5_2))] M⟩
  ⟨Q .normal [(0, v0), (3, v3), (5, (.bool b5_2))] M⟩⟩
theorem e76_22 (P : Program) (Q : Exit → Slots → Mem → Prop) (s : Slots) (M : Mem) : wpC P c76_22 Q s M = w76_22 P Q M (sget s 0) (sget s 3) := by kernel_rfl
def o76_23 : List AOper := [⟨some 7, (.mov (.tmp 0)), false, none⟩,
  ⟨some 8, (.mov (.tmp 0)), false, none⟩,
  ⟨some 9, (.bin .sub .none (.tmp 8) (.const (.int .u64 1))), false, none⟩,
  ⟨some 10, (.bin .and .none (.tmp 7) (.tmp 9)), false, none⟩,
  ⟨some 0, (.mov (.tmp 10)), false, none⟩]
def c76_24 : ACode := (.region o76_23 [0, 3])
def w76_24 (_P : Program) (Q : Exit → Slots → Mem → Prop) (M : Mem) (v0 : V) (v3 : V) : Prop :=
  @OptVH (binV .sub .none v0 (.int .u64 1)) ⟨fun t9_3 =>
  @OptVH (binV .and .none v0 t9_3) ⟨fun t10_4 =>
  Q .normal [(0, t10_4), (3, v3)] M⟩⟩
theorem e76_24 (P : Program) (Q : Exit → Slots → Mem → Prop) (s : Slots) (M : Mem) : wpC P c76_24 Q s M = w76_24 P Q M (sget s 0) (sget s 3) := by kernel_rfl
def o76_25 : List AOper := [⟨some 11, (.mov (.tmp 3)), false, none⟩,
  ⟨some 12, (.bin .add .none (.tmp 11) (.const (.int .i64 1))), false, none⟩,
  ⟨some 3, (.mov (.tmp 12)), false, none⟩]
def c76_26 : ACode := (.region o76_25 [0, 3])
def w76_26 (_P : Program) (Q : Exit → Slots → Mem → Prop) (M : Mem) (v0 : V) (v3 : V) : Prop :=
  @OptVH (binV .add .none v3 (.int .i64 1)) ⟨fun t12_2 =>
  Q .normal [(0, v0), (3, t12_2)] M⟩
theorem e76_26 (P : Program) (Q : Exit → Slots → Mem → Prop) (s : Slots) (M : Mem) : wpC P c76_26 Q s M = w76_26 P Q M (sget s 0) (sget s 3) := by kernel_rfl
def c76_27 : ACode := (.seq c76_26 (.goto 0))
def c76_28 : ACode := (.seq c76_24 c76_27)
def c76_29 : ACode := (.seq c76_22 c76_28)
def c76_30 : ACode := (.seq .skip c76_29)
def c76_31 : ACode := (.scope 0 [0, 3] c76_17 c76_30)
def c76_32 : ACode := (.seq c76_1 c76_31)
def fn_bitset_Set_Len : AFn := ⟨13, [(.tmp 2)], c76_32⟩
theorem fn_bitset_Set_Len_ok : resFn PR h_bitset_Set_Len i_bitset_Set_Len = some fn_bitset_Set_Len := by kernel_rfl

def h_bitset_Set_Within : Hints := ⟨[(0, [0, 1]), (1, [4])], [], []⟩
def o77_0 : List AOper := [⟨some 4, (.mov (.const (.bool false))), true, none⟩]
def c77_1 : ACode := (.region o77_0 [0, 1])
def w77_1 (_P : Program) (Q : Exit → Slots → Mem → Prop) (M : Mem) (v0 : V) (v1 : V) : Prop :=
  Q .normal [(0, v0), (1, v1)] M
theorem e77_1 (P : Program) (Q : Exit → Slots → Mem → Prop) (s : Slots) (M : Mem) : wpC P c77_1 Q s M = w77_1 P Q M (sget s 0) (sget s 1) := by kernel_rfl
def o77_2 : List AOper := [⟨some 5, (.mov (.tmp 0)), false, none⟩,
  ⟨some 6, (.mov (.tmp 1)), false, none⟩,
  ⟨some 7, (.bin .andNot .none (.tmp 5) (.tmp 6)), false, none⟩,
  ⟨some 8, (.bin .eql .none (.tmp 7) (.const (.int .u64 0))), true, none⟩,
  ⟨some 4, (.mov (.tmp 8)), true, none⟩]
def c77_3 : ACode := (.region o77_2 [4])
def w77_3 (_P : Program) (Q : Exit → Slots → Mem → Prop) (M : Mem) (v0 : V) (v1 : V) : Prop :=
  @OptVH (binV .andNot .none v0 v1) ⟨fun t7_3 =>
  @OptBH (binV .eql .none t7_3 (.int .u64 0)) ⟨fun b8_4 =>
  Q .normal [(4, (.bool b8_4))] M⟩⟩
theorem e77_3 (P : Program) (Q : Exit → Slots → Mem → Prop) (s : Slots) (M : Mem) : wpC P c77_3 Q s M = w77_3 P Q M (sget s 0) (sget s 1) := by kernel_rfl
def c77_4 : ACode := (.seq c77_3 .ret)
def c77_5 : ACode := (.seq c77_1 c77_4)
def fn_bitset_Set_Within : AFn := ⟨9, [(.tmp 4)], c77_5⟩
theorem fn_bitset_Set_Within_ok : resFn PR h_bitset_Set_Within i_bitset_Set_Within = some fn_bitset_Set_Within := by kernel_rfl

def h_fare_within : Hints := ⟨[(0, [0, 1, 2]), (1, [6])], [], []⟩
def o78_0 : List AOper := [⟨some 6, (.mov (.const (.bool false))), true, none⟩]
def c78_1 : ACode := (.region o78_0 [0, 1, 2])
def w78_1 (_P : Program) (Q : Exit → Slots → Mem → Prop) (M : Mem) (v0 : V) (v1 : V) (v2 : V) : Prop :=
  Q .normal [(0, v0), (1, v1), (2, v2)] M
theorem e78_1 (P : Program) (Q : Exit → Slots → Mem → Prop) (s : Slots) (M : Mem) : wpC P c78_1 Q s M = w78_1 P Q M (sget s 0) (sget s 1) (sget s 2) := by kernel_rfl
def o78_2 : List AOper := [⟨some 7, (.mov (.tmp 1)), false, none⟩,
  ⟨some 8, (.mov (.tmp 0)), false, none⟩,
  ⟨some 9, (.bin .leq .none (.tmp 7) (.tmp 8)), true, none⟩,
  ⟨some 10, (.mov (.tmp 9)), true, none⟩,
  ⟨some 11, (.mov (.tmp 1)), false, some (10, false)⟩,
  ⟨some 12, (.conv .u64 (.tmp 11)), false, some (10, false)⟩,
  ⟨some 13, (.mov (.tmp 0)), false, some (10, false)⟩,
  ⟨some 14, (.conv .u64 (.tmp 13)), false, some (10, false)⟩,
  ⟨some 15, (.bin .sub .none (.tmp 12) (.tmp 14)), false, some (10, false)⟩,
  ⟨some 16, (.mov (.tmp 2)), false, some (10, false)⟩,
  ⟨some 17, (.conv .u64 (.tmp 16)), false, some (10, false)⟩,
  ⟨some 18, (.bin .leq .none (.tmp 15) (.tmp 17)), true, some (10, false)⟩,
  ⟨some 19, (.pick (.tmp 10) (.const (.bool true)) (.tmp 18)), true, none⟩,
  ⟨some 6, (.mov (.tmp 19)), true, none⟩]
def c78_3 : ACode := (.region o78_2 [6])
def w78_3 (_P : Program) (Q : Exit → Slots → Mem → Prop) (M : Mem) (v0 : V) (v1 : V) (v2 : V) : Prop :=
  @OptBH (binV .leq .none v1 v0) ⟨fun b9_3 =>
  @BIfH b9_3
  ⟨Q .normal [(6, (.bool true))] M⟩
  ⟨@OptVH (convV .u64 v1) ⟨fun t12_8 =>
  @OptVH (convV .u64 v0) ⟨fun t14_10 =>
  @OptVH (binV .sub .none t12_8 t14_10) ⟨fun t15_11 =>
  @OptVH (convV .u64 v2) ⟨fun t17_13 =>
  @OptBH (binV .leq .none t15_11 t17_13) ⟨fun b18_14 =>
  Q .normal [(6, (.bool b18_14))] M⟩⟩⟩⟩⟩⟩⟩
theorem e78_3 (P : Program) (Q : Exit → Slots → Mem → Prop) (s : Slots) (M : Mem) : wpC P c78_3 Q s M = w78_3 P Q M (sget s 0) (sget s 1) (sget s 2) := by kernel_rfl
def c78_4 : ACode := (.seq c78_3 .ret)
def c78_5 : ACode := (.seq c78_1 c78_4)
def fn_fare_within : AFn := ⟨20, [(.tmp 6)], c78_5⟩
theorem fn_fare_within_ok : resFn PR h_fare_within i_fare_within = some fn_fare_within := by kernel_rfl

def tabL : List (Nat × AFn × Bool) := [(6, fn_transitlaw37_AccountNone, false), (8, fn_transitlaw37_exampleHolds, false), (9, fn_account_New, false), (11, fn_account_Account_Spent, false), (12, fn_account_Account_Left, false), (13, fn_transitref35_Price, false), (18, fn_account_Account_Total, false), (23, fn_account_Account_Charge, false), (24, fn_account_Account_Refund, false), (25, fn_transitlaw37_one, false), (26, fn_fare_Price, false), (27, fn_slices_Clone_api_Product_api_Product, false), (28, fn_account_valid, false), (29, fn_transitref35_Valid, false), (30, fn_transitref35_Best, false), (31, fn_transitref35_Capped, false), (32, fn_transitref35_Sum, false), (33, fn_transitref21_Check, false), (38, fn_fare_valid, false), (39, fn_fare_divide, false), (40, fn_fare_capped, false), (41, fn_number_Clamp, false), (42, fn_transitref26_Fares, false), (43, fn_transitref35_Covers, false), (44, fn_transitref35_Ticket, false), (45, fn_transitref35_better, false), (51, fn_product_Check, false), (52, fn_fare_divide_1, false), (53, fn_product_Covers, false), (54, fn_fare_ticketPrice, false), (55, fn_fare_rest_better, false), (56, fn_transitref26_in, false), (57, fn_transitref26_ValidID, false), (58, fn_transitref35_bits, false), (59, fn_transitref35_within, false), (71, fn_product_within, false), (72, fn_ident_Valid, false), (73, fn_product_later, false), (74, fn_product_Covers_1, false), (75, fn_bitset_Set_Union, false), (76, fn_bitset_Set_Len, false), (77, fn_bitset_Set_Within, false), (78, fn_fare_within, false)]
theorem tab_ok : TabOK PR (tabOf tabL) := tabOf_cons fn_transitlaw37_AccountNone_ok (tabOf_cons fn_transitlaw37_exampleHolds_ok (tabOf_cons fn_account_New_ok (tabOf_cons fn_account_Account_Spent_ok (tabOf_cons fn_account_Account_Left_ok (tabOf_cons fn_transitref35_Price_ok (tabOf_cons fn_account_Account_Total_ok (tabOf_cons fn_account_Account_Charge_ok (tabOf_cons fn_account_Account_Refund_ok (tabOf_cons fn_transitlaw37_one_ok (tabOf_cons fn_fare_Price_ok (tabOf_cons fn_slices_Clone_api_Product_api_Product_ok (tabOf_cons fn_account_valid_ok (tabOf_cons fn_transitref35_Valid_ok (tabOf_cons fn_transitref35_Best_ok (tabOf_cons fn_transitref35_Capped_ok (tabOf_cons fn_transitref35_Sum_ok (tabOf_cons fn_transitref21_Check_ok (tabOf_cons fn_fare_valid_ok (tabOf_cons fn_fare_divide_ok (tabOf_cons fn_fare_capped_ok (tabOf_cons fn_number_Clamp_ok (tabOf_cons fn_transitref26_Fares_ok (tabOf_cons fn_transitref35_Covers_ok (tabOf_cons fn_transitref35_Ticket_ok (tabOf_cons fn_transitref35_better_ok (tabOf_cons fn_product_Check_ok (tabOf_cons fn_fare_divide_1_ok (tabOf_cons fn_product_Covers_ok (tabOf_cons fn_fare_ticketPrice_ok (tabOf_cons fn_fare_rest_better_ok (tabOf_cons fn_transitref26_in_ok (tabOf_cons fn_transitref26_ValidID_ok (tabOf_cons fn_transitref35_bits_ok (tabOf_cons fn_transitref35_within_ok (tabOf_cons fn_product_within_ok (tabOf_cons fn_ident_Valid_ok (tabOf_cons fn_product_later_ok (tabOf_cons fn_product_Covers_1_ok (tabOf_cons fn_bitset_Set_Union_ok (tabOf_cons fn_bitset_Set_Len_ok (tabOf_cons fn_bitset_Set_Within_ok (tabOf_cons fn_fare_within_ok (tabOf_nil)))))))))))))))))))))))))))))))))))))))))))

end Go.Vm.C
