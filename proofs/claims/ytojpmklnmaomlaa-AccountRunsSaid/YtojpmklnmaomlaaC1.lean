/- The abstract code of the functions that the statements reach, printed by a program, each with the equation that it is what the loaded program says. Part 1. -/
import Derived.Test.YtojpmklnmaomlaaC0
namespace Go.Vm.C
open Go.Vm
def h_fare_divide : Hints := ⟨[(0, [2, 3, 4]), (1, [2, 3, 4, 5]), (2, [2, 3, 4, 5, 6]), (3, [2, 3, 4, 5, 6]), (4, [2, 4, 5, 6, 7]), (5, [2, 4, 5, 6, 7, 8]), (6, [2, 4, 5, 6, 7, 8, 20]), (7, [2, 4, 5, 6, 7, 8]), (8, [2, 4, 5, 6, 7, 8, 9]), (9, [2, 4, 5, 6, 7, 8, 9, 26]), (10, [2, 4, 5, 6, 7, 8, 9]), (11, [2, 4, 5, 6, 7, 8, 9, 31, 32]), (12, [2, 4, 5, 6, 7, 8, 9, 31, 32, 33]), (13, [2, 4, 5, 6, 7, 8, 9, 10, 31, 32]), (14, [2, 4, 5, 6, 7, 8, 9, 10, 31, 32, 39]), (15, [2, 4, 5, 6, 7, 8, 9, 31, 32]), (16, [2, 4, 5, 6, 7, 8, 9, 31, 32]), (17, [4])], [(6, [2, 4, 5, 6, 7, 8]), (9, [2, 4, 5, 6, 7, 8, 9]), (12, [2, 4, 5, 6, 7, 8, 9, 31, 32])], []⟩
def o39_0 : List AOper := [⟨some 2, (.box 4 (.tmp 0)), false, none⟩,
  ⟨some 3, (.box 1 (.tmp 1)), false, none⟩,
  ⟨some 4, (.alloc [(.bool false), (.int .i64 0), (.int .i64 0), (.int .i64 0), (.int .i64 0), (.int .i64 0), (.int .i64 0), (.bool false), (.int .i64 0), (.int .i64 0), (.int .i64 0), (.int .i64 0), (.int .i64 0), (.int .i64 0), (.bool false), (.int .i64 0), (.int .i64 0), (.int .i64 0), (.int .i64 0), (.int .i64 0), (.int .i64 0), (.bool false), (.int .i64 0), (.int .i64 0), (.int .i64 0), (.int .i64 0), (.int .i64 0), (.int .i64 0), (.bool false), (.int .i64 0), (.int .i64 0), (.int .i64 0), (.int .i64 0), (.int .i64 0), (.int .i64 0), (.bool false), (.int .i64 0), (.int .i64 0), (.int .i64 0), (.int .i64 0), (.int .i64 0), (.int .i64 0), (.bool false), (.int .i64 0), (.int .i64 0), (.int .i64 0), (.int .i64 0), (.int .i64 0), (.int .i64 0), (.bool false), (.int .i64 0), (.int .i64 0), (.int .i64 0), (.int .i64 0), (.int .i64 0), (.int .i64 0), (.bool false), (.int .i64 0), (.int .i64 0), (.int .i64 0), (.int .i64 0), (.int .i64 0), (.int .i64 0)]), false, none⟩]
def c39_1 : ACode := (.region o39_0 [2, 3, 4])
def w39_1 (_P : Program) (Q : Exit → Slots → Mem → Prop) (M : Mem) (v0 : V) (v1 : V) : Prop :=
  @OptMH (boxV 4 v0 M) ⟨fun t2_1 M1 =>
  @OptMH (boxV 1 v1 M1) ⟨fun t3_2 M2 =>
  @OptMH (allocV [(.bool false), (.int .i64 0), (.int .i64 0), (.int .i64 0), (.int .i64 0), (.int .i64 0), (.int .i64 0), (.bool false), (.int .i64 0), (.int .i64 0), (.int .i64 0), (.int .i64 0), (.int .i64 0), (.int .i64 0), (.bool false), (.int .i64 0), (.int .i64 0), (.int .i64 0), (.int .i64 0), (.int .i64 0), (.int .i64 0), (.bool false), (.int .i64 0), (.int .i64 0), (.int .i64 0), (.int .i64 0), (.int .i64 0), (.int .i64 0), (.bool false), (.int .i64 0), (.int .i64 0), (.int .i64 0), (.int .i64 0), (.int .i64 0), (.int .i64 0), (.bool false), (.int .i64 0), (.int .i64 0), (.int .i64 0), (.int .i64 0), (.int .i64 0), (.int .i64 0), (.bool false), (.int .i64 0), (.int .i64 0), (.int .i64 0), (.int .i64 0), (.int .i64 0), (.int .i64 0), (.bool false), (.int .i64 0), (.int .i64 0), (.int .i64 0), (.int .i64 0), (.int .i64 0), (.int .i64 0), (.bool false), (.int .i64 0), (.int .i64 0), (.int .i64 0), (.int .i64 0), (.int .i64 0), (.int .i64 0)] M2) ⟨fun t4_3 M3 =>
  Q .normal [(2, t2_1), (3, t3_2), (4, t4_3)] M3⟩⟩⟩
theorem e39_1 (P : Program) (Q : Exit → Slots → Mem → Prop) (s : Slots) (M : Mem) : wpC P c39_1 Q s M = w39_1 P Q M (sget s 0) (sget s 1) := by kernel_rfl
def o39_2 : List AOper := [⟨some 5, (.alloc [(.bool false), (.int .i64 0), (.int .i64 0), (.int .i64 0), (.int .i64 0), (.int .i64 0), (.int .i64 0), (.bool false), (.int .i64 0), (.int .i64 0), (.int .i64 0), (.int .i64 0), (.int .i64 0), (.int .i64 0), (.bool false), (.int .i64 0), (.int .i64 0), (.int .i64 0), (.int .i64 0), (.int .i64 0), (.int .i64 0), (.bool false), (.int .i64 0), (.int .i64 0), (.int .i64 0), (.int .i64 0), (.int .i64 0), (.int .i64 0), (.bool false), (.int .i64 0), (.int .i64 0), (.int .i64 0), (.int .i64 0), (.int .i64 0), (.int .i64 0), (.bool false), (.int .i64 0), (.int .i64 0), (.int .i64 0), (.int .i64 0), (.int .i64 0), (.int .i64 0), (.bool false), (.int .i64 0), (.int .i64 0), (.int .i64 0), (.int .i64 0), (.int .i64 0), (.int .i64 0), (.bool false), (.int .i64 0), (.int .i64 0), (.int .i64 0), (.int .i64 0), (.int .i64 0), (.int .i64 0), (.bool false), (.int .i64 0), (.int .i64 0), (.int .i64 0), (.int .i64 0), (.int .i64 0), (.int .i64 0)]), false, none⟩]
def c39_3 : ACode := (.region o39_2 [2, 3, 4, 5])
def w39_3 (_P : Program) (Q : Exit → Slots → Mem → Prop) (M : Mem) (v2 : V) (v3 : V) (v4 : V) : Prop :=
  @OptMH (allocV [(.bool false), (.int .i64 0), (.int .i64 0), (.int .i64 0), (.int .i64 0), (.int .i64 0), (.int .i64 0), (.bool false), (.int .i64 0), (.int .i64 0), (.int .i64 0), (.int .i64 0), (.int .i64 0), (.int .i64 0), (.bool false), (.int .i64 0), (.int .i64 0), (.int .i64 0), (.int .i64 0), (.int .i64 0), (.int .i64 0), (.bool false), (.int .i64 0), (.int .i64 0), (.int .i64 0), (.int .i64 0), (.int .i64 0), (.int .i64 0), (.bool false), (.int .i64 0), (.int .i64 0), (.int .i64 0), (.int .i64 0), (.int .i64 0), (.int .i64 0), (.bool false), (.int .i64 0), (.int .i64 0), (.int .i64 0), (.int .i64 0), (.int .i64 0), (.int .i64 0), (.bool false), (.int .i64 0), (.int .i64 0), (.int .i64 0), (.int .i64 0), (.int .i64 0), (.int .i64 0), (.bool false), (.int .i64 0), (.int .i64 0), (.int .i64 0), (.int .i64 0), (.int .i64 0), (.int .i64 0), (.bool false), (.int .i64 0), (.int .i64 0), (.int .i64 0), (.int .i64 0), (.int .i64 0), (.int .i64 0)] M) ⟨fun t5_1 M1 =>
  Q .normal [(2, v2), (3, v3), (4, v4), (5, t5_1)] M1⟩
theorem e39_3 (P : Program) (Q : Exit → Slots → Mem → Prop) (s : Slots) (M : Mem) : wpC P c39_3 Q s M = w39_3 P Q M (sget s 2) (sget s 3) (sget s 4) := by kernel_rfl
def o39_4 : List AOper := [⟨some 11, (.load 1 false (.tmp 3)), false, none⟩,
  ⟨some 12, (.lenSl (.tmp 11)), false, none⟩,
  ⟨some 6, (.mov (.tmp 12)), false, none⟩]
def c39_5 : ACode := (.region o39_4 [2, 3, 4, 5, 6])
def w39_5 (_P : Program) (Q : Exit → Slots → Mem → Prop) (M : Mem) (v2 : V) (v3 : V) (v4 : V) (v5 : V) : Prop :=
  @OptVH (loadV 1 false v3 M) ⟨fun t11_1 =>
  @OptVH (lenV t11_1 M) ⟨fun t12_2 =>
  Q .normal [(2, v2), (3, v3), (4, v4), (5, v5), (6, t12_2)] M⟩⟩
theorem e39_5 (P : Program) (Q : Exit → Slots → Mem → Prop) (s : Slots) (M : Mem) : wpC P c39_5 Q s M = w39_5 P Q M (sget s 2) (sget s 3) (sget s 4) (sget s 5) := by kernel_rfl
def o39_6 : List AOper := [⟨some 13, (.mov (.tmp 6)), false, none⟩,
  ⟨some 14, (.indexArr 9 7 (.tmp 5) (.tmp 13)), false, none⟩,
  ⟨some 15, (.fieldAddr 0 (.tmp 14)), false, none⟩,
  ⟨none, (.store 1 (.tmp 15) (.const (.bool true))), false, none⟩]
def c39_7 : ACode := (.region o39_6 [2, 3, 4, 5, 6])
def w39_7 (_P : Program) (Q : Exit → Slots → Mem → Prop) (M : Mem) (v2 : V) (v3 : V) (v4 : V) (v5 : V) (v6 : V) : Prop :=
  @OptVH (indexArrV 9 7 v5 v6) ⟨fun t14_2 =>
  @OptVH (moveV 0 t14_2) ⟨fun t15_3 =>
  @OptMH (storeVM 1 t15_3 (.bool true) M) ⟨fun _tx_4 M4 =>
  Q .normal [(2, v2), (3, v3), (4, v4), (5, v5), (6, v6)] M4⟩⟩⟩
theorem e39_7 (P : Program) (Q : Exit → Slots → Mem → Prop) (s : Slots) (M : Mem) : wpC P c39_7 Q s M = w39_7 P Q M (sget s 2) (sget s 3) (sget s 4) (sget s 5) (sget s 6) := by kernel_rfl
def o39_8 : List AOper := [⟨some 16, (.mkfn i_fare_divide_1 [(.tmp 2), (.tmp 3), (.tmp 5)]), false, none⟩,
  ⟨some 7, (.mov (.tmp 16)), false, none⟩]
def c39_9 : ACode := (.region o39_8 [2, 4, 5, 6, 7])
def w39_9 (_P : Program) (Q : Exit → Slots → Mem → Prop) (M : Mem) (v2 : V) (v3 : V) (v4 : V) (v5 : V) (v6 : V) : Prop :=
  Q .normal [(2, v2), (4, v4), (5, v5), (6, v6), (7, (mkfnV i_fare_divide_1 [v2, v3, v5]))] M
theorem e39_9 (P : Program) (Q : Exit → Slots → Mem → Prop) (s : Slots) (M : Mem) : wpC P c39_9 Q s M = w39_9 P Q M (sget s 2) (sget s 3) (sget s 4) (sget s 5) (sget s 6) := by kernel_rfl
def o39_10 : List AOper := [⟨some 17, (.mov (.tmp 6)), false, none⟩,
  ⟨some 18, (.bin .sub .none (.tmp 17) (.const (.int .i64 1))), false, none⟩,
  ⟨some 8, (.mov (.tmp 18)), false, none⟩]
def c39_11 : ACode := (.region o39_10 [2, 4, 5, 6, 7, 8])
def w39_11 (_P : Program) (Q : Exit → Slots → Mem → Prop) (M : Mem) (v2 : V) (v4 : V) (v5 : V) (v6 : V) (v7 : V) : Prop :=
  @OptVH (binV .sub .none v6 (.int .i64 1)) ⟨fun t18_2 =>
  Q .normal [(2, v2), (4, v4), (5, v5), (6, v6), (7, v7), (8, t18_2)] M⟩
theorem e39_11 (P : Program) (Q : Exit → Slots → Mem → Prop) (s : Slots) (M : Mem) : wpC P c39_11 Q s M = w39_11 P Q M (sget s 2) (sget s 4) (sget s 5) (sget s 6) (sget s 7) := by kernel_rfl
def o39_12 : List AOper := [⟨some 19, (.mov (.tmp 8)), false, none⟩,
  ⟨some 20, (.bin .geq .none (.tmp 19) (.const (.int .i64 0))), true, none⟩]
def c39_13 : ACode := (.seq (.region o39_12 [2, 4, 5, 6, 7, 8, 20]) (.cond (.tmp 20) .skip (.exit 0)))
def w39_13 (_P : Program) (Q : Exit → Slots → Mem → Prop) (M : Mem) (v2 : V) (v4 : V) (v5 : V) (v6 : V) (v7 : V) (v8 : V) : Prop :=
  @OptBH (binV .geq .none v8 (.int .i64 0)) ⟨fun b20_2 =>
  @BIfH b20_2
  ⟨Q .normal [(2, v2), (4, v4), (5, v5), (6, v6), (7, v7), (8, v8), (20, (.bool b20_2))] M⟩
  ⟨Q (.exit 0) [(2, v2), (4, v4), (5, v5), (6, v6), (7, v7), (8, v8), (20, (.bool b20_2))] M⟩⟩
theorem e39_13 (P : Program) (Q : Exit → Slots → Mem → Prop) (s : Slots) (M : Mem) : wpC P c39_13 Q s M = w39_13 P Q M (sget s 2) (sget s 4) (sget s 5) (sget s 6) (sget s 7) (sget s 8) := by kernel_rfl
def o39_14 : List AOper := [⟨some 23, (.mov (.tmp 8)), false, none⟩,
  ⟨some 9, (.mov (.tmp 23)), false, none⟩]
def c39_15 : ACode := (.region o39_14 [2, 4, 5, 6, 7, 8, 9])
def w39_15 (_P : Program) (Q : Exit → Slots → Mem → Prop) (M : Mem) (v2 : V) (v4 : V) (v5 : V) (v6 : V) (v7 : V) (v8 : V) : Prop :=
  Q .normal [(2, v2), (4, v4), (5, v5), (6, v6), (7, v7), (8, v8), (9, v8)] M
theorem e39_15 (P : Program) (Q : Exit → Slots → Mem → Prop) (s : Slots) (M : Mem) : wpC P c39_15 Q s M = w39_15 P Q M (sget s 2) (sget s 4) (sget s 5) (sget s 6) (sget s 7) (sget s 8) := by kernel_rfl
def o39_16 : List AOper := [⟨some 24, (.mov (.tmp 9)), false, none⟩,
  ⟨some 25, (.mov (.tmp 6)), false, none⟩,
  ⟨some 26, (.bin .lss .none (.tmp 24) (.tmp 25)), true, none⟩]
def c39_17 : ACode := (.seq (.region o39_16 [2, 4, 5, 6, 7, 8, 9, 26]) (.cond (.tmp 26) .skip (.exit 2)))
def w39_17 (_P : Program) (Q : Exit → Slots → Mem → Prop) (M : Mem) (v2 : V) (v4 : V) (v5 : V) (v6 : V) (v7 : V) (v8 : V) (v9 : V) : Prop :=
  @OptBH (binV .lss .none v9 v6) ⟨fun b26_3 =>
  @BIfH b26_3
  ⟨Q .normal [(2, v2), (4, v4), (5, v5), (6, v6), (7, v7), (8, v8), (9, v9), (26, (.bool b26_3))] M⟩
  ⟨Q (.exit 2) [(2, v2), (4, v4), (5, v5), (6, v6), (7, v7), (8, v8), (9, v9), (26, (.bool b26_3))] M⟩⟩
theorem e39_17 (P : Program) (Q : Exit → Slots → Mem → Prop) (s : Slots) (M : Mem) : wpC P c39_17 Q s M = w39_17 P Q M (sget s 2) (sget s 4) (sget s 5) (sget s 6) (sget s 7) (sget s 8) (sget s 9) := by kernel_rfl
def o39_18 : List AOper := [⟨some 29, (.fieldAddr 0 (.tmp 2)), false, none⟩,
  ⟨some 30, (.load 1 false (.tmp 29)), false, none⟩,
  ⟨some 31, (.lenSl (.tmp 30)), false, none⟩,
  ⟨some 32, (.mov (.const (.int .i64 0))), false, none⟩]
def c39_19 : ACode := (.region o39_18 [2, 4, 5, 6, 7, 8, 9, 31, 32])
def w39_19 (_P : Program) (Q : Exit → Slots → Mem → Prop) (M : Mem) (v2 : V) (v4 : V) (v5 : V) (v6 : V) (v7 : V) (v8 : V) (v9 : V) : Prop :=
  @OptVH (moveV 0 v2) ⟨fun t29_1 =>
  @OptVH (loadV 1 false t29_1 M) ⟨fun t30_2 =>
  @OptVH (lenV t30_2 M) ⟨fun t31_3 =>
  Q .normal [(2, v2), (4, v4), (5, v5), (6, v6), (7, v7), (8, v8), (9, v9), (31, t31_3), (32, (.int .i64 0))] M⟩⟩⟩
theorem e39_19 (P : Program) (Q : Exit → Slots → Mem → Prop) (s : Slots) (M : Mem) : wpC P c39_19 Q s M = w39_19 P Q M (sget s 2) (sget s 4) (sget s 5) (sget s 6) (sget s 7) (sget s 8) (sget s 9) := by kernel_rfl
def o39_20 : List AOper := [⟨some 33, (.bin .lss .none (.tmp 32) (.tmp 31)), false, none⟩]
def c39_21 : ACode := (.region o39_20 [2, 4, 5, 6, 7, 8, 9, 31, 32, 33])
def w39_21 (_P : Program) (Q : Exit → Slots → Mem → Prop) (M : Mem) (v2 : V) (v4 : V) (v5 : V) (v6 : V) (v7 : V) (v8 : V) (v9 : V) (v31 : V) (v32 : V) : Prop :=
  @OptVH (binV .lss .none v32 v31) ⟨fun t33_1 =>
  Q .normal [(2, v2), (4, v4), (5, v5), (6, v6), (7, v7), (8, v8), (9, v9), (31, v31), (32, v32), (33, t33_1)] M⟩
theorem e39_21 (P : Program) (Q : Exit → Slots → Mem → Prop) (s : Slots) (M : Mem) : wpC P c39_21 Q s M = w39_21 P Q M (sget s 2) (sget s 4) (sget s 5) (sget s 6) (sget s 7) (sget s 8) (sget s 9) (sget s 31) (sget s 32) := by kernel_rfl
def c39_22 : ACode := (.cond (.tmp 33) .skip (.exit 4))
def o39_23 : List AOper := [⟨some 34, (.mov (.tmp 32)), false, none⟩,
  ⟨some 10, (.mov (.tmp 34)), false, none⟩]
def c39_24 : ACode := (.region o39_23 [2, 4, 5, 6, 7, 8, 9, 10, 31, 32])
def w39_24 (_P : Program) (Q : Exit → Slots → Mem → Prop) (M : Mem) (v2 : V) (v4 : V) (v5 : V) (v6 : V) (v7 : V) (v8 : V) (v9 : V) (v31 : V) (v32 : V) : Prop :=
  Q .normal [(2, v2), (4, v4), (5, v5), (6, v6), (7, v7), (8, v8), (9, v9), (10, v32), (31, v31), (32, v32)] M
theorem e39_24 (P : Program) (Q : Exit → Slots → Mem → Prop) (s : Slots) (M : Mem) : wpC P c39_24 Q s M = w39_24 P Q M (sget s 2) (sget s 4) (sget s 5) (sget s 6) (sget s 7) (sget s 8) (sget s 9) (sget s 31) (sget s 32) := by kernel_rfl
def o39_25 : List AOper := [⟨some 40, (.mov (.tmp 7)), false, none⟩,
  ⟨some 41, (.mov (.tmp 8)), false, none⟩,
  ⟨some 42, (.mov (.tmp 9)), false, none⟩,
  ⟨some 43, (.mov (.tmp 10)), false, none⟩,
  ⟨some 44, (.callv (.tmp 40) [(.tmp 41), (.tmp 42), (.tmp 43)]), false, none⟩]
def c39_26 : ACode := (.region o39_25 [2, 4, 5, 6, 7, 8, 9, 31, 32])
def w39_26 (P : Program) (Q : Exit → Slots → Mem → Prop) (M : Mem) (v2 : V) (v4 : V) (v5 : V) (v6 : V) (v7 : V) (v8 : V) (v9 : V) (v10 : V) (v31 : V) (v32 : V) : Prop :=
  @CallV P false v7 [v8, v9, v10] M ⟨fun _t44_5 M5 =>
  Q .normal [(2, v2), (4, v4), (5, v5), (6, v6), (7, v7), (8, v8), (9, v9), (31, v31), (32, v32)] M5⟩
theorem e39_26 (P : Program) (Q : Exit → Slots → Mem → Prop) (s : Slots) (M : Mem) : wpC P c39_26 Q s M = w39_26 P Q M (sget s 2) (sget s 4) (sget s 5) (sget s 6) (sget s 7) (sget s 8) (sget s 9) (sget s 10) (sget s 31) (sget s 32) := by kernel_rfl
def o39_27 : List AOper := [⟨some 35, (.mov (.tmp 9)), false, none⟩,
  ⟨some 36, (.bin .add .none (.tmp 35) (.const (.int .i64 1))), false, none⟩,
  ⟨some 37, (.indexArr 9 7 (.tmp 5) (.tmp 36)), false, none⟩,
  ⟨some 38, (.fieldAddr 0 (.tmp 37)), false, none⟩,
  ⟨some 39, (.load 1 false (.tmp 38)), true, none⟩]
def c39_28 : ACode := (.seq (.region o39_27 [2, 4, 5, 6, 7, 8, 9, 10, 31, 32, 39]) (.cond (.tmp 39) c39_26 .skip))
def w39_28 (P : Program) (Q : Exit → Slots → Mem → Prop) (M : Mem) (v2 : V) (v4 : V) (v5 : V) (v6 : V) (v7 : V) (v8 : V) (v9 : V) (v10 : V) (v31 : V) (v32 : V) : Prop :=
  @OptVH (binV .add .none v9 (.int .i64 1)) ⟨fun t36_2 =>
  @OptVH (indexArrV 9 7 v5 t36_2) ⟨fun t37_3 =>
  @OptVH (moveV 0 t37_3) ⟨fun t38_4 =>
  @OptBH (loadV 1 false t38_4 M) ⟨fun b39_5 =>
  @BIfH b39_5
  ⟨wpC P c39_26 Q [(2, v2), (4, v4), (5, v5), (6, v6), (7, v7), (8, v8), (9, v9), (10, v10), (31, v31), (32, v32), (39, (.bool b39_5))] M⟩
  ⟨Q .normal [(2, v2), (4, v4), (5, v5), (6, v6), (7, v7), (8, v8), (9, v9), (10, v10), (31, v31), (32, v32), (39, (.bool b39_5))] M⟩⟩⟩⟩⟩
theorem e39_28 (P : Program) (Q : Exit → Slots → Mem → Prop) (s : Slots) (M : Mem) : wpC P c39_28 Q s M = w39_28 P Q M (sget s 2) (sget s 4) (sget s 5) (sget s 6) (sget s 7) (sget s 8) (sget s 9) (sget s 10) (sget s 31) (sget s 32) := by kernel_rfl
def c39_29 : ACode := (.seq c39_24 c39_28)
def c39_30 : ACode := (.block 5 c39_29)
def o39_31 : List AOper := [⟨some 45, (.bin .add .none (.tmp 32) (.const (.int .i64 1))), false, none⟩,
  ⟨some 32, (.mov (.tmp 45)), false, none⟩]
def c39_32 : ACode := (.region o39_31 [2, 4, 5, 6, 7, 8, 9, 31, 32])
def w39_32 (_P : Program) (Q : Exit → Slots → Mem → Prop) (M : Mem) (v2 : V) (v4 : V) (v5 : V) (v6 : V) (v7 : V) (v8 : V) (v9 : V) (v31 : V) (v32 : V) : Prop :=
  @OptVH (binV .add .none v32 (.int .i64 1)) ⟨fun t45_1 =>
  Q .normal [(2, v2), (4, v4), (5, v5), (6, v6), (7, v7), (8, v8), (9, v9), (31, v31), (32, t45_1)] M⟩
theorem e39_32 (P : Program) (Q : Exit → Slots → Mem → Prop) (s : Slots) (M : Mem) : wpC P c39_32 Q s M = w39_32 P Q M (sget s 2) (sget s 4) (sget s 5) (sget s 6) (sget s 7) (sget s 8) (sget s 9) (sget s 31) (sget s 32) := by kernel_rfl
def c39_33 : ACode := (.seq c39_30 c39_32)
def c39_34 : ACode := (.seq c39_22 c39_33)
def c39_35 : ACode := (.seq c39_21 c39_34)
def c39_36 : ACode := (.loop [2, 4, 5, 6, 7, 8, 9, 31, 32] c39_35)
def c39_37 : ACode := (.block 4 c39_36)
def c39_38 : ACode := (.seq c39_19 c39_37)
def c39_39 : ACode := (.block 3 c39_38)
def o39_40 : List AOper := [⟨some 27, (.mov (.tmp 9)), false, none⟩,
  ⟨some 28, (.bin .add .none (.tmp 27) (.const (.int .i64 1))), false, none⟩,
  ⟨some 9, (.mov (.tmp 28)), false, none⟩]
def c39_41 : ACode := (.region o39_40 [2, 4, 5, 6, 7, 8, 9])
def w39_41 (_P : Program) (Q : Exit → Slots → Mem → Prop) (M : Mem) (v2 : V) (v4 : V) (v5 : V) (v6 : V) (v7 : V) (v8 : V) (v9 : V) : Prop :=
  @OptVH (binV .add .none v9 (.int .i64 1)) ⟨fun t28_2 =>
  Q .normal [(2, v2), (4, v4), (5, v5), (6, v6), (7, v7), (8, v8), (9, t28_2)] M⟩
theorem e39_41 (P : Program) (Q : Exit → Slots → Mem → Prop) (s : Slots) (M : Mem) : wpC P c39_41 Q s M = w39_41 P Q M (sget s 2) (sget s 4) (sget s 5) (sget s 6) (sget s 7) (sget s 8) (sget s 9) := by kernel_rfl
def c39_42 : ACode := (.seq c39_39 c39_41)
def c39_43 : ACode := (.seq c39_17 c39_42)
def c39_44 : ACode := (.loop [2, 4, 5, 6, 7, 8, 9] c39_43)
def c39_45 : ACode := (.block 2 c39_44)
def c39_46 : ACode := (.seq c39_15 c39_45)
def c39_47 : ACode := (.block 1 c39_46)
def o39_48 : List AOper := [⟨some 21, (.mov (.tmp 8)), false, none⟩,
  ⟨some 22, (.bin .sub .none (.tmp 21) (.const (.int .i64 1))), false, none⟩,
  ⟨some 8, (.mov (.tmp 22)), false, none⟩]
def c39_49 : ACode := (.region o39_48 [2, 4, 5, 6, 7, 8])
def w39_49 (_P : Program) (Q : Exit → Slots → Mem → Prop) (M : Mem) (v2 : V) (v4 : V) (v5 : V) (v6 : V) (v7 : V) (v8 : V) : Prop :=
  @OptVH (binV .sub .none v8 (.int .i64 1)) ⟨fun t22_2 =>
  Q .normal [(2, v2), (4, v4), (5, v5), (6, v6), (7, v7), (8, t22_2)] M⟩
theorem e39_49 (P : Program) (Q : Exit → Slots → Mem → Prop) (s : Slots) (M : Mem) : wpC P c39_49 Q s M = w39_49 P Q M (sget s 2) (sget s 4) (sget s 5) (sget s 6) (sget s 7) (sget s 8) := by kernel_rfl
def c39_50 : ACode := (.seq c39_47 c39_49)
def c39_51 : ACode := (.seq c39_13 c39_50)
def c39_52 : ACode := (.loop [2, 4, 5, 6, 7, 8] c39_51)
def c39_53 : ACode := (.block 0 c39_52)
def c39_54 : ACode := (.seq c39_11 c39_53)
def o39_55 : List AOper := [⟨some 46, (.load 63 true (.tmp 5)), false, none⟩,
  ⟨none, (.store 63 (.tmp 4) (.tmp 46)), false, none⟩]
def c39_56 : ACode := (.region o39_55 [4])
def w39_56 (_P : Program) (Q : Exit → Slots → Mem → Prop) (M : Mem) (v4 : V) (v5 : V) : Prop :=
  @OptVH (loadV 63 true v5 M) ⟨fun t46_1 =>
  @OptMH (storeVM 63 v4 t46_1 M) ⟨fun _tx_2 M2 =>
  Q .normal [(4, v4)] M2⟩⟩
theorem e39_56 (P : Program) (Q : Exit → Slots → Mem → Prop) (s : Slots) (M : Mem) : wpC P c39_56 Q s M = w39_56 P Q M (sget s 4) (sget s 5) := by kernel_rfl
def c39_57 : ACode := (.seq c39_56 .ret)
def c39_58 : ACode := (.seq c39_54 c39_57)
def c39_59 : ACode := (.seq c39_9 c39_58)
def c39_60 : ACode := (.seq c39_7 c39_59)
def c39_61 : ACode := (.seq c39_5 c39_60)
def c39_62 : ACode := (.seq c39_3 c39_61)
def c39_63 : ACode := (.seq c39_1 c39_62)
def fn_fare_divide : AFn := ⟨47, [(.cell 4 63 true)], c39_63⟩
theorem fn_fare_divide_ok : resFn PR h_fare_divide i_fare_divide = some fn_fare_divide := by kernel_rfl

def h_fare_capped : Hints := ⟨[(0, [1, 2]), (1, [1, 2, 13]), (2, [4]), (3, [4])], [], []⟩
def o40_0 : List AOper := [⟨some 2, (.box 4 (.tmp 0)), false, none⟩,
  ⟨some 4, (.mov (.const (.int .i64 0))), false, none⟩]
def c40_1 : ACode := (.region o40_0 [1, 2])
def w40_1 (_P : Program) (Q : Exit → Slots → Mem → Prop) (M : Mem) (v0 : V) (v1 : V) : Prop :=
  @OptMH (boxV 4 v0 M) ⟨fun t2_1 M1 =>
  Q .normal [(1, v1), (2, t2_1)] M1⟩
theorem e40_1 (P : Program) (Q : Exit → Slots → Mem → Prop) (s : Slots) (M : Mem) : wpC P c40_1 Q s M = w40_1 P Q M (sget s 0) (sget s 1) := by kernel_rfl
def o40_2 : List AOper := [⟨some 14, (.fieldAddr 3 (.tmp 2)), false, none⟩,
  ⟨some 15, (.load 1 false (.tmp 14)), false, none⟩,
  ⟨some 4, (.mov (.tmp 15)), false, none⟩]
def c40_3 : ACode := (.region o40_2 [4])
def w40_3 (_P : Program) (Q : Exit → Slots → Mem → Prop) (M : Mem) (v2 : V) : Prop :=
  @OptVH (moveV 3 v2) ⟨fun t14_1 =>
  @OptVH (loadV 1 false t14_1 M) ⟨fun t15_2 =>
  Q .normal [(4, t15_2)] M⟩⟩
theorem e40_3 (P : Program) (Q : Exit → Slots → Mem → Prop) (s : Slots) (M : Mem) : wpC P c40_3 Q s M = w40_3 P Q M (sget s 2) := by kernel_rfl
def c40_4 : ACode := (.seq c40_3 .ret)
def o40_5 : List AOper := [⟨some 5, (.fieldAddr 3 (.tmp 2)), false, none⟩,
  ⟨some 6, (.load 1 false (.tmp 5)), false, none⟩,
  ⟨some 7, (.bin .gtr .none (.tmp 6) (.const (.int .i64 0))), true, none⟩,
  ⟨some 8, (.mov (.tmp 7)), true, none⟩,
  ⟨some 9, (.mov (.tmp 1)), false, some (8, true)⟩,
  ⟨some 10, (.fieldAddr 3 (.tmp 2)), false, some (8, true)⟩,
  ⟨some 11, (.load 1 false (.tmp 10)), false, some (8, true)⟩,
  ⟨some 12, (.bin .gtr .none (.tmp 9) (.tmp 11)), true, some (8, true)⟩,
  ⟨some 13, (.pick (.tmp 8) (.tmp 12) (.const (.bool false))), true, none⟩]
def c40_6 : ACode := (.seq (.region o40_5 [1, 2, 13]) (.cond (.tmp 13) c40_4 .skip))
def w40_6 (P : Program) (Q : Exit → Slots → Mem → Prop) (M : Mem) (v1 : V) (v2 : V) : Prop :=
  @OptVH (moveV 3 v2) ⟨fun t5_1 =>
  @OptVH (loadV 1 false t5_1 M) ⟨fun t6_2 =>
  @OptBH (binV .gtr .none t6_2 (.int .i64 0)) ⟨fun b7_3 =>
  @BIfH b7_3
  ⟨@OptVH (moveV 3 v2) ⟨fun t10_6 =>
  @OptVH (loadV 1 false t10_6 M) ⟨fun t11_7 =>
  @OptBH (binV .gtr .none v1 t11_7) ⟨fun b12_8 =>
  @BIfH b12_8
  ⟨wpC P c40_4 Q [(1, v1), (2, v2), (13, (.bool b12_8))] M⟩
  ⟨Q .normal [(1, v1), (2, v2), (13, (.bool b12_8))] M⟩⟩⟩⟩⟩
  ⟨Q .normal [(1, v1), (2, v2), (13, (.bool false))] M⟩⟩⟩⟩
theorem e40_6 (P : Program) (Q : Exit → Slots → Mem → Prop) (s : Slots) (M : Mem) : wpC P c40_6 Q s M = w40_6 P Q M (sget s 1) (sget s 2) := by kernel_rfl
def o40_7 : List AOper := [⟨some 16, (.mov (.tmp 1)), false, none⟩,
  ⟨some 4, (.mov (.tmp 16)), false, none⟩]
def c40_8 : ACode := (.region o40_7 [4])
def w40_8 (_P : Program) (Q : Exit → Slots → Mem → Prop) (M : Mem) (v1 : V) : Prop :=
  Q .normal [(4, v1)] M
theorem e40_8 (P : Program) (Q : Exit → Slots → Mem → Prop) (s : Slots) (M : Mem) : wpC P c40_8 Q s M = w40_8 P Q M (sget s 1) := by kernel_rfl
def c40_9 : ACode := (.seq c40_8 .ret)
def c40_10 : ACode := (.seq c40_6 c40_9)
def c40_11 : ACode := (.seq c40_1 c40_10)
def fn_fare_capped : AFn := ⟨17, [(.tmp 4)], c40_11⟩
theorem fn_fare_capped_ok : resFn PR h_fare_capped i_fare_capped = some fn_fare_capped := by kernel_rfl

def h_number_Clamp : Hints := ⟨[(0, [0, 1, 2]), (1, [0, 1, 2, 9]), (2, [6]), (3, [0, 2, 13]), (4, [6]), (5, [6])], [], []⟩
def o41_0 : List AOper := [⟨some 6, (.mov (.const (.int .i64 0))), false, none⟩]
def c41_1 : ACode := (.region o41_0 [0, 1, 2])
def w41_1 (_P : Program) (Q : Exit → Slots → Mem → Prop) (M : Mem) (v0 : V) (v1 : V) (v2 : V) : Prop :=
  Q .normal [(0, v0), (1, v1), (2, v2)] M
theorem e41_1 (P : Program) (Q : Exit → Slots → Mem → Prop) (s : Slots) (M : Mem) : wpC P c41_1 Q s M = w41_1 P Q M (sget s 0) (sget s 1) (sget s 2) := by kernel_rfl
def o41_2 : List AOper := [⟨some 10, (.mov (.tmp 1)), false, none⟩,
  ⟨some 6, (.mov (.tmp 10)), false, none⟩]
def c41_3 : ACode := (.region o41_2 [6])
def w41_3 (_P : Program) (Q : Exit → Slots → Mem → Prop) (M : Mem) (v1 : V) : Prop :=
  Q .normal [(6, v1)] M
theorem e41_3 (P : Program) (Q : Exit → Slots → Mem → Prop) (s : Slots) (M : Mem) : wpC P c41_3 Q s M = w41_3 P Q M (sget s 1) := by kernel_rfl
def c41_4 : ACode := (.seq c41_3 .ret)
def o41_5 : List AOper := [⟨some 7, (.mov (.tmp 0)), false, none⟩,
  ⟨some 8, (.mov (.tmp 1)), false, none⟩,
  ⟨some 9, (.bin .lss .none (.tmp 7) (.tmp 8)), true, none⟩]
def c41_6 : ACode := (.seq (.region o41_5 [0, 1, 2, 9]) (.cond (.tmp 9) c41_4 .skip))
def w41_6 (P : Program) (Q : Exit → Slots → Mem → Prop) (M : Mem) (v0 : V) (v1 : V) (v2 : V) : Prop :=
  @OptBH (binV .lss .none v0 v1) ⟨fun b9_3 =>
  @BIfH b9_3
  ⟨wpC P c41_4 Q [(0, v0), (1, v1), (2, v2), (9, (.bool b9_3))] M⟩
  ⟨Q .normal [(0, v0), (1, v1), (2, v2), (9, (.bool b9_3))] M⟩⟩
theorem e41_6 (P : Program) (Q : Exit → Slots → Mem → Prop) (s : Slots) (M : Mem) : wpC P c41_6 Q s M = w41_6 P Q M (sget s 0) (sget s 1) (sget s 2) := by kernel_rfl
def o41_7 : List AOper := [⟨some 14, (.mov (.tmp 2)), false, none⟩,
  ⟨some 6, (.mov (.tmp 14)), false, none⟩]
def c41_8 : ACode := (.region o41_7 [6])
def w41_8 (_P : Program) (Q : Exit → Slots → Mem → Prop) (M : Mem) (v2 : V) : Prop :=
  Q .normal [(6, v2)] M
theorem e41_8 (P : Program) (Q : Exit → Slots → Mem → Prop) (s : Slots) (M : Mem) : wpC P c41_8 Q s M = w41_8 P Q M (sget s 2) := by kernel_rfl
def c41_9 : ACode := (.seq c41_8 .ret)
def o41_10 : List AOper := [⟨some 11, (.mov (.tmp 0)), false, none⟩,
  ⟨some 12, (.mov (.tmp 2)), false, none⟩,
  ⟨some 13, (.bin .gtr .none (.tmp 11) (.tmp 12)), true, none⟩]
def c41_11 : ACode := (.seq (.region o41_10 [0, 2, 13]) (.cond (.tmp 13) c41_9 .skip))
def w41_11 (P : Program) (Q : Exit → Slots → Mem → Prop) (M : Mem) (v0 : V) (v2 : V) : Prop :=
  @OptBH (binV .gtr .none v0 v2) ⟨fun b13_3 =>
  @BIfH b13_3
  ⟨wpC P c41_9 Q [(0, v0), (2, v2), (13, (.bool b13_3))] M⟩
  ⟨Q .normal [(0, v0), (2, v2), (13, (.bool b13_3))] M⟩⟩
theorem e41_11 (P : Program) (Q : Exit → Slots → Mem → Prop) (s : Slots) (M : Mem) : wpC P c41_11 Q s M = w41_11 P Q M (sget s 0) (sget s 2) := by kernel_rfl
def o41_12 : List AOper := [⟨some 15, (.mov (.tmp 0)), false, none⟩,
  ⟨some 6, (.mov (.tmp 15)), false, none⟩]
def c41_13 : ACode := (.region o41_12 [6])
def w41_13 (_P : Program) (Q : Exit → Slots → Mem → Prop) (M : Mem) (v0 : V) : Prop :=
  Q .normal [(6, v0)] M
theorem e41_13 (P : Program) (Q : Exit → Slots → Mem → Prop) (s : Slots) (M : Mem) : wpC P c41_13 Q s M = w41_13 P Q M (sget s 0) := by kernel_rfl
def c41_14 : ACode := (.seq c41_13 .ret)
def c41_15 : ACode := (.seq c41_11 c41_14)
def c41_16 : ACode := (.seq c41_6 c41_15)
def c41_17 : ACode := (.seq c41_1 c41_16)
def fn_number_Clamp : AFn := ⟨16, [(.tmp 6)], c41_17⟩
theorem fn_number_Clamp_ok : resFn PR h_number_Clamp i_number_Clamp = some fn_number_Clamp := by kernel_rfl

def h_transitref26_Fares : Hints := ⟨[(0, [1]), (1, [1, 22]), (2, [2, 3]), (3, [1, 26]), (4, [2, 3]), (5, [1, 4]), (6, [1, 4, 31]), (7, [1, 4]), (8, [1, 4, 5]), (9, [1, 4, 5, 42]), (10, [2, 3]), (11, [1, 4, 5, 6]), (12, [1, 4, 5, 6, 46]), (13, [1, 4, 5, 6]), (14, [1, 4, 5, 6, 57]), (15, [2, 3]), (16, [1, 4, 86]), (17, [2, 3]), (18, [2, 3])], [(6, [1, 4]), (12, [1, 4, 5, 6])], []⟩
def o42_0 : List AOper := [⟨some 1, (.box 4 (.tmp 0)), false, none⟩,
  ⟨some 2, (.mov (.const (.int .i64 0))), false, none⟩,
  ⟨some 3, (.mov (.const (.int .i64 0))), false, none⟩]
def c42_1 : ACode := (.region o42_0 [1])
def w42_1 (_P : Program) (Q : Exit → Slots → Mem → Prop) (M : Mem) (v0 : V) : Prop :=
  @OptMH (boxV 4 v0 M) ⟨fun t1_1 M1 =>
  Q .normal [(1, t1_1)] M1⟩
theorem e42_1 (P : Program) (Q : Exit → Slots → Mem → Prop) (s : Slots) (M : Mem) : wpC P c42_1 Q s M = w42_1 P Q M (sget s 0) := by kernel_rfl
def o42_2 : List AOper := [⟨some 2, (.mov (.const (.int .i64 (-1)))), false, none⟩,
  ⟨some 3, (.mov (.const (.int .i64 2))), false, none⟩]
def c42_3 : ACode := (.region o42_2 [2, 3])
def w42_3 (_P : Program) (Q : Exit → Slots → Mem → Prop) (M : Mem) : Prop :=
  Q .normal [(2, (.int .i64 (-1))), (3, (.int .i64 2))] M
theorem e42_3 (P : Program) (Q : Exit → Slots → Mem → Prop) (s : Slots) (M : Mem) : wpC P c42_3 Q s M = w42_3 P Q M := by kernel_rfl
def c42_4 : ACode := (.seq c42_3 .ret)
def o42_5 : List AOper := [⟨some 7, (.fieldAddr 1 (.tmp 1)), false, none⟩,
  ⟨some 8, (.load 1 false (.tmp 7)), false, none⟩,
  ⟨some 9, (.call i_transitref26_in [(.tmp 8), (.const (.int .i64 0)), (.const (.int .i64 1000000))]), true, none⟩,
  ⟨some 10, (.un .not (.tmp 9)), true, none⟩,
  ⟨some 11, (.mov (.tmp 10)), true, none⟩,
  ⟨some 12, (.fieldAddr 2 (.tmp 1)), false, some (11, false)⟩,
  ⟨some 13, (.load 1 false (.tmp 12)), false, some (11, false)⟩,
  ⟨some 14, (.call i_transitref26_in [(.tmp 13), (.const (.int .i64 0)), (.const (.int .i64 86400))]), true, some (11, false)⟩,
  ⟨some 15, (.un .not (.tmp 14)), true, some (11, false)⟩,
  ⟨some 16, (.pick (.tmp 11) (.const (.bool true)) (.tmp 15)), true, none⟩,
  ⟨some 17, (.mov (.tmp 16)), true, none⟩,
  ⟨some 18, (.fieldAddr 3 (.tmp 1)), false, some (17, false)⟩,
  ⟨some 19, (.load 1 false (.tmp 18)), false, some (17, false)⟩,
  ⟨some 20, (.call i_transitref26_in [(.tmp 19), (.const (.int .i64 0)), (.const (.int .i64 1000000))]), true, some (17, false)⟩,
  ⟨some 21, (.un .not (.tmp 20)), true, some (17, false)⟩,
  ⟨some 22, (.pick (.tmp 17) (.const (.bool true)) (.tmp 21)), true, none⟩]
def c42_6 : ACode := (.seq (.region o42_5 [1, 22]) (.cond (.tmp 22) c42_4 .skip))
def w42_6 (P : Program) (Q : Exit → Slots → Mem → Prop) (M : Mem) (v1 : V) : Prop :=
  @OptVH (moveV 1 v1) ⟨fun t7_1 =>
  @OptVH (loadV 1 false t7_1 M) ⟨fun t8_2 =>
  @CallH P i_transitref26_in [t8_2, (.int .i64 0), (.int .i64 1000000)] M ⟨fun t9_3 M3 => @OptBH (some t9_3) ⟨fun b9_3 =>
  @OptBH (unV .not (.bool b9_3)) ⟨fun b10_4 =>
  @BIfH b10_4
  ⟨wpC P c42_4 Q [(1, v1), (22, (.bool true))] M3⟩
  ⟨@OptVH (moveV 2 v1) ⟨fun t12_9 =>
  @OptVH (loadV 1 false t12_9 M3) ⟨fun t13_10 =>
  @CallH P i_transitref26_in [t13_10, (.int .i64 0), (.int .i64 86400)] M3 ⟨fun t14_11 M11 => @OptBH (some t14_11) ⟨fun b14_11 =>
  @OptBH (unV .not (.bool b14_11)) ⟨fun b15_12 =>
  @BIfH b15_12
  ⟨wpC P c42_4 Q [(1, v1), (22, (.bool true))] M11⟩
  ⟨@OptVH (moveV 3 v1) ⟨fun t18_16 =>
  @OptVH (loadV 1 false t18_16 M11) ⟨fun t19_17 =>
  @CallH P i_transitref26_in [t19_17, (.int .i64 0), (.int .i64 1000000)] M11 ⟨fun t20_18 M18 => @OptBH (some t20_18) ⟨fun b20_18 =>
  @OptBH (unV .not (.bool b20_18)) ⟨fun b21_19 =>
  @BIfH b21_19
  ⟨wpC P c42_4 Q [(1, v1), (22, (.bool b21_19))] M18⟩
  ⟨Q .normal [(1, v1), (22, (.bool b21_19))] M18⟩⟩⟩⟩⟩⟩⟩⟩⟩⟩⟩⟩⟩⟩⟩⟩⟩⟩
theorem e42_6 (P : Program) (Q : Exit → Slots → Mem → Prop) (s : Slots) (M : Mem) : wpC P c42_6 Q s M = w42_6 P Q M (sget s 1) := by kernel_rfl
def o42_7 : List AOper := [⟨some 2, (.mov (.const (.int .i64 0))), false, none⟩,
  ⟨some 3, (.mov (.const (.int .i64 5))), false, none⟩]
def c42_8 : ACode := (.region o42_7 [2, 3])
def w42_8 (_P : Program) (Q : Exit → Slots → Mem → Prop) (M : Mem) : Prop :=
  Q .normal [(2, (.int .i64 0)), (3, (.int .i64 5))] M
theorem e42_8 (P : Program) (Q : Exit → Slots → Mem → Prop) (s : Slots) (M : Mem) : wpC P c42_8 Q s M = w42_8 P Q M := by kernel_rfl
def c42_9 : ACode := (.seq c42_8 .ret)
def o42_10 : List AOper := [⟨some 23, (.fieldAddr 0 (.tmp 1)), false, none⟩,
  ⟨some 24, (.load 1 false (.tmp 23)), false, none⟩,
  ⟨some 25, (.lenSl (.tmp 24)), false, none⟩,
  ⟨some 26, (.bin .gtr .none (.tmp 25) (.const (.int .i64 16))), true, none⟩]
def c42_11 : ACode := (.seq (.region o42_10 [1, 26]) (.cond (.tmp 26) c42_9 .skip))
def w42_11 (P : Program) (Q : Exit → Slots → Mem → Prop) (M : Mem) (v1 : V) : Prop :=
  @OptVH (moveV 0 v1) ⟨fun t23_1 =>
  @OptVH (loadV 1 false t23_1 M) ⟨fun t24_2 =>
  @OptVH (lenV t24_2 M) ⟨fun t25_3 =>
  @OptBH (binV .gtr .none t25_3 (.int .i64 16)) ⟨fun b26_4 =>
  @BIfH b26_4
  ⟨wpC P c42_9 Q [(1, v1), (26, (.bool b26_4))] M⟩
  ⟨Q .normal [(1, v1), (26, (.bool b26_4))] M⟩⟩⟩⟩⟩
theorem e42_11 (P : Program) (Q : Exit → Slots → Mem → Prop) (s : Slots) (M : Mem) : wpC P c42_11 Q s M = w42_11 P Q M (sget s 1) := by kernel_rfl
def o42_12 : List AOper := [⟨some 4, (.mov (.const (.int .i64 0))), false, none⟩]
def c42_13 : ACode := (.region o42_12 [1, 4])
def w42_13 (_P : Program) (Q : Exit → Slots → Mem → Prop) (M : Mem) (v1 : V) : Prop :=
  Q .normal [(1, v1), (4, (.int .i64 0))] M
theorem e42_13 (P : Program) (Q : Exit → Slots → Mem → Prop) (s : Slots) (M : Mem) : wpC P c42_13 Q s M = w42_13 P Q M (sget s 1) := by kernel_rfl
def o42_14 : List AOper := [⟨some 27, (.mov (.tmp 4)), false, none⟩,
  ⟨some 28, (.fieldAddr 0 (.tmp 1)), false, none⟩,
  ⟨some 29, (.load 1 false (.tmp 28)), false, none⟩,
  ⟨some 30, (.lenSl (.tmp 29)), false, none⟩,
  ⟨some 31, (.bin .lss .none (.tmp 27) (.tmp 30)), true, none⟩]
def c42_15 : ACode := (.seq (.region o42_14 [1, 4, 31]) (.cond (.tmp 31) .skip (.exit 0)))
def w42_15 (_P : Program) (Q : Exit → Slots → Mem → Prop) (M : Mem) (v1 : V) (v4 : V) : Prop :=
  @OptVH (moveV 0 v1) ⟨fun t28_2 =>
  @OptVH (loadV 1 false t28_2 M) ⟨fun t29_3 =>
  @OptVH (lenV t29_3 M) ⟨fun t30_4 =>
  @OptBH (binV .lss .none v4 t30_4) ⟨fun b31_5 =>
  @BIfH b31_5
  ⟨Q .normal [(1, v1), (4, v4), (31, (.bool b31_5))] M⟩
  ⟨Q (.exit 0) [(1, v1), (4, v4), (31, (.bool b31_5))] M⟩⟩⟩⟩⟩
theorem e42_15 (P : Program) (Q : Exit → Slots → Mem → Prop) (s : Slots) (M : Mem) : wpC P c42_15 Q s M = w42_15 P Q M (sget s 1) (sget s 4) := by kernel_rfl
def o42_16 : List AOper := [⟨some 34, (.fieldAddr 0 (.tmp 1)), false, none⟩,
  ⟨some 35, (.load 1 false (.tmp 34)), false, none⟩,
  ⟨some 36, (.mov (.tmp 4)), false, none⟩,
  ⟨some 37, (.indexSl 6 (.tmp 35) (.tmp 36)), false, none⟩,
  ⟨some 38, (.load 6 true (.tmp 37)), false, none⟩,
  ⟨some 5, (.alloc [(.str []), (.int .i64 0), (.int .i64 0), (.int .i64 0), (.int .i64 0), (.int .i64 0)]), false, none⟩,
  ⟨none, (.store 6 (.tmp 5) (.tmp 38)), false, none⟩]
def c42_17 : ACode := (.region o42_16 [1, 4, 5])
def w42_17 (_P : Program) (Q : Exit → Slots → Mem → Prop) (M : Mem) (v1 : V) (v4 : V) : Prop :=
  @OptVH (moveV 0 v1) ⟨fun t34_1 =>
  @OptVH (loadV 1 false t34_1 M) ⟨fun t35_2 =>
  @OptVH (indexSlV 6 t35_2 v4 M) ⟨fun t37_4 =>
  @OptVH (loadV 6 true t37_4 M) ⟨fun t38_5 =>
  @OptMH (allocV [(.str []), (.int .i64 0), (.int .i64 0), (.int .i64 0), (.int .i64 0), (.int .i64 0)] M) ⟨fun t5_6 M6 =>
  @OptMH (storeVM 6 t5_6 t38_5 M6) ⟨fun _tx_7 M7 =>
  Q .normal [(1, v1), (4, v4), (5, t5_6)] M7⟩⟩⟩⟩⟩⟩
theorem e42_17 (P : Program) (Q : Exit → Slots → Mem → Prop) (s : Slots) (M : Mem) : wpC P c42_17 Q s M = w42_17 P Q M (sget s 1) (sget s 4) := by kernel_rfl
def o42_18 : List AOper := [⟨some 43, (.mov (.tmp 4)), false, none⟩,
  ⟨some 2, (.mov (.tmp 43)), false, none⟩,
  ⟨some 3, (.mov (.const (.int .i64 12))), false, none⟩]
def c42_19 : ACode := (.region o42_18 [2, 3])
def w42_19 (_P : Program) (Q : Exit → Slots → Mem → Prop) (M : Mem) (v4 : V) : Prop :=
  Q .normal [(2, v4), (3, (.int .i64 12))] M
theorem e42_19 (P : Program) (Q : Exit → Slots → Mem → Prop) (s : Slots) (M : Mem) : wpC P c42_19 Q s M = w42_19 P Q M (sget s 4) := by kernel_rfl
def c42_20 : ACode := (.seq c42_19 .ret)
def o42_21 : List AOper := [⟨some 39, (.fieldAddr 0 (.tmp 5)), false, none⟩,
  ⟨some 40, (.load 1 false (.tmp 39)), false, none⟩,
  ⟨some 41, (.call i_transitref26_ValidID [(.tmp 40)]), true, none⟩,
  ⟨some 42, (.un .not (.tmp 41)), true, none⟩]
def c42_22 : ACode := (.seq (.region o42_21 [1, 4, 5, 42]) (.cond (.tmp 42) c42_20 .skip))
def w42_22 (P : Program) (Q : Exit → Slots → Mem → Prop) (M : Mem) (v1 : V) (v4 : V) (v5 : V) : Prop :=
  @OptVH (moveV 0 v5) ⟨fun t39_1 =>
  @OptVH (loadV 1 false t39_1 M) ⟨fun t40_2 =>
  @CallH P i_transitref26_ValidID [t40_2] M ⟨fun t41_3 M3 => @OptBH (some t41_3) ⟨fun b41_3 =>
  @OptBH (unV .not (.bool b41_3)) ⟨fun b42_4 =>
  @BIfH b42_4
  ⟨wpC P c42_20 Q [(1, v1), (4, v4), (5, v5), (42, (.bool b42_4))] M3⟩
  ⟨Q .normal [(1, v1), (4, v4), (5, v5), (42, (.bool b42_4))] M3⟩⟩⟩⟩⟩⟩
theorem e42_22 (P : Program) (Q : Exit → Slots → Mem → Prop) (s : Slots) (M : Mem) : wpC P c42_22 Q s M = w42_22 P Q M (sget s 1) (sget s 4) (sget s 5) := by kernel_rfl
def o42_23 : List AOper := [⟨some 6, (.mov (.const (.int .i64 0))), false, none⟩]
def c42_24 : ACode := (.region o42_23 [1, 4, 5, 6])
def w42_24 (_P : Program) (Q : Exit → Slots → Mem → Prop) (M : Mem) (v1 : V) (v4 : V) (v5 : V) : Prop :=
  Q .normal [(1, v1), (4, v4), (5, v5), (6, (.int .i64 0))] M
theorem e42_24 (P : Program) (Q : Exit → Slots → Mem → Prop) (s : Slots) (M : Mem) : wpC P c42_24 Q s M = w42_24 P Q M (sget s 1) (sget s 4) (sget s 5) := by kernel_rfl
def o42_25 : List AOper := [⟨some 44, (.mov (.tmp 6)), false, none⟩,
  ⟨some 45, (.mov (.tmp 4)), false, none⟩,
  ⟨some 46, (.bin .lss .none (.tmp 44) (.tmp 45)), true, none⟩]
def c42_26 : ACode := (.seq (.region o42_25 [1, 4, 5, 6, 46]) (.cond (.tmp 46) .skip (.exit 2)))
def w42_26 (_P : Program) (Q : Exit → Slots → Mem → Prop) (M : Mem) (v1 : V) (v4 : V) (v5 : V) (v6 : V) : Prop :=
  @OptBH (binV .lss .none v6 v4) ⟨fun b46_3 =>
  @BIfH b46_3
  ⟨Q .normal [(1, v1), (4, v4), (5, v5), (6, v6), (46, (.bool b46_3))] M⟩
  ⟨Q (.exit 2) [(1, v1), (4, v4), (5, v5), (6, v6), (46, (.bool b46_3))] M⟩⟩
theorem e42_26 (P : Program) (Q : Exit → Slots → Mem → Prop) (s : Slots) (M : Mem) : wpC P c42_26 Q s M = w42_26 P Q M (sget s 1) (sget s 4) (sget s 5) (sget s 6) := by kernel_rfl
def o42_27 : List AOper := [⟨some 58, (.mov (.tmp 4)), false, none⟩,
  ⟨some 2, (.mov (.tmp 58)), false, none⟩,
  ⟨some 3, (.mov (.const (.int .i64 6))), false, none⟩]
def c42_28 : ACode := (.region o42_27 [2, 3])
def w42_28 (_P : Program) (Q : Exit → Slots → Mem → Prop) (M : Mem) (v4 : V) : Prop :=
  Q .normal [(2, v4), (3, (.int .i64 6))] M
theorem e42_28 (P : Program) (Q : Exit → Slots → Mem → Prop) (s : Slots) (M : Mem) : wpC P c42_28 Q s M = w42_28 P Q M (sget s 4) := by kernel_rfl
def c42_29 : ACode := (.seq c42_28 .ret)
def o42_30 : List AOper := [⟨some 49, (.fieldAddr 0 (.tmp 1)), false, none⟩,
  ⟨some 50, (.load 1 false (.tmp 49)), false, none⟩,
  ⟨some 51, (.mov (.tmp 6)), false, none⟩,
  ⟨some 52, (.indexSl 6 (.tmp 50) (.tmp 51)), false, none⟩,
  ⟨some 53, (.fieldAddr 0 (.tmp 52)), false, none⟩,
  ⟨some 54, (.load 1 false (.tmp 53)), false, none⟩,
  ⟨some 55, (.fieldAddr 0 (.tmp 5)), false, none⟩,
  ⟨some 56, (.load 1 false (.tmp 55)), false, none⟩,
  ⟨some 57, (.bin .eql .none (.tmp 54) (.tmp 56)), true, none⟩]
def c42_31 : ACode := (.seq (.mixed o42_30 [true, true, true, true, true, true, true, true, true] [1, 4, 5, 6, 57]) (.cond (.tmp 57) c42_29 .skip))
def w42_31 (P : Program) (Q : Exit → Slots → Mem → Prop) (M : Mem) (v1 : V) (v4 : V) (v5 : V) (v6 : V) : Prop :=
  @OptVH (moveV 0 v1) ⟨fun t49_1 =>
  @OptVH (loadV 1 false t49_1 M) ⟨fun t50_2 =>
  @OptVH (indexSlV 6 t50_2 v6 M) ⟨fun t52_4 =>
  @OptVH (moveV 0 t52_4) ⟨fun t53_5 =>
  @OptVH (loadV 1 false t53_5 M) ⟨fun t54_6 =>
  @OptVH (moveV 0 v5) ⟨fun t55_7 =>
  @OptVH (loadV 1 false t55_7 M) ⟨fun t56_8 =>
  @OptBH (binV .eql .none t54_6 t56_8) ⟨fun b57_9 =>
  @BIfH b57_9
  ⟨wpC P c42_29 Q [(1, v1), (4, v4), (5, v5), (6, v6), (57, (.bool b57_9))] M⟩
  ⟨Q .normal [(1, v1), (4, v4), (5, v5), (6, v6), (57, (.bool b57_9))] M⟩⟩⟩⟩⟩⟩⟩⟩⟩
theorem e42_31 (P : Program) (Q : Exit → Slots → Mem → Prop) (s : Slots) (M : Mem) : wpC P c42_31 Q s M = w42_31 P Q M (sget s 1) (sget s 4) (sget s 5) (sget s 6) := by kernel_rfl
def c42_32 : ACode := (.block 3 c42_31)
def o42_33 : List AOper := [⟨some 47, (.mov (.tmp 6)), false, none⟩,
  ⟨some 48, (.bin .add .none (.tmp 47) (.const (.int .i64 1))), false, none⟩,
  ⟨some 6, (.mov (.tmp 48)), false, none⟩]
def c42_34 : ACode := (.region o42_33 [1, 4, 5, 6])
def w42_34 (_P : Program) (Q : Exit → Slots → Mem → Prop) (M : Mem) (v1 : V) (v4 : V) (v5 : V) (v6 : V) : Prop :=
  @OptVH (binV .add .none v6 (.int .i64 1)) ⟨fun t48_2 =>
  Q .normal [(1, v1), (4, v4), (5, v5), (6, t48_2)] M⟩
theorem e42_34 (P : Program) (Q : Exit → Slots → Mem → Prop) (s : Slots) (M : Mem) : wpC P c42_34 Q s M = w42_34 P Q M (sget s 1) (sget s 4) (sget s 5) (sget s 6) := by kernel_rfl
def c42_35 : ACode := (.seq c42_32 c42_34)
def c42_36 : ACode := (.seq c42_26 c42_35)
def c42_37 : ACode := (.loop [1, 4, 5, 6] c42_36)
def c42_38 : ACode := (.block 2 c42_37)
def c42_39 : ACode := (.seq c42_24 c42_38)
def o42_40 : List AOper := [⟨some 87, (.mov (.tmp 4)), false, none⟩,
  ⟨some 2, (.mov (.tmp 87)), false, none⟩,
  ⟨some 3, (.mov (.const (.int .i64 2))), false, none⟩]
def c42_41 : ACode := (.region o42_40 [2, 3])
def w42_41 (_P : Program) (Q : Exit → Slots → Mem → Prop) (M : Mem) (v4 : V) : Prop :=
  Q .normal [(2, v4), (3, (.int .i64 2))] M
theorem e42_41 (P : Program) (Q : Exit → Slots → Mem → Prop) (s : Slots) (M : Mem) : wpC P c42_41 Q s M = w42_41 P Q M (sget s 4) := by kernel_rfl
def c42_42 : ACode := (.seq c42_41 .ret)
def o42_43 : List AOper := [⟨some 59, (.fieldAddr 1 (.tmp 5)), false, none⟩,
  ⟨some 60, (.load 1 false (.tmp 59)), false, none⟩,
  ⟨some 61, (.call i_transitref26_in [(.tmp 60), (.const (.int .i64 0)), (.const (.int .i64 1000000))]), true, none⟩,
  ⟨some 62, (.un .not (.tmp 61)), true, none⟩,
  ⟨some 63, (.mov (.tmp 62)), true, none⟩,
  ⟨some 64, (.fieldAddr 2 (.tmp 5)), false, some (63, false)⟩,
  ⟨some 65, (.load 1 false (.tmp 64)), false, some (63, false)⟩,
  ⟨some 66, (.call i_transitref26_in [(.tmp 65), (.const (.int .i64 1)), (.const (.int .i64 8))]), true, some (63, false)⟩,
  ⟨some 67, (.un .not (.tmp 66)), true, some (63, false)⟩,
  ⟨some 68, (.pick (.tmp 63) (.const (.bool true)) (.tmp 67)), true, none⟩,
  ⟨some 69, (.mov (.tmp 68)), true, none⟩,
  ⟨some 70, (.fieldAddr 3 (.tmp 5)), false, some (69, false)⟩,
  ⟨some 71, (.load 1 false (.tmp 70)), false, some (69, false)⟩,
  ⟨some 72, (.call i_transitref26_in [(.tmp 71), (.const (.int .i64 1)), (.const (.int .i64 16))]), true, some (69, false)⟩,
  ⟨some 73, (.un .not (.tmp 72)), true, some (69, false)⟩,
  ⟨some 74, (.pick (.tmp 69) (.const (.bool true)) (.tmp 73)), true, none⟩,
  ⟨some 75, (.mov (.tmp 74)), true, none⟩,
  ⟨some 76, (.fieldAddr 4 (.tmp 5)), false, some (75, false)⟩,
  ⟨some 77, (.load 1 false (.tmp 76)), false, some (75, false)⟩,
  ⟨some 78, (.call i_transitref26_in [(.tmp 77), (.const (.int .i64 0)), (.const (.int .i64 86400))]), true, some (75, false)⟩,
  ⟨some 79, (.un .not (.tmp 78)), true, some (75, false)⟩,
  ⟨some 80, (.pick (.tmp 75) (.const (.bool true)) (.tmp 79)), true, none⟩,
  ⟨some 81, (.mov (.tmp 80)), true, none⟩,
  ⟨some 82, (.fieldAddr 5 (.tmp 5)), false, some (81, false)⟩,
  ⟨some 83, (.load 1 false (.tmp 82)), false, some (81, false)⟩,
  ⟨some 84, (.call i_transitref26_in [(.tmp 83), (.const (.int .i64 1)), (.const (.int .i64 255))]), true, some (81, false)⟩,
  ⟨some 85, (.un .not (.tmp 84)), true, some (81, false)⟩,
  ⟨some 86, (.pick (.tmp 81) (.const (.bool true)) (.tmp 85)), true, none⟩]
def c42_44 : ACode := (.seq (.region o42_43 [1, 4, 86]) (.cond (.tmp 86) c42_42 .skip))
def w42_44 (P : Program) (Q : Exit → Slots → Mem → Prop) (M : Mem) (v1 : V) (v4 : V) (v5 : V) : Prop :=
  @OptVH (moveV 1 v5) ⟨fun t59_1 =>
  @OptVH (loadV 1 false t59_1 M) ⟨fun t60_2 =>
  @CallH P i_transitref26_in [t60_2, (.int .i64 0), (.int .i64 1000000)] M ⟨fun t61_3 M3 => @OptBH (some t61_3) ⟨fun b61_3 =>
  @OptBH (unV .not (.bool b61_3)) ⟨fun b62_4 =>
  @BIfH b62_4
  ⟨wpC P c42_42 Q [(1, v1), (4, v4), (86, (.bool true))] M3⟩
  ⟨@OptVH (moveV 2 v5) ⟨fun t64_13 =>
  @OptVH (loadV 1 false t64_13 M3) ⟨fun t65_14 =>
  @CallH P i_transitref26_in [t65_14, (.int .i64 1), (.int .i64 8)] M3 ⟨fun t66_15 M15 => @OptBH (some t66_15) ⟨fun b66_15 =>
  @OptBH (unV .not (.bool b66_15)) ⟨fun b67_16 =>
  @BIfH b67_16
  ⟨wpC P c42_42 Q [(1, v1), (4, v4), (86, (.bool true))] M15⟩
  ⟨@OptVH (moveV 3 v5) ⟨fun t70_24 =>
  @OptVH (loadV 1 false t70_24 M15) ⟨fun t71_25 =>
  @CallH P i_transitref26_in [t71_25, (.int .i64 1), (.int .i64 16)] M15 ⟨fun t72_26 M26 => @OptBH (some t72_26) ⟨fun b72_26 =>
  @OptBH (unV .not (.bool b72_26)) ⟨fun b73_27 =>
  @BIfH b73_27
  ⟨wpC P c42_42 Q [(1, v1), (4, v4), (86, (.bool true))] M26⟩
  ⟨@OptVH (moveV 4 v5) ⟨fun t76_33 =>
  @OptVH (loadV 1 false t76_33 M26) ⟨fun t77_34 =>
  @CallH P i_transitref26_in [t77_34, (.int .i64 0), (.int .i64 86400)] M26 ⟨fun t78_35 M35 => @OptBH (some t78_35) ⟨fun b78_35 =>
  @OptBH (unV .not (.bool b78_35)) ⟨fun b79_36 =>
  @BIfH b79_36
  ⟨wpC P c42_42 Q [(1, v1), (4, v4), (86, (.bool true))] M35⟩
  ⟨@OptVH (moveV 5 v5) ⟨fun t82_40 =>
  @OptVH (loadV 1 false t82_40 M35) ⟨fun t83_41 =>
  @CallH P i_transitref26_in [t83_41, (.int .i64 1), (.int .i64 255)] M35 ⟨fun t84_42 M42 => @OptBH (some t84_42) ⟨fun b84_42 =>
  @OptBH (unV .not (.bool b84_42)) ⟨fun b85_43 =>
  @BIfH b85_43
  ⟨wpC P c42_42 Q [(1, v1), (4, v4), (86, (.bool b85_43))] M42⟩
  ⟨Q .normal [(1, v1), (4, v4), (86, (.bool b85_43))] M42⟩⟩⟩⟩⟩⟩⟩⟩⟩⟩⟩⟩⟩⟩⟩⟩⟩⟩⟩⟩⟩⟩⟩⟩⟩⟩⟩⟩⟩⟩
theorem e42_44 (P : Program) (Q : Exit → Slots → Mem → Prop) (s : Slots) (M : Mem) : wpC P c42_44 Q s M = w42_44 P Q M (sget s 1) (sget s 4) (sget s 5) := by kernel_rfl
def c42_45 : ACode := (.seq c42_39 c42_44)
def c42_46 : ACode := (.seq c42_22 c42_45)
def c42_47 : ACode := (.seq c42_17 c42_46)
def c42_48 : ACode := (.block 1 c42_47)
def o42_49 : List AOper := [⟨some 32, (.mov (.tmp 4)), false, none⟩,
  ⟨some 33, (.bin .add .none (.tmp 32) (.const (.int .i64 1))), false, none⟩,
  ⟨some 4, (.mov (.tmp 33)), false, none⟩]
def c42_50 : ACode := (.region o42_49 [1, 4])
def w42_50 (_P : Program) (Q : Exit → Slots → Mem → Prop) (M : Mem) (v1 : V) (v4 : V) : Prop :=
  @OptVH (binV .add .none v4 (.int .i64 1)) ⟨fun t33_2 =>
  Q .normal [(1, v1), (4, t33_2)] M⟩
theorem e42_50 (P : Program) (Q : Exit → Slots → Mem → Prop) (s : Slots) (M : Mem) : wpC P c42_50 Q s M = w42_50 P Q M (sget s 1) (sget s 4) := by kernel_rfl
def c42_51 : ACode := (.seq c42_48 c42_50)
def c42_52 : ACode := (.seq c42_15 c42_51)
def c42_53 : ACode := (.loop [1, 4] c42_52)
def c42_54 : ACode := (.block 0 c42_53)
def c42_55 : ACode := (.seq c42_13 c42_54)
def o42_56 : List AOper := [⟨some 2, (.mov (.const (.int .i64 0))), false, none⟩,
  ⟨some 3, (.mov (.const (.int .i64 0))), false, none⟩]
def c42_57 : ACode := (.region o42_56 [2, 3])
def w42_57 (_P : Program) (Q : Exit → Slots → Mem → Prop) (M : Mem) : Prop :=
  Q .normal [(2, (.int .i64 0)), (3, (.int .i64 0))] M
theorem e42_57 (P : Program) (Q : Exit → Slots → Mem → Prop) (s : Slots) (M : Mem) : wpC P c42_57 Q s M = w42_57 P Q M := by kernel_rfl
def c42_58 : ACode := (.seq c42_57 .ret)
def c42_59 : ACode := (.seq c42_55 c42_58)
def c42_60 : ACode := (.seq c42_11 c42_59)
def c42_61 : ACode := (.seq c42_6 c42_60)
def c42_62 : ACode := (.seq c42_1 c42_61)
def fn_transitref26_Fares : AFn := ⟨88, [(.tmp 2), (.tmp 3)], c42_62⟩
theorem fn_transitref26_Fares_ok : resFn PR h_transitref26_Fares i_transitref26_Fares = some fn_transitref26_Fares := by kernel_rfl

def h_transitref35_Covers : Hints := ⟨[(0, [1, 2, 3, 4]), (1, [1, 2, 3, 4, 9, 10]), (2, [1, 2, 3, 4, 9, 10, 11]), (3, [1, 2, 3, 4, 9, 10, 11, 15]), (4, [1, 2, 3, 4, 9, 10, 11]), (5, [1, 2, 3, 4, 9, 10, 11]), (6, [1, 2, 3, 4, 9, 10, 11]), (7, [8])], [(3, [1, 2, 3, 4, 9, 10, 11])], []⟩
def o43_0 : List AOper := [⟨some 4, (.box 6 (.tmp 0)), false, none⟩,
  ⟨some 8, (.mov (.const (.bool false))), true, none⟩]
def c43_1 : ACode := (.region o43_0 [1, 2, 3, 4])
def w43_1 (_P : Program) (Q : Exit → Slots → Mem → Prop) (M : Mem) (v0 : V) (v1 : V) (v2 : V) (v3 : V) : Prop :=
  @OptMH (boxV 6 v0 M) ⟨fun t4_1 M1 =>
  Q .normal [(1, v1), (2, v2), (3, v3), (4, t4_1)] M1⟩
theorem e43_1 (P : Program) (Q : Exit → Slots → Mem → Prop) (s : Slots) (M : Mem) : wpC P c43_1 Q s M = w43_1 P Q M (sget s 0) (sget s 1) (sget s 2) (sget s 3) := by kernel_rfl
def o43_2 : List AOper := [⟨some 9, (.mov (.const (.int .i64 0))), false, none⟩,
  ⟨some 10, (.mov (.const (.int .i64 0))), false, none⟩]
def c43_3 : ACode := (.region o43_2 [1, 2, 3, 4, 9, 10])
def w43_3 (_P : Program) (Q : Exit → Slots → Mem → Prop) (M : Mem) (v1 : V) (v2 : V) (v3 : V) (v4 : V) : Prop :=
  Q .normal [(1, v1), (2, v2), (3, v3), (4, v4), (9, (.int .i64 0)), (10, (.int .i64 0))] M
theorem e43_3 (P : Program) (Q : Exit → Slots → Mem → Prop) (s : Slots) (M : Mem) : wpC P c43_3 Q s M = w43_3 P Q M (sget s 1) (sget s 2) (sget s 3) (sget s 4) := by kernel_rfl
def o43_4 : List AOper := [⟨some 12, (.mov (.tmp 2)), false, none⟩,
  ⟨some 11, (.mov (.tmp 12)), false, none⟩]
def c43_5 : ACode := (.region o43_4 [1, 2, 3, 4, 9, 10, 11])
def w43_5 (_P : Program) (Q : Exit → Slots → Mem → Prop) (M : Mem) (v1 : V) (v2 : V) (v3 : V) (v4 : V) (v9 : V) (v10 : V) : Prop :=
  Q .normal [(1, v1), (2, v2), (3, v3), (4, v4), (9, v9), (10, v10), (11, v2)] M
theorem e43_5 (P : Program) (Q : Exit → Slots → Mem → Prop) (s : Slots) (M : Mem) : wpC P c43_5 Q s M = w43_5 P Q M (sget s 1) (sget s 2) (sget s 3) (sget s 4) (sget s 9) (sget s 10) := by kernel_rfl
def o43_6 : List AOper := [⟨some 13, (.mov (.tmp 11)), false, none⟩,
  ⟨some 14, (.mov (.tmp 3)), false, none⟩,
  ⟨some 15, (.bin .leq .none (.tmp 13) (.tmp 14)), true, none⟩]
def c43_7 : ACode := (.seq (.region o43_6 [1, 2, 3, 4, 9, 10, 11, 15]) (.cond (.tmp 15) .skip (.exit 0)))
def w43_7 (_P : Program) (Q : Exit → Slots → Mem → Prop) (M : Mem) (v1 : V) (v2 : V) (v3 : V) (v4 : V) (v9 : V) (v10 : V) (v11 : V) : Prop :=
  @OptBH (binV .leq .none v11 v3) ⟨fun b15_3 =>
  @BIfH b15_3
  ⟨Q .normal [(1, v1), (2, v2), (3, v3), (4, v4), (9, v9), (10, v10), (11, v11), (15, (.bool b15_3))] M⟩
  ⟨Q (.exit 0) [(1, v1), (2, v2), (3, v3), (4, v4), (9, v9), (10, v10), (11, v11), (15, (.bool b15_3))] M⟩⟩
theorem e43_7 (P : Program) (Q : Exit → Slots → Mem → Prop) (s : Slots) (M : Mem) : wpC P c43_7 Q s M = w43_7 P Q M (sget s 1) (sget s 2) (sget s 3) (sget s 4) (sget s 9) (sget s 10) (sget s 11) := by kernel_rfl
def o43_8 : List AOper := [⟨some 18, (.mov (.tmp 9)), false, none⟩,
  ⟨some 19, (.mov (.tmp 1)), false, none⟩,
  ⟨some 20, (.mov (.tmp 11)), false, none⟩,
  ⟨some 21, (.indexSl 4 (.tmp 19) (.tmp 20)), false, none⟩,
  ⟨some 22, (.fieldAddr 2 (.tmp 21)), false, none⟩,
  ⟨some 23, (.load 1 false (.tmp 22)), false, none⟩,
  ⟨some 24, (.bin .or .none (.tmp 18) (.tmp 23)), false, none⟩,
  ⟨some 9, (.mov (.tmp 24)), false, none⟩]
def c43_9 : ACode := (.region o43_8 [1, 2, 3, 4, 9, 10, 11])
def w43_9 (_P : Program) (Q : Exit → Slots → Mem → Prop) (M : Mem) (v1 : V) (v2 : V) (v3 : V) (v4 : V) (v9 : V) (v10 : V) (v11 : V) : Prop :=
  @OptVH (indexSlV 4 v1 v11 M) ⟨fun t21_4 =>
  @OptVH (moveV 2 t21_4) ⟨fun t22_5 =>
  @OptVH (loadV 1 false t22_5 M) ⟨fun t23_6 =>
  @OptVH (binV .or .none v9 t23_6) ⟨fun t24_7 =>
  Q .normal [(1, v1), (2, v2), (3, v3), (4, v4), (9, t24_7), (10, v10), (11, v11)] M⟩⟩⟩⟩
theorem e43_9 (P : Program) (Q : Exit → Slots → Mem → Prop) (s : Slots) (M : Mem) : wpC P c43_9 Q s M = w43_9 P Q M (sget s 1) (sget s 2) (sget s 3) (sget s 4) (sget s 9) (sget s 10) (sget s 11) := by kernel_rfl
def o43_10 : List AOper := [⟨some 25, (.mov (.tmp 10)), false, none⟩,
  ⟨some 26, (.mov (.tmp 1)), false, none⟩,
  ⟨some 27, (.mov (.tmp 11)), false, none⟩,
  ⟨some 28, (.indexSl 4 (.tmp 26) (.tmp 27)), false, none⟩,
  ⟨some 29, (.fieldAddr 3 (.tmp 28)), false, none⟩,
  ⟨some 30, (.load 1 false (.tmp 29)), false, none⟩,
  ⟨some 31, (.bin .or .none (.tmp 25) (.tmp 30)), false, none⟩,
  ⟨some 10, (.mov (.tmp 31)), false, none⟩]
def c43_11 : ACode := (.region o43_10 [1, 2, 3, 4, 9, 10, 11])
def w43_11 (_P : Program) (Q : Exit → Slots → Mem → Prop) (M : Mem) (v1 : V) (v2 : V) (v3 : V) (v4 : V) (v9 : V) (v10 : V) (v11 : V) : Prop :=
  @OptVH (indexSlV 4 v1 v11 M) ⟨fun t28_4 =>
  @OptVH (moveV 3 t28_4) ⟨fun t29_5 =>
  @OptVH (loadV 1 false t29_5 M) ⟨fun t30_6 =>
  @OptVH (binV .or .none v10 t30_6) ⟨fun t31_7 =>
  Q .normal [(1, v1), (2, v2), (3, v3), (4, v4), (9, v9), (10, t31_7), (11, v11)] M⟩⟩⟩⟩
theorem e43_11 (P : Program) (Q : Exit → Slots → Mem → Prop) (s : Slots) (M : Mem) : wpC P c43_11 Q s M = w43_11 P Q M (sget s 1) (sget s 2) (sget s 3) (sget s 4) (sget s 9) (sget s 10) (sget s 11) := by kernel_rfl
def c43_12 : ACode := (.seq c43_9 c43_11)
def c43_13 : ACode := (.block 1 c43_12)
def o43_14 : List AOper := [⟨some 16, (.mov (.tmp 11)), false, none⟩,
  ⟨some 17, (.bin .add .none (.tmp 16) (.const (.int .i64 1))), false, none⟩,
  ⟨some 11, (.mov (.tmp 17)), false, none⟩]
def c43_15 : ACode := (.region o43_14 [1, 2, 3, 4, 9, 10, 11])
def w43_15 (_P : Program) (Q : Exit → Slots → Mem → Prop) (M : Mem) (v1 : V) (v2 : V) (v3 : V) (v4 : V) (v9 : V) (v10 : V) (v11 : V) : Prop :=
  @OptVH (binV .add .none v11 (.int .i64 1)) ⟨fun t17_2 =>
  Q .normal [(1, v1), (2, v2), (3, v3), (4, v4), (9, v9), (10, v10), (11, t17_2)] M⟩
theorem e43_15 (P : Program) (Q : Exit → Slots → Mem → Prop) (s : Slots) (M : Mem) : wpC P c43_15 Q s M = w43_15 P Q M (sget s 1) (sget s 2) (sget s 3) (sget s 4) (sget s 9) (sget s 10) (sget s 11) := by kernel_rfl
def c43_16 : ACode := (.seq c43_13 c43_15)
def c43_17 : ACode := (.seq c43_7 c43_16)
def c43_18 : ACode := (.loop [1, 2, 3, 4, 9, 10, 11] c43_17)
def c43_19 : ACode := (.block 0 c43_18)
def c43_20 : ACode := (.seq c43_5 c43_19)
def o43_21 : List AOper := [⟨some 32, (.mov (.tmp 3)), false, none⟩,
  ⟨some 33, (.mov (.tmp 2)), false, none⟩,
  ⟨some 34, (.bin .sub .none (.tmp 32) (.tmp 33)), false, none⟩,
  ⟨some 35, (.bin .add .none (.tmp 34) (.const (.int .i64 1))), false, none⟩,
  ⟨some 36, (.fieldAddr 2 (.tmp 4)), false, none⟩,
  ⟨some 37, (.load 1 false (.tmp 36)), false, none⟩,
  ⟨some 38, (.bin .leq .none (.tmp 35) (.tmp 37)), true, none⟩,
  ⟨some 39, (.mov (.tmp 38)), true, none⟩,
  ⟨some 40, (.mov (.tmp 9)), false, some (39, true)⟩,
  ⟨some 41, (.call i_transitref35_bits [(.tmp 40)]), false, some (39, true)⟩,
  ⟨some 42, (.fieldAddr 3 (.tmp 4)), false, some (39, true)⟩,
  ⟨some 43, (.load 1 false (.tmp 42)), false, some (39, true)⟩,
  ⟨some 44, (.bin .leq .none (.tmp 41) (.tmp 43)), true, some (39, true)⟩,
  ⟨some 45, (.pick (.tmp 39) (.tmp 44) (.const (.bool false))), true, none⟩,
  ⟨some 46, (.mov (.tmp 45)), true, none⟩,
  ⟨some 47, (.mov (.tmp 1)), false, some (46, true)⟩,
  ⟨some 48, (.mov (.tmp 2)), false, some (46, true)⟩,
  ⟨some 49, (.indexSl 4 (.tmp 47) (.tmp 48)), false, some (46, true)⟩,
  ⟨some 50, (.fieldAddr 0 (.tmp 49)), false, some (46, true)⟩,
  ⟨some 51, (.load 1 false (.tmp 50)), false, some (46, true)⟩,
  ⟨some 52, (.mov (.tmp 1)), false, some (46, true)⟩,
  ⟨some 53, (.mov (.tmp 3)), false, some (46, true)⟩,
  ⟨some 54, (.indexSl 4 (.tmp 52) (.tmp 53)), false, some (46, true)⟩,
  ⟨some 55, (.fieldAddr 0 (.tmp 54)), false, some (46, true)⟩,
  ⟨some 56, (.load 1 false (.tmp 55)), false, some (46, true)⟩,
  ⟨some 57, (.fieldAddr 4 (.tmp 4)), false, some (46, true)⟩,
  ⟨some 58, (.load 1 false (.tmp 57)), false, some (46, true)⟩,
  ⟨some 59, (.call i_transitref35_within [(.tmp 51), (.tmp 56), (.tmp 58)]), true, some (46, true)⟩,
  ⟨some 60, (.pick (.tmp 46) (.tmp 59) (.const (.bool false))), true, none⟩,
  ⟨some 61, (.mov (.tmp 60)), true, none⟩,
  ⟨some 62, (.mov (.tmp 10)), false, some (61, true)⟩,
  ⟨some 63, (.fieldAddr 5 (.tmp 4)), false, some (61, true)⟩,
  ⟨some 64, (.load 1 false (.tmp 63)), false, some (61, true)⟩,
  ⟨some 65, (.bin .andNot .none (.tmp 62) (.tmp 64)), false, some (61, true)⟩,
  ⟨some 66, (.bin .eql .none (.tmp 65) (.const (.int .i64 0))), true, some (61, true)⟩,
  ⟨some 67, (.pick (.tmp 61) (.tmp 66) (.const (.bool false))), true, none⟩,
  ⟨some 8, (.mov (.tmp 67)), true, none⟩]
def c43_22 : ACode := (.mixed o43_21 [true, true, true, true, true, true, true, true, true, true, true, true, true, true, true, true, true, true, true, true, true, true, true, true, true, true, true, false, true, true, true, true, true, true, true, true, true] [8])
def w43_22 (P : Program) (Q : Exit → Slots → Mem → Prop) (M : Mem) (v1 : V) (v2 : V) (v3 : V) (v4 : V) (v9 : V) (v10 : V) : Prop :=
  @OptVH (binV .sub .none v3 v2) ⟨fun t34_3 =>
  @OptVH (binV .add .none t34_3 (.int .i64 1)) ⟨fun t35_4 =>
  @OptVH (moveV 2 v4) ⟨fun t36_5 =>
  @OptVH (loadV 1 false t36_5 M) ⟨fun t37_6 =>
  @OptBH (binV .leq .none t35_4 t37_6) ⟨fun b38_7 =>
  @BIfH b38_7
  ⟨@CallQ P i_transitref35_bits [v9] M ⟨fun t41_10 M10 =>
  @OptVH (moveV 3 v4) ⟨fun t42_11 =>
  @OptVH (loadV 1 false t42_11 M10) ⟨fun t43_12 =>
  @OptBH (binV .leq .none t41_10 t43_12) ⟨fun b44_13 =>
  @BIfH b44_13
  ⟨@OptVH (indexSlV 4 v1 v2 M10) ⟨fun t49_18 =>
  @OptVH (moveV 0 t49_18) ⟨fun t50_19 =>
  @OptVH (loadV 1 false t50_19 M10) ⟨fun t51_20 =>
  @OptVH (indexSlV 4 v1 v3 M10) ⟨fun t54_23 =>
  @OptVH (moveV 0 t54_23) ⟨fun t55_24 =>
  @OptVH (loadV 1 false t55_24 M10) ⟨fun t56_25 =>
  @OptVH (moveV 4 v4) ⟨fun t57_26 =>
  @OptVH (loadV 1 false t57_26 M10) ⟨fun t58_27 =>
  @CallH P i_transitref35_within [t51_20, t56_25, t58_27] M10 ⟨fun t59_28 M28 => @OptBH (some t59_28) ⟨fun b59_28 =>
  @BIfH b59_28
  ⟨@OptVH (moveV 5 v4) ⟨fun t63_32 =>
  @OptVH (loadV 1 false t63_32 M28) ⟨fun t64_33 =>
  @OptVH (binV .andNot .none v10 t64_33) ⟨fun t65_34 =>
  @OptBH (binV .eql .none t65_34 (.int .i64 0)) ⟨fun b66_35 =>
  Q .normal [(8, (.bool b66_35))] M28⟩⟩⟩⟩⟩
  ⟨Q .normal [(8, (.bool false))] M28⟩⟩⟩⟩⟩⟩⟩⟩⟩⟩⟩⟩
  ⟨Q .normal [(8, (.bool false))] M10⟩⟩⟩⟩⟩⟩
  ⟨Q .normal [(8, (.bool false))] M⟩⟩⟩⟩⟩⟩
theorem e43_22 (P : Program) (Q : Exit → Slots → Mem → Prop) (s : Slots) (M : Mem) : wpC P c43_22 Q s M = w43_22 P Q M (sget s 1) (sget s 2) (sget s 3) (sget s 4) (sget s 9) (sget s 10) := by kernel_rfl
def c43_23 : ACode := (.seq c43_22 .ret)
def c43_24 : ACode := (.seq c43_20 c43_23)
def c43_25 : ACode := (.seq c43_3 c43_24)
def c43_26 : ACode := (.seq c43_1 c43_25)
def fn_transitref35_Covers : AFn := ⟨68, [(.tmp 8)], c43_26⟩
theorem fn_transitref35_Covers_ok : resFn PR h_transitref35_Covers i_transitref35_Covers = some fn_transitref35_Covers := by kernel_rfl

def h_transitref35_Ticket : Hints := ⟨[(0, [2, 3, 4, 5]), (1, [4, 5, 26]), (2, [8]), (3, [8])], [], []⟩
def o44_0 : List AOper := [⟨some 4, (.box 4 (.tmp 0)), false, none⟩,
  ⟨some 5, (.box 6 (.tmp 1)), false, none⟩,
  ⟨some 8, (.mov (.const (.int .i64 0))), false, none⟩]
def c44_1 : ACode := (.region o44_0 [2, 3, 4, 5])
def w44_1 (_P : Program) (Q : Exit → Slots → Mem → Prop) (M : Mem) (v0 : V) (v1 : V) (v2 : V) (v3 : V) : Prop :=
  @OptMH (boxV 4 v0 M) ⟨fun t4_1 M1 =>
  @OptMH (boxV 6 v1 M1) ⟨fun t5_2 M2 =>
  Q .normal [(2, v2), (3, v3), (4, t4_1), (5, t5_2)] M2⟩⟩
theorem e44_1 (P : Program) (Q : Exit → Slots → Mem → Prop) (s : Slots) (M : Mem) : wpC P c44_1 Q s M = w44_1 P Q M (sget s 0) (sget s 1) (sget s 2) (sget s 3) := by kernel_rfl
def o44_2 : List AOper := [⟨some 27, (.fieldAddr 1 (.tmp 5)), false, none⟩,
  ⟨some 28, (.load 1 false (.tmp 27)), false, none⟩,
  ⟨some 29, (.fieldAddr 1 (.tmp 4)), false, none⟩,
  ⟨some 30, (.load 1 false (.tmp 29)), false, none⟩,
  ⟨some 31, (.bin .sub .none (.tmp 28) (.tmp 30)), false, none⟩,
  ⟨some 32, (.minmax true (.const (.int .i64 0)) (.tmp 31)), false, none⟩,
  ⟨some 8, (.mov (.tmp 32)), false, none⟩]
def c44_3 : ACode := (.region o44_2 [8])
def w44_3 (_P : Program) (Q : Exit → Slots → Mem → Prop) (M : Mem) (v4 : V) (v5 : V) : Prop :=
  @OptVH (moveV 1 v5) ⟨fun t27_1 =>
  @OptVH (loadV 1 false t27_1 M) ⟨fun t28_2 =>
  @OptVH (moveV 1 v4) ⟨fun t29_3 =>
  @OptVH (loadV 1 false t29_3 M) ⟨fun t30_4 =>
  @OptVH (binV .sub .none t28_2 t30_4) ⟨fun t31_5 =>
  @OptVH (minmaxV true (.int .i64 0) t31_5) ⟨fun t32_6 =>
  Q .normal [(8, t32_6)] M⟩⟩⟩⟩⟩⟩
theorem e44_3 (P : Program) (Q : Exit → Slots → Mem → Prop) (s : Slots) (M : Mem) : wpC P c44_3 Q s M = w44_3 P Q M (sget s 4) (sget s 5) := by kernel_rfl
def c44_4 : ACode := (.seq c44_3 .ret)
def o44_5 : List AOper := [⟨some 9, (.mov (.tmp 3)), false, none⟩,
  ⟨some 10, (.bin .gtr .none (.tmp 9) (.const (.int .i64 0))), true, none⟩,
  ⟨some 11, (.mov (.tmp 10)), true, none⟩,
  ⟨some 12, (.mov (.tmp 2)), false, some (11, true)⟩,
  ⟨some 13, (.mov (.tmp 3)), false, some (11, true)⟩,
  ⟨some 14, (.bin .sub .none (.tmp 13) (.const (.int .i64 1))), false, some (11, true)⟩,
  ⟨some 15, (.indexSl 4 (.tmp 12) (.tmp 14)), false, some (11, true)⟩,
  ⟨some 16, (.fieldAddr 1 (.tmp 15)), false, some (11, true)⟩,
  ⟨some 17, (.load 1 false (.tmp 16)), false, some (11, true)⟩,
  ⟨some 18, (.mov (.tmp 2)), false, some (11, true)⟩,
  ⟨some 19, (.mov (.tmp 3)), false, some (11, true)⟩,
  ⟨some 20, (.indexSl 4 (.tmp 18) (.tmp 19)), false, some (11, true)⟩,
  ⟨some 21, (.fieldAddr 0 (.tmp 20)), false, some (11, true)⟩,
  ⟨some 22, (.load 1 false (.tmp 21)), false, some (11, true)⟩,
  ⟨some 23, (.fieldAddr 2 (.tmp 4)), false, some (11, true)⟩,
  ⟨some 24, (.load 1 false (.tmp 23)), false, some (11, true)⟩,
  ⟨some 25, (.call i_transitref35_within [(.tmp 17), (.tmp 22), (.tmp 24)]), true, some (11, true)⟩,
  ⟨some 26, (.pick (.tmp 11) (.tmp 25) (.const (.bool false))), true, none⟩]
def c44_6 : ACode := (.seq (.mixed o44_5 [true, true, true, true, true, true, true, true, true, true, true, true, true, true, true, true, false, true] [4, 5, 26]) (.cond (.tmp 26) c44_4 .skip))
def w44_6 (P : Program) (Q : Exit → Slots → Mem → Prop) (M : Mem) (v2 : V) (v3 : V) (v4 : V) (v5 : V) : Prop :=
  @OptBH (binV .gtr .none v3 (.int .i64 0)) ⟨fun b10_2 =>
  @BIfH b10_2
  ⟨@OptVH (binV .sub .none v3 (.int .i64 1)) ⟨fun t14_6 =>
  @OptVH (indexSlV 4 v2 t14_6 M) ⟨fun t15_7 =>
  @OptVH (moveV 1 t15_7) ⟨fun t16_8 =>
  @OptVH (loadV 1 false t16_8 M) ⟨fun t17_9 =>
  @OptVH (indexSlV 4 v2 v3 M) ⟨fun t20_12 =>
  @OptVH (moveV 0 t20_12) ⟨fun t21_13 =>
  @OptVH (loadV 1 false t21_13 M) ⟨fun t22_14 =>
  @OptVH (moveV 2 v4) ⟨fun t23_15 =>
  @OptVH (loadV 1 false t23_15 M) ⟨fun t24_16 =>
  @CallH P i_transitref35_within [t17_9, t22_14, t24_16] M ⟨fun t25_17 M17 => @OptBH (some t25_17) ⟨fun b25_17 =>
  @BIfH b25_17
  ⟨wpC P c44_4 Q [(4, v4), (5, v5), (26, (.bool b25_17))] M17⟩
  ⟨Q .normal [(4, v4), (5, v5), (26, (.bool b25_17))] M17⟩⟩⟩⟩⟩⟩⟩⟩⟩⟩⟩⟩⟩
  ⟨Q .normal [(4, v4), (5, v5), (26, (.bool false))] M⟩⟩
theorem e44_6 (P : Program) (Q : Exit → Slots → Mem → Prop) (s : Slots) (M : Mem) : wpC P c44_6 Q s M = w44_6 P Q M (sget s 2) (sget s 3) (sget s 4) (sget s 5) := by kernel_rfl
def o44_7 : List AOper := [⟨some 33, (.fieldAddr 1 (.tmp 5)), false, none⟩,
  ⟨some 34, (.load 1 false (.tmp 33)), false, none⟩,
  ⟨some 8, (.mov (.tmp 34)), false, none⟩]
def c44_8 : ACode := (.region o44_7 [8])
def w44_8 (_P : Program) (Q : Exit → Slots → Mem → Prop) (M : Mem) (v5 : V) : Prop :=
  @OptVH (moveV 1 v5) ⟨fun t33_1 =>
  @OptVH (loadV 1 false t33_1 M) ⟨fun t34_2 =>
  Q .normal [(8, t34_2)] M⟩⟩
theorem e44_8 (P : Program) (Q : Exit → Slots → Mem → Prop) (s : Slots) (M : Mem) : wpC P c44_8 Q s M = w44_8 P Q M (sget s 5) := by kernel_rfl
def c44_9 : ACode := (.seq c44_8 .ret)
def c44_10 : ACode := (.seq c44_6 c44_9)
def c44_11 : ACode := (.seq c44_1 c44_10)
def fn_transitref35_Ticket : AFn := ⟨35, [(.tmp 8)], c44_11⟩
theorem fn_transitref35_Ticket_ok : resFn PR h_transitref35_Ticket i_transitref35_Ticket = some fn_transitref35_Ticket := by kernel_rfl

def h_transitref35_better : Hints := ⟨[(0, [0, 1]), (1, [0, 1, 10]), (2, [4]), (3, [0, 1, 20]), (4, [4]), (5, [0, 1, 5]), (6, [0, 1, 5, 29]), (7, [0, 1, 5]), (8, [0, 1, 5, 42]), (9, [4]), (10, [0, 1, 5, 64]), (11, [4]), (12, [4])], [(6, [0, 1, 5])], []⟩
def o45_0 : List AOper := [⟨some 4, (.mov (.const (.bool false))), true, none⟩]
def c45_1 : ACode := (.region o45_0 [0, 1])
def w45_1 (_P : Program) (Q : Exit → Slots → Mem → Prop) (M : Mem) (v0 : V) (v1 : V) : Prop :=
  Q .normal [(0, v0), (1, v1)] M
theorem e45_1 (P : Program) (Q : Exit → Slots → Mem → Prop) (s : Slots) (M : Mem) : wpC P c45_1 Q s M = w45_1 P Q M (sget s 0) (sget s 1) := by kernel_rfl
def o45_2 : List AOper := [⟨some 11, (.mov (.tmp 0)), false, none⟩,
  ⟨some 12, (.call i_transitref35_Sum [(.tmp 11)]), false, none⟩,
  ⟨some 13, (.mov (.tmp 1)), false, none⟩,
  ⟨some 14, (.call i_transitref35_Sum [(.tmp 13)]), false, none⟩,
  ⟨some 15, (.bin .lss .none (.tmp 12) (.tmp 14)), true, none⟩,
  ⟨some 4, (.mov (.tmp 15)), true, none⟩]
def c45_3 : ACode := (.region o45_2 [4])
def w45_3 (P : Program) (Q : Exit → Slots → Mem → Prop) (M : Mem) (v0 : V) (v1 : V) : Prop :=
  @CallH P i_transitref35_Sum [v0] M ⟨fun t12_2 M2 =>
  @CallH P i_transitref35_Sum [v1] M2 ⟨fun t14_4 M4 =>
  @OptBH (binV .lss .none t12_2 t14_4) ⟨fun b15_5 =>
  Q .normal [(4, (.bool b15_5))] M4⟩⟩⟩
theorem e45_3 (P : Program) (Q : Exit → Slots → Mem → Prop) (s : Slots) (M : Mem) : wpC P c45_3 Q s M = w45_3 P Q M (sget s 0) (sget s 1) := by kernel_rfl
def c45_4 : ACode := (.seq c45_3 .ret)
def o45_5 : List AOper := [⟨some 6, (.mov (.tmp 0)), false, none⟩,
  ⟨some 7, (.call i_transitref35_Sum [(.tmp 6)]), false, none⟩,
  ⟨some 8, (.mov (.tmp 1)), false, none⟩,
  ⟨some 9, (.call i_transitref35_Sum [(.tmp 8)]), false, none⟩,
  ⟨some 10, (.bin .neq .none (.tmp 7) (.tmp 9)), true, none⟩]
def c45_6 : ACode := (.seq (.region o45_5 [0, 1, 10]) (.cond (.tmp 10) c45_4 .skip))
def w45_6 (P : Program) (Q : Exit → Slots → Mem → Prop) (M : Mem) (v0 : V) (v1 : V) : Prop :=
  @CallH P i_transitref35_Sum [v0] M ⟨fun t7_2 M2 =>
  @CallH P i_transitref35_Sum [v1] M2 ⟨fun t9_4 M4 =>
  @OptBH (binV .neq .none t7_2 t9_4) ⟨fun b10_5 =>
  @BIfH b10_5
  ⟨wpC P c45_4 Q [(0, v0), (1, v1), (10, (.bool b10_5))] M4⟩
  ⟨Q .normal [(0, v0), (1, v1), (10, (.bool b10_5))] M4⟩⟩⟩⟩
theorem e45_6 (P : Program) (Q : Exit → Slots → Mem → Prop) (s : Slots) (M : Mem) : wpC P c45_6 Q s M = w45_6 P Q M (sget s 0) (sget s 1) := by kernel_rfl
def o45_7 : List AOper := [⟨some 21, (.mov (.tmp 0)), false, none⟩,
  ⟨some 22, (.lenSl (.tmp 21)), false, none⟩,
  ⟨some 23, (.mov (.tmp 1)), false, none⟩,
  ⟨some 24, (.lenSl (.tmp 23)), false, none⟩,
  ⟨some 25, (.bin .lss .none (.tmp 22) (.tmp 24)), true, none⟩,
  ⟨some 4, (.mov (.tmp 25)), true, none⟩]
def c45_8 : ACode := (.region o45_7 [4])
def w45_8 (_P : Program) (Q : Exit → Slots → Mem → Prop) (M : Mem) (v0 : V) (v1 : V) : Prop :=
  @OptVH (lenV v0 M) ⟨fun t22_2 =>
  @OptVH (lenV v1 M) ⟨fun t24_4 =>
  @OptBH (binV .lss .none t22_2 t24_4) ⟨fun b25_5 =>
  Q .normal [(4, (.bool b25_5))] M⟩⟩⟩
theorem e45_8 (P : Program) (Q : Exit → Slots → Mem → Prop) (s : Slots) (M : Mem) : wpC P c45_8 Q s M = w45_8 P Q M (sget s 0) (sget s 1) := by kernel_rfl
def c45_9 : ACode := (.seq c45_8 .ret)
def o45_10 : List AOper := [⟨some 16, (.mov (.tmp 0)), false, none⟩,
  ⟨some 17, (.lenSl (.tmp 16)), false, none⟩,
  ⟨some 18, (.mov (.tmp 1)), false, none⟩,
  ⟨some 19, (.lenSl (.tmp 18)), false, none⟩,
  ⟨some 20, (.bin .neq .none (.tmp 17) (.tmp 19)), true, none⟩]
def c45_11 : ACode := (.seq (.region o45_10 [0, 1, 20]) (.cond (.tmp 20) c45_9 .skip))
def w45_11 (P : Program) (Q : Exit → Slots → Mem → Prop) (M : Mem) (v0 : V) (v1 : V) : Prop :=
  @OptVH (lenV v0 M) ⟨fun t17_2 =>
  @OptVH (lenV v1 M) ⟨fun t19_4 =>
  @OptBH (binV .neq .none t17_2 t19_4) ⟨fun b20_5 =>
  @BIfH b20_5
  ⟨wpC P c45_9 Q [(0, v0), (1, v1), (20, (.bool b20_5))] M⟩
  ⟨Q .normal [(0, v0), (1, v1), (20, (.bool b20_5))] M⟩⟩⟩⟩
theorem e45_11 (P : Program) (Q : Exit → Slots → Mem → Prop) (s : Slots) (M : Mem) : wpC P c45_11 Q s M = w45_11 P Q M (sget s 0) (sget s 1) := by kernel_rfl
def o45_12 : List AOper := [⟨some 5, (.mov (.const (.int .i64 0))), false, none⟩]
def c45_13 : ACode := (.region o45_12 [0, 1, 5])
def w45_13 (_P : Program) (Q : Exit → Slots → Mem → Prop) (M : Mem) (v0 : V) (v1 : V) : Prop :=
  Q .normal [(0, v0), (1, v1), (5, (.int .i64 0))] M
theorem e45_13 (P : Program) (Q : Exit → Slots → Mem → Prop) (s : Slots) (M : Mem) : wpC P c45_13 Q s M = w45_13 P Q M (sget s 0) (sget s 1) := by kernel_rfl
def o45_14 : List AOper := [⟨some 26, (.mov (.tmp 5)), false, none⟩,
  ⟨some 27, (.mov (.tmp 0)), false, none⟩,
  ⟨some 28, (.lenSl (.tmp 27)), false, none⟩,
  ⟨some 29, (.bin .lss .none (.tmp 26) (.tmp 28)), true, none⟩]
def c45_15 : ACode := (.seq (.region o45_14 [0, 1, 5, 29]) (.cond (.tmp 29) .skip (.exit 0)))
def w45_15 (_P : Program) (Q : Exit → Slots → Mem → Prop) (M : Mem) (v0 : V) (v1 : V) (v5 : V) : Prop :=
  @OptVH (lenV v0 M) ⟨fun t28_3 =>
  @OptBH (binV .lss .none v5 t28_3) ⟨fun b29_4 =>
  @BIfH b29_4
  ⟨Q .normal [(0, v0), (1, v1), (5, v5), (29, (.bool b29_4))] M⟩
  ⟨Q (.exit 0) [(0, v0), (1, v1), (5, v5), (29, (.bool b29_4))] M⟩⟩⟩
theorem e45_15 (P : Program) (Q : Exit → Slots → Mem → Prop) (s : Slots) (M : Mem) : wpC P c45_15 Q s M = w45_15 P Q M (sget s 0) (sget s 1) (sget s 5) := by kernel_rfl
def o45_16 : List AOper := [⟨some 43, (.mov (.tmp 0)), false, none⟩,
  ⟨some 44, (.mov (.tmp 5)), false, none⟩,
  ⟨some 45, (.indexSl 4 (.tmp 43) (.tmp 44)), false, none⟩,
  ⟨some 46, (.fieldAddr 2 (.tmp 45)), false, none⟩,
  ⟨some 47, (.load 1 false (.tmp 46)), false, none⟩,
  ⟨some 48, (.mov (.tmp 1)), false, none⟩,
  ⟨some 49, (.mov (.tmp 5)), false, none⟩,
  ⟨some 50, (.indexSl 4 (.tmp 48) (.tmp 49)), false, none⟩,
  ⟨some 51, (.fieldAddr 2 (.tmp 50)), false, none⟩,
  ⟨some 52, (.load 1 false (.tmp 51)), false, none⟩,
  ⟨some 53, (.bin .lss .none (.tmp 47) (.tmp 52)), true, none⟩,
  ⟨some 4, (.mov (.tmp 53)), true, none⟩]
def c45_17 : ACode := (.mixed o45_16 [true, true, true, true, true, true, true, true, true, true, true, true] [4])
def w45_17 (_P : Program) (Q : Exit → Slots → Mem → Prop) (M : Mem) (v0 : V) (v1 : V) (v5 : V) : Prop :=
  @OptVH (indexSlV 4 v0 v5 M) ⟨fun t45_3 =>
  @OptVH (moveV 2 t45_3) ⟨fun t46_4 =>
  @OptVH (loadV 1 false t46_4 M) ⟨fun t47_5 =>
  @OptVH (indexSlV 4 v1 v5 M) ⟨fun t50_8 =>
  @OptVH (moveV 2 t50_8) ⟨fun t51_9 =>
  @OptVH (loadV 1 false t51_9 M) ⟨fun t52_10 =>
  @OptBH (binV .lss .none t47_5 t52_10) ⟨fun b53_11 =>
  Q .normal [(4, (.bool b53_11))] M⟩⟩⟩⟩⟩⟩⟩
theorem e45_17 (P : Program) (Q : Exit → Slots → Mem → Prop) (s : Slots) (M : Mem) : wpC P c45_17 Q s M = w45_17 P Q M (sget s 0) (sget s 1) (sget s 5) := by kernel_rfl
def c45_18 : ACode := (.seq c45_17 .ret)
def o45_19 : List AOper := [⟨some 32, (.mov (.tmp 0)), false, none⟩,
  ⟨some 33, (.mov (.tmp 5)), false, none⟩,
  ⟨some 34, (.indexSl 4 (.tmp 32) (.tmp 33)), false, none⟩,
  ⟨some 35, (.fieldAddr 2 (.tmp 34)), false, none⟩,
  ⟨some 36, (.load 1 false (.tmp 35)), false, none⟩,
  ⟨some 37, (.mov (.tmp 1)), false, none⟩,
  ⟨some 38, (.mov (.tmp 5)), false, none⟩,
  ⟨some 39, (.indexSl 4 (.tmp 37) (.tmp 38)), false, none⟩,
  ⟨some 40, (.fieldAddr 2 (.tmp 39)), false, none⟩,
  ⟨some 41, (.load 1 false (.tmp 40)), false, none⟩,
  ⟨some 42, (.bin .neq .none (.tmp 36) (.tmp 41)), true, none⟩]
def c45_20 : ACode := (.seq (.mixed o45_19 [true, true, true, true, true, true, true, true, true, true, true] [0, 1, 5, 42]) (.cond (.tmp 42) c45_18 .skip))
def w45_20 (P : Program) (Q : Exit → Slots → Mem → Prop) (M : Mem) (v0 : V) (v1 : V) (v5 : V) : Prop :=
  @OptVH (indexSlV 4 v0 v5 M) ⟨fun t34_3 =>
  @OptVH (moveV 2 t34_3) ⟨fun t35_4 =>
  @OptVH (loadV 1 false t35_4 M) ⟨fun t36_5 =>
  @OptVH (indexSlV 4 v1 v5 M) ⟨fun t39_8 =>
  @OptVH (moveV 2 t39_8) ⟨fun t40_9 =>
  @OptVH (loadV 1 false t40_9 M) ⟨fun t41_10 =>
  @OptBH (binV .neq .none t36_5 t41_10) ⟨fun b42_11 =>
  @BIfH b42_11
  ⟨wpC P c45_18 Q [(0, v0), (1, v1), (5, v5), (42, (.bool b42_11))] M⟩
  ⟨Q .normal [(0, v0), (1, v1), (5, v5), (42, (.bool b42_11))] M⟩⟩⟩⟩⟩⟩⟩⟩
theorem e45_20 (P : Program) (Q : Exit → Slots → Mem → Prop) (s : Slots) (M : Mem) : wpC P c45_20 Q s M = w45_20 P Q M (sget s 0) (sget s 1) (sget s 5) := by kernel_rfl
def o45_21 : List AOper := [⟨some 65, (.mov (.tmp 0)), false, none⟩,
  ⟨some 66, (.mov (.tmp 5)), false, none⟩,
  ⟨some 67, (.indexSl 4 (.tmp 65) (.tmp 66)), false, none⟩,
  ⟨some 68, (.fieldAddr 0 (.tmp 67)), false, none⟩,
  ⟨some 69, (.load 1 false (.tmp 68)), false, none⟩,
  ⟨some 70, (.mov (.tmp 1)), false, none⟩,
  ⟨some 71, (.mov (.tmp 5)), false, none⟩,
  ⟨some 72, (.indexSl 4 (.tmp 70) (.tmp 71)), false, none⟩,
  ⟨some 73, (.fieldAddr 0 (.tmp 72)), false, none⟩,
  ⟨some 74, (.load 1 false (.tmp 73)), false, none⟩,
  ⟨some 75, (.bin .lss .none (.tmp 69) (.tmp 74)), true, none⟩,
  ⟨some 4, (.mov (.tmp 75)), true, none⟩]
def c45_22 : ACode := (.mixed o45_21 [true, true, true, true, true, true, true, true, true, true, true, true] [4])
def w45_22 (_P : Program) (Q : Exit → Slots → Mem → Prop) (M : Mem) (v0 : V) (v1 : V) (v5 : V) : Prop :=
  @OptVH (indexSlV 4 v0 v5 M) ⟨fun t67_3 =>
  @OptVH (moveV 0 t67_3) ⟨fun t68_4 =>
  @OptVH (loadV 1 false t68_4 M) ⟨fun t69_5 =>
  @OptVH (indexSlV 4 v1 v5 M) ⟨fun t72_8 =>
  @OptVH (moveV 0 t72_8) ⟨fun t73_9 =>
  @OptVH (loadV 1 false t73_9 M) ⟨fun t74_10 =>
  @OptBH (binV .lss .none t69_5 t74_10) ⟨fun b75_11 =>
  Q .normal [(4, (.bool b75_11))] M⟩⟩⟩⟩⟩⟩⟩
theorem e45_22 (P : Program) (Q : Exit → Slots → Mem → Prop) (s : Slots) (M : Mem) : wpC P c45_22 Q s M = w45_22 P Q M (sget s 0) (sget s 1) (sget s 5) := by kernel_rfl
def c45_23 : ACode := (.seq c45_22 .ret)
def o45_24 : List AOper := [⟨some 54, (.mov (.tmp 0)), false, none⟩,
  ⟨some 55, (.mov (.tmp 5)), false, none⟩,
  ⟨some 56, (.indexSl 4 (.tmp 54) (.tmp 55)), false, none⟩,
  ⟨some 57, (.fieldAddr 0 (.tmp 56)), false, none⟩,
  ⟨some 58, (.load 1 false (.tmp 57)), false, none⟩,
  ⟨some 59, (.mov (.tmp 1)), false, none⟩,
  ⟨some 60, (.mov (.tmp 5)), false, none⟩,
  ⟨some 61, (.indexSl 4 (.tmp 59) (.tmp 60)), false, none⟩,
  ⟨some 62, (.fieldAddr 0 (.tmp 61)), false, none⟩,
  ⟨some 63, (.load 1 false (.tmp 62)), false, none⟩,
  ⟨some 64, (.bin .neq .none (.tmp 58) (.tmp 63)), true, none⟩]
def c45_25 : ACode := (.seq (.mixed o45_24 [true, true, true, true, true, true, true, true, true, true, true] [0, 1, 5, 64]) (.cond (.tmp 64) c45_23 .skip))
def w45_25 (P : Program) (Q : Exit → Slots → Mem → Prop) (M : Mem) (v0 : V) (v1 : V) (v5 : V) : Prop :=
  @OptVH (indexSlV 4 v0 v5 M) ⟨fun t56_3 =>
  @OptVH (moveV 0 t56_3) ⟨fun t57_4 =>
  @OptVH (loadV 1 false t57_4 M) ⟨fun t58_5 =>
  @OptVH (indexSlV 4 v1 v5 M) ⟨fun t61_8 =>
  @OptVH (moveV 0 t61_8) ⟨fun t62_9 =>
  @OptVH (loadV 1 false t62_9 M) ⟨fun t63_10 =>
  @OptBH (binV .neq .none t58_5 t63_10) ⟨fun b64_11 =>
  @BIfH b64_11
  ⟨wpC P c45_23 Q [(0, v0), (1, v1), (5, v5), (64, (.bool b64_11))] M⟩
  ⟨Q .normal [(0, v0), (1, v1), (5, v5), (64, (.bool b64_11))] M⟩⟩⟩⟩⟩⟩⟩⟩
theorem e45_25 (P : Program) (Q : Exit → Slots → Mem → Prop) (s : Slots) (M : Mem) : wpC P c45_25 Q s M = w45_25 P Q M (sget s 0) (sget s 1) (sget s 5) := by kernel_rfl
def c45_26 : ACode := (.seq c45_20 c45_25)
def c45_27 : ACode := (.block 1 c45_26)
def o45_28 : List AOper := [⟨some 30, (.mov (.tmp 5)), false, none⟩,
  ⟨some 31, (.bin .add .none (.tmp 30) (.const (.int .i64 1))), false, none⟩,
  ⟨some 5, (.mov (.tmp 31)), false, none⟩]
def c45_29 : ACode := (.region o45_28 [0, 1, 5])
def w45_29 (_P : Program) (Q : Exit → Slots → Mem → Prop) (M : Mem) (v0 : V) (v1 : V) (v5 : V) : Prop :=
  @OptVH (binV .add .none v5 (.int .i64 1)) ⟨fun t31_2 =>
  Q .normal [(0, v0), (1, v1), (5, t31_2)] M⟩
theorem e45_29 (P : Program) (Q : Exit → Slots → Mem → Prop) (s : Slots) (M : Mem) : wpC P c45_29 Q s M = w45_29 P Q M (sget s 0) (sget s 1) (sget s 5) := by kernel_rfl
def c45_30 : ACode := (.seq c45_27 c45_29)
def c45_31 : ACode := (.seq c45_15 c45_30)
def c45_32 : ACode := (.loop [0, 1, 5] c45_31)
def c45_33 : ACode := (.block 0 c45_32)
def c45_34 : ACode := (.seq c45_13 c45_33)
def o45_35 : List AOper := [⟨some 4, (.mov (.const (.bool false))), true, none⟩]
def c45_36 : ACode := (.region o45_35 [4])
def w45_36 (_P : Program) (Q : Exit → Slots → Mem → Prop) (M : Mem) : Prop :=
  Q .normal [(4, (.bool false))] M
theorem e45_36 (P : Program) (Q : Exit → Slots → Mem → Prop) (s : Slots) (M : Mem) : wpC P c45_36 Q s M = w45_36 P Q M := by kernel_rfl
def c45_37 : ACode := (.seq c45_36 .ret)
def c45_38 : ACode := (.seq c45_34 c45_37)
def c45_39 : ACode := (.seq c45_11 c45_38)
def c45_40 : ACode := (.seq c45_6 c45_39)
def c45_41 : ACode := (.seq c45_1 c45_40)
def fn_transitref35_better : AFn := ⟨76, [(.tmp 4)], c45_41⟩
theorem fn_transitref35_better_ok : resFn PR h_transitref35_better i_transitref35_better = some fn_transitref35_better := by kernel_rfl

def h_transitref21_within : Hints := ⟨[(0, [0, 1, 2]), (1, [6])], [], []⟩
def o46_0 : List AOper := [⟨some 6, (.mov (.const (.bool false))), true, none⟩]
def c46_1 : ACode := (.region o46_0 [0, 1, 2])
def w46_1 (_P : Program) (Q : Exit → Slots → Mem → Prop) (M : Mem) (v0 : V) (v1 : V) (v2 : V) : Prop :=
  Q .normal [(0, v0), (1, v1), (2, v2)] M
theorem e46_1 (P : Program) (Q : Exit → Slots → Mem → Prop) (s : Slots) (M : Mem) : wpC P c46_1 Q s M = w46_1 P Q M (sget s 0) (sget s 1) (sget s 2) := by kernel_rfl
def o46_2 : List AOper := [⟨some 7, (.mov (.tmp 0)), false, none⟩,
  ⟨some 8, (.mov (.tmp 1)), false, none⟩,
  ⟨some 9, (.bin .geq .none (.tmp 7) (.tmp 8)), true, none⟩,
  ⟨some 10, (.mov (.tmp 9)), true, none⟩,
  ⟨some 11, (.mov (.tmp 0)), false, some (10, true)⟩,
  ⟨some 12, (.mov (.tmp 2)), false, some (10, true)⟩,
  ⟨some 13, (.bin .leq .none (.tmp 11) (.tmp 12)), true, some (10, true)⟩,
  ⟨some 14, (.pick (.tmp 10) (.tmp 13) (.const (.bool false))), true, none⟩,
  ⟨some 6, (.mov (.tmp 14)), true, none⟩]
def c46_3 : ACode := (.region o46_2 [6])
def w46_3 (_P : Program) (Q : Exit → Slots → Mem → Prop) (M : Mem) (v0 : V) (v1 : V) (v2 : V) : Prop :=
  @OptBH (binV .geq .none v0 v1) ⟨fun b9_3 =>
  @BIfH b9_3
  ⟨@OptBH (binV .leq .none v0 v2) ⟨fun b13_7 =>
  Q .normal [(6, (.bool b13_7))] M⟩⟩
  ⟨Q .normal [(6, (.bool false))] M⟩⟩
theorem e46_3 (P : Program) (Q : Exit → Slots → Mem → Prop) (s : Slots) (M : Mem) : wpC P c46_3 Q s M = w46_3 P Q M (sget s 0) (sget s 1) (sget s 2) := by kernel_rfl
def c46_4 : ACode := (.seq c46_3 .ret)
def c46_5 : ACode := (.seq c46_1 c46_4)
def fn_transitref21_within : AFn := ⟨15, [(.tmp 6)], c46_5⟩
theorem fn_transitref21_within_ok : resFn PR h_transitref21_within i_transitref21_within = some fn_transitref21_within := by kernel_rfl

def h_transitref15_Name : Hints := ⟨[(0, [0]), (1, [0, 12]), (2, [2]), (3, [0, 3]), (4, [0, 3, 16]), (5, [0, 3]), (6, [0, 3, 4]), (7, [0, 3, 56]), (8, [2]), (9, [2])], [(4, [0, 3])], []⟩
def o47_0 : List AOper := [⟨some 2, (.mov (.const (.bool false))), true, none⟩]
def c47_1 : ACode := (.region o47_0 [0])
def w47_1 (_P : Program) (Q : Exit → Slots → Mem → Prop) (M : Mem) (v0 : V) : Prop :=
  Q .normal [(0, v0)] M
theorem e47_1 (P : Program) (Q : Exit → Slots → Mem → Prop) (s : Slots) (M : Mem) : wpC P c47_1 Q s M = w47_1 P Q M (sget s 0) := by kernel_rfl
def o47_2 : List AOper := [⟨some 2, (.mov (.const (.bool false))), true, none⟩]
def c47_3 : ACode := (.region o47_2 [2])
def w47_3 (_P : Program) (Q : Exit → Slots → Mem → Prop) (M : Mem) : Prop :=
  Q .normal [(2, (.bool false))] M
theorem e47_3 (P : Program) (Q : Exit → Slots → Mem → Prop) (s : Slots) (M : Mem) : wpC P c47_3 Q s M = w47_3 P Q M := by kernel_rfl
def c47_4 : ACode := (.seq c47_3 .ret)
def o47_5 : List AOper := [⟨some 5, (.mov (.tmp 0)), false, none⟩,
  ⟨some 6, (.lenStr (.tmp 5)), false, none⟩,
  ⟨some 7, (.bin .lss .none (.tmp 6) (.const (.int .i64 1))), true, none⟩,
  ⟨some 8, (.mov (.tmp 7)), true, none⟩,
  ⟨some 9, (.mov (.tmp 0)), false, some (8, false)⟩,
  ⟨some 10, (.lenStr (.tmp 9)), false, some (8, false)⟩,
  ⟨some 11, (.bin .gtr .none (.tmp 10) (.const (.int .i64 32))), true, some (8, false)⟩,
  ⟨some 12, (.pick (.tmp 8) (.const (.bool true)) (.tmp 11)), true, none⟩]
def c47_6 : ACode := (.seq (.region o47_5 [0, 12]) (.cond (.tmp 12) c47_4 .skip))
def w47_6 (P : Program) (Q : Exit → Slots → Mem → Prop) (M : Mem) (v0 : V) : Prop :=
  @OptVH (lenStrV v0) ⟨fun t6_2 =>
  @OptBH (binV .lss .none t6_2 (.int .i64 1)) ⟨fun b7_3 =>
  @BIfH b7_3
  ⟨wpC P c47_4 Q [(0, v0), (12, (.bool true))] M⟩
  ⟨@OptVH (lenStrV v0) ⟨fun t10_7 =>
  @OptBH (binV .gtr .none t10_7 (.int .i64 32)) ⟨fun b11_8 =>
  @BIfH b11_8
  ⟨wpC P c47_4 Q [(0, v0), (12, (.bool b11_8))] M⟩
  ⟨Q .normal [(0, v0), (12, (.bool b11_8))] M⟩⟩⟩⟩⟩⟩
theorem e47_6 (P : Program) (Q : Exit → Slots → Mem → Prop) (s : Slots) (M : Mem) : wpC P c47_6 Q s M = w47_6 P Q M (sget s 0) := by kernel_rfl
def o47_7 : List AOper := [⟨some 3, (.mov (.const (.int .i64 0))), false, none⟩]
def c47_8 : ACode := (.region o47_7 [0, 3])
def w47_8 (_P : Program) (Q : Exit → Slots → Mem → Prop) (M : Mem) (v0 : V) : Prop :=
  Q .normal [(0, v0), (3, (.int .i64 0))] M
theorem e47_8 (P : Program) (Q : Exit → Slots → Mem → Prop) (s : Slots) (M : Mem) : wpC P c47_8 Q s M = w47_8 P Q M (sget s 0) := by kernel_rfl
def o47_9 : List AOper := [⟨some 13, (.mov (.tmp 3)), false, none⟩,
  ⟨some 14, (.mov (.tmp 0)), false, none⟩,
  ⟨some 15, (.lenStr (.tmp 14)), false, none⟩,
  ⟨some 16, (.bin .lss .none (.tmp 13) (.tmp 15)), true, none⟩]
def c47_10 : ACode := (.seq (.region o47_9 [0, 3, 16]) (.cond (.tmp 16) .skip (.exit 0)))
def w47_10 (_P : Program) (Q : Exit → Slots → Mem → Prop) (M : Mem) (v0 : V) (v3 : V) : Prop :=
  @OptVH (lenStrV v0) ⟨fun t15_3 =>
  @OptBH (binV .lss .none v3 t15_3) ⟨fun b16_4 =>
  @BIfH b16_4
  ⟨Q .normal [(0, v0), (3, v3), (16, (.bool b16_4))] M⟩
  ⟨Q (.exit 0) [(0, v0), (3, v3), (16, (.bool b16_4))] M⟩⟩⟩
theorem e47_10 (P : Program) (Q : Exit → Slots → Mem → Prop) (s : Slots) (M : Mem) : wpC P c47_10 Q s M = w47_10 P Q M (sget s 0) (sget s 3) := by kernel_rfl
def o47_11 : List AOper := [⟨some 19, (.mov (.tmp 0)), false, none⟩,
  ⟨some 20, (.mov (.tmp 3)), false, none⟩,
  ⟨some 21, (.indexStr (.tmp 19) (.tmp 20)), false, none⟩,
  ⟨some 4, (.mov (.tmp 21)), false, none⟩]
def c47_12 : ACode := (.region o47_11 [0, 3, 4])
def w47_12 (_P : Program) (Q : Exit → Slots → Mem → Prop) (M : Mem) (v0 : V) (v3 : V) : Prop :=
  @OptVH (indexStrV v0 v3) ⟨fun t21_3 =>
  Q .normal [(0, v0), (3, v3), (4, t21_3)] M⟩
theorem e47_12 (P : Program) (Q : Exit → Slots → Mem → Prop) (s : Slots) (M : Mem) : wpC P c47_12 Q s M = w47_12 P Q M (sget s 0) (sget s 3) := by kernel_rfl
def o47_13 : List AOper := [⟨some 2, (.mov (.const (.bool false))), true, none⟩]
def c47_14 : ACode := (.region o47_13 [2])
def w47_14 (_P : Program) (Q : Exit → Slots → Mem → Prop) (M : Mem) : Prop :=
  Q .normal [(2, (.bool false))] M
theorem e47_14 (P : Program) (Q : Exit → Slots → Mem → Prop) (s : Slots) (M : Mem) : wpC P c47_14 Q s M = w47_14 P Q M := by kernel_rfl
def c47_15 : ACode := (.seq c47_14 .ret)
def o47_16 : List AOper := [⟨some 22, (.mov (.tmp 4)), false, none⟩,
  ⟨some 23, (.bin .geq .none (.tmp 22) (.const (.int .u8 97))), true, none⟩,
  ⟨some 24, (.mov (.tmp 23)), true, none⟩,
  ⟨some 25, (.mov (.tmp 4)), false, some (24, true)⟩,
  ⟨some 26, (.bin .leq .none (.tmp 25) (.const (.int .u8 122))), true, some (24, true)⟩,
  ⟨some 27, (.pick (.tmp 24) (.tmp 26) (.const (.bool false))), true, none⟩,
  ⟨some 28, (.mov (.tmp 27)), true, none⟩,
  ⟨some 29, (.mov (.tmp 4)), false, some (28, false)⟩,
  ⟨some 30, (.bin .geq .none (.tmp 29) (.const (.int .u8 65))), true, some (28, false)⟩,
  ⟨some 31, (.mov (.tmp 30)), true, some (28, false)⟩,
  ⟨some 32, (.mov (.tmp 4)), false, some (31, true)⟩,
  ⟨some 33, (.bin .leq .none (.tmp 32) (.const (.int .u8 90))), true, some (31, true)⟩,
  ⟨some 34, (.pick (.tmp 31) (.tmp 33) (.const (.bool false))), true, some (28, false)⟩,
  ⟨some 35, (.pick (.tmp 28) (.const (.bool true)) (.tmp 34)), true, none⟩,
  ⟨some 36, (.mov (.tmp 35)), true, none⟩,
  ⟨some 37, (.mov (.tmp 4)), false, some (36, false)⟩,
  ⟨some 38, (.bin .geq .none (.tmp 37) (.const (.int .u8 48))), true, some (36, false)⟩,
  ⟨some 39, (.mov (.tmp 38)), true, some (36, false)⟩,
  ⟨some 40, (.mov (.tmp 4)), false, some (39, true)⟩,
  ⟨some 41, (.bin .leq .none (.tmp 40) (.const (.int .u8 57))), true, some (39, true)⟩,
  ⟨some 42, (.pick (.tmp 39) (.tmp 41) (.const (.bool false))), true, some (36, false)⟩,
  ⟨some 43, (.pick (.tmp 36) (.const (.bool true)) (.tmp 42)), true, none⟩,
  ⟨some 44, (.mov (.tmp 43)), true, none⟩,
  ⟨some 45, (.mov (.tmp 4)), false, some (44, false)⟩,
  ⟨some 46, (.bin .eql .none (.tmp 45) (.const (.int .u8 45))), true, some (44, false)⟩,
  ⟨some 47, (.pick (.tmp 44) (.const (.bool true)) (.tmp 46)), true, none⟩,
  ⟨some 48, (.mov (.tmp 47)), true, none⟩,
  ⟨some 49, (.mov (.tmp 4)), false, some (48, false)⟩,
  ⟨some 50, (.bin .eql .none (.tmp 49) (.const (.int .u8 95))), true, some (48, false)⟩,
  ⟨some 51, (.pick (.tmp 48) (.const (.bool true)) (.tmp 50)), true, none⟩,
  ⟨some 52, (.mov (.tmp 51)), true, none⟩,
  ⟨some 53, (.mov (.tmp 4)), false, some (52, false)⟩,
  ⟨some 54, (.bin .eql .none (.tmp 53) (.const (.int .u8 46))), true, some (52, false)⟩,
  ⟨some 55, (.pick (.tmp 52) (.const (.bool true)) (.tmp 54)), true, none⟩,
  ⟨some 56, (.un .not (.tmp 55)), true, none⟩]
def c47_17 : ACode := (.seq (.region o47_16 [0, 3, 56]) (.cond (.tmp 56) c47_15 .skip))
def w47_17 (P : Program) (Q : Exit → Slots → Mem → Prop) (M : Mem) (v0 : V) (v3 : V) (v4 : V) : Prop :=
  @OptBH (binV .geq .none v4 (.int .u8 97)) ⟨fun b23_2 =>
  @BIfH b23_2
  ⟨@OptBH (binV .leq .none v4 (.int .u8 122)) ⟨fun b26_5 =>
  @BIfH b26_5
  ⟨@OptBH (unV .not (.bool true)) ⟨fun b56_17 =>
  @BIfH b56_17
  ⟨wpC P c47_15 Q [(0, v0), (3, v3), (56, (.bool b56_17))] M⟩
  ⟨Q .normal [(0, v0), (3, v3), (56, (.bool b56_17))] M⟩⟩⟩
  ⟨@OptBH (binV .geq .none v4 (.int .u8 65)) ⟨fun b30_19 =>
  @BIfH b30_19
  ⟨@OptBH (binV .leq .none v4 (.int .u8 90)) ⟨fun b33_22 =>
  @BIfH b33_22
  ⟨@OptBH (unV .not (.bool true)) ⟨fun b56_33 =>
  @BIfH b56_33
  ⟨wpC P c47_15 Q [(0, v0), (3, v3), (56, (.bool b56_33))] M⟩
  ⟨Q .normal [(0, v0), (3, v3), (56, (.bool b56_33))] M⟩⟩⟩
  ⟨@OptBH (binV .geq .none v4 (.int .u8 48)) ⟨fun b38_35 =>
  @BIfH b38_35
  ⟨@OptBH (binV .leq .none v4 (.int .u8 57)) ⟨fun b41_38 =>
  @BIfH b41_38
  ⟨@OptBH (unV .not (.bool true)) ⟨fun b56_47 =>
  @BIfH b56_47
  ⟨wpC P c47_15 Q [(0, v0), (3, v3), (56, (.bool b56_47))] M⟩
  ⟨Q .normal [(0, v0), (3, v3), (56, (.bool b56_47))] M⟩⟩⟩
  ⟨@OptBH (binV .eql .none v4 (.int .u8 45)) ⟨fun b46_49 =>
  @BIfH b46_49
  ⟨@OptBH (unV .not (.bool true)) ⟨fun b56_55 =>
  @BIfH b56_55
  ⟨wpC P c47_15 Q [(0, v0), (3, v3), (56, (.bool b56_55))] M⟩
  ⟨Q .normal [(0, v0), (3, v3), (56, (.bool b56_55))] M⟩⟩⟩
  ⟨@OptBH (binV .eql .none v4 (.int .u8 95)) ⟨fun b50_57 =>
  @BIfH b50_57
  ⟨@OptBH (unV .not (.bool true)) ⟨fun b56_61 =>
  @BIfH b56_61
  ⟨wpC P c47_15 Q [(0, v0), (3, v3), (56, (.bool b56_61))] M⟩
  ⟨Q .normal [(0, v0), (3, v3), (56, (.bool b56_61))] M⟩⟩⟩
  ⟨@OptBH (binV .eql .none v4 (.int .u8 46)) ⟨fun b54_63 =>
  @OptBH (unV .not (.bool b54_63)) ⟨fun b56_65 =>
  @BIfH b56_65
  ⟨wpC P c47_15 Q [(0, v0), (3, v3), (56, (.bool b56_65))] M⟩
  ⟨Q .normal [(0, v0), (3, v3), (56, (.bool b56_65))] M⟩⟩⟩⟩⟩⟩⟩⟩⟩⟩
  ⟨@OptBH (binV .eql .none v4 (.int .u8 45)) ⟨fun b46_70 =>
  @BIfH b46_70
  ⟨@OptBH (unV .not (.bool true)) ⟨fun b56_76 =>
  @BIfH b56_76
  ⟨wpC P c47_15 Q [(0, v0), (3, v3), (56, (.bool b56_76))] M⟩
  ⟨Q .normal [(0, v0), (3, v3), (56, (.bool b56_76))] M⟩⟩⟩
  ⟨@OptBH (binV .eql .none v4 (.int .u8 95)) ⟨fun b50_78 =>
  @BIfH b50_78
  ⟨@OptBH (unV .not (.bool true)) ⟨fun b56_82 =>
  @BIfH b56_82
  ⟨wpC P c47_15 Q [(0, v0), (3, v3), (56, (.bool b56_82))] M⟩
  ⟨Q .normal [(0, v0), (3, v3), (56, (.bool b56_82))] M⟩⟩⟩
  ⟨@OptBH (binV .eql .none v4 (.int .u8 46)) ⟨fun b54_84 =>
  @OptBH (unV .not (.bool b54_84)) ⟨fun b56_86 =>
  @BIfH b56_86
  ⟨wpC P c47_15 Q [(0, v0), (3, v3), (56, (.bool b56_86))] M⟩
  ⟨Q .normal [(0, v0), (3, v3), (56, (.bool b56_86))] M⟩⟩⟩⟩⟩⟩⟩⟩⟩⟩⟩⟩
  ⟨@OptBH (binV .geq .none v4 (.int .u8 48)) ⟨fun b38_91 =>
  @BIfH b38_91
  ⟨@OptBH (binV .leq .none v4 (.int .u8 57)) ⟨fun b41_94 =>
  @BIfH b41_94
  ⟨@OptBH (unV .not (.bool true)) ⟨fun b56_103 =>
  @BIfH b56_103
  ⟨wpC P c47_15 Q [(0, v0), (3, v3), (56, (.bool b56_103))] M⟩
  ⟨Q .normal [(0, v0), (3, v3), (56, (.bool b56_103))] M⟩⟩⟩
  ⟨@OptBH (binV .eql .none v4 (.int .u8 45)) ⟨fun b46_105 =>
  @BIfH b46_105
  ⟨@OptBH (unV .not (.bool true)) ⟨fun b56_111 =>
  @BIfH b56_111
  ⟨wpC P c47_15 Q [(0, v0), (3, v3), (56, (.bool b56_111))] M⟩
  ⟨Q .normal [(0, v0), (3, v3), (56, (.bool b56_111))] M⟩⟩⟩
  ⟨@OptBH (binV .eql .none v4 (.int .u8 95)) ⟨fun b50_113 =>
  @BIfH b50_113
  ⟨@OptBH (unV .not (.bool true)) ⟨fun b56_117 =>
  @BIfH b56_117
  ⟨wpC P c47_15 Q [(0, v0), (3, v3), (56, (.bool b56_117))] M⟩
  ⟨Q .normal [(0, v0), (3, v3), (56, (.bool b56_117))] M⟩⟩⟩
  ⟨@OptBH (binV .eql .none v4 (.int .u8 46)) ⟨fun b54_119 =>
  @OptBH (unV .not (.bool b54_119)) ⟨fun b56_121 =>
  @BIfH b56_121
  ⟨wpC P c47_15 Q [(0, v0), (3, v3), (56, (.bool b56_121))] M⟩
  ⟨Q .normal [(0, v0), (3, v3), (56, (.bool b56_121))] M⟩⟩⟩⟩⟩⟩⟩⟩⟩⟩
  ⟨@OptBH (binV .eql .none v4 (.int .u8 45)) ⟨fun b46_126 =>
  @BIfH b46_126
  ⟨@OptBH (unV .not (.bool true)) ⟨fun b56_132 =>
  @BIfH b56_132
  ⟨wpC P c47_15 Q [(0, v0), (3, v3), (56, (.bool b56_132))] M⟩
  ⟨Q .normal [(0, v0), (3, v3), (56, (.bool b56_132))] M⟩⟩⟩
  ⟨@OptBH (binV .eql .none v4 (.int .u8 95)) ⟨fun b50_134 =>
  @BIfH b50_134
  ⟨@OptBH (unV .not (.bool true)) ⟨fun b56_138 =>
  @BIfH b56_138
  ⟨wpC P c47_15 Q [(0, v0), (3, v3), (56, (.bool b56_138))] M⟩
  ⟨Q .normal [(0, v0), (3, v3), (56, (.bool b56_138))] M⟩⟩⟩
  ⟨@OptBH (binV .eql .none v4 (.int .u8 46)) ⟨fun b54_140 =>
  @OptBH (unV .not (.bool b54_140)) ⟨fun b56_142 =>
  @BIfH b56_142
  ⟨wpC P c47_15 Q [(0, v0), (3, v3), (56, (.bool b56_142))] M⟩
  ⟨Q .normal [(0, v0), (3, v3), (56, (.bool b56_142))] M⟩⟩⟩⟩⟩⟩⟩⟩⟩⟩⟩⟩⟩⟩
  ⟨@OptBH (binV .geq .none v4 (.int .u8 65)) ⟨fun b30_146 =>
  @BIfH b30_146
  ⟨@OptBH (binV .leq .none v4 (.int .u8 90)) ⟨fun b33_149 =>
  @BIfH b33_149
  ⟨@OptBH (unV .not (.bool true)) ⟨fun b56_160 =>
  @BIfH b56_160
  ⟨wpC P c47_15 Q [(0, v0), (3, v3), (56, (.bool b56_160))] M⟩
  ⟨Q .normal [(0, v0), (3, v3), (56, (.bool b56_160))] M⟩⟩⟩
  ⟨@OptBH (binV .geq .none v4 (.int .u8 48)) ⟨fun b38_162 =>
  @BIfH b38_162
  ⟨@OptBH (binV .leq .none v4 (.int .u8 57)) ⟨fun b41_165 =>
  @BIfH b41_165
  ⟨@OptBH (unV .not (.bool true)) ⟨fun b56_174 =>
  @BIfH b56_174
  ⟨wpC P c47_15 Q [(0, v0), (3, v3), (56, (.bool b56_174))] M⟩
  ⟨Q .normal [(0, v0), (3, v3), (56, (.bool b56_174))] M⟩⟩⟩
  ⟨@OptBH (binV .eql .none v4 (.int .u8 45)) ⟨fun b46_176 =>
  @BIfH b46_176
  ⟨@OptBH (unV .not (.bool true)) ⟨fun b56_182 =>
  @BIfH b56_182
  ⟨wpC P c47_15 Q [(0, v0), (3, v3), (56, (.bool b56_182))] M⟩
  ⟨Q .normal [(0, v0), (3, v3), (56, (.bool b56_182))] M⟩⟩⟩
  ⟨@OptBH (binV .eql .none v4 (.int .u8 95)) ⟨fun b50_184 =>
  @BIfH b50_184
  ⟨@OptBH (unV .not (.bool true)) ⟨fun b56_188 =>
  @BIfH b56_188
  ⟨wpC P c47_15 Q [(0, v0), (3, v3), (56, (.bool b56_188))] M⟩
  ⟨Q .normal [(0, v0), (3, v3), (56, (.bool b56_188))] M⟩⟩⟩
  ⟨@OptBH (binV .eql .none v4 (.int .u8 46)) ⟨fun b54_190 =>
  @OptBH (unV .not (.bool b54_190)) ⟨fun b56_192 =>
  @BIfH b56_192
  ⟨wpC P c47_15 Q [(0, v0), (3, v3), (56, (.bool b56_192))] M⟩
  ⟨Q .normal [(0, v0), (3, v3), (56, (.bool b56_192))] M⟩⟩⟩⟩⟩⟩⟩⟩⟩⟩
  ⟨@OptBH (binV .eql .none v4 (.int .u8 45)) ⟨fun b46_197 =>
  @BIfH b46_197
  ⟨@OptBH (unV .not (.bool true)) ⟨fun b56_203 =>
  @BIfH b56_203
  ⟨wpC P c47_15 Q [(0, v0), (3, v3), (56, (.bool b56_203))] M⟩
  ⟨Q .normal [(0, v0), (3, v3), (56, (.bool b56_203))] M⟩⟩⟩
  ⟨@OptBH (binV .eql .none v4 (.int .u8 95)) ⟨fun b50_205 =>
  @BIfH b50_205
  ⟨@OptBH (unV .not (.bool true)) ⟨fun b56_209 =>
  @BIfH b56_209
  ⟨wpC P c47_15 Q [(0, v0), (3, v3), (56, (.bool b56_209))] M⟩
  ⟨Q .normal [(0, v0), (3, v3), (56, (.bool b56_209))] M⟩⟩⟩
  ⟨@OptBH (binV .eql .none v4 (.int .u8 46)) ⟨fun b54_211 =>
  @OptBH (unV .not (.bool b54_211)) ⟨fun b56_213 =>
  @BIfH b56_213
  ⟨wpC P c47_15 Q [(0, v0), (3, v3), (56, (.bool b56_213))] M⟩
  ⟨Q .normal [(0, v0), (3, v3), (56, (.bool b56_213))] M⟩⟩⟩⟩⟩⟩⟩⟩⟩⟩⟩⟩
  ⟨@OptBH (binV .geq .none v4 (.int .u8 48)) ⟨fun b38_218 =>
  @BIfH b38_218
  ⟨@OptBH (binV .leq .none v4 (.int .u8 57)) ⟨fun b41_221 =>
  @BIfH b41_221
  ⟨@OptBH (unV .not (.bool true)) ⟨fun b56_230 =>
  @BIfH b56_230
  ⟨wpC P c47_15 Q [(0, v0), (3, v3), (56, (.bool b56_230))] M⟩
  ⟨Q .normal [(0, v0), (3, v3), (56, (.bool b56_230))] M⟩⟩⟩
  ⟨@OptBH (binV .eql .none v4 (.int .u8 45)) ⟨fun b46_232 =>
  @BIfH b46_232
  ⟨@OptBH (unV .not (.bool true)) ⟨fun b56_238 =>
  @BIfH b56_238
  ⟨wpC P c47_15 Q [(0, v0), (3, v3), (56, (.bool b56_238))] M⟩
  ⟨Q .normal [(0, v0), (3, v3), (56, (.bool b56_238))] M⟩⟩⟩
  ⟨@OptBH (binV .eql .none v4 (.int .u8 95)) ⟨fun b50_240 =>
  @BIfH b50_240
  ⟨@OptBH (unV .not (.bool true)) ⟨fun b56_244 =>
  @BIfH b56_244
  ⟨wpC P c47_15 Q [(0, v0), (3, v3), (56, (.bool b56_244))] M⟩
  ⟨Q .normal [(0, v0), (3, v3), (56, (.bool b56_244))] M⟩⟩⟩
  ⟨@OptBH (binV .eql .none v4 (.int .u8 46)) ⟨fun b54_246 =>
  @OptBH (unV .not (.bool b54_246)) ⟨fun b56_248 =>
  @BIfH b56_248
  ⟨wpC P c47_15 Q [(0, v0), (3, v3), (56, (.bool b56_248))] M⟩
  ⟨Q .normal [(0, v0), (3, v3), (56, (.bool b56_248))] M⟩⟩⟩⟩⟩⟩⟩⟩⟩⟩
  ⟨@OptBH (binV .eql .none v4 (.int .u8 45)) ⟨fun b46_253 =>
  @BIfH b46_253
  ⟨@OptBH (unV .not (.bool true)) ⟨fun b56_259 =>
  @BIfH b56_259
  ⟨wpC P c47_15 Q [(0, v0), (3, v3), (56, (.bool b56_259))] M⟩
  ⟨Q .normal [(0, v0), (3, v3), (56, (.bool b56_259))] M⟩⟩⟩
  ⟨@OptBH (binV .eql .none v4 (.int .u8 95)) ⟨fun b50_261 =>
  @BIfH b50_261
  ⟨@OptBH (unV .not (.bool true)) ⟨fun b56_265 =>
  @BIfH b56_265
  ⟨wpC P c47_15 Q [(0, v0), (3, v3), (56, (.bool b56_265))] M⟩
  ⟨Q .normal [(0, v0), (3, v3), (56, (.bool b56_265))] M⟩⟩⟩
  ⟨@OptBH (binV .eql .none v4 (.int .u8 46)) ⟨fun b54_267 =>
  @OptBH (unV .not (.bool b54_267)) ⟨fun b56_269 =>
  @BIfH b56_269
  ⟨wpC P c47_15 Q [(0, v0), (3, v3), (56, (.bool b56_269))] M⟩
  ⟨Q .normal [(0, v0), (3, v3), (56, (.bool b56_269))] M⟩⟩⟩⟩⟩⟩⟩⟩⟩⟩⟩⟩⟩
theorem e47_17 (P : Program) (Q : Exit → Slots → Mem → Prop) (s : Slots) (M : Mem) : wpC P c47_17 Q s M = w47_17 P Q M (sget s 0) (sget s 3) (sget s 4) := by kernel_rfl
def c47_18 : ACode := (.seq c47_12 c47_17)
def c47_19 : ACode := (.block 1 c47_18)
def o47_20 : List AOper := [⟨some 17, (.mov (.tmp 3)), false, none⟩,
  ⟨some 18, (.bin .add .none (.tmp 17) (.const (.int .i64 1))), false, none⟩,
  ⟨some 3, (.mov (.tmp 18)), false, none⟩]
def c47_21 : ACode := (.region o47_20 [0, 3])
def w47_21 (_P : Program) (Q : Exit → Slots → Mem → Prop) (M : Mem) (v0 : V) (v3 : V) : Prop :=
  @OptVH (binV .add .none v3 (.int .i64 1)) ⟨fun t18_2 =>
  Q .normal [(0, v0), (3, t18_2)] M⟩
theorem e47_21 (P : Program) (Q : Exit → Slots → Mem → Prop) (s : Slots) (M : Mem) : wpC P c47_21 Q s M = w47_21 P Q M (sget s 0) (sget s 3) := by kernel_rfl
def c47_22 : ACode := (.seq c47_19 c47_21)
def c47_23 : ACode := (.seq c47_10 c47_22)
def c47_24 : ACode := (.loop [0, 3] c47_23)
def c47_25 : ACode := (.block 0 c47_24)
def c47_26 : ACode := (.seq c47_8 c47_25)
def o47_27 : List AOper := [⟨some 2, (.mov (.const (.bool true))), true, none⟩]
def c47_28 : ACode := (.region o47_27 [2])
def w47_28 (_P : Program) (Q : Exit → Slots → Mem → Prop) (M : Mem) : Prop :=
  Q .normal [(2, (.bool true))] M
theorem e47_28 (P : Program) (Q : Exit → Slots → Mem → Prop) (s : Slots) (M : Mem) : wpC P c47_28 Q s M = w47_28 P Q M := by kernel_rfl
def c47_29 : ACode := (.seq c47_28 .ret)
def c47_30 : ACode := (.seq c47_26 c47_29)
def c47_31 : ACode := (.seq c47_6 c47_30)
def c47_32 : ACode := (.seq c47_1 c47_31)
def fn_transitref15_Name : AFn := ⟨57, [(.tmp 2)], c47_32⟩
theorem fn_transitref15_Name_ok : resFn PR h_transitref15_Name i_transitref15_Name = some fn_transitref15_Name := by kernel_rfl

def h_transitref21_Right : Hints := ⟨[(0, [1]), (1, [2])], [], []⟩
def o48_0 : List AOper := [⟨some 1, (.box 6 (.tmp 0)), false, none⟩,
  ⟨some 2, (.mov (.const (.bool false))), true, none⟩]
def c48_1 : ACode := (.region o48_0 [1])
def w48_1 (_P : Program) (Q : Exit → Slots → Mem → Prop) (M : Mem) (v0 : V) : Prop :=
  @OptMH (boxV 6 v0 M) ⟨fun t1_1 M1 =>
  Q .normal [(1, t1_1)] M1⟩
theorem e48_1 (P : Program) (Q : Exit → Slots → Mem → Prop) (s : Slots) (M : Mem) : wpC P c48_1 Q s M = w48_1 P Q M (sget s 0) := by kernel_rfl
def o48_2 : List AOper := [⟨some 3, (.fieldAddr 1 (.tmp 1)), false, none⟩,
  ⟨some 4, (.load 1 false (.tmp 3)), false, none⟩,
  ⟨some 5, (.call i_transitref21_within [(.tmp 4), (.const (.int .i64 0)), (.const (.int .i64 1000000))]), true, none⟩,
  ⟨some 6, (.mov (.tmp 5)), true, none⟩,
  ⟨some 7, (.fieldAddr 2 (.tmp 1)), false, some (6, true)⟩,
  ⟨some 8, (.load 1 false (.tmp 7)), false, some (6, true)⟩,
  ⟨some 9, (.call i_transitref21_within [(.tmp 8), (.const (.int .i64 1)), (.const (.int .i64 8))]), true, some (6, true)⟩,
  ⟨some 10, (.pick (.tmp 6) (.tmp 9) (.const (.bool false))), true, none⟩,
  ⟨some 11, (.mov (.tmp 10)), true, none⟩,
  ⟨some 12, (.fieldAddr 3 (.tmp 1)), false, some (11, true)⟩,
  ⟨some 13, (.load 1 false (.tmp 12)), false, some (11, true)⟩,
  ⟨some 14, (.call i_transitref21_within [(.tmp 13), (.const (.int .i64 1)), (.const (.int .i64 16))]), true, some (11, true)⟩,
  ⟨some 15, (.pick (.tmp 11) (.tmp 14) (.const (.bool false))), true, none⟩,
  ⟨some 16, (.mov (.tmp 15)), true, none⟩,
  ⟨some 17, (.fieldAddr 4 (.tmp 1)), false, some (16, true)⟩,
  ⟨some 18, (.load 1 false (.tmp 17)), false, some (16, true)⟩,
  ⟨some 19, (.call i_transitref21_within [(.tmp 18), (.const (.int .i64 0)), (.const (.int .i64 86400))]), true, some (16, true)⟩,
  ⟨some 20, (.pick (.tmp 16) (.tmp 19) (.const (.bool false))), true, none⟩,
  ⟨some 21, (.mov (.tmp 20)), true, none⟩,
  ⟨some 22, (.fieldAddr 5 (.tmp 1)), false, some (21, true)⟩,
  ⟨some 23, (.load 1 false (.tmp 22)), false, some (21, true)⟩,
  ⟨some 24, (.call i_transitref21_within [(.tmp 23), (.const (.int .i64 1)), (.const (.int .i64 255))]), true, some (21, true)⟩,
  ⟨some 25, (.pick (.tmp 21) (.tmp 24) (.const (.bool false))), true, none⟩,
  ⟨some 2, (.mov (.tmp 25)), true, none⟩]
def c48_3 : ACode := (.region o48_2 [2])
def w48_3 (P : Program) (Q : Exit → Slots → Mem → Prop) (M : Mem) (v1 : V) : Prop :=
  @OptVH (moveV 1 v1) ⟨fun t3_1 =>
  @OptVH (loadV 1 false t3_1 M) ⟨fun t4_2 =>
  @CallH P i_transitref21_within [t4_2, (.int .i64 0), (.int .i64 1000000)] M ⟨fun t5_3 M3 => @OptBH (some t5_3) ⟨fun b5_3 =>
  @BIfH b5_3
  ⟨@OptVH (moveV 2 v1) ⟨fun t7_5 =>
  @OptVH (loadV 1 false t7_5 M3) ⟨fun t8_6 =>
  @CallH P i_transitref21_within [t8_6, (.int .i64 1), (.int .i64 8)] M3 ⟨fun t9_7 M7 => @OptBH (some t9_7) ⟨fun b9_7 =>
  @BIfH b9_7
  ⟨@OptVH (moveV 3 v1) ⟨fun t12_10 =>
  @OptVH (loadV 1 false t12_10 M7) ⟨fun t13_11 =>
  @CallH P i_transitref21_within [t13_11, (.int .i64 1), (.int .i64 16)] M7 ⟨fun t14_12 M12 => @OptBH (some t14_12) ⟨fun b14_12 =>
  @BIfH b14_12
  ⟨@OptVH (moveV 4 v1) ⟨fun t17_15 =>
  @OptVH (loadV 1 false t17_15 M12) ⟨fun t18_16 =>
  @CallH P i_transitref21_within [t18_16, (.int .i64 0), (.int .i64 86400)] M12 ⟨fun t19_17 M17 => @OptBH (some t19_17) ⟨fun b19_17 =>
  @BIfH b19_17
  ⟨@OptVH (moveV 5 v1) ⟨fun t22_20 =>
  @OptVH (loadV 1 false t22_20 M17) ⟨fun t23_21 =>
  @CallH P i_transitref21_within [t23_21, (.int .i64 1), (.int .i64 255)] M17 ⟨fun t24_22 M22 => @OptBH (some t24_22) ⟨fun b24_22 =>
  Q .normal [(2, (.bool b24_22))] M22⟩⟩⟩⟩⟩
  ⟨Q .normal [(2, (.bool false))] M17⟩⟩⟩⟩⟩⟩
  ⟨Q .normal [(2, (.bool false))] M12⟩⟩⟩⟩⟩⟩
  ⟨Q .normal [(2, (.bool false))] M7⟩⟩⟩⟩⟩⟩
  ⟨Q .normal [(2, (.bool false))] M3⟩⟩⟩⟩⟩
theorem e48_3 (P : Program) (Q : Exit → Slots → Mem → Prop) (s : Slots) (M : Mem) : wpC P c48_3 Q s M = w48_3 P Q M (sget s 1) := by kernel_rfl
def c48_4 : ACode := (.seq c48_3 .ret)
def c48_5 : ACode := (.seq c48_1 c48_4)
def fn_transitref21_Right : AFn := ⟨26, [(.tmp 2)], c48_5⟩
theorem fn_transitref21_Right_ok : resFn PR h_transitref21_Right i_transitref21_Right = some fn_transitref21_Right := by kernel_rfl

def h_product_Check : Hints := ⟨[(0, [1]), (1, [1, 22]), (2, [2, 3]), (3, [1, 26]), (4, [2, 3]), (5, [1, 4]), (6, [4, 29, 30, 31]), (7, [4, 29, 30, 31, 32]), (8, [4, 5, 6, 29, 30, 31]), (9, [4, 5, 6, 29, 30, 31, 39]), (10, [2, 3]), (11, [4, 5, 6, 29, 30, 31, 44]), (12, [2, 3]), (13, [4, 5, 6, 29, 30, 31, 73]), (14, [2, 3]), (15, [4, 29, 30, 31]), (16, [4, 29, 30, 31]), (17, [2, 3])], [(7, [4, 29, 30, 31])], []⟩
def o51_0 : List AOper := [⟨some 1, (.box 4 (.tmp 0)), false, none⟩,
  ⟨some 2, (.mov (.const (.int .i64 0))), false, none⟩,
  ⟨some 3, (.mov (.const (.int .i64 0))), false, none⟩]
def c51_1 : ACode := (.region o51_0 [1])
def w51_1 (_P : Program) (Q : Exit → Slots → Mem → Prop) (M : Mem) (v0 : V) : Prop :=
  @OptMH (boxV 4 v0 M) ⟨fun t1_1 M1 =>
  Q .normal [(1, t1_1)] M1⟩
theorem e51_1 (P : Program) (Q : Exit → Slots → Mem → Prop) (s : Slots) (M : Mem) : wpC P c51_1 Q s M = w51_1 P Q M (sget s 0) := by kernel_rfl
def o51_2 : List AOper := [⟨some 2, (.mov (.const (.int .i64 (-1)))), false, none⟩,
  ⟨some 3, (.mov (.const (.int .i64 2))), false, none⟩]
def c51_3 : ACode := (.region o51_2 [2, 3])
def w51_3 (_P : Program) (Q : Exit → Slots → Mem → Prop) (M : Mem) : Prop :=
  Q .normal [(2, (.int .i64 (-1))), (3, (.int .i64 2))] M
theorem e51_3 (P : Program) (Q : Exit → Slots → Mem → Prop) (s : Slots) (M : Mem) : wpC P c51_3 Q s M = w51_3 P Q M := by kernel_rfl
def c51_4 : ACode := (.seq c51_3 .ret)
def o51_5 : List AOper := [⟨some 7, (.fieldAddr 1 (.tmp 1)), false, none⟩,
  ⟨some 8, (.load 1 false (.tmp 7)), false, none⟩,
  ⟨some 9, (.call i_product_within [(.tmp 8), (.const (.int .i64 0)), (.const (.int .i64 1000000))]), true, none⟩,
  ⟨some 10, (.un .not (.tmp 9)), true, none⟩,
  ⟨some 11, (.mov (.tmp 10)), true, none⟩,
  ⟨some 12, (.fieldAddr 2 (.tmp 1)), false, some (11, false)⟩,
  ⟨some 13, (.load 1 false (.tmp 12)), false, some (11, false)⟩,
  ⟨some 14, (.call i_product_within [(.tmp 13), (.const (.int .i64 0)), (.const (.int .i64 86400))]), true, some (11, false)⟩,
  ⟨some 15, (.un .not (.tmp 14)), true, some (11, false)⟩,
  ⟨some 16, (.pick (.tmp 11) (.const (.bool true)) (.tmp 15)), true, none⟩,
  ⟨some 17, (.mov (.tmp 16)), true, none⟩,
  ⟨some 18, (.fieldAddr 3 (.tmp 1)), false, some (17, false)⟩,
  ⟨some 19, (.load 1 false (.tmp 18)), false, some (17, false)⟩,
  ⟨some 20, (.call i_product_within [(.tmp 19), (.const (.int .i64 0)), (.const (.int .i64 1000000))]), true, some (17, false)⟩,
  ⟨some 21, (.un .not (.tmp 20)), true, some (17, false)⟩,
  ⟨some 22, (.pick (.tmp 17) (.const (.bool true)) (.tmp 21)), true, none⟩]
def c51_6 : ACode := (.seq (.region o51_5 [1, 22]) (.cond (.tmp 22) c51_4 .skip))
def w51_6 (P : Program) (Q : Exit → Slots → Mem → Prop) (M : Mem) (v1 : V) : Prop :=
  @OptVH (moveV 1 v1) ⟨fun t7_1 =>
  @OptVH (loadV 1 false t7_1 M) ⟨fun t8_2 =>
  @CallH P i_product_within [t8_2, (.int .i64 0), (.int .i64 1000000)] M ⟨fun t9_3 M3 => @OptBH (some t9_3) ⟨fun b9_3 =>
  @OptBH (unV .not (.bool b9_3)) ⟨fun b10_4 =>
  @BIfH b10_4
  ⟨wpC P c51_4 Q [(1, v1), (22, (.bool true))] M3⟩
  ⟨@OptVH (moveV 2 v1) ⟨fun t12_9 =>
  @OptVH (loadV 1 false t12_9 M3) ⟨fun t13_10 =>
  @CallH P i_product_within [t13_10, (.int .i64 0), (.int .i64 86400)] M3 ⟨fun t14_11 M11 => @OptBH (some t14_11) ⟨fun b14_11 =>
  @OptBH (unV .not (.bool b14_11)) ⟨fun b15_12 =>
  @BIfH b15_12
  ⟨wpC P c51_4 Q [(1, v1), (22, (.bool true))] M11⟩
  ⟨@OptVH (moveV 3 v1) ⟨fun t18_16 =>
  @OptVH (loadV 1 false t18_16 M11) ⟨fun t19_17 =>
  @CallH P i_product_within [t19_17, (.int .i64 0), (.int .i64 1000000)] M11 ⟨fun t20_18 M18 => @OptBH (some t20_18) ⟨fun b20_18 =>
  @OptBH (unV .not (.bool b20_18)) ⟨fun b21_19 =>
  @BIfH b21_19
  ⟨wpC P c51_4 Q [(1, v1), (22, (.bool b21_19))] M18⟩
  ⟨Q .normal [(1, v1), (22, (.bool b21_19))] M18⟩⟩⟩⟩⟩⟩⟩⟩⟩⟩⟩⟩⟩⟩⟩⟩⟩⟩
theorem e51_6 (P : Program) (Q : Exit → Slots → Mem → Prop) (s : Slots) (M : Mem) : wpC P c51_6 Q s M = w51_6 P Q M (sget s 1) := by kernel_rfl
def o51_7 : List AOper := [⟨some 2, (.mov (.const (.int .i64 0))), false, none⟩,
  ⟨some 3, (.mov (.const (.int .i64 5))), false, none⟩]
def c51_8 : ACode := (.region o51_7 [2, 3])
def w51_8 (_P : Program) (Q : Exit → Slots → Mem → Prop) (M : Mem) : Prop :=
  Q .normal [(2, (.int .i64 0)), (3, (.int .i64 5))] M
theorem e51_8 (P : Program) (Q : Exit → Slots → Mem → Prop) (s : Slots) (M : Mem) : wpC P c51_8 Q s M = w51_8 P Q M := by kernel_rfl
def c51_9 : ACode := (.seq c51_8 .ret)
def o51_10 : List AOper := [⟨some 23, (.fieldAddr 0 (.tmp 1)), false, none⟩,
  ⟨some 24, (.load 1 false (.tmp 23)), false, none⟩,
  ⟨some 25, (.lenSl (.tmp 24)), false, none⟩,
  ⟨some 26, (.bin .gtr .none (.tmp 25) (.const (.int .i64 16))), true, none⟩]
def c51_11 : ACode := (.seq (.region o51_10 [1, 26]) (.cond (.tmp 26) c51_9 .skip))
def w51_11 (P : Program) (Q : Exit → Slots → Mem → Prop) (M : Mem) (v1 : V) : Prop :=
  @OptVH (moveV 0 v1) ⟨fun t23_1 =>
  @OptVH (loadV 1 false t23_1 M) ⟨fun t24_2 =>
  @OptVH (lenV t24_2 M) ⟨fun t25_3 =>
  @OptBH (binV .gtr .none t25_3 (.int .i64 16)) ⟨fun b26_4 =>
  @BIfH b26_4
  ⟨wpC P c51_9 Q [(1, v1), (26, (.bool b26_4))] M⟩
  ⟨Q .normal [(1, v1), (26, (.bool b26_4))] M⟩⟩⟩⟩⟩
theorem e51_11 (P : Program) (Q : Exit → Slots → Mem → Prop) (s : Slots) (M : Mem) : wpC P c51_11 Q s M = w51_11 P Q M (sget s 1) := by kernel_rfl
def o51_12 : List AOper := [⟨some 27, (.makeMap none), false, none⟩,
  ⟨some 4, (.mov (.tmp 27)), false, none⟩]
def c51_13 : ACode := (.region o51_12 [1, 4])
def w51_13 (_P : Program) (Q : Exit → Slots → Mem → Prop) (M : Mem) (v1 : V) : Prop :=
  @OptMH (makeMapV none M) ⟨fun t27_1 M1 =>
  Q .normal [(1, v1), (4, t27_1)] M1⟩
theorem e51_13 (P : Program) (Q : Exit → Slots → Mem → Prop) (s : Slots) (M : Mem) : wpC P c51_13 Q s M = w51_13 P Q M (sget s 1) := by kernel_rfl
def o51_14 : List AOper := [⟨some 28, (.fieldAddr 0 (.tmp 1)), false, none⟩,
  ⟨some 29, (.load 1 false (.tmp 28)), false, none⟩,
  ⟨some 30, (.lenSl (.tmp 29)), false, none⟩,
  ⟨some 31, (.mov (.const (.int .i64 0))), false, none⟩]
def c51_15 : ACode := (.region o51_14 [4, 29, 30, 31])
def w51_15 (_P : Program) (Q : Exit → Slots → Mem → Prop) (M : Mem) (v1 : V) (v4 : V) : Prop :=
  @OptVH (moveV 0 v1) ⟨fun t28_1 =>
  @OptVH (loadV 1 false t28_1 M) ⟨fun t29_2 =>
  @OptVH (lenV t29_2 M) ⟨fun t30_3 =>
  Q .normal [(4, v4), (29, t29_2), (30, t30_3), (31, (.int .i64 0))] M⟩⟩⟩
theorem e51_15 (P : Program) (Q : Exit → Slots → Mem → Prop) (s : Slots) (M : Mem) : wpC P c51_15 Q s M = w51_15 P Q M (sget s 1) (sget s 4) := by kernel_rfl
def o51_16 : List AOper := [⟨some 32, (.bin .lss .none (.tmp 31) (.tmp 30)), false, none⟩]
def c51_17 : ACode := (.region o51_16 [4, 29, 30, 31, 32])
def w51_17 (_P : Program) (Q : Exit → Slots → Mem → Prop) (M : Mem) (v4 : V) (v29 : V) (v30 : V) (v31 : V) : Prop :=
  @OptVH (binV .lss .none v31 v30) ⟨fun t32_1 =>
  Q .normal [(4, v4), (29, v29), (30, v30), (31, v31), (32, t32_1)] M⟩
theorem e51_17 (P : Program) (Q : Exit → Slots → Mem → Prop) (s : Slots) (M : Mem) : wpC P c51_17 Q s M = w51_17 P Q M (sget s 4) (sget s 29) (sget s 30) (sget s 31) := by kernel_rfl
def c51_18 : ACode := (.cond (.tmp 32) .skip (.exit 0))
def o51_19 : List AOper := [⟨some 33, (.mov (.tmp 31)), false, none⟩,
  ⟨some 34, (.indexSl 6 (.tmp 29) (.tmp 31)), false, none⟩,
  ⟨some 35, (.load 6 true (.tmp 34)), false, none⟩,
  ⟨some 6, (.alloc [(.str []), (.int .i64 0), (.int .i64 0), (.int .i64 0), (.int .i64 0), (.int .i64 0)]), false, none⟩,
  ⟨some 5, (.mov (.tmp 33)), false, none⟩,
  ⟨none, (.store 6 (.tmp 6) (.tmp 35)), false, none⟩]
def c51_20 : ACode := (.region o51_19 [4, 5, 6, 29, 30, 31])
def w51_20 (_P : Program) (Q : Exit → Slots → Mem → Prop) (M : Mem) (v4 : V) (v29 : V) (v30 : V) (v31 : V) : Prop :=
  @OptVH (indexSlV 6 v29 v31 M) ⟨fun t34_2 =>
  @OptVH (loadV 6 true t34_2 M) ⟨fun t35_3 =>
  @OptMH (allocV [(.str []), (.int .i64 0), (.int .i64 0), (.int .i64 0), (.int .i64 0), (.int .i64 0)] M) ⟨fun t6_4 M4 =>
  @OptMH (storeVM 6 t6_4 t35_3 M4) ⟨fun _tx_6 M6 =>
  Q .normal [(4, v4), (5, v31), (6, t6_4), (29, v29), (30, v30), (31, v31)] M6⟩⟩⟩⟩
theorem e51_20 (P : Program) (Q : Exit → Slots → Mem → Prop) (s : Slots) (M : Mem) : wpC P c51_20 Q s M = w51_20 P Q M (sget s 4) (sget s 29) (sget s 30) (sget s 31) := by kernel_rfl
def o51_21 : List AOper := [⟨some 40, (.mov (.tmp 5)), false, none⟩,
  ⟨some 2, (.mov (.tmp 40)), false, none⟩,
  ⟨some 3, (.mov (.const (.int .i64 12))), false, none⟩]
def c51_22 : ACode := (.region o51_21 [2, 3])
def w51_22 (_P : Program) (Q : Exit → Slots → Mem → Prop) (M : Mem) (v5 : V) : Prop :=
  Q .normal [(2, v5), (3, (.int .i64 12))] M
theorem e51_22 (P : Program) (Q : Exit → Slots → Mem → Prop) (s : Slots) (M : Mem) : wpC P c51_22 Q s M = w51_22 P Q M (sget s 5) := by kernel_rfl
def c51_23 : ACode := (.seq c51_22 .ret)
def o51_24 : List AOper := [⟨some 36, (.fieldAddr 0 (.tmp 6)), false, none⟩,
  ⟨some 37, (.load 1 false (.tmp 36)), false, none⟩,
  ⟨some 38, (.call i_ident_Valid [(.tmp 37)]), true, none⟩,
  ⟨some 39, (.un .not (.tmp 38)), true, none⟩]
def c51_25 : ACode := (.seq (.region o51_24 [4, 5, 6, 29, 30, 31, 39]) (.cond (.tmp 39) c51_23 .skip))
def w51_25 (P : Program) (Q : Exit → Slots → Mem → Prop) (M : Mem) (v4 : V) (v5 : V) (v6 : V) (v29 : V) (v30 : V) (v31 : V) : Prop :=
  @OptVH (moveV 0 v6) ⟨fun t36_1 =>
  @OptVH (loadV 1 false t36_1 M) ⟨fun t37_2 =>
  @CallH P i_ident_Valid [t37_2] M ⟨fun t38_3 M3 => @OptBH (some t38_3) ⟨fun b38_3 =>
  @OptBH (unV .not (.bool b38_3)) ⟨fun b39_4 =>
  @BIfH b39_4
  ⟨wpC P c51_23 Q [(4, v4), (5, v5), (6, v6), (29, v29), (30, v30), (31, v31), (39, (.bool b39_4))] M3⟩
  ⟨Q .normal [(4, v4), (5, v5), (6, v6), (29, v29), (30, v30), (31, v31), (39, (.bool b39_4))] M3⟩⟩⟩⟩⟩⟩
theorem e51_25 (P : Program) (Q : Exit → Slots → Mem → Prop) (s : Slots) (M : Mem) : wpC P c51_25 Q s M = w51_25 P Q M (sget s 4) (sget s 5) (sget s 6) (sget s 29) (sget s 30) (sget s 31) := by kernel_rfl
def o51_26 : List AOper := [⟨some 45, (.mov (.tmp 5)), false, none⟩,
  ⟨some 2, (.mov (.tmp 45)), false, none⟩,
  ⟨some 3, (.mov (.const (.int .i64 6))), false, none⟩]
def c51_27 : ACode := (.region o51_26 [2, 3])
def w51_27 (_P : Program) (Q : Exit → Slots → Mem → Prop) (M : Mem) (v5 : V) : Prop :=
  Q .normal [(2, v5), (3, (.int .i64 6))] M
theorem e51_27 (P : Program) (Q : Exit → Slots → Mem → Prop) (s : Slots) (M : Mem) : wpC P c51_27 Q s M = w51_27 P Q M (sget s 5) := by kernel_rfl
def c51_28 : ACode := (.seq c51_27 .ret)
def o51_29 : List AOper := [⟨some 41, (.mov (.tmp 4)), false, none⟩,
  ⟨some 42, (.fieldAddr 0 (.tmp 6)), false, none⟩,
  ⟨some 43, (.load 1 false (.tmp 42)), false, none⟩,
  ⟨some 44, (.lookup .str [(.bool false)] false false (.tmp 41) (.tmp 43)), true, none⟩]
def c51_30 : ACode := (.seq (.region o51_29 [4, 5, 6, 29, 30, 31, 44]) (.cond (.tmp 44) c51_28 .skip))
def w51_30 (P : Program) (Q : Exit → Slots → Mem → Prop) (M : Mem) (v4 : V) (v5 : V) (v6 : V) (v29 : V) (v30 : V) (v31 : V) : Prop :=
  @OptVH (moveV 0 v6) ⟨fun t42_2 =>
  @OptVH (loadV 1 false t42_2 M) ⟨fun t43_3 =>
  @OptBH (lookupV .str [(.bool false)] false false v4 t43_3 M) ⟨fun b44_4 =>
  @BIfH b44_4
  ⟨wpC P c51_28 Q [(4, v4), (5, v5), (6, v6), (29, v29), (30, v30), (31, v31), (44, (.bool b44_4))] M⟩
  ⟨Q .normal [(4, v4), (5, v5), (6, v6), (29, v29), (30, v30), (31, v31), (44, (.bool b44_4))] M⟩⟩⟩⟩
theorem e51_30 (P : Program) (Q : Exit → Slots → Mem → Prop) (s : Slots) (M : Mem) : wpC P c51_30 Q s M = w51_30 P Q M (sget s 4) (sget s 5) (sget s 6) (sget s 29) (sget s 30) (sget s 31) := by kernel_rfl
def o51_31 : List AOper := [⟨some 74, (.mov (.tmp 5)), false, none⟩,
  ⟨some 2, (.mov (.tmp 74)), false, none⟩,
  ⟨some 3, (.mov (.const (.int .i64 2))), false, none⟩]
def c51_32 : ACode := (.region o51_31 [2, 3])
def w51_32 (_P : Program) (Q : Exit → Slots → Mem → Prop) (M : Mem) (v5 : V) : Prop :=
  Q .normal [(2, v5), (3, (.int .i64 2))] M
theorem e51_32 (P : Program) (Q : Exit → Slots → Mem → Prop) (s : Slots) (M : Mem) : wpC P c51_32 Q s M = w51_32 P Q M (sget s 5) := by kernel_rfl
def c51_33 : ACode := (.seq c51_32 .ret)
def o51_34 : List AOper := [⟨some 46, (.fieldAddr 1 (.tmp 6)), false, none⟩,
  ⟨some 47, (.load 1 false (.tmp 46)), false, none⟩,
  ⟨some 48, (.call i_product_within [(.tmp 47), (.const (.int .i64 0)), (.const (.int .i64 1000000))]), true, none⟩,
  ⟨some 49, (.un .not (.tmp 48)), true, none⟩,
  ⟨some 50, (.mov (.tmp 49)), true, none⟩,
  ⟨some 51, (.fieldAddr 2 (.tmp 6)), false, some (50, false)⟩,
  ⟨some 52, (.load 1 false (.tmp 51)), false, some (50, false)⟩,
  ⟨some 53, (.call i_product_within [(.tmp 52), (.const (.int .i64 1)), (.const (.int .i64 8))]), true, some (50, false)⟩,
  ⟨some 54, (.un .not (.tmp 53)), true, some (50, false)⟩,
  ⟨some 55, (.pick (.tmp 50) (.const (.bool true)) (.tmp 54)), true, none⟩,
  ⟨some 56, (.mov (.tmp 55)), true, none⟩,
  ⟨some 57, (.fieldAddr 3 (.tmp 6)), false, some (56, false)⟩,
  ⟨some 58, (.load 1 false (.tmp 57)), false, some (56, false)⟩,
  ⟨some 59, (.call i_product_within [(.tmp 58), (.const (.int .i64 1)), (.const (.int .i64 16))]), true, some (56, false)⟩,
  ⟨some 60, (.un .not (.tmp 59)), true, some (56, false)⟩,
  ⟨some 61, (.pick (.tmp 56) (.const (.bool true)) (.tmp 60)), true, none⟩,
  ⟨some 62, (.mov (.tmp 61)), true, none⟩,
  ⟨some 63, (.fieldAddr 4 (.tmp 6)), false, some (62, false)⟩,
  ⟨some 64, (.load 1 false (.tmp 63)), false, some (62, false)⟩,
  ⟨some 65, (.call i_product_within [(.tmp 64), (.const (.int .i64 0)), (.const (.int .i64 86400))]), true, some (62, false)⟩,
  ⟨some 66, (.un .not (.tmp 65)), true, some (62, false)⟩,
  ⟨some 67, (.pick (.tmp 62) (.const (.bool true)) (.tmp 66)), true, none⟩,
  ⟨some 68, (.mov (.tmp 67)), true, none⟩,
  ⟨some 69, (.fieldAddr 5 (.tmp 6)), false, some (68, false)⟩,
  ⟨some 70, (.load 1 false (.tmp 69)), false, some (68, false)⟩,
  ⟨some 71, (.call i_product_within [(.tmp 70), (.const (.int .i64 1)), (.const (.int .i64 255))]), true, some (68, false)⟩,
  ⟨some 72, (.un .not (.tmp 71)), true, some (68, false)⟩,
  ⟨some 73, (.pick (.tmp 68) (.const (.bool true)) (.tmp 72)), true, none⟩]
def c51_35 : ACode := (.seq (.region o51_34 [4, 5, 6, 29, 30, 31, 73]) (.cond (.tmp 73) c51_33 .skip))
def w51_35 (P : Program) (Q : Exit → Slots → Mem → Prop) (M : Mem) (v4 : V) (v5 : V) (v6 : V) (v29 : V) (v30 : V) (v31 : V) : Prop :=
  @OptVH (moveV 1 v6) ⟨fun t46_1 =>
  @OptVH (loadV 1 false t46_1 M) ⟨fun t47_2 =>
  @CallH P i_product_within [t47_2, (.int .i64 0), (.int .i64 1000000)] M ⟨fun t48_3 M3 => @OptBH (some t48_3) ⟨fun b48_3 =>
  @OptBH (unV .not (.bool b48_3)) ⟨fun b49_4 =>
  @BIfH b49_4
  ⟨wpC P c51_33 Q [(4, v4), (5, v5), (6, v6), (29, v29), (30, v30), (31, v31), (73, (.bool true))] M3⟩
  ⟨@OptVH (moveV 2 v6) ⟨fun t51_13 =>
  @OptVH (loadV 1 false t51_13 M3) ⟨fun t52_14 =>
  @CallH P i_product_within [t52_14, (.int .i64 1), (.int .i64 8)] M3 ⟨fun t53_15 M15 => @OptBH (some t53_15) ⟨fun b53_15 =>
  @OptBH (unV .not (.bool b53_15)) ⟨fun b54_16 =>
  @BIfH b54_16
  ⟨wpC P c51_33 Q [(4, v4), (5, v5), (6, v6), (29, v29), (30, v30), (31, v31), (73, (.bool true))] M15⟩
  ⟨@OptVH (moveV 3 v6) ⟨fun t57_24 =>
  @OptVH (loadV 1 false t57_24 M15) ⟨fun t58_25 =>
  @CallH P i_product_within [t58_25, (.int .i64 1), (.int .i64 16)] M15 ⟨fun t59_26 M26 => @OptBH (some t59_26) ⟨fun b59_26 =>
  @OptBH (unV .not (.bool b59_26)) ⟨fun b60_27 =>
  @BIfH b60_27
  ⟨wpC P c51_33 Q [(4, v4), (5, v5), (6, v6), (29, v29), (30, v30), (31, v31), (73, (.bool true))] M26⟩
  ⟨@OptVH (moveV 4 v6) ⟨fun t63_33 =>
  @OptVH (loadV 1 false t63_33 M26) ⟨fun t64_34 =>
  @CallH P i_product_within [t64_34, (.int .i64 0), (.int .i64 86400)] M26 ⟨fun t65_35 M35 => @OptBH (some t65_35) ⟨fun b65_35 =>
  @OptBH (unV .not (.bool b65_35)) ⟨fun b66_36 =>
  @BIfH b66_36
  ⟨wpC P c51_33 Q [(4, v4), (5, v5), (6, v6), (29, v29), (30, v30), (31, v31), (73, (.bool true))] M35⟩
  ⟨@OptVH (moveV 5 v6) ⟨fun t69_40 =>
  @OptVH (loadV 1 false t69_40 M35) ⟨fun t70_41 =>
  @CallH P i_product_within [t70_41, (.int .i64 1), (.int .i64 255)] M35 ⟨fun t71_42 M42 => @OptBH (some t71_42) ⟨fun b71_42 =>
  @OptBH (unV .not (.bool b71_42)) ⟨fun b72_43 =>
  @BIfH b72_43
  ⟨wpC P c51_33 Q [(4, v4), (5, v5), (6, v6), (29, v29), (30, v30), (31, v31), (73, (.bool b72_43))] M42⟩
  ⟨Q .normal [(4, v4), (5, v5), (6, v6), (29, v29), (30, v30), (31, v31), (73, (.bool b72_43))] M42⟩⟩⟩⟩⟩⟩⟩⟩⟩⟩⟩⟩⟩⟩⟩⟩⟩⟩⟩⟩⟩⟩⟩⟩⟩⟩⟩⟩⟩⟩
theorem e51_35 (P : Program) (Q : Exit → Slots → Mem → Prop) (s : Slots) (M : Mem) : wpC P c51_35 Q s M = w51_35 P Q M (sget s 4) (sget s 5) (sget s 6) (sget s 29) (sget s 30) (sget s 31) := by kernel_rfl
def o51_36 : List AOper := [⟨some 75, (.mov (.tmp 4)), false, none⟩,
  ⟨some 76, (.fieldAddr 0 (.tmp 6)), false, none⟩,
  ⟨some 77, (.load 1 false (.tmp 76)), false, none⟩,
  ⟨none, (.mapUpdate .str (.tmp 75) (.tmp 77) (.const (.bool true))), false, none⟩]
def c51_37 : ACode := (.region o51_36 [4, 29, 30, 31])
def w51_37 (_P : Program) (Q : Exit → Slots → Mem → Prop) (M : Mem) (v4 : V) (v6 : V) (v29 : V) (v30 : V) (v31 : V) : Prop :=
  @OptVH (moveV 0 v6) ⟨fun t76_2 =>
  @OptVH (loadV 1 false t76_2 M) ⟨fun t77_3 =>
  @OptMH (mapUpdateVM .str v4 t77_3 (.bool true) M) ⟨fun _tx_4 M4 =>
  Q .normal [(4, v4), (29, v29), (30, v30), (31, v31)] M4⟩⟩⟩
theorem e51_37 (P : Program) (Q : Exit → Slots → Mem → Prop) (s : Slots) (M : Mem) : wpC P c51_37 Q s M = w51_37 P Q M (sget s 4) (sget s 6) (sget s 29) (sget s 30) (sget s 31) := by kernel_rfl
def c51_38 : ACode := (.seq c51_35 c51_37)
def c51_39 : ACode := (.seq c51_30 c51_38)
def c51_40 : ACode := (.seq c51_25 c51_39)
def c51_41 : ACode := (.seq c51_20 c51_40)
def c51_42 : ACode := (.block 1 c51_41)
def o51_43 : List AOper := [⟨some 78, (.bin .add .none (.tmp 31) (.const (.int .i64 1))), false, none⟩,
  ⟨some 31, (.mov (.tmp 78)), false, none⟩]
def c51_44 : ACode := (.region o51_43 [4, 29, 30, 31])
def w51_44 (_P : Program) (Q : Exit → Slots → Mem → Prop) (M : Mem) (v4 : V) (v29 : V) (v30 : V) (v31 : V) : Prop :=
  @OptVH (binV .add .none v31 (.int .i64 1)) ⟨fun t78_1 =>
  Q .normal [(4, v4), (29, v29), (30, v30), (31, t78_1)] M⟩
theorem e51_44 (P : Program) (Q : Exit → Slots → Mem → Prop) (s : Slots) (M : Mem) : wpC P c51_44 Q s M = w51_44 P Q M (sget s 4) (sget s 29) (sget s 30) (sget s 31) := by kernel_rfl
def c51_45 : ACode := (.seq c51_42 c51_44)
def c51_46 : ACode := (.seq c51_18 c51_45)
def c51_47 : ACode := (.seq c51_17 c51_46)
def c51_48 : ACode := (.loop [4, 29, 30, 31] c51_47)
def c51_49 : ACode := (.block 0 c51_48)
def c51_50 : ACode := (.seq c51_15 c51_49)
def o51_51 : List AOper := [⟨some 2, (.mov (.const (.int .i64 0))), false, none⟩,
  ⟨some 3, (.mov (.const (.int .i64 0))), false, none⟩]
def c51_52 : ACode := (.region o51_51 [2, 3])
def w51_52 (_P : Program) (Q : Exit → Slots → Mem → Prop) (M : Mem) : Prop :=
  Q .normal [(2, (.int .i64 0)), (3, (.int .i64 0))] M
theorem e51_52 (P : Program) (Q : Exit → Slots → Mem → Prop) (s : Slots) (M : Mem) : wpC P c51_52 Q s M = w51_52 P Q M := by kernel_rfl
def c51_53 : ACode := (.seq c51_52 .ret)
def c51_54 : ACode := (.seq c51_50 c51_53)
def c51_55 : ACode := (.seq c51_13 c51_54)
def c51_56 : ACode := (.seq c51_11 c51_55)
def c51_57 : ACode := (.seq c51_6 c51_56)
def c51_58 : ACode := (.seq c51_1 c51_57)
def fn_product_Check : AFn := ⟨79, [(.tmp 2), (.tmp 3)], c51_58⟩
theorem fn_product_Check_ok : resFn PR h_product_Check i_product_Check = some fn_product_Check := by kernel_rfl

def h_fare_divide_1 : Hints := ⟨[(0, [0, 1, 2, 3, 4, 5, 23]), (1, [0, 1, 2, 5, 9]), (2, [0, 1, 2, 5, 9, 10, 11]), (3, [0, 1, 2, 5, 9, 10, 11, 51]), (4, [])], [], []⟩
def o52_0 : List AOper := [⟨some 12, (.fieldAddr 0 (.tmp 3)), false, none⟩,
  ⟨some 13, (.load 1 false (.tmp 12)), false, none⟩,
  ⟨some 14, (.mov (.tmp 2)), false, none⟩,
  ⟨some 15, (.indexSl 6 (.tmp 13) (.tmp 14)), false, none⟩,
  ⟨some 16, (.load 6 true (.tmp 15)), false, none⟩,
  ⟨some 17, (.load 1 false (.tmp 4)), false, none⟩,
  ⟨some 18, (.mov (.tmp 0)), false, none⟩,
  ⟨some 19, (.mov (.tmp 1)), false, none⟩,
  ⟨some 20, (.bin .add .none (.tmp 19) (.const (.int .i64 1))), false, none⟩,
  ⟨some 21, (.slice 4 (.tmp 17) (some (.tmp 18)) (some (.tmp 20)) none), false, none⟩,
  ⟨some 22, (.call i_product_Covers [(.tmp 16), (.tmp 21)]), true, none⟩,
  ⟨some 23, (.un .not (.tmp 22)), true, none⟩]
def c52_1 : ACode := (.seq (.mixed o52_0 [true, true, true, true, true, true, true, true, true, true, false, true] [0, 1, 2, 3, 4, 5, 23]) (.cond (.tmp 23) .ret .skip))
def w52_1 (P : Program) (Q : Exit → Slots → Mem → Prop) (M : Mem) (v0 : V) (v1 : V) (v2 : V) (v3 : V) (v4 : V) (v5 : V) : Prop :=
  @OptVH (moveV 0 v3) ⟨fun t12_1 =>
  @OptVH (loadV 1 false t12_1 M) ⟨fun t13_2 =>
  @OptVH (indexSlV 6 t13_2 v2 M) ⟨fun t15_4 =>
  @OptVH (loadV 6 true t15_4 M) ⟨fun t16_5 =>
  @OptVH (loadV 1 false v4 M) ⟨fun t17_6 =>
  @OptVH (binV .add .none v1 (.int .i64 1)) ⟨fun t20_9 =>
  @OptVH (sliceV 4 t17_6 (some v0) (some t20_9) none M) ⟨fun t21_10 =>
  @CallH P i_product_Covers [t16_5, t21_10] M ⟨fun t22_11 M11 => @OptBH (some t22_11) ⟨fun b22_11 =>
  @OptBH (unV .not (.bool b22_11)) ⟨fun b23_12 =>
  @BIfH b23_12
  ⟨Q .ret [(0, v0), (1, v1), (2, v2), (3, v3), (4, v4), (5, v5), (23, (.bool b23_12))] M11⟩
  ⟨Q .normal [(0, v0), (1, v1), (2, v2), (3, v3), (4, v4), (5, v5), (23, (.bool b23_12))] M11⟩⟩⟩⟩⟩⟩⟩⟩⟩⟩⟩
theorem e52_1 (P : Program) (Q : Exit → Slots → Mem → Prop) (s : Slots) (M : Mem) : wpC P c52_1 Q s M = w52_1 P Q M (sget s 0) (sget s 1) (sget s 2) (sget s 3) (sget s 4) (sget s 5) := by kernel_rfl
def o52_2 : List AOper := [⟨some 24, (.load 4 true (.tmp 3)), false, none⟩,
  ⟨some 25, (.fieldAddr 0 (.tmp 3)), false, none⟩,
  ⟨some 26, (.load 1 false (.tmp 25)), false, none⟩,
  ⟨some 27, (.mov (.tmp 2)), false, none⟩,
  ⟨some 28, (.indexSl 6 (.tmp 26) (.tmp 27)), false, none⟩,
  ⟨some 29, (.load 6 true (.tmp 28)), false, none⟩,
  ⟨some 30, (.load 1 false (.tmp 4)), false, none⟩,
  ⟨some 31, (.mov (.tmp 0)), false, none⟩,
  ⟨some 32, (.call i_fare_ticketPrice [(.tmp 24), (.tmp 29), (.tmp 30), (.tmp 31)]), false, none⟩,
  ⟨some 9, (.mov (.tmp 32)), false, none⟩]
def c52_3 : ACode := (.mixed o52_2 [true, true, true, true, true, true, true, true, false, true] [0, 1, 2, 5, 9])
def w52_3 (P : Program) (Q : Exit → Slots → Mem → Prop) (M : Mem) (v0 : V) (v1 : V) (v2 : V) (v3 : V) (v4 : V) (v5 : V) : Prop :=
  @OptVH (loadV 4 true v3 M) ⟨fun t24_1 =>
  @OptVH (moveV 0 v3) ⟨fun t25_2 =>
  @OptVH (loadV 1 false t25_2 M) ⟨fun t26_3 =>
  @OptVH (indexSlV 6 t26_3 v2 M) ⟨fun t28_5 =>
  @OptVH (loadV 6 true t28_5 M) ⟨fun t29_6 =>
  @OptVH (loadV 1 false v4 M) ⟨fun t30_7 =>
  @CallH P i_fare_ticketPrice [t24_1, t29_6, t30_7, v0] M ⟨fun t32_9 M9 =>
  Q .normal [(0, v0), (1, v1), (2, v2), (5, v5), (9, t32_9)] M9⟩⟩⟩⟩⟩⟩⟩
theorem e52_3 (P : Program) (Q : Exit → Slots → Mem → Prop) (s : Slots) (M : Mem) : wpC P c52_3 Q s M = w52_3 P Q M (sget s 0) (sget s 1) (sget s 2) (sget s 3) (sget s 4) (sget s 5) := by kernel_rfl
def o52_4 : List AOper := [⟨some 33, (.mov (.tmp 9)), false, none⟩,
  ⟨some 34, (.mov (.tmp 1)), false, none⟩,
  ⟨some 35, (.bin .add .none (.tmp 34) (.const (.int .i64 1))), false, none⟩,
  ⟨some 36, (.indexArr 9 7 (.tmp 5) (.tmp 35)), false, none⟩,
  ⟨some 37, (.fieldAddr 1 (.tmp 36)), false, none⟩,
  ⟨some 38, (.load 1 false (.tmp 37)), false, none⟩,
  ⟨some 39, (.bin .add .none (.tmp 33) (.tmp 38)), false, none⟩,
  ⟨some 40, (.mov (.tmp 1)), false, none⟩,
  ⟨some 41, (.bin .add .none (.tmp 40) (.const (.int .i64 1))), false, none⟩,
  ⟨some 42, (.indexArr 9 7 (.tmp 5) (.tmp 41)), false, none⟩,
  ⟨some 43, (.fieldAddr 2 (.tmp 42)), false, none⟩,
  ⟨some 44, (.load 1 false (.tmp 43)), false, none⟩,
  ⟨some 45, (.bin .add .none (.tmp 44) (.const (.int .i64 1))), false, none⟩,
  ⟨some 10, (.mov (.tmp 39)), false, none⟩,
  ⟨some 11, (.mov (.tmp 45)), false, none⟩]
def c52_5 : ACode := (.mixed o52_4 [true, true, true, true, true, true, true, true, true, true, true, true, true, true, true] [0, 1, 2, 5, 9, 10, 11])
def w52_5 (_P : Program) (Q : Exit → Slots → Mem → Prop) (M : Mem) (v0 : V) (v1 : V) (v2 : V) (v5 : V) (v9 : V) : Prop :=
  @OptVH (binV .add .none v1 (.int .i64 1)) ⟨fun t35_3 =>
  @OptVH (indexArrV 9 7 v5 t35_3) ⟨fun t36_4 =>
  @OptVH (moveV 1 t36_4) ⟨fun t37_5 =>
  @OptVH (loadV 1 false t37_5 M) ⟨fun t38_6 =>
  @OptVH (binV .add .none v9 t38_6) ⟨fun t39_7 =>
  @OptVH (binV .add .none v1 (.int .i64 1)) ⟨fun t41_9 =>
  @OptVH (indexArrV 9 7 v5 t41_9) ⟨fun t42_10 =>
  @OptVH (moveV 2 t42_10) ⟨fun t43_11 =>
  @OptVH (loadV 1 false t43_11 M) ⟨fun t44_12 =>
  @OptVH (binV .add .none t44_12 (.int .i64 1)) ⟨fun t45_13 =>
  Q .normal [(0, v0), (1, v1), (2, v2), (5, v5), (9, v9), (10, t39_7), (11, t45_13)] M⟩⟩⟩⟩⟩⟩⟩⟩⟩⟩
theorem e52_5 (P : Program) (Q : Exit → Slots → Mem → Prop) (s : Slots) (M : Mem) : wpC P c52_5 Q s M = w52_5 P Q M (sget s 0) (sget s 1) (sget s 2) (sget s 5) (sget s 9) := by kernel_rfl
def o52_6 : List AOper := [⟨some 52, (.mov (.tmp 0)), false, none⟩,
  ⟨some 53, (.mov (.tmp 10)), false, none⟩,
  ⟨some 54, (.mov (.tmp 11)), false, none⟩,
  ⟨some 55, (.mov (.tmp 2)), false, none⟩,
  ⟨some 56, (.mov (.tmp 0)), false, none⟩,
  ⟨some 57, (.mov (.tmp 1)), false, none⟩,
  ⟨some 58, (.mov (.tmp 9)), false, none⟩,
  ⟨some 59, (.build [(.int .i64 0), (.int .i64 0), (.int .i64 0), (.int .i64 0)] [(0, (1, (.tmp 55))), (1, (1, (.tmp 56))), (2, (1, (.tmp 57))), (3, (1, (.tmp 58)))]), false, none⟩,
  ⟨some 60, (.build [(.bool false), (.int .i64 0), (.int .i64 0), (.int .i64 0), (.int .i64 0), (.int .i64 0), (.int .i64 0)] [(0, (1, (.const (.bool true)))), (1, (1, (.tmp 53))), (2, (1, (.tmp 54))), (3, (4, (.tmp 59)))]), false, none⟩,
  ⟨some 61, (.indexArr 9 7 (.tmp 5) (.tmp 52)), false, none⟩,
  ⟨none, (.store 7 (.tmp 61) (.tmp 60)), false, none⟩]
def c52_7 : ACode := (.region o52_6 [])
def w52_7 (_P : Program) (Q : Exit → Slots → Mem → Prop) (M : Mem) (v0 : V) (v1 : V) (v2 : V) (v5 : V) (v9 : V) (v10 : V) (v11 : V) : Prop :=
  @OptVH (buildV [(.int .i64 0), (.int .i64 0), (.int .i64 0), (.int .i64 0)] [(0, 1, v2), (1, 1, v0), (2, 1, v1), (3, 1, v9)]) ⟨fun t59_8 =>
  @OptVH (buildV [(.bool false), (.int .i64 0), (.int .i64 0), (.int .i64 0), (.int .i64 0), (.int .i64 0), (.int .i64 0)] [(0, 1, (.bool true)), (1, 1, v10), (2, 1, v11), (3, 4, t59_8)]) ⟨fun t60_9 =>
  @OptVH (indexArrV 9 7 v5 v0) ⟨fun t61_10 =>
  @OptMH (storeVM 7 t61_10 t60_9 M) ⟨fun _tx_11 M11 =>
  Q .normal [] M11⟩⟩⟩⟩
theorem e52_7 (P : Program) (Q : Exit → Slots → Mem → Prop) (s : Slots) (M : Mem) : wpC P c52_7 Q s M = w52_7 P Q M (sget s 0) (sget s 1) (sget s 2) (sget s 5) (sget s 9) (sget s 10) (sget s 11) := by kernel_rfl
def o52_8 : List AOper := [⟨some 46, (.mov (.tmp 0)), false, none⟩,
  ⟨some 47, (.indexArr 9 7 (.tmp 5) (.tmp 46)), false, none⟩,
  ⟨some 48, (.load 7 true (.tmp 47)), false, none⟩,
  ⟨some 49, (.mov (.tmp 10)), false, none⟩,
  ⟨some 50, (.mov (.tmp 11)), false, none⟩,
  ⟨some 51, (.call i_fare_rest_better [(.tmp 48), (.tmp 49), (.tmp 50)]), true, none⟩]
def c52_9 : ACode := (.seq (.region o52_8 [0, 1, 2, 5, 9, 10, 11, 51]) (.cond (.tmp 51) c52_7 .skip))
def w52_9 (P : Program) (Q : Exit → Slots → Mem → Prop) (M : Mem) (v0 : V) (v1 : V) (v2 : V) (v5 : V) (v9 : V) (v10 : V) (v11 : V) : Prop :=
  @OptVH (indexArrV 9 7 v5 v0) ⟨fun t47_2 =>
  @OptVH (loadV 7 true t47_2 M) ⟨fun t48_3 =>
  @CallH P i_fare_rest_better [t48_3, v10, v11] M ⟨fun t51_6 M6 => @OptBH (some t51_6) ⟨fun b51_6 =>
  @BIfH b51_6
  ⟨wpC P c52_7 Q [(0, v0), (1, v1), (2, v2), (5, v5), (9, v9), (10, v10), (11, v11), (51, (.bool b51_6))] M6⟩
  ⟨Q .normal [(0, v0), (1, v1), (2, v2), (5, v5), (9, v9), (10, v10), (11, v11), (51, (.bool b51_6))] M6⟩⟩⟩⟩⟩
theorem e52_9 (P : Program) (Q : Exit → Slots → Mem → Prop) (s : Slots) (M : Mem) : wpC P c52_9 Q s M = w52_9 P Q M (sget s 0) (sget s 1) (sget s 2) (sget s 5) (sget s 9) (sget s 10) (sget s 11) := by kernel_rfl
def c52_10 : ACode := (.seq c52_5 c52_9)
def c52_11 : ACode := (.seq c52_3 c52_10)
def c52_12 : ACode := (.seq c52_1 c52_11)
def fn_fare_divide_1 : AFn := ⟨62, [], c52_12⟩
theorem fn_fare_divide_1_ok : resFn PR h_fare_divide_1 i_fare_divide_1 = some fn_fare_divide_1 := by kernel_rfl

def h_product_Covers : Hints := ⟨[(0, [1, 2]), (1, [1, 2, 5]), (2, [1, 2, 35]), (3, [4]), (4, [1, 2, 6, 7]), (5, [1, 2, 6, 7, 8]), (6, [2, 6, 7, 8, 37, 38, 39]), (7, [2, 6, 7, 8, 37, 38, 39, 40]), (8, [2, 6, 7, 8, 10, 37, 38, 39]), (9, [2, 6, 7, 8, 37, 38, 39]), (10, [2, 6, 7, 8, 37, 38, 39]), (11, [4])], [(7, [2, 6, 7, 8, 37, 38, 39])], []⟩
def o53_0 : List AOper := [⟨some 2, (.box 6 (.tmp 0)), false, none⟩,
  ⟨some 4, (.mov (.const (.bool false))), true, none⟩]
def c53_1 : ACode := (.region o53_0 [1, 2])
def w53_1 (_P : Program) (Q : Exit → Slots → Mem → Prop) (M : Mem) (v0 : V) (v1 : V) : Prop :=
  @OptMH (boxV 6 v0 M) ⟨fun t2_1 M1 =>
  Q .normal [(1, v1), (2, t2_1)] M1⟩
theorem e53_1 (P : Program) (Q : Exit → Slots → Mem → Prop) (s : Slots) (M : Mem) : wpC P c53_1 Q s M = w53_1 P Q M (sget s 0) (sget s 1) := by kernel_rfl
def o53_2 : List AOper := [⟨some 11, (.mov (.tmp 1)), false, none⟩,
  ⟨some 12, (.lenSl (.tmp 11)), false, none⟩,
  ⟨some 5, (.mov (.tmp 12)), false, none⟩]
def c53_3 : ACode := (.region o53_2 [1, 2, 5])
def w53_3 (_P : Program) (Q : Exit → Slots → Mem → Prop) (M : Mem) (v1 : V) (v2 : V) : Prop :=
  @OptVH (lenV v1 M) ⟨fun t12_2 =>
  Q .normal [(1, v1), (2, v2), (5, t12_2)] M⟩
theorem e53_3 (P : Program) (Q : Exit → Slots → Mem → Prop) (s : Slots) (M : Mem) : wpC P c53_3 Q s M = w53_3 P Q M (sget s 1) (sget s 2) := by kernel_rfl
def o53_4 : List AOper := [⟨some 4, (.mov (.const (.bool false))), true, none⟩]
def c53_5 : ACode := (.region o53_4 [4])
def w53_5 (_P : Program) (Q : Exit → Slots → Mem → Prop) (M : Mem) : Prop :=
  Q .normal [(4, (.bool false))] M
theorem e53_5 (P : Program) (Q : Exit → Slots → Mem → Prop) (s : Slots) (M : Mem) : wpC P c53_5 Q s M = w53_5 P Q M := by kernel_rfl
def c53_6 : ACode := (.seq c53_5 .ret)
def o53_7 : List AOper := [⟨some 13, (.mov (.tmp 5)), false, none⟩,
  ⟨some 14, (.bin .eql .none (.tmp 13) (.const (.int .i64 0))), true, none⟩,
  ⟨some 15, (.mov (.tmp 14)), true, none⟩,
  ⟨some 16, (.mov (.tmp 5)), false, some (15, false)⟩,
  ⟨some 17, (.fieldAddr 2 (.tmp 2)), false, some (15, false)⟩,
  ⟨some 18, (.load 1 false (.tmp 17)), false, some (15, false)⟩,
  ⟨some 19, (.bin .gtr .none (.tmp 16) (.tmp 18)), true, some (15, false)⟩,
  ⟨some 20, (.pick (.tmp 15) (.const (.bool true)) (.tmp 19)), true, none⟩,
  ⟨some 21, (.mov (.tmp 20)), true, none⟩,
  ⟨some 22, (.mov (.tmp 1)), false, some (21, false)⟩,
  ⟨some 23, (.indexSl 4 (.tmp 22) (.const (.int .i64 0))), false, some (21, false)⟩,
  ⟨some 24, (.fieldAddr 0 (.tmp 23)), false, some (21, false)⟩,
  ⟨some 25, (.load 1 false (.tmp 24)), false, some (21, false)⟩,
  ⟨some 26, (.mov (.tmp 1)), false, some (21, false)⟩,
  ⟨some 27, (.mov (.tmp 5)), false, some (21, false)⟩,
  ⟨some 28, (.bin .sub .none (.tmp 27) (.const (.int .i64 1))), false, some (21, false)⟩,
  ⟨some 29, (.indexSl 4 (.tmp 26) (.tmp 28)), false, some (21, false)⟩,
  ⟨some 30, (.fieldAddr 0 (.tmp 29)), false, some (21, false)⟩,
  ⟨some 31, (.load 1 false (.tmp 30)), false, some (21, false)⟩,
  ⟨some 32, (.fieldAddr 4 (.tmp 2)), false, some (21, false)⟩,
  ⟨some 33, (.load 1 false (.tmp 32)), false, some (21, false)⟩,
  ⟨some 34, (.call i_product_later [(.tmp 25), (.tmp 31), (.tmp 33)]), true, some (21, false)⟩,
  ⟨some 35, (.pick (.tmp 21) (.const (.bool true)) (.tmp 34)), true, none⟩]
def c53_8 : ACode := (.seq (.mixed o53_7 [true, true, true, true, true, true, true, true, true, true, true, true, true, true, true, true, true, true, true, true, true, false, true] [1, 2, 35]) (.cond (.tmp 35) c53_6 .skip))
def w53_8 (P : Program) (Q : Exit → Slots → Mem → Prop) (M : Mem) (v1 : V) (v2 : V) (v5 : V) : Prop :=
  @OptBH (binV .eql .none v5 (.int .i64 0)) ⟨fun b14_2 =>
  @BIfH b14_2
  ⟨wpC P c53_6 Q [(1, v1), (2, v2), (35, (.bool true))] M⟩
  ⟨@OptVH (moveV 2 v2) ⟨fun t17_8 =>
  @OptVH (loadV 1 false t17_8 M) ⟨fun t18_9 =>
  @OptBH (binV .gtr .none v5 t18_9) ⟨fun b19_10 =>
  @BIfH b19_10
  ⟨wpC P c53_6 Q [(1, v1), (2, v2), (35, (.bool true))] M⟩
  ⟨@OptVH (indexSlV 4 v1 (.int .i64 0) M) ⟨fun t23_15 =>
  @OptVH (moveV 0 t23_15) ⟨fun t24_16 =>
  @OptVH (loadV 1 false t24_16 M) ⟨fun t25_17 =>
  @OptVH (binV .sub .none v5 (.int .i64 1)) ⟨fun t28_20 =>
  @OptVH (indexSlV 4 v1 t28_20 M) ⟨fun t29_21 =>
  @OptVH (moveV 0 t29_21) ⟨fun t30_22 =>
  @OptVH (loadV 1 false t30_22 M) ⟨fun t31_23 =>
  @OptVH (moveV 4 v2) ⟨fun t32_24 =>
  @OptVH (loadV 1 false t32_24 M) ⟨fun t33_25 =>
  @CallH P i_product_later [t25_17, t31_23, t33_25] M ⟨fun t34_26 M26 => @OptBH (some t34_26) ⟨fun b34_26 =>
  @BIfH b34_26
  ⟨wpC P c53_6 Q [(1, v1), (2, v2), (35, (.bool b34_26))] M26⟩
  ⟨Q .normal [(1, v1), (2, v2), (35, (.bool b34_26))] M26⟩⟩⟩⟩⟩⟩⟩⟩⟩⟩⟩⟩⟩⟩⟩⟩⟩⟩
theorem e53_8 (P : Program) (Q : Exit → Slots → Mem → Prop) (s : Slots) (M : Mem) : wpC P c53_8 Q s M = w53_8 P Q M (sget s 1) (sget s 2) (sget s 5) := by kernel_rfl
def o53_9 : List AOper := [⟨some 6, (.alloc [(.int .u64 0)]), false, none⟩,
  ⟨some 7, (.alloc [(.int .u64 0)]), false, none⟩]
def c53_10 : ACode := (.region o53_9 [1, 2, 6, 7])
def w53_10 (_P : Program) (Q : Exit → Slots → Mem → Prop) (M : Mem) (v1 : V) (v2 : V) : Prop :=
  @OptMH (allocV [(.int .u64 0)] M) ⟨fun t6_1 M1 =>
  @OptMH (allocV [(.int .u64 0)] M1) ⟨fun t7_2 M2 =>
  Q .normal [(1, v1), (2, v2), (6, t6_1), (7, t7_2)] M2⟩⟩
theorem e53_10 (P : Program) (Q : Exit → Slots → Mem → Prop) (s : Slots) (M : Mem) : wpC P c53_10 Q s M = w53_10 P Q M (sget s 1) (sget s 2) := by kernel_rfl
def o53_11 : List AOper := [⟨some 36, (.mkfn i_product_Covers_1 [(.tmp 6), (.tmp 7)]), false, none⟩,
  ⟨some 8, (.mov (.tmp 36)), false, none⟩]
def c53_12 : ACode := (.region o53_11 [1, 2, 6, 7, 8])
def w53_12 (_P : Program) (Q : Exit → Slots → Mem → Prop) (M : Mem) (v1 : V) (v2 : V) (v6 : V) (v7 : V) : Prop :=
  Q .normal [(1, v1), (2, v2), (6, v6), (7, v7), (8, (mkfnV i_product_Covers_1 [v6, v7]))] M
theorem e53_12 (P : Program) (Q : Exit → Slots → Mem → Prop) (s : Slots) (M : Mem) : wpC P c53_12 Q s M = w53_12 P Q M (sget s 1) (sget s 2) (sget s 6) (sget s 7) := by kernel_rfl
def o53_13 : List AOper := [⟨some 37, (.mov (.tmp 1)), false, none⟩,
  ⟨some 38, (.lenSl (.tmp 37)), false, none⟩,
  ⟨some 39, (.mov (.const (.int .i64 0))), false, none⟩]
def c53_14 : ACode := (.region o53_13 [2, 6, 7, 8, 37, 38, 39])
def w53_14 (_P : Program) (Q : Exit → Slots → Mem → Prop) (M : Mem) (v1 : V) (v2 : V) (v6 : V) (v7 : V) (v8 : V) : Prop :=
  @OptVH (lenV v1 M) ⟨fun t38_2 =>
  Q .normal [(2, v2), (6, v6), (7, v7), (8, v8), (37, v1), (38, t38_2), (39, (.int .i64 0))] M⟩
theorem e53_14 (P : Program) (Q : Exit → Slots → Mem → Prop) (s : Slots) (M : Mem) : wpC P c53_14 Q s M = w53_14 P Q M (sget s 1) (sget s 2) (sget s 6) (sget s 7) (sget s 8) := by kernel_rfl
def o53_15 : List AOper := [⟨some 40, (.bin .lss .none (.tmp 39) (.tmp 38)), false, none⟩]
def c53_16 : ACode := (.region o53_15 [2, 6, 7, 8, 37, 38, 39, 40])
def w53_16 (_P : Program) (Q : Exit → Slots → Mem → Prop) (M : Mem) (v2 : V) (v6 : V) (v7 : V) (v8 : V) (v37 : V) (v38 : V) (v39 : V) : Prop :=
  @OptVH (binV .lss .none v39 v38) ⟨fun t40_1 =>
  Q .normal [(2, v2), (6, v6), (7, v7), (8, v8), (37, v37), (38, v38), (39, v39), (40, t40_1)] M⟩
theorem e53_16 (P : Program) (Q : Exit → Slots → Mem → Prop) (s : Slots) (M : Mem) : wpC P c53_16 Q s M = w53_16 P Q M (sget s 2) (sget s 6) (sget s 7) (sget s 8) (sget s 37) (sget s 38) (sget s 39) := by kernel_rfl
def c53_17 : ACode := (.cond (.tmp 40) .skip (.exit 0))
def o53_18 : List AOper := [⟨some 41, (.indexSl 4 (.tmp 37) (.tmp 39)), false, none⟩,
  ⟨some 42, (.load 4 true (.tmp 41)), false, none⟩,
  ⟨some 10, (.alloc [(.int .i64 0), (.int .i64 0), (.int .i64 0), (.int .i64 0)]), false, none⟩,
  ⟨none, (.store 4 (.tmp 10) (.tmp 42)), false, none⟩]
def c53_19 : ACode := (.region o53_18 [2, 6, 7, 8, 10, 37, 38, 39])
def w53_19 (_P : Program) (Q : Exit → Slots → Mem → Prop) (M : Mem) (v2 : V) (v6 : V) (v7 : V) (v8 : V) (v37 : V) (v38 : V) (v39 : V) : Prop :=
  @OptVH (indexSlV 4 v37 v39 M) ⟨fun t41_1 =>
  @OptVH (loadV 4 true t41_1 M) ⟨fun t42_2 =>
  @OptMH (allocV [(.int .i64 0), (.int .i64 0), (.int .i64 0), (.int .i64 0)] M) ⟨fun t10_3 M3 =>
  @OptMH (storeVM 4 t10_3 t42_2 M3) ⟨fun _tx_4 M4 =>
  Q .normal [(2, v2), (6, v6), (7, v7), (8, v8), (10, t10_3), (37, v37), (38, v38), (39, v39)] M4⟩⟩⟩⟩
theorem e53_19 (P : Program) (Q : Exit → Slots → Mem → Prop) (s : Slots) (M : Mem) : wpC P c53_19 Q s M = w53_19 P Q M (sget s 2) (sget s 6) (sget s 7) (sget s 8) (sget s 37) (sget s 38) (sget s 39) := by kernel_rfl
def o53_20 : List AOper := [⟨some 43, (.mov (.tmp 8)), false, none⟩,
  ⟨some 44, (.load 4 true (.tmp 10)), false, none⟩,
  ⟨some 45, (.callv (.tmp 43) [(.tmp 44)]), false, none⟩]
def c53_21 : ACode := (.region o53_20 [2, 6, 7, 8, 37, 38, 39])
def w53_21 (P : Program) (Q : Exit → Slots → Mem → Prop) (M : Mem) (v2 : V) (v6 : V) (v7 : V) (v8 : V) (v10 : V) (v37 : V) (v38 : V) (v39 : V) : Prop :=
  @OptVH (loadV 4 true v10 M) ⟨fun t44_2 =>
  @CallV P false v8 [t44_2] M ⟨fun _t45_3 M3 =>
  Q .normal [(2, v2), (6, v6), (7, v7), (8, v8), (37, v37), (38, v38), (39, v39)] M3⟩⟩
theorem e53_21 (P : Program) (Q : Exit → Slots → Mem → Prop) (s : Slots) (M : Mem) : wpC P c53_21 Q s M = w53_21 P Q M (sget s 2) (sget s 6) (sget s 7) (sget s 8) (sget s 10) (sget s 37) (sget s 38) (sget s 39) := by kernel_rfl
def c53_22 : ACode := (.seq c53_19 c53_21)
def c53_23 : ACode := (.block 1 c53_22)
def o53_24 : List AOper := [⟨some 46, (.bin .add .none (.tmp 39) (.const (.int .i64 1))), false, none⟩,
  ⟨some 39, (.mov (.tmp 46)), false, none⟩]
def c53_25 : ACode := (.region o53_24 [2, 6, 7, 8, 37, 38, 39])
def w53_25 (_P : Program) (Q : Exit → Slots → Mem → Prop) (M : Mem) (v2 : V) (v6 : V) (v7 : V) (v8 : V) (v37 : V) (v38 : V) (v39 : V) : Prop :=
  @OptVH (binV .add .none v39 (.int .i64 1)) ⟨fun t46_1 =>
  Q .normal [(2, v2), (6, v6), (7, v7), (8, v8), (37, v37), (38, v38), (39, t46_1)] M⟩
theorem e53_25 (P : Program) (Q : Exit → Slots → Mem → Prop) (s : Slots) (M : Mem) : wpC P c53_25 Q s M = w53_25 P Q M (sget s 2) (sget s 6) (sget s 7) (sget s 8) (sget s 37) (sget s 38) (sget s 39) := by kernel_rfl
def c53_26 : ACode := (.seq c53_23 c53_25)
def c53_27 : ACode := (.seq c53_17 c53_26)
def c53_28 : ACode := (.seq c53_16 c53_27)
def c53_29 : ACode := (.loop [2, 6, 7, 8, 37, 38, 39] c53_28)
def c53_30 : ACode := (.block 0 c53_29)
def c53_31 : ACode := (.seq c53_14 c53_30)
def o53_32 : List AOper := [⟨some 47, (.load 1 false (.tmp 6)), false, none⟩,
  ⟨some 48, (.call i_bitset_Set_Len [(.tmp 47)]), false, none⟩,
  ⟨some 49, (.fieldAddr 3 (.tmp 2)), false, none⟩,
  ⟨some 50, (.load 1 false (.tmp 49)), false, none⟩,
  ⟨some 51, (.bin .leq .none (.tmp 48) (.tmp 50)), true, none⟩,
  ⟨some 52, (.mov (.tmp 51)), true, none⟩,
  ⟨some 53, (.load 1 false (.tmp 7)), false, some (52, true)⟩,
  ⟨some 54, (.fieldAddr 5 (.tmp 2)), false, some (52, true)⟩,
  ⟨some 55, (.load 1 false (.tmp 54)), false, some (52, true)⟩,
  ⟨some 56, (.conv .u64 (.tmp 55)), false, some (52, true)⟩,
  ⟨some 57, (.call i_bitset_Set_Within [(.tmp 53), (.tmp 56)]), true, some (52, true)⟩,
  ⟨some 58, (.pick (.tmp 52) (.tmp 57) (.const (.bool false))), true, none⟩,
  ⟨some 4, (.mov (.tmp 58)), true, none⟩]
def c53_33 : ACode := (.mixed o53_32 [true, true, true, true, true, true, true, true, true, true, false, true, true] [4])
def w53_33 (P : Program) (Q : Exit → Slots → Mem → Prop) (M : Mem) (v2 : V) (v6 : V) (v7 : V) : Prop :=
  @OptVH (loadV 1 false v6 M) ⟨fun t47_1 =>
  @CallQ P i_bitset_Set_Len [t47_1] M ⟨fun t48_2 M2 =>
  @OptVH (moveV 3 v2) ⟨fun t49_3 =>
  @OptVH (loadV 1 false t49_3 M2) ⟨fun t50_4 =>
  @OptBH (binV .leq .none t48_2 t50_4) ⟨fun b51_5 =>
  @BIfH b51_5
  ⟨@OptVH (loadV 1 false v7 M2) ⟨fun t53_7 =>
  @OptVH (moveV 5 v2) ⟨fun t54_8 =>
  @OptVH (loadV 1 false t54_8 M2) ⟨fun t55_9 =>
  @OptVH (convV .u64 t55_9) ⟨fun t56_10 =>
  @CallH P i_bitset_Set_Within [t53_7, t56_10] M2 ⟨fun t57_11 M11 => @OptBH (some t57_11) ⟨fun b57_11 =>
  Q .normal [(4, (.bool b57_11))] M11⟩⟩⟩⟩⟩⟩⟩
  ⟨Q .normal [(4, (.bool false))] M2⟩⟩⟩⟩⟩⟩
theorem e53_33 (P : Program) (Q : Exit → Slots → Mem → Prop) (s : Slots) (M : Mem) : wpC P c53_33 Q s M = w53_33 P Q M (sget s 2) (sget s 6) (sget s 7) := by kernel_rfl
def c53_34 : ACode := (.seq c53_33 .ret)
def c53_35 : ACode := (.seq c53_31 c53_34)
def c53_36 : ACode := (.seq c53_12 c53_35)
def c53_37 : ACode := (.seq c53_10 c53_36)
def c53_38 : ACode := (.seq c53_8 c53_37)
def c53_39 : ACode := (.seq c53_3 c53_38)
def c53_40 : ACode := (.seq c53_1 c53_39)
def fn_product_Covers : AFn := ⟨59, [(.tmp 4)], c53_40⟩
theorem fn_product_Covers_ok : resFn PR h_product_Covers i_product_Covers = some fn_product_Covers := by kernel_rfl

def h_fare_ticketPrice : Hints := ⟨[(0, [2, 3, 4, 5]), (1, [4, 5, 26]), (2, [8]), (3, [8])], [], []⟩
def o54_0 : List AOper := [⟨some 4, (.box 4 (.tmp 0)), false, none⟩,
  ⟨some 5, (.box 6 (.tmp 1)), false, none⟩,
  ⟨some 8, (.mov (.const (.int .i64 0))), false, none⟩]
def c54_1 : ACode := (.region o54_0 [2, 3, 4, 5])
def w54_1 (_P : Program) (Q : Exit → Slots → Mem → Prop) (M : Mem) (v0 : V) (v1 : V) (v2 : V) (v3 : V) : Prop :=
  @OptMH (boxV 4 v0 M) ⟨fun t4_1 M1 =>
  @OptMH (boxV 6 v1 M1) ⟨fun t5_2 M2 =>
  Q .normal [(2, v2), (3, v3), (4, t4_1), (5, t5_2)] M2⟩⟩
theorem e54_1 (P : Program) (Q : Exit → Slots → Mem → Prop) (s : Slots) (M : Mem) : wpC P c54_1 Q s M = w54_1 P Q M (sget s 0) (sget s 1) (sget s 2) (sget s 3) := by kernel_rfl
def o54_2 : List AOper := [⟨some 27, (.fieldAddr 1 (.tmp 5)), false, none⟩,
  ⟨some 28, (.load 1 false (.tmp 27)), false, none⟩,
  ⟨some 29, (.fieldAddr 1 (.tmp 4)), false, none⟩,
  ⟨some 30, (.load 1 false (.tmp 29)), false, none⟩,
  ⟨some 31, (.bin .sub .none (.tmp 28) (.tmp 30)), false, none⟩,
  ⟨some 32, (.minmax true (.const (.int .i64 0)) (.tmp 31)), false, none⟩,
  ⟨some 8, (.mov (.tmp 32)), false, none⟩]
def c54_3 : ACode := (.region o54_2 [8])
def w54_3 (_P : Program) (Q : Exit → Slots → Mem → Prop) (M : Mem) (v4 : V) (v5 : V) : Prop :=
  @OptVH (moveV 1 v5) ⟨fun t27_1 =>
  @OptVH (loadV 1 false t27_1 M) ⟨fun t28_2 =>
  @OptVH (moveV 1 v4) ⟨fun t29_3 =>
  @OptVH (loadV 1 false t29_3 M) ⟨fun t30_4 =>
  @OptVH (binV .sub .none t28_2 t30_4) ⟨fun t31_5 =>
  @OptVH (minmaxV true (.int .i64 0) t31_5) ⟨fun t32_6 =>
  Q .normal [(8, t32_6)] M⟩⟩⟩⟩⟩⟩
theorem e54_3 (P : Program) (Q : Exit → Slots → Mem → Prop) (s : Slots) (M : Mem) : wpC P c54_3 Q s M = w54_3 P Q M (sget s 4) (sget s 5) := by kernel_rfl
def c54_4 : ACode := (.seq c54_3 .ret)
def o54_5 : List AOper := [⟨some 9, (.mov (.tmp 3)), false, none⟩,
  ⟨some 10, (.bin .gtr .none (.tmp 9) (.const (.int .i64 0))), true, none⟩,
  ⟨some 11, (.mov (.tmp 10)), true, none⟩,
  ⟨some 12, (.mov (.tmp 2)), false, some (11, true)⟩,
  ⟨some 13, (.mov (.tmp 3)), false, some (11, true)⟩,
  ⟨some 14, (.bin .sub .none (.tmp 13) (.const (.int .i64 1))), false, some (11, true)⟩,
  ⟨some 15, (.indexSl 4 (.tmp 12) (.tmp 14)), false, some (11, true)⟩,
  ⟨some 16, (.fieldAddr 1 (.tmp 15)), false, some (11, true)⟩,
  ⟨some 17, (.load 1 false (.tmp 16)), false, some (11, true)⟩,
  ⟨some 18, (.mov (.tmp 2)), false, some (11, true)⟩,
  ⟨some 19, (.mov (.tmp 3)), false, some (11, true)⟩,
  ⟨some 20, (.indexSl 4 (.tmp 18) (.tmp 19)), false, some (11, true)⟩,
  ⟨some 21, (.fieldAddr 0 (.tmp 20)), false, some (11, true)⟩,
  ⟨some 22, (.load 1 false (.tmp 21)), false, some (11, true)⟩,
  ⟨some 23, (.fieldAddr 2 (.tmp 4)), false, some (11, true)⟩,
  ⟨some 24, (.load 1 false (.tmp 23)), false, some (11, true)⟩,
  ⟨some 25, (.call i_fare_within [(.tmp 17), (.tmp 22), (.tmp 24)]), true, some (11, true)⟩,
  ⟨some 26, (.pick (.tmp 11) (.tmp 25) (.const (.bool false))), true, none⟩]
def c54_6 : ACode := (.seq (.mixed o54_5 [true, true, true, true, true, true, true, true, true, true, true, true, true, true, true, true, false, true] [4, 5, 26]) (.cond (.tmp 26) c54_4 .skip))
def w54_6 (P : Program) (Q : Exit → Slots → Mem → Prop) (M : Mem) (v2 : V) (v3 : V) (v4 : V) (v5 : V) : Prop :=
  @OptBH (binV .gtr .none v3 (.int .i64 0)) ⟨fun b10_2 =>
  @BIfH b10_2
  ⟨@OptVH (binV .sub .none v3 (.int .i64 1)) ⟨fun t14_6 =>
  @OptVH (indexSlV 4 v2 t14_6 M) ⟨fun t15_7 =>
  @OptVH (moveV 1 t15_7) ⟨fun t16_8 =>
  @OptVH (loadV 1 false t16_8 M) ⟨fun t17_9 =>
  @OptVH (indexSlV 4 v2 v3 M) ⟨fun t20_12 =>
  @OptVH (moveV 0 t20_12) ⟨fun t21_13 =>
  @OptVH (loadV 1 false t21_13 M) ⟨fun t22_14 =>
  @OptVH (moveV 2 v4) ⟨fun t23_15 =>
  @OptVH (loadV 1 false t23_15 M) ⟨fun t24_16 =>
  @CallH P i_fare_within [t17_9, t22_14, t24_16] M ⟨fun t25_17 M17 => @OptBH (some t25_17) ⟨fun b25_17 =>
  @BIfH b25_17
  ⟨wpC P c54_4 Q [(4, v4), (5, v5), (26, (.bool b25_17))] M17⟩
  ⟨Q .normal [(4, v4), (5, v5), (26, (.bool b25_17))] M17⟩⟩⟩⟩⟩⟩⟩⟩⟩⟩⟩⟩⟩
  ⟨Q .normal [(4, v4), (5, v5), (26, (.bool false))] M⟩⟩
theorem e54_6 (P : Program) (Q : Exit → Slots → Mem → Prop) (s : Slots) (M : Mem) : wpC P c54_6 Q s M = w54_6 P Q M (sget s 2) (sget s 3) (sget s 4) (sget s 5) := by kernel_rfl
def o54_7 : List AOper := [⟨some 33, (.fieldAddr 1 (.tmp 5)), false, none⟩,
  ⟨some 34, (.load 1 false (.tmp 33)), false, none⟩,
  ⟨some 8, (.mov (.tmp 34)), false, none⟩]
def c54_8 : ACode := (.region o54_7 [8])
def w54_8 (_P : Program) (Q : Exit → Slots → Mem → Prop) (M : Mem) (v5 : V) : Prop :=
  @OptVH (moveV 1 v5) ⟨fun t33_1 =>
  @OptVH (loadV 1 false t33_1 M) ⟨fun t34_2 =>
  Q .normal [(8, t34_2)] M⟩⟩
theorem e54_8 (P : Program) (Q : Exit → Slots → Mem → Prop) (s : Slots) (M : Mem) : wpC P c54_8 Q s M = w54_8 P Q M (sget s 5) := by kernel_rfl
def c54_9 : ACode := (.seq c54_8 .ret)
def c54_10 : ACode := (.seq c54_6 c54_9)
def c54_11 : ACode := (.seq c54_1 c54_10)
def fn_fare_ticketPrice : AFn := ⟨35, [(.tmp 8)], c54_11⟩
theorem fn_fare_ticketPrice_ok : resFn PR h_fare_ticketPrice i_fare_ticketPrice = some fn_fare_ticketPrice := by kernel_rfl

def h_fare_rest_better : Hints := ⟨[(0, [1, 2, 3]), (1, [6])], [], []⟩
def o55_0 : List AOper := [⟨some 3, (.box 7 (.tmp 0)), false, none⟩,
  ⟨some 6, (.mov (.const (.bool false))), true, none⟩]
def c55_1 : ACode := (.region o55_0 [1, 2, 3])
def w55_1 (_P : Program) (Q : Exit → Slots → Mem → Prop) (M : Mem) (v0 : V) (v1 : V) (v2 : V) : Prop :=
  @OptMH (boxV 7 v0 M) ⟨fun t3_1 M1 =>
  Q .normal [(1, v1), (2, v2), (3, t3_1)] M1⟩
theorem e55_1 (P : Program) (Q : Exit → Slots → Mem → Prop) (s : Slots) (M : Mem) : wpC P c55_1 Q s M = w55_1 P Q M (sget s 0) (sget s 1) (sget s 2) := by kernel_rfl
def o55_2 : List AOper := [⟨some 7, (.fieldAddr 0 (.tmp 3)), false, none⟩,
  ⟨some 8, (.load 1 false (.tmp 7)), true, none⟩,
  ⟨some 9, (.un .not (.tmp 8)), true, none⟩,
  ⟨some 10, (.mov (.tmp 9)), true, none⟩,
  ⟨some 11, (.mov (.tmp 1)), false, some (10, false)⟩,
  ⟨some 12, (.fieldAddr 1 (.tmp 3)), false, some (10, false)⟩,
  ⟨some 13, (.load 1 false (.tmp 12)), false, some (10, false)⟩,
  ⟨some 14, (.bin .lss .none (.tmp 11) (.tmp 13)), true, some (10, false)⟩,
  ⟨some 15, (.pick (.tmp 10) (.const (.bool true)) (.tmp 14)), true, none⟩,
  ⟨some 16, (.mov (.tmp 15)), true, none⟩,
  ⟨some 17, (.mov (.tmp 1)), false, some (16, false)⟩,
  ⟨some 18, (.fieldAddr 1 (.tmp 3)), false, some (16, false)⟩,
  ⟨some 19, (.load 1 false (.tmp 18)), false, some (16, false)⟩,
  ⟨some 20, (.bin .eql .none (.tmp 17) (.tmp 19)), true, some (16, false)⟩,
  ⟨some 21, (.mov (.tmp 20)), true, some (16, false)⟩,
  ⟨some 22, (.mov (.tmp 2)), false, some (21, true)⟩,
  ⟨some 23, (.fieldAddr 2 (.tmp 3)), false, some (21, true)⟩,
  ⟨some 24, (.load 1 false (.tmp 23)), false, some (21, true)⟩,
  ⟨some 25, (.bin .lss .none (.tmp 22) (.tmp 24)), true, some (21, true)⟩,
  ⟨some 26, (.pick (.tmp 21) (.tmp 25) (.const (.bool false))), true, some (16, false)⟩,
  ⟨some 27, (.pick (.tmp 16) (.const (.bool true)) (.tmp 26)), true, none⟩,
  ⟨some 6, (.mov (.tmp 27)), true, none⟩]
def c55_3 : ACode := (.region o55_2 [6])
def w55_3 (_P : Program) (Q : Exit → Slots → Mem → Prop) (M : Mem) (v1 : V) (v2 : V) (v3 : V) : Prop :=
  @OptVH (moveV 0 v3) ⟨fun t7_1 =>
  @OptBH (loadV 1 false t7_1 M) ⟨fun b8_2 =>
  @OptBH (unV .not (.bool b8_2)) ⟨fun b9_3 =>
  @BIfH b9_3
  ⟨Q .normal [(6, (.bool true))] M⟩
  ⟨@OptVH (moveV 1 v3) ⟨fun t12_10 =>
  @OptVH (loadV 1 false t12_10 M) ⟨fun t13_11 =>
  @OptBH (binV .lss .none v1 t13_11) ⟨fun b14_12 =>
  @BIfH b14_12
  ⟨Q .normal [(6, (.bool true))] M⟩
  ⟨@OptVH (moveV 1 v3) ⟨fun t18_18 =>
  @OptVH (loadV 1 false t18_18 M) ⟨fun t19_19 =>
  @OptBH (binV .eql .none v1 t19_19) ⟨fun b20_20 =>
  @BIfH b20_20
  ⟨@OptVH (moveV 2 v3) ⟨fun t23_23 =>
  @OptVH (loadV 1 false t23_23 M) ⟨fun t24_24 =>
  @OptBH (binV .lss .none v2 t24_24) ⟨fun b25_25 =>
  Q .normal [(6, (.bool b25_25))] M⟩⟩⟩⟩
  ⟨Q .normal [(6, (.bool false))] M⟩⟩⟩⟩⟩⟩⟩⟩⟩⟩⟩⟩
theorem e55_3 (P : Program) (Q : Exit → Slots → Mem → Prop) (s : Slots) (M : Mem) : wpC P c55_3 Q s M = w55_3 P Q M (sget s 1) (sget s 2) (sget s 3) := by kernel_rfl
def c55_4 : ACode := (.seq c55_3 .ret)
def c55_5 : ACode := (.seq c55_1 c55_4)
def fn_fare_rest_better : AFn := ⟨28, [(.tmp 6)], c55_5⟩
theorem fn_fare_rest_better_ok : resFn PR h_fare_rest_better i_fare_rest_better = some fn_fare_rest_better := by kernel_rfl

def h_transitref26_in : Hints := ⟨[(0, [0, 1, 2]), (1, [6])], [], []⟩
def o56_0 : List AOper := [⟨some 6, (.mov (.const (.bool false))), true, none⟩]
def c56_1 : ACode := (.region o56_0 [0, 1, 2])
def w56_1 (_P : Program) (Q : Exit → Slots → Mem → Prop) (M : Mem) (v0 : V) (v1 : V) (v2 : V) : Prop :=
  Q .normal [(0, v0), (1, v1), (2, v2)] M
theorem e56_1 (P : Program) (Q : Exit → Slots → Mem → Prop) (s : Slots) (M : Mem) : wpC P c56_1 Q s M = w56_1 P Q M (sget s 0) (sget s 1) (sget s 2) := by kernel_rfl
def o56_2 : List AOper := [⟨some 7, (.mov (.tmp 0)), false, none⟩,
  ⟨some 8, (.mov (.tmp 1)), false, none⟩,
  ⟨some 9, (.bin .geq .none (.tmp 7) (.tmp 8)), true, none⟩,
  ⟨some 10, (.mov (.tmp 9)), true, none⟩,
  ⟨some 11, (.mov (.tmp 0)), false, some (10, true)⟩,
  ⟨some 12, (.mov (.tmp 2)), false, some (10, true)⟩,
  ⟨some 13, (.bin .leq .none (.tmp 11) (.tmp 12)), true, some (10, true)⟩,
  ⟨some 14, (.pick (.tmp 10) (.tmp 13) (.const (.bool false))), true, none⟩,
  ⟨some 6, (.mov (.tmp 14)), true, none⟩]
def c56_3 : ACode := (.region o56_2 [6])
def w56_3 (_P : Program) (Q : Exit → Slots → Mem → Prop) (M : Mem) (v0 : V) (v1 : V) (v2 : V) : Prop :=
  @OptBH (binV .geq .none v0 v1) ⟨fun b9_3 =>
  @BIfH b9_3
  ⟨@OptBH (binV .leq .none v0 v2) ⟨fun b13_7 =>
  Q .normal [(6, (.bool b13_7))] M⟩⟩
  ⟨Q .normal [(6, (.bool false))] M⟩⟩
theorem e56_3 (P : Program) (Q : Exit → Slots → Mem → Prop) (s : Slots) (M : Mem) : wpC P c56_3 Q s M = w56_3 P Q M (sget s 0) (sget s 1) (sget s 2) := by kernel_rfl
def c56_4 : ACode := (.seq c56_3 .ret)
def c56_5 : ACode := (.seq c56_1 c56_4)
def fn_transitref26_in : AFn := ⟨15, [(.tmp 6)], c56_5⟩
theorem fn_transitref26_in_ok : resFn PR h_transitref26_in i_transitref26_in = some fn_transitref26_in := by kernel_rfl

def h_transitref26_ValidID : Hints := ⟨[(0, [0]), (1, [0, 13]), (2, [2]), (3, [0, 3]), (4, [0, 3, 17]), (5, [0, 3]), (6, [0, 3, 4]), (7, [0, 3, 4, 5]), (8, [0, 3, 58]), (9, [2]), (10, [2])], [(4, [0, 3])], []⟩
def o57_0 : List AOper := [⟨some 2, (.mov (.const (.bool false))), true, none⟩]
def c57_1 : ACode := (.region o57_0 [0])
def w57_1 (_P : Program) (Q : Exit → Slots → Mem → Prop) (M : Mem) (v0 : V) : Prop :=
  Q .normal [(0, v0)] M
theorem e57_1 (P : Program) (Q : Exit → Slots → Mem → Prop) (s : Slots) (M : Mem) : wpC P c57_1 Q s M = w57_1 P Q M (sget s 0) := by kernel_rfl
def o57_2 : List AOper := [⟨some 2, (.mov (.const (.bool false))), true, none⟩]
def c57_3 : ACode := (.region o57_2 [2])
def w57_3 (_P : Program) (Q : Exit → Slots → Mem → Prop) (M : Mem) : Prop :=
  Q .normal [(2, (.bool false))] M
theorem e57_3 (P : Program) (Q : Exit → Slots → Mem → Prop) (s : Slots) (M : Mem) : wpC P c57_3 Q s M = w57_3 P Q M := by kernel_rfl
def c57_4 : ACode := (.seq c57_3 .ret)
def o57_5 : List AOper := [⟨some 6, (.mov (.tmp 0)), false, none⟩,
  ⟨some 7, (.lenStr (.tmp 6)), false, none⟩,
  ⟨some 8, (.bin .lss .none (.tmp 7) (.const (.int .i64 1))), true, none⟩,
  ⟨some 9, (.mov (.tmp 8)), true, none⟩,
  ⟨some 10, (.mov (.tmp 0)), false, some (9, false)⟩,
  ⟨some 11, (.lenStr (.tmp 10)), false, some (9, false)⟩,
  ⟨some 12, (.bin .gtr .none (.tmp 11) (.const (.int .i64 32))), true, some (9, false)⟩,
  ⟨some 13, (.pick (.tmp 9) (.const (.bool true)) (.tmp 12)), true, none⟩]
def c57_6 : ACode := (.seq (.region o57_5 [0, 13]) (.cond (.tmp 13) c57_4 .skip))
def w57_6 (P : Program) (Q : Exit → Slots → Mem → Prop) (M : Mem) (v0 : V) : Prop :=
  @OptVH (lenStrV v0) ⟨fun t7_2 =>
  @OptBH (binV .lss .none t7_2 (.int .i64 1)) ⟨fun b8_3 =>
  @BIfH b8_3
  ⟨wpC P c57_4 Q [(0, v0), (13, (.bool true))] M⟩
  ⟨@OptVH (lenStrV v0) ⟨fun t11_7 =>
  @OptBH (binV .gtr .none t11_7 (.int .i64 32)) ⟨fun b12_8 =>
  @BIfH b12_8
  ⟨wpC P c57_4 Q [(0, v0), (13, (.bool b12_8))] M⟩
  ⟨Q .normal [(0, v0), (13, (.bool b12_8))] M⟩⟩⟩⟩⟩⟩
theorem e57_6 (P : Program) (Q : Exit → Slots → Mem → Prop) (s : Slots) (M : Mem) : wpC P c57_6 Q s M = w57_6 P Q M (sget s 0) := by kernel_rfl
def o57_7 : List AOper := [⟨some 3, (.mov (.const (.int .i64 0))), false, none⟩]
def c57_8 : ACode := (.region o57_7 [0, 3])
def w57_8 (_P : Program) (Q : Exit → Slots → Mem → Prop) (M : Mem) (v0 : V) : Prop :=
  Q .normal [(0, v0), (3, (.int .i64 0))] M
theorem e57_8 (P : Program) (Q : Exit → Slots → Mem → Prop) (s : Slots) (M : Mem) : wpC P c57_8 Q s M = w57_8 P Q M (sget s 0) := by kernel_rfl
def o57_9 : List AOper := [⟨some 14, (.mov (.tmp 3)), false, none⟩,
  ⟨some 15, (.mov (.tmp 0)), false, none⟩,
  ⟨some 16, (.lenStr (.tmp 15)), false, none⟩,
  ⟨some 17, (.bin .lss .none (.tmp 14) (.tmp 16)), true, none⟩]
def c57_10 : ACode := (.seq (.region o57_9 [0, 3, 17]) (.cond (.tmp 17) .skip (.exit 0)))
def w57_10 (_P : Program) (Q : Exit → Slots → Mem → Prop) (M : Mem) (v0 : V) (v3 : V) : Prop :=
  @OptVH (lenStrV v0) ⟨fun t16_3 =>
  @OptBH (binV .lss .none v3 t16_3) ⟨fun b17_4 =>
  @BIfH b17_4
  ⟨Q .normal [(0, v0), (3, v3), (17, (.bool b17_4))] M⟩
  ⟨Q (.exit 0) [(0, v0), (3, v3), (17, (.bool b17_4))] M⟩⟩⟩
theorem e57_10 (P : Program) (Q : Exit → Slots → Mem → Prop) (s : Slots) (M : Mem) : wpC P c57_10 Q s M = w57_10 P Q M (sget s 0) (sget s 3) := by kernel_rfl
def o57_11 : List AOper := [⟨some 20, (.mov (.tmp 0)), false, none⟩,
  ⟨some 21, (.mov (.tmp 3)), false, none⟩,
  ⟨some 22, (.indexStr (.tmp 20) (.tmp 21)), false, none⟩,
  ⟨some 4, (.mov (.tmp 22)), false, none⟩]
def c57_12 : ACode := (.region o57_11 [0, 3, 4])
def w57_12 (_P : Program) (Q : Exit → Slots → Mem → Prop) (M : Mem) (v0 : V) (v3 : V) : Prop :=
  @OptVH (indexStrV v0 v3) ⟨fun t22_3 =>
  Q .normal [(0, v0), (3, v3), (4, t22_3)] M⟩
theorem e57_12 (P : Program) (Q : Exit → Slots → Mem → Prop) (s : Slots) (M : Mem) : wpC P c57_12 Q s M = w57_12 P Q M (sget s 0) (sget s 3) := by kernel_rfl
def o57_13 : List AOper := [⟨some 23, (.mov (.tmp 4)), false, none⟩,
  ⟨some 24, (.bin .geq .none (.tmp 23) (.const (.int .u8 97))), true, none⟩,
  ⟨some 25, (.mov (.tmp 24)), true, none⟩,
  ⟨some 26, (.mov (.tmp 4)), false, some (25, true)⟩,
  ⟨some 27, (.bin .leq .none (.tmp 26) (.const (.int .u8 122))), true, some (25, true)⟩,
  ⟨some 28, (.pick (.tmp 25) (.tmp 27) (.const (.bool false))), true, none⟩,
  ⟨some 29, (.mov (.tmp 28)), true, none⟩,
  ⟨some 30, (.mov (.tmp 4)), false, some (29, false)⟩,
  ⟨some 31, (.bin .geq .none (.tmp 30) (.const (.int .u8 65))), true, some (29, false)⟩,
  ⟨some 32, (.mov (.tmp 31)), true, some (29, false)⟩,
  ⟨some 33, (.mov (.tmp 4)), false, some (32, true)⟩,
  ⟨some 34, (.bin .leq .none (.tmp 33) (.const (.int .u8 90))), true, some (32, true)⟩,
  ⟨some 35, (.pick (.tmp 32) (.tmp 34) (.const (.bool false))), true, some (29, false)⟩,
  ⟨some 36, (.pick (.tmp 29) (.const (.bool true)) (.tmp 35)), true, none⟩,
  ⟨some 37, (.mov (.tmp 36)), true, none⟩,
  ⟨some 38, (.mov (.tmp 4)), false, some (37, false)⟩,
  ⟨some 39, (.bin .geq .none (.tmp 38) (.const (.int .u8 48))), true, some (37, false)⟩,
  ⟨some 40, (.mov (.tmp 39)), true, some (37, false)⟩,
  ⟨some 41, (.mov (.tmp 4)), false, some (40, true)⟩,
  ⟨some 42, (.bin .leq .none (.tmp 41) (.const (.int .u8 57))), true, some (40, true)⟩,
  ⟨some 43, (.pick (.tmp 40) (.tmp 42) (.const (.bool false))), true, some (37, false)⟩,
  ⟨some 44, (.pick (.tmp 37) (.const (.bool true)) (.tmp 43)), true, none⟩,
  ⟨some 5, (.mov (.tmp 44)), true, none⟩]
def c57_14 : ACode := (.region o57_13 [0, 3, 4, 5])
def w57_14 (_P : Program) (Q : Exit → Slots → Mem → Prop) (M : Mem) (v0 : V) (v3 : V) (v4 : V) : Prop :=
  @OptBH (binV .geq .none v4 (.int .u8 97)) ⟨fun b24_2 =>
  @BIfH b24_2
  ⟨@OptBH (binV .leq .none v4 (.int .u8 122)) ⟨fun b27_5 =>
  @BIfH b27_5
  ⟨Q .normal [(0, v0), (3, v3), (4, v4), (5, (.bool true))] M⟩
  ⟨@OptBH (binV .geq .none v4 (.int .u8 65)) ⟨fun b31_13 =>
  @BIfH b31_13
  ⟨@OptBH (binV .leq .none v4 (.int .u8 90)) ⟨fun b34_16 =>
  @BIfH b34_16
  ⟨Q .normal [(0, v0), (3, v3), (4, v4), (5, (.bool true))] M⟩
  ⟨@OptBH (binV .geq .none v4 (.int .u8 48)) ⟨fun b39_23 =>
  @BIfH b39_23
  ⟨@OptBH (binV .leq .none v4 (.int .u8 57)) ⟨fun b42_26 =>
  Q .normal [(0, v0), (3, v3), (4, v4), (5, (.bool b42_26))] M⟩⟩
  ⟨Q .normal [(0, v0), (3, v3), (4, v4), (5, (.bool false))] M⟩⟩⟩⟩⟩
  ⟨@OptBH (binV .geq .none v4 (.int .u8 48)) ⟨fun b39_37 =>
  @BIfH b39_37
  ⟨@OptBH (binV .leq .none v4 (.int .u8 57)) ⟨fun b42_40 =>
  Q .normal [(0, v0), (3, v3), (4, v4), (5, (.bool b42_40))] M⟩⟩
  ⟨Q .normal [(0, v0), (3, v3), (4, v4), (5, (.bool false))] M⟩⟩⟩⟩⟩⟩⟩
  ⟨@OptBH (binV .geq .none v4 (.int .u8 65)) ⟨fun b31_50 =>
  @BIfH b31_50
  ⟨@OptBH (binV .leq .none v4 (.int .u8 90)) ⟨fun b34_53 =>
  @BIfH b34_53
  ⟨Q .normal [(0, v0), (3, v3), (4, v4), (5, (.bool true))] M⟩
  ⟨@OptBH (binV .geq .none v4 (.int .u8 48)) ⟨fun b39_60 =>
  @BIfH b39_60
  ⟨@OptBH (binV .leq .none v4 (.int .u8 57)) ⟨fun b42_63 =>
  Q .normal [(0, v0), (3, v3), (4, v4), (5, (.bool b42_63))] M⟩⟩
  ⟨Q .normal [(0, v0), (3, v3), (4, v4), (5, (.bool false))] M⟩⟩⟩⟩⟩
  ⟨@OptBH (binV .geq .none v4 (.int .u8 48)) ⟨fun b39_74 =>
  @BIfH b39_74
  ⟨@OptBH (binV .leq .none v4 (.int .u8 57)) ⟨fun b42_77 =>
  Q .normal [(0, v0), (3, v3), (4, v4), (5, (.bool b42_77))] M⟩⟩
  ⟨Q .normal [(0, v0), (3, v3), (4, v4), (5, (.bool false))] M⟩⟩⟩⟩⟩⟩
theorem e57_14 (P : Program) (Q : Exit → Slots → Mem → Prop) (s : Slots) (M : Mem) : wpC P c57_14 Q s M = w57_14 P Q M (sget s 0) (sget s 3) (sget s 4) := by kernel_rfl
def o57_15 : List AOper := [⟨some 2, (.mov (.const (.bool false))), true, none⟩]
def c57_16 : ACode := (.region o57_15 [2])
def w57_16 (_P : Program) (Q : Exit → Slots → Mem → Prop) (M : Mem) : Prop :=
  Q .normal [(2, (.bool false))] M
theorem e57_16 (P : Program) (Q : Exit → Slots → Mem → Prop) (s : Slots) (M : Mem) : wpC P c57_16 Q s M = w57_16 P Q M := by kernel_rfl
def c57_17 : ACode := (.seq c57_16 .ret)
def o57_18 : List AOper := [⟨some 45, (.mov (.tmp 5)), true, none⟩,
  ⟨some 46, (.un .not (.tmp 45)), true, none⟩,
  ⟨some 47, (.mov (.tmp 46)), true, none⟩,
  ⟨some 48, (.mov (.tmp 4)), false, some (47, true)⟩,
  ⟨some 49, (.bin .neq .none (.tmp 48) (.const (.int .u8 45))), true, some (47, true)⟩,
  ⟨some 50, (.pick (.tmp 47) (.tmp 49) (.const (.bool false))), true, none⟩,
  ⟨some 51, (.mov (.tmp 50)), true, none⟩,
  ⟨some 52, (.mov (.tmp 4)), false, some (51, true)⟩,
  ⟨some 53, (.bin .neq .none (.tmp 52) (.const (.int .u8 95))), true, some (51, true)⟩,
  ⟨some 54, (.pick (.tmp 51) (.tmp 53) (.const (.bool false))), true, none⟩,
  ⟨some 55, (.mov (.tmp 54)), true, none⟩,
  ⟨some 56, (.mov (.tmp 4)), false, some (55, true)⟩,
  ⟨some 57, (.bin .neq .none (.tmp 56) (.const (.int .u8 46))), true, some (55, true)⟩,
  ⟨some 58, (.pick (.tmp 55) (.tmp 57) (.const (.bool false))), true, none⟩]
def c57_19 : ACode := (.seq (.region o57_18 [0, 3, 58]) (.cond (.tmp 58) c57_17 .skip))
def w57_19 (P : Program) (Q : Exit → Slots → Mem → Prop) (M : Mem) (v0 : V) (v3 : V) (v4 : V) (v5 : V) : Prop :=
  @OptBH (some v5) ⟨fun b45_1 =>
  @OptBH (unV .not (.bool b45_1)) ⟨fun b46_2 =>
  @BIfH b46_2
  ⟨@OptBH (binV .neq .none v4 (.int .u8 45)) ⟨fun b49_5 =>
  @BIfH b49_5
  ⟨@OptBH (binV .neq .none v4 (.int .u8 95)) ⟨fun b53_9 =>
  @BIfH b53_9
  ⟨@OptBH (binV .neq .none v4 (.int .u8 46)) ⟨fun b57_13 =>
  @BIfH b57_13
  ⟨wpC P c57_17 Q [(0, v0), (3, v3), (58, (.bool b57_13))] M⟩
  ⟨Q .normal [(0, v0), (3, v3), (58, (.bool b57_13))] M⟩⟩⟩
  ⟨Q .normal [(0, v0), (3, v3), (58, (.bool false))] M⟩⟩⟩
  ⟨Q .normal [(0, v0), (3, v3), (58, (.bool false))] M⟩⟩⟩
  ⟨Q .normal [(0, v0), (3, v3), (58, (.bool false))] M⟩⟩⟩
theorem e57_19 (P : Program) (Q : Exit → Slots → Mem → Prop) (s : Slots) (M : Mem) : wpC P c57_19 Q s M = w57_19 P Q M (sget s 0) (sget s 3) (sget s 4) (sget s 5) := by kernel_rfl
def c57_20 : ACode := (.seq c57_14 c57_19)
def c57_21 : ACode := (.seq c57_12 c57_20)
def c57_22 : ACode := (.block 1 c57_21)
def o57_23 : List AOper := [⟨some 18, (.mov (.tmp 3)), false, none⟩,
  ⟨some 19, (.bin .add .none (.tmp 18) (.const (.int .i64 1))), false, none⟩,
  ⟨some 3, (.mov (.tmp 19)), false, none⟩]
def c57_24 : ACode := (.region o57_23 [0, 3])
def w57_24 (_P : Program) (Q : Exit → Slots → Mem → Prop) (M : Mem) (v0 : V) (v3 : V) : Prop :=
  @OptVH (binV .add .none v3 (.int .i64 1)) ⟨fun t19_2 =>
  Q .normal [(0, v0), (3, t19_2)] M⟩
theorem e57_24 (P : Program) (Q : Exit → Slots → Mem → Prop) (s : Slots) (M : Mem) : wpC P c57_24 Q s M = w57_24 P Q M (sget s 0) (sget s 3) := by kernel_rfl
def c57_25 : ACode := (.seq c57_22 c57_24)
def c57_26 : ACode := (.seq c57_10 c57_25)
def c57_27 : ACode := (.loop [0, 3] c57_26)
def c57_28 : ACode := (.block 0 c57_27)
def c57_29 : ACode := (.seq c57_8 c57_28)
def o57_30 : List AOper := [⟨some 2, (.mov (.const (.bool true))), true, none⟩]
def c57_31 : ACode := (.region o57_30 [2])
def w57_31 (_P : Program) (Q : Exit → Slots → Mem → Prop) (M : Mem) : Prop :=
  Q .normal [(2, (.bool true))] M
theorem e57_31 (P : Program) (Q : Exit → Slots → Mem → Prop) (s : Slots) (M : Mem) : wpC P c57_31 Q s M = w57_31 P Q M := by kernel_rfl
def c57_32 : ACode := (.seq c57_31 .ret)
def c57_33 : ACode := (.seq c57_29 c57_32)
def c57_34 : ACode := (.seq c57_6 c57_33)
def c57_35 : ACode := (.seq c57_1 c57_34)
def fn_transitref26_ValidID : AFn := ⟨59, [(.tmp 2)], c57_35⟩
theorem fn_transitref26_ValidID_ok : resFn PR h_transitref26_ValidID i_transitref26_ValidID = some fn_transitref26_ValidID := by kernel_rfl

def h_transitref35_bits : Hints := ⟨[(0, [0]), (1, [0, 3]), (2, [0, 3, 4]), (3, [0, 3, 4, 6]), (4, [0, 3, 4]), (5, [0, 3, 4, 14]), (6, [0, 3, 4]), (7, [2])], [(3, [0, 3, 4])], []⟩
def o58_0 : List AOper := [⟨some 2, (.mov (.const (.int .i64 0))), false, none⟩]
def c58_1 : ACode := (.region o58_0 [0])
def w58_1 (_P : Program) (Q : Exit → Slots → Mem → Prop) (M : Mem) (v0 : V) : Prop :=
  Q .normal [(0, v0)] M
theorem e58_1 (P : Program) (Q : Exit → Slots → Mem → Prop) (s : Slots) (M : Mem) : wpC P c58_1 Q s M = w58_1 P Q M (sget s 0) := by kernel_rfl
def o58_2 : List AOper := [⟨some 3, (.mov (.const (.int .i64 0))), false, none⟩]
def c58_3 : ACode := (.region o58_2 [0, 3])
def w58_3 (_P : Program) (Q : Exit → Slots → Mem → Prop) (M : Mem) (v0 : V) : Prop :=
  Q .normal [(0, v0), (3, (.int .i64 0))] M
theorem e58_3 (P : Program) (Q : Exit → Slots → Mem → Prop) (s : Slots) (M : Mem) : wpC P c58_3 Q s M = w58_3 P Q M (sget s 0) := by kernel_rfl
def o58_4 : List AOper := [⟨some 4, (.mov (.const (.int .i64 0))), false, none⟩]
def c58_5 : ACode := (.region o58_4 [0, 3, 4])
def w58_5 (_P : Program) (Q : Exit → Slots → Mem → Prop) (M : Mem) (v0 : V) (v3 : V) : Prop :=
  Q .normal [(0, v0), (3, v3), (4, (.int .i64 0))] M
theorem e58_5 (P : Program) (Q : Exit → Slots → Mem → Prop) (s : Slots) (M : Mem) : wpC P c58_5 Q s M = w58_5 P Q M (sget s 0) (sget s 3) := by kernel_rfl
def o58_6 : List AOper := [⟨some 5, (.mov (.tmp 4)), false, none⟩,
  ⟨some 6, (.bin .lss .none (.tmp 5) (.const (.int .i64 64))), true, none⟩]
def c58_7 : ACode := (.seq (.region o58_6 [0, 3, 4, 6]) (.cond (.tmp 6) .skip (.exit 0)))
def w58_7 (_P : Program) (Q : Exit → Slots → Mem → Prop) (M : Mem) (v0 : V) (v3 : V) (v4 : V) : Prop :=
  @OptBH (binV .lss .none v4 (.int .i64 64)) ⟨fun b6_2 =>
  @BIfH b6_2
  ⟨Q .normal [(0, v0), (3, v3), (4, v4), (6, (.bool b6_2))] M⟩
  ⟨Q (.exit 0) [(0, v0), (3, v3), (4, v4), (6, (.bool b6_2))] M⟩⟩
theorem e58_7 (P : Program) (Q : Exit → Slots → Mem → Prop) (s : Slots) (M : Mem) : wpC P c58_7 Q s M = w58_7 P Q M (sget s 0) (sget s 3) (sget s 4) := by kernel_rfl
def o58_8 : List AOper := [⟨some 15, (.mov (.tmp 3)), false, none⟩,
  ⟨some 16, (.bin .add .none (.tmp 15) (.const (.int .i64 1))), false, none⟩,
  ⟨some 3, (.mov (.tmp 16)), false, none⟩]
def c58_9 : ACode := (.region o58_8 [0, 3, 4])
def w58_9 (_P : Program) (Q : Exit → Slots → Mem → Prop) (M : Mem) (v0 : V) (v3 : V) (v4 : V) : Prop :=
  @OptVH (binV .add .none v3 (.int .i64 1)) ⟨fun t16_2 =>
  Q .normal [(0, v0), (3, t16_2), (4, v4)] M⟩
theorem e58_9 (P : Program) (Q : Exit → Slots → Mem → Prop) (s : Slots) (M : Mem) : wpC P c58_9 Q s M = w58_9 P Q M (sget s 0) (sget s 3) (sget s 4) := by kernel_rfl
def o58_10 : List AOper := [⟨some 9, (.mov (.tmp 0)), false, none⟩,
  ⟨some 10, (.conv .u64 (.tmp 9)), false, none⟩,
  ⟨some 11, (.mov (.tmp 4)), false, none⟩,
  ⟨some 12, (.bin .shr .none (.tmp 10) (.tmp 11)), false, none⟩,
  ⟨some 13, (.bin .and .none (.tmp 12) (.const (.int .u64 1))), false, none⟩,
  ⟨some 14, (.bin .eql .none (.tmp 13) (.const (.int .u64 1))), true, none⟩]
def c58_11 : ACode := (.seq (.region o58_10 [0, 3, 4, 14]) (.cond (.tmp 14) c58_9 .skip))
def w58_11 (P : Program) (Q : Exit → Slots → Mem → Prop) (M : Mem) (v0 : V) (v3 : V) (v4 : V) : Prop :=
  @OptVH (convV .u64 v0) ⟨fun t10_2 =>
  @OptVH (binV .shr .none t10_2 v4) ⟨fun t12_4 =>
  @OptVH (binV .and .none t12_4 (.int .u64 1)) ⟨fun t13_5 =>
  @OptBH (binV .eql .none t13_5 (.int .u64 1)) ⟨fun b14_6 =>
  @BIfH b14_6
  ⟨wpC P c58_9 Q [(0, v0), (3, v3), (4, v4), (14, (.bool b14_6))] M⟩
  ⟨Q .normal [(0, v0), (3, v3), (4, v4), (14, (.bool b14_6))] M⟩⟩⟩⟩⟩
theorem e58_11 (P : Program) (Q : Exit → Slots → Mem → Prop) (s : Slots) (M : Mem) : wpC P c58_11 Q s M = w58_11 P Q M (sget s 0) (sget s 3) (sget s 4) := by kernel_rfl
def c58_12 : ACode := (.block 1 c58_11)
def o58_13 : List AOper := [⟨some 7, (.mov (.tmp 4)), false, none⟩,
  ⟨some 8, (.bin .add .none (.tmp 7) (.const (.int .i64 1))), false, none⟩,
  ⟨some 4, (.mov (.tmp 8)), false, none⟩]
def c58_14 : ACode := (.region o58_13 [0, 3, 4])
def w58_14 (_P : Program) (Q : Exit → Slots → Mem → Prop) (M : Mem) (v0 : V) (v3 : V) (v4 : V) : Prop :=
  @OptVH (binV .add .none v4 (.int .i64 1)) ⟨fun t8_2 =>
  Q .normal [(0, v0), (3, v3), (4, t8_2)] M⟩
theorem e58_14 (P : Program) (Q : Exit → Slots → Mem → Prop) (s : Slots) (M : Mem) : wpC P c58_14 Q s M = w58_14 P Q M (sget s 0) (sget s 3) (sget s 4) := by kernel_rfl
def c58_15 : ACode := (.seq c58_12 c58_14)
def c58_16 : ACode := (.seq c58_7 c58_15)
def c58_17 : ACode := (.loop [0, 3, 4] c58_16)
def c58_18 : ACode := (.block 0 c58_17)
def c58_19 : ACode := (.seq c58_5 c58_18)
def o58_20 : List AOper := [⟨some 17, (.mov (.tmp 3)), false, none⟩,
  ⟨some 2, (.mov (.tmp 17)), false, none⟩]
def c58_21 : ACode := (.region o58_20 [2])
def w58_21 (_P : Program) (Q : Exit → Slots → Mem → Prop) (M : Mem) (v3 : V) : Prop :=
  Q .normal [(2, v3)] M
theorem e58_21 (P : Program) (Q : Exit → Slots → Mem → Prop) (s : Slots) (M : Mem) : wpC P c58_21 Q s M = w58_21 P Q M (sget s 3) := by kernel_rfl
def c58_22 : ACode := (.seq c58_21 .ret)
def c58_23 : ACode := (.seq c58_19 c58_22)
def c58_24 : ACode := (.seq c58_3 c58_23)
def c58_25 : ACode := (.seq c58_1 c58_24)
def fn_transitref35_bits : AFn := ⟨18, [(.tmp 2)], c58_25⟩
theorem fn_transitref35_bits_ok : resFn PR h_transitref35_bits i_transitref35_bits = some fn_transitref35_bits := by kernel_rfl

def h_transitref35_within : Hints := ⟨[(0, [0, 1, 2]), (1, [0, 1, 2, 9]), (2, [6]), (3, [6])], [], []⟩
def o59_0 : List AOper := [⟨some 6, (.mov (.const (.bool false))), true, none⟩]
def c59_1 : ACode := (.region o59_0 [0, 1, 2])
def w59_1 (_P : Program) (Q : Exit → Slots → Mem → Prop) (M : Mem) (v0 : V) (v1 : V) (v2 : V) : Prop :=
  Q .normal [(0, v0), (1, v1), (2, v2)] M
theorem e59_1 (P : Program) (Q : Exit → Slots → Mem → Prop) (s : Slots) (M : Mem) : wpC P c59_1 Q s M = w59_1 P Q M (sget s 0) (sget s 1) (sget s 2) := by kernel_rfl
def o59_2 : List AOper := [⟨some 6, (.mov (.const (.bool true))), true, none⟩]
def c59_3 : ACode := (.region o59_2 [6])
def w59_3 (_P : Program) (Q : Exit → Slots → Mem → Prop) (M : Mem) : Prop :=
  Q .normal [(6, (.bool true))] M
theorem e59_3 (P : Program) (Q : Exit → Slots → Mem → Prop) (s : Slots) (M : Mem) : wpC P c59_3 Q s M = w59_3 P Q M := by kernel_rfl
def c59_4 : ACode := (.seq c59_3 .ret)
def o59_5 : List AOper := [⟨some 7, (.mov (.tmp 1)), false, none⟩,
  ⟨some 8, (.mov (.tmp 0)), false, none⟩,
  ⟨some 9, (.bin .leq .none (.tmp 7) (.tmp 8)), true, none⟩]
def c59_6 : ACode := (.seq (.region o59_5 [0, 1, 2, 9]) (.cond (.tmp 9) c59_4 .skip))
def w59_6 (P : Program) (Q : Exit → Slots → Mem → Prop) (M : Mem) (v0 : V) (v1 : V) (v2 : V) : Prop :=
  @OptBH (binV .leq .none v1 v0) ⟨fun b9_3 =>
  @BIfH b9_3
  ⟨wpC P c59_4 Q [(0, v0), (1, v1), (2, v2), (9, (.bool b9_3))] M⟩
  ⟨Q .normal [(0, v0), (1, v1), (2, v2), (9, (.bool b9_3))] M⟩⟩
theorem e59_6 (P : Program) (Q : Exit → Slots → Mem → Prop) (s : Slots) (M : Mem) : wpC P c59_6 Q s M = w59_6 P Q M (sget s 0) (sget s 1) (sget s 2) := by kernel_rfl
def o59_7 : List AOper := [⟨some 10, (.mov (.tmp 1)), false, none⟩,
  ⟨some 11, (.conv .u64 (.tmp 10)), false, none⟩,
  ⟨some 12, (.mov (.tmp 0)), false, none⟩,
  ⟨some 13, (.conv .u64 (.tmp 12)), false, none⟩,
  ⟨some 14, (.bin .sub .none (.tmp 11) (.tmp 13)), false, none⟩,
  ⟨some 15, (.mov (.tmp 2)), false, none⟩,
  ⟨some 16, (.conv .u64 (.tmp 15)), false, none⟩,
  ⟨some 17, (.bin .leq .none (.tmp 14) (.tmp 16)), true, none⟩,
  ⟨some 6, (.mov (.tmp 17)), true, none⟩]
def c59_8 : ACode := (.region o59_7 [6])
def w59_8 (_P : Program) (Q : Exit → Slots → Mem → Prop) (M : Mem) (v0 : V) (v1 : V) (v2 : V) : Prop :=
  @OptVH (convV .u64 v1) ⟨fun t11_2 =>
  @OptVH (convV .u64 v0) ⟨fun t13_4 =>
  @OptVH (binV .sub .none t11_2 t13_4) ⟨fun t14_5 =>
  @OptVH (convV .u64 v2) ⟨fun t16_7 =>
  @OptBH (binV .leq .none t14_5 t16_7) ⟨fun b17_8 =>
  Q .normal [(6, (.bool b17_8))] M⟩⟩⟩⟩⟩
theorem e59_8 (P : Program) (Q : Exit → Slots → Mem → Prop) (s : Slots) (M : Mem) : wpC P c59_8 Q s M = w59_8 P Q M (sget s 0) (sget s 1) (sget s 2) := by kernel_rfl
def c59_9 : ACode := (.seq c59_8 .ret)
def c59_10 : ACode := (.seq c59_6 c59_9)
def c59_11 : ACode := (.seq c59_1 c59_10)
def fn_transitref35_within : AFn := ⟨18, [(.tmp 6)], c59_11⟩
theorem fn_transitref35_within_ok : resFn PR h_transitref35_within i_transitref35_within = some fn_transitref35_within := by kernel_rfl

def h_product_within : Hints := ⟨[(0, [0, 1, 2]), (1, [6])], [], []⟩
def o71_0 : List AOper := [⟨some 6, (.mov (.const (.bool false))), true, none⟩]
def c71_1 : ACode := (.region o71_0 [0, 1, 2])
def w71_1 (_P : Program) (Q : Exit → Slots → Mem → Prop) (M : Mem) (v0 : V) (v1 : V) (v2 : V) : Prop :=
  Q .normal [(0, v0), (1, v1), (2, v2)] M
theorem e71_1 (P : Program) (Q : Exit → Slots → Mem → Prop) (s : Slots) (M : Mem) : wpC P c71_1 Q s M = w71_1 P Q M (sget s 0) (sget s 1) (sget s 2) := by kernel_rfl
def o71_2 : List AOper := [⟨some 7, (.mov (.tmp 0)), false, none⟩,
  ⟨some 8, (.mov (.tmp 1)), false, none⟩,
  ⟨some 9, (.bin .geq .none (.tmp 7) (.tmp 8)), true, none⟩,
  ⟨some 10, (.mov (.tmp 9)), true, none⟩,
  ⟨some 11, (.mov (.tmp 0)), false, some (10, true)⟩,
  ⟨some 12, (.mov (.tmp 2)), false, some (10, true)⟩,
  ⟨some 13, (.bin .leq .none (.tmp 11) (.tmp 12)), true, some (10, true)⟩,
  ⟨some 14, (.pick (.tmp 10) (.tmp 13) (.const (.bool false))), true, none⟩,
  ⟨some 6, (.mov (.tmp 14)), true, none⟩]
def c71_3 : ACode := (.region o71_2 [6])
def w71_3 (_P : Program) (Q : Exit → Slots → Mem → Prop) (M : Mem) (v0 : V) (v1 : V) (v2 : V) : Prop :=
  @OptBH (binV .geq .none v0 v1) ⟨fun b9_3 =>
  @BIfH b9_3
  ⟨@OptBH (binV .leq .none v0 v2) ⟨fun b13_7 =>
  Q .normal [(6, (.bool b13_7))] M⟩⟩
  ⟨Q .normal [(6, (.bool false))] M⟩⟩
theorem e71_3 (P : Program) (Q : Exit → Slots → Mem → Prop) (s : Slots) (M : Mem) : wpC P c71_3 Q s M = w71_3 P Q M (sget s 0) (sget s 1) (sget s 2) := by kernel_rfl
def c71_4 : ACode := (.seq c71_3 .ret)
def c71_5 : ACode := (.seq c71_1 c71_4)
def fn_product_within : AFn := ⟨15, [(.tmp 6)], c71_5⟩
theorem fn_product_within_ok : resFn PR h_product_within i_product_within = some fn_product_within := by kernel_rfl

def h_ident_Valid : Hints := ⟨[(0, [0]), (1, [0, 3]), (2, [0, 3, 8]), (3, [0, 3]), (4, [0, 3, 4]), (5, [2]), (6, [0, 3, 4, 14]), (7, [0, 3, 4, 14]), (8, [0, 3, 4, 14]), (9, [0, 3, 4, 33]), (10, [0, 3, 4, 33]), (11, [0, 3, 33]), (12, [2])], [(2, [0, 3])], []⟩
def o72_0 : List AOper := [⟨some 2, (.mov (.const (.bool false))), true, none⟩]
def c72_1 : ACode := (.region o72_0 [0])
def w72_1 (_P : Program) (Q : Exit → Slots → Mem → Prop) (M : Mem) (v0 : V) : Prop :=
  Q .normal [(0, v0)] M
theorem e72_1 (P : Program) (Q : Exit → Slots → Mem → Prop) (s : Slots) (M : Mem) : wpC P c72_1 Q s M = w72_1 P Q M (sget s 0) := by kernel_rfl
def o72_2 : List AOper := [⟨some 3, (.mov (.const (.int .i64 0))), false, none⟩]
def c72_3 : ACode := (.region o72_2 [0, 3])
def w72_3 (_P : Program) (Q : Exit → Slots → Mem → Prop) (M : Mem) (v0 : V) : Prop :=
  Q .normal [(0, v0), (3, (.int .i64 0))] M
theorem e72_3 (P : Program) (Q : Exit → Slots → Mem → Prop) (s : Slots) (M : Mem) : wpC P c72_3 Q s M = w72_3 P Q M (sget s 0) := by kernel_rfl
def o72_4 : List AOper := [⟨some 5, (.mov (.tmp 3)), false, none⟩,
  ⟨some 6, (.mov (.tmp 0)), false, none⟩,
  ⟨some 7, (.lenStr (.tmp 6)), false, none⟩,
  ⟨some 8, (.bin .lss .none (.tmp 5) (.tmp 7)), true, none⟩]
def c72_5 : ACode := (.seq (.region o72_4 [0, 3, 8]) (.cond (.tmp 8) .skip (.exit 0)))
def w72_5 (_P : Program) (Q : Exit → Slots → Mem → Prop) (M : Mem) (v0 : V) (v3 : V) : Prop :=
  @OptVH (lenStrV v0) ⟨fun t7_3 =>
  @OptBH (binV .lss .none v3 t7_3) ⟨fun b8_4 =>
  @BIfH b8_4
  ⟨Q .normal [(0, v0), (3, v3), (8, (.bool b8_4))] M⟩
  ⟨Q (.exit 0) [(0, v0), (3, v3), (8, (.bool b8_4))] M⟩⟩⟩
theorem e72_5 (P : Program) (Q : Exit → Slots → Mem → Prop) (s : Slots) (M : Mem) : wpC P c72_5 Q s M = w72_5 P Q M (sget s 0) (sget s 3) := by kernel_rfl
def o72_6 : List AOper := [⟨some 11, (.mov (.tmp 0)), false, none⟩,
  ⟨some 12, (.mov (.tmp 3)), false, none⟩,
  ⟨some 13, (.indexStr (.tmp 11) (.tmp 12)), false, none⟩,
  ⟨some 4, (.mov (.tmp 13)), false, none⟩]
def c72_7 : ACode := (.region o72_6 [0, 3, 4])
def w72_7 (_P : Program) (Q : Exit → Slots → Mem → Prop) (M : Mem) (v0 : V) (v3 : V) : Prop :=
  @OptVH (indexStrV v0 v3) ⟨fun t13_3 =>
  Q .normal [(0, v0), (3, v3), (4, t13_3)] M⟩
theorem e72_7 (P : Program) (Q : Exit → Slots → Mem → Prop) (s : Slots) (M : Mem) : wpC P c72_7 Q s M = w72_7 P Q M (sget s 0) (sget s 3) := by kernel_rfl
def o72_8 : List AOper := [⟨some 27, (.mov (.tmp 4)), false, none⟩,
  ⟨some 28, (.bin .leq .none (.const (.int .u8 48)) (.tmp 27)), true, none⟩,
  ⟨some 29, (.mov (.tmp 28)), true, none⟩,
  ⟨some 30, (.mov (.tmp 4)), false, some (29, true)⟩,
  ⟨some 31, (.bin .leq .none (.tmp 30) (.const (.int .u8 57))), true, some (29, true)⟩,
  ⟨some 32, (.pick (.tmp 29) (.tmp 31) (.const (.bool false))), true, none⟩,
  ⟨some 14, (.mov (.tmp 32)), true, none⟩]
def c72_9 : ACode := (.region o72_8 [0, 3, 4, 14])
def w72_9 (_P : Program) (Q : Exit → Slots → Mem → Prop) (M : Mem) (v0 : V) (v3 : V) (v4 : V) : Prop :=
  @OptBH (binV .leq .none (.int .u8 48) v4) ⟨fun b28_2 =>
  @BIfH b28_2
  ⟨@OptBH (binV .leq .none v4 (.int .u8 57)) ⟨fun b31_5 =>
  Q .normal [(0, v0), (3, v3), (4, v4), (14, (.bool b31_5))] M⟩⟩
  ⟨Q .normal [(0, v0), (3, v3), (4, v4), (14, (.bool false))] M⟩⟩
theorem e72_9 (P : Program) (Q : Exit → Slots → Mem → Prop) (s : Slots) (M : Mem) : wpC P c72_9 Q s M = w72_9 P Q M (sget s 0) (sget s 3) (sget s 4) := by kernel_rfl
def o72_10 : List AOper := [⟨some 21, (.mov (.tmp 4)), false, none⟩,
  ⟨some 22, (.bin .leq .none (.const (.int .u8 65)) (.tmp 21)), true, none⟩,
  ⟨some 23, (.mov (.tmp 22)), true, none⟩,
  ⟨some 24, (.mov (.tmp 4)), false, some (23, true)⟩,
  ⟨some 25, (.bin .leq .none (.tmp 24) (.const (.int .u8 90))), true, some (23, true)⟩,
  ⟨some 26, (.pick (.tmp 23) (.tmp 25) (.const (.bool false))), true, none⟩,
  ⟨some 14, (.mov (.tmp 26)), true, none⟩]
def c72_11 : ACode := (.seq (.region o72_10 [0, 3, 4, 14]) (.cond (.tmp 14) .skip c72_9))
def w72_11 (P : Program) (Q : Exit → Slots → Mem → Prop) (M : Mem) (v0 : V) (v3 : V) (v4 : V) : Prop :=
  @OptBH (binV .leq .none (.int .u8 65) v4) ⟨fun b22_2 =>
  @BIfH b22_2
  ⟨@OptBH (binV .leq .none v4 (.int .u8 90)) ⟨fun b25_5 =>
  @BIfH b25_5
  ⟨Q .normal [(0, v0), (3, v3), (4, v4), (14, (.bool b25_5))] M⟩
  ⟨wpC P c72_9 Q [(0, v0), (3, v3), (4, v4), (14, (.bool b25_5))] M⟩⟩⟩
  ⟨wpC P c72_9 Q [(0, v0), (3, v3), (4, v4), (14, (.bool false))] M⟩⟩
theorem e72_11 (P : Program) (Q : Exit → Slots → Mem → Prop) (s : Slots) (M : Mem) : wpC P c72_11 Q s M = w72_11 P Q M (sget s 0) (sget s 3) (sget s 4) := by kernel_rfl
def o72_12 : List AOper := [⟨some 15, (.mov (.tmp 4)), false, none⟩,
  ⟨some 16, (.bin .leq .none (.const (.int .u8 97)) (.tmp 15)), true, none⟩,
  ⟨some 17, (.mov (.tmp 16)), true, none⟩,
  ⟨some 18, (.mov (.tmp 4)), false, some (17, true)⟩,
  ⟨some 19, (.bin .leq .none (.tmp 18) (.const (.int .u8 122))), true, some (17, true)⟩,
  ⟨some 20, (.pick (.tmp 17) (.tmp 19) (.const (.bool false))), true, none⟩,
  ⟨some 14, (.mov (.tmp 20)), true, none⟩]
def c72_13 : ACode := (.seq (.region o72_12 [0, 3, 4, 14]) (.cond (.tmp 14) .skip c72_11))
def w72_13 (P : Program) (Q : Exit → Slots → Mem → Prop) (M : Mem) (v0 : V) (v3 : V) (v4 : V) : Prop :=
  @OptBH (binV .leq .none (.int .u8 97) v4) ⟨fun b16_2 =>
  @BIfH b16_2
  ⟨@OptBH (binV .leq .none v4 (.int .u8 122)) ⟨fun b19_5 =>
  @BIfH b19_5
  ⟨Q .normal [(0, v0), (3, v3), (4, v4), (14, (.bool b19_5))] M⟩
  ⟨wpC P c72_11 Q [(0, v0), (3, v3), (4, v4), (14, (.bool b19_5))] M⟩⟩⟩
  ⟨wpC P c72_11 Q [(0, v0), (3, v3), (4, v4), (14, (.bool false))] M⟩⟩
theorem e72_13 (P : Program) (Q : Exit → Slots → Mem → Prop) (s : Slots) (M : Mem) : wpC P c72_13 Q s M = w72_13 P Q M (sget s 0) (sget s 3) (sget s 4) := by kernel_rfl
def o72_14 : List AOper := [⟨some 38, (.mov (.tmp 4)), false, none⟩,
  ⟨some 39, (.bin .eql .none (.tmp 38) (.const (.int .u8 46))), true, none⟩,
  ⟨some 33, (.mov (.tmp 39)), true, none⟩]
def c72_15 : ACode := (.region o72_14 [0, 3, 33])
def w72_15 (_P : Program) (Q : Exit → Slots → Mem → Prop) (M : Mem) (v0 : V) (v3 : V) (v4 : V) : Prop :=
  @OptBH (binV .eql .none v4 (.int .u8 46)) ⟨fun b39_2 =>
  Q .normal [(0, v0), (3, v3), (33, (.bool b39_2))] M⟩
theorem e72_15 (P : Program) (Q : Exit → Slots → Mem → Prop) (s : Slots) (M : Mem) : wpC P c72_15 Q s M = w72_15 P Q M (sget s 0) (sget s 3) (sget s 4) := by kernel_rfl
def o72_16 : List AOper := [⟨some 36, (.mov (.tmp 4)), false, none⟩,
  ⟨some 37, (.bin .eql .none (.tmp 36) (.const (.int .u8 95))), true, none⟩,
  ⟨some 33, (.mov (.tmp 37)), true, none⟩]
def c72_17 : ACode := (.seq (.region o72_16 [0, 3, 4, 33]) (.cond (.tmp 33) .skip c72_15))
def w72_17 (P : Program) (Q : Exit → Slots → Mem → Prop) (M : Mem) (v0 : V) (v3 : V) (v4 : V) : Prop :=
  @OptBH (binV .eql .none v4 (.int .u8 95)) ⟨fun b37_2 =>
  @BIfH b37_2
  ⟨Q .normal [(0, v0), (3, v3), (4, v4), (33, (.bool b37_2))] M⟩
  ⟨wpC P c72_15 Q [(0, v0), (3, v3), (4, v4), (33, (.bool b37_2))] M⟩⟩
theorem e72_17 (P : Program) (Q : Exit → Slots → Mem → Prop) (s : Slots) (M : Mem) : wpC P c72_17 Q s M = w72_17 P Q M (sget s 0) (sget s 3) (sget s 4) := by kernel_rfl
def o72_18 : List AOper := [⟨some 34, (.mov (.tmp 4)), false, none⟩,
  ⟨some 35, (.bin .eql .none (.tmp 34) (.const (.int .u8 45))), true, none⟩,
  ⟨some 33, (.mov (.tmp 35)), true, none⟩]
def c72_19 : ACode := (.seq (.region o72_18 [0, 3, 4, 33]) (.cond (.tmp 33) .skip c72_17))
def w72_19 (P : Program) (Q : Exit → Slots → Mem → Prop) (M : Mem) (v0 : V) (v3 : V) (v4 : V) : Prop :=
  @OptBH (binV .eql .none v4 (.int .u8 45)) ⟨fun b35_2 =>
  @BIfH b35_2
  ⟨Q .normal [(0, v0), (3, v3), (4, v4), (33, (.bool b35_2))] M⟩
  ⟨wpC P c72_17 Q [(0, v0), (3, v3), (4, v4), (33, (.bool b35_2))] M⟩⟩
theorem e72_19 (P : Program) (Q : Exit → Slots → Mem → Prop) (s : Slots) (M : Mem) : wpC P c72_19 Q s M = w72_19 P Q M (sget s 0) (sget s 3) (sget s 4) := by kernel_rfl
def o72_20 : List AOper := [⟨some 2, (.mov (.const (.bool false))), true, none⟩]
def c72_21 : ACode := (.region o72_20 [2])
def w72_21 (_P : Program) (Q : Exit → Slots → Mem → Prop) (M : Mem) : Prop :=
  Q .normal [(2, (.bool false))] M
theorem e72_21 (P : Program) (Q : Exit → Slots → Mem → Prop) (s : Slots) (M : Mem) : wpC P c72_21 Q s M = w72_21 P Q M := by kernel_rfl
def c72_22 : ACode := (.seq c72_21 .ret)
def c72_23 : ACode := (.cond (.tmp 33) .skip c72_22)
def c72_24 : ACode := (.seq c72_19 c72_23)
def c72_25 : ACode := (.cond (.tmp 14) .skip c72_24)
def c72_26 : ACode := (.seq c72_13 c72_25)
def c72_27 : ACode := (.block 2 c72_26)
def c72_28 : ACode := (.seq c72_7 c72_27)
def c72_29 : ACode := (.block 1 c72_28)
def o72_30 : List AOper := [⟨some 9, (.mov (.tmp 3)), false, none⟩,
  ⟨some 10, (.bin .add .none (.tmp 9) (.const (.int .i64 1))), false, none⟩,
  ⟨some 3, (.mov (.tmp 10)), false, none⟩]
def c72_31 : ACode := (.region o72_30 [0, 3])
def w72_31 (_P : Program) (Q : Exit → Slots → Mem → Prop) (M : Mem) (v0 : V) (v3 : V) : Prop :=
  @OptVH (binV .add .none v3 (.int .i64 1)) ⟨fun t10_2 =>
  Q .normal [(0, v0), (3, t10_2)] M⟩
theorem e72_31 (P : Program) (Q : Exit → Slots → Mem → Prop) (s : Slots) (M : Mem) : wpC P c72_31 Q s M = w72_31 P Q M (sget s 0) (sget s 3) := by kernel_rfl
def c72_32 : ACode := (.seq c72_29 c72_31)
def c72_33 : ACode := (.seq c72_5 c72_32)
def c72_34 : ACode := (.loop [0, 3] c72_33)
def c72_35 : ACode := (.block 0 c72_34)
def c72_36 : ACode := (.seq c72_3 c72_35)
def o72_37 : List AOper := [⟨some 40, (.mov (.tmp 0)), false, none⟩,
  ⟨some 41, (.lenStr (.tmp 40)), false, none⟩,
  ⟨some 42, (.bin .gtr .none (.tmp 41) (.const (.int .i64 0))), true, none⟩,
  ⟨some 43, (.mov (.tmp 42)), true, none⟩,
  ⟨some 44, (.mov (.tmp 0)), false, some (43, true)⟩,
  ⟨some 45, (.lenStr (.tmp 44)), false, some (43, true)⟩,
  ⟨some 46, (.bin .leq .none (.tmp 45) (.const (.int .i64 32))), true, some (43, true)⟩,
  ⟨some 47, (.pick (.tmp 43) (.tmp 46) (.const (.bool false))), true, none⟩,
  ⟨some 2, (.mov (.tmp 47)), true, none⟩]
def c72_38 : ACode := (.region o72_37 [2])
def w72_38 (_P : Program) (Q : Exit → Slots → Mem → Prop) (M : Mem) (v0 : V) : Prop :=
  @OptVH (lenStrV v0) ⟨fun t41_2 =>
  @OptBH (binV .gtr .none t41_2 (.int .i64 0)) ⟨fun b42_3 =>
  @BIfH b42_3
  ⟨@OptVH (lenStrV v0) ⟨fun t45_6 =>
  @OptBH (binV .leq .none t45_6 (.int .i64 32)) ⟨fun b46_7 =>
  Q .normal [(2, (.bool b46_7))] M⟩⟩⟩
  ⟨Q .normal [(2, (.bool false))] M⟩⟩⟩
theorem e72_38 (P : Program) (Q : Exit → Slots → Mem → Prop) (s : Slots) (M : Mem) : wpC P c72_38 Q s M = w72_38 P Q M (sget s 0) := by kernel_rfl
def c72_39 : ACode := (.seq c72_38 .ret)
def c72_40 : ACode := (.seq c72_36 c72_39)
def c72_41 : ACode := (.seq c72_1 c72_40)
def fn_ident_Valid : AFn := ⟨48, [(.tmp 2)], c72_41⟩
theorem fn_ident_Valid_ok : resFn PR h_ident_Valid i_ident_Valid = some fn_ident_Valid := by kernel_rfl

def h_product_later : Hints := ⟨[(0, [0, 1, 2]), (1, [0, 1, 2, 9]), (2, [6]), (3, [6])], [], []⟩
def o73_0 : List AOper := [⟨some 6, (.mov (.const (.bool false))), true, none⟩]
def c73_1 : ACode := (.region o73_0 [0, 1, 2])
def w73_1 (_P : Program) (Q : Exit → Slots → Mem → Prop) (M : Mem) (v0 : V) (v1 : V) (v2 : V) : Prop :=
  Q .normal [(0, v0), (1, v1), (2, v2)] M
theorem e73_1 (P : Program) (Q : Exit → Slots → Mem → Prop) (s : Slots) (M : Mem) : wpC P c73_1 Q s M = w73_1 P Q M (sget s 0) (sget s 1) (sget s 2) := by kernel_rfl
def o73_2 : List AOper := [⟨some 10, (.mov (.tmp 2)), false, none⟩,
  ⟨some 11, (.bin .lss .none (.tmp 10) (.const (.int .i64 0))), true, none⟩,
  ⟨some 12, (.mov (.tmp 11)), true, none⟩,
  ⟨some 13, (.mov (.tmp 1)), false, some (12, false)⟩,
  ⟨some 14, (.conv .u64 (.tmp 13)), false, some (12, false)⟩,
  ⟨some 15, (.mov (.tmp 0)), false, some (12, false)⟩,
  ⟨some 16, (.conv .u64 (.tmp 15)), false, some (12, false)⟩,
  ⟨some 17, (.bin .sub .none (.tmp 14) (.tmp 16)), false, some (12, false)⟩,
  ⟨some 18, (.mov (.tmp 2)), false, some (12, false)⟩,
  ⟨some 19, (.conv .u64 (.tmp 18)), false, some (12, false)⟩,
  ⟨some 20, (.bin .gtr .none (.tmp 17) (.tmp 19)), true, some (12, false)⟩,
  ⟨some 21, (.pick (.tmp 12) (.const (.bool true)) (.tmp 20)), true, none⟩,
  ⟨some 6, (.mov (.tmp 21)), true, none⟩]
def c73_3 : ACode := (.region o73_2 [6])
def w73_3 (_P : Program) (Q : Exit → Slots → Mem → Prop) (M : Mem) (v0 : V) (v1 : V) (v2 : V) : Prop :=
  @OptBH (binV .lss .none v2 (.int .i64 0)) ⟨fun b11_2 =>
  @BIfH b11_2
  ⟨Q .normal [(6, (.bool true))] M⟩
  ⟨@OptVH (convV .u64 v1) ⟨fun t14_7 =>
  @OptVH (convV .u64 v0) ⟨fun t16_9 =>
  @OptVH (binV .sub .none t14_7 t16_9) ⟨fun t17_10 =>
  @OptVH (convV .u64 v2) ⟨fun t19_12 =>
  @OptBH (binV .gtr .none t17_10 t19_12) ⟨fun b20_13 =>
  Q .normal [(6, (.bool b20_13))] M⟩⟩⟩⟩⟩⟩⟩
theorem e73_3 (P : Program) (Q : Exit → Slots → Mem → Prop) (s : Slots) (M : Mem) : wpC P c73_3 Q s M = w73_3 P Q M (sget s 0) (sget s 1) (sget s 2) := by kernel_rfl
def c73_4 : ACode := (.seq c73_3 .ret)
def o73_5 : List AOper := [⟨some 7, (.mov (.tmp 1)), false, none⟩,
  ⟨some 8, (.mov (.tmp 0)), false, none⟩,
  ⟨some 9, (.bin .geq .none (.tmp 7) (.tmp 8)), true, none⟩]
def c73_6 : ACode := (.seq (.region o73_5 [0, 1, 2, 9]) (.cond (.tmp 9) c73_4 .skip))
def w73_6 (P : Program) (Q : Exit → Slots → Mem → Prop) (M : Mem) (v0 : V) (v1 : V) (v2 : V) : Prop :=
  @OptBH (binV .geq .none v1 v0) ⟨fun b9_3 =>
  @BIfH b9_3
  ⟨wpC P c73_4 Q [(0, v0), (1, v1), (2, v2), (9, (.bool b9_3))] M⟩
  ⟨Q .normal [(0, v0), (1, v1), (2, v2), (9, (.bool b9_3))] M⟩⟩
theorem e73_6 (P : Program) (Q : Exit → Slots → Mem → Prop) (s : Slots) (M : Mem) : wpC P c73_6 Q s M = w73_6 P Q M (sget s 0) (sget s 1) (sget s 2) := by kernel_rfl
def o73_7 : List AOper := [⟨some 22, (.mov (.tmp 2)), false, none⟩,
  ⟨some 23, (.bin .lss .none (.tmp 22) (.const (.int .i64 0))), true, none⟩,
  ⟨some 24, (.mov (.tmp 23)), true, none⟩,
  ⟨some 25, (.mov (.tmp 0)), false, some (24, true)⟩,
  ⟨some 26, (.conv .u64 (.tmp 25)), false, some (24, true)⟩,
  ⟨some 27, (.mov (.tmp 1)), false, some (24, true)⟩,
  ⟨some 28, (.conv .u64 (.tmp 27)), false, some (24, true)⟩,
  ⟨some 29, (.bin .sub .none (.tmp 26) (.tmp 28)), false, some (24, true)⟩,
  ⟨some 30, (.mov (.tmp 2)), false, some (24, true)⟩,
  ⟨some 31, (.conv .u64 (.tmp 30)), false, some (24, true)⟩,
  ⟨some 32, (.un .neg (.tmp 31)), false, some (24, true)⟩,
  ⟨some 33, (.bin .lss .none (.tmp 29) (.tmp 32)), true, some (24, true)⟩,
  ⟨some 34, (.pick (.tmp 24) (.tmp 33) (.const (.bool false))), true, none⟩,
  ⟨some 6, (.mov (.tmp 34)), true, none⟩]
def c73_8 : ACode := (.region o73_7 [6])
def w73_8 (_P : Program) (Q : Exit → Slots → Mem → Prop) (M : Mem) (v0 : V) (v1 : V) (v2 : V) : Prop :=
  @OptBH (binV .lss .none v2 (.int .i64 0)) ⟨fun b23_2 =>
  @BIfH b23_2
  ⟨@OptVH (convV .u64 v0) ⟨fun t26_5 =>
  @OptVH (convV .u64 v1) ⟨fun t28_7 =>
  @OptVH (binV .sub .none t26_5 t28_7) ⟨fun t29_8 =>
  @OptVH (convV .u64 v2) ⟨fun t31_10 =>
  @OptVH (unV .neg t31_10) ⟨fun t32_11 =>
  @OptBH (binV .lss .none t29_8 t32_11) ⟨fun b33_12 =>
  Q .normal [(6, (.bool b33_12))] M⟩⟩⟩⟩⟩⟩⟩
  ⟨Q .normal [(6, (.bool false))] M⟩⟩
theorem e73_8 (P : Program) (Q : Exit → Slots → Mem → Prop) (s : Slots) (M : Mem) : wpC P c73_8 Q s M = w73_8 P Q M (sget s 0) (sget s 1) (sget s 2) := by kernel_rfl
def c73_9 : ACode := (.seq c73_8 .ret)
def c73_10 : ACode := (.seq c73_6 c73_9)
def c73_11 : ACode := (.seq c73_1 c73_10)
def fn_product_later : AFn := ⟨35, [(.tmp 6)], c73_11⟩
theorem fn_product_later_ok : resFn PR h_product_later i_product_later = some fn_product_later := by kernel_rfl

def h_product_Covers_1 : Hints := ⟨[(0, [1, 2, 3]), (1, [2, 3]), (2, [])], [], []⟩
def o74_0 : List AOper := [⟨some 3, (.box 4 (.tmp 0)), false, none⟩]
def c74_1 : ACode := (.region o74_0 [1, 2, 3])
def w74_1 (_P : Program) (Q : Exit → Slots → Mem → Prop) (M : Mem) (v0 : V) (v1 : V) (v2 : V) : Prop :=
  @OptMH (boxV 4 v0 M) ⟨fun t3_1 M1 =>
  Q .normal [(1, v1), (2, v2), (3, t3_1)] M1⟩
theorem e74_1 (P : Program) (Q : Exit → Slots → Mem → Prop) (s : Slots) (M : Mem) : wpC P c74_1 Q s M = w74_1 P Q M (sget s 0) (sget s 1) (sget s 2) := by kernel_rfl
def o74_2 : List AOper := [⟨some 4, (.load 1 false (.tmp 1)), false, none⟩,
  ⟨some 5, (.fieldAddr 2 (.tmp 3)), false, none⟩,
  ⟨some 6, (.load 1 false (.tmp 5)), false, none⟩,
  ⟨some 7, (.conv .u64 (.tmp 6)), false, none⟩,
  ⟨some 8, (.call i_bitset_Set_Union [(.tmp 4), (.tmp 7)]), false, none⟩,
  ⟨none, (.store 1 (.tmp 1) (.tmp 8)), false, none⟩]
def c74_3 : ACode := (.region o74_2 [2, 3])
def w74_3 (P : Program) (Q : Exit → Slots → Mem → Prop) (M : Mem) (v1 : V) (v2 : V) (v3 : V) : Prop :=
  @OptVH (loadV 1 false v1 M) ⟨fun t4_1 =>
  @OptVH (moveV 2 v3) ⟨fun t5_2 =>
  @OptVH (loadV 1 false t5_2 M) ⟨fun t6_3 =>
  @OptVH (convV .u64 t6_3) ⟨fun t7_4 =>
  @CallH P i_bitset_Set_Union [t4_1, t7_4] M ⟨fun t8_5 M5 =>
  @OptMH (storeVM 1 v1 t8_5 M5) ⟨fun _tx_6 M6 =>
  Q .normal [(2, v2), (3, v3)] M6⟩⟩⟩⟩⟩⟩
theorem e74_3 (P : Program) (Q : Exit → Slots → Mem → Prop) (s : Slots) (M : Mem) : wpC P c74_3 Q s M = w74_3 P Q M (sget s 1) (sget s 2) (sget s 3) := by kernel_rfl
def o74_4 : List AOper := [⟨some 9, (.load 1 false (.tmp 2)), false, none⟩,
  ⟨some 10, (.fieldAddr 3 (.tmp 3)), false, none⟩,
  ⟨some 11, (.load 1 false (.tmp 10)), false, none⟩,
  ⟨some 12, (.conv .u64 (.tmp 11)), false, none⟩,
  ⟨some 13, (.call i_bitset_Set_Union [(.tmp 9), (.tmp 12)]), false, none⟩,
  ⟨none, (.store 1 (.tmp 2) (.tmp 13)), false, none⟩]
def c74_5 : ACode := (.region o74_4 [])
def w74_5 (P : Program) (Q : Exit → Slots → Mem → Prop) (M : Mem) (v2 : V) (v3 : V) : Prop :=
  @OptVH (loadV 1 false v2 M) ⟨fun t9_1 =>
  @OptVH (moveV 3 v3) ⟨fun t10_2 =>
  @OptVH (loadV 1 false t10_2 M) ⟨fun t11_3 =>
  @OptVH (convV .u64 t11_3) ⟨fun t12_4 =>
  @CallH P i_bitset_Set_Union [t9_1, t12_4] M ⟨fun t13_5 M5 =>
  @OptMH (storeVM 1 v2 t13_5 M5) ⟨fun _tx_6 M6 =>
  Q .normal [] M6⟩⟩⟩⟩⟩⟩
theorem e74_5 (P : Program) (Q : Exit → Slots → Mem → Prop) (s : Slots) (M : Mem) : wpC P c74_5 Q s M = w74_5 P Q M (sget s 2) (sget s 3) := by kernel_rfl
def c74_6 : ACode := (.seq c74_3 c74_5)
def c74_7 : ACode := (.seq c74_1 c74_6)
def fn_product_Covers_1 : AFn := ⟨14, [], c74_7⟩
theorem fn_product_Covers_1_ok : resFn PR h_product_Covers_1 i_product_Covers_1 = some fn_product_Covers_1 := by kernel_rfl

def h_bitset_Set_Union : Hints := ⟨[(0, [0, 1]), (1, [4])], [], []⟩
def o75_0 : List AOper := [⟨some 4, (.mov (.const (.int .u64 0))), false, none⟩]
def c75_1 : ACode := (.region o75_0 [0, 1])
def w75_1 (_P : Program) (Q : Exit → Slots → Mem → Prop) (M : Mem) (v0 : V) (v1 : V) : Prop :=
  Q .normal [(0, v0), (1, v1)] M
theorem e75_1 (P : Program) (Q : Exit → Slots → Mem → Prop) (s : Slots) (M : Mem) : wpC P c75_1 Q s M = w75_1 P Q M (sget s 0) (sget s 1) := by kernel_rfl
def o75_2 : List AOper := [⟨some 5, (.mov (.tmp 0)), false, none⟩,
  ⟨some 6, (.mov (.tmp 1)), false, none⟩,
  ⟨some 7, (.bin .or .none (.tmp 5) (.tmp 6)), false, none⟩,
  ⟨some 4, (.mov (.tmp 7)), false, none⟩]
def c75_3 : ACode := (.region o75_2 [4])
def w75_3 (_P : Program) (Q : Exit → Slots → Mem → Prop) (M : Mem) (v0 : V) (v1 : V) : Prop :=
  @OptVH (binV .or .none v0 v1) ⟨fun t7_3 =>
  Q .normal [(4, t7_3)] M⟩
theorem e75_3 (P : Program) (Q : Exit → Slots → Mem → Prop) (s : Slots) (M : Mem) : wpC P c75_3 Q s M = w75_3 P Q M (sget s 0) (sget s 1) := by kernel_rfl
def c75_4 : ACode := (.seq c75_3 .ret)
def c75_5 : ACode := (.seq c75_1 c75_4)
def fn_bitset_Set_Union : AFn := ⟨8, [(.tmp 4)], c75_5⟩
theorem fn_bitset_Set_Union_ok : resFn PR h_bitset_Set_Union i_bitset_Set_Union = some fn_bitset_Set_Union := by kernel_rfl

def h_bitset_Set_Len : Hints := ⟨[(0, [0]), (1, [0, 3]), (2, [0, 3, 5]), (3, [2]), (4, [0, 3]), (5, [0, 3])], [(2, [0, 3])], []⟩
def o76_0 : List AOper := [⟨some 2, (.mov (.const (.int .i64 0))), false, none⟩]
def c76_1 : ACode := (.region o76_0 [0])
def w76_1 (_P : Program) (Q : Exit → Slots → Mem → Prop) (M : Mem) (v0 : V) : Prop :=
  Q .normal [(0, v0)] M
theorem e76_1 (P : Program) (Q : Exit → Slots → Mem → Prop) (s : Slots) (M : Mem) : wpC P c76_1 Q s M = w76_1 P Q M (sget s 0) := by kernel_rfl
def o76_2 : List AOper := [⟨some 3, (.mov (.const (.int .i64 0))), false, none⟩]
def c76_3 : ACode := (.region o76_2 [0, 3])
def w76_3 (_P : Program) (Q : Exit → Slots → Mem → Prop) (M : Mem) (v0 : V) : Prop :=
  Q .normal [(0, v0), (3, (.int .i64 0))] M
theorem e76_3 (P : Program) (Q : Exit → Slots → Mem → Prop) (s : Slots) (M : Mem) : wpC P c76_3 Q s M = w76_3 P Q M (sget s 0) := by kernel_rfl
def o76_4 : List AOper := [⟨some 6, (.mov (.tmp 3)), false, none⟩,
  ⟨some 2, (.mov (.tmp 6)), false, none⟩]
def c76_5 : ACode := (.region o76_4 [2])
def w76_5 (_P : Program) (Q : Exit → Slots → Mem → Prop) (M : Mem) (v3 : V) : Prop :=
  Q .normal [(2, v3)] M
theorem e76_5 (P : Program) (Q : Exit → Slots → Mem → Prop) (s : Slots) (M : Mem) : wpC P c76_5 Q s M = w76_5 P Q M (sget s 3) := by kernel_rfl
def c76_6 : ACode := (.seq c76_5 .ret)
def o76_7 : List AOper := [⟨some 4, (.mov (.tmp 0)), false, none⟩,
  ⟨some 5, (.bin .eql .none (.tmp 4) (.const (.int .u64 0))), true, none⟩]
def c76_8 : ACode := (.seq (.region o76_7 [0, 3, 5]) (.cond (.tmp 5) c76_6 .skip))
def w76_8 (P : Program) (Q : Exit → Slots → Mem → Prop) (M : Mem) (v0 : V) (v3 : V) : Prop :=
  @OptBH (binV .eql .none v0 (.int .u64 0)) ⟨fun b5_2 =>
  @BIfH b5_2
  ⟨wpC P c76_6 Q [(0, v0), (3, v3), (5, (.bool b5_2))] M⟩
  ⟨Q .normal [(0, v0), (3, v3), (5, (.bool b5_2))] M⟩⟩
theorem e76_8 (P : Program) (Q : Exit → Slots → Mem → Prop) (s : Slots) (M : Mem) : wpC P c76_8 Q s M = w76_8 P Q M (sget s 0) (sget s 3) := by kernel_rfl
def o76_9 : List AOper := [⟨some 7, (.mov (.tmp 0)), false, none⟩,
  ⟨some 8, (.mov (.tmp 0)), false, none⟩,
  ⟨some 9, (.bin .sub .none (.tmp 8) (.const (.int .u64 1))), false, none⟩,
  ⟨some 10, (.bin .and .none (.tmp 7) (.tmp 9)), false, none⟩,
  ⟨some 0, (.mov (.tmp 10)), false, none⟩]
def c76_10 : ACode := (.region o76_9 [0, 3])
def w76_10 (_P : Program) (Q : Exit → Slots → Mem → Prop) (M : Mem) (v0 : V) (v3 : V) : Prop :=
  @OptVH (binV .sub .none v0 (.int .u64 1)) ⟨fun t9_3 =>
  @OptVH (binV .and .none v0 t9_3) ⟨fun t10_4 =>
  Q .normal [(0, t10_4), (3, v3)] M⟩⟩
theorem e76_10 (P : Program) (Q : Exit → Slots → Mem → Prop) (s : Slots) (M : Mem) : wpC P c76_10 Q s M = w76_10 P Q M (sget s 0) (sget s 3) := by kernel_rfl
def o76_11 : List AOper := [⟨some 11, (.mov (.tmp 3)), false, none⟩,
  ⟨some 12, (.bin .add .none (.tmp 11) (.const (.int .i64 1))), false, none⟩,
  ⟨some 3, (.mov (.tmp 12)), false, none⟩]
def c76_12 : ACode := (.region o76_11 [0, 3])
def w76_12 (_P : Program) (Q : Exit → Slots → Mem → Prop) (M : Mem) (v0 : V) (v3 : V) : Prop :=
  @OptVH (binV .add .none v3 (.int .i64 1)) ⟨fun t12_2 =>
  Q .normal [(0, v0), (3, t12_2)] M⟩
theorem e76_12 (P : Program) (Q : Exit → Slots → Mem → Prop) (s : Slots) (M : Mem) : wpC P c76_12 Q s M = w76_12 P Q M (sget s 0) (sget s 3) := by kernel_rfl
def c76_13 : ACode := (.seq c76_12 (.goto 0))
def c76_14 : ACode := (.seq c76_10 c76_13)
def c76_15 : ACode := (.seq c76_8 c76_14)
def c76_16 : ACode := (.seq .label c76_15)
def c76_17 : ACode := (.seq c76_3 c76_16)
def o76_18 : List AOper := [⟨some 6, (.mov (.tmp 3)), false, none⟩,
  ⟨some 2, (.mov (.tmp 6)), false, none⟩]
def c76_19 : ACode := (.region o76_18 [2])
def w76_19 (_P : Program) (Q : Exit → Slots → Mem → Prop) (M : Mem) (v3 : V) : Prop :=
  Q .normal [(2, v3)] M
theorem e76_19 (P : Program) (Q : Exit → Slots → Mem → Prop) (s : Slots) (M : Mem) : wpC P c76_19 Q s M = w76_19 P Q M (sget s 3) := by kernel_rfl
def c76_20 : ACode := (.seq c76_19 .ret)
def o76_21 : List AOper := [⟨some 4, (.mov (.tmp 0)), false, none⟩,
  ⟨some 5, (.bin .eql .none (.tmp 4) (.const (.int .u64 0))), true, none⟩]
def c76_22 : ACode := (.seq (.region o76_21 [0, 3, 5]) (.cond (.tmp 5) c76_20 .skip))
def w76_22 (P : Program) (Q : Exit → Slots → Mem → Prop) (M : Mem) (v0 : V) (v3 : V) : Prop :=
  @OptBH (binV .eql .none v0 (.int .u64 0)) ⟨fun b5_2 =>
  @BIfH b5_2
  ⟨wpC P c76_20 Q [(0, v0), (3, v3), (5, (.bool b5_2))] M⟩
  ⟨Q .normal [(0, v0), (3, v3), (5, (.bool b5_2))] M⟩⟩
theorem e76_22 (P : Program) (Q : Exit → Slots → Mem → Prop) (s : Slots) (M : Mem) : wpC P c76_22 Q s M = w76_22 P Q M (sget s 0) (sget s 3) := by kernel_rfl
def o76_23 : List AOper := [⟨some 7, (.mov (.tmp 0)), false, none⟩,
  ⟨some 8, (.mov (.tmp 0)), false, none⟩,
  ⟨some 9, (.bin .sub .none (.tmp 8) (.const (.int .u64 1))), false, none⟩,
  ⟨some 10, (.bin .and .none (.tmp 7) (.tmp 9)), false, none⟩,
  ⟨some 0, (.mov (.tmp 10)), false, none⟩]
def c76_24 : ACode := (.region o76_23 [0, 3])
def w76_24 (_P : Program) (Q : Exit → Slots → Mem → Prop) (M : Mem) (v0 : V) (v3 : V) : Prop :=
  @OptVH (binV .sub .none v0 (.int .u64 1)) ⟨fun t9_3 =>
  @OptVH (binV .and .none v0 t9_3) ⟨fun t10_4 =>
  Q .normal [(0, t10_4), (3, v3)] M⟩⟩
theorem e76_24 (P : Program) (Q : Exit → Slots → Mem → Prop) (s : Slots) (M : Mem) : wpC P c76_24 Q s M = w76_24 P Q M (sget s 0) (sget s 3) := by kernel_rfl
def o76_25 : List AOper := [⟨some 11, (.mov (.tmp 3)), false, none⟩,
  ⟨some 12, (.bin .add .none (.tmp 11) (.const (.int .i64 1))), false, none⟩,
  ⟨some 3, (.mov (.tmp 12)), false, none⟩]
def c76_26 : ACode := (.region o76_25 [0, 3])
def w76_26 (_P : Program) (Q : Exit → Slots → Mem → Prop) (M : Mem) (v0 : V) (v3 : V) : Prop :=
  @OptVH (binV .add .none v3 (.int .i64 1)) ⟨fun t12_2 =>
  Q .normal [(0, v0), (3, t12_2)] M⟩
theorem e76_26 (P : Program) (Q : Exit → Slots → Mem → Prop) (s : Slots) (M : Mem) : wpC P c76_26 Q s M = w76_26 P Q M (sget s 0) (sget s 3) := by kernel_rfl
def c76_27 : ACode := (.seq c76_26 (.goto 0))
def c76_28 : ACode := (.seq c76_24 c76_27)
def c76_29 : ACode := (.seq c76_22 c76_28)
def c76_30 : ACode := (.seq .skip c76_29)
def c76_31 : ACode := (.scope 0 [0, 3] c76_17 c76_30)
def c76_32 : ACode := (.seq c76_1 c76_31)
def fn_bitset_Set_Len : AFn := ⟨13, [(.tmp 2)], c76_32⟩
theorem fn_bitset_Set_Len_ok : resFn PR h_bitset_Set_Len i_bitset_Set_Len = some fn_bitset_Set_Len := by kernel_rfl

def h_bitset_Set_Within : Hints := ⟨[(0, [0, 1]), (1, [4])], [], []⟩
def o77_0 : List AOper := [⟨some 4, (.mov (.const (.bool false))), true, none⟩]
def c77_1 : ACode := (.region o77_0 [0, 1])
def w77_1 (_P : Program) (Q : Exit → Slots → Mem → Prop) (M : Mem) (v0 : V) (v1 : V) : Prop :=
  Q .normal [(0, v0), (1, v1)] M
theorem e77_1 (P : Program) (Q : Exit → Slots → Mem → Prop) (s : Slots) (M : Mem) : wpC P c77_1 Q s M = w77_1 P Q M (sget s 0) (sget s 1) := by kernel_rfl
def o77_2 : List AOper := [⟨some 5, (.mov (.tmp 0)), false, none⟩,
  ⟨some 6, (.mov (.tmp 1)), false, none⟩,
  ⟨some 7, (.bin .andNot .none (.tmp 5) (.tmp 6)), false, none⟩,
  ⟨some 8, (.bin .eql .none (.tmp 7) (.const (.int .u64 0))), true, none⟩,
  ⟨some 4, (.mov (.tmp 8)), true, none⟩]
def c77_3 : ACode := (.region o77_2 [4])
def w77_3 (_P : Program) (Q : Exit → Slots → Mem → Prop) (M : Mem) (v0 : V) (v1 : V) : Prop :=
  @OptVH (binV .andNot .none v0 v1) ⟨fun t7_3 =>
  @OptBH (binV .eql .none t7_3 (.int .u64 0)) ⟨fun b8_4 =>
  Q .normal [(4, (.bool b8_4))] M⟩⟩
theorem e77_3 (P : Program) (Q : Exit → Slots → Mem → Prop) (s : Slots) (M : Mem) : wpC P c77_3 Q s M = w77_3 P Q M (sget s 0) (sget s 1) := by kernel_rfl
def c77_4 : ACode := (.seq c77_3 .ret)
def c77_5 : ACode := (.seq c77_1 c77_4)
def fn_bitset_Set_Within : AFn := ⟨9, [(.tmp 4)], c77_5⟩
theorem fn_bitset_Set_Within_ok : resFn PR h_bitset_Set_Within i_bitset_Set_Within = some fn_bitset_Set_Within := by kernel_rfl

def h_fare_within : Hints := ⟨[(0, [0, 1, 2]), (1, [6])], [], []⟩
def o78_0 : List AOper := [⟨some 6, (.mov (.const (.bool false))), true, none⟩]
def c78_1 : ACode := (.region o78_0 [0, 1, 2])
def w78_1 (_P : Program) (Q : Exit → Slots → Mem → Prop) (M : Mem) (v0 : V) (v1 : V) (v2 : V) : Prop :=
  Q .normal [(0, v0), (1, v1), (2, v2)] M
theorem e78_1 (P : Program) (Q : Exit → Slots → Mem → Prop) (s : Slots) (M : Mem) : wpC P c78_1 Q s M = w78_1 P Q M (sget s 0) (sget s 1) (sget s 2) := by kernel_rfl
def o78_2 : List AOper := [⟨some 7, (.mov (.tmp 1)), false, none⟩,
  ⟨some 8, (.mov (.tmp 0)), false, none⟩,
  ⟨some 9, (.bin .leq .none (.tmp 7) (.tmp 8)), true, none⟩,
  ⟨some 10, (.mov (.tmp 9)), true, none⟩,
  ⟨some 11, (.mov (.tmp 1)), false, some (10, false)⟩,
  ⟨some 12, (.conv .u64 (.tmp 11)), false, some (10, false)⟩,
  ⟨some 13, (.mov (.tmp 0)), false, some (10, false)⟩,
  ⟨some 14, (.conv .u64 (.tmp 13)), false, some (10, false)⟩,
  ⟨some 15, (.bin .sub .none (.tmp 12) (.tmp 14)), false, some (10, false)⟩,
  ⟨some 16, (.mov (.tmp 2)), false, some (10, false)⟩,
  ⟨some 17, (.conv .u64 (.tmp 16)), false, some (10, false)⟩,
  ⟨some 18, (.bin .leq .none (.tmp 15) (.tmp 17)), true, some (10, false)⟩,
  ⟨some 19, (.pick (.tmp 10) (.const (.bool true)) (.tmp 18)), true, none⟩,
  ⟨some 6, (.mov (.tmp 19)), true, none⟩]
def c78_3 : ACode := (.region o78_2 [6])
def w78_3 (_P : Program) (Q : Exit → Slots → Mem → Prop) (M : Mem) (v0 : V) (v1 : V) (v2 : V) : Prop :=
  @OptBH (binV .leq .none v1 v0) ⟨fun b9_3 =>
  @BIfH b9_3
  ⟨Q .normal [(6, (.bool true))] M⟩
  ⟨@OptVH (convV .u64 v1) ⟨fun t12_8 =>
  @OptVH (convV .u64 v0) ⟨fun t14_10 =>
  @OptVH (binV .sub .none t12_8 t14_10) ⟨fun t15_11 =>
  @OptVH (convV .u64 v2) ⟨fun t17_13 =>
  @OptBH (binV .leq .none t15_11 t17_13) ⟨fun b18_14 =>
  Q .normal [(6, (.bool b18_14))] M⟩⟩⟩⟩⟩⟩⟩
theorem e78_3 (P : Program) (Q : Exit → Slots → Mem → Prop) (s : Slots) (M : Mem) : wpC P c78_3 Q s M = w78_3 P Q M (sget s 0) (sget s 1) (sget s 2) := by kernel_rfl
def c78_4 : ACode := (.seq c78_3 .ret)
def c78_5 : ACode := (.seq c78_1 c78_4)
def fn_fare_within : AFn := ⟨20, [(.tmp 6)], c78_5⟩
theorem fn_fare_within_ok : resFn PR h_fare_within i_fare_within = some fn_fare_within := by kernel_rfl

end Go.Vm.C
