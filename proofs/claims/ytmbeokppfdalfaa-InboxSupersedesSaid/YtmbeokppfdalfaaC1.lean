/- The abstract code of the functions that the statements reach, printed by a program, each with the equation that it is what the loaded program says. Part 1. -/
import Derived.Test.YtmbeokppfdalfaaC0
namespace Go.Vm.C
open Go.Vm
def h_inbox_Inbox_Heartbeat : Hints := ⟨[(0, [0, 1, 2]), (1, [0, 1, 2, 7]), (2, [6]), (3, [0, 1, 2, 10]), (4, [6]), (5, [0, 1, 2, 15]), (6, [6]), (7, []), (8, [6])], [], []⟩
def o25_0 : List AOper := [⟨some 6, (.mov (.const (.int .i64 0))), false, none⟩]
def c25_1 : ACode := (.region o25_0 [0, 1, 2])
def w25_1 (_P : Program) (Q : Exit → Slots → Mem → Prop) (M : Mem) (v0 : V) (v1 : V) (v2 : V) : Prop :=
  Q .normal [(0, v0), (1, v1), (2, v2)] M
theorem e25_1 (P : Program) (Q : Exit → Slots → Mem → Prop) (s : Slots) (M : Mem) : wpC P c25_1 Q s M = w25_1 P Q M (sget s 0) (sget s 1) (sget s 2) := by kernel_rfl
def o25_2 : List AOper := [⟨some 6, (.mov (.const (.int .i64 40))), false, none⟩]
def c25_3 : ACode := (.region o25_2 [6])
def w25_3 (_P : Program) (Q : Exit → Slots → Mem → Prop) (M : Mem) : Prop :=
  Q .normal [(6, (.int .i64 40))] M
theorem e25_3 (P : Program) (Q : Exit → Slots → Mem → Prop) (s : Slots) (M : Mem) : wpC P c25_3 Q s M = w25_3 P Q M := by kernel_rfl
def c25_4 : ACode := (.seq c25_3 .ret)
def o25_5 : List AOper := [⟨some 6, (.mov (.const (.int .i64 36))), false, none⟩]
def c25_6 : ACode := (.region o25_5 [6])
def w25_6 (_P : Program) (Q : Exit → Slots → Mem → Prop) (M : Mem) : Prop :=
  Q .normal [(6, (.int .i64 36))] M
theorem e25_6 (P : Program) (Q : Exit → Slots → Mem → Prop) (s : Slots) (M : Mem) : wpC P c25_6 Q s M = w25_6 P Q M := by kernel_rfl
def c25_7 : ACode := (.seq c25_6 .ret)
def o25_8 : List AOper := [⟨some 6, (.mov (.const (.int .i64 10))), false, none⟩]
def c25_9 : ACode := (.region o25_8 [6])
def w25_9 (_P : Program) (Q : Exit → Slots → Mem → Prop) (M : Mem) : Prop :=
  Q .normal [(6, (.int .i64 10))] M
theorem e25_9 (P : Program) (Q : Exit → Slots → Mem → Prop) (s : Slots) (M : Mem) : wpC P c25_9 Q s M = w25_9 P Q M := by kernel_rfl
def c25_10 : ACode := (.seq c25_9 .ret)
def o25_11 : List AOper := [⟨some 16, (.mov (.tmp 2)), false, none⟩,
  ⟨some 17, (.bin .lss .none (.tmp 16) (.const (.int .i64 0))), true, none⟩,
  ⟨some 18, (.mov (.tmp 17)), true, none⟩,
  ⟨some 19, (.mov (.tmp 2)), false, some (18, false)⟩,
  ⟨some 20, (.bin .gtr .none (.tmp 19) (.const (.int .i64 3155932800))), true, some (18, false)⟩,
  ⟨some 21, (.pick (.tmp 18) (.const (.bool true)) (.tmp 20)), true, none⟩,
  ⟨some 15, (.mov (.tmp 21)), true, none⟩]
def c25_12 : ACode := (.seq (.region o25_11 [0, 1, 2, 15]) (.cond (.tmp 15) c25_10 .skip))
def w25_12 (P : Program) (Q : Exit → Slots → Mem → Prop) (M : Mem) (v0 : V) (v1 : V) (v2 : V) : Prop :=
  @OptBH (binV .lss .none v2 (.int .i64 0)) ⟨fun b17_2 =>
  @BIfH b17_2
  ⟨wpC P c25_10 Q [(0, v0), (1, v1), (2, v2), (15, (.bool true))] M⟩
  ⟨@OptBH (binV .gtr .none v2 (.int .i64 3155932800)) ⟨fun b20_7 =>
  @BIfH b20_7
  ⟨wpC P c25_10 Q [(0, v0), (1, v1), (2, v2), (15, (.bool b20_7))] M⟩
  ⟨Q .normal [(0, v0), (1, v1), (2, v2), (15, (.bool b20_7))] M⟩⟩⟩⟩
theorem e25_12 (P : Program) (Q : Exit → Slots → Mem → Prop) (s : Slots) (M : Mem) : wpC P c25_12 Q s M = w25_12 P Q M (sget s 0) (sget s 1) (sget s 2) := by kernel_rfl
def o25_13 : List AOper := [⟨some 11, (.mov (.tmp 0)), false, none⟩,
  ⟨some 12, (.mov (.tmp 1)), false, none⟩,
  ⟨some 13, (.call i_inbox_Inbox_exists [(.tmp 11), (.tmp 12)]), true, none⟩,
  ⟨some 14, (.un .not (.tmp 13)), true, none⟩,
  ⟨some 10, (.mov (.tmp 14)), true, none⟩]
def c25_14 : ACode := (.seq (.region o25_13 [0, 1, 2, 10]) (.cond (.tmp 10) c25_7 c25_12))
def w25_14 (P : Program) (Q : Exit → Slots → Mem → Prop) (M : Mem) (v0 : V) (v1 : V) (v2 : V) : Prop :=
  @CallH P i_inbox_Inbox_exists [v0, v1] M ⟨fun t13_3 M3 => @OptBH (some t13_3) ⟨fun b13_3 =>
  @OptBH (unV .not (.bool b13_3)) ⟨fun b14_4 =>
  @BIfH b14_4
  ⟨wpC P c25_7 Q [(0, v0), (1, v1), (2, v2), (10, (.bool b14_4))] M3⟩
  ⟨wpC P c25_12 Q [(0, v0), (1, v1), (2, v2), (10, (.bool b14_4))] M3⟩⟩⟩⟩
theorem e25_14 (P : Program) (Q : Exit → Slots → Mem → Prop) (s : Slots) (M : Mem) : wpC P c25_14 Q s M = w25_14 P Q M (sget s 0) (sget s 1) (sget s 2) := by kernel_rfl
def o25_15 : List AOper := [⟨some 8, (.mov (.tmp 0)), false, none⟩,
  ⟨some 9, (.bin .eql .ptr (.tmp 8) (.const .nilp)), true, none⟩,
  ⟨some 7, (.mov (.tmp 9)), true, none⟩]
def c25_16 : ACode := (.seq (.region o25_15 [0, 1, 2, 7]) (.cond (.tmp 7) c25_4 c25_14))
def w25_16 (P : Program) (Q : Exit → Slots → Mem → Prop) (M : Mem) (v0 : V) (v1 : V) (v2 : V) : Prop :=
  @OptBH (binV .eql .ptr v0 .nilp) ⟨fun b9_2 =>
  @BIfH b9_2
  ⟨wpC P c25_4 Q [(0, v0), (1, v1), (2, v2), (7, (.bool b9_2))] M⟩
  ⟨wpC P c25_14 Q [(0, v0), (1, v1), (2, v2), (7, (.bool b9_2))] M⟩⟩
theorem e25_16 (P : Program) (Q : Exit → Slots → Mem → Prop) (s : Slots) (M : Mem) : wpC P c25_16 Q s M = w25_16 P Q M (sget s 0) (sget s 1) (sget s 2) := by kernel_rfl
def c25_17 : ACode := (.block 0 c25_16)
def o25_18 : List AOper := [⟨some 22, (.mov (.tmp 0)), false, none⟩,
  ⟨some 23, (.nilCheck (.tmp 22)), false, none⟩,
  ⟨some 24, (.fieldAddr 0 (.tmp 23)), false, none⟩,
  ⟨some 25, (.load 1 false (.tmp 24)), false, none⟩,
  ⟨some 26, (.mov (.tmp 1)), false, none⟩,
  ⟨some 27, (.indexSl 4 (.tmp 25) (.tmp 26)), false, none⟩,
  ⟨some 28, (.fieldAddr 0 (.tmp 27)), false, none⟩,
  ⟨some 29, (.mov (.tmp 2)), false, none⟩,
  ⟨some 30, (.call i_inbox_heard_hear [(.tmp 28), (.tmp 29)]), false, none⟩]
def c25_19 : ACode := (.region o25_18 [])
def w25_19 (P : Program) (Q : Exit → Slots → Mem → Prop) (M : Mem) (v0 : V) (v1 : V) (v2 : V) : Prop :=
  @OptVH (nilCheckV v0) ⟨fun t23_2 =>
  @OptVH (moveV 0 t23_2) ⟨fun t24_3 =>
  @OptVH (loadV 1 false t24_3 M) ⟨fun t25_4 =>
  @OptVH (indexSlV 4 t25_4 v1 M) ⟨fun t27_6 =>
  @OptVH (moveV 0 t27_6) ⟨fun t28_7 =>
  @CallH P i_inbox_heard_hear [t28_7, v2] M ⟨fun _t30_9 M9 =>
  Q .normal [] M9⟩⟩⟩⟩⟩⟩
theorem e25_19 (P : Program) (Q : Exit → Slots → Mem → Prop) (s : Slots) (M : Mem) : wpC P c25_19 Q s M = w25_19 P Q M (sget s 0) (sget s 1) (sget s 2) := by kernel_rfl
def o25_20 : List AOper := [⟨some 6, (.mov (.const (.int .i64 0))), false, none⟩]
def c25_21 : ACode := (.region o25_20 [6])
def w25_21 (_P : Program) (Q : Exit → Slots → Mem → Prop) (M : Mem) : Prop :=
  Q .normal [(6, (.int .i64 0))] M
theorem e25_21 (P : Program) (Q : Exit → Slots → Mem → Prop) (s : Slots) (M : Mem) : wpC P c25_21 Q s M = w25_21 P Q M := by kernel_rfl
def c25_22 : ACode := (.seq c25_21 .ret)
def c25_23 : ACode := (.seq c25_19 c25_22)
def c25_24 : ACode := (.seq c25_17 c25_23)
def c25_25 : ACode := (.seq c25_1 c25_24)
def fn_inbox_Inbox_Heartbeat : AFn := ⟨31, [(.tmp 6)], c25_25⟩
theorem fn_inbox_Inbox_Heartbeat_ok : resFn PR h_inbox_Inbox_Heartbeat i_inbox_Inbox_Heartbeat = some fn_inbox_Inbox_Heartbeat := by kernel_rfl

def h_transitref32_Heartbeat : Hints := ⟨[(0, [1, 2, 3, 6]), (1, [1, 2, 3, 6, 16]), (2, [6, 7]), (3, [1, 2, 3, 6, 20]), (4, [6, 7]), (5, [6, 7])], [], []⟩
def o26_0 : List AOper := [⟨some 3, (.box 3 (.tmp 0)), false, none⟩,
  ⟨some 6, (.alloc [(.int .i64 0), (.slice [] .nil), (.slice [] .nil)]), false, none⟩,
  ⟨some 7, (.mov (.const (.int .i64 0))), false, none⟩]
def c26_1 : ACode := (.region o26_0 [1, 2, 3, 6])
def w26_1 (_P : Program) (Q : Exit → Slots → Mem → Prop) (M : Mem) (v0 : V) (v1 : V) (v2 : V) : Prop :=
  @OptMH (boxV 3 v0 M) ⟨fun t3_1 M1 =>
  @OptMH (allocV [(.int .i64 0), (.slice [] .nil), (.slice [] .nil)] M1) ⟨fun t6_2 M2 =>
  Q .normal [(1, v1), (2, v2), (3, t3_1), (6, t6_2)] M2⟩⟩
theorem e26_1 (P : Program) (Q : Exit → Slots → Mem → Prop) (s : Slots) (M : Mem) : wpC P c26_1 Q s M = w26_1 P Q M (sget s 0) (sget s 1) (sget s 2) := by kernel_rfl
def o26_2 : List AOper := [⟨some 17, (.load 3 true (.tmp 3)), false, none⟩,
  ⟨none, (.store 3 (.tmp 6) (.tmp 17)), false, none⟩,
  ⟨some 7, (.mov (.const (.int .i64 36))), false, none⟩]
def c26_3 : ACode := (.region o26_2 [6, 7])
def w26_3 (_P : Program) (Q : Exit → Slots → Mem → Prop) (M : Mem) (v3 : V) (v6 : V) : Prop :=
  @OptVH (loadV 3 true v3 M) ⟨fun t17_1 =>
  @OptMH (storeVM 3 v6 t17_1 M) ⟨fun _tx_2 M2 =>
  Q .normal [(6, v6), (7, (.int .i64 36))] M2⟩⟩
theorem e26_3 (P : Program) (Q : Exit → Slots → Mem → Prop) (s : Slots) (M : Mem) : wpC P c26_3 Q s M = w26_3 P Q M (sget s 3) (sget s 6) := by kernel_rfl
def c26_4 : ACode := (.seq c26_3 .ret)
def o26_5 : List AOper := [⟨some 8, (.mov (.tmp 1)), false, none⟩,
  ⟨some 9, (.bin .lss .none (.tmp 8) (.const (.int .i64 0))), true, none⟩,
  ⟨some 10, (.mov (.tmp 9)), true, none⟩,
  ⟨some 11, (.mov (.tmp 1)), false, some (10, false)⟩,
  ⟨some 12, (.fieldAddr 1 (.tmp 3)), false, some (10, false)⟩,
  ⟨some 13, (.load 1 false (.tmp 12)), false, some (10, false)⟩,
  ⟨some 14, (.lenSl (.tmp 13)), false, some (10, false)⟩,
  ⟨some 15, (.bin .geq .none (.tmp 11) (.tmp 14)), true, some (10, false)⟩,
  ⟨some 16, (.pick (.tmp 10) (.const (.bool true)) (.tmp 15)), true, none⟩]
def c26_6 : ACode := (.seq (.region o26_5 [1, 2, 3, 6, 16]) (.cond (.tmp 16) c26_4 .skip))
def w26_6 (P : Program) (Q : Exit → Slots → Mem → Prop) (M : Mem) (v1 : V) (v2 : V) (v3 : V) (v6 : V) : Prop :=
  @OptBH (binV .lss .none v1 (.int .i64 0)) ⟨fun b9_2 =>
  @BIfH b9_2
  ⟨wpC P c26_4 Q [(1, v1), (2, v2), (3, v3), (6, v6), (16, (.bool true))] M⟩
  ⟨@OptVH (moveV 1 v3) ⟨fun t12_6 =>
  @OptVH (loadV 1 false t12_6 M) ⟨fun t13_7 =>
  @OptVH (lenV t13_7 M) ⟨fun t14_8 =>
  @OptBH (binV .geq .none v1 t14_8) ⟨fun b15_9 =>
  @BIfH b15_9
  ⟨wpC P c26_4 Q [(1, v1), (2, v2), (3, v3), (6, v6), (16, (.bool b15_9))] M⟩
  ⟨Q .normal [(1, v1), (2, v2), (3, v3), (6, v6), (16, (.bool b15_9))] M⟩⟩⟩⟩⟩⟩⟩
theorem e26_6 (P : Program) (Q : Exit → Slots → Mem → Prop) (s : Slots) (M : Mem) : wpC P c26_6 Q s M = w26_6 P Q M (sget s 1) (sget s 2) (sget s 3) (sget s 6) := by kernel_rfl
def o26_7 : List AOper := [⟨some 21, (.load 3 true (.tmp 3)), false, none⟩,
  ⟨none, (.store 3 (.tmp 6) (.tmp 21)), false, none⟩,
  ⟨some 7, (.mov (.const (.int .i64 10))), false, none⟩]
def c26_8 : ACode := (.region o26_7 [6, 7])
def w26_8 (_P : Program) (Q : Exit → Slots → Mem → Prop) (M : Mem) (v3 : V) (v6 : V) : Prop :=
  @OptVH (loadV 3 true v3 M) ⟨fun t21_1 =>
  @OptMH (storeVM 3 v6 t21_1 M) ⟨fun _tx_2 M2 =>
  Q .normal [(6, v6), (7, (.int .i64 10))] M2⟩⟩
theorem e26_8 (P : Program) (Q : Exit → Slots → Mem → Prop) (s : Slots) (M : Mem) : wpC P c26_8 Q s M = w26_8 P Q M (sget s 3) (sget s 6) := by kernel_rfl
def c26_9 : ACode := (.seq c26_8 .ret)
def o26_10 : List AOper := [⟨some 18, (.mov (.tmp 2)), false, none⟩,
  ⟨some 19, (.call i_transitref32_moment [(.tmp 18)]), true, none⟩,
  ⟨some 20, (.un .not (.tmp 19)), true, none⟩]
def c26_11 : ACode := (.seq (.region o26_10 [1, 2, 3, 6, 20]) (.cond (.tmp 20) c26_9 .skip))
def w26_11 (P : Program) (Q : Exit → Slots → Mem → Prop) (M : Mem) (v1 : V) (v2 : V) (v3 : V) (v6 : V) : Prop :=
  @CallH P i_transitref32_moment [v2] M ⟨fun t19_2 M2 => @OptBH (some t19_2) ⟨fun b19_2 =>
  @OptBH (unV .not (.bool b19_2)) ⟨fun b20_3 =>
  @BIfH b20_3
  ⟨wpC P c26_9 Q [(1, v1), (2, v2), (3, v3), (6, v6), (20, (.bool b20_3))] M2⟩
  ⟨Q .normal [(1, v1), (2, v2), (3, v3), (6, v6), (20, (.bool b20_3))] M2⟩⟩⟩⟩
theorem e26_11 (P : Program) (Q : Exit → Slots → Mem → Prop) (s : Slots) (M : Mem) : wpC P c26_11 Q s M = w26_11 P Q M (sget s 1) (sget s 2) (sget s 3) (sget s 6) := by kernel_rfl
def o26_12 : List AOper := [⟨some 22, (.fieldAddr 0 (.tmp 3)), false, none⟩,
  ⟨some 23, (.load 1 false (.tmp 22)), false, none⟩,
  ⟨some 24, (.fieldAddr 1 (.tmp 3)), false, none⟩,
  ⟨some 25, (.load 1 false (.tmp 24)), false, none⟩,
  ⟨some 26, (.mov (.tmp 1)), false, none⟩,
  ⟨some 27, (.mov (.tmp 2)), false, none⟩,
  ⟨some 28, (.call i_transitref32_heard [(.tmp 25), (.tmp 26), (.tmp 27), (.const (.int .i64 0))]), false, none⟩,
  ⟨some 29, (.fieldAddr 2 (.tmp 3)), false, none⟩,
  ⟨some 30, (.load 1 false (.tmp 29)), false, none⟩,
  ⟨some 31, (.build [(.int .i64 0), (.slice [] .nil), (.slice [] .nil)] [(0, (1, (.tmp 23))), (1, (1, (.tmp 28))), (2, (1, (.tmp 30)))]), false, none⟩,
  ⟨none, (.store 3 (.tmp 6) (.tmp 31)), false, none⟩,
  ⟨some 7, (.mov (.const (.int .i64 0))), false, none⟩]
def c26_13 : ACode := (.mixed o26_12 [true, true, true, true, true, true, true, true, true, true, false, true] [6, 7])
def w26_13 (P : Program) (Q : Exit → Slots → Mem → Prop) (M : Mem) (v1 : V) (v2 : V) (v3 : V) (v6 : V) : Prop :=
  @OptVH (moveV 0 v3) ⟨fun t22_1 =>
  @OptVH (loadV 1 false t22_1 M) ⟨fun t23_2 =>
  @OptVH (moveV 1 v3) ⟨fun t24_3 =>
  @OptVH (loadV 1 false t24_3 M) ⟨fun t25_4 =>
  @CallQ P i_transitref32_heard [t25_4, v1, v2, (.int .i64 0)] M ⟨fun t28_7 M7 =>
  @OptVH (moveV 2 v3) ⟨fun t29_8 =>
  @OptVH (loadV 1 false t29_8 M7) ⟨fun t30_9 =>
  @OptVH (buildV [(.int .i64 0), (.slice [] .nil), (.slice [] .nil)] [(0, 1, t23_2), (1, 1, t28_7), (2, 1, t30_9)]) ⟨fun t31_10 =>
  @OptMH (storeVM 3 v6 t31_10 M7) ⟨fun _tx_11 M11 =>
  Q .normal [(6, v6), (7, (.int .i64 0))] M11⟩⟩⟩⟩⟩⟩⟩⟩⟩
theorem e26_13 (P : Program) (Q : Exit → Slots → Mem → Prop) (s : Slots) (M : Mem) : wpC P c26_13 Q s M = w26_13 P Q M (sget s 1) (sget s 2) (sget s 3) (sget s 6) := by kernel_rfl
def c26_14 : ACode := (.seq c26_13 .ret)
def c26_15 : ACode := (.seq c26_11 c26_14)
def c26_16 : ACode := (.seq c26_6 c26_15)
def c26_17 : ACode := (.seq c26_1 c26_16)
def fn_transitref32_Heartbeat : AFn := ⟨32, [(.cell 6 3 true), (.tmp 7)], c26_17⟩
theorem fn_transitref32_Heartbeat_ok : resFn PR h_transitref32_Heartbeat i_transitref32_Heartbeat = some fn_transitref32_Heartbeat := by kernel_rfl

def h_transitlaw32_same : Hints := ⟨[(0, [0, 2, 3, 5]), (1, [0, 2, 3, 5, 9]), (2, [0, 2, 3, 5, 9, 19]), (3, [0, 2, 3, 5, 9]), (4, [0, 2, 3, 5, 9, 10, 11]), (5, [0, 2, 3, 5, 9, 10, 11, 12, 13]), (6, [0, 2, 3, 5, 9, 52]), (7, [8]), (8, [0, 2, 3, 5, 14, 15]), (9, [0, 2, 3, 5, 14, 15, 16, 17]), (10, [8])], [(2, [0, 2, 3, 5, 9])], []⟩
def o27_0 : List AOper := [⟨some 5, (.box 3 (.tmp 1)), false, none⟩,
  ⟨some 8, (.mov (.const (.bool false))), true, none⟩]
def c27_1 : ACode := (.region o27_0 [0, 2, 3, 5])
def w27_1 (_P : Program) (Q : Exit → Slots → Mem → Prop) (M : Mem) (v0 : V) (v1 : V) (v2 : V) (v3 : V) : Prop :=
  @OptMH (boxV 3 v1 M) ⟨fun t5_1 M1 =>
  Q .normal [(0, v0), (2, v2), (3, v3), (5, t5_1)] M1⟩
theorem e27_1 (P : Program) (Q : Exit → Slots → Mem → Prop) (s : Slots) (M : Mem) : wpC P c27_1 Q s M = w27_1 P Q M (sget s 0) (sget s 1) (sget s 2) (sget s 3) := by kernel_rfl
def o27_2 : List AOper := [⟨some 9, (.mov (.const (.int .i64 (-1)))), false, none⟩]
def c27_3 : ACode := (.region o27_2 [0, 2, 3, 5, 9])
def w27_3 (_P : Program) (Q : Exit → Slots → Mem → Prop) (M : Mem) (v0 : V) (v2 : V) (v3 : V) (v5 : V) : Prop :=
  Q .normal [(0, v0), (2, v2), (3, v3), (5, v5), (9, (.int .i64 (-1)))] M
theorem e27_3 (P : Program) (Q : Exit → Slots → Mem → Prop) (s : Slots) (M : Mem) : wpC P c27_3 Q s M = w27_3 P Q M (sget s 0) (sget s 2) (sget s 3) (sget s 5) := by kernel_rfl
def o27_4 : List AOper := [⟨some 18, (.mov (.tmp 9)), false, none⟩,
  ⟨some 19, (.bin .lss .none (.tmp 18) (.const (.int .i64 9))), true, none⟩]
def c27_5 : ACode := (.seq (.region o27_4 [0, 2, 3, 5, 9, 19]) (.cond (.tmp 19) .skip (.exit 0)))
def w27_5 (_P : Program) (Q : Exit → Slots → Mem → Prop) (M : Mem) (v0 : V) (v2 : V) (v3 : V) (v5 : V) (v9 : V) : Prop :=
  @OptBH (binV .lss .none v9 (.int .i64 9)) ⟨fun b19_2 =>
  @BIfH b19_2
  ⟨Q .normal [(0, v0), (2, v2), (3, v3), (5, v5), (9, v9), (19, (.bool b19_2))] M⟩
  ⟨Q (.exit 0) [(0, v0), (2, v2), (3, v3), (5, v5), (9, v9), (19, (.bool b19_2))] M⟩⟩
theorem e27_5 (P : Program) (Q : Exit → Slots → Mem → Prop) (s : Slots) (M : Mem) : wpC P c27_5 Q s M = w27_5 P Q M (sget s 0) (sget s 2) (sget s 3) (sget s 5) (sget s 9) := by kernel_rfl
def o27_6 : List AOper := [⟨some 23, (.mov (.tmp 0)), false, none⟩,
  ⟨some 24, (.mov (.tmp 9)), false, none⟩,
  ⟨some 25, (.call i_inbox_Inbox_Sequence [(.tmp 23), (.tmp 24)]), false, none⟩,
  ⟨some 22, (.mov (.tmp 25)), false, none⟩,
  ⟨some 26, (.extract (.tmp 22) 0), false, none⟩,
  ⟨some 27, (.extract (.tmp 22) 1), true, none⟩,
  ⟨some 10, (.mov (.tmp 26)), false, none⟩,
  ⟨some 11, (.mov (.tmp 27)), true, none⟩]
def c27_7 : ACode := (.region o27_6 [0, 2, 3, 5, 9, 10, 11])
def w27_7 (P : Program) (Q : Exit → Slots → Mem → Prop) (M : Mem) (v0 : V) (v2 : V) (v3 : V) (v5 : V) (v9 : V) : Prop :=
  @CallH P i_inbox_Inbox_Sequence [v0, v9] M ⟨fun t25_3 M3 =>
  @OptVH (extractV t25_3 0) ⟨fun t26_5 =>
  @OptBH (extractV t25_3 1) ⟨fun b27_6 =>
  Q .normal [(0, v0), (2, v2), (3, v3), (5, v5), (9, v9), (10, t26_5), (11, (.bool b27_6))] M3⟩⟩⟩
theorem e27_7 (P : Program) (Q : Exit → Slots → Mem → Prop) (s : Slots) (M : Mem) : wpC P c27_7 Q s M = w27_7 P Q M (sget s 0) (sget s 2) (sget s 3) (sget s 5) (sget s 9) := by kernel_rfl
def o27_8 : List AOper := [⟨some 29, (.load 3 true (.tmp 5)), false, none⟩,
  ⟨some 30, (.mov (.tmp 9)), false, none⟩,
  ⟨some 31, (.call i_transitref32_Sequence [(.tmp 29), (.tmp 30)]), false, none⟩,
  ⟨some 28, (.mov (.tmp 31)), false, none⟩,
  ⟨some 32, (.extract (.tmp 28) 0), false, none⟩,
  ⟨some 33, (.extract (.tmp 28) 1), true, none⟩,
  ⟨some 12, (.mov (.tmp 32)), false, none⟩,
  ⟨some 13, (.mov (.tmp 33)), true, none⟩]
def c27_9 : ACode := (.region o27_8 [0, 2, 3, 5, 9, 10, 11, 12, 13])
def w27_9 (P : Program) (Q : Exit → Slots → Mem → Prop) (M : Mem) (v0 : V) (v2 : V) (v3 : V) (v5 : V) (v9 : V) (v10 : V) (v11 : V) : Prop :=
  @OptVH (loadV 3 true v5 M) ⟨fun t29_1 =>
  @CallH P i_transitref32_Sequence [t29_1, v9] M ⟨fun t31_3 M3 =>
  @OptVH (extractV t31_3 0) ⟨fun t32_5 =>
  @OptBH (extractV t31_3 1) ⟨fun b33_6 =>
  Q .normal [(0, v0), (2, v2), (3, v3), (5, v5), (9, v9), (10, v10), (11, v11), (12, t32_5), (13, (.bool b33_6))] M3⟩⟩⟩⟩
theorem e27_9 (P : Program) (Q : Exit → Slots → Mem → Prop) (s : Slots) (M : Mem) : wpC P c27_9 Q s M = w27_9 P Q M (sget s 0) (sget s 2) (sget s 3) (sget s 5) (sget s 9) (sget s 10) (sget s 11) := by kernel_rfl
def o27_10 : List AOper := [⟨some 8, (.mov (.const (.bool false))), true, none⟩]
def c27_11 : ACode := (.region o27_10 [8])
def w27_11 (_P : Program) (Q : Exit → Slots → Mem → Prop) (M : Mem) : Prop :=
  Q .normal [(8, (.bool false))] M
theorem e27_11 (P : Program) (Q : Exit → Slots → Mem → Prop) (s : Slots) (M : Mem) : wpC P c27_11 Q s M = w27_11 P Q M := by kernel_rfl
def c27_12 : ACode := (.seq c27_11 .ret)
def o27_13 : List AOper := [⟨some 34, (.mov (.tmp 10)), false, none⟩,
  ⟨some 35, (.mov (.tmp 12)), false, none⟩,
  ⟨some 36, (.bin .neq .none (.tmp 34) (.tmp 35)), true, none⟩,
  ⟨some 37, (.mov (.tmp 36)), true, none⟩,
  ⟨some 38, (.mov (.tmp 11)), true, some (37, false)⟩,
  ⟨some 39, (.mov (.tmp 13)), true, some (37, false)⟩,
  ⟨some 40, (.bin .neq .bool (.tmp 38) (.tmp 39)), true, some (37, false)⟩,
  ⟨some 41, (.pick (.tmp 37) (.const (.bool true)) (.tmp 40)), true, none⟩,
  ⟨some 42, (.mov (.tmp 41)), true, none⟩,
  ⟨some 43, (.mov (.tmp 0)), false, some (42, false)⟩,
  ⟨some 44, (.mov (.tmp 9)), false, some (42, false)⟩,
  ⟨some 45, (.mov (.tmp 3)), false, some (42, false)⟩,
  ⟨some 46, (.call i_inbox_Inbox_Failed [(.tmp 43), (.tmp 44), (.tmp 45)]), true, some (42, false)⟩,
  ⟨some 47, (.load 3 true (.tmp 5)), false, some (42, false)⟩,
  ⟨some 48, (.mov (.tmp 9)), false, some (42, false)⟩,
  ⟨some 49, (.mov (.tmp 3)), false, some (42, false)⟩,
  ⟨some 50, (.call i_transitref32_Failed [(.tmp 47), (.tmp 48), (.tmp 49)]), true, some (42, false)⟩,
  ⟨some 51, (.bin .neq .bool (.tmp 46) (.tmp 50)), true, some (42, false)⟩,
  ⟨some 52, (.pick (.tmp 42) (.const (.bool true)) (.tmp 51)), true, none⟩]
def c27_14 : ACode := (.seq (.mixed o27_13 [true, true, true, true, true, true, true, true, true, true, true, true, true, true, true, true, false, true, true] [0, 2, 3, 5, 9, 52]) (.cond (.tmp 52) c27_12 .skip))
def w27_14 (P : Program) (Q : Exit → Slots → Mem → Prop) (M : Mem) (v0 : V) (v2 : V) (v3 : V) (v5 : V) (v9 : V) (v10 : V) (v11 : V) (v12 : V) (v13 : V) : Prop :=
  @OptBH (binV .neq .none v10 v12) ⟨fun b36_3 =>
  @BIfH b36_3
  ⟨wpC P c27_12 Q [(0, v0), (2, v2), (3, v3), (5, v5), (9, v9), (52, (.bool true))] M⟩
  ⟨@OptBH (some v11) ⟨fun b38_8 =>
  @OptBH (some v13) ⟨fun b39_9 =>
  @OptBH (binV .neq .bool (.bool b38_8) (.bool b39_9)) ⟨fun b40_10 =>
  @BIfH b40_10
  ⟨wpC P c27_12 Q [(0, v0), (2, v2), (3, v3), (5, v5), (9, v9), (52, (.bool true))] M⟩
  ⟨@CallQ P i_inbox_Inbox_Failed [v0, v9, v3] M ⟨fun t46_17 M17 => @OptBH (some t46_17) ⟨fun b46_17 =>
  @OptVH (loadV 3 true v5 M17) ⟨fun t47_18 =>
  @CallH P i_transitref32_Failed [t47_18, v9, v3] M17 ⟨fun t50_21 M21 => @OptBH (some t50_21) ⟨fun b50_21 =>
  @OptBH (binV .neq .bool (.bool b46_17) (.bool b50_21)) ⟨fun b51_22 =>
  @BIfH b51_22
  ⟨wpC P c27_12 Q [(0, v0), (2, v2), (3, v3), (5, v5), (9, v9), (52, (.bool b51_22))] M21⟩
  ⟨Q .normal [(0, v0), (2, v2), (3, v3), (5, v5), (9, v9), (52, (.bool b51_22))] M21⟩⟩⟩⟩⟩⟩⟩⟩⟩⟩⟩⟩⟩
theorem e27_14 (P : Program) (Q : Exit → Slots → Mem → Prop) (s : Slots) (M : Mem) : wpC P c27_14 Q s M = w27_14 P Q M (sget s 0) (sget s 2) (sget s 3) (sget s 5) (sget s 9) (sget s 10) (sget s 11) (sget s 12) (sget s 13) := by kernel_rfl
def c27_15 : ACode := (.seq c27_9 c27_14)
def c27_16 : ACode := (.seq c27_7 c27_15)
def c27_17 : ACode := (.block 1 c27_16)
def o27_18 : List AOper := [⟨some 20, (.mov (.tmp 9)), false, none⟩,
  ⟨some 21, (.bin .add .none (.tmp 20) (.const (.int .i64 1))), false, none⟩,
  ⟨some 9, (.mov (.tmp 21)), false, none⟩]
def c27_19 : ACode := (.region o27_18 [0, 2, 3, 5, 9])
def w27_19 (_P : Program) (Q : Exit → Slots → Mem → Prop) (M : Mem) (v0 : V) (v2 : V) (v3 : V) (v5 : V) (v9 : V) : Prop :=
  @OptVH (binV .add .none v9 (.int .i64 1)) ⟨fun t21_2 =>
  Q .normal [(0, v0), (2, v2), (3, v3), (5, v5), (9, t21_2)] M⟩
theorem e27_19 (P : Program) (Q : Exit → Slots → Mem → Prop) (s : Slots) (M : Mem) : wpC P c27_19 Q s M = w27_19 P Q M (sget s 0) (sget s 2) (sget s 3) (sget s 5) (sget s 9) := by kernel_rfl
def c27_20 : ACode := (.seq c27_17 c27_19)
def c27_21 : ACode := (.seq c27_5 c27_20)
def c27_22 : ACode := (.loop [0, 2, 3, 5, 9] c27_21)
def c27_23 : ACode := (.block 0 c27_22)
def c27_24 : ACode := (.seq c27_3 c27_23)
def o27_25 : List AOper := [⟨some 54, (.mov (.tmp 0)), false, none⟩,
  ⟨some 55, (.mov (.tmp 2)), false, none⟩,
  ⟨some 56, (.call i_inbox_Inbox_Sequence [(.tmp 54), (.tmp 55)]), false, none⟩,
  ⟨some 53, (.mov (.tmp 56)), false, none⟩,
  ⟨some 57, (.extract (.tmp 53) 0), false, none⟩,
  ⟨some 58, (.extract (.tmp 53) 1), true, none⟩,
  ⟨some 14, (.mov (.tmp 57)), false, none⟩,
  ⟨some 15, (.mov (.tmp 58)), true, none⟩]
def c27_26 : ACode := (.region o27_25 [0, 2, 3, 5, 14, 15])
def w27_26 (P : Program) (Q : Exit → Slots → Mem → Prop) (M : Mem) (v0 : V) (v2 : V) (v3 : V) (v5 : V) : Prop :=
  @CallH P i_inbox_Inbox_Sequence [v0, v2] M ⟨fun t56_3 M3 =>
  @OptVH (extractV t56_3 0) ⟨fun t57_5 =>
  @OptBH (extractV t56_3 1) ⟨fun b58_6 =>
  Q .normal [(0, v0), (2, v2), (3, v3), (5, v5), (14, t57_5), (15, (.bool b58_6))] M3⟩⟩⟩
theorem e27_26 (P : Program) (Q : Exit → Slots → Mem → Prop) (s : Slots) (M : Mem) : wpC P c27_26 Q s M = w27_26 P Q M (sget s 0) (sget s 2) (sget s 3) (sget s 5) := by kernel_rfl
def o27_27 : List AOper := [⟨some 60, (.load 3 true (.tmp 5)), false, none⟩,
  ⟨some 61, (.mov (.tmp 2)), false, none⟩,
  ⟨some 62, (.call i_transitref32_Sequence [(.tmp 60), (.tmp 61)]), false, none⟩,
  ⟨some 59, (.mov (.tmp 62)), false, none⟩,
  ⟨some 63, (.extract (.tmp 59) 0), false, none⟩,
  ⟨some 64, (.extract (.tmp 59) 1), true, none⟩,
  ⟨some 16, (.mov (.tmp 63)), false, none⟩,
  ⟨some 17, (.mov (.tmp 64)), true, none⟩]
def c27_28 : ACode := (.region o27_27 [0, 2, 3, 5, 14, 15, 16, 17])
def w27_28 (P : Program) (Q : Exit → Slots → Mem → Prop) (M : Mem) (v0 : V) (v2 : V) (v3 : V) (v5 : V) (v14 : V) (v15 : V) : Prop :=
  @OptVH (loadV 3 true v5 M) ⟨fun t60_1 =>
  @CallH P i_transitref32_Sequence [t60_1, v2] M ⟨fun t62_3 M3 =>
  @OptVH (extractV t62_3 0) ⟨fun t63_5 =>
  @OptBH (extractV t62_3 1) ⟨fun b64_6 =>
  Q .normal [(0, v0), (2, v2), (3, v3), (5, v5), (14, v14), (15, v15), (16, t63_5), (17, (.bool b64_6))] M3⟩⟩⟩⟩
theorem e27_28 (P : Program) (Q : Exit → Slots → Mem → Prop) (s : Slots) (M : Mem) : wpC P c27_28 Q s M = w27_28 P Q M (sget s 0) (sget s 2) (sget s 3) (sget s 5) (sget s 14) (sget s 15) := by kernel_rfl
def o27_29 : List AOper := [⟨some 65, (.mov (.tmp 14)), false, none⟩,
  ⟨some 66, (.mov (.tmp 16)), false, none⟩,
  ⟨some 67, (.bin .eql .none (.tmp 65) (.tmp 66)), true, none⟩,
  ⟨some 68, (.mov (.tmp 67)), true, none⟩,
  ⟨some 69, (.mov (.tmp 15)), true, some (68, true)⟩,
  ⟨some 70, (.mov (.tmp 17)), true, some (68, true)⟩,
  ⟨some 71, (.bin .eql .bool (.tmp 69) (.tmp 70)), true, some (68, true)⟩,
  ⟨some 72, (.pick (.tmp 68) (.tmp 71) (.const (.bool false))), true, none⟩,
  ⟨some 73, (.mov (.tmp 72)), true, none⟩,
  ⟨some 74, (.mov (.tmp 0)), false, some (73, true)⟩,
  ⟨some 75, (.mov (.tmp 2)), false, some (73, true)⟩,
  ⟨some 76, (.mov (.tmp 3)), false, some (73, true)⟩,
  ⟨some 77, (.call i_inbox_Inbox_Failed [(.tmp 74), (.tmp 75), (.tmp 76)]), true, some (73, true)⟩,
  ⟨some 78, (.load 3 true (.tmp 5)), false, some (73, true)⟩,
  ⟨some 79, (.mov (.tmp 2)), false, some (73, true)⟩,
  ⟨some 80, (.mov (.tmp 3)), false, some (73, true)⟩,
  ⟨some 81, (.call i_transitref32_Failed [(.tmp 78), (.tmp 79), (.tmp 80)]), true, some (73, true)⟩,
  ⟨some 82, (.bin .eql .bool (.tmp 77) (.tmp 81)), true, some (73, true)⟩,
  ⟨some 83, (.pick (.tmp 73) (.tmp 82) (.const (.bool false))), true, none⟩,
  ⟨some 84, (.mov (.tmp 83)), true, none⟩,
  ⟨some 85, (.mov (.tmp 0)), false, some (84, true)⟩,
  ⟨some 86, (.call i_inbox_Inbox_Messages [(.tmp 85)]), false, some (84, true)⟩,
  ⟨some 87, (.fieldAddr 2 (.tmp 5)), false, some (84, true)⟩,
  ⟨some 88, (.load 1 false (.tmp 87)), false, some (84, true)⟩,
  ⟨some 89, (.call i_transitref32_Same [(.tmp 86), (.tmp 88)]), true, some (84, true)⟩,
  ⟨some 90, (.pick (.tmp 84) (.tmp 89) (.const (.bool false))), true, none⟩,
  ⟨some 91, (.mov (.tmp 90)), true, none⟩,
  ⟨some 92, (.mov (.tmp 0)), false, some (91, true)⟩,
  ⟨some 93, (.mov (.tmp 3)), false, some (91, true)⟩,
  ⟨some 94, (.call i_inbox_Inbox_Active [(.tmp 92), (.tmp 93)]), false, some (91, true)⟩,
  ⟨some 95, (.load 3 true (.tmp 5)), false, some (91, true)⟩,
  ⟨some 96, (.mov (.tmp 3)), false, some (91, true)⟩,
  ⟨some 97, (.call i_transitref32_Active [(.tmp 95), (.tmp 96)]), false, some (91, true)⟩,
  ⟨some 98, (.call i_transitref32_Same [(.tmp 94), (.tmp 97)]), true, some (91, true)⟩,
  ⟨some 99, (.pick (.tmp 91) (.tmp 98) (.const (.bool false))), true, none⟩,
  ⟨some 8, (.mov (.tmp 99)), true, none⟩]
def c27_30 : ACode := (.mixed o27_29 [true, true, true, true, true, true, true, true, true, true, true, true, true, true, true, true, false, true, true, true, true, true, true, true, false, true, true, true, true, true, true, true, false, false, true, true] [8])
def w27_30 (P : Program) (Q : Exit → Slots → Mem → Prop) (M : Mem) (v0 : V) (v2 : V) (v3 : V) (v5 : V) (v14 : V) (v15 : V) (v16 : V) (v17 : V) : Prop :=
  @OptBH (binV .eql .none v14 v16) ⟨fun b67_3 =>
  @BIfH b67_3
  ⟨@OptBH (some v15) ⟨fun b69_5 =>
  @OptBH (some v17) ⟨fun b70_6 =>
  @OptBH (binV .eql .bool (.bool b69_5) (.bool b70_6)) ⟨fun b71_7 =>
  @BIfH b71_7
  ⟨@CallQ P i_inbox_Inbox_Failed [v0, v2, v3] M ⟨fun t77_13 M13 => @OptBH (some t77_13) ⟨fun b77_13 =>
  @OptVH (loadV 3 true v5 M13) ⟨fun t78_14 =>
  @CallH P i_transitref32_Failed [t78_14, v2, v3] M13 ⟨fun t81_17 M17 => @OptBH (some t81_17) ⟨fun b81_17 =>
  @OptBH (binV .eql .bool (.bool b77_13) (.bool b81_17)) ⟨fun b82_18 =>
  @BIfH b82_18
  ⟨@CallQ P i_inbox_Inbox_Messages [v0] M17 ⟨fun t86_22 M22 =>
  @OptVH (moveV 2 v5) ⟨fun t87_23 =>
  @OptVH (loadV 1 false t87_23 M22) ⟨fun t88_24 =>
  @CallH P i_transitref32_Same [t86_22, t88_24] M22 ⟨fun t89_25 M25 => @OptBH (some t89_25) ⟨fun b89_25 =>
  @BIfH b89_25
  ⟨@CallQ P i_inbox_Inbox_Active [v0, v3] M25 ⟨fun t94_30 M30 =>
  @OptVH (loadV 3 true v5 M30) ⟨fun t95_31 =>
  @CallH P i_transitref32_Active [t95_31, v3] M30 ⟨fun t97_33 M33 =>
  @CallH P i_transitref32_Same [t94_30, t97_33] M33 ⟨fun t98_34 M34 => @OptBH (some t98_34) ⟨fun b98_34 =>
  Q .normal [(8, (.bool b98_34))] M34⟩⟩⟩⟩⟩⟩
  ⟨Q .normal [(8, (.bool false))] M25⟩⟩⟩⟩⟩⟩⟩
  ⟨Q .normal [(8, (.bool false))] M17⟩⟩⟩⟩⟩⟩⟩⟩
  ⟨Q .normal [(8, (.bool false))] M⟩⟩⟩⟩⟩
  ⟨Q .normal [(8, (.bool false))] M⟩⟩
theorem e27_30 (P : Program) (Q : Exit → Slots → Mem → Prop) (s : Slots) (M : Mem) : wpC P c27_30 Q s M = w27_30 P Q M (sget s 0) (sget s 2) (sget s 3) (sget s 5) (sget s 14) (sget s 15) (sget s 16) (sget s 17) := by kernel_rfl
def c27_31 : ACode := (.seq c27_30 .ret)
def c27_32 : ACode := (.seq c27_28 c27_31)
def c27_33 : ACode := (.seq c27_26 c27_32)
def c27_34 : ACode := (.seq c27_24 c27_33)
def c27_35 : ACode := (.seq c27_1 c27_34)
def fn_transitlaw32_same : AFn := ⟨100, [(.tmp 8)], c27_35⟩
theorem fn_transitlaw32_same_ok : resFn PR h_transitlaw32_same i_transitlaw32_same = some fn_transitlaw32_same := by kernel_rfl

def h_inbox_Inbox_Sequence : Hints := ⟨[(0, [0, 1]), (1, [0, 1, 20]), (2, [4, 5]), (3, [4, 5])], [], []⟩
def o28_0 : List AOper := [⟨some 4, (.mov (.const (.int .i64 0))), false, none⟩,
  ⟨some 5, (.mov (.const (.bool false))), true, none⟩]
def c28_1 : ACode := (.region o28_0 [0, 1])
def w28_1 (_P : Program) (Q : Exit → Slots → Mem → Prop) (M : Mem) (v0 : V) (v1 : V) : Prop :=
  Q .normal [(0, v0), (1, v1)] M
theorem e28_1 (P : Program) (Q : Exit → Slots → Mem → Prop) (s : Slots) (M : Mem) : wpC P c28_1 Q s M = w28_1 P Q M (sget s 0) (sget s 1) := by kernel_rfl
def o28_2 : List AOper := [⟨some 4, (.mov (.const (.int .i64 0))), false, none⟩,
  ⟨some 5, (.mov (.const (.bool false))), true, none⟩]
def c28_3 : ACode := (.region o28_2 [4, 5])
def w28_3 (_P : Program) (Q : Exit → Slots → Mem → Prop) (M : Mem) : Prop :=
  Q .normal [(4, (.int .i64 0)), (5, (.bool false))] M
theorem e28_3 (P : Program) (Q : Exit → Slots → Mem → Prop) (s : Slots) (M : Mem) : wpC P c28_3 Q s M = w28_3 P Q M := by kernel_rfl
def c28_4 : ACode := (.seq c28_3 .ret)
def o28_5 : List AOper := [⟨some 6, (.mov (.tmp 0)), false, none⟩,
  ⟨some 7, (.mov (.tmp 1)), false, none⟩,
  ⟨some 8, (.call i_inbox_Inbox_exists [(.tmp 6), (.tmp 7)]), true, none⟩,
  ⟨some 9, (.un .not (.tmp 8)), true, none⟩,
  ⟨some 10, (.mov (.tmp 9)), true, none⟩,
  ⟨some 11, (.mov (.tmp 0)), false, some (10, false)⟩,
  ⟨some 12, (.nilCheck (.tmp 11)), false, some (10, false)⟩,
  ⟨some 13, (.fieldAddr 0 (.tmp 12)), false, some (10, false)⟩,
  ⟨some 14, (.load 1 false (.tmp 13)), false, some (10, false)⟩,
  ⟨some 15, (.mov (.tmp 1)), false, some (10, false)⟩,
  ⟨some 16, (.indexSl 4 (.tmp 14) (.tmp 15)), false, some (10, false)⟩,
  ⟨some 17, (.fieldAddr 2 (.tmp 16)), false, some (10, false)⟩,
  ⟨some 18, (.load 1 false (.tmp 17)), true, some (10, false)⟩,
  ⟨some 19, (.un .not (.tmp 18)), true, some (10, false)⟩,
  ⟨some 20, (.pick (.tmp 10) (.const (.bool true)) (.tmp 19)), true, none⟩]
def c28_6 : ACode := (.seq (.region o28_5 [0, 1, 20]) (.cond (.tmp 20) c28_4 .skip))
def w28_6 (P : Program) (Q : Exit → Slots → Mem → Prop) (M : Mem) (v0 : V) (v1 : V) : Prop :=
  @CallH P i_inbox_Inbox_exists [v0, v1] M ⟨fun t8_3 M3 => @OptBH (some t8_3) ⟨fun b8_3 =>
  @OptBH (unV .not (.bool b8_3)) ⟨fun b9_4 =>
  @BIfH b9_4
  ⟨wpC P c28_4 Q [(0, v0), (1, v1), (20, (.bool true))] M3⟩
  ⟨@OptVH (nilCheckV v0) ⟨fun t12_8 =>
  @OptVH (moveV 0 t12_8) ⟨fun t13_9 =>
  @OptVH (loadV 1 false t13_9 M3) ⟨fun t14_10 =>
  @OptVH (indexSlV 4 t14_10 v1 M3) ⟨fun t16_12 =>
  @OptVH (moveV 2 t16_12) ⟨fun t17_13 =>
  @OptBH (loadV 1 false t17_13 M3) ⟨fun b18_14 =>
  @OptBH (unV .not (.bool b18_14)) ⟨fun b19_15 =>
  @BIfH b19_15
  ⟨wpC P c28_4 Q [(0, v0), (1, v1), (20, (.bool b19_15))] M3⟩
  ⟨Q .normal [(0, v0), (1, v1), (20, (.bool b19_15))] M3⟩⟩⟩⟩⟩⟩⟩⟩⟩⟩⟩⟩
theorem e28_6 (P : Program) (Q : Exit → Slots → Mem → Prop) (s : Slots) (M : Mem) : wpC P c28_6 Q s M = w28_6 P Q M (sget s 0) (sget s 1) := by kernel_rfl
def o28_7 : List AOper := [⟨some 21, (.mov (.tmp 0)), false, none⟩,
  ⟨some 22, (.nilCheck (.tmp 21)), false, none⟩,
  ⟨some 23, (.fieldAddr 0 (.tmp 22)), false, none⟩,
  ⟨some 24, (.load 1 false (.tmp 23)), false, none⟩,
  ⟨some 25, (.mov (.tmp 1)), false, none⟩,
  ⟨some 26, (.indexSl 4 (.tmp 24) (.tmp 25)), false, none⟩,
  ⟨some 27, (.fieldAddr 3 (.tmp 26)), false, none⟩,
  ⟨some 28, (.load 1 false (.tmp 27)), false, none⟩,
  ⟨some 4, (.mov (.tmp 28)), false, none⟩,
  ⟨some 5, (.mov (.const (.bool true))), true, none⟩]
def c28_8 : ACode := (.region o28_7 [4, 5])
def w28_8 (_P : Program) (Q : Exit → Slots → Mem → Prop) (M : Mem) (v0 : V) (v1 : V) : Prop :=
  @OptVH (nilCheckV v0) ⟨fun t22_2 =>
  @OptVH (moveV 0 t22_2) ⟨fun t23_3 =>
  @OptVH (loadV 1 false t23_3 M) ⟨fun t24_4 =>
  @OptVH (indexSlV 4 t24_4 v1 M) ⟨fun t26_6 =>
  @OptVH (moveV 3 t26_6) ⟨fun t27_7 =>
  @OptVH (loadV 1 false t27_7 M) ⟨fun t28_8 =>
  Q .normal [(4, t28_8), (5, (.bool true))] M⟩⟩⟩⟩⟩⟩
theorem e28_8 (P : Program) (Q : Exit → Slots → Mem → Prop) (s : Slots) (M : Mem) : wpC P c28_8 Q s M = w28_8 P Q M (sget s 0) (sget s 1) := by kernel_rfl
def c28_9 : ACode := (.seq c28_8 .ret)
def c28_10 : ACode := (.seq c28_6 c28_9)
def c28_11 : ACode := (.seq c28_1 c28_10)
def fn_inbox_Inbox_Sequence : AFn := ⟨29, [(.tmp 4), (.tmp 5)], c28_11⟩
theorem fn_inbox_Inbox_Sequence_ok : resFn PR h_inbox_Inbox_Sequence i_inbox_Inbox_Sequence = some fn_inbox_Inbox_Sequence := by kernel_rfl

def h_transitref31_Supersedes : Hints := ⟨[(0, [2, 3]), (1, [4])], [], []⟩
def o29_0 : List AOper := [⟨some 2, (.box 13 (.tmp 0)), false, none⟩,
  ⟨some 3, (.box 13 (.tmp 1)), false, none⟩,
  ⟨some 4, (.mov (.const (.bool false))), true, none⟩]
def c29_1 : ACode := (.region o29_0 [2, 3])
def w29_1 (_P : Program) (Q : Exit → Slots → Mem → Prop) (M : Mem) (v0 : V) (v1 : V) : Prop :=
  @OptMH (boxV 13 v0 M) ⟨fun t2_1 M1 =>
  @OptMH (boxV 13 v1 M1) ⟨fun t3_2 M2 =>
  Q .normal [(2, t2_1), (3, t3_2)] M2⟩⟩
theorem e29_1 (P : Program) (Q : Exit → Slots → Mem → Prop) (s : Slots) (M : Mem) : wpC P c29_1 Q s M = w29_1 P Q M (sget s 0) (sget s 1) := by kernel_rfl
def o29_2 : List AOper := [⟨some 5, (.fieldAddr 0 (.tmp 2)), false, none⟩,
  ⟨some 6, (.load 1 false (.tmp 5)), false, none⟩,
  ⟨some 7, (.fieldAddr 0 (.tmp 3)), false, none⟩,
  ⟨some 8, (.load 1 false (.tmp 7)), false, none⟩,
  ⟨some 9, (.bin .eql .none (.tmp 6) (.tmp 8)), true, none⟩,
  ⟨some 10, (.mov (.tmp 9)), true, none⟩,
  ⟨some 11, (.load 13 true (.tmp 2)), false, some (10, true)⟩,
  ⟨some 12, (.load 13 true (.tmp 3)), false, some (10, true)⟩,
  ⟨some 13, (.call i_transitref31_SameTarget [(.tmp 11), (.tmp 12)]), true, some (10, true)⟩,
  ⟨some 14, (.pick (.tmp 10) (.tmp 13) (.const (.bool false))), true, none⟩,
  ⟨some 15, (.mov (.tmp 14)), true, none⟩,
  ⟨some 16, (.fieldAddr 1 (.tmp 2)), false, some (15, true)⟩,
  ⟨some 17, (.load 1 false (.tmp 16)), false, some (15, true)⟩,
  ⟨some 18, (.fieldAddr 1 (.tmp 3)), false, some (15, true)⟩,
  ⟨some 19, (.load 1 false (.tmp 18)), false, some (15, true)⟩,
  ⟨some 20, (.bin .gtr .none (.tmp 17) (.tmp 19)), true, some (15, true)⟩,
  ⟨some 21, (.pick (.tmp 15) (.tmp 20) (.const (.bool false))), true, none⟩,
  ⟨some 22, (.mov (.tmp 21)), true, none⟩,
  ⟨some 23, (.load 13 true (.tmp 2)), false, some (22, true)⟩,
  ⟨some 24, (.call i_transitref31_Status [(.tmp 23)]), true, some (22, true)⟩,
  ⟨some 25, (.mov (.tmp 24)), true, some (22, true)⟩,
  ⟨some 26, (.fieldAddr 4 (.tmp 2)), false, some (25, false)⟩,
  ⟨some 27, (.load 1 false (.tmp 26)), false, some (25, false)⟩,
  ⟨some 28, (.fieldAddr 4 (.tmp 3)), false, some (25, false)⟩,
  ⟨some 29, (.load 1 false (.tmp 28)), false, some (25, false)⟩,
  ⟨some 30, (.bin .eql .none (.tmp 27) (.tmp 29)), true, some (25, false)⟩,
  ⟨some 31, (.mov (.tmp 30)), true, some (25, false)⟩,
  ⟨some 32, (.fieldAddr 8 (.tmp 2)), false, some (31, true)⟩,
  ⟨some 33, (.load 1 false (.tmp 32)), false, some (31, true)⟩,
  ⟨some 34, (.fieldAddr 8 (.tmp 3)), false, some (31, true)⟩,
  ⟨some 35, (.load 1 false (.tmp 34)), false, some (31, true)⟩,
  ⟨some 36, (.bin .eql .none (.tmp 33) (.tmp 35)), true, some (31, true)⟩,
  ⟨some 37, (.pick (.tmp 31) (.tmp 36) (.const (.bool false))), true, some (25, false)⟩,
  ⟨some 38, (.pick (.tmp 25) (.const (.bool true)) (.tmp 37)), true, some (22, true)⟩,
  ⟨some 39, (.pick (.tmp 22) (.tmp 38) (.const (.bool false))), true, none⟩,
  ⟨some 4, (.mov (.tmp 39)), true, none⟩]
def c29_3 : ACode := (.region o29_2 [4])
def w29_3 (P : Program) (Q : Exit → Slots → Mem → Prop) (M : Mem) (v2 : V) (v3 : V) : Prop :=
  @OptVH (moveV 0 v2) ⟨fun t5_1 =>
  @OptVH (loadV 1 false t5_1 M) ⟨fun t6_2 =>
  @OptVH (moveV 0 v3) ⟨fun t7_3 =>
  @OptVH (loadV 1 false t7_3 M) ⟨fun t8_4 =>
  @OptBH (binV .eql .none t6_2 t8_4) ⟨fun b9_5 =>
  @BIfH b9_5
  ⟨@OptVH (loadV 13 true v2 M) ⟨fun t11_7 =>
  @OptVH (loadV 13 true v3 M) ⟨fun t12_8 =>
  @CallH P i_transitref31_SameTarget [t11_7, t12_8] M ⟨fun t13_9 M9 => @OptBH (some t13_9) ⟨fun b13_9 =>
  @BIfH b13_9
  ⟨@OptVH (moveV 1 v2) ⟨fun t16_12 =>
  @OptVH (loadV 1 false t16_12 M9) ⟨fun t17_13 =>
  @OptVH (moveV 1 v3) ⟨fun t18_14 =>
  @OptVH (loadV 1 false t18_14 M9) ⟨fun t19_15 =>
  @OptBH (binV .gtr .none t17_13 t19_15) ⟨fun b20_16 =>
  @BIfH b20_16
  ⟨@OptVH (loadV 13 true v2 M9) ⟨fun t23_19 =>
  @CallH P i_transitref31_Status [t23_19] M9 ⟨fun t24_20 M20 => @OptBH (some t24_20) ⟨fun b24_20 =>
  @BIfH b24_20
  ⟨Q .normal [(4, (.bool true))] M20⟩
  ⟨@OptVH (moveV 4 v2) ⟨fun t26_25 =>
  @OptVH (loadV 1 false t26_25 M20) ⟨fun t27_26 =>
  @OptVH (moveV 4 v3) ⟨fun t28_27 =>
  @OptVH (loadV 1 false t28_27 M20) ⟨fun t29_28 =>
  @OptBH (binV .eql .none t27_26 t29_28) ⟨fun b30_29 =>
  @BIfH b30_29
  ⟨@OptVH (moveV 8 v2) ⟨fun t32_31 =>
  @OptVH (loadV 1 false t32_31 M20) ⟨fun t33_32 =>
  @OptVH (moveV 8 v3) ⟨fun t34_33 =>
  @OptVH (loadV 1 false t34_33 M20) ⟨fun t35_34 =>
  @OptBH (binV .eql .none t33_32 t35_34) ⟨fun b36_35 =>
  Q .normal [(4, (.bool b36_35))] M20⟩⟩⟩⟩⟩⟩
  ⟨Q .normal [(4, (.bool false))] M20⟩⟩⟩⟩⟩⟩⟩⟩⟩⟩⟩
  ⟨Q .normal [(4, (.bool false))] M9⟩⟩⟩⟩⟩⟩⟩
  ⟨Q .normal [(4, (.bool false))] M9⟩⟩⟩⟩⟩⟩
  ⟨Q .normal [(4, (.bool false))] M⟩⟩⟩⟩⟩⟩
theorem e29_3 (P : Program) (Q : Exit → Slots → Mem → Prop) (s : Slots) (M : Mem) : wpC P c29_3 Q s M = w29_3 P Q M (sget s 2) (sget s 3) := by kernel_rfl
def c29_4 : ACode := (.seq c29_3 .ret)
def c29_5 : ACode := (.seq c29_1 c29_4)
def fn_transitref31_Supersedes : AFn := ⟨40, [(.tmp 4)], c29_5⟩
theorem fn_transitref31_Supersedes_ok : resFn PR h_transitref31_Supersedes i_transitref31_Supersedes = some fn_transitref31_Supersedes := by kernel_rfl

def h_inbox_Inbox_Clone : Hints := ⟨[(0, [0]), (1, [0, 5]), (2, [2]), (3, [0, 3]), (4, [2])], [], []⟩
def o30_0 : List AOper := [⟨some 2, (.mov (.const .nilp)), false, none⟩]
def c30_1 : ACode := (.region o30_0 [0])
def w30_1 (_P : Program) (Q : Exit → Slots → Mem → Prop) (M : Mem) (v0 : V) : Prop :=
  Q .normal [(0, v0)] M
theorem e30_1 (P : Program) (Q : Exit → Slots → Mem → Prop) (s : Slots) (M : Mem) : wpC P c30_1 Q s M = w30_1 P Q M (sget s 0) := by kernel_rfl
def o30_2 : List AOper := [⟨some 2, (.mov (.const .nilp)), false, none⟩]
def c30_3 : ACode := (.region o30_2 [2])
def w30_3 (_P : Program) (Q : Exit → Slots → Mem → Prop) (M : Mem) : Prop :=
  Q .normal [(2, .nilp)] M
theorem e30_3 (P : Program) (Q : Exit → Slots → Mem → Prop) (s : Slots) (M : Mem) : wpC P c30_3 Q s M = w30_3 P Q M := by kernel_rfl
def c30_4 : ACode := (.seq c30_3 .ret)
def o30_5 : List AOper := [⟨some 4, (.mov (.tmp 0)), false, none⟩,
  ⟨some 5, (.bin .eql .ptr (.tmp 4) (.const .nilp)), true, none⟩]
def c30_6 : ACode := (.seq (.region o30_5 [0, 5]) (.cond (.tmp 5) c30_4 .skip))
def w30_6 (P : Program) (Q : Exit → Slots → Mem → Prop) (M : Mem) (v0 : V) : Prop :=
  @OptBH (binV .eql .ptr v0 .nilp) ⟨fun b5_2 =>
  @BIfH b5_2
  ⟨wpC P c30_4 Q [(0, v0), (5, (.bool b5_2))] M⟩
  ⟨Q .normal [(0, v0), (5, (.bool b5_2))] M⟩⟩
theorem e30_6 (P : Program) (Q : Exit → Slots → Mem → Prop) (s : Slots) (M : Mem) : wpC P c30_6 Q s M = w30_6 P Q M (sget s 0) := by kernel_rfl
def o30_7 : List AOper := [⟨some 3, (.mov (.const (.slice [] .nil))), false, none⟩]
def c30_8 : ACode := (.region o30_7 [0, 3])
def w30_8 (_P : Program) (Q : Exit → Slots → Mem → Prop) (M : Mem) (v0 : V) : Prop :=
  Q .normal [(0, v0), (3, (.slice [] .nil))] M
theorem e30_8 (P : Program) (Q : Exit → Slots → Mem → Prop) (s : Slots) (M : Mem) : wpC P c30_8 Q s M = w30_8 P Q M (sget s 0) := by kernel_rfl
def o30_9 : List AOper := [⟨some 6, (.mov (.tmp 3)), false, none⟩,
  ⟨some 7, (.mov (.tmp 0)), false, none⟩,
  ⟨some 8, (.nilCheck (.tmp 7)), false, none⟩,
  ⟨some 9, (.fieldAddr 0 (.tmp 8)), false, none⟩,
  ⟨some 10, (.load 1 false (.tmp 9)), false, none⟩,
  ⟨some 12, (.mov (.tmp 0)), false, none⟩,
  ⟨some 13, (.nilCheck (.tmp 12)), false, none⟩,
  ⟨some 14, (.fieldAddr 1 (.tmp 13)), false, none⟩,
  ⟨some 15, (.load 1 false (.tmp 14)), false, none⟩,
  ⟨some 16, (.mov (.tmp 0)), false, none⟩,
  ⟨some 11, (.append false 4 32 (.tmp 6) (.tmp 10)), false, none⟩,
  ⟨some 17, (.call i_inbox_Inbox_Messages [(.tmp 16)]), false, none⟩,
  ⟨some 18, (.build [(.slice [] .nil), (.int .i64 0), (.slice [] .nil)] [(0, (1, (.tmp 11))), (1, (1, (.tmp 15))), (2, (1, (.tmp 17)))]), false, none⟩,
  ⟨some 19, (.box 3 (.tmp 18)), false, none⟩,
  ⟨some 2, (.mov (.tmp 19)), false, none⟩]
def c30_10 : ACode := (.float o30_9 [none, none, none, none, none, none, none, none, none, none, (some [5, 6, 7, 8, 9]), (some [5, 6, 7, 8]), none, (some []), none] [2])
def w30_10 (P : Program) (Q : Exit → Slots → Mem → Prop) (M : Mem) (v0 : V) (v3 : V) : Prop :=
  @OptVH (nilCheckV v0) ⟨fun t8_3 =>
  @OptVH (moveV 0 t8_3) ⟨fun t9_4 =>
  @OptVH (loadV 1 false t9_4 M) ⟨fun t10_5 =>
  @OptVH (nilCheckV v0) ⟨fun t13_7 =>
  @OptVH (moveV 1 t13_7) ⟨fun t14_8 =>
  @OptVH (loadV 1 false t14_8 M) ⟨fun t15_9 =>
  @OptMH (appV false 4 32 v3 t10_5 M) ⟨fun t11_11 M11 =>
  (some v0 = some v0 ∧ nilCheckV v0 = some t13_7 ∧ moveV 1 t13_7 = some t14_8 ∧ loadV 1 false t14_8 M11 = some t15_9 ∧ some v0 = some v0 ∧ True) ∧ (@CallH P i_inbox_Inbox_Messages [v0] M11 ⟨fun t17_12 M12 =>
  (some v0 = some v0 ∧ nilCheckV v0 = some t13_7 ∧ moveV 1 t13_7 = some t14_8 ∧ loadV 1 false t14_8 M12 = some t15_9 ∧ True) ∧ (@OptVH (buildV [(.slice [] .nil), (.int .i64 0), (.slice [] .nil)] [(0, 1, t11_11), (1, 1, t15_9), (2, 1, t17_12)]) ⟨fun t18_13 =>
  @OptMH (boxV 3 t18_13 M12) ⟨fun t19_14 M14 =>
  (True) ∧ (Q .normal [(2, t19_14)] M14)⟩⟩)⟩)⟩⟩⟩⟩⟩⟩⟩
theorem e30_10 (P : Program) (Q : Exit → Slots → Mem → Prop) (s : Slots) (M : Mem) : wpC P c30_10 Q s M = w30_10 P Q M (sget s 0) (sget s 3) := by kernel_rfl
def c30_11 : ACode := (.seq c30_10 .ret)
def c30_12 : ACode := (.seq c30_8 c30_11)
def c30_13 : ACode := (.seq c30_6 c30_12)
def c30_14 : ACode := (.seq c30_1 c30_13)
def fn_inbox_Inbox_Clone : AFn := ⟨20, [(.tmp 2)], c30_14⟩
theorem fn_inbox_Inbox_Clone_ok : resFn PR h_inbox_Inbox_Clone i_inbox_Inbox_Clone = some fn_inbox_Inbox_Clone := by kernel_rfl

def h_transitlaw32_message : Hints := ⟨[(0, [0, 1, 2, 3, 8]), (1, [8])], [], []⟩
def o31_0 : List AOper := [⟨some 8, (.alloc [(.int .i64 0), (.int .i64 0), (.int .i64 0), (.int .i64 0), (.int .i64 0), (.str []), (.int .i64 0), (.int .i64 0), (.int .i64 0), (.int .i64 0), (.int .i64 0), (.bool false), (.slice [] .nil)]), false, none⟩]
def c31_1 : ACode := (.region o31_0 [0, 1, 2, 3, 8])
def w31_1 (_P : Program) (Q : Exit → Slots → Mem → Prop) (M : Mem) (v0 : V) (v1 : V) (v2 : V) (v3 : V) : Prop :=
  @OptMH (allocV [(.int .i64 0), (.int .i64 0), (.int .i64 0), (.int .i64 0), (.int .i64 0), (.str []), (.int .i64 0), (.int .i64 0), (.int .i64 0), (.int .i64 0), (.int .i64 0), (.bool false), (.slice [] .nil)] M) ⟨fun t8_1 M1 =>
  Q .normal [(0, v0), (1, v1), (2, v2), (3, v3), (8, t8_1)] M1⟩
theorem e31_1 (P : Program) (Q : Exit → Slots → Mem → Prop) (s : Slots) (M : Mem) : wpC P c31_1 Q s M = w31_1 P Q M (sget s 0) (sget s 1) (sget s 2) (sget s 3) := by kernel_rfl
def o31_2 : List AOper := [⟨some 9, (.mov (.tmp 0)), false, none⟩,
  ⟨some 10, (.mov (.tmp 1)), false, none⟩,
  ⟨some 11, (.mov (.tmp 2)), false, none⟩,
  ⟨some 12, (.mov (.tmp 3)), false, none⟩,
  ⟨some 13, (.build [(.int .i64 0), (.int .i64 0), (.int .i64 0), (.int .i64 0), (.int .i64 0), (.str []), (.int .i64 0), (.int .i64 0), (.int .i64 0), (.int .i64 0), (.int .i64 0), (.bool false), (.slice [] .nil)] [(0, (1, (.tmp 9))), (1, (1, (.tmp 10))), (2, (1, (.tmp 11))), (3, (1, (.tmp 12))), (4, (1, (.const (.int .i64 2)))), (5, (1, (.const (.str [84]))))]), false, none⟩,
  ⟨none, (.store 13 (.tmp 8) (.tmp 13)), false, none⟩]
def c31_3 : ACode := (.region o31_2 [8])
def w31_3 (_P : Program) (Q : Exit → Slots → Mem → Prop) (M : Mem) (v0 : V) (v1 : V) (v2 : V) (v3 : V) (v8 : V) : Prop :=
  @OptVH (buildV [(.int .i64 0), (.int .i64 0), (.int .i64 0), (.int .i64 0), (.int .i64 0), (.str []), (.int .i64 0), (.int .i64 0), (.int .i64 0), (.int .i64 0), (.int .i64 0), (.bool false), (.slice [] .nil)] [(0, 1, v0), (1, 1, v1), (2, 1, v2), (3, 1, v3), (4, 1, (.int .i64 2)), (5, 1, (.str [84]))]) ⟨fun t13_5 =>
  @OptMH (storeVM 13 v8 t13_5 M) ⟨fun _tx_6 M6 =>
  Q .normal [(8, v8)] M6⟩⟩
theorem e31_3 (P : Program) (Q : Exit → Slots → Mem → Prop) (s : Slots) (M : Mem) : wpC P c31_3 Q s M = w31_3 P Q M (sget s 0) (sget s 1) (sget s 2) (sget s 3) (sget s 8) := by kernel_rfl
def c31_4 : ACode := (.seq c31_3 .ret)
def c31_5 : ACode := (.seq c31_1 c31_4)
def fn_transitlaw32_message : AFn := ⟨14, [(.cell 8 13 true)], c31_5⟩
theorem fn_transitlaw32_message_ok : resFn PR h_transitlaw32_message i_transitlaw32_message = some fn_transitlaw32_message := by kernel_rfl

def h_inbox_Inbox_refusal : Hints := ⟨[(0, [0, 2, 4]), (1, [0, 2, 4, 14]), (2, [6]), (3, [0, 2, 4, 7]), (4, [0, 2, 4, 7, 18]), (5, [6]), (6, [0, 2, 4, 27]), (7, [6]), (8, [2, 4, 8]), (9, [50]), (10, [6]), (11, [6])], [], []⟩
def o32_0 : List AOper := [⟨some 4, (.box 13 (.tmp 1)), false, none⟩,
  ⟨some 6, (.mov (.const (.int .i64 0))), false, none⟩]
def c32_1 : ACode := (.region o32_0 [0, 2, 4])
def w32_1 (_P : Program) (Q : Exit → Slots → Mem → Prop) (M : Mem) (v0 : V) (v1 : V) (v2 : V) : Prop :=
  @OptMH (boxV 13 v1 M) ⟨fun t4_1 M1 =>
  Q .normal [(0, v0), (2, v2), (4, t4_1)] M1⟩
theorem e32_1 (P : Program) (Q : Exit → Slots → Mem → Prop) (s : Slots) (M : Mem) : wpC P c32_1 Q s M = w32_1 P Q M (sget s 0) (sget s 1) (sget s 2) := by kernel_rfl
def o32_2 : List AOper := [⟨some 6, (.mov (.const (.int .i64 10))), false, none⟩]
def c32_3 : ACode := (.region o32_2 [6])
def w32_3 (_P : Program) (Q : Exit → Slots → Mem → Prop) (M : Mem) : Prop :=
  Q .normal [(6, (.int .i64 10))] M
theorem e32_3 (P : Program) (Q : Exit → Slots → Mem → Prop) (s : Slots) (M : Mem) : wpC P c32_3 Q s M = w32_3 P Q M := by kernel_rfl
def c32_4 : ACode := (.seq c32_3 .ret)
def o32_5 : List AOper := [⟨some 9, (.mov (.tmp 2)), false, none⟩,
  ⟨some 10, (.bin .lss .none (.tmp 9) (.const (.int .i64 0))), true, none⟩,
  ⟨some 11, (.mov (.tmp 10)), true, none⟩,
  ⟨some 12, (.mov (.tmp 2)), false, some (11, false)⟩,
  ⟨some 13, (.bin .gtr .none (.tmp 12) (.const (.int .i64 3155932800))), true, some (11, false)⟩,
  ⟨some 14, (.pick (.tmp 11) (.const (.bool true)) (.tmp 13)), true, none⟩]
def c32_6 : ACode := (.seq (.region o32_5 [0, 2, 4, 14]) (.cond (.tmp 14) c32_4 .skip))
def w32_6 (P : Program) (Q : Exit → Slots → Mem → Prop) (M : Mem) (v0 : V) (v2 : V) (v4 : V) : Prop :=
  @OptBH (binV .lss .none v2 (.int .i64 0)) ⟨fun b10_2 =>
  @BIfH b10_2
  ⟨wpC P c32_4 Q [(0, v0), (2, v2), (4, v4), (14, (.bool true))] M⟩
  ⟨@OptBH (binV .gtr .none v2 (.int .i64 3155932800)) ⟨fun b13_6 =>
  @BIfH b13_6
  ⟨wpC P c32_4 Q [(0, v0), (2, v2), (4, v4), (14, (.bool b13_6))] M⟩
  ⟨Q .normal [(0, v0), (2, v2), (4, v4), (14, (.bool b13_6))] M⟩⟩⟩⟩
theorem e32_6 (P : Program) (Q : Exit → Slots → Mem → Prop) (s : Slots) (M : Mem) : wpC P c32_6 Q s M = w32_6 P Q M (sget s 0) (sget s 2) (sget s 4) := by kernel_rfl
def o32_7 : List AOper := [⟨some 15, (.load 13 true (.tmp 4)), false, none⟩,
  ⟨some 16, (.call i_message_Check [(.tmp 15)]), false, none⟩,
  ⟨some 7, (.mov (.tmp 16)), false, none⟩]
def c32_8 : ACode := (.region o32_7 [0, 2, 4, 7])
def w32_8 (P : Program) (Q : Exit → Slots → Mem → Prop) (M : Mem) (v0 : V) (v2 : V) (v4 : V) : Prop :=
  @OptVH (loadV 13 true v4 M) ⟨fun t15_1 =>
  @CallH P i_message_Check [t15_1] M ⟨fun t16_2 M2 =>
  Q .normal [(0, v0), (2, v2), (4, v4), (7, t16_2)] M2⟩⟩
theorem e32_8 (P : Program) (Q : Exit → Slots → Mem → Prop) (s : Slots) (M : Mem) : wpC P c32_8 Q s M = w32_8 P Q M (sget s 0) (sget s 2) (sget s 4) := by kernel_rfl
def o32_9 : List AOper := [⟨some 19, (.mov (.tmp 7)), false, none⟩,
  ⟨some 6, (.mov (.tmp 19)), false, none⟩]
def c32_10 : ACode := (.region o32_9 [6])
def w32_10 (_P : Program) (Q : Exit → Slots → Mem → Prop) (M : Mem) (v7 : V) : Prop :=
  Q .normal [(6, v7)] M
theorem e32_10 (P : Program) (Q : Exit → Slots → Mem → Prop) (s : Slots) (M : Mem) : wpC P c32_10 Q s M = w32_10 P Q M (sget s 7) := by kernel_rfl
def c32_11 : ACode := (.seq c32_10 .ret)
def o32_12 : List AOper := [⟨some 17, (.mov (.tmp 7)), false, none⟩,
  ⟨some 18, (.bin .neq .none (.tmp 17) (.const (.int .i64 0))), true, none⟩]
def c32_13 : ACode := (.seq (.region o32_12 [0, 2, 4, 7, 18]) (.cond (.tmp 18) c32_11 .skip))
def w32_13 (P : Program) (Q : Exit → Slots → Mem → Prop) (M : Mem) (v0 : V) (v2 : V) (v4 : V) (v7 : V) : Prop :=
  @OptBH (binV .neq .none v7 (.int .i64 0)) ⟨fun b18_2 =>
  @BIfH b18_2
  ⟨wpC P c32_11 Q [(0, v0), (2, v2), (4, v4), (7, v7), (18, (.bool b18_2))] M⟩
  ⟨Q .normal [(0, v0), (2, v2), (4, v4), (7, v7), (18, (.bool b18_2))] M⟩⟩
theorem e32_13 (P : Program) (Q : Exit → Slots → Mem → Prop) (s : Slots) (M : Mem) : wpC P c32_13 Q s M = w32_13 P Q M (sget s 0) (sget s 2) (sget s 4) (sget s 7) := by kernel_rfl
def c32_14 : ACode := (.seq c32_8 c32_13)
def o32_15 : List AOper := [⟨some 6, (.mov (.const (.int .i64 36))), false, none⟩]
def c32_16 : ACode := (.region o32_15 [6])
def w32_16 (_P : Program) (Q : Exit → Slots → Mem → Prop) (M : Mem) : Prop :=
  Q .normal [(6, (.int .i64 36))] M
theorem e32_16 (P : Program) (Q : Exit → Slots → Mem → Prop) (s : Slots) (M : Mem) : wpC P c32_16 Q s M = w32_16 P Q M := by kernel_rfl
def c32_17 : ACode := (.seq c32_16 .ret)
def o32_18 : List AOper := [⟨some 20, (.fieldAddr 0 (.tmp 4)), false, none⟩,
  ⟨some 21, (.load 1 false (.tmp 20)), false, none⟩,
  ⟨some 22, (.mov (.tmp 0)), false, none⟩,
  ⟨some 23, (.nilCheck (.tmp 22)), false, none⟩,
  ⟨some 24, (.fieldAddr 0 (.tmp 23)), false, none⟩,
  ⟨some 25, (.load 1 false (.tmp 24)), false, none⟩,
  ⟨some 26, (.lenSl (.tmp 25)), false, none⟩,
  ⟨some 27, (.bin .geq .none (.tmp 21) (.tmp 26)), true, none⟩]
def c32_19 : ACode := (.seq (.mixed o32_18 [true, true, true, true, true, true, true, true] [0, 2, 4, 27]) (.cond (.tmp 27) c32_17 .skip))
def w32_19 (P : Program) (Q : Exit → Slots → Mem → Prop) (M : Mem) (v0 : V) (v2 : V) (v4 : V) : Prop :=
  @OptVH (moveV 0 v4) ⟨fun t20_1 =>
  @OptVH (loadV 1 false t20_1 M) ⟨fun t21_2 =>
  @OptVH (nilCheckV v0) ⟨fun t23_4 =>
  @OptVH (moveV 0 t23_4) ⟨fun t24_5 =>
  @OptVH (loadV 1 false t24_5 M) ⟨fun t25_6 =>
  @OptVH (lenV t25_6 M) ⟨fun t26_7 =>
  @OptBH (binV .geq .none t21_2 t26_7) ⟨fun b27_8 =>
  @BIfH b27_8
  ⟨wpC P c32_17 Q [(0, v0), (2, v2), (4, v4), (27, (.bool b27_8))] M⟩
  ⟨Q .normal [(0, v0), (2, v2), (4, v4), (27, (.bool b27_8))] M⟩⟩⟩⟩⟩⟩⟩⟩
theorem e32_19 (P : Program) (Q : Exit → Slots → Mem → Prop) (s : Slots) (M : Mem) : wpC P c32_19 Q s M = w32_19 P Q M (sget s 0) (sget s 2) (sget s 4) := by kernel_rfl
def o32_20 : List AOper := [⟨some 28, (.mov (.tmp 0)), false, none⟩,
  ⟨some 29, (.nilCheck (.tmp 28)), false, none⟩,
  ⟨some 30, (.fieldAddr 0 (.tmp 29)), false, none⟩,
  ⟨some 31, (.load 1 false (.tmp 30)), false, none⟩,
  ⟨some 32, (.fieldAddr 0 (.tmp 4)), false, none⟩,
  ⟨some 33, (.load 1 false (.tmp 32)), false, none⟩,
  ⟨some 34, (.indexSl 4 (.tmp 31) (.tmp 33)), false, none⟩,
  ⟨some 35, (.load 4 true (.tmp 34)), false, none⟩,
  ⟨some 8, (.alloc [(.bool false), (.int .i64 0), (.bool false), (.int .i64 0)]), false, none⟩,
  ⟨none, (.store 4 (.tmp 8) (.tmp 35)), false, none⟩]
def c32_21 : ACode := (.float o32_20 [none, none, none, none, none, none, none, none, (some [0, 1, 2, 3, 4, 5, 6, 7]), (some [])] [2, 4, 8])
def w32_21 (_P : Program) (Q : Exit → Slots → Mem → Prop) (M : Mem) (v0 : V) (v2 : V) (v4 : V) : Prop :=
  @OptVH (nilCheckV v0) ⟨fun t29_2 =>
  @OptVH (moveV 0 t29_2) ⟨fun t30_3 =>
  @OptVH (loadV 1 false t30_3 M) ⟨fun t31_4 =>
  @OptVH (moveV 0 v4) ⟨fun t32_5 =>
  @OptVH (loadV 1 false t32_5 M) ⟨fun t33_6 =>
  @OptVH (indexSlV 4 t31_4 t33_6 M) ⟨fun t34_7 =>
  @OptVH (loadV 4 true t34_7 M) ⟨fun t35_8 =>
  @OptMH (allocV [(.bool false), (.int .i64 0), (.bool false), (.int .i64 0)] M) ⟨fun t8_9 M9 =>
  (some v0 = some v0 ∧ nilCheckV v0 = some t29_2 ∧ moveV 0 t29_2 = some t30_3 ∧ loadV 1 false t30_3 M9 = some t31_4 ∧ moveV 0 v4 = some t32_5 ∧ loadV 1 false t32_5 M9 = some t33_6 ∧ indexSlV 4 t31_4 t33_6 M9 = some t34_7 ∧ loadV 4 true t34_7 M9 = some t35_8 ∧ True) ∧ (@OptMH (storeVM 4 t8_9 t35_8 M9) ⟨fun _tx_10 M10 =>
  (True) ∧ (Q .normal [(2, v2), (4, v4), (8, t8_9)] M10)⟩)⟩⟩⟩⟩⟩⟩⟩⟩
theorem e32_21 (P : Program) (Q : Exit → Slots → Mem → Prop) (s : Slots) (M : Mem) : wpC P c32_21 Q s M = w32_21 P Q M (sget s 0) (sget s 2) (sget s 4) := by kernel_rfl
def o32_22 : List AOper := [⟨some 6, (.mov (.const (.int .i64 37))), false, none⟩]
def c32_23 : ACode := (.region o32_22 [6])
def w32_23 (_P : Program) (Q : Exit → Slots → Mem → Prop) (M : Mem) : Prop :=
  Q .normal [(6, (.int .i64 37))] M
theorem e32_23 (P : Program) (Q : Exit → Slots → Mem → Prop) (s : Slots) (M : Mem) : wpC P c32_23 Q s M = w32_23 P Q M := by kernel_rfl
def c32_24 : ACode := (.seq c32_23 .ret)
def o32_25 : List AOper := [⟨some 36, (.fieldAddr 2 (.tmp 8)), false, none⟩,
  ⟨some 37, (.load 1 false (.tmp 36)), true, none⟩,
  ⟨some 38, (.mov (.tmp 37)), true, none⟩,
  ⟨some 39, (.fieldAddr 1 (.tmp 4)), false, some (38, true)⟩,
  ⟨some 40, (.load 1 false (.tmp 39)), false, some (38, true)⟩,
  ⟨some 41, (.fieldAddr 3 (.tmp 8)), false, some (38, true)⟩,
  ⟨some 42, (.load 1 false (.tmp 41)), false, some (38, true)⟩,
  ⟨some 43, (.bin .leq .none (.tmp 40) (.tmp 42)), true, some (38, true)⟩,
  ⟨some 44, (.pick (.tmp 38) (.tmp 43) (.const (.bool false))), true, none⟩,
  ⟨some 45, (.mov (.tmp 44)), true, none⟩,
  ⟨some 46, (.fieldAddr 3 (.tmp 4)), false, some (45, false)⟩,
  ⟨some 47, (.load 1 false (.tmp 46)), false, some (45, false)⟩,
  ⟨some 48, (.mov (.tmp 2)), false, some (45, false)⟩,
  ⟨some 49, (.bin .leq .none (.tmp 47) (.tmp 48)), true, some (45, false)⟩,
  ⟨some 50, (.pick (.tmp 45) (.const (.bool true)) (.tmp 49)), true, none⟩]
def c32_26 : ACode := (.seq (.region o32_25 [50]) (.cond (.tmp 50) c32_24 .skip))
def w32_26 (P : Program) (Q : Exit → Slots → Mem → Prop) (M : Mem) (v2 : V) (v4 : V) (v8 : V) : Prop :=
  @OptVH (moveV 2 v8) ⟨fun t36_1 =>
  @OptBH (loadV 1 false t36_1 M) ⟨fun b37_2 =>
  @BIfH b37_2
  ⟨@OptVH (moveV 1 v4) ⟨fun t39_4 =>
  @OptVH (loadV 1 false t39_4 M) ⟨fun t40_5 =>
  @OptVH (moveV 3 v8) ⟨fun t41_6 =>
  @OptVH (loadV 1 false t41_6 M) ⟨fun t42_7 =>
  @OptBH (binV .leq .none t40_5 t42_7) ⟨fun b43_8 =>
  @BIfH b43_8
  ⟨wpC P c32_24 Q [(50, (.bool true))] M⟩
  ⟨@OptVH (moveV 3 v4) ⟨fun t46_12 =>
  @OptVH (loadV 1 false t46_12 M) ⟨fun t47_13 =>
  @OptBH (binV .leq .none t47_13 v2) ⟨fun b49_15 =>
  @BIfH b49_15
  ⟨wpC P c32_24 Q [(50, (.bool b49_15))] M⟩
  ⟨Q .normal [(50, (.bool b49_15))] M⟩⟩⟩⟩⟩⟩⟩⟩⟩⟩⟩
  ⟨@OptVH (moveV 3 v4) ⟨fun t46_19 =>
  @OptVH (loadV 1 false t46_19 M) ⟨fun t47_20 =>
  @OptBH (binV .leq .none t47_20 v2) ⟨fun b49_22 =>
  @BIfH b49_22
  ⟨wpC P c32_24 Q [(50, (.bool b49_22))] M⟩
  ⟨Q .normal [(50, (.bool b49_22))] M⟩⟩⟩⟩⟩⟩⟩
theorem e32_26 (P : Program) (Q : Exit → Slots → Mem → Prop) (s : Slots) (M : Mem) : wpC P c32_26 Q s M = w32_26 P Q M (sget s 2) (sget s 4) (sget s 8) := by kernel_rfl
def o32_27 : List AOper := [⟨some 6, (.mov (.const (.int .i64 0))), false, none⟩]
def c32_28 : ACode := (.region o32_27 [6])
def w32_28 (_P : Program) (Q : Exit → Slots → Mem → Prop) (M : Mem) : Prop :=
  Q .normal [(6, (.int .i64 0))] M
theorem e32_28 (P : Program) (Q : Exit → Slots → Mem → Prop) (s : Slots) (M : Mem) : wpC P c32_28 Q s M = w32_28 P Q M := by kernel_rfl
def c32_29 : ACode := (.seq c32_28 .ret)
def c32_30 : ACode := (.seq c32_26 c32_29)
def c32_31 : ACode := (.seq c32_21 c32_30)
def c32_32 : ACode := (.seq c32_19 c32_31)
def c32_33 : ACode := (.seq c32_14 c32_32)
def c32_34 : ACode := (.seq c32_6 c32_33)
def c32_35 : ACode := (.seq c32_1 c32_34)
def fn_inbox_Inbox_refusal : AFn := ⟨51, [(.tmp 6)], c32_35⟩
theorem fn_inbox_Inbox_refusal_ok : resFn PR h_inbox_Inbox_refusal i_inbox_Inbox_refusal = some fn_inbox_Inbox_refusal := by kernel_rfl

def h_inbox_filtered : Hints := ⟨[(0, [0, 1]), (1, [0, 1, 5]), (2, [1, 5, 8, 9, 10]), (3, [1, 5, 8, 9, 10, 11]), (4, [1, 5, 7, 8, 9, 10]), (5, [1, 5, 7, 8, 9, 10, 16]), (6, [1, 5, 8, 9, 10]), (7, [1, 5, 8, 9, 10]), (8, [4])], [(3, [1, 5, 8, 9, 10])], [(1, [0])]⟩
def o33_0 : List AOper := [⟨some 4, (.mov (.const (.slice [] .nil))), false, none⟩]
def c33_1 : ACode := (.region o33_0 [0, 1])
def w33_1 (_P : Program) (Q : Exit → Slots → Mem → Prop) (M : Mem) (v0 : V) (v1 : V) : Prop :=
  Q .normal [(0, v0), (1, v1)] M
theorem e33_1 (P : Program) (Q : Exit → Slots → Mem → Prop) (s : Slots) (M : Mem) : wpC P c33_1 Q s M = w33_1 P Q M (sget s 0) (sget s 1) := by kernel_rfl
def o33_2 : List AOper := [⟨some 5, (.newarr 13), false, none⟩]
def c33_3 : ACode := (.region o33_2 [0, 1, 5])
def w33_3 (_P : Program) (Q : Exit → Slots → Mem → Prop) (M : Mem) (v0 : V) (v1 : V) : Prop :=
  @OptMH (newarrV 13 M) ⟨fun t5_1 M1 =>
  Q .normal [(0, v0), (1, v1), (5, t5_1)] M1⟩
theorem e33_3 (P : Program) (Q : Exit → Slots → Mem → Prop) (s : Slots) (M : Mem) : wpC P c33_3 Q s M = w33_3 P Q M (sget s 0) (sget s 1) := by kernel_rfl
def o33_4 : List AOper := [⟨some 8, (.mov (.tmp 0)), false, none⟩,
  ⟨some 9, (.lenSl (.tmp 8)), false, none⟩,
  ⟨some 10, (.mov (.const (.int .i64 0))), false, none⟩]
def c33_5 : ACode := (.region o33_4 [1, 5, 8, 9, 10])
def w33_5 (_P : Program) (Q : Exit → Slots → Mem → Prop) (M : Mem) (v0 : V) (v1 : V) (v5 : V) : Prop :=
  @OptVH (lenV v0 M) ⟨fun t9_2 =>
  Q .normal [(1, v1), (5, v5), (8, v0), (9, t9_2), (10, (.int .i64 0))] M⟩
theorem e33_5 (P : Program) (Q : Exit → Slots → Mem → Prop) (s : Slots) (M : Mem) : wpC P c33_5 Q s M = w33_5 P Q M (sget s 0) (sget s 1) (sget s 5) := by kernel_rfl
def o33_6 : List AOper := [⟨some 11, (.bin .lss .none (.tmp 10) (.tmp 9)), false, none⟩]
def c33_7 : ACode := (.region o33_6 [1, 5, 8, 9, 10, 11])
def w33_7 (_P : Program) (Q : Exit → Slots → Mem → Prop) (M : Mem) (v1 : V) (v5 : V) (v8 : V) (v9 : V) (v10 : V) : Prop :=
  @OptVH (binV .lss .none v10 v9) ⟨fun t11_1 =>
  Q .normal [(1, v1), (5, v5), (8, v8), (9, v9), (10, v10), (11, t11_1)] M⟩
theorem e33_7 (P : Program) (Q : Exit → Slots → Mem → Prop) (s : Slots) (M : Mem) : wpC P c33_7 Q s M = w33_7 P Q M (sget s 1) (sget s 5) (sget s 8) (sget s 9) (sget s 10) := by kernel_rfl
def c33_8 : ACode := (.cond (.tmp 11) .skip (.exit 0))
def o33_9 : List AOper := [⟨some 12, (.indexSl 13 (.tmp 8) (.tmp 10)), false, none⟩,
  ⟨some 13, (.load 13 true (.tmp 12)), false, none⟩,
  ⟨some 7, (.alloc [(.int .i64 0), (.int .i64 0), (.int .i64 0), (.int .i64 0), (.int .i64 0), (.str []), (.int .i64 0), (.int .i64 0), (.int .i64 0), (.int .i64 0), (.int .i64 0), (.bool false), (.slice [] .nil)]), false, none⟩,
  ⟨none, (.store 13 (.tmp 7) (.tmp 13)), false, none⟩]
def c33_10 : ACode := (.region o33_9 [1, 5, 7, 8, 9, 10])
def w33_10 (_P : Program) (Q : Exit → Slots → Mem → Prop) (M : Mem) (v1 : V) (v5 : V) (v8 : V) (v9 : V) (v10 : V) : Prop :=
  @OptVH (indexSlV 13 v8 v10 M) ⟨fun t12_1 =>
  @OptVH (loadV 13 true t12_1 M) ⟨fun t13_2 =>
  @OptMH (allocV [(.int .i64 0), (.int .i64 0), (.int .i64 0), (.int .i64 0), (.int .i64 0), (.str []), (.int .i64 0), (.int .i64 0), (.int .i64 0), (.int .i64 0), (.int .i64 0), (.bool false), (.slice [] .nil)] M) ⟨fun t7_3 M3 =>
  @OptMH (storeVM 13 t7_3 t13_2 M3) ⟨fun _tx_4 M4 =>
  Q .normal [(1, v1), (5, v5), (7, t7_3), (8, v8), (9, v9), (10, v10)] M4⟩⟩⟩⟩
theorem e33_10 (P : Program) (Q : Exit → Slots → Mem → Prop) (s : Slots) (M : Mem) : wpC P c33_10 Q s M = w33_10 P Q M (sget s 1) (sget s 5) (sget s 8) (sget s 9) (sget s 10) := by kernel_rfl
def o33_11 : List AOper := [⟨some 17, (.mov (.tmp 5)), false, none⟩,
  ⟨some 18, (.load 13 true (.tmp 7)), false, none⟩,
  ⟨some 19, (.call i_inbox_owned [(.tmp 18)]), false, none⟩,
  ⟨some 20, (.buildSlice [(.int .i64 0), (.int .i64 0), (.int .i64 0), (.int .i64 0), (.int .i64 0), (.str []), (.int .i64 0), (.int .i64 0), (.int .i64 0), (.int .i64 0), (.int .i64 0), (.bool false), (.slice [] .nil)] 13 1 [(0, (13, (.tmp 19)))]), false, none⟩,
  ⟨some 21, (.append false 13 128 (.tmp 17) (.tmp 20)), false, none⟩,
  ⟨some 5, (.mov (.tmp 21)), false, none⟩]
def c33_12 : ACode := (.region o33_11 [1, 5, 8, 9, 10])
def w33_12 (P : Program) (Q : Exit → Slots → Mem → Prop) (M : Mem) (v1 : V) (v5 : V) (v7 : V) (v8 : V) (v9 : V) (v10 : V) : Prop :=
  @OptVH (loadV 13 true v7 M) ⟨fun t18_2 =>
  @CallH P i_inbox_owned [t18_2] M ⟨fun t19_3 M3 =>
  @OptVH (buildSliceV [(.int .i64 0), (.int .i64 0), (.int .i64 0), (.int .i64 0), (.int .i64 0), (.str []), (.int .i64 0), (.int .i64 0), (.int .i64 0), (.int .i64 0), (.int .i64 0), (.bool false), (.slice [] .nil)] 13 1 [(0, 13, t19_3)]) ⟨fun t20_4 =>
  @OptMH (appV false 13 128 v5 t20_4 M3) ⟨fun t21_5 M5 =>
  Q .normal [(1, v1), (5, t21_5), (8, v8), (9, v9), (10, v10)] M5⟩⟩⟩⟩
theorem e33_12 (P : Program) (Q : Exit → Slots → Mem → Prop) (s : Slots) (M : Mem) : wpC P c33_12 Q s M = w33_12 P Q M (sget s 1) (sget s 5) (sget s 7) (sget s 8) (sget s 9) (sget s 10) := by kernel_rfl
def o33_13 : List AOper := [⟨some 14, (.mov (.tmp 1)), false, none⟩,
  ⟨some 15, (.load 13 true (.tmp 7)), false, none⟩,
  ⟨some 16, (.callv (.tmp 14) [(.tmp 15)]), true, none⟩]
def c33_14 : ACode := (.seq (.region o33_13 [1, 5, 7, 8, 9, 10, 16]) (.cond (.tmp 16) c33_12 .skip))
def w33_14 (P : Program) (Q : Exit → Slots → Mem → Prop) (M : Mem) (v1 : V) (v5 : V) (v7 : V) (v8 : V) (v9 : V) (v10 : V) : Prop :=
  @OptVH (loadV 13 true v7 M) ⟨fun t15_2 =>
  @CallV P false v1 [t15_2] M ⟨fun t16_3 M3 => @OptBH (some t16_3) ⟨fun b16_3 =>
  @BIfH b16_3
  ⟨wpC P c33_12 Q [(1, v1), (5, v5), (7, v7), (8, v8), (9, v9), (10, v10), (16, (.bool b16_3))] M3⟩
  ⟨Q .normal [(1, v1), (5, v5), (7, v7), (8, v8), (9, v9), (10, v10), (16, (.bool b16_3))] M3⟩⟩⟩⟩
theorem e33_14 (P : Program) (Q : Exit → Slots → Mem → Prop) (s : Slots) (M : Mem) : wpC P c33_14 Q s M = w33_14 P Q M (sget s 1) (sget s 5) (sget s 7) (sget s 8) (sget s 9) (sget s 10) := by kernel_rfl
def c33_15 : ACode := (.seq c33_10 c33_14)
def c33_16 : ACode := (.block 1 c33_15)
def o33_17 : List AOper := [⟨some 22, (.bin .add .none (.tmp 10) (.const (.int .i64 1))), false, none⟩,
  ⟨some 10, (.mov (.tmp 22)), false, none⟩]
def c33_18 : ACode := (.region o33_17 [1, 5, 8, 9, 10])
def w33_18 (_P : Program) (Q : Exit → Slots → Mem → Prop) (M : Mem) (v1 : V) (v5 : V) (v8 : V) (v9 : V) (v10 : V) : Prop :=
  @OptVH (binV .add .none v10 (.int .i64 1)) ⟨fun t22_1 =>
  Q .normal [(1, v1), (5, v5), (8, v8), (9, v9), (10, t22_1)] M⟩
theorem e33_18 (P : Program) (Q : Exit → Slots → Mem → Prop) (s : Slots) (M : Mem) : wpC P c33_18 Q s M = w33_18 P Q M (sget s 1) (sget s 5) (sget s 8) (sget s 9) (sget s 10) := by kernel_rfl
def c33_19 : ACode := (.seq c33_16 c33_18)
def c33_20 : ACode := (.seq c33_8 c33_19)
def c33_21 : ACode := (.seq c33_7 c33_20)
def c33_22 : ACode := (.loop [1, 5, 8, 9, 10] c33_21)
def c33_23 : ACode := (.block 0 c33_22)
def c33_24 : ACode := (.seq c33_5 c33_23)
def o33_25 : List AOper := [⟨some 23, (.mov (.tmp 5)), false, none⟩,
  ⟨some 4, (.mov (.tmp 23)), false, none⟩]
def c33_26 : ACode := (.region o33_25 [4])
def w33_26 (_P : Program) (Q : Exit → Slots → Mem → Prop) (M : Mem) (v5 : V) : Prop :=
  Q .normal [(4, v5)] M
theorem e33_26 (P : Program) (Q : Exit → Slots → Mem → Prop) (s : Slots) (M : Mem) : wpC P c33_26 Q s M = w33_26 P Q M (sget s 5) := by kernel_rfl
def c33_27 : ACode := (.seq c33_26 .ret)
def c33_28 : ACode := (.seq c33_24 c33_27)
def c33_29 : ACode := (.seq c33_3 c33_28)
def c33_30 : ACode := (.seq c33_1 c33_29)
def fn_inbox_filtered : AFn := ⟨24, [(.tmp 4)], c33_30⟩
theorem fn_inbox_filtered_ok : resFn PR h_inbox_filtered i_inbox_filtered = some fn_inbox_filtered := by kernel_rfl

def h_inbox_Inbox_Receive_1 : Hints := ⟨[(0, [1, 2, 3]), (1, [4])], [], []⟩
def o34_0 : List AOper := [⟨some 3, (.box 13 (.tmp 0)), false, none⟩,
  ⟨some 4, (.mov (.const (.bool false))), true, none⟩]
def c34_1 : ACode := (.region o34_0 [1, 2, 3])
def w34_1 (_P : Program) (Q : Exit → Slots → Mem → Prop) (M : Mem) (v0 : V) (v1 : V) (v2 : V) : Prop :=
  @OptMH (boxV 13 v0 M) ⟨fun t3_1 M1 =>
  Q .normal [(1, v1), (2, v2), (3, t3_1)] M1⟩
theorem e34_1 (P : Program) (Q : Exit → Slots → Mem → Prop) (s : Slots) (M : Mem) : wpC P c34_1 Q s M = w34_1 P Q M (sget s 0) (sget s 1) (sget s 2) := by kernel_rfl
def o34_2 : List AOper := [⟨some 5, (.load 13 true (.tmp 1)), false, none⟩,
  ⟨some 6, (.load 13 true (.tmp 3)), false, none⟩,
  ⟨some 7, (.call i_message_Supersedes [(.tmp 5), (.tmp 6)]), true, none⟩,
  ⟨some 8, (.un .not (.tmp 7)), true, none⟩,
  ⟨some 9, (.mov (.tmp 8)), true, none⟩,
  ⟨some 10, (.fieldAddr 3 (.tmp 3)), false, some (9, true)⟩,
  ⟨some 11, (.load 1 false (.tmp 10)), false, some (9, true)⟩,
  ⟨some 12, (.load 1 false (.tmp 2)), false, some (9, true)⟩,
  ⟨some 13, (.bin .gtr .none (.tmp 11) (.tmp 12)), true, some (9, true)⟩,
  ⟨some 14, (.pick (.tmp 9) (.tmp 13) (.const (.bool false))), true, none⟩,
  ⟨some 4, (.mov (.tmp 14)), true, none⟩]
def c34_3 : ACode := (.region o34_2 [4])
def w34_3 (P : Program) (Q : Exit → Slots → Mem → Prop) (M : Mem) (v1 : V) (v2 : V) (v3 : V) : Prop :=
  @OptVH (loadV 13 true v1 M) ⟨fun t5_1 =>
  @OptVH (loadV 13 true v3 M) ⟨fun t6_2 =>
  @CallH P i_message_Supersedes [t5_1, t6_2] M ⟨fun t7_3 M3 => @OptBH (some t7_3) ⟨fun b7_3 =>
  @OptBH (unV .not (.bool b7_3)) ⟨fun b8_4 =>
  @BIfH b8_4
  ⟨@OptVH (moveV 3 v3) ⟨fun t10_6 =>
  @OptVH (loadV 1 false t10_6 M3) ⟨fun t11_7 =>
  @OptVH (loadV 1 false v2 M3) ⟨fun t12_8 =>
  @OptBH (binV .gtr .none t11_7 t12_8) ⟨fun b13_9 =>
  Q .normal [(4, (.bool b13_9))] M3⟩⟩⟩⟩⟩
  ⟨Q .normal [(4, (.bool false))] M3⟩⟩⟩⟩⟩⟩
theorem e34_3 (P : Program) (Q : Exit → Slots → Mem → Prop) (s : Slots) (M : Mem) : wpC P c34_3 Q s M = w34_3 P Q M (sget s 1) (sget s 2) (sget s 3) := by kernel_rfl
def c34_4 : ACode := (.seq c34_3 .ret)
def c34_5 : ACode := (.seq c34_1 c34_4)
def fn_inbox_Inbox_Receive_1 : AFn := ⟨15, [(.tmp 4)], c34_5⟩
theorem fn_inbox_Inbox_Receive_1_ok : resFn PR h_inbox_Inbox_Receive_1 i_inbox_Inbox_Receive_1 = some fn_inbox_Inbox_Receive_1 := by kernel_rfl

def h_message_Supersedes : Hints := ⟨[(0, [2, 3]), (1, [4])], [], []⟩
def o35_0 : List AOper := [⟨some 2, (.box 13 (.tmp 0)), false, none⟩,
  ⟨some 3, (.box 13 (.tmp 1)), false, none⟩,
  ⟨some 4, (.mov (.const (.bool false))), true, none⟩]
def c35_1 : ACode := (.region o35_0 [2, 3])
def w35_1 (_P : Program) (Q : Exit → Slots → Mem → Prop) (M : Mem) (v0 : V) (v1 : V) : Prop :=
  @OptMH (boxV 13 v0 M) ⟨fun t2_1 M1 =>
  @OptMH (boxV 13 v1 M1) ⟨fun t3_2 M2 =>
  Q .normal [(2, t2_1), (3, t3_2)] M2⟩⟩
theorem e35_1 (P : Program) (Q : Exit → Slots → Mem → Prop) (s : Slots) (M : Mem) : wpC P c35_1 Q s M = w35_1 P Q M (sget s 0) (sget s 1) := by kernel_rfl
def o35_2 : List AOper := [⟨some 5, (.fieldAddr 0 (.tmp 2)), false, none⟩,
  ⟨some 6, (.load 1 false (.tmp 5)), false, none⟩,
  ⟨some 7, (.fieldAddr 0 (.tmp 3)), false, none⟩,
  ⟨some 8, (.load 1 false (.tmp 7)), false, none⟩,
  ⟨some 9, (.bin .eql .none (.tmp 6) (.tmp 8)), true, none⟩,
  ⟨some 10, (.mov (.tmp 9)), true, none⟩,
  ⟨some 11, (.load 13 true (.tmp 2)), false, some (10, true)⟩,
  ⟨some 12, (.load 13 true (.tmp 3)), false, some (10, true)⟩,
  ⟨some 13, (.call i_message_SameTarget [(.tmp 11), (.tmp 12)]), true, some (10, true)⟩,
  ⟨some 14, (.pick (.tmp 10) (.tmp 13) (.const (.bool false))), true, none⟩,
  ⟨some 15, (.mov (.tmp 14)), true, none⟩,
  ⟨some 16, (.fieldAddr 1 (.tmp 2)), false, some (15, true)⟩,
  ⟨some 17, (.load 1 false (.tmp 16)), false, some (15, true)⟩,
  ⟨some 18, (.fieldAddr 1 (.tmp 3)), false, some (15, true)⟩,
  ⟨some 19, (.load 1 false (.tmp 18)), false, some (15, true)⟩,
  ⟨some 20, (.bin .gtr .none (.tmp 17) (.tmp 19)), true, some (15, true)⟩,
  ⟨some 21, (.pick (.tmp 15) (.tmp 20) (.const (.bool false))), true, none⟩,
  ⟨some 22, (.mov (.tmp 21)), true, none⟩,
  ⟨some 23, (.fieldAddr 4 (.tmp 2)), false, some (22, true)⟩,
  ⟨some 24, (.load 1 false (.tmp 23)), false, some (22, true)⟩,
  ⟨some 25, (.call i_message_status [(.tmp 24)]), true, some (22, true)⟩,
  ⟨some 26, (.mov (.tmp 25)), true, some (22, true)⟩,
  ⟨some 27, (.fieldAddr 4 (.tmp 2)), false, some (26, false)⟩,
  ⟨some 28, (.load 1 false (.tmp 27)), false, some (26, false)⟩,
  ⟨some 29, (.fieldAddr 4 (.tmp 3)), false, some (26, false)⟩,
  ⟨some 30, (.load 1 false (.tmp 29)), false, some (26, false)⟩,
  ⟨some 31, (.bin .eql .none (.tmp 28) (.tmp 30)), true, some (26, false)⟩,
  ⟨some 32, (.mov (.tmp 31)), true, some (26, false)⟩,
  ⟨some 33, (.fieldAddr 8 (.tmp 2)), false, some (32, true)⟩,
  ⟨some 34, (.load 1 false (.tmp 33)), false, some (32, true)⟩,
  ⟨some 35, (.fieldAddr 8 (.tmp 3)), false, some (32, true)⟩,
  ⟨some 36, (.load 1 false (.tmp 35)), false, some (32, true)⟩,
  ⟨some 37, (.bin .eql .none (.tmp 34) (.tmp 36)), true, some (32, true)⟩,
  ⟨some 38, (.pick (.tmp 32) (.tmp 37) (.const (.bool false))), true, some (26, false)⟩,
  ⟨some 39, (.pick (.tmp 26) (.const (.bool true)) (.tmp 38)), true, some (22, true)⟩,
  ⟨some 40, (.pick (.tmp 22) (.tmp 39) (.const (.bool false))), true, none⟩,
  ⟨some 4, (.mov (.tmp 40)), true, none⟩]
def c35_3 : ACode := (.region o35_2 [4])
def w35_3 (P : Program) (Q : Exit → Slots → Mem → Prop) (M : Mem) (v2 : V) (v3 : V) : Prop :=
  @OptVH (moveV 0 v2) ⟨fun t5_1 =>
  @OptVH (loadV 1 false t5_1 M) ⟨fun t6_2 =>
  @OptVH (moveV 0 v3) ⟨fun t7_3 =>
  @OptVH (loadV 1 false t7_3 M) ⟨fun t8_4 =>
  @OptBH (binV .eql .none t6_2 t8_4) ⟨fun b9_5 =>
  @BIfH b9_5
  ⟨@OptVH (loadV 13 true v2 M) ⟨fun t11_7 =>
  @OptVH (loadV 13 true v3 M) ⟨fun t12_8 =>
  @CallH P i_message_SameTarget [t11_7, t12_8] M ⟨fun t13_9 M9 => @OptBH (some t13_9) ⟨fun b13_9 =>
  @BIfH b13_9
  ⟨@OptVH (moveV 1 v2) ⟨fun t16_12 =>
  @OptVH (loadV 1 false t16_12 M9) ⟨fun t17_13 =>
  @OptVH (moveV 1 v3) ⟨fun t18_14 =>
  @OptVH (loadV 1 false t18_14 M9) ⟨fun t19_15 =>
  @OptBH (binV .gtr .none t17_13 t19_15) ⟨fun b20_16 =>
  @BIfH b20_16
  ⟨@OptVH (moveV 4 v2) ⟨fun t23_19 =>
  @OptVH (loadV 1 false t23_19 M9) ⟨fun t24_20 =>
  @CallH P i_message_status [t24_20] M9 ⟨fun t25_21 M21 => @OptBH (some t25_21) ⟨fun b25_21 =>
  @BIfH b25_21
  ⟨Q .normal [(4, (.bool true))] M21⟩
  ⟨@OptVH (moveV 4 v2) ⟨fun t27_26 =>
  @OptVH (loadV 1 false t27_26 M21) ⟨fun t28_27 =>
  @OptVH (moveV 4 v3) ⟨fun t29_28 =>
  @OptVH (loadV 1 false t29_28 M21) ⟨fun t30_29 =>
  @OptBH (binV .eql .none t28_27 t30_29) ⟨fun b31_30 =>
  @BIfH b31_30
  ⟨@OptVH (moveV 8 v2) ⟨fun t33_32 =>
  @OptVH (loadV 1 false t33_32 M21) ⟨fun t34_33 =>
  @OptVH (moveV 8 v3) ⟨fun t35_34 =>
  @OptVH (loadV 1 false t35_34 M21) ⟨fun t36_35 =>
  @OptBH (binV .eql .none t34_33 t36_35) ⟨fun b37_36 =>
  Q .normal [(4, (.bool b37_36))] M21⟩⟩⟩⟩⟩⟩
  ⟨Q .normal [(4, (.bool false))] M21⟩⟩⟩⟩⟩⟩⟩⟩⟩⟩⟩⟩
  ⟨Q .normal [(4, (.bool false))] M9⟩⟩⟩⟩⟩⟩⟩
  ⟨Q .normal [(4, (.bool false))] M9⟩⟩⟩⟩⟩⟩
  ⟨Q .normal [(4, (.bool false))] M⟩⟩⟩⟩⟩⟩
theorem e35_3 (P : Program) (Q : Exit → Slots → Mem → Prop) (s : Slots) (M : Mem) : wpC P c35_3 Q s M = w35_3 P Q M (sget s 2) (sget s 3) := by kernel_rfl
def c35_4 : ACode := (.seq c35_3 .ret)
def c35_5 : ACode := (.seq c35_1 c35_4)
def fn_message_Supersedes : AFn := ⟨41, [(.tmp 4)], c35_5⟩
theorem fn_message_Supersedes_ok : resFn PR h_message_Supersedes i_message_Supersedes = some fn_message_Supersedes := by kernel_rfl

def h_inbox_owned : Hints := ⟨[(0, [1, 2]), (1, [1, 2, 3]), (2, [1, 2]), (3, [2])], [], [(2, [3])]⟩
def o36_0 : List AOper := [⟨some 1, (.box 13 (.tmp 0)), false, none⟩,
  ⟨some 2, (.alloc [(.int .i64 0), (.int .i64 0), (.int .i64 0), (.int .i64 0), (.int .i64 0), (.str []), (.int .i64 0), (.int .i64 0), (.int .i64 0), (.int .i64 0), (.int .i64 0), (.bool false), (.slice [] .nil)]), false, none⟩]
def c36_1 : ACode := (.region o36_0 [1, 2])
def w36_1 (_P : Program) (Q : Exit → Slots → Mem → Prop) (M : Mem) (v0 : V) : Prop :=
  @OptMH (boxV 13 v0 M) ⟨fun t1_1 M1 =>
  @OptMH (allocV [(.int .i64 0), (.int .i64 0), (.int .i64 0), (.int .i64 0), (.int .i64 0), (.str []), (.int .i64 0), (.int .i64 0), (.int .i64 0), (.int .i64 0), (.int .i64 0), (.bool false), (.slice [] .nil)] M1) ⟨fun t2_2 M2 =>
  Q .normal [(1, t1_1), (2, t2_2)] M2⟩⟩
theorem e36_1 (P : Program) (Q : Exit → Slots → Mem → Prop) (s : Slots) (M : Mem) : wpC P c36_1 Q s M = w36_1 P Q M (sget s 0) := by kernel_rfl
def o36_2 : List AOper := [⟨some 3, (.mov (.const (.slice [] .nil))), false, none⟩]
def c36_3 : ACode := (.region o36_2 [1, 2, 3])
def w36_3 (_P : Program) (Q : Exit → Slots → Mem → Prop) (M : Mem) (v1 : V) (v2 : V) : Prop :=
  Q .normal [(1, v1), (2, v2), (3, (.slice [] .nil))] M
theorem e36_3 (P : Program) (Q : Exit → Slots → Mem → Prop) (s : Slots) (M : Mem) : wpC P c36_3 Q s M = w36_3 P Q M (sget s 1) (sget s 2) := by kernel_rfl
def o36_4 : List AOper := [⟨some 4, (.mov (.tmp 3)), false, none⟩,
  ⟨some 5, (.fieldAddr 12 (.tmp 1)), false, none⟩,
  ⟨some 6, (.load 1 false (.tmp 5)), false, none⟩,
  ⟨some 7, (.append true 5 32 (.tmp 4) (.tmp 6)), false, none⟩,
  ⟨some 8, (.fieldAddr 12 (.tmp 1)), false, none⟩,
  ⟨none, (.store 1 (.tmp 8) (.tmp 7)), false, none⟩]
def c36_5 : ACode := (.region o36_4 [1, 2])
def w36_5 (_P : Program) (Q : Exit → Slots → Mem → Prop) (M : Mem) (v1 : V) (v2 : V) (v3 : V) : Prop :=
  @OptVH (moveV 12 v1) ⟨fun t5_2 =>
  @OptVH (loadV 1 false t5_2 M) ⟨fun t6_3 =>
  @OptMH (appV true 5 32 v3 t6_3 M) ⟨fun t7_4 M4 =>
  @OptVH (moveV 12 v1) ⟨fun t8_5 =>
  @OptMH (storeVM 1 t8_5 t7_4 M4) ⟨fun _tx_6 M6 =>
  Q .normal [(1, v1), (2, v2)] M6⟩⟩⟩⟩⟩
theorem e36_5 (P : Program) (Q : Exit → Slots → Mem → Prop) (s : Slots) (M : Mem) : wpC P c36_5 Q s M = w36_5 P Q M (sget s 1) (sget s 2) (sget s 3) := by kernel_rfl
def o36_6 : List AOper := [⟨some 9, (.load 13 true (.tmp 1)), false, none⟩,
  ⟨none, (.store 13 (.tmp 2) (.tmp 9)), false, none⟩]
def c36_7 : ACode := (.region o36_6 [2])
def w36_7 (_P : Program) (Q : Exit → Slots → Mem → Prop) (M : Mem) (v1 : V) (v2 : V) : Prop :=
  @OptVH (loadV 13 true v1 M) ⟨fun t9_1 =>
  @OptMH (storeVM 13 v2 t9_1 M) ⟨fun _tx_2 M2 =>
  Q .normal [(2, v2)] M2⟩⟩
theorem e36_7 (P : Program) (Q : Exit → Slots → Mem → Prop) (s : Slots) (M : Mem) : wpC P c36_7 Q s M = w36_7 P Q M (sget s 1) (sget s 2) := by kernel_rfl
def c36_8 : ACode := (.seq c36_7 .ret)
def c36_9 : ACode := (.seq c36_5 c36_8)
def c36_10 : ACode := (.seq c36_3 c36_9)
def c36_11 : ACode := (.seq c36_1 c36_10)
def fn_inbox_owned : AFn := ⟨10, [(.cell 2 13 true)], c36_11⟩
theorem fn_inbox_owned_ok : resFn PR h_inbox_owned i_inbox_owned = some fn_inbox_owned := by kernel_rfl

def h_inbox_heard_hear : Hints := ⟨[(0, [0, 1, 16]), (1, [])], [], []⟩
def o37_0 : List AOper := [⟨some 17, (.mov (.tmp 0)), false, none⟩,
  ⟨some 18, (.mov (.tmp 0)), false, none⟩,
  ⟨some 19, (.mov (.tmp 1)), false, none⟩,
  ⟨some 20, (.nilCheck (.tmp 17)), false, none⟩,
  ⟨some 21, (.fieldAddr 0 (.tmp 20)), false, none⟩,
  ⟨none, (.store 1 (.tmp 21) (.const (.bool true))), false, none⟩,
  ⟨some 22, (.nilCheck (.tmp 18)), false, none⟩,
  ⟨some 23, (.fieldAddr 1 (.tmp 22)), false, none⟩,
  ⟨none, (.store 1 (.tmp 23) (.tmp 19)), false, none⟩]
def c37_1 : ACode := (.region o37_0 [])
def w37_1 (_P : Program) (Q : Exit → Slots → Mem → Prop) (M : Mem) (v0 : V) (v1 : V) : Prop :=
  @OptVH (nilCheckV v0) ⟨fun t20_4 =>
  @OptVH (moveV 0 t20_4) ⟨fun t21_5 =>
  @OptMH (storeVM 1 t21_5 (.bool true) M) ⟨fun _tx_6 M6 =>
  @OptVH (nilCheckV v0) ⟨fun t22_7 =>
  @OptVH (moveV 1 t22_7) ⟨fun t23_8 =>
  @OptMH (storeVM 1 t23_8 v1 M6) ⟨fun _tx_9 M9 =>
  Q .normal [] M9⟩⟩⟩⟩⟩⟩
theorem e37_1 (P : Program) (Q : Exit → Slots → Mem → Prop) (s : Slots) (M : Mem) : wpC P c37_1 Q s M = w37_1 P Q M (sget s 0) (sget s 1) := by kernel_rfl
def o37_2 : List AOper := [⟨some 4, (.mov (.tmp 0)), false, none⟩,
  ⟨some 5, (.nilCheck (.tmp 4)), false, none⟩,
  ⟨some 6, (.fieldAddr 0 (.tmp 5)), false, none⟩,
  ⟨some 7, (.load 1 false (.tmp 6)), true, none⟩,
  ⟨some 8, (.un .not (.tmp 7)), true, none⟩,
  ⟨some 9, (.mov (.tmp 8)), true, none⟩,
  ⟨some 10, (.mov (.tmp 1)), false, some (9, false)⟩,
  ⟨some 11, (.mov (.tmp 0)), false, some (9, false)⟩,
  ⟨some 12, (.nilCheck (.tmp 11)), false, some (9, false)⟩,
  ⟨some 13, (.fieldAddr 1 (.tmp 12)), false, some (9, false)⟩,
  ⟨some 14, (.load 1 false (.tmp 13)), false, some (9, false)⟩,
  ⟨some 15, (.bin .gtr .none (.tmp 10) (.tmp 14)), true, some (9, false)⟩,
  ⟨some 16, (.pick (.tmp 9) (.const (.bool true)) (.tmp 15)), true, none⟩]
def c37_3 : ACode := (.seq (.region o37_2 [0, 1, 16]) (.cond (.tmp 16) c37_1 .skip))
def w37_3 (P : Program) (Q : Exit → Slots → Mem → Prop) (M : Mem) (v0 : V) (v1 : V) : Prop :=
  @OptVH (nilCheckV v0) ⟨fun t5_2 =>
  @OptVH (moveV 0 t5_2) ⟨fun t6_3 =>
  @OptBH (loadV 1 false t6_3 M) ⟨fun b7_4 =>
  @OptBH (unV .not (.bool b7_4)) ⟨fun b8_5 =>
  @BIfH b8_5
  ⟨wpC P c37_1 Q [(0, v0), (1, v1), (16, (.bool true))] M⟩
  ⟨@OptVH (nilCheckV v0) ⟨fun t12_10 =>
  @OptVH (moveV 1 t12_10) ⟨fun t13_11 =>
  @OptVH (loadV 1 false t13_11 M) ⟨fun t14_12 =>
  @OptBH (binV .gtr .none v1 t14_12) ⟨fun b15_13 =>
  @BIfH b15_13
  ⟨wpC P c37_1 Q [(0, v0), (1, v1), (16, (.bool b15_13))] M⟩
  ⟨Q .normal [(0, v0), (1, v1), (16, (.bool b15_13))] M⟩⟩⟩⟩⟩⟩⟩⟩⟩⟩
theorem e37_3 (P : Program) (Q : Exit → Slots → Mem → Prop) (s : Slots) (M : Mem) : wpC P c37_3 Q s M = w37_3 P Q M (sget s 0) (sget s 1) := by kernel_rfl
def fn_inbox_heard_hear : AFn := ⟨24, [], c37_3⟩
theorem fn_inbox_heard_hear_ok : resFn PR h_inbox_heard_hear i_inbox_heard_hear = some fn_inbox_heard_hear := by kernel_rfl

def h_transitref31_Equal : Hints := ⟨[(0, [2, 3]), (1, [4])], [], []⟩
def o38_0 : List AOper := [⟨some 2, (.box 13 (.tmp 0)), false, none⟩,
  ⟨some 3, (.box 13 (.tmp 1)), false, none⟩,
  ⟨some 4, (.mov (.const (.bool false))), true, none⟩]
def c38_1 : ACode := (.region o38_0 [2, 3])
def w38_1 (_P : Program) (Q : Exit → Slots → Mem → Prop) (M : Mem) (v0 : V) (v1 : V) : Prop :=
  @OptMH (boxV 13 v0 M) ⟨fun t2_1 M1 =>
  @OptMH (boxV 13 v1 M1) ⟨fun t3_2 M2 =>
  Q .normal [(2, t2_1), (3, t3_2)] M2⟩⟩
theorem e38_1 (P : Program) (Q : Exit → Slots → Mem → Prop) (s : Slots) (M : Mem) : wpC P c38_1 Q s M = w38_1 P Q M (sget s 0) (sget s 1) := by kernel_rfl
def o38_2 : List AOper := [⟨some 5, (.fieldAddr 0 (.tmp 2)), false, none⟩,
  ⟨some 6, (.load 1 false (.tmp 5)), false, none⟩,
  ⟨some 7, (.fieldAddr 0 (.tmp 3)), false, none⟩,
  ⟨some 8, (.load 1 false (.tmp 7)), false, none⟩,
  ⟨some 9, (.bin .eql .none (.tmp 6) (.tmp 8)), true, none⟩,
  ⟨some 10, (.mov (.tmp 9)), true, none⟩,
  ⟨some 11, (.fieldAddr 1 (.tmp 2)), false, some (10, true)⟩,
  ⟨some 12, (.load 1 false (.tmp 11)), false, some (10, true)⟩,
  ⟨some 13, (.fieldAddr 1 (.tmp 3)), false, some (10, true)⟩,
  ⟨some 14, (.load 1 false (.tmp 13)), false, some (10, true)⟩,
  ⟨some 15, (.bin .eql .none (.tmp 12) (.tmp 14)), true, some (10, true)⟩,
  ⟨some 16, (.pick (.tmp 10) (.tmp 15) (.const (.bool false))), true, none⟩,
  ⟨some 17, (.mov (.tmp 16)), true, none⟩,
  ⟨some 18, (.fieldAddr 2 (.tmp 2)), false, some (17, true)⟩,
  ⟨some 19, (.load 1 false (.tmp 18)), false, some (17, true)⟩,
  ⟨some 20, (.fieldAddr 2 (.tmp 3)), false, some (17, true)⟩,
  ⟨some 21, (.load 1 false (.tmp 20)), false, some (17, true)⟩,
  ⟨some 22, (.bin .eql .none (.tmp 19) (.tmp 21)), true, some (17, true)⟩,
  ⟨some 23, (.pick (.tmp 17) (.tmp 22) (.const (.bool false))), true, none⟩,
  ⟨some 24, (.mov (.tmp 23)), true, none⟩,
  ⟨some 25, (.fieldAddr 3 (.tmp 2)), false, some (24, true)⟩,
  ⟨some 26, (.load 1 false (.tmp 25)), false, some (24, true)⟩,
  ⟨some 27, (.fieldAddr 3 (.tmp 3)), false, some (24, true)⟩,
  ⟨some 28, (.load 1 false (.tmp 27)), false, some (24, true)⟩,
  ⟨some 29, (.bin .eql .none (.tmp 26) (.tmp 28)), true, some (24, true)⟩,
  ⟨some 30, (.pick (.tmp 24) (.tmp 29) (.const (.bool false))), true, none⟩,
  ⟨some 31, (.mov (.tmp 30)), true, none⟩,
  ⟨some 32, (.fieldAddr 4 (.tmp 2)), false, some (31, true)⟩,
  ⟨some 33, (.load 1 false (.tmp 32)), false, some (31, true)⟩,
  ⟨some 34, (.fieldAddr 4 (.tmp 3)), false, some (31, true)⟩,
  ⟨some 35, (.load 1 false (.tmp 34)), false, some (31, true)⟩,
  ⟨some 36, (.bin .eql .none (.tmp 33) (.tmp 35)), true, some (31, true)⟩,
  ⟨some 37, (.pick (.tmp 31) (.tmp 36) (.const (.bool false))), true, none⟩,
  ⟨some 38, (.mov (.tmp 37)), true, none⟩,
  ⟨some 39, (.load 13 true (.tmp 2)), false, some (38, true)⟩,
  ⟨some 40, (.load 13 true (.tmp 3)), false, some (38, true)⟩,
  ⟨some 41, (.call i_transitref31_SameTarget [(.tmp 39), (.tmp 40)]), true, some (38, true)⟩,
  ⟨some 42, (.pick (.tmp 38) (.tmp 41) (.const (.bool false))), true, none⟩,
  ⟨some 43, (.mov (.tmp 42)), true, none⟩,
  ⟨some 44, (.fieldAddr 8 (.tmp 2)), false, some (43, true)⟩,
  ⟨some 45, (.load 1 false (.tmp 44)), false, some (43, true)⟩,
  ⟨some 46, (.fieldAddr 8 (.tmp 3)), false, some (43, true)⟩,
  ⟨some 47, (.load 1 false (.tmp 46)), false, some (43, true)⟩,
  ⟨some 48, (.bin .eql .none (.tmp 45) (.tmp 47)), true, some (43, true)⟩,
  ⟨some 49, (.pick (.tmp 43) (.tmp 48) (.const (.bool false))), true, none⟩,
  ⟨some 50, (.mov (.tmp 49)), true, none⟩,
  ⟨some 51, (.fieldAddr 9 (.tmp 2)), false, some (50, true)⟩,
  ⟨some 52, (.load 1 false (.tmp 51)), false, some (50, true)⟩,
  ⟨some 53, (.fieldAddr 9 (.tmp 3)), false, some (50, true)⟩,
  ⟨some 54, (.load 1 false (.tmp 53)), false, some (50, true)⟩,
  ⟨some 55, (.bin .eql .none (.tmp 52) (.tmp 54)), true, some (50, true)⟩,
  ⟨some 56, (.pick (.tmp 50) (.tmp 55) (.const (.bool false))), true, none⟩,
  ⟨some 57, (.mov (.tmp 56)), true, none⟩,
  ⟨some 58, (.fieldAddr 10 (.tmp 2)), false, some (57, true)⟩,
  ⟨some 59, (.load 1 false (.tmp 58)), false, some (57, true)⟩,
  ⟨some 60, (.fieldAddr 10 (.tmp 3)), false, some (57, true)⟩,
  ⟨some 61, (.load 1 false (.tmp 60)), false, some (57, true)⟩,
  ⟨some 62, (.bin .eql .none (.tmp 59) (.tmp 61)), true, some (57, true)⟩,
  ⟨some 63, (.pick (.tmp 57) (.tmp 62) (.const (.bool false))), true, none⟩,
  ⟨some 64, (.mov (.tmp 63)), true, none⟩,
  ⟨some 65, (.fieldAddr 11 (.tmp 2)), false, some (64, true)⟩,
  ⟨some 66, (.load 1 false (.tmp 65)), true, some (64, true)⟩,
  ⟨some 67, (.fieldAddr 11 (.tmp 3)), false, some (64, true)⟩,
  ⟨some 68, (.load 1 false (.tmp 67)), true, some (64, true)⟩,
  ⟨some 69, (.bin .eql .bool (.tmp 66) (.tmp 68)), true, some (64, true)⟩,
  ⟨some 70, (.pick (.tmp 64) (.tmp 69) (.const (.bool false))), true, none⟩,
  ⟨some 71, (.mov (.tmp 70)), true, none⟩,
  ⟨some 72, (.fieldAddr 12 (.tmp 2)), false, some (71, true)⟩,
  ⟨some 73, (.load 1 false (.tmp 72)), false, some (71, true)⟩,
  ⟨some 74, (.fieldAddr 12 (.tmp 3)), false, some (71, true)⟩,
  ⟨some 75, (.load 1 false (.tmp 74)), false, some (71, true)⟩,
  ⟨some 76, (.call i_transitref16_Equal [(.tmp 73), (.tmp 75)]), true, some (71, true)⟩,
  ⟨some 77, (.pick (.tmp 71) (.tmp 76) (.const (.bool false))), true, none⟩,
  ⟨some 4, (.mov (.tmp 77)), true, none⟩]
def c38_3 : ACode := (.region o38_2 [4])
def w38_3 (P : Program) (Q : Exit → Slots → Mem → Prop) (M : Mem) (v2 : V) (v3 : V) : Prop :=
  @OptVH (moveV 0 v2) ⟨fun t5_1 =>
  @OptVH (loadV 1 false t5_1 M) ⟨fun t6_2 =>
  @OptVH (moveV 0 v3) ⟨fun t7_3 =>
  @OptVH (loadV 1 false t7_3 M) ⟨fun t8_4 =>
  @OptBH (binV .eql .none t6_2 t8_4) ⟨fun b9_5 =>
  @BIfH b9_5
  ⟨@OptVH (moveV 1 v2) ⟨fun t11_7 =>
  @OptVH (loadV 1 false t11_7 M) ⟨fun t12_8 =>
  @OptVH (moveV 1 v3) ⟨fun t13_9 =>
  @OptVH (loadV 1 false t13_9 M) ⟨fun t14_10 =>
  @OptBH (binV .eql .none t12_8 t14_10) ⟨fun b15_11 =>
  @BIfH b15_11
  ⟨@OptVH (moveV 2 v2) ⟨fun t18_14 =>
  @OptVH (loadV 1 false t18_14 M) ⟨fun t19_15 =>
  @OptVH (moveV 2 v3) ⟨fun t20_16 =>
  @OptVH (loadV 1 false t20_16 M) ⟨fun t21_17 =>
  @OptBH (binV .eql .none t19_15 t21_17) ⟨fun b22_18 =>
  @BIfH b22_18
  ⟨@OptVH (moveV 3 v2) ⟨fun t25_21 =>
  @OptVH (loadV 1 false t25_21 M) ⟨fun t26_22 =>
  @OptVH (moveV 3 v3) ⟨fun t27_23 =>
  @OptVH (loadV 1 false t27_23 M) ⟨fun t28_24 =>
  @OptBH (binV .eql .none t26_22 t28_24) ⟨fun b29_25 =>
  @BIfH b29_25
  ⟨@OptVH (moveV 4 v2) ⟨fun t32_28 =>
  @OptVH (loadV 1 false t32_28 M) ⟨fun t33_29 =>
  @OptVH (moveV 4 v3) ⟨fun t34_30 =>
  @OptVH (loadV 1 false t34_30 M) ⟨fun t35_31 =>
  @OptBH (binV .eql .none t33_29 t35_31) ⟨fun b36_32 =>
  @BIfH b36_32
  ⟨@OptVH (loadV 13 true v2 M) ⟨fun t39_35 =>
  @OptVH (loadV 13 true v3 M) ⟨fun t40_36 =>
  @CallH P i_transitref31_SameTarget [t39_35, t40_36] M ⟨fun t41_37 M37 => @OptBH (some t41_37) ⟨fun b41_37 =>
  @BIfH b41_37
  ⟨@OptVH (moveV 8 v2) ⟨fun t44_40 =>
  @OptVH (loadV 1 false t44_40 M37) ⟨fun t45_41 =>
  @OptVH (moveV 8 v3) ⟨fun t46_42 =>
  @OptVH (loadV 1 false t46_42 M37) ⟨fun t47_43 =>
  @OptBH (binV .eql .none t45_41 t47_43) ⟨fun b48_44 =>
  @BIfH b48_44
  ⟨@OptVH (moveV 9 v2) ⟨fun t51_47 =>
  @OptVH (loadV 1 false t51_47 M37) ⟨fun t52_48 =>
  @OptVH (moveV 9 v3) ⟨fun t53_49 =>
  @OptVH (loadV 1 false t53_49 M37) ⟨fun t54_50 =>
  @OptBH (binV .eql .none t52_48 t54_50) ⟨fun b55_51 =>
  @BIfH b55_51
  ⟨@OptVH (moveV 10 v2) ⟨fun t58_54 =>
  @OptVH (loadV 1 false t58_54 M37) ⟨fun t59_55 =>
  @OptVH (moveV 10 v3) ⟨fun t60_56 =>
  @OptVH (loadV 1 false t60_56 M37) ⟨fun t61_57 =>
  @OptBH (binV .eql .none t59_55 t61_57) ⟨fun b62_58 =>
  @BIfH b62_58
  ⟨@OptVH (moveV 11 v2) ⟨fun t65_61 =>
  @OptBH (loadV 1 false t65_61 M37) ⟨fun b66_62 =>
  @OptVH (moveV 11 v3) ⟨fun t67_63 =>
  @OptBH (loadV 1 false t67_63 M37) ⟨fun b68_64 =>
  @OptBH (binV .eql .bool (.bool b66_62) (.bool b68_64)) ⟨fun b69_65 =>
  @BIfH b69_65
  ⟨@OptVH (moveV 12 v2) ⟨fun t72_68 =>
  @OptVH (loadV 1 false t72_68 M37) ⟨fun t73_69 =>
  @OptVH (moveV 12 v3) ⟨fun t74_70 =>
  @OptVH (loadV 1 false t74_70 M37) ⟨fun t75_71 =>
  @CallH P i_transitref16_Equal [t73_69, t75_71] M37 ⟨fun t76_72 M72 => @OptBH (some t76_72) ⟨fun b76_72 =>
  Q .normal [(4, (.bool b76_72))] M72⟩⟩⟩⟩⟩⟩⟩
  ⟨Q .normal [(4, (.bool false))] M37⟩⟩⟩⟩⟩⟩⟩
  ⟨Q .normal [(4, (.bool false))] M37⟩⟩⟩⟩⟩⟩⟩
  ⟨Q .normal [(4, (.bool false))] M37⟩⟩⟩⟩⟩⟩⟩
  ⟨Q .normal [(4, (.bool false))] M37⟩⟩⟩⟩⟩⟩⟩
  ⟨Q .normal [(4, (.bool false))] M37⟩⟩⟩⟩⟩⟩
  ⟨Q .normal [(4, (.bool false))] M⟩⟩⟩⟩⟩⟩⟩
  ⟨Q .normal [(4, (.bool false))] M⟩⟩⟩⟩⟩⟩⟩
  ⟨Q .normal [(4, (.bool false))] M⟩⟩⟩⟩⟩⟩⟩
  ⟨Q .normal [(4, (.bool false))] M⟩⟩⟩⟩⟩⟩⟩
  ⟨Q .normal [(4, (.bool false))] M⟩⟩⟩⟩⟩⟩
theorem e38_3 (P : Program) (Q : Exit → Slots → Mem → Prop) (s : Slots) (M : Mem) : wpC P c38_3 Q s M = w38_3 P Q M (sget s 2) (sget s 3) := by kernel_rfl
def c38_4 : ACode := (.seq c38_3 .ret)
def c38_5 : ACode := (.seq c38_1 c38_4)
def fn_transitref31_Equal : AFn := ⟨78, [(.tmp 4)], c38_5⟩
theorem fn_transitref31_Equal_ok : resFn PR h_transitref31_Equal i_transitref31_Equal = some fn_transitref31_Equal := by kernel_rfl

def h_inbox_Inbox_Active_1 : Hints := ⟨[(0, [1, 2, 3]), (1, [4])], [], []⟩
def o39_0 : List AOper := [⟨some 3, (.box 13 (.tmp 0)), false, none⟩,
  ⟨some 4, (.mov (.const (.bool false))), true, none⟩]
def c39_1 : ACode := (.region o39_0 [1, 2, 3])
def w39_1 (_P : Program) (Q : Exit → Slots → Mem → Prop) (M : Mem) (v0 : V) (v1 : V) (v2 : V) : Prop :=
  @OptMH (boxV 13 v0 M) ⟨fun t3_1 M1 =>
  Q .normal [(1, v1), (2, v2), (3, t3_1)] M1⟩
theorem e39_1 (P : Program) (Q : Exit → Slots → Mem → Prop) (s : Slots) (M : Mem) : wpC P c39_1 Q s M = w39_1 P Q M (sget s 0) (sget s 1) (sget s 2) := by kernel_rfl
def o39_2 : List AOper := [⟨some 5, (.fieldAddr 2 (.tmp 3)), false, none⟩,
  ⟨some 6, (.load 1 false (.tmp 5)), false, none⟩,
  ⟨some 7, (.load 1 false (.tmp 1)), false, none⟩,
  ⟨some 8, (.bin .leq .none (.tmp 6) (.tmp 7)), true, none⟩,
  ⟨some 9, (.mov (.tmp 8)), true, none⟩,
  ⟨some 10, (.fieldAddr 3 (.tmp 3)), false, some (9, true)⟩,
  ⟨some 11, (.load 1 false (.tmp 10)), false, some (9, true)⟩,
  ⟨some 12, (.load 1 false (.tmp 1)), false, some (9, true)⟩,
  ⟨some 13, (.bin .gtr .none (.tmp 11) (.tmp 12)), true, some (9, true)⟩,
  ⟨some 14, (.pick (.tmp 9) (.tmp 13) (.const (.bool false))), true, none⟩,
  ⟨some 15, (.mov (.tmp 14)), true, none⟩,
  ⟨some 16, (.load 1 false (.tmp 2)), false, some (15, true)⟩,
  ⟨some 17, (.fieldAddr 0 (.tmp 3)), false, some (15, true)⟩,
  ⟨some 18, (.load 1 false (.tmp 17)), false, some (15, true)⟩,
  ⟨some 19, (.load 1 false (.tmp 1)), false, some (15, true)⟩,
  ⟨some 20, (.call i_inbox_Inbox_Failed [(.tmp 16), (.tmp 18), (.tmp 19)]), true, some (15, true)⟩,
  ⟨some 21, (.un .not (.tmp 20)), true, some (15, true)⟩,
  ⟨some 22, (.pick (.tmp 15) (.tmp 21) (.const (.bool false))), true, none⟩,
  ⟨some 4, (.mov (.tmp 22)), true, none⟩]
def c39_3 : ACode := (.region o39_2 [4])
def w39_3 (P : Program) (Q : Exit → Slots → Mem → Prop) (M : Mem) (v1 : V) (v2 : V) (v3 : V) : Prop :=
  @OptVH (moveV 2 v3) ⟨fun t5_1 =>
  @OptVH (loadV 1 false t5_1 M) ⟨fun t6_2 =>
  @OptVH (loadV 1 false v1 M) ⟨fun t7_3 =>
  @OptBH (binV .leq .none t6_2 t7_3) ⟨fun b8_4 =>
  @BIfH b8_4
  ⟨@OptVH (moveV 3 v3) ⟨fun t10_6 =>
  @OptVH (loadV 1 false t10_6 M) ⟨fun t11_7 =>
  @OptVH (loadV 1 false v1 M) ⟨fun t12_8 =>
  @OptBH (binV .gtr .none t11_7 t12_8) ⟨fun b13_9 =>
  @BIfH b13_9
  ⟨@OptVH (loadV 1 false v2 M) ⟨fun t16_12 =>
  @OptVH (moveV 0 v3) ⟨fun t17_13 =>
  @OptVH (loadV 1 false t17_13 M) ⟨fun t18_14 =>
  @OptVH (loadV 1 false v1 M) ⟨fun t19_15 =>
  @CallH P i_inbox_Inbox_Failed [t16_12, t18_14, t19_15] M ⟨fun t20_16 M16 => @OptBH (some t20_16) ⟨fun b20_16 =>
  @OptBH (unV .not (.bool b20_16)) ⟨fun b21_17 =>
  Q .normal [(4, (.bool b21_17))] M16⟩⟩⟩⟩⟩⟩⟩⟩
  ⟨Q .normal [(4, (.bool false))] M⟩⟩⟩⟩⟩⟩
  ⟨Q .normal [(4, (.bool false))] M⟩⟩⟩⟩⟩
theorem e39_3 (P : Program) (Q : Exit → Slots → Mem → Prop) (s : Slots) (M : Mem) : wpC P c39_3 Q s M = w39_3 P Q M (sget s 1) (sget s 2) (sget s 3) := by kernel_rfl
def c39_4 : ACode := (.seq c39_3 .ret)
def c39_5 : ACode := (.seq c39_1 c39_4)
def fn_inbox_Inbox_Active_1 : AFn := ⟨23, [(.tmp 4)], c39_5⟩
theorem fn_inbox_Inbox_Active_1_ok : resFn PR h_inbox_Inbox_Active_1 i_inbox_Inbox_Active_1 = some fn_inbox_Inbox_Active_1 := by kernel_rfl

def h_message_SameTarget : Hints := ⟨[(0, [2, 3]), (1, [4])], [], []⟩
def o40_0 : List AOper := [⟨some 2, (.box 13 (.tmp 0)), false, none⟩,
  ⟨some 3, (.box 13 (.tmp 1)), false, none⟩,
  ⟨some 4, (.mov (.const (.bool false))), true, none⟩]
def c40_1 : ACode := (.region o40_0 [2, 3])
def w40_1 (_P : Program) (Q : Exit → Slots → Mem → Prop) (M : Mem) (v0 : V) (v1 : V) : Prop :=
  @OptMH (boxV 13 v0 M) ⟨fun t2_1 M1 =>
  @OptMH (boxV 13 v1 M1) ⟨fun t3_2 M2 =>
  Q .normal [(2, t2_1), (3, t3_2)] M2⟩⟩
theorem e40_1 (P : Program) (Q : Exit → Slots → Mem → Prop) (s : Slots) (M : Mem) : wpC P c40_1 Q s M = w40_1 P Q M (sget s 0) (sget s 1) := by kernel_rfl
def o40_2 : List AOper := [⟨some 5, (.fieldAddr 5 (.tmp 2)), false, none⟩,
  ⟨some 6, (.load 1 false (.tmp 5)), false, none⟩,
  ⟨some 7, (.fieldAddr 5 (.tmp 3)), false, none⟩,
  ⟨some 8, (.load 1 false (.tmp 7)), false, none⟩,
  ⟨some 9, (.bin .eql .none (.tmp 6) (.tmp 8)), true, none⟩,
  ⟨some 10, (.mov (.tmp 9)), true, none⟩,
  ⟨some 11, (.fieldAddr 6 (.tmp 2)), false, some (10, true)⟩,
  ⟨some 12, (.load 1 false (.tmp 11)), false, some (10, true)⟩,
  ⟨some 13, (.fieldAddr 6 (.tmp 3)), false, some (10, true)⟩,
  ⟨some 14, (.load 1 false (.tmp 13)), false, some (10, true)⟩,
  ⟨some 15, (.bin .eql .none (.tmp 12) (.tmp 14)), true, some (10, true)⟩,
  ⟨some 16, (.pick (.tmp 10) (.tmp 15) (.const (.bool false))), true, none⟩,
  ⟨some 17, (.mov (.tmp 16)), true, none⟩,
  ⟨some 18, (.fieldAddr 7 (.tmp 2)), false, some (17, true)⟩,
  ⟨some 19, (.load 1 false (.tmp 18)), false, some (17, true)⟩,
  ⟨some 20, (.fieldAddr 7 (.tmp 3)), false, some (17, true)⟩,
  ⟨some 21, (.load 1 false (.tmp 20)), false, some (17, true)⟩,
  ⟨some 22, (.bin .eql .none (.tmp 19) (.tmp 21)), true, some (17, true)⟩,
  ⟨some 23, (.pick (.tmp 17) (.tmp 22) (.const (.bool false))), true, none⟩,
  ⟨some 4, (.mov (.tmp 23)), true, none⟩]
def c40_3 : ACode := (.region o40_2 [4])
def w40_3 (_P : Program) (Q : Exit → Slots → Mem → Prop) (M : Mem) (v2 : V) (v3 : V) : Prop :=
  @OptVH (moveV 5 v2) ⟨fun t5_1 =>
  @OptVH (loadV 1 false t5_1 M) ⟨fun t6_2 =>
  @OptVH (moveV 5 v3) ⟨fun t7_3 =>
  @OptVH (loadV 1 false t7_3 M) ⟨fun t8_4 =>
  @OptBH (binV .eql .none t6_2 t8_4) ⟨fun b9_5 =>
  @BIfH b9_5
  ⟨@OptVH (moveV 6 v2) ⟨fun t11_7 =>
  @OptVH (loadV 1 false t11_7 M) ⟨fun t12_8 =>
  @OptVH (moveV 6 v3) ⟨fun t13_9 =>
  @OptVH (loadV 1 false t13_9 M) ⟨fun t14_10 =>
  @OptBH (binV .eql .none t12_8 t14_10) ⟨fun b15_11 =>
  @BIfH b15_11
  ⟨@OptVH (moveV 7 v2) ⟨fun t18_14 =>
  @OptVH (loadV 1 false t18_14 M) ⟨fun t19_15 =>
  @OptVH (moveV 7 v3) ⟨fun t20_16 =>
  @OptVH (loadV 1 false t20_16 M) ⟨fun t21_17 =>
  @OptBH (binV .eql .none t19_15 t21_17) ⟨fun b22_18 =>
  Q .normal [(4, (.bool b22_18))] M⟩⟩⟩⟩⟩⟩
  ⟨Q .normal [(4, (.bool false))] M⟩⟩⟩⟩⟩⟩⟩
  ⟨Q .normal [(4, (.bool false))] M⟩⟩⟩⟩⟩⟩
theorem e40_3 (P : Program) (Q : Exit → Slots → Mem → Prop) (s : Slots) (M : Mem) : wpC P c40_3 Q s M = w40_3 P Q M (sget s 2) (sget s 3) := by kernel_rfl
def c40_4 : ACode := (.seq c40_3 .ret)
def c40_5 : ACode := (.seq c40_1 c40_4)
def fn_message_SameTarget : AFn := ⟨24, [(.tmp 4)], c40_5⟩
theorem fn_message_SameTarget_ok : resFn PR h_message_SameTarget i_message_SameTarget = some fn_message_SameTarget := by kernel_rfl

def h_inbox_inserted_api_Message : Hints := ⟨[(0, [0, 2, 4]), (1, [0, 2, 4, 7]), (2, [0, 2, 4, 7, 22]), (3, [0, 2, 4, 7]), (4, [0, 4, 7, 8]), (5, [0, 4, 7, 8]), (6, [0, 7, 8]), (7, [6])], [(2, [0, 2, 4, 7])], [(4, [0])]⟩
def o41_0 : List AOper := [⟨some 4, (.box 13 (.tmp 1)), false, none⟩,
  ⟨some 6, (.mov (.const (.slice [] .nil))), false, none⟩]
def c41_1 : ACode := (.region o41_0 [0, 2, 4])
def w41_1 (_P : Program) (Q : Exit → Slots → Mem → Prop) (M : Mem) (v0 : V) (v1 : V) (v2 : V) : Prop :=
  @OptMH (boxV 13 v1 M) ⟨fun t4_1 M1 =>
  Q .normal [(0, v0), (2, v2), (4, t4_1)] M1⟩
theorem e41_1 (P : Program) (Q : Exit → Slots → Mem → Prop) (s : Slots) (M : Mem) : wpC P c41_1 Q s M = w41_1 P Q M (sget s 0) (sget s 1) (sget s 2) := by kernel_rfl
def o41_2 : List AOper := [⟨some 9, (.mov (.tmp 0)), false, none⟩,
  ⟨some 10, (.lenSl (.tmp 9)), false, none⟩,
  ⟨some 7, (.mov (.tmp 10)), false, none⟩]
def c41_3 : ACode := (.region o41_2 [0, 2, 4, 7])
def w41_3 (_P : Program) (Q : Exit → Slots → Mem → Prop) (M : Mem) (v0 : V) (v2 : V) (v4 : V) : Prop :=
  @OptVH (lenV v0 M) ⟨fun t10_2 =>
  Q .normal [(0, v0), (2, v2), (4, v4), (7, t10_2)] M⟩
theorem e41_3 (P : Program) (Q : Exit → Slots → Mem → Prop) (s : Slots) (M : Mem) : wpC P c41_3 Q s M = w41_3 P Q M (sget s 0) (sget s 2) (sget s 4) := by kernel_rfl
def o41_4 : List AOper := [⟨some 11, (.mov (.tmp 7)), false, none⟩,
  ⟨some 12, (.bin .gtr .none (.tmp 11) (.const (.int .i64 0))), true, none⟩,
  ⟨some 13, (.mov (.tmp 12)), true, none⟩,
  ⟨some 14, (.mov (.tmp 2)), false, some (13, true)⟩,
  ⟨some 15, (.load 13 true (.tmp 4)), false, some (13, true)⟩,
  ⟨some 16, (.mov (.tmp 0)), false, some (13, true)⟩,
  ⟨some 17, (.mov (.tmp 7)), false, some (13, true)⟩,
  ⟨some 18, (.bin .sub .none (.tmp 17) (.const (.int .i64 1))), false, some (13, true)⟩,
  ⟨some 19, (.indexSl 13 (.tmp 16) (.tmp 18)), false, some (13, true)⟩,
  ⟨some 20, (.load 13 true (.tmp 19)), false, some (13, true)⟩,
  ⟨some 21, (.callv (.tmp 14) [(.tmp 15), (.tmp 20)]), true, some (13, true)⟩,
  ⟨some 22, (.pick (.tmp 13) (.tmp 21) (.const (.bool false))), true, none⟩]
def c41_5 : ACode := (.seq (.mixed o41_4 [true, true, true, true, true, true, true, true, true, true, false, true] [0, 2, 4, 7, 22]) (.cond (.tmp 22) .skip (.exit 0)))
def w41_5 (P : Program) (Q : Exit → Slots → Mem → Prop) (M : Mem) (v0 : V) (v2 : V) (v4 : V) (v7 : V) : Prop :=
  @OptBH (binV .gtr .none v7 (.int .i64 0)) ⟨fun b12_2 =>
  @BIfH b12_2
  ⟨@OptVH (loadV 13 true v4 M) ⟨fun t15_5 =>
  @OptVH (binV .sub .none v7 (.int .i64 1)) ⟨fun t18_8 =>
  @OptVH (indexSlV 13 v0 t18_8 M) ⟨fun t19_9 =>
  @OptVH (loadV 13 true t19_9 M) ⟨fun t20_10 =>
  @CallV P false v2 [t15_5, t20_10] M ⟨fun t21_11 M11 => @OptBH (some t21_11) ⟨fun b21_11 =>
  @BIfH b21_11
  ⟨Q .normal [(0, v0), (2, v2), (4, v4), (7, v7), (22, (.bool b21_11))] M11⟩
  ⟨Q (.exit 0) [(0, v0), (2, v2), (4, v4), (7, v7), (22, (.bool b21_11))] M11⟩⟩⟩⟩⟩⟩⟩⟩
  ⟨Q (.exit 0) [(0, v0), (2, v2), (4, v4), (7, v7), (22, (.bool false))] M⟩⟩
theorem e41_5 (P : Program) (Q : Exit → Slots → Mem → Prop) (s : Slots) (M : Mem) : wpC P c41_5 Q s M = w41_5 P Q M (sget s 0) (sget s 2) (sget s 4) (sget s 7) := by kernel_rfl
def o41_6 : List AOper := [⟨some 23, (.mov (.tmp 7)), false, none⟩,
  ⟨some 24, (.bin .sub .none (.tmp 23) (.const (.int .i64 1))), false, none⟩,
  ⟨some 7, (.mov (.tmp 24)), false, none⟩]
def c41_7 : ACode := (.region o41_6 [0, 2, 4, 7])
def w41_7 (_P : Program) (Q : Exit → Slots → Mem → Prop) (M : Mem) (v0 : V) (v2 : V) (v4 : V) (v7 : V) : Prop :=
  @OptVH (binV .sub .none v7 (.int .i64 1)) ⟨fun t24_2 =>
  Q .normal [(0, v0), (2, v2), (4, v4), (7, t24_2)] M⟩
theorem e41_7 (P : Program) (Q : Exit → Slots → Mem → Prop) (s : Slots) (M : Mem) : wpC P c41_7 Q s M = w41_7 P Q M (sget s 0) (sget s 2) (sget s 4) (sget s 7) := by kernel_rfl
def c41_8 : ACode := (.block 1 c41_7)
def c41_9 : ACode := (.seq c41_5 c41_8)
def c41_10 : ACode := (.loop [0, 2, 4, 7] c41_9)
def c41_11 : ACode := (.block 0 c41_10)
def o41_12 : List AOper := [⟨some 8, (.newarr 13), false, none⟩]
def c41_13 : ACode := (.region o41_12 [0, 4, 7, 8])
def w41_13 (_P : Program) (Q : Exit → Slots → Mem → Prop) (M : Mem) (v0 : V) (v4 : V) (v7 : V) : Prop :=
  @OptMH (newarrV 13 M) ⟨fun t8_1 M1 =>
  Q .normal [(0, v0), (4, v4), (7, v7), (8, t8_1)] M1⟩
theorem e41_13 (P : Program) (Q : Exit → Slots → Mem → Prop) (s : Slots) (M : Mem) : wpC P c41_13 Q s M = w41_13 P Q M (sget s 0) (sget s 4) (sget s 7) := by kernel_rfl
def o41_14 : List AOper := [⟨some 25, (.mov (.tmp 8)), false, none⟩,
  ⟨some 26, (.mov (.tmp 0)), false, none⟩,
  ⟨some 27, (.mov (.tmp 7)), false, none⟩,
  ⟨some 28, (.slice 13 (.tmp 26) none (some (.tmp 27)) none), false, none⟩,
  ⟨some 29, (.append false 13 128 (.tmp 25) (.tmp 28)), false, none⟩,
  ⟨some 8, (.mov (.tmp 29)), false, none⟩]
def c41_15 : ACode := (.region o41_14 [0, 4, 7, 8])
def w41_15 (_P : Program) (Q : Exit → Slots → Mem → Prop) (M : Mem) (v0 : V) (v4 : V) (v7 : V) (v8 : V) : Prop :=
  @OptVH (sliceV 13 v0 none (some v7) none M) ⟨fun t28_4 =>
  @OptMH (appV false 13 128 v8 t28_4 M) ⟨fun t29_5 M5 =>
  Q .normal [(0, v0), (4, v4), (7, v7), (8, t29_5)] M5⟩⟩
theorem e41_15 (P : Program) (Q : Exit → Slots → Mem → Prop) (s : Slots) (M : Mem) : wpC P c41_15 Q s M = w41_15 P Q M (sget s 0) (sget s 4) (sget s 7) (sget s 8) := by kernel_rfl
def o41_16 : List AOper := [⟨some 30, (.mov (.tmp 8)), false, none⟩,
  ⟨some 31, (.load 13 true (.tmp 4)), false, none⟩,
  ⟨some 32, (.buildSlice [(.int .i64 0), (.int .i64 0), (.int .i64 0), (.int .i64 0), (.int .i64 0), (.str []), (.int .i64 0), (.int .i64 0), (.int .i64 0), (.int .i64 0), (.int .i64 0), (.bool false), (.slice [] .nil)] 13 1 [(0, (13, (.tmp 31)))]), false, none⟩,
  ⟨some 33, (.append false 13 128 (.tmp 30) (.tmp 32)), false, none⟩,
  ⟨some 8, (.mov (.tmp 33)), false, none⟩]
def c41_17 : ACode := (.region o41_16 [0, 7, 8])
def w41_17 (_P : Program) (Q : Exit → Slots → Mem → Prop) (M : Mem) (v0 : V) (v4 : V) (v7 : V) (v8 : V) : Prop :=
  @OptVH (loadV 13 true v4 M) ⟨fun t31_2 =>
  @OptVH (buildSliceV [(.int .i64 0), (.int .i64 0), (.int .i64 0), (.int .i64 0), (.int .i64 0), (.str []), (.int .i64 0), (.int .i64 0), (.int .i64 0), (.int .i64 0), (.int .i64 0), (.bool false), (.slice [] .nil)] 13 1 [(0, 13, t31_2)]) ⟨fun t32_3 =>
  @OptMH (appV false 13 128 v8 t32_3 M) ⟨fun t33_4 M4 =>
  Q .normal [(0, v0), (7, v7), (8, t33_4)] M4⟩⟩⟩
theorem e41_17 (P : Program) (Q : Exit → Slots → Mem → Prop) (s : Slots) (M : Mem) : wpC P c41_17 Q s M = w41_17 P Q M (sget s 0) (sget s 4) (sget s 7) (sget s 8) := by kernel_rfl
def o41_18 : List AOper := [⟨some 34, (.mov (.tmp 8)), false, none⟩,
  ⟨some 35, (.mov (.tmp 0)), false, none⟩,
  ⟨some 36, (.mov (.tmp 7)), false, none⟩,
  ⟨some 37, (.slice 13 (.tmp 35) (some (.tmp 36)) none none), false, none⟩,
  ⟨some 38, (.append false 13 128 (.tmp 34) (.tmp 37)), false, none⟩,
  ⟨some 6, (.mov (.tmp 38)), false, none⟩]
def c41_19 : ACode := (.region o41_18 [6])
def w41_19 (_P : Program) (Q : Exit → Slots → Mem → Prop) (M : Mem) (v0 : V) (v7 : V) (v8 : V) : Prop :=
  @OptVH (sliceV 13 v0 (some v7) none none M) ⟨fun t37_4 =>
  @OptMH (appV false 13 128 v8 t37_4 M) ⟨fun t38_5 M5 =>
  Q .normal [(6, t38_5)] M5⟩⟩
theorem e41_19 (P : Program) (Q : Exit → Slots → Mem → Prop) (s : Slots) (M : Mem) : wpC P c41_19 Q s M = w41_19 P Q M (sget s 0) (sget s 7) (sget s 8) := by kernel_rfl
def c41_20 : ACode := (.seq c41_19 .ret)
def c41_21 : ACode := (.seq c41_17 c41_20)
def c41_22 : ACode := (.seq c41_15 c41_21)
def c41_23 : ACode := (.seq c41_13 c41_22)
def c41_24 : ACode := (.seq c41_11 c41_23)
def c41_25 : ACode := (.seq c41_3 c41_24)
def c41_26 : ACode := (.seq c41_1 c41_25)
def fn_inbox_inserted_api_Message : AFn := ⟨39, [(.tmp 6)], c41_26⟩
theorem fn_inbox_inserted_api_Message_ok : resFn PR h_inbox_inserted_api_Message i_inbox_inserted_api_Message = some fn_inbox_inserted_api_Message := by kernel_rfl

def h_inbox_before : Hints := ⟨[(0, [2, 3]), (1, [2, 3, 5]), (2, [4]), (3, [2, 3, 16]), (4, [4]), (5, [2, 3, 27]), (6, [4]), (7, [4])], [], []⟩
def o42_0 : List AOper := [⟨some 2, (.box 13 (.tmp 0)), false, none⟩,
  ⟨some 3, (.box 13 (.tmp 1)), false, none⟩,
  ⟨some 4, (.mov (.const (.bool false))), true, none⟩]
def c42_1 : ACode := (.region o42_0 [2, 3])
def w42_1 (_P : Program) (Q : Exit → Slots → Mem → Prop) (M : Mem) (v0 : V) (v1 : V) : Prop :=
  @OptMH (boxV 13 v0 M) ⟨fun t2_1 M1 =>
  @OptMH (boxV 13 v1 M1) ⟨fun t3_2 M2 =>
  Q .normal [(2, t2_1), (3, t3_2)] M2⟩⟩
theorem e42_1 (P : Program) (Q : Exit → Slots → Mem → Prop) (s : Slots) (M : Mem) : wpC P c42_1 Q s M = w42_1 P Q M (sget s 0) (sget s 1) := by kernel_rfl
def o42_2 : List AOper := [⟨some 11, (.fieldAddr 5 (.tmp 2)), false, none⟩,
  ⟨some 12, (.load 1 false (.tmp 11)), false, none⟩,
  ⟨some 13, (.fieldAddr 5 (.tmp 3)), false, none⟩,
  ⟨some 14, (.load 1 false (.tmp 13)), false, none⟩,
  ⟨some 15, (.bin .lss .none (.tmp 12) (.tmp 14)), true, none⟩,
  ⟨some 4, (.mov (.tmp 15)), true, none⟩]
def c42_3 : ACode := (.region o42_2 [4])
def w42_3 (_P : Program) (Q : Exit → Slots → Mem → Prop) (M : Mem) (v2 : V) (v3 : V) : Prop :=
  @OptVH (moveV 5 v2) ⟨fun t11_1 =>
  @OptVH (loadV 1 false t11_1 M) ⟨fun t12_2 =>
  @OptVH (moveV 5 v3) ⟨fun t13_3 =>
  @OptVH (loadV 1 false t13_3 M) ⟨fun t14_4 =>
  @OptBH (binV .lss .none t12_2 t14_4) ⟨fun b15_5 =>
  Q .normal [(4, (.bool b15_5))] M⟩⟩⟩⟩⟩
theorem e42_3 (P : Program) (Q : Exit → Slots → Mem → Prop) (s : Slots) (M : Mem) : wpC P c42_3 Q s M = w42_3 P Q M (sget s 2) (sget s 3) := by kernel_rfl
def c42_4 : ACode := (.seq c42_3 .ret)
def o42_5 : List AOper := [⟨some 22, (.fieldAddr 6 (.tmp 2)), false, none⟩,
  ⟨some 23, (.load 1 false (.tmp 22)), false, none⟩,
  ⟨some 24, (.fieldAddr 6 (.tmp 3)), false, none⟩,
  ⟨some 25, (.load 1 false (.tmp 24)), false, none⟩,
  ⟨some 26, (.bin .lss .none (.tmp 23) (.tmp 25)), true, none⟩,
  ⟨some 4, (.mov (.tmp 26)), true, none⟩]
def c42_6 : ACode := (.region o42_5 [4])
def w42_6 (_P : Program) (Q : Exit → Slots → Mem → Prop) (M : Mem) (v2 : V) (v3 : V) : Prop :=
  @OptVH (moveV 6 v2) ⟨fun t22_1 =>
  @OptVH (loadV 1 false t22_1 M) ⟨fun t23_2 =>
  @OptVH (moveV 6 v3) ⟨fun t24_3 =>
  @OptVH (loadV 1 false t24_3 M) ⟨fun t25_4 =>
  @OptBH (binV .lss .none t23_2 t25_4) ⟨fun b26_5 =>
  Q .normal [(4, (.bool b26_5))] M⟩⟩⟩⟩⟩
theorem e42_6 (P : Program) (Q : Exit → Slots → Mem → Prop) (s : Slots) (M : Mem) : wpC P c42_6 Q s M = w42_6 P Q M (sget s 2) (sget s 3) := by kernel_rfl
def c42_7 : ACode := (.seq c42_6 .ret)
def o42_8 : List AOper := [⟨some 33, (.fieldAddr 7 (.tmp 2)), false, none⟩,
  ⟨some 34, (.load 1 false (.tmp 33)), false, none⟩,
  ⟨some 35, (.fieldAddr 7 (.tmp 3)), false, none⟩,
  ⟨some 36, (.load 1 false (.tmp 35)), false, none⟩,
  ⟨some 37, (.bin .lss .none (.tmp 34) (.tmp 36)), true, none⟩,
  ⟨some 4, (.mov (.tmp 37)), true, none⟩]
def c42_9 : ACode := (.region o42_8 [4])
def w42_9 (_P : Program) (Q : Exit → Slots → Mem → Prop) (M : Mem) (v2 : V) (v3 : V) : Prop :=
  @OptVH (moveV 7 v2) ⟨fun t33_1 =>
  @OptVH (loadV 1 false t33_1 M) ⟨fun t34_2 =>
  @OptVH (moveV 7 v3) ⟨fun t35_3 =>
  @OptVH (loadV 1 false t35_3 M) ⟨fun t36_4 =>
  @OptBH (binV .lss .none t34_2 t36_4) ⟨fun b37_5 =>
  Q .normal [(4, (.bool b37_5))] M⟩⟩⟩⟩⟩
theorem e42_9 (P : Program) (Q : Exit → Slots → Mem → Prop) (s : Slots) (M : Mem) : wpC P c42_9 Q s M = w42_9 P Q M (sget s 2) (sget s 3) := by kernel_rfl
def c42_10 : ACode := (.seq c42_9 .ret)
def o42_11 : List AOper := [⟨some 28, (.fieldAddr 7 (.tmp 2)), false, none⟩,
  ⟨some 29, (.load 1 false (.tmp 28)), false, none⟩,
  ⟨some 30, (.fieldAddr 7 (.tmp 3)), false, none⟩,
  ⟨some 31, (.load 1 false (.tmp 30)), false, none⟩,
  ⟨some 32, (.bin .neq .none (.tmp 29) (.tmp 31)), true, none⟩,
  ⟨some 27, (.mov (.tmp 32)), true, none⟩]
def c42_12 : ACode := (.seq (.region o42_11 [2, 3, 27]) (.cond (.tmp 27) c42_10 .skip))
def w42_12 (P : Program) (Q : Exit → Slots → Mem → Prop) (M : Mem) (v2 : V) (v3 : V) : Prop :=
  @OptVH (moveV 7 v2) ⟨fun t28_1 =>
  @OptVH (loadV 1 false t28_1 M) ⟨fun t29_2 =>
  @OptVH (moveV 7 v3) ⟨fun t30_3 =>
  @OptVH (loadV 1 false t30_3 M) ⟨fun t31_4 =>
  @OptBH (binV .neq .none t29_2 t31_4) ⟨fun b32_5 =>
  @BIfH b32_5
  ⟨wpC P c42_10 Q [(2, v2), (3, v3), (27, (.bool b32_5))] M⟩
  ⟨Q .normal [(2, v2), (3, v3), (27, (.bool b32_5))] M⟩⟩⟩⟩⟩⟩
theorem e42_12 (P : Program) (Q : Exit → Slots → Mem → Prop) (s : Slots) (M : Mem) : wpC P c42_12 Q s M = w42_12 P Q M (sget s 2) (sget s 3) := by kernel_rfl
def o42_13 : List AOper := [⟨some 17, (.fieldAddr 6 (.tmp 2)), false, none⟩,
  ⟨some 18, (.load 1 false (.tmp 17)), false, none⟩,
  ⟨some 19, (.fieldAddr 6 (.tmp 3)), false, none⟩,
  ⟨some 20, (.load 1 false (.tmp 19)), false, none⟩,
  ⟨some 21, (.bin .neq .none (.tmp 18) (.tmp 20)), true, none⟩,
  ⟨some 16, (.mov (.tmp 21)), true, none⟩]
def c42_14 : ACode := (.seq (.region o42_13 [2, 3, 16]) (.cond (.tmp 16) c42_7 c42_12))
def w42_14 (P : Program) (Q : Exit → Slots → Mem → Prop) (M : Mem) (v2 : V) (v3 : V) : Prop :=
  @OptVH (moveV 6 v2) ⟨fun t17_1 =>
  @OptVH (loadV 1 false t17_1 M) ⟨fun t18_2 =>
  @OptVH (moveV 6 v3) ⟨fun t19_3 =>
  @OptVH (loadV 1 false t19_3 M) ⟨fun t20_4 =>
  @OptBH (binV .neq .none t18_2 t20_4) ⟨fun b21_5 =>
  @BIfH b21_5
  ⟨wpC P c42_7 Q [(2, v2), (3, v3), (16, (.bool b21_5))] M⟩
  ⟨wpC P c42_12 Q [(2, v2), (3, v3), (16, (.bool b21_5))] M⟩⟩⟩⟩⟩⟩
theorem e42_14 (P : Program) (Q : Exit → Slots → Mem → Prop) (s : Slots) (M : Mem) : wpC P c42_14 Q s M = w42_14 P Q M (sget s 2) (sget s 3) := by kernel_rfl
def o42_15 : List AOper := [⟨some 6, (.fieldAddr 5 (.tmp 2)), false, none⟩,
  ⟨some 7, (.load 1 false (.tmp 6)), false, none⟩,
  ⟨some 8, (.fieldAddr 5 (.tmp 3)), false, none⟩,
  ⟨some 9, (.load 1 false (.tmp 8)), false, none⟩,
  ⟨some 10, (.bin .neq .none (.tmp 7) (.tmp 9)), true, none⟩,
  ⟨some 5, (.mov (.tmp 10)), true, none⟩]
def c42_16 : ACode := (.seq (.region o42_15 [2, 3, 5]) (.cond (.tmp 5) c42_4 c42_14))
def w42_16 (P : Program) (Q : Exit → Slots → Mem → Prop) (M : Mem) (v2 : V) (v3 : V) : Prop :=
  @OptVH (moveV 5 v2) ⟨fun t6_1 =>
  @OptVH (loadV 1 false t6_1 M) ⟨fun t7_2 =>
  @OptVH (moveV 5 v3) ⟨fun t8_3 =>
  @OptVH (loadV 1 false t8_3 M) ⟨fun t9_4 =>
  @OptBH (binV .neq .none t7_2 t9_4) ⟨fun b10_5 =>
  @BIfH b10_5
  ⟨wpC P c42_4 Q [(2, v2), (3, v3), (5, (.bool b10_5))] M⟩
  ⟨wpC P c42_14 Q [(2, v2), (3, v3), (5, (.bool b10_5))] M⟩⟩⟩⟩⟩⟩
theorem e42_16 (P : Program) (Q : Exit → Slots → Mem → Prop) (s : Slots) (M : Mem) : wpC P c42_16 Q s M = w42_16 P Q M (sget s 2) (sget s 3) := by kernel_rfl
def c42_17 : ACode := (.block 0 c42_16)
def o42_18 : List AOper := [⟨some 38, (.fieldAddr 1 (.tmp 2)), false, none⟩,
  ⟨some 39, (.load 1 false (.tmp 38)), false, none⟩,
  ⟨some 40, (.fieldAddr 1 (.tmp 3)), false, none⟩,
  ⟨some 41, (.load 1 false (.tmp 40)), false, none⟩,
  ⟨some 42, (.bin .lss .none (.tmp 39) (.tmp 41)), true, none⟩,
  ⟨some 4, (.mov (.tmp 42)), true, none⟩]
def c42_19 : ACode := (.region o42_18 [4])
def w42_19 (_P : Program) (Q : Exit → Slots → Mem → Prop) (M : Mem) (v2 : V) (v3 : V) : Prop :=
  @OptVH (moveV 1 v2) ⟨fun t38_1 =>
  @OptVH (loadV 1 false t38_1 M) ⟨fun t39_2 =>
  @OptVH (moveV 1 v3) ⟨fun t40_3 =>
  @OptVH (loadV 1 false t40_3 M) ⟨fun t41_4 =>
  @OptBH (binV .lss .none t39_2 t41_4) ⟨fun b42_5 =>
  Q .normal [(4, (.bool b42_5))] M⟩⟩⟩⟩⟩
theorem e42_19 (P : Program) (Q : Exit → Slots → Mem → Prop) (s : Slots) (M : Mem) : wpC P c42_19 Q s M = w42_19 P Q M (sget s 2) (sget s 3) := by kernel_rfl
def c42_20 : ACode := (.seq c42_19 .ret)
def c42_21 : ACode := (.seq c42_17 c42_20)
def c42_22 : ACode := (.seq c42_1 c42_21)
def fn_inbox_before : AFn := ⟨43, [(.tmp 4)], c42_22⟩
theorem fn_inbox_before_ok : resFn PR h_inbox_before i_inbox_before = some fn_inbox_before := by kernel_rfl

def h_inbox_Inbox_Messages_1 : Hints := ⟨[(0, []), (1, [2])], [], []⟩
def o43_0 : List AOper := [⟨some 1, (.box 13 (.tmp 0)), false, none⟩,
  ⟨some 2, (.mov (.const (.bool false))), true, none⟩]
def c43_1 : ACode := (.region o43_0 [])
def w43_1 (_P : Program) (Q : Exit → Slots → Mem → Prop) (M : Mem) (v0 : V) : Prop :=
  @OptMH (boxV 13 v0 M) ⟨fun _t1_1 M1 =>
  Q .normal [] M1⟩
theorem e43_1 (P : Program) (Q : Exit → Slots → Mem → Prop) (s : Slots) (M : Mem) : wpC P c43_1 Q s M = w43_1 P Q M (sget s 0) := by kernel_rfl
def o43_2 : List AOper := [⟨some 2, (.mov (.const (.bool true))), true, none⟩]
def c43_3 : ACode := (.region o43_2 [2])
def w43_3 (_P : Program) (Q : Exit → Slots → Mem → Prop) (M : Mem) : Prop :=
  Q .normal [(2, (.bool true))] M
theorem e43_3 (P : Program) (Q : Exit → Slots → Mem → Prop) (s : Slots) (M : Mem) : wpC P c43_3 Q s M = w43_3 P Q M := by kernel_rfl
def c43_4 : ACode := (.seq c43_3 .ret)
def c43_5 : ACode := (.seq c43_1 c43_4)
def fn_inbox_Inbox_Messages_1 : AFn := ⟨3, [(.tmp 2)], c43_5⟩
theorem fn_inbox_Inbox_Messages_1_ok : resFn PR h_inbox_Inbox_Messages_1 i_inbox_Inbox_Messages_1 = some fn_inbox_Inbox_Messages_1 := by kernel_rfl

def h_inbox_Inbox_exists : Hints := ⟨[(0, [0, 1]), (1, [4])], [], []⟩
def o44_0 : List AOper := [⟨some 4, (.mov (.const (.bool false))), true, none⟩]
def c44_1 : ACode := (.region o44_0 [0, 1])
def w44_1 (_P : Program) (Q : Exit → Slots → Mem → Prop) (M : Mem) (v0 : V) (v1 : V) : Prop :=
  Q .normal [(0, v0), (1, v1)] M
theorem e44_1 (P : Program) (Q : Exit → Slots → Mem → Prop) (s : Slots) (M : Mem) : wpC P c44_1 Q s M = w44_1 P Q M (sget s 0) (sget s 1) := by kernel_rfl
def o44_2 : List AOper := [⟨some 5, (.mov (.tmp 0)), false, none⟩,
  ⟨some 6, (.bin .neq .ptr (.tmp 5) (.const .nilp)), true, none⟩,
  ⟨some 7, (.mov (.tmp 6)), true, none⟩,
  ⟨some 8, (.mov (.tmp 1)), false, some (7, true)⟩,
  ⟨some 9, (.bin .geq .none (.tmp 8) (.const (.int .i64 0))), true, some (7, true)⟩,
  ⟨some 10, (.pick (.tmp 7) (.tmp 9) (.const (.bool false))), true, none⟩,
  ⟨some 11, (.mov (.tmp 10)), true, none⟩,
  ⟨some 12, (.mov (.tmp 1)), false, some (11, true)⟩,
  ⟨some 13, (.mov (.tmp 0)), false, some (11, true)⟩,
  ⟨some 14, (.nilCheck (.tmp 13)), false, some (11, true)⟩,
  ⟨some 15, (.fieldAddr 0 (.tmp 14)), false, some (11, true)⟩,
  ⟨some 16, (.load 1 false (.tmp 15)), false, some (11, true)⟩,
  ⟨some 17, (.lenSl (.tmp 16)), false, some (11, true)⟩,
  ⟨some 18, (.bin .lss .none (.tmp 12) (.tmp 17)), true, some (11, true)⟩,
  ⟨some 19, (.pick (.tmp 11) (.tmp 18) (.const (.bool false))), true, none⟩,
  ⟨some 4, (.mov (.tmp 19)), true, none⟩]
def c44_3 : ACode := (.region o44_2 [4])
def w44_3 (_P : Program) (Q : Exit → Slots → Mem → Prop) (M : Mem) (v0 : V) (v1 : V) : Prop :=
  @OptBH (binV .neq .ptr v0 .nilp) ⟨fun b6_2 =>
  @BIfH b6_2
  ⟨@OptBH (binV .geq .none v1 (.int .i64 0)) ⟨fun b9_5 =>
  @BIfH b9_5
  ⟨@OptVH (nilCheckV v0) ⟨fun t14_10 =>
  @OptVH (moveV 0 t14_10) ⟨fun t15_11 =>
  @OptVH (loadV 1 false t15_11 M) ⟨fun t16_12 =>
  @OptVH (lenV t16_12 M) ⟨fun t17_13 =>
  @OptBH (binV .lss .none v1 t17_13) ⟨fun b18_14 =>
  Q .normal [(4, (.bool b18_14))] M⟩⟩⟩⟩⟩⟩
  ⟨Q .normal [(4, (.bool false))] M⟩⟩⟩
  ⟨Q .normal [(4, (.bool false))] M⟩⟩
theorem e44_3 (P : Program) (Q : Exit → Slots → Mem → Prop) (s : Slots) (M : Mem) : wpC P c44_3 Q s M = w44_3 P Q M (sget s 0) (sget s 1) := by kernel_rfl
def c44_4 : ACode := (.seq c44_3 .ret)
def c44_5 : ACode := (.seq c44_1 c44_4)
def fn_inbox_Inbox_exists : AFn := ⟨20, [(.tmp 4)], c44_5⟩
theorem fn_inbox_Inbox_exists_ok : resFn PR h_inbox_Inbox_exists i_inbox_Inbox_exists = some fn_inbox_Inbox_exists := by kernel_rfl

def h_inbox_heard_silent : Hints := ⟨[(0, [0, 1, 2]), (1, [6])], [], []⟩
def o45_0 : List AOper := [⟨some 6, (.mov (.const (.bool false))), true, none⟩]
def c45_1 : ACode := (.region o45_0 [0, 1, 2])
def w45_1 (_P : Program) (Q : Exit → Slots → Mem → Prop) (M : Mem) (v0 : V) (v1 : V) (v2 : V) : Prop :=
  Q .normal [(0, v0), (1, v1), (2, v2)] M
theorem e45_1 (P : Program) (Q : Exit → Slots → Mem → Prop) (s : Slots) (M : Mem) : wpC P c45_1 Q s M = w45_1 P Q M (sget s 0) (sget s 1) (sget s 2) := by kernel_rfl
def o45_2 : List AOper := [⟨some 7, (.mov (.tmp 0)), false, none⟩,
  ⟨some 8, (.nilCheck (.tmp 7)), false, none⟩,
  ⟨some 9, (.fieldAddr 0 (.tmp 8)), false, none⟩,
  ⟨some 10, (.load 1 false (.tmp 9)), true, none⟩,
  ⟨some 11, (.un .not (.tmp 10)), true, none⟩,
  ⟨some 12, (.mov (.tmp 11)), true, none⟩,
  ⟨some 13, (.mov (.tmp 1)), false, some (12, false)⟩,
  ⟨some 14, (.mov (.tmp 0)), false, some (12, false)⟩,
  ⟨some 15, (.nilCheck (.tmp 14)), false, some (12, false)⟩,
  ⟨some 16, (.fieldAddr 1 (.tmp 15)), false, some (12, false)⟩,
  ⟨some 17, (.load 1 false (.tmp 16)), false, some (12, false)⟩,
  ⟨some 18, (.bin .gtr .none (.tmp 13) (.tmp 17)), true, some (12, false)⟩,
  ⟨some 19, (.mov (.tmp 18)), true, some (12, false)⟩,
  ⟨some 20, (.mov (.tmp 1)), false, some (19, true)⟩,
  ⟨some 21, (.conv .u64 (.tmp 20)), false, some (19, true)⟩,
  ⟨some 22, (.mov (.tmp 0)), false, some (19, true)⟩,
  ⟨some 23, (.nilCheck (.tmp 22)), false, some (19, true)⟩,
  ⟨some 24, (.fieldAddr 1 (.tmp 23)), false, some (19, true)⟩,
  ⟨some 25, (.load 1 false (.tmp 24)), false, some (19, true)⟩,
  ⟨some 26, (.conv .u64 (.tmp 25)), false, some (19, true)⟩,
  ⟨some 27, (.bin .sub .none (.tmp 21) (.tmp 26)), false, some (19, true)⟩,
  ⟨some 28, (.mov (.tmp 2)), false, some (19, true)⟩,
  ⟨some 29, (.conv .u64 (.tmp 28)), false, some (19, true)⟩,
  ⟨some 30, (.bin .gtr .none (.tmp 27) (.tmp 29)), true, some (19, true)⟩,
  ⟨some 31, (.pick (.tmp 19) (.tmp 30) (.const (.bool false))), true, some (12, false)⟩,
  ⟨some 32, (.pick (.tmp 12) (.const (.bool true)) (.tmp 31)), true, none⟩,
  ⟨some 6, (.mov (.tmp 32)), true, none⟩]
def c45_3 : ACode := (.region o45_2 [6])
def w45_3 (_P : Program) (Q : Exit → Slots → Mem → Prop) (M : Mem) (v0 : V) (v1 : V) (v2 : V) : Prop :=
  @OptVH (nilCheckV v0) ⟨fun t8_2 =>
  @OptVH (moveV 0 t8_2) ⟨fun t9_3 =>
  @OptBH (loadV 1 false t9_3 M) ⟨fun b10_4 =>
  @OptBH (unV .not (.bool b10_4)) ⟨fun b11_5 =>
  @BIfH b11_5
  ⟨Q .normal [(6, (.bool true))] M⟩
  ⟨@OptVH (nilCheckV v0) ⟨fun t15_11 =>
  @OptVH (moveV 1 t15_11) ⟨fun t16_12 =>
  @OptVH (loadV 1 false t16_12 M) ⟨fun t17_13 =>
  @OptBH (binV .gtr .none v1 t17_13) ⟨fun b18_14 =>
  @BIfH b18_14
  ⟨@OptVH (convV .u64 v1) ⟨fun t21_17 =>
  @OptVH (nilCheckV v0) ⟨fun t23_19 =>
  @OptVH (moveV 1 t23_19) ⟨fun t24_20 =>
  @OptVH (loadV 1 false t24_20 M) ⟨fun t25_21 =>
  @OptVH (convV .u64 t25_21) ⟨fun t26_22 =>
  @OptVH (binV .sub .none t21_17 t26_22) ⟨fun t27_23 =>
  @OptVH (convV .u64 v2) ⟨fun t29_25 =>
  @OptBH (binV .gtr .none t27_23 t29_25) ⟨fun b30_26 =>
  Q .normal [(6, (.bool b30_26))] M⟩⟩⟩⟩⟩⟩⟩⟩⟩
  ⟨Q .normal [(6, (.bool false))] M⟩⟩⟩⟩⟩⟩⟩⟩⟩⟩
theorem e45_3 (P : Program) (Q : Exit → Slots → Mem → Prop) (s : Slots) (M : Mem) : wpC P c45_3 Q s M = w45_3 P Q M (sget s 0) (sget s 1) (sget s 2) := by kernel_rfl
def c45_4 : ACode := (.seq c45_3 .ret)
def c45_5 : ACode := (.seq c45_1 c45_4)
def fn_inbox_heard_silent : AFn := ⟨33, [(.tmp 6)], c45_5⟩
theorem fn_inbox_heard_silent_ok : resFn PR h_inbox_heard_silent i_inbox_heard_silent = some fn_inbox_heard_silent := by kernel_rfl

def h_transitref32_moment : Hints := ⟨[(0, [0]), (1, [2])], [], []⟩
def o46_0 : List AOper := [⟨some 2, (.mov (.const (.bool false))), true, none⟩]
def c46_1 : ACode := (.region o46_0 [0])
def w46_1 (_P : Program) (Q : Exit → Slots → Mem → Prop) (M : Mem) (v0 : V) : Prop :=
  Q .normal [(0, v0)] M
theorem e46_1 (P : Program) (Q : Exit → Slots → Mem → Prop) (s : Slots) (M : Mem) : wpC P c46_1 Q s M = w46_1 P Q M (sget s 0) := by kernel_rfl
def o46_2 : List AOper := [⟨some 3, (.mov (.tmp 0)), false, none⟩,
  ⟨some 4, (.bin .geq .none (.tmp 3) (.const (.int .i64 0))), true, none⟩,
  ⟨some 5, (.mov (.tmp 4)), true, none⟩,
  ⟨some 6, (.mov (.tmp 0)), false, some (5, true)⟩,
  ⟨some 7, (.bin .leq .none (.tmp 6) (.const (.int .i64 3155932800))), true, some (5, true)⟩,
  ⟨some 8, (.pick (.tmp 5) (.tmp 7) (.const (.bool false))), true, none⟩,
  ⟨some 2, (.mov (.tmp 8)), true, none⟩]
def c46_3 : ACode := (.region o46_2 [2])
def w46_3 (_P : Program) (Q : Exit → Slots → Mem → Prop) (M : Mem) (v0 : V) : Prop :=
  @OptBH (binV .geq .none v0 (.int .i64 0)) ⟨fun b4_2 =>
  @BIfH b4_2
  ⟨@OptBH (binV .leq .none v0 (.int .i64 3155932800)) ⟨fun b7_5 =>
  Q .normal [(2, (.bool b7_5))] M⟩⟩
  ⟨Q .normal [(2, (.bool false))] M⟩⟩
theorem e46_3 (P : Program) (Q : Exit → Slots → Mem → Prop) (s : Slots) (M : Mem) : wpC P c46_3 Q s M = w46_3 P Q M (sget s 0) := by kernel_rfl
def c46_4 : ACode := (.seq c46_3 .ret)
def c46_5 : ACode := (.seq c46_1 c46_4)
def fn_transitref32_moment : AFn := ⟨9, [(.tmp 2)], c46_5⟩
theorem fn_transitref32_moment_ok : resFn PR h_transitref32_moment i_transitref32_moment = some fn_transitref32_moment := by kernel_rfl

def h_transitref31_Check : Hints := ⟨[(0, [1]), (1, [1, 16]), (2, [2]), (3, [1, 19]), (4, [2]), (5, [1, 44]), (6, [2]), (7, [1, 52]), (8, [2]), (9, [1, 56]), (10, [2]), (11, [1, 64]), (12, [2]), (13, [1, 67]), (14, [2]), (15, [1, 3, 4, 5, 6]), (16, [1, 3, 4, 5, 6, 126]), (17, [2]), (18, [1, 3, 4, 5, 6, 127]), (19, [1, 3, 4, 5, 6, 8]), (20, [1, 3, 4, 5, 6, 8, 135]), (21, [2]), (22, [175]), (23, [2]), (24, [2])], [], []⟩
def o47_0 : List AOper := [⟨some 1, (.box 13 (.tmp 0)), false, none⟩,
  ⟨some 2, (.mov (.const (.int .i64 0))), false, none⟩]
def c47_1 : ACode := (.region o47_0 [1])
def w47_1 (_P : Program) (Q : Exit → Slots → Mem → Prop) (M : Mem) (v0 : V) : Prop :=
  @OptMH (boxV 13 v0 M) ⟨fun t1_1 M1 =>
  Q .normal [(1, t1_1)] M1⟩
theorem e47_1 (P : Program) (Q : Exit → Slots → Mem → Prop) (s : Slots) (M : Mem) : wpC P c47_1 Q s M = w47_1 P Q M (sget s 0) := by kernel_rfl
def o47_2 : List AOper := [⟨some 2, (.mov (.const (.int .i64 36))), false, none⟩]
def c47_3 : ACode := (.region o47_2 [2])
def w47_3 (_P : Program) (Q : Exit → Slots → Mem → Prop) (M : Mem) : Prop :=
  Q .normal [(2, (.int .i64 36))] M
theorem e47_3 (P : Program) (Q : Exit → Slots → Mem → Prop) (s : Slots) (M : Mem) : wpC P c47_3 Q s M = w47_3 P Q M := by kernel_rfl
def c47_4 : ACode := (.seq c47_3 .ret)
def o47_5 : List AOper := [⟨some 9, (.fieldAddr 0 (.tmp 1)), false, none⟩,
  ⟨some 10, (.load 1 false (.tmp 9)), false, none⟩,
  ⟨some 11, (.bin .lss .none (.tmp 10) (.const (.int .i64 0))), true, none⟩,
  ⟨some 12, (.mov (.tmp 11)), true, none⟩,
  ⟨some 13, (.fieldAddr 0 (.tmp 1)), false, some (12, false)⟩,
  ⟨some 14, (.load 1 false (.tmp 13)), false, some (12, false)⟩,
  ⟨some 15, (.bin .gtr .none (.tmp 14) (.const (.int .i64 7))), true, some (12, false)⟩,
  ⟨some 16, (.pick (.tmp 12) (.const (.bool true)) (.tmp 15)), true, none⟩]
def c47_6 : ACode := (.seq (.region o47_5 [1, 16]) (.cond (.tmp 16) c47_4 .skip))
def w47_6 (P : Program) (Q : Exit → Slots → Mem → Prop) (M : Mem) (v1 : V) : Prop :=
  @OptVH (moveV 0 v1) ⟨fun t9_1 =>
  @OptVH (loadV 1 false t9_1 M) ⟨fun t10_2 =>
  @OptBH (binV .lss .none t10_2 (.int .i64 0)) ⟨fun b11_3 =>
  @BIfH b11_3
  ⟨wpC P c47_4 Q [(1, v1), (16, (.bool true))] M⟩
  ⟨@OptVH (moveV 0 v1) ⟨fun t13_6 =>
  @OptVH (loadV 1 false t13_6 M) ⟨fun t14_7 =>
  @OptBH (binV .gtr .none t14_7 (.int .i64 7)) ⟨fun b15_8 =>
  @BIfH b15_8
  ⟨wpC P c47_4 Q [(1, v1), (16, (.bool b15_8))] M⟩
  ⟨Q .normal [(1, v1), (16, (.bool b15_8))] M⟩⟩⟩⟩⟩⟩⟩⟩
theorem e47_6 (P : Program) (Q : Exit → Slots → Mem → Prop) (s : Slots) (M : Mem) : wpC P c47_6 Q s M = w47_6 P Q M (sget s 1) := by kernel_rfl
def o47_7 : List AOper := [⟨some 2, (.mov (.const (.int .i64 2))), false, none⟩]
def c47_8 : ACode := (.region o47_7 [2])
def w47_8 (_P : Program) (Q : Exit → Slots → Mem → Prop) (M : Mem) : Prop :=
  Q .normal [(2, (.int .i64 2))] M
theorem e47_8 (P : Program) (Q : Exit → Slots → Mem → Prop) (s : Slots) (M : Mem) : wpC P c47_8 Q s M = w47_8 P Q M := by kernel_rfl
def c47_9 : ACode := (.seq c47_8 .ret)
def o47_10 : List AOper := [⟨some 17, (.fieldAddr 1 (.tmp 1)), false, none⟩,
  ⟨some 18, (.load 1 false (.tmp 17)), false, none⟩,
  ⟨some 19, (.bin .lss .none (.tmp 18) (.const (.int .i64 1))), true, none⟩]
def c47_11 : ACode := (.seq (.region o47_10 [1, 19]) (.cond (.tmp 19) c47_9 .skip))
def w47_11 (P : Program) (Q : Exit → Slots → Mem → Prop) (M : Mem) (v1 : V) : Prop :=
  @OptVH (moveV 1 v1) ⟨fun t17_1 =>
  @OptVH (loadV 1 false t17_1 M) ⟨fun t18_2 =>
  @OptBH (binV .lss .none t18_2 (.int .i64 1)) ⟨fun b19_3 =>
  @BIfH b19_3
  ⟨wpC P c47_9 Q [(1, v1), (19, (.bool b19_3))] M⟩
  ⟨Q .normal [(1, v1), (19, (.bool b19_3))] M⟩⟩⟩⟩
theorem e47_11 (P : Program) (Q : Exit → Slots → Mem → Prop) (s : Slots) (M : Mem) : wpC P c47_11 Q s M = w47_11 P Q M (sget s 1) := by kernel_rfl
def o47_12 : List AOper := [⟨some 2, (.mov (.const (.int .i64 10))), false, none⟩]
def c47_13 : ACode := (.region o47_12 [2])
def w47_13 (_P : Program) (Q : Exit → Slots → Mem → Prop) (M : Mem) : Prop :=
  Q .normal [(2, (.int .i64 10))] M
theorem e47_13 (P : Program) (Q : Exit → Slots → Mem → Prop) (s : Slots) (M : Mem) : wpC P c47_13 Q s M = w47_13 P Q M := by kernel_rfl
def c47_14 : ACode := (.seq c47_13 .ret)
def o47_15 : List AOper := [⟨some 20, (.fieldAddr 2 (.tmp 1)), false, none⟩,
  ⟨some 21, (.load 1 false (.tmp 20)), false, none⟩,
  ⟨some 22, (.bin .lss .none (.tmp 21) (.const (.int .i64 0))), true, none⟩,
  ⟨some 23, (.mov (.tmp 22)), true, none⟩,
  ⟨some 24, (.fieldAddr 2 (.tmp 1)), false, some (23, false)⟩,
  ⟨some 25, (.load 1 false (.tmp 24)), false, some (23, false)⟩,
  ⟨some 26, (.bin .gtr .none (.tmp 25) (.const (.int .i64 3155932800))), true, some (23, false)⟩,
  ⟨some 27, (.pick (.tmp 23) (.const (.bool true)) (.tmp 26)), true, none⟩,
  ⟨some 28, (.mov (.tmp 27)), true, none⟩,
  ⟨some 29, (.fieldAddr 3 (.tmp 1)), false, some (28, false)⟩,
  ⟨some 30, (.load 1 false (.tmp 29)), false, some (28, false)⟩,
  ⟨some 31, (.bin .lss .none (.tmp 30) (.const (.int .i64 0))), true, some (28, false)⟩,
  ⟨some 32, (.pick (.tmp 28) (.const (.bool true)) (.tmp 31)), true, none⟩,
  ⟨some 33, (.mov (.tmp 32)), true, none⟩,
  ⟨some 34, (.fieldAddr 3 (.tmp 1)), false, some (33, false)⟩,
  ⟨some 35, (.load 1 false (.tmp 34)), false, some (33, false)⟩,
  ⟨some 36, (.bin .gtr .none (.tmp 35) (.const (.int .i64 3155932800))), true, some (33, false)⟩,
  ⟨some 37, (.pick (.tmp 33) (.const (.bool true)) (.tmp 36)), true, none⟩,
  ⟨some 38, (.mov (.tmp 37)), true, none⟩,
  ⟨some 39, (.fieldAddr 2 (.tmp 1)), false, some (38, false)⟩,
  ⟨some 40, (.load 1 false (.tmp 39)), false, some (38, false)⟩,
  ⟨some 41, (.fieldAddr 3 (.tmp 1)), false, some (38, false)⟩,
  ⟨some 42, (.load 1 false (.tmp 41)), false, some (38, false)⟩,
  ⟨some 43, (.bin .geq .none (.tmp 40) (.tmp 42)), true, some (38, false)⟩,
  ⟨some 44, (.pick (.tmp 38) (.const (.bool true)) (.tmp 43)), true, none⟩]
def c47_16 : ACode := (.seq (.region o47_15 [1, 44]) (.cond (.tmp 44) c47_14 .skip))
def w47_16 (P : Program) (Q : Exit → Slots → Mem → Prop) (M : Mem) (v1 : V) : Prop :=
  @OptVH (moveV 2 v1) ⟨fun t20_1 =>
  @OptVH (loadV 1 false t20_1 M) ⟨fun t21_2 =>
  @OptBH (binV .lss .none t21_2 (.int .i64 0)) ⟨fun b22_3 =>
  @BIfH b22_3
  ⟨wpC P c47_14 Q [(1, v1), (44, (.bool true))] M⟩
  ⟨@OptVH (moveV 2 v1) ⟨fun t24_12 =>
  @OptVH (loadV 1 false t24_12 M) ⟨fun t25_13 =>
  @OptBH (binV .gtr .none t25_13 (.int .i64 3155932800)) ⟨fun b26_14 =>
  @BIfH b26_14
  ⟨wpC P c47_14 Q [(1, v1), (44, (.bool true))] M⟩
  ⟨@OptVH (moveV 3 v1) ⟨fun t29_22 =>
  @OptVH (loadV 1 false t29_22 M) ⟨fun t30_23 =>
  @OptBH (binV .lss .none t30_23 (.int .i64 0)) ⟨fun b31_24 =>
  @BIfH b31_24
  ⟨wpC P c47_14 Q [(1, v1), (44, (.bool true))] M⟩
  ⟨@OptVH (moveV 3 v1) ⟨fun t34_30 =>
  @OptVH (loadV 1 false t34_30 M) ⟨fun t35_31 =>
  @OptBH (binV .gtr .none t35_31 (.int .i64 3155932800)) ⟨fun b36_32 =>
  @BIfH b36_32
  ⟨wpC P c47_14 Q [(1, v1), (44, (.bool true))] M⟩
  ⟨@OptVH (moveV 2 v1) ⟨fun t39_36 =>
  @OptVH (loadV 1 false t39_36 M) ⟨fun t40_37 =>
  @OptVH (moveV 3 v1) ⟨fun t41_38 =>
  @OptVH (loadV 1 false t41_38 M) ⟨fun t42_39 =>
  @OptBH (binV .geq .none t40_37 t42_39) ⟨fun b43_40 =>
  @BIfH b43_40
  ⟨wpC P c47_14 Q [(1, v1), (44, (.bool b43_40))] M⟩
  ⟨Q .normal [(1, v1), (44, (.bool b43_40))] M⟩⟩⟩⟩⟩⟩⟩⟩⟩⟩⟩⟩⟩⟩⟩⟩⟩⟩⟩⟩⟩⟩
theorem e47_16 (P : Program) (Q : Exit → Slots → Mem → Prop) (s : Slots) (M : Mem) : wpC P c47_16 Q s M = w47_16 P Q M (sget s 1) := by kernel_rfl
def o47_17 : List AOper := [⟨some 2, (.mov (.const (.int .i64 35))), false, none⟩]
def c47_18 : ACode := (.region o47_17 [2])
def w47_18 (_P : Program) (Q : Exit → Slots → Mem → Prop) (M : Mem) : Prop :=
  Q .normal [(2, (.int .i64 35))] M
theorem e47_18 (P : Program) (Q : Exit → Slots → Mem → Prop) (s : Slots) (M : Mem) : wpC P c47_18 Q s M = w47_18 P Q M := by kernel_rfl
def c47_19 : ACode := (.seq c47_18 .ret)
def o47_20 : List AOper := [⟨some 45, (.fieldAddr 4 (.tmp 1)), false, none⟩,
  ⟨some 46, (.load 1 false (.tmp 45)), false, none⟩,
  ⟨some 47, (.bin .lss .none (.tmp 46) (.const (.int .i64 1))), true, none⟩,
  ⟨some 48, (.mov (.tmp 47)), true, none⟩,
  ⟨some 49, (.fieldAddr 4 (.tmp 1)), false, some (48, false)⟩,
  ⟨some 50, (.load 1 false (.tmp 49)), false, some (48, false)⟩,
  ⟨some 51, (.bin .gtr .none (.tmp 50) (.const (.int .i64 6))), true, some (48, false)⟩,
  ⟨some 52, (.pick (.tmp 48) (.const (.bool true)) (.tmp 51)), true, none⟩]
def c47_21 : ACode := (.seq (.region o47_20 [1, 52]) (.cond (.tmp 52) c47_19 .skip))
def w47_21 (P : Program) (Q : Exit → Slots → Mem → Prop) (M : Mem) (v1 : V) : Prop :=
  @OptVH (moveV 4 v1) ⟨fun t45_1 =>
  @OptVH (loadV 1 false t45_1 M) ⟨fun t46_2 =>
  @OptBH (binV .lss .none t46_2 (.int .i64 1)) ⟨fun b47_3 =>
  @BIfH b47_3
  ⟨wpC P c47_19 Q [(1, v1), (52, (.bool true))] M⟩
  ⟨@OptVH (moveV 4 v1) ⟨fun t49_6 =>
  @OptVH (loadV 1 false t49_6 M) ⟨fun t50_7 =>
  @OptBH (binV .gtr .none t50_7 (.int .i64 6)) ⟨fun b51_8 =>
  @BIfH b51_8
  ⟨wpC P c47_19 Q [(1, v1), (52, (.bool b51_8))] M⟩
  ⟨Q .normal [(1, v1), (52, (.bool b51_8))] M⟩⟩⟩⟩⟩⟩⟩⟩
theorem e47_21 (P : Program) (Q : Exit → Slots → Mem → Prop) (s : Slots) (M : Mem) : wpC P c47_21 Q s M = w47_21 P Q M (sget s 1) := by kernel_rfl
def o47_22 : List AOper := [⟨some 2, (.mov (.const (.int .i64 12))), false, none⟩]
def c47_23 : ACode := (.region o47_22 [2])
def w47_23 (_P : Program) (Q : Exit → Slots → Mem → Prop) (M : Mem) : Prop :=
  Q .normal [(2, (.int .i64 12))] M
theorem e47_23 (P : Program) (Q : Exit → Slots → Mem → Prop) (s : Slots) (M : Mem) : wpC P c47_23 Q s M = w47_23 P Q M := by kernel_rfl
def c47_24 : ACode := (.seq c47_23 .ret)
def o47_25 : List AOper := [⟨some 53, (.fieldAddr 5 (.tmp 1)), false, none⟩,
  ⟨some 54, (.load 1 false (.tmp 53)), false, none⟩,
  ⟨some 55, (.call i_transitref15_Name [(.tmp 54)]), true, none⟩,
  ⟨some 56, (.un .not (.tmp 55)), true, none⟩]
def c47_26 : ACode := (.seq (.region o47_25 [1, 56]) (.cond (.tmp 56) c47_24 .skip))
def w47_26 (P : Program) (Q : Exit → Slots → Mem → Prop) (M : Mem) (v1 : V) : Prop :=
  @OptVH (moveV 5 v1) ⟨fun t53_1 =>
  @OptVH (loadV 1 false t53_1 M) ⟨fun t54_2 =>
  @CallH P i_transitref15_Name [t54_2] M ⟨fun t55_3 M3 => @OptBH (some t55_3) ⟨fun b55_3 =>
  @OptBH (unV .not (.bool b55_3)) ⟨fun b56_4 =>
  @BIfH b56_4
  ⟨wpC P c47_24 Q [(1, v1), (56, (.bool b56_4))] M3⟩
  ⟨Q .normal [(1, v1), (56, (.bool b56_4))] M3⟩⟩⟩⟩⟩⟩
theorem e47_26 (P : Program) (Q : Exit → Slots → Mem → Prop) (s : Slots) (M : Mem) : wpC P c47_26 Q s M = w47_26 P Q M (sget s 1) := by kernel_rfl
def o47_27 : List AOper := [⟨some 2, (.mov (.const (.int .i64 11))), false, none⟩]
def c47_28 : ACode := (.region o47_27 [2])
def w47_28 (_P : Program) (Q : Exit → Slots → Mem → Prop) (M : Mem) : Prop :=
  Q .normal [(2, (.int .i64 11))] M
theorem e47_28 (P : Program) (Q : Exit → Slots → Mem → Prop) (s : Slots) (M : Mem) : wpC P c47_28 Q s M = w47_28 P Q M := by kernel_rfl
def c47_29 : ACode := (.seq c47_28 .ret)
def o47_30 : List AOper := [⟨some 57, (.fieldAddr 6 (.tmp 1)), false, none⟩,
  ⟨some 58, (.load 1 false (.tmp 57)), false, none⟩,
  ⟨some 59, (.bin .lss .none (.tmp 58) (.const (.int .i64 0))), true, none⟩,
  ⟨some 60, (.mov (.tmp 59)), true, none⟩,
  ⟨some 61, (.fieldAddr 6 (.tmp 1)), false, some (60, false)⟩,
  ⟨some 62, (.load 1 false (.tmp 61)), false, some (60, false)⟩,
  ⟨some 63, (.bin .gtr .none (.tmp 62) (.const (.int .i64 36524))), true, some (60, false)⟩,
  ⟨some 64, (.pick (.tmp 60) (.const (.bool true)) (.tmp 63)), true, none⟩]
def c47_31 : ACode := (.seq (.region o47_30 [1, 64]) (.cond (.tmp 64) c47_29 .skip))
def w47_31 (P : Program) (Q : Exit → Slots → Mem → Prop) (M : Mem) (v1 : V) : Prop :=
  @OptVH (moveV 6 v1) ⟨fun t57_1 =>
  @OptVH (loadV 1 false t57_1 M) ⟨fun t58_2 =>
  @OptBH (binV .lss .none t58_2 (.int .i64 0)) ⟨fun b59_3 =>
  @BIfH b59_3
  ⟨wpC P c47_29 Q [(1, v1), (64, (.bool true))] M⟩
  ⟨@OptVH (moveV 6 v1) ⟨fun t61_6 =>
  @OptVH (loadV 1 false t61_6 M) ⟨fun t62_7 =>
  @OptBH (binV .gtr .none t62_7 (.int .i64 36524)) ⟨fun b63_8 =>
  @BIfH b63_8
  ⟨wpC P c47_29 Q [(1, v1), (64, (.bool b63_8))] M⟩
  ⟨Q .normal [(1, v1), (64, (.bool b63_8))] M⟩⟩⟩⟩⟩⟩⟩⟩
theorem e47_31 (P : Program) (Q : Exit → Slots → Mem → Prop) (s : Slots) (M : Mem) : wpC P c47_31 Q s M = w47_31 P Q M (sget s 1) := by kernel_rfl
def o47_32 : List AOper := [⟨some 2, (.mov (.const (.int .i64 2))), false, none⟩]
def c47_33 : ACode := (.region o47_32 [2])
def w47_33 (_P : Program) (Q : Exit → Slots → Mem → Prop) (M : Mem) : Prop :=
  Q .normal [(2, (.int .i64 2))] M
theorem e47_33 (P : Program) (Q : Exit → Slots → Mem → Prop) (s : Slots) (M : Mem) : wpC P c47_33 Q s M = w47_33 P Q M := by kernel_rfl
def c47_34 : ACode := (.seq c47_33 .ret)
def o47_35 : List AOper := [⟨some 65, (.fieldAddr 7 (.tmp 1)), false, none⟩,
  ⟨some 66, (.load 1 false (.tmp 65)), false, none⟩,
  ⟨some 67, (.bin .lss .none (.tmp 66) (.const (.int .i64 0))), true, none⟩]
def c47_36 : ACode := (.seq (.region o47_35 [1, 67]) (.cond (.tmp 67) c47_34 .skip))
def w47_36 (P : Program) (Q : Exit → Slots → Mem → Prop) (M : Mem) (v1 : V) : Prop :=
  @OptVH (moveV 7 v1) ⟨fun t65_1 =>
  @OptVH (loadV 1 false t65_1 M) ⟨fun t66_2 =>
  @OptBH (binV .lss .none t66_2 (.int .i64 0)) ⟨fun b67_3 =>
  @BIfH b67_3
  ⟨wpC P c47_34 Q [(1, v1), (67, (.bool b67_3))] M⟩
  ⟨Q .normal [(1, v1), (67, (.bool b67_3))] M⟩⟩⟩⟩
theorem e47_36 (P : Program) (Q : Exit → Slots → Mem → Prop) (s : Slots) (M : Mem) : wpC P c47_36 Q s M = w47_36 P Q M (sget s 1) := by kernel_rfl
def o47_37 : List AOper := [⟨some 68, (.fieldAddr 4 (.tmp 1)), false, none⟩,
  ⟨some 69, (.load 1 false (.tmp 68)), false, none⟩,
  ⟨some 70, (.bin .eql .none (.tmp 69) (.const (.int .i64 1))), true, none⟩,
  ⟨some 71, (.mov (.tmp 70)), true, none⟩,
  ⟨some 72, (.fieldAddr 4 (.tmp 1)), false, some (71, false)⟩,
  ⟨some 73, (.load 1 false (.tmp 72)), false, some (71, false)⟩,
  ⟨some 74, (.bin .eql .none (.tmp 73) (.const (.int .i64 3))), true, some (71, false)⟩,
  ⟨some 75, (.pick (.tmp 71) (.const (.bool true)) (.tmp 74)), true, none⟩,
  ⟨some 76, (.fieldAddr 4 (.tmp 1)), false, none⟩,
  ⟨some 77, (.load 1 false (.tmp 76)), false, none⟩,
  ⟨some 78, (.bin .eql .none (.tmp 77) (.const (.int .i64 1))), true, none⟩,
  ⟨some 79, (.fieldAddr 4 (.tmp 1)), false, none⟩,
  ⟨some 80, (.load 1 false (.tmp 79)), false, none⟩,
  ⟨some 81, (.bin .eql .none (.tmp 80) (.const (.int .i64 5))), true, none⟩,
  ⟨some 82, (.fieldAddr 4 (.tmp 1)), false, none⟩,
  ⟨some 83, (.load 1 false (.tmp 82)), false, none⟩,
  ⟨some 84, (.bin .eql .none (.tmp 83) (.const (.int .i64 4))), true, none⟩,
  ⟨some 85, (.mov (.tmp 84)), true, none⟩,
  ⟨some 86, (.fieldAddr 4 (.tmp 1)), false, some (85, false)⟩,
  ⟨some 87, (.load 1 false (.tmp 86)), false, some (85, false)⟩,
  ⟨some 88, (.bin .eql .none (.tmp 87) (.const (.int .i64 5))), true, some (85, false)⟩,
  ⟨some 89, (.pick (.tmp 85) (.const (.bool true)) (.tmp 88)), true, none⟩,
  ⟨some 3, (.mov (.tmp 75)), true, none⟩,
  ⟨some 4, (.mov (.tmp 78)), true, none⟩,
  ⟨some 5, (.mov (.tmp 81)), true, none⟩,
  ⟨some 6, (.mov (.tmp 89)), true, none⟩]
def c47_38 : ACode := (.mixed o47_37 [true, true, true, true, true, true, true, true, true, true, true, true, true, true, true, true, true, true, true, true, true, true, true, true, true, true] [1, 3, 4, 5, 6])
def w47_38 (_P : Program) (Q : Exit → Slots → Mem → Prop) (M : Mem) (v1 : V) : Prop :=
  @OptVH (moveV 4 v1) ⟨fun t68_1 =>
  @OptVH (loadV 1 false t68_1 M) ⟨fun t69_2 =>
  @OptBH (binV .eql .none t69_2 (.int .i64 1)) ⟨fun b70_3 =>
  @BIfH b70_3
  ⟨@OptVH (moveV 4 v1) ⟨fun t76_6 =>
  @OptVH (loadV 1 false t76_6 M) ⟨fun t77_7 =>
  @OptBH (binV .eql .none t77_7 (.int .i64 1)) ⟨fun b78_8 =>
  @OptVH (moveV 4 v1) ⟨fun t79_9 =>
  @OptVH (loadV 1 false t79_9 M) ⟨fun t80_10 =>
  @OptBH (binV .eql .none t80_10 (.int .i64 5)) ⟨fun b81_11 =>
  @OptVH (moveV 4 v1) ⟨fun t82_12 =>
  @OptVH (loadV 1 false t82_12 M) ⟨fun t83_13 =>
  @OptBH (binV .eql .none t83_13 (.int .i64 4)) ⟨fun b84_14 =>
  @BIfH b84_14
  ⟨Q .normal [(1, v1), (3, (.bool true)), (4, (.bool b78_8)), (5, (.bool b81_11)), (6, (.bool true))] M⟩
  ⟨@OptVH (moveV 4 v1) ⟨fun t86_21 =>
  @OptVH (loadV 1 false t86_21 M) ⟨fun t87_22 =>
  @OptBH (binV .eql .none t87_22 (.int .i64 5)) ⟨fun b88_23 =>
  Q .normal [(1, v1), (3, (.bool true)), (4, (.bool b78_8)), (5, (.bool b81_11)), (6, (.bool b88_23))] M⟩⟩⟩⟩⟩⟩⟩⟩⟩⟩⟩⟩⟩⟩
  ⟨@OptVH (moveV 4 v1) ⟨fun t72_29 =>
  @OptVH (loadV 1 false t72_29 M) ⟨fun t73_30 =>
  @OptBH (binV .eql .none t73_30 (.int .i64 3)) ⟨fun b74_31 =>
  @OptVH (moveV 4 v1) ⟨fun t76_33 =>
  @OptVH (loadV 1 false t76_33 M) ⟨fun t77_34 =>
  @OptBH (binV .eql .none t77_34 (.int .i64 1)) ⟨fun b78_35 =>
  @OptVH (moveV 4 v1) ⟨fun t79_36 =>
  @OptVH (loadV 1 false t79_36 M) ⟨fun t80_37 =>
  @OptBH (binV .eql .none t80_37 (.int .i64 5)) ⟨fun b81_38 =>
  @OptVH (moveV 4 v1) ⟨fun t82_39 =>
  @OptVH (loadV 1 false t82_39 M) ⟨fun t83_40 =>
  @OptBH (binV .eql .none t83_40 (.int .i64 4)) ⟨fun b84_41 =>
  @BIfH b84_41
  ⟨Q .normal [(1, v1), (3, (.bool b74_31)), (4, (.bool b78_35)), (5, (.bool b81_38)), (6, (.bool true))] M⟩
  ⟨@OptVH (moveV 4 v1) ⟨fun t86_48 =>
  @OptVH (loadV 1 false t86_48 M) ⟨fun t87_49 =>
  @OptBH (binV .eql .none t87_49 (.int .i64 5)) ⟨fun b88_50 =>
  Q .normal [(1, v1), (3, (.bool b74_31)), (4, (.bool b78_35)), (5, (.bool b81_38)), (6, (.bool b88_50))] M⟩⟩⟩⟩⟩⟩⟩⟩⟩⟩⟩⟩⟩⟩⟩⟩⟩⟩⟩⟩
theorem e47_38 (P : Program) (Q : Exit → Slots → Mem → Prop) (s : Slots) (M : Mem) : wpC P c47_38 Q s M = w47_38 P Q M (sget s 1) := by kernel_rfl
def o47_39 : List AOper := [⟨some 2, (.mov (.const (.int .i64 2))), false, none⟩]
def c47_40 : ACode := (.region o47_39 [2])
def w47_40 (_P : Program) (Q : Exit → Slots → Mem → Prop) (M : Mem) : Prop :=
  Q .normal [(2, (.int .i64 2))] M
theorem e47_40 (P : Program) (Q : Exit → Slots → Mem → Prop) (s : Slots) (M : Mem) : wpC P c47_40 Q s M = w47_40 P Q M := by kernel_rfl
def c47_41 : ACode := (.seq c47_40 .ret)
def o47_42 : List AOper := [⟨some 90, (.mov (.tmp 3)), true, none⟩,
  ⟨some 91, (.mov (.tmp 90)), true, none⟩,
  ⟨some 92, (.fieldAddr 8 (.tmp 1)), false, some (91, true)⟩,
  ⟨some 93, (.load 1 false (.tmp 92)), false, some (91, true)⟩,
  ⟨some 94, (.bin .lss .none (.tmp 93) (.const (.int .i64 0))), true, some (91, true)⟩,
  ⟨some 95, (.mov (.tmp 94)), true, some (91, true)⟩,
  ⟨some 96, (.fieldAddr 8 (.tmp 1)), false, some (95, false)⟩,
  ⟨some 97, (.load 1 false (.tmp 96)), false, some (95, false)⟩,
  ⟨some 98, (.bin .gtr .none (.tmp 97) (.const (.int .i64 31))), true, some (95, false)⟩,
  ⟨some 99, (.pick (.tmp 95) (.const (.bool true)) (.tmp 98)), true, some (91, true)⟩,
  ⟨some 100, (.pick (.tmp 91) (.tmp 99) (.const (.bool false))), true, none⟩,
  ⟨some 101, (.mov (.tmp 100)), true, none⟩,
  ⟨some 102, (.mov (.tmp 4)), true, some (101, false)⟩,
  ⟨some 103, (.mov (.tmp 102)), true, some (101, false)⟩,
  ⟨some 104, (.fieldAddr 9 (.tmp 1)), false, some (103, true)⟩,
  ⟨some 105, (.load 1 false (.tmp 104)), false, some (103, true)⟩,
  ⟨some 106, (.bin .lss .none (.tmp 105) (.const (.int .i64 (-43200)))), true, some (103, true)⟩,
  ⟨some 107, (.mov (.tmp 106)), true, some (103, true)⟩,
  ⟨some 108, (.fieldAddr 9 (.tmp 1)), false, some (107, false)⟩,
  ⟨some 109, (.load 1 false (.tmp 108)), false, some (107, false)⟩,
  ⟨some 110, (.bin .gtr .none (.tmp 109) (.const (.int .i64 43200))), true, some (107, false)⟩,
  ⟨some 111, (.pick (.tmp 107) (.const (.bool true)) (.tmp 110)), true, some (103, true)⟩,
  ⟨some 112, (.pick (.tmp 103) (.tmp 111) (.const (.bool false))), true, some (101, false)⟩,
  ⟨some 113, (.pick (.tmp 101) (.const (.bool true)) (.tmp 112)), true, none⟩,
  ⟨some 114, (.mov (.tmp 113)), true, none⟩,
  ⟨some 115, (.mov (.tmp 5)), true, some (114, false)⟩,
  ⟨some 116, (.mov (.tmp 115)), true, some (114, false)⟩,
  ⟨some 117, (.fieldAddr 10 (.tmp 1)), false, some (116, true)⟩,
  ⟨some 118, (.load 1 false (.tmp 117)), false, some (116, true)⟩,
  ⟨some 119, (.bin .lss .none (.tmp 118) (.const (.int .i64 0))), true, some (116, true)⟩,
  ⟨some 120, (.mov (.tmp 119)), true, some (116, true)⟩,
  ⟨some 121, (.fieldAddr 10 (.tmp 1)), false, some (120, false)⟩,
  ⟨some 122, (.load 1 false (.tmp 121)), false, some (120, false)⟩,
  ⟨some 123, (.bin .gtr .none (.tmp 122) (.const (.int .i64 63))), true, some (120, false)⟩,
  ⟨some 124, (.pick (.tmp 120) (.const (.bool true)) (.tmp 123)), true, some (116, true)⟩,
  ⟨some 125, (.pick (.tmp 116) (.tmp 124) (.const (.bool false))), true, some (114, false)⟩,
  ⟨some 126, (.pick (.tmp 114) (.const (.bool true)) (.tmp 125)), true, none⟩]
def c47_43 : ACode := (.seq (.region o47_42 [1, 3, 4, 5, 6, 126]) (.cond (.tmp 126) c47_41 .skip))
def w47_43 (P : Program) (Q : Exit → Slots → Mem → Prop) (M : Mem) (v1 : V) (v3 : V) (v4 : V) (v5 : V) (v6 : V) : Prop :=
  @OptBH (some v3) ⟨fun b90_1 =>
  @BIfH b90_1
  ⟨@OptVH (moveV 8 v1) ⟨fun t92_3 =>
  @OptVH (loadV 1 false t92_3 M) ⟨fun t93_4 =>
  @OptBH (binV .lss .none t93_4 (.int .i64 0)) ⟨fun b94_5 =>
  @BIfH b94_5
  ⟨wpC P c47_41 Q [(1, v1), (3, v3), (4, v4), (5, v5), (6, v6), (126, (.bool true))] M⟩
  ⟨@OptVH (moveV 8 v1) ⟨fun t96_13 =>
  @OptVH (loadV 1 false t96_13 M) ⟨fun t97_14 =>
  @OptBH (binV .gtr .none t97_14 (.int .i64 31)) ⟨fun b98_15 =>
  @BIfH b98_15
  ⟨wpC P c47_41 Q [(1, v1), (3, v3), (4, v4), (5, v5), (6, v6), (126, (.bool true))] M⟩
  ⟨@OptBH (some v4) ⟨fun b102_22 =>
  @BIfH b102_22
  ⟨@OptVH (moveV 9 v1) ⟨fun t104_24 =>
  @OptVH (loadV 1 false t104_24 M) ⟨fun t105_25 =>
  @OptBH (binV .lss .none t105_25 (.int .i64 (-43200))) ⟨fun b106_26 =>
  @BIfH b106_26
  ⟨wpC P c47_41 Q [(1, v1), (3, v3), (4, v4), (5, v5), (6, v6), (126, (.bool true))] M⟩
  ⟨@OptVH (moveV 9 v1) ⟨fun t108_33 =>
  @OptVH (loadV 1 false t108_33 M) ⟨fun t109_34 =>
  @OptBH (binV .gtr .none t109_34 (.int .i64 43200)) ⟨fun b110_35 =>
  @BIfH b110_35
  ⟨wpC P c47_41 Q [(1, v1), (3, v3), (4, v4), (5, v5), (6, v6), (126, (.bool true))] M⟩
  ⟨@OptBH (some v5) ⟨fun b115_41 =>
  @BIfH b115_41
  ⟨@OptVH (moveV 10 v1) ⟨fun t117_43 =>
  @OptVH (loadV 1 false t117_43 M) ⟨fun t118_44 =>
  @OptBH (binV .lss .none t118_44 (.int .i64 0)) ⟨fun b119_45 =>
  @BIfH b119_45
  ⟨wpC P c47_41 Q [(1, v1), (3, v3), (4, v4), (5, v5), (6, v6), (126, (.bool true))] M⟩
  ⟨@OptVH (moveV 10 v1) ⟨fun t121_50 =>
  @OptVH (loadV 1 false t121_50 M) ⟨fun t122_51 =>
  @OptBH (binV .gtr .none t122_51 (.int .i64 63)) ⟨fun b123_52 =>
  @BIfH b123_52
  ⟨wpC P c47_41 Q [(1, v1), (3, v3), (4, v4), (5, v5), (6, v6), (126, (.bool b123_52))] M⟩
  ⟨Q .normal [(1, v1), (3, v3), (4, v4), (5, v5), (6, v6), (126, (.bool b123_52))] M⟩⟩⟩⟩⟩⟩⟩⟩⟩
  ⟨Q .normal [(1, v1), (3, v3), (4, v4), (5, v5), (6, v6), (126, (.bool false))] M⟩⟩⟩⟩⟩⟩⟩⟩⟩⟩⟩
  ⟨@OptBH (some v5) ⟨fun b115_61 =>
  @BIfH b115_61
  ⟨@OptVH (moveV 10 v1) ⟨fun t117_63 =>
  @OptVH (loadV 1 false t117_63 M) ⟨fun t118_64 =>
  @OptBH (binV .lss .none t118_64 (.int .i64 0)) ⟨fun b119_65 =>
  @BIfH b119_65
  ⟨wpC P c47_41 Q [(1, v1), (3, v3), (4, v4), (5, v5), (6, v6), (126, (.bool true))] M⟩
  ⟨@OptVH (moveV 10 v1) ⟨fun t121_70 =>
  @OptVH (loadV 1 false t121_70 M) ⟨fun t122_71 =>
  @OptBH (binV .gtr .none t122_71 (.int .i64 63)) ⟨fun b123_72 =>
  @BIfH b123_72
  ⟨wpC P c47_41 Q [(1, v1), (3, v3), (4, v4), (5, v5), (6, v6), (126, (.bool b123_72))] M⟩
  ⟨Q .normal [(1, v1), (3, v3), (4, v4), (5, v5), (6, v6), (126, (.bool b123_72))] M⟩⟩⟩⟩⟩⟩⟩⟩⟩
  ⟨Q .normal [(1, v1), (3, v3), (4, v4), (5, v5), (6, v6), (126, (.bool false))] M⟩⟩⟩⟩⟩⟩⟩⟩⟩⟩⟩⟩⟩
  ⟨@OptBH (some v4) ⟨fun b102_80 =>
  @BIfH b102_80
  ⟨@OptVH (moveV 9 v1) ⟨fun t104_82 =>
  @OptVH (loadV 1 false t104_82 M) ⟨fun t105_83 =>
  @OptBH (binV .lss .none t105_83 (.int .i64 (-43200))) ⟨fun b106_84 =>
  @BIfH b106_84
  ⟨wpC P c47_41 Q [(1, v1), (3, v3), (4, v4), (5, v5), (6, v6), (126, (.bool true))] M⟩
  ⟨@OptVH (moveV 9 v1) ⟨fun t108_91 =>
  @OptVH (loadV 1 false t108_91 M) ⟨fun t109_92 =>
  @OptBH (binV .gtr .none t109_92 (.int .i64 43200)) ⟨fun b110_93 =>
  @BIfH b110_93
  ⟨wpC P c47_41 Q [(1, v1), (3, v3), (4, v4), (5, v5), (6, v6), (126, (.bool true))] M⟩
  ⟨@OptBH (some v5) ⟨fun b115_99 =>
  @BIfH b115_99
  ⟨@OptVH (moveV 10 v1) ⟨fun t117_101 =>
  @OptVH (loadV 1 false t117_101 M) ⟨fun t118_102 =>
  @OptBH (binV .lss .none t118_102 (.int .i64 0)) ⟨fun b119_103 =>
  @BIfH b119_103
  ⟨wpC P c47_41 Q [(1, v1), (3, v3), (4, v4), (5, v5), (6, v6), (126, (.bool true))] M⟩
  ⟨@OptVH (moveV 10 v1) ⟨fun t121_108 =>
  @OptVH (loadV 1 false t121_108 M) ⟨fun t122_109 =>
  @OptBH (binV .gtr .none t122_109 (.int .i64 63)) ⟨fun b123_110 =>
  @BIfH b123_110
  ⟨wpC P c47_41 Q [(1, v1), (3, v3), (4, v4), (5, v5), (6, v6), (126, (.bool b123_110))] M⟩
  ⟨Q .normal [(1, v1), (3, v3), (4, v4), (5, v5), (6, v6), (126, (.bool b123_110))] M⟩⟩⟩⟩⟩⟩⟩⟩⟩
  ⟨Q .normal [(1, v1), (3, v3), (4, v4), (5, v5), (6, v6), (126, (.bool false))] M⟩⟩⟩⟩⟩⟩⟩⟩⟩⟩⟩
  ⟨@OptBH (some v5) ⟨fun b115_119 =>
  @BIfH b115_119
  ⟨@OptVH (moveV 10 v1) ⟨fun t117_121 =>
  @OptVH (loadV 1 false t117_121 M) ⟨fun t118_122 =>
  @OptBH (binV .lss .none t118_122 (.int .i64 0)) ⟨fun b119_123 =>
  @BIfH b119_123
  ⟨wpC P c47_41 Q [(1, v1), (3, v3), (4, v4), (5, v5), (6, v6), (126, (.bool true))] M⟩
  ⟨@OptVH (moveV 10 v1) ⟨fun t121_128 =>
  @OptVH (loadV 1 false t121_128 M) ⟨fun t122_129 =>
  @OptBH (binV .gtr .none t122_129 (.int .i64 63)) ⟨fun b123_130 =>
  @BIfH b123_130
  ⟨wpC P c47_41 Q [(1, v1), (3, v3), (4, v4), (5, v5), (6, v6), (126, (.bool b123_130))] M⟩
  ⟨Q .normal [(1, v1), (3, v3), (4, v4), (5, v5), (6, v6), (126, (.bool b123_130))] M⟩⟩⟩⟩⟩⟩⟩⟩⟩
  ⟨Q .normal [(1, v1), (3, v3), (4, v4), (5, v5), (6, v6), (126, (.bool false))] M⟩⟩⟩⟩⟩⟩
theorem e47_43 (P : Program) (Q : Exit → Slots → Mem → Prop) (s : Slots) (M : Mem) : wpC P c47_43 Q s M = w47_43 P Q M (sget s 1) (sget s 3) (sget s 4) (sget s 5) (sget s 6) := by kernel_rfl
def o47_44 : List AOper := [⟨some 129, (.fieldAddr 12 (.tmp 1)), false, none⟩,
  ⟨some 130, (.load 1 false (.tmp 129)), false, none⟩,
  ⟨some 131, (.call i_transitref16_Check [(.tmp 130), (.const (.int .i64 64)), (.const (.int .i64 0)), (.const (.int .i64 3155932800))]), false, none⟩,
  ⟨some 128, (.mov (.tmp 131)), false, none⟩,
  ⟨some 132, (.extract (.tmp 128) 0), false, none⟩,
  ⟨some 133, (.extract (.tmp 128) 1), false, none⟩,
  ⟨some 7, (.mov (.tmp 132)), false, none⟩,
  ⟨some 8, (.mov (.tmp 133)), false, none⟩]
def c47_45 : ACode := (.region o47_44 [1, 3, 4, 5, 6, 8])
def w47_45 (P : Program) (Q : Exit → Slots → Mem → Prop) (M : Mem) (v1 : V) (v3 : V) (v4 : V) (v5 : V) (v6 : V) : Prop :=
  @OptVH (moveV 12 v1) ⟨fun t129_1 =>
  @OptVH (loadV 1 false t129_1 M) ⟨fun t130_2 =>
  @CallH P i_transitref16_Check [t130_2, (.int .i64 64), (.int .i64 0), (.int .i64 3155932800)] M ⟨fun t131_3 M3 =>
  @OptVH (extractV t131_3 0) ⟨fun _t132_5 =>
  @OptVH (extractV t131_3 1) ⟨fun t133_6 =>
  Q .normal [(1, v1), (3, v3), (4, v4), (5, v5), (6, v6), (8, t133_6)] M3⟩⟩⟩⟩⟩
theorem e47_45 (P : Program) (Q : Exit → Slots → Mem → Prop) (s : Slots) (M : Mem) : wpC P c47_45 Q s M = w47_45 P Q M (sget s 1) (sget s 3) (sget s 4) (sget s 5) (sget s 6) := by kernel_rfl
def o47_46 : List AOper := [⟨some 136, (.mov (.tmp 8)), false, none⟩,
  ⟨some 2, (.mov (.tmp 136)), false, none⟩]
def c47_47 : ACode := (.region o47_46 [2])
def w47_47 (_P : Program) (Q : Exit → Slots → Mem → Prop) (M : Mem) (v8 : V) : Prop :=
  Q .normal [(2, v8)] M
theorem e47_47 (P : Program) (Q : Exit → Slots → Mem → Prop) (s : Slots) (M : Mem) : wpC P c47_47 Q s M = w47_47 P Q M (sget s 8) := by kernel_rfl
def c47_48 : ACode := (.seq c47_47 .ret)
def o47_49 : List AOper := [⟨some 134, (.mov (.tmp 8)), false, none⟩,
  ⟨some 135, (.bin .neq .none (.tmp 134) (.const (.int .i64 0))), true, none⟩]
def c47_50 : ACode := (.seq (.region o47_49 [1, 3, 4, 5, 6, 8, 135]) (.cond (.tmp 135) c47_48 .skip))
def w47_50 (P : Program) (Q : Exit → Slots → Mem → Prop) (M : Mem) (v1 : V) (v3 : V) (v4 : V) (v5 : V) (v6 : V) (v8 : V) : Prop :=
  @OptBH (binV .neq .none v8 (.int .i64 0)) ⟨fun b135_2 =>
  @BIfH b135_2
  ⟨wpC P c47_48 Q [(1, v1), (3, v3), (4, v4), (5, v5), (6, v6), (8, v8), (135, (.bool b135_2))] M⟩
  ⟨Q .normal [(1, v1), (3, v3), (4, v4), (5, v5), (6, v6), (8, v8), (135, (.bool b135_2))] M⟩⟩
theorem e47_50 (P : Program) (Q : Exit → Slots → Mem → Prop) (s : Slots) (M : Mem) : wpC P c47_50 Q s M = w47_50 P Q M (sget s 1) (sget s 3) (sget s 4) (sget s 5) (sget s 6) (sget s 8) := by kernel_rfl
def c47_51 : ACode := (.seq c47_45 c47_50)
def o47_52 : List AOper := [⟨some 127, (.mov (.tmp 6)), true, none⟩]
def c47_53 : ACode := (.seq (.region o47_52 [1, 3, 4, 5, 6, 127]) (.cond (.tmp 127) c47_51 .skip))
def w47_53 (P : Program) (Q : Exit → Slots → Mem → Prop) (M : Mem) (v1 : V) (v3 : V) (v4 : V) (v5 : V) (v6 : V) : Prop :=
  @OptBH (some v6) ⟨fun b127_1 =>
  @BIfH b127_1
  ⟨wpC P c47_51 Q [(1, v1), (3, v3), (4, v4), (5, v5), (6, v6), (127, (.bool b127_1))] M⟩
  ⟨Q .normal [(1, v1), (3, v3), (4, v4), (5, v5), (6, v6), (127, (.bool b127_1))] M⟩⟩
theorem e47_53 (P : Program) (Q : Exit → Slots → Mem → Prop) (s : Slots) (M : Mem) : wpC P c47_53 Q s M = w47_53 P Q M (sget s 1) (sget s 3) (sget s 4) (sget s 5) (sget s 6) := by kernel_rfl
def o47_54 : List AOper := [⟨some 2, (.mov (.const (.int .i64 1))), false, none⟩]
def c47_55 : ACode := (.region o47_54 [2])
def w47_55 (_P : Program) (Q : Exit → Slots → Mem → Prop) (M : Mem) : Prop :=
  Q .normal [(2, (.int .i64 1))] M
theorem e47_55 (P : Program) (Q : Exit → Slots → Mem → Prop) (s : Slots) (M : Mem) : wpC P c47_55 Q s M = w47_55 P Q M := by kernel_rfl
def c47_56 : ACode := (.seq c47_55 .ret)
def o47_57 : List AOper := [⟨some 137, (.mov (.tmp 3)), true, none⟩,
  ⟨some 138, (.un .not (.tmp 137)), true, none⟩,
  ⟨some 139, (.mov (.tmp 138)), true, none⟩,
  ⟨some 140, (.fieldAddr 8 (.tmp 1)), false, some (139, true)⟩,
  ⟨some 141, (.load 1 false (.tmp 140)), false, some (139, true)⟩,
  ⟨some 142, (.bin .neq .none (.tmp 141) (.const (.int .i64 0))), true, some (139, true)⟩,
  ⟨some 143, (.pick (.tmp 139) (.tmp 142) (.const (.bool false))), true, none⟩,
  ⟨some 144, (.mov (.tmp 143)), true, none⟩,
  ⟨some 145, (.mov (.tmp 4)), true, some (144, false)⟩,
  ⟨some 146, (.un .not (.tmp 145)), true, some (144, false)⟩,
  ⟨some 147, (.mov (.tmp 146)), true, some (144, false)⟩,
  ⟨some 148, (.fieldAddr 9 (.tmp 1)), false, some (147, true)⟩,
  ⟨some 149, (.load 1 false (.tmp 148)), false, some (147, true)⟩,
  ⟨some 150, (.bin .neq .none (.tmp 149) (.const (.int .i64 0))), true, some (147, true)⟩,
  ⟨some 151, (.pick (.tmp 147) (.tmp 150) (.const (.bool false))), true, some (144, false)⟩,
  ⟨some 152, (.pick (.tmp 144) (.const (.bool true)) (.tmp 151)), true, none⟩,
  ⟨some 153, (.mov (.tmp 152)), true, none⟩,
  ⟨some 154, (.mov (.tmp 5)), true, some (153, false)⟩,
  ⟨some 155, (.un .not (.tmp 154)), true, some (153, false)⟩,
  ⟨some 156, (.mov (.tmp 155)), true, some (153, false)⟩,
  ⟨some 157, (.fieldAddr 10 (.tmp 1)), false, some (156, true)⟩,
  ⟨some 158, (.load 1 false (.tmp 157)), false, some (156, true)⟩,
  ⟨some 159, (.bin .neq .none (.tmp 158) (.const (.int .i64 0))), true, some (156, true)⟩,
  ⟨some 160, (.mov (.tmp 159)), true, some (156, true)⟩,
  ⟨some 161, (.fieldAddr 11 (.tmp 1)), false, some (160, false)⟩,
  ⟨some 162, (.load 1 false (.tmp 161)), true, some (160, false)⟩,
  ⟨some 163, (.pick (.tmp 160) (.const (.bool true)) (.tmp 162)), true, some (156, true)⟩,
  ⟨some 164, (.pick (.tmp 156) (.tmp 163) (.const (.bool false))), true, some (153, false)⟩,
  ⟨some 165, (.pick (.tmp 153) (.const (.bool true)) (.tmp 164)), true, none⟩,
  ⟨some 166, (.mov (.tmp 165)), true, none⟩,
  ⟨some 167, (.mov (.tmp 6)), true, some (166, false)⟩,
  ⟨some 168, (.un .not (.tmp 167)), true, some (166, false)⟩,
  ⟨some 169, (.mov (.tmp 168)), true, some (166, false)⟩,
  ⟨some 170, (.fieldAddr 12 (.tmp 1)), false, some (169, true)⟩,
  ⟨some 171, (.load 1 false (.tmp 170)), false, some (169, true)⟩,
  ⟨some 172, (.lenSl (.tmp 171)), false, some (169, true)⟩,
  ⟨some 173, (.bin .gtr .none (.tmp 172) (.const (.int .i64 0))), true, some (169, true)⟩,
  ⟨some 174, (.pick (.tmp 169) (.tmp 173) (.const (.bool false))), true, some (166, false)⟩,
  ⟨some 175, (.pick (.tmp 166) (.const (.bool true)) (.tmp 174)), true, none⟩]
def c47_58 : ACode := (.seq (.region o47_57 [175]) (.cond (.tmp 175) c47_56 .skip))
def w47_58 (P : Program) (Q : Exit → Slots → Mem → Prop) (M : Mem) (v1 : V) (v3 : V) (v4 : V) (v5 : V) (v6 : V) : Prop :=
  @OptBH (some v3) ⟨fun b137_1 =>
  @OptBH (unV .not (.bool b137_1)) ⟨fun b138_2 =>
  @BIfH b138_2
  ⟨@OptVH (moveV 8 v1) ⟨fun t140_4 =>
  @OptVH (loadV 1 false t140_4 M) ⟨fun t141_5 =>
  @OptBH (binV .neq .none t141_5 (.int .i64 0)) ⟨fun b142_6 =>
  @BIfH b142_6
  ⟨wpC P c47_56 Q [(175, (.bool true))] M⟩
  ⟨@OptBH (some v4) ⟨fun b145_14 =>
  @OptBH (unV .not (.bool b145_14)) ⟨fun b146_15 =>
  @BIfH b146_15
  ⟨@OptVH (moveV 9 v1) ⟨fun t148_17 =>
  @OptVH (loadV 1 false t148_17 M) ⟨fun t149_18 =>
  @OptBH (binV .neq .none t149_18 (.int .i64 0)) ⟨fun b150_19 =>
  @BIfH b150_19
  ⟨wpC P c47_56 Q [(175, (.bool true))] M⟩
  ⟨@OptBH (some v5) ⟨fun b154_26 =>
  @OptBH (unV .not (.bool b154_26)) ⟨fun b155_27 =>
  @BIfH b155_27
  ⟨@OptVH (moveV 10 v1) ⟨fun t157_29 =>
  @OptVH (loadV 1 false t157_29 M) ⟨fun t158_30 =>
  @OptBH (binV .neq .none t158_30 (.int .i64 0)) ⟨fun b159_31 =>
  @BIfH b159_31
  ⟨wpC P c47_56 Q [(175, (.bool true))] M⟩
  ⟨@OptVH (moveV 11 v1) ⟨fun t161_38 =>
  @OptBH (loadV 1 false t161_38 M) ⟨fun b162_39 =>
  @BIfH b162_39
  ⟨wpC P c47_56 Q [(175, (.bool true))] M⟩
  ⟨@OptBH (some v6) ⟨fun b167_45 =>
  @OptBH (unV .not (.bool b167_45)) ⟨fun b168_46 =>
  @BIfH b168_46
  ⟨@OptVH (moveV 12 v1) ⟨fun t170_48 =>
  @OptVH (loadV 1 false t170_48 M) ⟨fun t171_49 =>
  @OptVH (lenV t171_49 M) ⟨fun t172_50 =>
  @OptBH (binV .gtr .none t172_50 (.int .i64 0)) ⟨fun b173_51 =>
  @BIfH b173_51
  ⟨wpC P c47_56 Q [(175, (.bool b173_51))] M⟩
  ⟨Q .normal [(175, (.bool b173_51))] M⟩⟩⟩⟩⟩⟩
  ⟨Q .normal [(175, (.bool false))] M⟩⟩⟩⟩⟩⟩⟩⟩⟩⟩⟩
  ⟨@OptBH (some v6) ⟨fun b167_59 =>
  @OptBH (unV .not (.bool b167_59)) ⟨fun b168_60 =>
  @BIfH b168_60
  ⟨@OptVH (moveV 12 v1) ⟨fun t170_62 =>
  @OptVH (loadV 1 false t170_62 M) ⟨fun t171_63 =>
  @OptVH (lenV t171_63 M) ⟨fun t172_64 =>
  @OptBH (binV .gtr .none t172_64 (.int .i64 0)) ⟨fun b173_65 =>
  @BIfH b173_65
  ⟨wpC P c47_56 Q [(175, (.bool b173_65))] M⟩
  ⟨Q .normal [(175, (.bool b173_65))] M⟩⟩⟩⟩⟩⟩
  ⟨Q .normal [(175, (.bool false))] M⟩⟩⟩⟩⟩⟩⟩⟩⟩⟩⟩
  ⟨@OptBH (some v5) ⟨fun b154_73 =>
  @OptBH (unV .not (.bool b154_73)) ⟨fun b155_74 =>
  @BIfH b155_74
  ⟨@OptVH (moveV 10 v1) ⟨fun t157_76 =>
  @OptVH (loadV 1 false t157_76 M) ⟨fun t158_77 =>
  @OptBH (binV .neq .none t158_77 (.int .i64 0)) ⟨fun b159_78 =>
  @BIfH b159_78
  ⟨wpC P c47_56 Q [(175, (.bool true))] M⟩
  ⟨@OptVH (moveV 11 v1) ⟨fun t161_85 =>
  @OptBH (loadV 1 false t161_85 M) ⟨fun b162_86 =>
  @BIfH b162_86
  ⟨wpC P c47_56 Q [(175, (.bool true))] M⟩
  ⟨@OptBH (some v6) ⟨fun b167_92 =>
  @OptBH (unV .not (.bool b167_92)) ⟨fun b168_93 =>
  @BIfH b168_93
  ⟨@OptVH (moveV 12 v1) ⟨fun t170_95 =>
  @OptVH (loadV 1 false t170_95 M) ⟨fun t171_96 =>
  @OptVH (lenV t171_96 M) ⟨fun t172_97 =>
  @OptBH (binV .gtr .none t172_97 (.int .i64 0)) ⟨fun b173_98 =>
  @BIfH b173_98
  ⟨wpC P c47_56 Q [(175, (.bool b173_98))] M⟩
  ⟨Q .normal [(175, (.bool b173_98))] M⟩⟩⟩⟩⟩⟩
  ⟨Q .normal [(175, (.bool false))] M⟩⟩⟩⟩⟩⟩⟩⟩⟩⟩⟩
  ⟨@OptBH (some v6) ⟨fun b167_106 =>
  @OptBH (unV .not (.bool b167_106)) ⟨fun b168_107 =>
  @BIfH b168_107
  ⟨@OptVH (moveV 12 v1) ⟨fun t170_109 =>
  @OptVH (loadV 1 false t170_109 M) ⟨fun t171_110 =>
  @OptVH (lenV t171_110 M) ⟨fun t172_111 =>
  @OptBH (binV .gtr .none t172_111 (.int .i64 0)) ⟨fun b173_112 =>
  @BIfH b173_112
  ⟨wpC P c47_56 Q [(175, (.bool b173_112))] M⟩
  ⟨Q .normal [(175, (.bool b173_112))] M⟩⟩⟩⟩⟩⟩
  ⟨Q .normal [(175, (.bool false))] M⟩⟩⟩⟩⟩⟩⟩⟩⟩⟩⟩⟩⟩⟩
  ⟨@OptBH (some v4) ⟨fun b145_119 =>
  @OptBH (unV .not (.bool b145_119)) ⟨fun b146_120 =>
  @BIfH b146_120
  ⟨@OptVH (moveV 9 v1) ⟨fun t148_122 =>
  @OptVH (loadV 1 false t148_122 M) ⟨fun t149_123 =>
  @OptBH (binV .neq .none t149_123 (.int .i64 0)) ⟨fun b150_124 =>
  @BIfH b150_124
  ⟨wpC P c47_56 Q [(175, (.bool true))] M⟩
  ⟨@OptBH (some v5) ⟨fun b154_131 =>
  @OptBH (unV .not (.bool b154_131)) ⟨fun b155_132 =>
  @BIfH b155_132
  ⟨@OptVH (moveV 10 v1) ⟨fun t157_134 =>
  @OptVH (loadV 1 false t157_134 M) ⟨fun t158_135 =>
  @OptBH (binV .neq .none t158_135 (.int .i64 0)) ⟨fun b159_136 =>
  @BIfH b159_136
  ⟨wpC P c47_56 Q [(175, (.bool true))] M⟩
  ⟨@OptVH (moveV 11 v1) ⟨fun t161_143 =>
  @OptBH (loadV 1 false t161_143 M) ⟨fun b162_144 =>
  @BIfH b162_144
  ⟨wpC P c47_56 Q [(175, (.bool true))] M⟩
  ⟨@OptBH (some v6) ⟨fun b167_150 =>
  @OptBH (unV .not (.bool b167_150)) ⟨fun b168_151 =>
  @BIfH b168_151
  ⟨@OptVH (moveV 12 v1) ⟨fun t170_153 =>
  @OptVH (loadV 1 false t170_153 M) ⟨fun t171_154 =>
  @OptVH (lenV t171_154 M) ⟨fun t172_155 =>
  @OptBH (binV .gtr .none t172_155 (.int .i64 0)) ⟨fun b173_156 =>
  @BIfH b173_156
  ⟨wpC P c47_56 Q [(175, (.bool b173_156))] M⟩
  ⟨Q .normal [(175, (.bool b173_156))] M⟩⟩⟩⟩⟩⟩
  ⟨Q .normal [(175, (.bool false))] M⟩⟩⟩⟩⟩⟩⟩⟩⟩⟩⟩
  ⟨@OptBH (some v6) ⟨fun b167_164 =>
  @OptBH (unV .not (.bool b167_164)) ⟨fun b168_165 =>
  @BIfH b168_165
  ⟨@OptVH (moveV 12 v1) ⟨fun t170_167 =>
  @OptVH (loadV 1 false t170_167 M) ⟨fun t171_168 =>
  @OptVH (lenV t171_168 M) ⟨fun t172_169 =>
  @OptBH (binV .gtr .none t172_169 (.int .i64 0)) ⟨fun b173_170 =>
  @BIfH b173_170
  ⟨wpC P c47_56 Q [(175, (.bool b173_170))] M⟩
  ⟨Q .normal [(175, (.bool b173_170))] M⟩⟩⟩⟩⟩⟩
  ⟨Q .normal [(175, (.bool false))] M⟩⟩⟩⟩⟩⟩⟩⟩⟩⟩⟩
  ⟨@OptBH (some v5) ⟨fun b154_178 =>
  @OptBH (unV .not (.bool b154_178)) ⟨fun b155_179 =>
  @BIfH b155_179
  ⟨@OptVH (moveV 10 v1) ⟨fun t157_181 =>
  @OptVH (loadV 1 false t157_181 M) ⟨fun t158_182 =>
  @OptBH (binV .neq .none t158_182 (.int .i64 0)) ⟨fun b159_183 =>
  @BIfH b159_183
  ⟨wpC P c47_56 Q [(175, (.bool true))] M⟩
  ⟨@OptVH (moveV 11 v1) ⟨fun t161_190 =>
  @OptBH (loadV 1 false t161_190 M) ⟨fun b162_191 =>
  @BIfH b162_191
  ⟨wpC P c47_56 Q [(175, (.bool true))] M⟩
  ⟨@OptBH (some v6) ⟨fun b167_197 =>
  @OptBH (unV .not (.bool b167_197)) ⟨fun b168_198 =>
  @BIfH b168_198
  ⟨@OptVH (moveV 12 v1) ⟨fun t170_200 =>
  @OptVH (loadV 1 false t170_200 M) ⟨fun t171_201 =>
  @OptVH (lenV t171_201 M) ⟨fun t172_202 =>
  @OptBH (binV .gtr .none t172_202 (.int .i64 0)) ⟨fun b173_203 =>
  @BIfH b173_203
  ⟨wpC P c47_56 Q [(175, (.bool b173_203))] M⟩
  ⟨Q .normal [(175, (.bool b173_203))] M⟩⟩⟩⟩⟩⟩
  ⟨Q .normal [(175, (.bool false))] M⟩⟩⟩⟩⟩⟩⟩⟩⟩⟩⟩
  ⟨@OptBH (some v6) ⟨fun b167_211 =>
  @OptBH (unV .not (.bool b167_211)) ⟨fun b168_212 =>
  @BIfH b168_212
  ⟨@OptVH (moveV 12 v1) ⟨fun t170_214 =>
  @OptVH (loadV 1 false t170_214 M) ⟨fun t171_215 =>
  @OptVH (lenV t171_215 M) ⟨fun t172_216 =>
  @OptBH (binV .gtr .none t172_216 (.int .i64 0)) ⟨fun b173_217 =>
  @BIfH b173_217
  ⟨wpC P c47_56 Q [(175, (.bool b173_217))] M⟩
  ⟨Q .normal [(175, (.bool b173_217))] M⟩⟩⟩⟩⟩⟩
  ⟨Q .normal [(175, (.bool false))] M⟩⟩⟩⟩⟩⟩⟩⟩⟩⟩⟩⟩
theorem e47_58 (P : Program) (Q : Exit → Slots → Mem → Prop) (s : Slots) (M : Mem) : wpC P c47_58 Q s M = w47_58 P Q M (sget s 1) (sget s 3) (sget s 4) (sget s 5) (sget s 6) := by kernel_rfl
def o47_59 : List AOper := [⟨some 2, (.mov (.const (.int .i64 0))), false, none⟩]
def c47_60 : ACode := (.region o47_59 [2])
def w47_60 (_P : Program) (Q : Exit → Slots → Mem → Prop) (M : Mem) : Prop :=
  Q .normal [(2, (.int .i64 0))] M
theorem e47_60 (P : Program) (Q : Exit → Slots → Mem → Prop) (s : Slots) (M : Mem) : wpC P c47_60 Q s M = w47_60 P Q M := by kernel_rfl
def c47_61 : ACode := (.seq c47_60 .ret)
def c47_62 : ACode := (.seq c47_58 c47_61)
def c47_63 : ACode := (.seq c47_53 c47_62)
def c47_64 : ACode := (.seq c47_43 c47_63)
def c47_65 : ACode := (.seq c47_38 c47_64)
def c47_66 : ACode := (.seq c47_36 c47_65)
def c47_67 : ACode := (.seq c47_31 c47_66)
def c47_68 : ACode := (.seq c47_26 c47_67)
def c47_69 : ACode := (.seq c47_21 c47_68)
def c47_70 : ACode := (.seq c47_16 c47_69)
def c47_71 : ACode := (.seq c47_11 c47_70)
def c47_72 : ACode := (.seq c47_6 c47_71)
def c47_73 : ACode := (.seq c47_1 c47_72)
def fn_transitref31_Check : AFn := ⟨176, [(.tmp 2)], c47_73⟩
theorem fn_transitref31_Check_ok : resFn PR h_transitref31_Check i_transitref31_Check = some fn_transitref31_Check := by kernel_rfl

def h_transitref32_heard : Hints := ⟨[(0, [0, 1, 2, 3]), (1, [0, 1, 2, 3, 9]), (2, [0, 1, 2, 3, 9, 10]), (3, [0, 1, 2, 3, 9, 10, 15]), (4, [0, 1, 2, 3, 9, 10]), (5, [0, 1, 2, 3, 9, 10, 11]), (6, [0, 1, 2, 3, 9, 10, 11, 24]), (7, [0, 1, 2, 3, 9, 10, 11]), (8, [0, 1, 2, 3, 9, 10, 11, 31]), (9, [0, 1, 2, 3, 9, 10, 11]), (10, [0, 1, 2, 3, 9, 10]), (11, [8])], [(3, [0, 1, 2, 3, 9, 10])], [(1, [0])]⟩
def o48_0 : List AOper := [⟨some 8, (.mov (.const (.slice [] .nil))), false, none⟩]
def c48_1 : ACode := (.region o48_0 [0, 1, 2, 3])
def w48_1 (_P : Program) (Q : Exit → Slots → Mem → Prop) (M : Mem) (v0 : V) (v1 : V) (v2 : V) (v3 : V) : Prop :=
  Q .normal [(0, v0), (1, v1), (2, v2), (3, v3)] M
theorem e48_1 (P : Program) (Q : Exit → Slots → Mem → Prop) (s : Slots) (M : Mem) : wpC P c48_1 Q s M = w48_1 P Q M (sget s 0) (sget s 1) (sget s 2) (sget s 3) := by kernel_rfl
def o48_2 : List AOper := [⟨some 9, (.newarr 2), false, none⟩]
def c48_3 : ACode := (.region o48_2 [0, 1, 2, 3, 9])
def w48_3 (_P : Program) (Q : Exit → Slots → Mem → Prop) (M : Mem) (v0 : V) (v1 : V) (v2 : V) (v3 : V) : Prop :=
  @OptMH (newarrV 2 M) ⟨fun t9_1 M1 =>
  Q .normal [(0, v0), (1, v1), (2, v2), (3, v3), (9, t9_1)] M1⟩
theorem e48_3 (P : Program) (Q : Exit → Slots → Mem → Prop) (s : Slots) (M : Mem) : wpC P c48_3 Q s M = w48_3 P Q M (sget s 0) (sget s 1) (sget s 2) (sget s 3) := by kernel_rfl
def o48_4 : List AOper := [⟨some 10, (.mov (.const (.int .i64 0))), false, none⟩]
def c48_5 : ACode := (.region o48_4 [0, 1, 2, 3, 9, 10])
def w48_5 (_P : Program) (Q : Exit → Slots → Mem → Prop) (M : Mem) (v0 : V) (v1 : V) (v2 : V) (v3 : V) (v9 : V) : Prop :=
  Q .normal [(0, v0), (1, v1), (2, v2), (3, v3), (9, v9), (10, (.int .i64 0))] M
theorem e48_5 (P : Program) (Q : Exit → Slots → Mem → Prop) (s : Slots) (M : Mem) : wpC P c48_5 Q s M = w48_5 P Q M (sget s 0) (sget s 1) (sget s 2) (sget s 3) (sget s 9) := by kernel_rfl
def o48_6 : List AOper := [⟨some 12, (.mov (.tmp 10)), false, none⟩,
  ⟨some 13, (.mov (.tmp 0)), false, none⟩,
  ⟨some 14, (.lenSl (.tmp 13)), false, none⟩,
  ⟨some 15, (.bin .lss .none (.tmp 12) (.tmp 14)), true, none⟩]
def c48_7 : ACode := (.seq (.region o48_6 [0, 1, 2, 3, 9, 10, 15]) (.cond (.tmp 15) .skip (.exit 0)))
def w48_7 (_P : Program) (Q : Exit → Slots → Mem → Prop) (M : Mem) (v0 : V) (v1 : V) (v2 : V) (v3 : V) (v9 : V) (v10 : V) : Prop :=
  @OptVH (lenV v0 M) ⟨fun t14_3 =>
  @OptBH (binV .lss .none v10 t14_3) ⟨fun b15_4 =>
  @BIfH b15_4
  ⟨Q .normal [(0, v0), (1, v1), (2, v2), (3, v3), (9, v9), (10, v10), (15, (.bool b15_4))] M⟩
  ⟨Q (.exit 0) [(0, v0), (1, v1), (2, v2), (3, v3), (9, v9), (10, v10), (15, (.bool b15_4))] M⟩⟩⟩
theorem e48_7 (P : Program) (Q : Exit → Slots → Mem → Prop) (s : Slots) (M : Mem) : wpC P c48_7 Q s M = w48_7 P Q M (sget s 0) (sget s 1) (sget s 2) (sget s 3) (sget s 9) (sget s 10) := by kernel_rfl
def o48_8 : List AOper := [⟨some 18, (.mov (.tmp 0)), false, none⟩,
  ⟨some 19, (.mov (.tmp 10)), false, none⟩,
  ⟨some 20, (.indexSl 2 (.tmp 18) (.tmp 19)), false, none⟩,
  ⟨some 21, (.load 2 true (.tmp 20)), false, none⟩,
  ⟨some 11, (.alloc [(.int .i64 0), (.int .i64 0)]), false, none⟩,
  ⟨none, (.store 2 (.tmp 11) (.tmp 21)), false, none⟩]
def c48_9 : ACode := (.region o48_8 [0, 1, 2, 3, 9, 10, 11])
def w48_9 (_P : Program) (Q : Exit → Slots → Mem → Prop) (M : Mem) (v0 : V) (v1 : V) (v2 : V) (v3 : V) (v9 : V) (v10 : V) : Prop :=
  @OptVH (indexSlV 2 v0 v10 M) ⟨fun t20_3 =>
  @OptVH (loadV 2 true t20_3 M) ⟨fun t21_4 =>
  @OptMH (allocV [(.int .i64 0), (.int .i64 0)] M) ⟨fun t11_5 M5 =>
  @OptMH (storeVM 2 t11_5 t21_4 M5) ⟨fun _tx_6 M6 =>
  Q .normal [(0, v0), (1, v1), (2, v2), (3, v3), (9, v9), (10, v10), (11, t11_5)] M6⟩⟩⟩⟩
theorem e48_9 (P : Program) (Q : Exit → Slots → Mem → Prop) (s : Slots) (M : Mem) : wpC P c48_9 Q s M = w48_9 P Q M (sget s 0) (sget s 1) (sget s 2) (sget s 3) (sget s 9) (sget s 10) := by kernel_rfl
def o48_10 : List AOper := [⟨some 25, (.fieldAddr 0 (.tmp 11)), false, none⟩,
  ⟨some 26, (.load 1 false (.tmp 25)), false, none⟩,
  ⟨some 27, (.mov (.tmp 2)), false, none⟩,
  ⟨some 28, (.minmax true (.tmp 26) (.tmp 27)), false, none⟩,
  ⟨some 29, (.fieldAddr 0 (.tmp 11)), false, none⟩,
  ⟨none, (.store 1 (.tmp 29) (.tmp 28)), false, none⟩]
def c48_11 : ACode := (.region o48_10 [0, 1, 2, 3, 9, 10, 11])
def w48_11 (_P : Program) (Q : Exit → Slots → Mem → Prop) (M : Mem) (v0 : V) (v1 : V) (v2 : V) (v3 : V) (v9 : V) (v10 : V) (v11 : V) : Prop :=
  @OptVH (moveV 0 v11) ⟨fun t25_1 =>
  @OptVH (loadV 1 false t25_1 M) ⟨fun t26_2 =>
  @OptVH (minmaxV true t26_2 v2) ⟨fun t28_4 =>
  @OptVH (moveV 0 v11) ⟨fun t29_5 =>
  @OptMH (storeVM 1 t29_5 t28_4 M) ⟨fun _tx_6 M6 =>
  Q .normal [(0, v0), (1, v1), (2, v2), (3, v3), (9, v9), (10, v10), (11, v11)] M6⟩⟩⟩⟩⟩
theorem e48_11 (P : Program) (Q : Exit → Slots → Mem → Prop) (s : Slots) (M : Mem) : wpC P c48_11 Q s M = w48_11 P Q M (sget s 0) (sget s 1) (sget s 2) (sget s 3) (sget s 9) (sget s 10) (sget s 11) := by kernel_rfl
def o48_12 : List AOper := [⟨some 32, (.mov (.tmp 3)), false, none⟩,
  ⟨some 33, (.fieldAddr 1 (.tmp 11)), false, none⟩,
  ⟨none, (.store 1 (.tmp 33) (.tmp 32)), false, none⟩]
def c48_13 : ACode := (.region o48_12 [0, 1, 2, 3, 9, 10, 11])
def w48_13 (_P : Program) (Q : Exit → Slots → Mem → Prop) (M : Mem) (v0 : V) (v1 : V) (v2 : V) (v3 : V) (v9 : V) (v10 : V) (v11 : V) : Prop :=
  @OptVH (moveV 1 v11) ⟨fun t33_2 =>
  @OptMH (storeVM 1 t33_2 v3 M) ⟨fun _tx_3 M3 =>
  Q .normal [(0, v0), (1, v1), (2, v2), (3, v3), (9, v9), (10, v10), (11, v11)] M3⟩⟩
theorem e48_13 (P : Program) (Q : Exit → Slots → Mem → Prop) (s : Slots) (M : Mem) : wpC P c48_13 Q s M = w48_13 P Q M (sget s 0) (sget s 1) (sget s 2) (sget s 3) (sget s 9) (sget s 10) (sget s 11) := by kernel_rfl
def o48_14 : List AOper := [⟨some 30, (.mov (.tmp 3)), false, none⟩,
  ⟨some 31, (.bin .neq .none (.tmp 30) (.const (.int .i64 0))), true, none⟩]
def c48_15 : ACode := (.seq (.region o48_14 [0, 1, 2, 3, 9, 10, 11, 31]) (.cond (.tmp 31) c48_13 .skip))
def w48_15 (P : Program) (Q : Exit → Slots → Mem → Prop) (M : Mem) (v0 : V) (v1 : V) (v2 : V) (v3 : V) (v9 : V) (v10 : V) (v11 : V) : Prop :=
  @OptBH (binV .neq .none v3 (.int .i64 0)) ⟨fun b31_2 =>
  @BIfH b31_2
  ⟨wpC P c48_13 Q [(0, v0), (1, v1), (2, v2), (3, v3), (9, v9), (10, v10), (11, v11), (31, (.bool b31_2))] M⟩
  ⟨Q .normal [(0, v0), (1, v1), (2, v2), (3, v3), (9, v9), (10, v10), (11, v11), (31, (.bool b31_2))] M⟩⟩
theorem e48_15 (P : Program) (Q : Exit → Slots → Mem → Prop) (s : Slots) (M : Mem) : wpC P c48_15 Q s M = w48_15 P Q M (sget s 0) (sget s 1) (sget s 2) (sget s 3) (sget s 9) (sget s 10) (sget s 11) := by kernel_rfl
def c48_16 : ACode := (.seq c48_11 c48_15)
def o48_17 : List AOper := [⟨some 22, (.mov (.tmp 10)), false, none⟩,
  ⟨some 23, (.mov (.tmp 1)), false, none⟩,
  ⟨some 24, (.bin .eql .none (.tmp 22) (.tmp 23)), true, none⟩]
def c48_18 : ACode := (.seq (.region o48_17 [0, 1, 2, 3, 9, 10, 11, 24]) (.cond (.tmp 24) c48_16 .skip))
def w48_18 (P : Program) (Q : Exit → Slots → Mem → Prop) (M : Mem) (v0 : V) (v1 : V) (v2 : V) (v3 : V) (v9 : V) (v10 : V) (v11 : V) : Prop :=
  @OptBH (binV .eql .none v10 v1) ⟨fun b24_3 =>
  @BIfH b24_3
  ⟨wpC P c48_16 Q [(0, v0), (1, v1), (2, v2), (3, v3), (9, v9), (10, v10), (11, v11), (24, (.bool b24_3))] M⟩
  ⟨Q .normal [(0, v0), (1, v1), (2, v2), (3, v3), (9, v9), (10, v10), (11, v11), (24, (.bool b24_3))] M⟩⟩
theorem e48_18 (P : Program) (Q : Exit → Slots → Mem → Prop) (s : Slots) (M : Mem) : wpC P c48_18 Q s M = w48_18 P Q M (sget s 0) (sget s 1) (sget s 2) (sget s 3) (sget s 9) (sget s 10) (sget s 11) := by kernel_rfl
def o48_19 : List AOper := [⟨some 34, (.mov (.tmp 9)), false, none⟩,
  ⟨some 35, (.load 2 true (.tmp 11)), false, none⟩,
  ⟨some 36, (.buildSlice [(.int .i64 0), (.int .i64 0)] 2 1 [(0, (2, (.tmp 35)))]), false, none⟩,
  ⟨some 37, (.append false 2 16 (.tmp 34) (.tmp 36)), false, none⟩,
  ⟨some 9, (.mov (.tmp 37)), false, none⟩]
def c48_20 : ACode := (.region o48_19 [0, 1, 2, 3, 9, 10])
def w48_20 (_P : Program) (Q : Exit → Slots → Mem → Prop) (M : Mem) (v0 : V) (v1 : V) (v2 : V) (v3 : V) (v9 : V) (v10 : V) (v11 : V) : Prop :=
  @OptVH (loadV 2 true v11 M) ⟨fun t35_2 =>
  @OptVH (buildSliceV [(.int .i64 0), (.int .i64 0)] 2 1 [(0, 2, t35_2)]) ⟨fun t36_3 =>
  @OptMH (appV false 2 16 v9 t36_3 M) ⟨fun t37_4 M4 =>
  Q .normal [(0, v0), (1, v1), (2, v2), (3, v3), (9, t37_4), (10, v10)] M4⟩⟩⟩
theorem e48_20 (P : Program) (Q : Exit → Slots → Mem → Prop) (s : Slots) (M : Mem) : wpC P c48_20 Q s M = w48_20 P Q M (sget s 0) (sget s 1) (sget s 2) (sget s 3) (sget s 9) (sget s 10) (sget s 11) := by kernel_rfl
def c48_21 : ACode := (.seq c48_18 c48_20)
def c48_22 : ACode := (.seq c48_9 c48_21)
def c48_23 : ACode := (.block 1 c48_22)
def o48_24 : List AOper := [⟨some 16, (.mov (.tmp 10)), false, none⟩,
  ⟨some 17, (.bin .add .none (.tmp 16) (.const (.int .i64 1))), false, none⟩,
  ⟨some 10, (.mov (.tmp 17)), false, none⟩]
def c48_25 : ACode := (.region o48_24 [0, 1, 2, 3, 9, 10])
def w48_25 (_P : Program) (Q : Exit → Slots → Mem → Prop) (M : Mem) (v0 : V) (v1 : V) (v2 : V) (v3 : V) (v9 : V) (v10 : V) : Prop :=
  @OptVH (binV .add .none v10 (.int .i64 1)) ⟨fun t17_2 =>
  Q .normal [(0, v0), (1, v1), (2, v2), (3, v3), (9, v9), (10, t17_2)] M⟩
theorem e48_25 (P : Program) (Q : Exit → Slots → Mem → Prop) (s : Slots) (M : Mem) : wpC P c48_25 Q s M = w48_25 P Q M (sget s 0) (sget s 1) (sget s 2) (sget s 3) (sget s 9) (sget s 10) := by kernel_rfl
def c48_26 : ACode := (.seq c48_23 c48_25)
def c48_27 : ACode := (.seq c48_7 c48_26)
def c48_28 : ACode := (.loop [0, 1, 2, 3, 9, 10] c48_27)
def c48_29 : ACode := (.block 0 c48_28)
def c48_30 : ACode := (.seq c48_5 c48_29)
def o48_31 : List AOper := [⟨some 38, (.mov (.tmp 9)), false, none⟩,
  ⟨some 8, (.mov (.tmp 38)), false, none⟩]
def c48_32 : ACode := (.region o48_31 [8])
def w48_32 (_P : Program) (Q : Exit → Slots → Mem → Prop) (M : Mem) (v9 : V) : Prop :=
  Q .normal [(8, v9)] M
theorem e48_32 (P : Program) (Q : Exit → Slots → Mem → Prop) (s : Slots) (M : Mem) : wpC P c48_32 Q s M = w48_32 P Q M (sget s 9) := by kernel_rfl
def c48_33 : ACode := (.seq c48_32 .ret)
def c48_34 : ACode := (.seq c48_30 c48_33)
def c48_35 : ACode := (.seq c48_3 c48_34)
def c48_36 : ACode := (.seq c48_1 c48_35)
def fn_transitref32_heard : AFn := ⟨39, [(.tmp 8)], c48_36⟩
theorem fn_transitref32_heard_ok : resFn PR h_transitref32_heard i_transitref32_heard = some fn_transitref32_heard := by kernel_rfl

def h_transitref32_Sequence : Hints := ⟨[(0, [1, 2]), (1, [1, 2, 23]), (2, [4, 5]), (3, [4, 5])], [], []⟩
def o49_0 : List AOper := [⟨some 2, (.box 3 (.tmp 0)), false, none⟩,
  ⟨some 4, (.mov (.const (.int .i64 0))), false, none⟩,
  ⟨some 5, (.mov (.const (.bool false))), true, none⟩]
def c49_1 : ACode := (.region o49_0 [1, 2])
def w49_1 (_P : Program) (Q : Exit → Slots → Mem → Prop) (M : Mem) (v0 : V) (v1 : V) : Prop :=
  @OptMH (boxV 3 v0 M) ⟨fun t2_1 M1 =>
  Q .normal [(1, v1), (2, t2_1)] M1⟩
theorem e49_1 (P : Program) (Q : Exit → Slots → Mem → Prop) (s : Slots) (M : Mem) : wpC P c49_1 Q s M = w49_1 P Q M (sget s 0) (sget s 1) := by kernel_rfl
def o49_2 : List AOper := [⟨some 4, (.mov (.const (.int .i64 0))), false, none⟩,
  ⟨some 5, (.mov (.const (.bool false))), true, none⟩]
def c49_3 : ACode := (.region o49_2 [4, 5])
def w49_3 (_P : Program) (Q : Exit → Slots → Mem → Prop) (M : Mem) : Prop :=
  Q .normal [(4, (.int .i64 0)), (5, (.bool false))] M
theorem e49_3 (P : Program) (Q : Exit → Slots → Mem → Prop) (s : Slots) (M : Mem) : wpC P c49_3 Q s M = w49_3 P Q M := by kernel_rfl
def c49_4 : ACode := (.seq c49_3 .ret)
def o49_5 : List AOper := [⟨some 6, (.mov (.tmp 1)), false, none⟩,
  ⟨some 7, (.bin .lss .none (.tmp 6) (.const (.int .i64 0))), true, none⟩,
  ⟨some 8, (.mov (.tmp 7)), true, none⟩,
  ⟨some 9, (.mov (.tmp 1)), false, some (8, false)⟩,
  ⟨some 10, (.fieldAddr 1 (.tmp 2)), false, some (8, false)⟩,
  ⟨some 11, (.load 1 false (.tmp 10)), false, some (8, false)⟩,
  ⟨some 12, (.lenSl (.tmp 11)), false, some (8, false)⟩,
  ⟨some 13, (.bin .geq .none (.tmp 9) (.tmp 12)), true, some (8, false)⟩,
  ⟨some 14, (.pick (.tmp 8) (.const (.bool true)) (.tmp 13)), true, none⟩,
  ⟨some 15, (.mov (.tmp 14)), true, none⟩,
  ⟨some 16, (.fieldAddr 1 (.tmp 2)), false, some (15, false)⟩,
  ⟨some 17, (.load 1 false (.tmp 16)), false, some (15, false)⟩,
  ⟨some 18, (.mov (.tmp 1)), false, some (15, false)⟩,
  ⟨some 19, (.indexSl 2 (.tmp 17) (.tmp 18)), false, some (15, false)⟩,
  ⟨some 20, (.fieldAddr 1 (.tmp 19)), false, some (15, false)⟩,
  ⟨some 21, (.load 1 false (.tmp 20)), false, some (15, false)⟩,
  ⟨some 22, (.bin .eql .none (.tmp 21) (.const (.int .i64 0))), true, some (15, false)⟩,
  ⟨some 23, (.pick (.tmp 15) (.const (.bool true)) (.tmp 22)), true, none⟩]
def c49_6 : ACode := (.seq (.region o49_5 [1, 2, 23]) (.cond (.tmp 23) c49_4 .skip))
def w49_6 (P : Program) (Q : Exit → Slots → Mem → Prop) (M : Mem) (v1 : V) (v2 : V) : Prop :=
  @OptBH (binV .lss .none v1 (.int .i64 0)) ⟨fun b7_2 =>
  @BIfH b7_2
  ⟨wpC P c49_4 Q [(1, v1), (2, v2), (23, (.bool true))] M⟩
  ⟨@OptVH (moveV 1 v2) ⟨fun t10_8 =>
  @OptVH (loadV 1 false t10_8 M) ⟨fun t11_9 =>
  @OptVH (lenV t11_9 M) ⟨fun t12_10 =>
  @OptBH (binV .geq .none v1 t12_10) ⟨fun b13_11 =>
  @BIfH b13_11
  ⟨wpC P c49_4 Q [(1, v1), (2, v2), (23, (.bool true))] M⟩
  ⟨@OptVH (moveV 1 v2) ⟨fun t16_15 =>
  @OptVH (loadV 1 false t16_15 M) ⟨fun t17_16 =>
  @OptVH (indexSlV 2 t17_16 v1 M) ⟨fun t19_18 =>
  @OptVH (moveV 1 t19_18) ⟨fun t20_19 =>
  @OptVH (loadV 1 false t20_19 M) ⟨fun t21_20 =>
  @OptBH (binV .eql .none t21_20 (.int .i64 0)) ⟨fun b22_21 =>
  @BIfH b22_21
  ⟨wpC P c49_4 Q [(1, v1), (2, v2), (23, (.bool b22_21))] M⟩
  ⟨Q .normal [(1, v1), (2, v2), (23, (.bool b22_21))] M⟩⟩⟩⟩⟩⟩⟩⟩⟩⟩⟩⟩⟩⟩
theorem e49_6 (P : Program) (Q : Exit → Slots → Mem → Prop) (s : Slots) (M : Mem) : wpC P c49_6 Q s M = w49_6 P Q M (sget s 1) (sget s 2) := by kernel_rfl
def o49_7 : List AOper := [⟨some 24, (.fieldAddr 1 (.tmp 2)), false, none⟩,
  ⟨some 25, (.load 1 false (.tmp 24)), false, none⟩,
  ⟨some 26, (.mov (.tmp 1)), false, none⟩,
  ⟨some 27, (.indexSl 2 (.tmp 25) (.tmp 26)), false, none⟩,
  ⟨some 28, (.fieldAddr 1 (.tmp 27)), false, none⟩,
  ⟨some 29, (.load 1 false (.tmp 28)), false, none⟩,
  ⟨some 4, (.mov (.tmp 29)), false, none⟩,
  ⟨some 5, (.mov (.const (.bool true))), true, none⟩]
def c49_8 : ACode := (.region o49_7 [4, 5])
def w49_8 (_P : Program) (Q : Exit → Slots → Mem → Prop) (M : Mem) (v1 : V) (v2 : V) : Prop :=
  @OptVH (moveV 1 v2) ⟨fun t24_1 =>
  @OptVH (loadV 1 false t24_1 M) ⟨fun t25_2 =>
  @OptVH (indexSlV 2 t25_2 v1 M) ⟨fun t27_4 =>
  @OptVH (moveV 1 t27_4) ⟨fun t28_5 =>
  @OptVH (loadV 1 false t28_5 M) ⟨fun t29_6 =>
  Q .normal [(4, t29_6), (5, (.bool true))] M⟩⟩⟩⟩⟩
theorem e49_8 (P : Program) (Q : Exit → Slots → Mem → Prop) (s : Slots) (M : Mem) : wpC P c49_8 Q s M = w49_8 P Q M (sget s 1) (sget s 2) := by kernel_rfl
def c49_9 : ACode := (.seq c49_8 .ret)
def c49_10 : ACode := (.seq c49_6 c49_9)
def c49_11 : ACode := (.seq c49_1 c49_10)
def fn_transitref32_Sequence : AFn := ⟨30, [(.tmp 4), (.tmp 5)], c49_11⟩
theorem fn_transitref32_Sequence_ok : resFn PR h_transitref32_Sequence i_transitref32_Sequence = some fn_transitref32_Sequence := by kernel_rfl

def h_transitref32_Failed : Hints := ⟨[(0, [1, 2, 3]), (1, [1, 2, 3, 16]), (2, [6]), (3, [2, 3, 7]), (4, [6])], [], []⟩
def o50_0 : List AOper := [⟨some 3, (.box 3 (.tmp 0)), false, none⟩,
  ⟨some 6, (.mov (.const (.bool false))), true, none⟩]
def c50_1 : ACode := (.region o50_0 [1, 2, 3])
def w50_1 (_P : Program) (Q : Exit → Slots → Mem → Prop) (M : Mem) (v0 : V) (v1 : V) (v2 : V) : Prop :=
  @OptMH (boxV 3 v0 M) ⟨fun t3_1 M1 =>
  Q .normal [(1, v1), (2, v2), (3, t3_1)] M1⟩
theorem e50_1 (P : Program) (Q : Exit → Slots → Mem → Prop) (s : Slots) (M : Mem) : wpC P c50_1 Q s M = w50_1 P Q M (sget s 0) (sget s 1) (sget s 2) := by kernel_rfl
def o50_2 : List AOper := [⟨some 6, (.mov (.const (.bool false))), true, none⟩]
def c50_3 : ACode := (.region o50_2 [6])
def w50_3 (_P : Program) (Q : Exit → Slots → Mem → Prop) (M : Mem) : Prop :=
  Q .normal [(6, (.bool false))] M
theorem e50_3 (P : Program) (Q : Exit → Slots → Mem → Prop) (s : Slots) (M : Mem) : wpC P c50_3 Q s M = w50_3 P Q M := by kernel_rfl
def c50_4 : ACode := (.seq c50_3 .ret)
def o50_5 : List AOper := [⟨some 8, (.mov (.tmp 1)), false, none⟩,
  ⟨some 9, (.bin .lss .none (.tmp 8) (.const (.int .i64 0))), true, none⟩,
  ⟨some 10, (.mov (.tmp 9)), true, none⟩,
  ⟨some 11, (.mov (.tmp 1)), false, some (10, false)⟩,
  ⟨some 12, (.fieldAddr 1 (.tmp 3)), false, some (10, false)⟩,
  ⟨some 13, (.load 1 false (.tmp 12)), false, some (10, false)⟩,
  ⟨some 14, (.lenSl (.tmp 13)), false, some (10, false)⟩,
  ⟨some 15, (.bin .geq .none (.tmp 11) (.tmp 14)), true, some (10, false)⟩,
  ⟨some 16, (.pick (.tmp 10) (.const (.bool true)) (.tmp 15)), true, none⟩]
def c50_6 : ACode := (.seq (.region o50_5 [1, 2, 3, 16]) (.cond (.tmp 16) c50_4 .skip))
def w50_6 (P : Program) (Q : Exit → Slots → Mem → Prop) (M : Mem) (v1 : V) (v2 : V) (v3 : V) : Prop :=
  @OptBH (binV .lss .none v1 (.int .i64 0)) ⟨fun b9_2 =>
  @BIfH b9_2
  ⟨wpC P c50_4 Q [(1, v1), (2, v2), (3, v3), (16, (.bool true))] M⟩
  ⟨@OptVH (moveV 1 v3) ⟨fun t12_6 =>
  @OptVH (loadV 1 false t12_6 M) ⟨fun t13_7 =>
  @OptVH (lenV t13_7 M) ⟨fun t14_8 =>
  @OptBH (binV .geq .none v1 t14_8) ⟨fun b15_9 =>
  @BIfH b15_9
  ⟨wpC P c50_4 Q [(1, v1), (2, v2), (3, v3), (16, (.bool b15_9))] M⟩
  ⟨Q .normal [(1, v1), (2, v2), (3, v3), (16, (.bool b15_9))] M⟩⟩⟩⟩⟩⟩⟩
theorem e50_6 (P : Program) (Q : Exit → Slots → Mem → Prop) (s : Slots) (M : Mem) : wpC P c50_6 Q s M = w50_6 P Q M (sget s 1) (sget s 2) (sget s 3) := by kernel_rfl
def o50_7 : List AOper := [⟨some 17, (.fieldAddr 1 (.tmp 3)), false, none⟩,
  ⟨some 18, (.load 1 false (.tmp 17)), false, none⟩,
  ⟨some 19, (.mov (.tmp 1)), false, none⟩,
  ⟨some 20, (.indexSl 2 (.tmp 18) (.tmp 19)), false, none⟩,
  ⟨some 21, (.fieldAddr 0 (.tmp 20)), false, none⟩,
  ⟨some 22, (.load 1 false (.tmp 21)), false, none⟩,
  ⟨some 7, (.mov (.tmp 22)), false, none⟩]
def c50_8 : ACode := (.region o50_7 [2, 3, 7])
def w50_8 (_P : Program) (Q : Exit → Slots → Mem → Prop) (M : Mem) (v1 : V) (v2 : V) (v3 : V) : Prop :=
  @OptVH (moveV 1 v3) ⟨fun t17_1 =>
  @OptVH (loadV 1 false t17_1 M) ⟨fun t18_2 =>
  @OptVH (indexSlV 2 t18_2 v1 M) ⟨fun t20_4 =>
  @OptVH (moveV 0 t20_4) ⟨fun t21_5 =>
  @OptVH (loadV 1 false t21_5 M) ⟨fun t22_6 =>
  Q .normal [(2, v2), (3, v3), (7, t22_6)] M⟩⟩⟩⟩⟩
theorem e50_8 (P : Program) (Q : Exit → Slots → Mem → Prop) (s : Slots) (M : Mem) : wpC P c50_8 Q s M = w50_8 P Q M (sget s 1) (sget s 2) (sget s 3) := by kernel_rfl
def o50_9 : List AOper := [⟨some 23, (.mov (.tmp 7)), false, none⟩,
  ⟨some 24, (.bin .lss .none (.tmp 23) (.const (.int .i64 0))), true, none⟩,
  ⟨some 25, (.mov (.tmp 24)), true, none⟩,
  ⟨some 26, (.mov (.tmp 2)), false, some (25, false)⟩,
  ⟨some 27, (.mov (.tmp 7)), false, some (25, false)⟩,
  ⟨some 28, (.bin .gtr .none (.tmp 26) (.tmp 27)), true, some (25, false)⟩,
  ⟨some 29, (.mov (.tmp 28)), true, some (25, false)⟩,
  ⟨some 30, (.mov (.tmp 2)), false, some (29, true)⟩,
  ⟨some 31, (.conv .u64 (.tmp 30)), false, some (29, true)⟩,
  ⟨some 32, (.mov (.tmp 7)), false, some (29, true)⟩,
  ⟨some 33, (.conv .u64 (.tmp 32)), false, some (29, true)⟩,
  ⟨some 34, (.bin .sub .none (.tmp 31) (.tmp 33)), false, some (29, true)⟩,
  ⟨some 35, (.fieldAddr 0 (.tmp 3)), false, some (29, true)⟩,
  ⟨some 36, (.load 1 false (.tmp 35)), false, some (29, true)⟩,
  ⟨some 37, (.conv .u64 (.tmp 36)), false, some (29, true)⟩,
  ⟨some 38, (.bin .gtr .none (.tmp 34) (.tmp 37)), true, some (29, true)⟩,
  ⟨some 39, (.pick (.tmp 29) (.tmp 38) (.const (.bool false))), true, some (25, false)⟩,
  ⟨some 40, (.pick (.tmp 25) (.const (.bool true)) (.tmp 39)), true, none⟩,
  ⟨some 6, (.mov (.tmp 40)), true, none⟩]
def c50_10 : ACode := (.region o50_9 [6])
def w50_10 (_P : Program) (Q : Exit → Slots → Mem → Prop) (M : Mem) (v2 : V) (v3 : V) (v7 : V) : Prop :=
  @OptBH (binV .lss .none v7 (.int .i64 0)) ⟨fun b24_2 =>
  @BIfH b24_2
  ⟨Q .normal [(6, (.bool true))] M⟩
  ⟨@OptBH (binV .gtr .none v2 v7) ⟨fun b28_8 =>
  @BIfH b28_8
  ⟨@OptVH (convV .u64 v2) ⟨fun t31_11 =>
  @OptVH (convV .u64 v7) ⟨fun t33_13 =>
  @OptVH (binV .sub .none t31_11 t33_13) ⟨fun t34_14 =>
  @OptVH (moveV 0 v3) ⟨fun t35_15 =>
  @OptVH (loadV 1 false t35_15 M) ⟨fun t36_16 =>
  @OptVH (convV .u64 t36_16) ⟨fun t37_17 =>
  @OptBH (binV .gtr .none t34_14 t37_17) ⟨fun b38_18 =>
  Q .normal [(6, (.bool b38_18))] M⟩⟩⟩⟩⟩⟩⟩⟩
  ⟨Q .normal [(6, (.bool false))] M⟩⟩⟩⟩
theorem e50_10 (P : Program) (Q : Exit → Slots → Mem → Prop) (s : Slots) (M : Mem) : wpC P c50_10 Q s M = w50_10 P Q M (sget s 2) (sget s 3) (sget s 7) := by kernel_rfl
def c50_11 : ACode := (.seq c50_10 .ret)
def c50_12 : ACode := (.seq c50_8 c50_11)
def c50_13 : ACode := (.seq c50_6 c50_12)
def c50_14 : ACode := (.seq c50_1 c50_13)
def fn_transitref32_Failed : AFn := ⟨41, [(.tmp 6)], c50_14⟩
theorem fn_transitref32_Failed_ok : resFn PR h_transitref32_Failed i_transitref32_Failed = some fn_transitref32_Failed := by kernel_rfl

def h_transitref32_Active : Hints := ⟨[(0, [1, 2]), (1, [1, 2, 5]), (2, [1, 2, 5, 6]), (3, [1, 2, 5, 6, 13]), (4, [1, 2, 5, 6]), (5, [1, 2, 5, 6, 20]), (6, [1, 2, 5, 6, 7]), (7, [1, 2, 5, 6, 7, 8]), (8, [1, 2, 5, 6, 7, 8]), (9, [1, 2, 5, 6, 7, 8, 42]), (10, [1, 2, 5, 6, 7, 8]), (11, [1, 2, 5, 6, 7, 8]), (12, [1, 2, 5, 6]), (13, [4])], [(3, [1, 2, 5, 6]), (9, [1, 2, 5, 6, 7, 8])], [(1, [0])]⟩
def o51_0 : List AOper := [⟨some 2, (.box 3 (.tmp 0)), false, none⟩,
  ⟨some 4, (.mov (.const (.slice [] .nil))), false, none⟩]
def c51_1 : ACode := (.region o51_0 [1, 2])
def w51_1 (_P : Program) (Q : Exit → Slots → Mem → Prop) (M : Mem) (v0 : V) (v1 : V) : Prop :=
  @OptMH (boxV 3 v0 M) ⟨fun t2_1 M1 =>
  Q .normal [(1, v1), (2, t2_1)] M1⟩
theorem e51_1 (P : Program) (Q : Exit → Slots → Mem → Prop) (s : Slots) (M : Mem) : wpC P c51_1 Q s M = w51_1 P Q M (sget s 0) (sget s 1) := by kernel_rfl
def o51_2 : List AOper := [⟨some 5, (.newarr 13), false, none⟩]
def c51_3 : ACode := (.region o51_2 [1, 2, 5])
def w51_3 (_P : Program) (Q : Exit → Slots → Mem → Prop) (M : Mem) (v1 : V) (v2 : V) : Prop :=
  @OptMH (newarrV 13 M) ⟨fun t5_1 M1 =>
  Q .normal [(1, v1), (2, v2), (5, t5_1)] M1⟩
theorem e51_3 (P : Program) (Q : Exit → Slots → Mem → Prop) (s : Slots) (M : Mem) : wpC P c51_3 Q s M = w51_3 P Q M (sget s 1) (sget s 2) := by kernel_rfl
def o51_4 : List AOper := [⟨some 6, (.mov (.const (.int .i64 0))), false, none⟩]
def c51_5 : ACode := (.region o51_4 [1, 2, 5, 6])
def w51_5 (_P : Program) (Q : Exit → Slots → Mem → Prop) (M : Mem) (v1 : V) (v2 : V) (v5 : V) : Prop :=
  Q .normal [(1, v1), (2, v2), (5, v5), (6, (.int .i64 0))] M
theorem e51_5 (P : Program) (Q : Exit → Slots → Mem → Prop) (s : Slots) (M : Mem) : wpC P c51_5 Q s M = w51_5 P Q M (sget s 1) (sget s 2) (sget s 5) := by kernel_rfl
def o51_6 : List AOper := [⟨some 9, (.mov (.tmp 6)), false, none⟩,
  ⟨some 10, (.fieldAddr 2 (.tmp 2)), false, none⟩,
  ⟨some 11, (.load 1 false (.tmp 10)), false, none⟩,
  ⟨some 12, (.lenSl (.tmp 11)), false, none⟩,
  ⟨some 13, (.bin .lss .none (.tmp 9) (.tmp 12)), true, none⟩]
def c51_7 : ACode := (.seq (.region o51_6 [1, 2, 5, 6, 13]) (.cond (.tmp 13) .skip (.exit 0)))
def w51_7 (_P : Program) (Q : Exit → Slots → Mem → Prop) (M : Mem) (v1 : V) (v2 : V) (v5 : V) (v6 : V) : Prop :=
  @OptVH (moveV 2 v2) ⟨fun t10_2 =>
  @OptVH (loadV 1 false t10_2 M) ⟨fun t11_3 =>
  @OptVH (lenV t11_3 M) ⟨fun t12_4 =>
  @OptBH (binV .lss .none v6 t12_4) ⟨fun b13_5 =>
  @BIfH b13_5
  ⟨Q .normal [(1, v1), (2, v2), (5, v5), (6, v6), (13, (.bool b13_5))] M⟩
  ⟨Q (.exit 0) [(1, v1), (2, v2), (5, v5), (6, v6), (13, (.bool b13_5))] M⟩⟩⟩⟩⟩
theorem e51_7 (P : Program) (Q : Exit → Slots → Mem → Prop) (s : Slots) (M : Mem) : wpC P c51_7 Q s M = w51_7 P Q M (sget s 1) (sget s 2) (sget s 5) (sget s 6) := by kernel_rfl
def o51_8 : List AOper := [⟨some 16, (.load 3 true (.tmp 2)), false, none⟩,
  ⟨some 17, (.mov (.tmp 6)), false, none⟩,
  ⟨some 18, (.mov (.tmp 1)), false, none⟩,
  ⟨some 19, (.call i_transitref32_active [(.tmp 16), (.tmp 17), (.tmp 18)]), true, none⟩,
  ⟨some 20, (.un .not (.tmp 19)), true, none⟩]
def c51_9 : ACode := (.seq (.region o51_8 [1, 2, 5, 6, 20]) (.cond (.tmp 20) (.exit 1) .skip))
def w51_9 (P : Program) (Q : Exit → Slots → Mem → Prop) (M : Mem) (v1 : V) (v2 : V) (v5 : V) (v6 : V) : Prop :=
  @OptVH (loadV 3 true v2 M) ⟨fun t16_1 =>
  @CallH P i_transitref32_active [t16_1, v6, v1] M ⟨fun t19_4 M4 => @OptBH (some t19_4) ⟨fun b19_4 =>
  @OptBH (unV .not (.bool b19_4)) ⟨fun b20_5 =>
  @BIfH b20_5
  ⟨Q (.exit 1) [(1, v1), (2, v2), (5, v5), (6, v6), (20, (.bool b20_5))] M4⟩
  ⟨Q .normal [(1, v1), (2, v2), (5, v5), (6, v6), (20, (.bool b20_5))] M4⟩⟩⟩⟩⟩
theorem e51_9 (P : Program) (Q : Exit → Slots → Mem → Prop) (s : Slots) (M : Mem) : wpC P c51_9 Q s M = w51_9 P Q M (sget s 1) (sget s 2) (sget s 5) (sget s 6) := by kernel_rfl
def o51_10 : List AOper := [⟨some 21, (.fieldAddr 2 (.tmp 2)), false, none⟩,
  ⟨some 22, (.load 1 false (.tmp 21)), false, none⟩,
  ⟨some 23, (.mov (.tmp 6)), false, none⟩,
  ⟨some 24, (.indexSl 13 (.tmp 22) (.tmp 23)), false, none⟩,
  ⟨some 25, (.load 13 true (.tmp 24)), false, none⟩,
  ⟨some 7, (.alloc [(.int .i64 0), (.int .i64 0), (.int .i64 0), (.int .i64 0), (.int .i64 0), (.str []), (.int .i64 0), (.int .i64 0), (.int .i64 0), (.int .i64 0), (.int .i64 0), (.bool false), (.slice [] .nil)]), false, none⟩,
  ⟨none, (.store 13 (.tmp 7) (.tmp 25)), false, none⟩]
def c51_11 : ACode := (.region o51_10 [1, 2, 5, 6, 7])
def w51_11 (_P : Program) (Q : Exit → Slots → Mem → Prop) (M : Mem) (v1 : V) (v2 : V) (v5 : V) (v6 : V) : Prop :=
  @OptVH (moveV 2 v2) ⟨fun t21_1 =>
  @OptVH (loadV 1 false t21_1 M) ⟨fun t22_2 =>
  @OptVH (indexSlV 13 t22_2 v6 M) ⟨fun t24_4 =>
  @OptVH (loadV 13 true t24_4 M) ⟨fun t25_5 =>
  @OptMH (allocV [(.int .i64 0), (.int .i64 0), (.int .i64 0), (.int .i64 0), (.int .i64 0), (.str []), (.int .i64 0), (.int .i64 0), (.int .i64 0), (.int .i64 0), (.int .i64 0), (.bool false), (.slice [] .nil)] M) ⟨fun t7_6 M6 =>
  @OptMH (storeVM 13 t7_6 t25_5 M6) ⟨fun _tx_7 M7 =>
  Q .normal [(1, v1), (2, v2), (5, v5), (6, v6), (7, t7_6)] M7⟩⟩⟩⟩⟩⟩
theorem e51_11 (P : Program) (Q : Exit → Slots → Mem → Prop) (s : Slots) (M : Mem) : wpC P c51_11 Q s M = w51_11 P Q M (sget s 1) (sget s 2) (sget s 5) (sget s 6) := by kernel_rfl
def o51_12 : List AOper := [⟨some 26, (.mov (.tmp 5)), false, none⟩,
  ⟨some 27, (.lenSl (.tmp 26)), false, none⟩,
  ⟨some 8, (.mov (.tmp 27)), false, none⟩]
def c51_13 : ACode := (.region o51_12 [1, 2, 5, 6, 7, 8])
def w51_13 (_P : Program) (Q : Exit → Slots → Mem → Prop) (M : Mem) (v1 : V) (v2 : V) (v5 : V) (v6 : V) (v7 : V) : Prop :=
  @OptVH (lenV v5 M) ⟨fun t27_2 =>
  Q .normal [(1, v1), (2, v2), (5, v5), (6, v6), (7, v7), (8, t27_2)] M⟩
theorem e51_13 (P : Program) (Q : Exit → Slots → Mem → Prop) (s : Slots) (M : Mem) : wpC P c51_13 Q s M = w51_13 P Q M (sget s 1) (sget s 2) (sget s 5) (sget s 6) (sget s 7) := by kernel_rfl
def o51_14 : List AOper := [⟨some 28, (.mov (.tmp 5)), false, none⟩,
  ⟨some 29, (.load 13 true (.tmp 7)), false, none⟩,
  ⟨some 30, (.buildSlice [(.int .i64 0), (.int .i64 0), (.int .i64 0), (.int .i64 0), (.int .i64 0), (.str []), (.int .i64 0), (.int .i64 0), (.int .i64 0), (.int .i64 0), (.int .i64 0), (.bool false), (.slice [] .nil)] 13 1 [(0, (13, (.tmp 29)))]), false, none⟩,
  ⟨some 31, (.append false 13 128 (.tmp 28) (.tmp 30)), false, none⟩,
  ⟨some 5, (.mov (.tmp 31)), false, none⟩]
def c51_15 : ACode := (.region o51_14 [1, 2, 5, 6, 7, 8])
def w51_15 (_P : Program) (Q : Exit → Slots → Mem → Prop) (M : Mem) (v1 : V) (v2 : V) (v5 : V) (v6 : V) (v7 : V) (v8 : V) : Prop :=
  @OptVH (loadV 13 true v7 M) ⟨fun t29_2 =>
  @OptVH (buildSliceV [(.int .i64 0), (.int .i64 0), (.int .i64 0), (.int .i64 0), (.int .i64 0), (.str []), (.int .i64 0), (.int .i64 0), (.int .i64 0), (.int .i64 0), (.int .i64 0), (.bool false), (.slice [] .nil)] 13 1 [(0, 13, t29_2)]) ⟨fun t30_3 =>
  @OptMH (appV false 13 128 v5 t30_3 M) ⟨fun t31_4 M4 =>
  Q .normal [(1, v1), (2, v2), (5, t31_4), (6, v6), (7, v7), (8, v8)] M4⟩⟩⟩
theorem e51_15 (P : Program) (Q : Exit → Slots → Mem → Prop) (s : Slots) (M : Mem) : wpC P c51_15 Q s M = w51_15 P Q M (sget s 1) (sget s 2) (sget s 5) (sget s 6) (sget s 7) (sget s 8) := by kernel_rfl
def o51_16 : List AOper := [⟨some 32, (.mov (.tmp 8)), false, none⟩,
  ⟨some 33, (.bin .gtr .none (.tmp 32) (.const (.int .i64 0))), true, none⟩,
  ⟨some 34, (.mov (.tmp 33)), true, none⟩,
  ⟨some 35, (.load 13 true (.tmp 7)), false, some (34, true)⟩,
  ⟨some 36, (.mov (.tmp 5)), false, some (34, true)⟩,
  ⟨some 37, (.mov (.tmp 8)), false, some (34, true)⟩,
  ⟨some 38, (.bin .sub .none (.tmp 37) (.const (.int .i64 1))), false, some (34, true)⟩,
  ⟨some 39, (.indexSl 13 (.tmp 36) (.tmp 38)), false, some (34, true)⟩,
  ⟨some 40, (.load 13 true (.tmp 39)), false, some (34, true)⟩,
  ⟨some 41, (.call i_transitref32_before [(.tmp 35), (.tmp 40)]), true, some (34, true)⟩,
  ⟨some 42, (.pick (.tmp 34) (.tmp 41) (.const (.bool false))), true, none⟩]
def c51_17 : ACode := (.seq (.mixed o51_16 [true, true, true, true, true, true, true, true, true, false, true] [1, 2, 5, 6, 7, 8, 42]) (.cond (.tmp 42) .skip (.exit 2)))
def w51_17 (P : Program) (Q : Exit → Slots → Mem → Prop) (M : Mem) (v1 : V) (v2 : V) (v5 : V) (v6 : V) (v7 : V) (v8 : V) : Prop :=
  @OptBH (binV .gtr .none v8 (.int .i64 0)) ⟨fun b33_2 =>
  @BIfH b33_2
  ⟨@OptVH (loadV 13 true v7 M) ⟨fun t35_4 =>
  @OptVH (binV .sub .none v8 (.int .i64 1)) ⟨fun t38_7 =>
  @OptVH (indexSlV 13 v5 t38_7 M) ⟨fun t39_8 =>
  @OptVH (loadV 13 true t39_8 M) ⟨fun t40_9 =>
  @CallH P i_transitref32_before [t35_4, t40_9] M ⟨fun t41_10 M10 => @OptBH (some t41_10) ⟨fun b41_10 =>
  @BIfH b41_10
  ⟨Q .normal [(1, v1), (2, v2), (5, v5), (6, v6), (7, v7), (8, v8), (42, (.bool b41_10))] M10⟩
  ⟨Q (.exit 2) [(1, v1), (2, v2), (5, v5), (6, v6), (7, v7), (8, v8), (42, (.bool b41_10))] M10⟩⟩⟩⟩⟩⟩⟩⟩
  ⟨Q (.exit 2) [(1, v1), (2, v2), (5, v5), (6, v6), (7, v7), (8, v8), (42, (.bool false))] M⟩⟩
theorem e51_17 (P : Program) (Q : Exit → Slots → Mem → Prop) (s : Slots) (M : Mem) : wpC P c51_17 Q s M = w51_17 P Q M (sget s 1) (sget s 2) (sget s 5) (sget s 6) (sget s 7) (sget s 8) := by kernel_rfl
def o51_18 : List AOper := [⟨some 43, (.mov (.tmp 5)), false, none⟩,
  ⟨some 44, (.mov (.tmp 8)), false, none⟩,
  ⟨some 45, (.mov (.tmp 5)), false, none⟩,
  ⟨some 46, (.mov (.tmp 8)), false, none⟩,
  ⟨some 47, (.bin .sub .none (.tmp 46) (.const (.int .i64 1))), false, none⟩,
  ⟨some 48, (.indexSl 13 (.tmp 45) (.tmp 47)), false, none⟩,
  ⟨some 49, (.load 13 true (.tmp 48)), false, none⟩,
  ⟨some 50, (.indexSl 13 (.tmp 43) (.tmp 44)), false, none⟩,
  ⟨none, (.store 13 (.tmp 50) (.tmp 49)), false, none⟩]
def c51_19 : ACode := (.region o51_18 [1, 2, 5, 6, 7, 8])
def w51_19 (_P : Program) (Q : Exit → Slots → Mem → Prop) (M : Mem) (v1 : V) (v2 : V) (v5 : V) (v6 : V) (v7 : V) (v8 : V) : Prop :=
  @OptVH (binV .sub .none v8 (.int .i64 1)) ⟨fun t47_5 =>
  @OptVH (indexSlV 13 v5 t47_5 M) ⟨fun t48_6 =>
  @OptVH (loadV 13 true t48_6 M) ⟨fun t49_7 =>
  @OptVH (indexSlV 13 v5 v8 M) ⟨fun t50_8 =>
  @OptMH (storeVM 13 t50_8 t49_7 M) ⟨fun _tx_9 M9 =>
  Q .normal [(1, v1), (2, v2), (5, v5), (6, v6), (7, v7), (8, v8)] M9⟩⟩⟩⟩⟩
theorem e51_19 (P : Program) (Q : Exit → Slots → Mem → Prop) (s : Slots) (M : Mem) : wpC P c51_19 Q s M = w51_19 P Q M (sget s 1) (sget s 2) (sget s 5) (sget s 6) (sget s 7) (sget s 8) := by kernel_rfl
def o51_20 : List AOper := [⟨some 51, (.mov (.tmp 8)), false, none⟩,
  ⟨some 52, (.bin .sub .none (.tmp 51) (.const (.int .i64 1))), false, none⟩,
  ⟨some 8, (.mov (.tmp 52)), false, none⟩]
def c51_21 : ACode := (.region o51_20 [1, 2, 5, 6, 7, 8])
def w51_21 (_P : Program) (Q : Exit → Slots → Mem → Prop) (M : Mem) (v1 : V) (v2 : V) (v5 : V) (v6 : V) (v7 : V) (v8 : V) : Prop :=
  @OptVH (binV .sub .none v8 (.int .i64 1)) ⟨fun t52_2 =>
  Q .normal [(1, v1), (2, v2), (5, v5), (6, v6), (7, v7), (8, t52_2)] M⟩
theorem e51_21 (P : Program) (Q : Exit → Slots → Mem → Prop) (s : Slots) (M : Mem) : wpC P c51_21 Q s M = w51_21 P Q M (sget s 1) (sget s 2) (sget s 5) (sget s 6) (sget s 7) (sget s 8) := by kernel_rfl
def c51_22 : ACode := (.seq c51_19 c51_21)
def c51_23 : ACode := (.block 3 c51_22)
def c51_24 : ACode := (.seq c51_17 c51_23)
def c51_25 : ACode := (.loop [1, 2, 5, 6, 7, 8] c51_24)
def c51_26 : ACode := (.block 2 c51_25)
def o51_27 : List AOper := [⟨some 53, (.mov (.tmp 5)), false, none⟩,
  ⟨some 54, (.mov (.tmp 8)), false, none⟩,
  ⟨some 55, (.load 13 true (.tmp 7)), false, none⟩,
  ⟨some 56, (.indexSl 13 (.tmp 53) (.tmp 54)), false, none⟩,
  ⟨none, (.store 13 (.tmp 56) (.tmp 55)), false, none⟩]
def c51_28 : ACode := (.region o51_27 [1, 2, 5, 6])
def w51_28 (_P : Program) (Q : Exit → Slots → Mem → Prop) (M : Mem) (v1 : V) (v2 : V) (v5 : V) (v6 : V) (v7 : V) (v8 : V) : Prop :=
  @OptVH (loadV 13 true v7 M) ⟨fun t55_3 =>
  @OptVH (indexSlV 13 v5 v8 M) ⟨fun t56_4 =>
  @OptMH (storeVM 13 t56_4 t55_3 M) ⟨fun _tx_5 M5 =>
  Q .normal [(1, v1), (2, v2), (5, v5), (6, v6)] M5⟩⟩⟩
theorem e51_28 (P : Program) (Q : Exit → Slots → Mem → Prop) (s : Slots) (M : Mem) : wpC P c51_28 Q s M = w51_28 P Q M (sget s 1) (sget s 2) (sget s 5) (sget s 6) (sget s 7) (sget s 8) := by kernel_rfl
def c51_29 : ACode := (.seq c51_26 c51_28)
def c51_30 : ACode := (.seq c51_15 c51_29)
def c51_31 : ACode := (.seq c51_13 c51_30)
def c51_32 : ACode := (.seq c51_11 c51_31)
def c51_33 : ACode := (.seq c51_9 c51_32)
def c51_34 : ACode := (.block 1 c51_33)
def o51_35 : List AOper := [⟨some 14, (.mov (.tmp 6)), false, none⟩,
  ⟨some 15, (.bin .add .none (.tmp 14) (.const (.int .i64 1))), false, none⟩,
  ⟨some 6, (.mov (.tmp 15)), false, none⟩]
def c51_36 : ACode := (.region o51_35 [1, 2, 5, 6])
def w51_36 (_P : Program) (Q : Exit → Slots → Mem → Prop) (M : Mem) (v1 : V) (v2 : V) (v5 : V) (v6 : V) : Prop :=
  @OptVH (binV .add .none v6 (.int .i64 1)) ⟨fun t15_2 =>
  Q .normal [(1, v1), (2, v2), (5, v5), (6, t15_2)] M⟩
theorem e51_36 (P : Program) (Q : Exit → Slots → Mem → Prop) (s : Slots) (M : Mem) : wpC P c51_36 Q s M = w51_36 P Q M (sget s 1) (sget s 2) (sget s 5) (sget s 6) := by kernel_rfl
def c51_37 : ACode := (.seq c51_34 c51_36)
def c51_38 : ACode := (.seq c51_7 c51_37)
def c51_39 : ACode := (.loop [1, 2, 5, 6] c51_38)
def c51_40 : ACode := (.block 0 c51_39)
def c51_41 : ACode := (.seq c51_5 c51_40)
def o51_42 : List AOper := [⟨some 57, (.mov (.tmp 5)), false, none⟩,
  ⟨some 4, (.mov (.tmp 57)), false, none⟩]
def c51_43 : ACode := (.region o51_42 [4])
def w51_43 (_P : Program) (Q : Exit → Slots → Mem → Prop) (M : Mem) (v5 : V) : Prop :=
  Q .normal [(4, v5)] M
theorem e51_43 (P : Program) (Q : Exit → Slots → Mem → Prop) (s : Slots) (M : Mem) : wpC P c51_43 Q s M = w51_43 P Q M (sget s 5) := by kernel_rfl
def c51_44 : ACode := (.seq c51_43 .ret)
def c51_45 : ACode := (.seq c51_41 c51_44)
def c51_46 : ACode := (.seq c51_3 c51_45)
def c51_47 : ACode := (.seq c51_1 c51_46)
def fn_transitref32_Active : AFn := ⟨58, [(.tmp 4)], c51_47⟩
theorem fn_transitref32_Active_ok : resFn PR h_transitref32_Active i_transitref32_Active = some fn_transitref32_Active := by kernel_rfl

def h_transitref31_Status : Hints := ⟨[(0, [1]), (1, [2])], [], []⟩
def o52_0 : List AOper := [⟨some 1, (.box 13 (.tmp 0)), false, none⟩,
  ⟨some 2, (.mov (.const (.bool false))), true, none⟩]
def c52_1 : ACode := (.region o52_0 [1])
def w52_1 (_P : Program) (Q : Exit → Slots → Mem → Prop) (M : Mem) (v0 : V) : Prop :=
  @OptMH (boxV 13 v0 M) ⟨fun t1_1 M1 =>
  Q .normal [(1, t1_1)] M1⟩
theorem e52_1 (P : Program) (Q : Exit → Slots → Mem → Prop) (s : Slots) (M : Mem) : wpC P c52_1 Q s M = w52_1 P Q M (sget s 0) := by kernel_rfl
def o52_2 : List AOper := [⟨some 3, (.fieldAddr 4 (.tmp 1)), false, none⟩,
  ⟨some 4, (.load 1 false (.tmp 3)), false, none⟩,
  ⟨some 5, (.bin .eql .none (.tmp 4) (.const (.int .i64 2))), true, none⟩,
  ⟨some 6, (.mov (.tmp 5)), true, none⟩,
  ⟨some 7, (.fieldAddr 4 (.tmp 1)), false, some (6, false)⟩,
  ⟨some 8, (.load 1 false (.tmp 7)), false, some (6, false)⟩,
  ⟨some 9, (.bin .eql .none (.tmp 8) (.const (.int .i64 4))), true, some (6, false)⟩,
  ⟨some 10, (.pick (.tmp 6) (.const (.bool true)) (.tmp 9)), true, none⟩,
  ⟨some 11, (.mov (.tmp 10)), true, none⟩,
  ⟨some 12, (.fieldAddr 4 (.tmp 1)), false, some (11, false)⟩,
  ⟨some 13, (.load 1 false (.tmp 12)), false, some (11, false)⟩,
  ⟨some 14, (.bin .eql .none (.tmp 13) (.const (.int .i64 5))), true, some (11, false)⟩,
  ⟨some 15, (.pick (.tmp 11) (.const (.bool true)) (.tmp 14)), true, none⟩,
  ⟨some 16, (.mov (.tmp 15)), true, none⟩,
  ⟨some 17, (.fieldAddr 4 (.tmp 1)), false, some (16, false)⟩,
  ⟨some 18, (.load 1 false (.tmp 17)), false, some (16, false)⟩,
  ⟨some 19, (.bin .eql .none (.tmp 18) (.const (.int .i64 6))), true, some (16, false)⟩,
  ⟨some 20, (.pick (.tmp 16) (.const (.bool true)) (.tmp 19)), true, none⟩,
  ⟨some 2, (.mov (.tmp 20)), true, none⟩]
def c52_3 : ACode := (.region o52_2 [2])
def w52_3 (_P : Program) (Q : Exit → Slots → Mem → Prop) (M : Mem) (v1 : V) : Prop :=
  @OptVH (moveV 4 v1) ⟨fun t3_1 =>
  @OptVH (loadV 1 false t3_1 M) ⟨fun t4_2 =>
  @OptBH (binV .eql .none t4_2 (.int .i64 2)) ⟨fun b5_3 =>
  @BIfH b5_3
  ⟨Q .normal [(2, (.bool true))] M⟩
  ⟨@OptVH (moveV 4 v1) ⟨fun t7_11 =>
  @OptVH (loadV 1 false t7_11 M) ⟨fun t8_12 =>
  @OptBH (binV .eql .none t8_12 (.int .i64 4)) ⟨fun b9_13 =>
  @BIfH b9_13
  ⟨Q .normal [(2, (.bool true))] M⟩
  ⟨@OptVH (moveV 4 v1) ⟨fun t12_20 =>
  @OptVH (loadV 1 false t12_20 M) ⟨fun t13_21 =>
  @OptBH (binV .eql .none t13_21 (.int .i64 5)) ⟨fun b14_22 =>
  @BIfH b14_22
  ⟨Q .normal [(2, (.bool true))] M⟩
  ⟨@OptVH (moveV 4 v1) ⟨fun t17_27 =>
  @OptVH (loadV 1 false t17_27 M) ⟨fun t18_28 =>
  @OptBH (binV .eql .none t18_28 (.int .i64 6)) ⟨fun b19_29 =>
  Q .normal [(2, (.bool b19_29))] M⟩⟩⟩⟩⟩⟩⟩⟩⟩⟩⟩⟩⟩⟩⟩
theorem e52_3 (P : Program) (Q : Exit → Slots → Mem → Prop) (s : Slots) (M : Mem) : wpC P c52_3 Q s M = w52_3 P Q M (sget s 1) := by kernel_rfl
def c52_4 : ACode := (.seq c52_3 .ret)
def c52_5 : ACode := (.seq c52_1 c52_4)
def fn_transitref31_Status : AFn := ⟨21, [(.tmp 2)], c52_5⟩
theorem fn_transitref31_Status_ok : resFn PR h_transitref31_Status i_transitref31_Status = some fn_transitref31_Status := by kernel_rfl

def h_message_Check : Hints := ⟨[(0, [1]), (1, [1, 6]), (2, [2]), (3, [1, 9]), (4, [2]), (5, [1, 26]), (6, [2]), (7, [1, 30]), (8, [2]), (9, [1, 34]), (10, [2]), (11, [1, 38]), (12, [2]), (13, [1, 41]), (14, [2]), (15, [2])], [], []⟩
def o53_0 : List AOper := [⟨some 1, (.box 13 (.tmp 0)), false, none⟩,
  ⟨some 2, (.mov (.const (.int .i64 0))), false, none⟩]
def c53_1 : ACode := (.region o53_0 [1])
def w53_1 (_P : Program) (Q : Exit → Slots → Mem → Prop) (M : Mem) (v0 : V) : Prop :=
  @OptMH (boxV 13 v0 M) ⟨fun t1_1 M1 =>
  Q .normal [(1, t1_1)] M1⟩
theorem e53_1 (P : Program) (Q : Exit → Slots → Mem → Prop) (s : Slots) (M : Mem) : wpC P c53_1 Q s M = w53_1 P Q M (sget s 0) := by kernel_rfl
def o53_2 : List AOper := [⟨some 2, (.mov (.const (.int .i64 36))), false, none⟩]
def c53_3 : ACode := (.region o53_2 [2])
def w53_3 (_P : Program) (Q : Exit → Slots → Mem → Prop) (M : Mem) : Prop :=
  Q .normal [(2, (.int .i64 36))] M
theorem e53_3 (P : Program) (Q : Exit → Slots → Mem → Prop) (s : Slots) (M : Mem) : wpC P c53_3 Q s M = w53_3 P Q M := by kernel_rfl
def c53_4 : ACode := (.seq c53_3 .ret)
def o53_5 : List AOper := [⟨some 3, (.fieldAddr 0 (.tmp 1)), false, none⟩,
  ⟨some 4, (.load 1 false (.tmp 3)), false, none⟩,
  ⟨some 5, (.call i_message_within [(.tmp 4), (.const (.int .i64 0)), (.const (.int .i64 7))]), true, none⟩,
  ⟨some 6, (.un .not (.tmp 5)), true, none⟩]
def c53_6 : ACode := (.seq (.region o53_5 [1, 6]) (.cond (.tmp 6) c53_4 .skip))
def w53_6 (P : Program) (Q : Exit → Slots → Mem → Prop) (M : Mem) (v1 : V) : Prop :=
  @OptVH (moveV 0 v1) ⟨fun t3_1 =>
  @OptVH (loadV 1 false t3_1 M) ⟨fun t4_2 =>
  @CallH P i_message_within [t4_2, (.int .i64 0), (.int .i64 7)] M ⟨fun t5_3 M3 => @OptBH (some t5_3) ⟨fun b5_3 =>
  @OptBH (unV .not (.bool b5_3)) ⟨fun b6_4 =>
  @BIfH b6_4
  ⟨wpC P c53_4 Q [(1, v1), (6, (.bool b6_4))] M3⟩
  ⟨Q .normal [(1, v1), (6, (.bool b6_4))] M3⟩⟩⟩⟩⟩⟩
theorem e53_6 (P : Program) (Q : Exit → Slots → Mem → Prop) (s : Slots) (M : Mem) : wpC P c53_6 Q s M = w53_6 P Q M (sget s 1) := by kernel_rfl
def o53_7 : List AOper := [⟨some 2, (.mov (.const (.int .i64 2))), false, none⟩]
def c53_8 : ACode := (.region o53_7 [2])
def w53_8 (_P : Program) (Q : Exit → Slots → Mem → Prop) (M : Mem) : Prop :=
  Q .normal [(2, (.int .i64 2))] M
theorem e53_8 (P : Program) (Q : Exit → Slots → Mem → Prop) (s : Slots) (M : Mem) : wpC P c53_8 Q s M = w53_8 P Q M := by kernel_rfl
def c53_9 : ACode := (.seq c53_8 .ret)
def o53_10 : List AOper := [⟨some 7, (.fieldAddr 1 (.tmp 1)), false, none⟩,
  ⟨some 8, (.load 1 false (.tmp 7)), false, none⟩,
  ⟨some 9, (.bin .lss .none (.tmp 8) (.const (.int .i64 1))), true, none⟩]
def c53_11 : ACode := (.seq (.region o53_10 [1, 9]) (.cond (.tmp 9) c53_9 .skip))
def w53_11 (P : Program) (Q : Exit → Slots → Mem → Prop) (M : Mem) (v1 : V) : Prop :=
  @OptVH (moveV 1 v1) ⟨fun t7_1 =>
  @OptVH (loadV 1 false t7_1 M) ⟨fun t8_2 =>
  @OptBH (binV .lss .none t8_2 (.int .i64 1)) ⟨fun b9_3 =>
  @BIfH b9_3
  ⟨wpC P c53_9 Q [(1, v1), (9, (.bool b9_3))] M⟩
  ⟨Q .normal [(1, v1), (9, (.bool b9_3))] M⟩⟩⟩⟩
theorem e53_11 (P : Program) (Q : Exit → Slots → Mem → Prop) (s : Slots) (M : Mem) : wpC P c53_11 Q s M = w53_11 P Q M (sget s 1) := by kernel_rfl
def o53_12 : List AOper := [⟨some 2, (.mov (.const (.int .i64 10))), false, none⟩]
def c53_13 : ACode := (.region o53_12 [2])
def w53_13 (_P : Program) (Q : Exit → Slots → Mem → Prop) (M : Mem) : Prop :=
  Q .normal [(2, (.int .i64 10))] M
theorem e53_13 (P : Program) (Q : Exit → Slots → Mem → Prop) (s : Slots) (M : Mem) : wpC P c53_13 Q s M = w53_13 P Q M := by kernel_rfl
def c53_14 : ACode := (.seq c53_13 .ret)
def o53_15 : List AOper := [⟨some 10, (.fieldAddr 2 (.tmp 1)), false, none⟩,
  ⟨some 11, (.load 1 false (.tmp 10)), false, none⟩,
  ⟨some 12, (.call i_message_within [(.tmp 11), (.const (.int .i64 0)), (.const (.int .i64 3155932800))]), true, none⟩,
  ⟨some 13, (.un .not (.tmp 12)), true, none⟩,
  ⟨some 14, (.mov (.tmp 13)), true, none⟩,
  ⟨some 15, (.fieldAddr 3 (.tmp 1)), false, some (14, false)⟩,
  ⟨some 16, (.load 1 false (.tmp 15)), false, some (14, false)⟩,
  ⟨some 17, (.call i_message_within [(.tmp 16), (.const (.int .i64 0)), (.const (.int .i64 3155932800))]), true, some (14, false)⟩,
  ⟨some 18, (.un .not (.tmp 17)), true, some (14, false)⟩,
  ⟨some 19, (.pick (.tmp 14) (.const (.bool true)) (.tmp 18)), true, none⟩,
  ⟨some 20, (.mov (.tmp 19)), true, none⟩,
  ⟨some 21, (.fieldAddr 2 (.tmp 1)), false, some (20, false)⟩,
  ⟨some 22, (.load 1 false (.tmp 21)), false, some (20, false)⟩,
  ⟨some 23, (.fieldAddr 3 (.tmp 1)), false, some (20, false)⟩,
  ⟨some 24, (.load 1 false (.tmp 23)), false, some (20, false)⟩,
  ⟨some 25, (.bin .geq .none (.tmp 22) (.tmp 24)), true, some (20, false)⟩,
  ⟨some 26, (.pick (.tmp 20) (.const (.bool true)) (.tmp 25)), true, none⟩]
def c53_16 : ACode := (.seq (.region o53_15 [1, 26]) (.cond (.tmp 26) c53_14 .skip))
def w53_16 (P : Program) (Q : Exit → Slots → Mem → Prop) (M : Mem) (v1 : V) : Prop :=
  @OptVH (moveV 2 v1) ⟨fun t10_1 =>
  @OptVH (loadV 1 false t10_1 M) ⟨fun t11_2 =>
  @CallH P i_message_within [t11_2, (.int .i64 0), (.int .i64 3155932800)] M ⟨fun t12_3 M3 => @OptBH (some t12_3) ⟨fun b12_3 =>
  @OptBH (unV .not (.bool b12_3)) ⟨fun b13_4 =>
  @BIfH b13_4
  ⟨wpC P c53_14 Q [(1, v1), (26, (.bool true))] M3⟩
  ⟨@OptVH (moveV 3 v1) ⟨fun t15_9 =>
  @OptVH (loadV 1 false t15_9 M3) ⟨fun t16_10 =>
  @CallH P i_message_within [t16_10, (.int .i64 0), (.int .i64 3155932800)] M3 ⟨fun t17_11 M11 => @OptBH (some t17_11) ⟨fun b17_11 =>
  @OptBH (unV .not (.bool b17_11)) ⟨fun b18_12 =>
  @BIfH b18_12
  ⟨wpC P c53_14 Q [(1, v1), (26, (.bool true))] M11⟩
  ⟨@OptVH (moveV 2 v1) ⟨fun t21_16 =>
  @OptVH (loadV 1 false t21_16 M11) ⟨fun t22_17 =>
  @OptVH (moveV 3 v1) ⟨fun t23_18 =>
  @OptVH (loadV 1 false t23_18 M11) ⟨fun t24_19 =>
  @OptBH (binV .geq .none t22_17 t24_19) ⟨fun b25_20 =>
  @BIfH b25_20
  ⟨wpC P c53_14 Q [(1, v1), (26, (.bool b25_20))] M11⟩
  ⟨Q .normal [(1, v1), (26, (.bool b25_20))] M11⟩⟩⟩⟩⟩⟩⟩⟩⟩⟩⟩⟩⟩⟩⟩⟩⟩⟩
theorem e53_16 (P : Program) (Q : Exit → Slots → Mem → Prop) (s : Slots) (M : Mem) : wpC P c53_16 Q s M = w53_16 P Q M (sget s 1) := by kernel_rfl
def o53_17 : List AOper := [⟨some 2, (.mov (.const (.int .i64 35))), false, none⟩]
def c53_18 : ACode := (.region o53_17 [2])
def w53_18 (_P : Program) (Q : Exit → Slots → Mem → Prop) (M : Mem) : Prop :=
  Q .normal [(2, (.int .i64 35))] M
theorem e53_18 (P : Program) (Q : Exit → Slots → Mem → Prop) (s : Slots) (M : Mem) : wpC P c53_18 Q s M = w53_18 P Q M := by kernel_rfl
def c53_19 : ACode := (.seq c53_18 .ret)
def o53_20 : List AOper := [⟨some 27, (.fieldAddr 4 (.tmp 1)), false, none⟩,
  ⟨some 28, (.load 1 false (.tmp 27)), false, none⟩,
  ⟨some 29, (.call i_message_within [(.tmp 28), (.const (.int .i64 1)), (.const (.int .i64 6))]), true, none⟩,
  ⟨some 30, (.un .not (.tmp 29)), true, none⟩]
def c53_21 : ACode := (.seq (.region o53_20 [1, 30]) (.cond (.tmp 30) c53_19 .skip))
def w53_21 (P : Program) (Q : Exit → Slots → Mem → Prop) (M : Mem) (v1 : V) : Prop :=
  @OptVH (moveV 4 v1) ⟨fun t27_1 =>
  @OptVH (loadV 1 false t27_1 M) ⟨fun t28_2 =>
  @CallH P i_message_within [t28_2, (.int .i64 1), (.int .i64 6)] M ⟨fun t29_3 M3 => @OptBH (some t29_3) ⟨fun b29_3 =>
  @OptBH (unV .not (.bool b29_3)) ⟨fun b30_4 =>
  @BIfH b30_4
  ⟨wpC P c53_19 Q [(1, v1), (30, (.bool b30_4))] M3⟩
  ⟨Q .normal [(1, v1), (30, (.bool b30_4))] M3⟩⟩⟩⟩⟩⟩
theorem e53_21 (P : Program) (Q : Exit → Slots → Mem → Prop) (s : Slots) (M : Mem) : wpC P c53_21 Q s M = w53_21 P Q M (sget s 1) := by kernel_rfl
def o53_22 : List AOper := [⟨some 2, (.mov (.const (.int .i64 12))), false, none⟩]
def c53_23 : ACode := (.region o53_22 [2])
def w53_23 (_P : Program) (Q : Exit → Slots → Mem → Prop) (M : Mem) : Prop :=
  Q .normal [(2, (.int .i64 12))] M
theorem e53_23 (P : Program) (Q : Exit → Slots → Mem → Prop) (s : Slots) (M : Mem) : wpC P c53_23 Q s M = w53_23 P Q M := by kernel_rfl
def c53_24 : ACode := (.seq c53_23 .ret)
def o53_25 : List AOper := [⟨some 31, (.fieldAddr 5 (.tmp 1)), false, none⟩,
  ⟨some 32, (.load 1 false (.tmp 31)), false, none⟩,
  ⟨some 33, (.call i_ident_Valid [(.tmp 32)]), true, none⟩,
  ⟨some 34, (.un .not (.tmp 33)), true, none⟩]
def c53_26 : ACode := (.seq (.region o53_25 [1, 34]) (.cond (.tmp 34) c53_24 .skip))
def w53_26 (P : Program) (Q : Exit → Slots → Mem → Prop) (M : Mem) (v1 : V) : Prop :=
  @OptVH (moveV 5 v1) ⟨fun t31_1 =>
  @OptVH (loadV 1 false t31_1 M) ⟨fun t32_2 =>
  @CallH P i_ident_Valid [t32_2] M ⟨fun t33_3 M3 => @OptBH (some t33_3) ⟨fun b33_3 =>
  @OptBH (unV .not (.bool b33_3)) ⟨fun b34_4 =>
  @BIfH b34_4
  ⟨wpC P c53_24 Q [(1, v1), (34, (.bool b34_4))] M3⟩
  ⟨Q .normal [(1, v1), (34, (.bool b34_4))] M3⟩⟩⟩⟩⟩⟩
theorem e53_26 (P : Program) (Q : Exit → Slots → Mem → Prop) (s : Slots) (M : Mem) : wpC P c53_26 Q s M = w53_26 P Q M (sget s 1) := by kernel_rfl
def o53_27 : List AOper := [⟨some 2, (.mov (.const (.int .i64 11))), false, none⟩]
def c53_28 : ACode := (.region o53_27 [2])
def w53_28 (_P : Program) (Q : Exit → Slots → Mem → Prop) (M : Mem) : Prop :=
  Q .normal [(2, (.int .i64 11))] M
theorem e53_28 (P : Program) (Q : Exit → Slots → Mem → Prop) (s : Slots) (M : Mem) : wpC P c53_28 Q s M = w53_28 P Q M := by kernel_rfl
def c53_29 : ACode := (.seq c53_28 .ret)
def o53_30 : List AOper := [⟨some 35, (.fieldAddr 6 (.tmp 1)), false, none⟩,
  ⟨some 36, (.load 1 false (.tmp 35)), false, none⟩,
  ⟨some 37, (.call i_date_Valid [(.tmp 36)]), true, none⟩,
  ⟨some 38, (.un .not (.tmp 37)), true, none⟩]
def c53_31 : ACode := (.seq (.region o53_30 [1, 38]) (.cond (.tmp 38) c53_29 .skip))
def w53_31 (P : Program) (Q : Exit → Slots → Mem → Prop) (M : Mem) (v1 : V) : Prop :=
  @OptVH (moveV 6 v1) ⟨fun t35_1 =>
  @OptVH (loadV 1 false t35_1 M) ⟨fun t36_2 =>
  @CallH P i_date_Valid [t36_2] M ⟨fun t37_3 M3 => @OptBH (some t37_3) ⟨fun b37_3 =>
  @OptBH (unV .not (.bool b37_3)) ⟨fun b38_4 =>
  @BIfH b38_4
  ⟨wpC P c53_29 Q [(1, v1), (38, (.bool b38_4))] M3⟩
  ⟨Q .normal [(1, v1), (38, (.bool b38_4))] M3⟩⟩⟩⟩⟩⟩
theorem e53_31 (P : Program) (Q : Exit → Slots → Mem → Prop) (s : Slots) (M : Mem) : wpC P c53_31 Q s M = w53_31 P Q M (sget s 1) := by kernel_rfl
def o53_32 : List AOper := [⟨some 2, (.mov (.const (.int .i64 2))), false, none⟩]
def c53_33 : ACode := (.region o53_32 [2])
def w53_33 (_P : Program) (Q : Exit → Slots → Mem → Prop) (M : Mem) : Prop :=
  Q .normal [(2, (.int .i64 2))] M
theorem e53_33 (P : Program) (Q : Exit → Slots → Mem → Prop) (s : Slots) (M : Mem) : wpC P c53_33 Q s M = w53_33 P Q M := by kernel_rfl
def c53_34 : ACode := (.seq c53_33 .ret)
def o53_35 : List AOper := [⟨some 39, (.fieldAddr 7 (.tmp 1)), false, none⟩,
  ⟨some 40, (.load 1 false (.tmp 39)), false, none⟩,
  ⟨some 41, (.bin .lss .none (.tmp 40) (.const (.int .i64 0))), true, none⟩]
def c53_36 : ACode := (.seq (.region o53_35 [1, 41]) (.cond (.tmp 41) c53_34 .skip))
def w53_36 (P : Program) (Q : Exit → Slots → Mem → Prop) (M : Mem) (v1 : V) : Prop :=
  @OptVH (moveV 7 v1) ⟨fun t39_1 =>
  @OptVH (loadV 1 false t39_1 M) ⟨fun t40_2 =>
  @OptBH (binV .lss .none t40_2 (.int .i64 0)) ⟨fun b41_3 =>
  @BIfH b41_3
  ⟨wpC P c53_34 Q [(1, v1), (41, (.bool b41_3))] M⟩
  ⟨Q .normal [(1, v1), (41, (.bool b41_3))] M⟩⟩⟩⟩
theorem e53_36 (P : Program) (Q : Exit → Slots → Mem → Prop) (s : Slots) (M : Mem) : wpC P c53_36 Q s M = w53_36 P Q M (sget s 1) := by kernel_rfl
def o53_37 : List AOper := [⟨some 42, (.load 13 true (.tmp 1)), false, none⟩,
  ⟨some 43, (.fieldAddr 4 (.tmp 1)), false, none⟩,
  ⟨some 44, (.load 1 false (.tmp 43)), false, none⟩,
  ⟨some 45, (.call i_message_used [(.tmp 44)]), false, none⟩,
  ⟨some 46, (.call i_message_checkKind [(.tmp 42), (.tmp 45)]), false, none⟩,
  ⟨some 2, (.mov (.tmp 46)), false, none⟩]
def c53_38 : ACode := (.mixed o53_37 [true, true, true, true, false, true] [2])
def w53_38 (P : Program) (Q : Exit → Slots → Mem → Prop) (M : Mem) (v1 : V) : Prop :=
  @OptVH (loadV 13 true v1 M) ⟨fun t42_1 =>
  @OptVH (moveV 4 v1) ⟨fun t43_2 =>
  @OptVH (loadV 1 false t43_2 M) ⟨fun t44_3 =>
  @CallQ P i_message_used [t44_3] M ⟨fun t45_4 M4 =>
  @CallH P i_message_checkKind [t42_1, t45_4] M4 ⟨fun t46_5 M5 =>
  Q .normal [(2, t46_5)] M5⟩⟩⟩⟩⟩
theorem e53_38 (P : Program) (Q : Exit → Slots → Mem → Prop) (s : Slots) (M : Mem) : wpC P c53_38 Q s M = w53_38 P Q M (sget s 1) := by kernel_rfl
def c53_39 : ACode := (.seq c53_38 .ret)
def c53_40 : ACode := (.seq c53_36 c53_39)
def c53_41 : ACode := (.seq c53_31 c53_40)
def c53_42 : ACode := (.seq c53_26 c53_41)
def c53_43 : ACode := (.seq c53_21 c53_42)
def c53_44 : ACode := (.seq c53_16 c53_43)
def c53_45 : ACode := (.seq c53_11 c53_44)
def c53_46 : ACode := (.seq c53_6 c53_45)
def c53_47 : ACode := (.seq c53_1 c53_46)
def fn_message_Check : AFn := ⟨47, [(.tmp 2)], c53_47⟩
theorem fn_message_Check_ok : resFn PR h_message_Check i_message_Check = some fn_message_Check := by kernel_rfl

def h_message_status : Hints := ⟨[(0, [0]), (1, [3]), (2, [3, 4]), (3, [3, 4]), (4, [3, 4]), (5, [4]), (6, [2]), (7, [2])], [], []⟩
def o54_0 : List AOper := [⟨some 2, (.mov (.const (.bool false))), true, none⟩]
def c54_1 : ACode := (.region o54_0 [0])
def w54_1 (_P : Program) (Q : Exit → Slots → Mem → Prop) (M : Mem) (v0 : V) : Prop :=
  Q .normal [(0, v0)] M
theorem e54_1 (P : Program) (Q : Exit → Slots → Mem → Prop) (s : Slots) (M : Mem) : wpC P c54_1 Q s M = w54_1 P Q M (sget s 0) := by kernel_rfl
def o54_2 : List AOper := [⟨some 3, (.mov (.tmp 0)), false, none⟩]
def c54_3 : ACode := (.region o54_2 [3])
def w54_3 (_P : Program) (Q : Exit → Slots → Mem → Prop) (M : Mem) (v0 : V) : Prop :=
  Q .normal [(3, v0)] M
theorem e54_3 (P : Program) (Q : Exit → Slots → Mem → Prop) (s : Slots) (M : Mem) : wpC P c54_3 Q s M = w54_3 P Q M (sget s 0) := by kernel_rfl
def o54_4 : List AOper := [⟨some 8, (.bin .eql .none (.tmp 3) (.const (.int .i64 6))), true, none⟩,
  ⟨some 4, (.mov (.tmp 8)), true, none⟩]
def c54_5 : ACode := (.region o54_4 [4])
def w54_5 (_P : Program) (Q : Exit → Slots → Mem → Prop) (M : Mem) (v3 : V) : Prop :=
  @OptBH (binV .eql .none v3 (.int .i64 6)) ⟨fun b8_1 =>
  Q .normal [(4, (.bool b8_1))] M⟩
theorem e54_5 (P : Program) (Q : Exit → Slots → Mem → Prop) (s : Slots) (M : Mem) : wpC P c54_5 Q s M = w54_5 P Q M (sget s 3) := by kernel_rfl
def o54_6 : List AOper := [⟨some 7, (.bin .eql .none (.tmp 3) (.const (.int .i64 5))), true, none⟩,
  ⟨some 4, (.mov (.tmp 7)), true, none⟩]
def c54_7 : ACode := (.seq (.region o54_6 [3, 4]) (.cond (.tmp 4) .skip c54_5))
def w54_7 (P : Program) (Q : Exit → Slots → Mem → Prop) (M : Mem) (v3 : V) : Prop :=
  @OptBH (binV .eql .none v3 (.int .i64 5)) ⟨fun b7_1 =>
  @BIfH b7_1
  ⟨Q .normal [(3, v3), (4, (.bool b7_1))] M⟩
  ⟨wpC P c54_5 Q [(3, v3), (4, (.bool b7_1))] M⟩⟩
theorem e54_7 (P : Program) (Q : Exit → Slots → Mem → Prop) (s : Slots) (M : Mem) : wpC P c54_7 Q s M = w54_7 P Q M (sget s 3) := by kernel_rfl
def o54_8 : List AOper := [⟨some 6, (.bin .eql .none (.tmp 3) (.const (.int .i64 4))), true, none⟩,
  ⟨some 4, (.mov (.tmp 6)), true, none⟩]
def c54_9 : ACode := (.seq (.region o54_8 [3, 4]) (.cond (.tmp 4) .skip c54_7))
def w54_9 (P : Program) (Q : Exit → Slots → Mem → Prop) (M : Mem) (v3 : V) : Prop :=
  @OptBH (binV .eql .none v3 (.int .i64 4)) ⟨fun b6_1 =>
  @BIfH b6_1
  ⟨Q .normal [(3, v3), (4, (.bool b6_1))] M⟩
  ⟨wpC P c54_7 Q [(3, v3), (4, (.bool b6_1))] M⟩⟩
theorem e54_9 (P : Program) (Q : Exit → Slots → Mem → Prop) (s : Slots) (M : Mem) : wpC P c54_9 Q s M = w54_9 P Q M (sget s 3) := by kernel_rfl
def o54_10 : List AOper := [⟨some 5, (.bin .eql .none (.tmp 3) (.const (.int .i64 2))), true, none⟩,
  ⟨some 4, (.mov (.tmp 5)), true, none⟩]
def c54_11 : ACode := (.seq (.region o54_10 [3, 4]) (.cond (.tmp 4) .skip c54_9))
def w54_11 (P : Program) (Q : Exit → Slots → Mem → Prop) (M : Mem) (v3 : V) : Prop :=
  @OptBH (binV .eql .none v3 (.int .i64 2)) ⟨fun b5_1 =>
  @BIfH b5_1
  ⟨Q .normal [(3, v3), (4, (.bool b5_1))] M⟩
  ⟨wpC P c54_9 Q [(3, v3), (4, (.bool b5_1))] M⟩⟩
theorem e54_11 (P : Program) (Q : Exit → Slots → Mem → Prop) (s : Slots) (M : Mem) : wpC P c54_11 Q s M = w54_11 P Q M (sget s 3) := by kernel_rfl
def o54_12 : List AOper := [⟨some 2, (.mov (.const (.bool true))), true, none⟩]
def c54_13 : ACode := (.region o54_12 [2])
def w54_13 (_P : Program) (Q : Exit → Slots → Mem → Prop) (M : Mem) : Prop :=
  Q .normal [(2, (.bool true))] M
theorem e54_13 (P : Program) (Q : Exit → Slots → Mem → Prop) (s : Slots) (M : Mem) : wpC P c54_13 Q s M = w54_13 P Q M := by kernel_rfl
def c54_14 : ACode := (.seq c54_13 .ret)
def c54_15 : ACode := (.cond (.tmp 4) c54_14 .skip)
def c54_16 : ACode := (.seq c54_11 c54_15)
def c54_17 : ACode := (.block 0 c54_16)
def c54_18 : ACode := (.seq c54_3 c54_17)
def o54_19 : List AOper := [⟨some 2, (.mov (.const (.bool false))), true, none⟩]
def c54_20 : ACode := (.region o54_19 [2])
def w54_20 (_P : Program) (Q : Exit → Slots → Mem → Prop) (M : Mem) : Prop :=
  Q .normal [(2, (.bool false))] M
theorem e54_20 (P : Program) (Q : Exit → Slots → Mem → Prop) (s : Slots) (M : Mem) : wpC P c54_20 Q s M = w54_20 P Q M := by kernel_rfl
def c54_21 : ACode := (.seq c54_20 .ret)
def c54_22 : ACode := (.seq c54_18 c54_21)
def c54_23 : ACode := (.seq c54_1 c54_22)
def fn_message_status : AFn := ⟨9, [(.tmp 2)], c54_23⟩
theorem fn_message_status_ok : resFn PR h_message_status i_message_status = some fn_message_status := by kernel_rfl

def h_transitref16_Equal : Hints := ⟨[(0, [0, 1]), (1, [0, 1, 10]), (2, [4]), (3, [0, 1, 5]), (4, [0, 1, 5, 14]), (5, [0, 1, 5]), (6, [0, 1, 5, 25]), (7, [4]), (8, [4])], [(4, [0, 1, 5])], []⟩
def o55_0 : List AOper := [⟨some 4, (.mov (.const (.bool false))), true, none⟩]
def c55_1 : ACode := (.region o55_0 [0, 1])
def w55_1 (_P : Program) (Q : Exit → Slots → Mem → Prop) (M : Mem) (v0 : V) (v1 : V) : Prop :=
  Q .normal [(0, v0), (1, v1)] M
theorem e55_1 (P : Program) (Q : Exit → Slots → Mem → Prop) (s : Slots) (M : Mem) : wpC P c55_1 Q s M = w55_1 P Q M (sget s 0) (sget s 1) := by kernel_rfl
def o55_2 : List AOper := [⟨some 4, (.mov (.const (.bool false))), true, none⟩]
def c55_3 : ACode := (.region o55_2 [4])
def w55_3 (_P : Program) (Q : Exit → Slots → Mem → Prop) (M : Mem) : Prop :=
  Q .normal [(4, (.bool false))] M
theorem e55_3 (P : Program) (Q : Exit → Slots → Mem → Prop) (s : Slots) (M : Mem) : wpC P c55_3 Q s M = w55_3 P Q M := by kernel_rfl
def c55_4 : ACode := (.seq c55_3 .ret)
def o55_5 : List AOper := [⟨some 6, (.mov (.tmp 0)), false, none⟩,
  ⟨some 7, (.lenSl (.tmp 6)), false, none⟩,
  ⟨some 8, (.mov (.tmp 1)), false, none⟩,
  ⟨some 9, (.lenSl (.tmp 8)), false, none⟩,
  ⟨some 10, (.bin .neq .none (.tmp 7) (.tmp 9)), true, none⟩]
def c55_6 : ACode := (.seq (.region o55_5 [0, 1, 10]) (.cond (.tmp 10) c55_4 .skip))
def w55_6 (P : Program) (Q : Exit → Slots → Mem → Prop) (M : Mem) (v0 : V) (v1 : V) : Prop :=
  @OptVH (lenV v0 M) ⟨fun t7_2 =>
  @OptVH (lenV v1 M) ⟨fun t9_4 =>
  @OptBH (binV .neq .none t7_2 t9_4) ⟨fun b10_5 =>
  @BIfH b10_5
  ⟨wpC P c55_4 Q [(0, v0), (1, v1), (10, (.bool b10_5))] M⟩
  ⟨Q .normal [(0, v0), (1, v1), (10, (.bool b10_5))] M⟩⟩⟩⟩
theorem e55_6 (P : Program) (Q : Exit → Slots → Mem → Prop) (s : Slots) (M : Mem) : wpC P c55_6 Q s M = w55_6 P Q M (sget s 0) (sget s 1) := by kernel_rfl
def o55_7 : List AOper := [⟨some 5, (.mov (.const (.int .i64 0))), false, none⟩]
def c55_8 : ACode := (.region o55_7 [0, 1, 5])
def w55_8 (_P : Program) (Q : Exit → Slots → Mem → Prop) (M : Mem) (v0 : V) (v1 : V) : Prop :=
  Q .normal [(0, v0), (1, v1), (5, (.int .i64 0))] M
theorem e55_8 (P : Program) (Q : Exit → Slots → Mem → Prop) (s : Slots) (M : Mem) : wpC P c55_8 Q s M = w55_8 P Q M (sget s 0) (sget s 1) := by kernel_rfl
def o55_9 : List AOper := [⟨some 11, (.mov (.tmp 5)), false, none⟩,
  ⟨some 12, (.mov (.tmp 0)), false, none⟩,
  ⟨some 13, (.lenSl (.tmp 12)), false, none⟩,
  ⟨some 14, (.bin .lss .none (.tmp 11) (.tmp 13)), true, none⟩]
def c55_10 : ACode := (.seq (.region o55_9 [0, 1, 5, 14]) (.cond (.tmp 14) .skip (.exit 0)))
def w55_10 (_P : Program) (Q : Exit → Slots → Mem → Prop) (M : Mem) (v0 : V) (v1 : V) (v5 : V) : Prop :=
  @OptVH (lenV v0 M) ⟨fun t13_3 =>
  @OptBH (binV .lss .none v5 t13_3) ⟨fun b14_4 =>
  @BIfH b14_4
  ⟨Q .normal [(0, v0), (1, v1), (5, v5), (14, (.bool b14_4))] M⟩
  ⟨Q (.exit 0) [(0, v0), (1, v1), (5, v5), (14, (.bool b14_4))] M⟩⟩⟩
theorem e55_10 (P : Program) (Q : Exit → Slots → Mem → Prop) (s : Slots) (M : Mem) : wpC P c55_10 Q s M = w55_10 P Q M (sget s 0) (sget s 1) (sget s 5) := by kernel_rfl
def o55_11 : List AOper := [⟨some 4, (.mov (.const (.bool false))), true, none⟩]
def c55_12 : ACode := (.region o55_11 [4])
def w55_12 (_P : Program) (Q : Exit → Slots → Mem → Prop) (M : Mem) : Prop :=
  Q .normal [(4, (.bool false))] M
theorem e55_12 (P : Program) (Q : Exit → Slots → Mem → Prop) (s : Slots) (M : Mem) : wpC P c55_12 Q s M = w55_12 P Q M := by kernel_rfl
def c55_13 : ACode := (.seq c55_12 .ret)
def o55_14 : List AOper := [⟨some 17, (.mov (.tmp 0)), false, none⟩,
  ⟨some 18, (.mov (.tmp 5)), false, none⟩,
  ⟨some 19, (.indexSl 5 (.tmp 17) (.tmp 18)), false, none⟩,
  ⟨some 20, (.load 5 true (.tmp 19)), false, none⟩,
  ⟨some 21, (.mov (.tmp 1)), false, none⟩,
  ⟨some 22, (.mov (.tmp 5)), false, none⟩,
  ⟨some 23, (.indexSl 5 (.tmp 21) (.tmp 22)), false, none⟩,
  ⟨some 24, (.load 5 true (.tmp 23)), false, none⟩,
  ⟨some 25, (.bin .neq (.cells [.int, .int, .int, .bool, .bool]) (.tmp 20) (.tmp 24)), true, none⟩]
def c55_15 : ACode := (.seq (.mixed o55_14 [true, true, true, true, true, true, true, true, true] [0, 1, 5, 25]) (.cond (.tmp 25) c55_13 .skip))
def w55_15 (P : Program) (Q : Exit → Slots → Mem → Prop) (M : Mem) (v0 : V) (v1 : V) (v5 : V) : Prop :=
  @OptVH (indexSlV 5 v0 v5 M) ⟨fun t19_3 =>
  @OptVH (loadV 5 true t19_3 M) ⟨fun t20_4 =>
  @OptVH (indexSlV 5 v1 v5 M) ⟨fun t23_7 =>
  @OptVH (loadV 5 true t23_7 M) ⟨fun t24_8 =>
  @OptBH (binV .neq (.cells [.int, .int, .int, .bool, .bool]) t20_4 t24_8) ⟨fun b25_9 =>
  @BIfH b25_9
  ⟨wpC P c55_13 Q [(0, v0), (1, v1), (5, v5), (25, (.bool b25_9))] M⟩
  ⟨Q .normal [(0, v0), (1, v1), (5, v5), (25, (.bool b25_9))] M⟩⟩⟩⟩⟩⟩
theorem e55_15 (P : Program) (Q : Exit → Slots → Mem → Prop) (s : Slots) (M : Mem) : wpC P c55_15 Q s M = w55_15 P Q M (sget s 0) (sget s 1) (sget s 5) := by kernel_rfl
def c55_16 : ACode := (.block 1 c55_15)
def o55_17 : List AOper := [⟨some 15, (.mov (.tmp 5)), false, none⟩,
  ⟨some 16, (.bin .add .none (.tmp 15) (.const (.int .i64 1))), false, none⟩,
  ⟨some 5, (.mov (.tmp 16)), false, none⟩]
def c55_18 : ACode := (.region o55_17 [0, 1, 5])
def w55_18 (_P : Program) (Q : Exit → Slots → Mem → Prop) (M : Mem) (v0 : V) (v1 : V) (v5 : V) : Prop :=
  @OptVH (binV .add .none v5 (.int .i64 1)) ⟨fun t16_2 =>
  Q .normal [(0, v0), (1, v1), (5, t16_2)] M⟩
theorem e55_18 (P : Program) (Q : Exit → Slots → Mem → Prop) (s : Slots) (M : Mem) : wpC P c55_18 Q s M = w55_18 P Q M (sget s 0) (sget s 1) (sget s 5) := by kernel_rfl
def c55_19 : ACode := (.seq c55_16 c55_18)
def c55_20 : ACode := (.seq c55_10 c55_19)
def c55_21 : ACode := (.loop [0, 1, 5] c55_20)
def c55_22 : ACode := (.block 0 c55_21)
def c55_23 : ACode := (.seq c55_8 c55_22)
def o55_24 : List AOper := [⟨some 4, (.mov (.const (.bool true))), true, none⟩]
def c55_25 : ACode := (.region o55_24 [4])
def w55_25 (_P : Program) (Q : Exit → Slots → Mem → Prop) (M : Mem) : Prop :=
  Q .normal [(4, (.bool true))] M
theorem e55_25 (P : Program) (Q : Exit → Slots → Mem → Prop) (s : Slots) (M : Mem) : wpC P c55_25 Q s M = w55_25 P Q M := by kernel_rfl
def c55_26 : ACode := (.seq c55_25 .ret)
def c55_27 : ACode := (.seq c55_23 c55_26)
def c55_28 : ACode := (.seq c55_6 c55_27)
def c55_29 : ACode := (.seq c55_1 c55_28)
def fn_transitref16_Equal : AFn := ⟨26, [(.tmp 4)], c55_29⟩
theorem fn_transitref16_Equal_ok : resFn PR h_transitref16_Equal i_transitref16_Equal = some fn_transitref16_Equal := by kernel_rfl

def h_transitref15_Name : Hints := ⟨[(0, [0]), (1, [0, 12]), (2, [2]), (3, [0, 3]), (4, [0, 3, 16]), (5, [0, 3]), (6, [0, 3, 4]), (7, [0, 3, 56]), (8, [2]), (9, [2])], [(4, [0, 3])], []⟩
def o56_0 : List AOper := [⟨some 2, (.mov (.const (.bool false))), true, none⟩]
def c56_1 : ACode := (.region o56_0 [0])
def w56_1 (_P : Program) (Q : Exit → Slots → Mem → Prop) (M : Mem) (v0 : V) : Prop :=
  Q .normal [(0, v0)] M
theorem e56_1 (P : Program) (Q : Exit → Slots → Mem → Prop) (s : Slots) (M : Mem) : wpC P c56_1 Q s M = w56_1 P Q M (sget s 0) := by kernel_rfl
def o56_2 : List AOper := [⟨some 2, (.mov (.const (.bool false))), true, none⟩]
def c56_3 : ACode := (.region o56_2 [2])
def w56_3 (_P : Program) (Q : Exit → Slots → Mem → Prop) (M : Mem) : Prop :=
  Q .normal [(2, (.bool false))] M
theorem e56_3 (P : Program) (Q : Exit → Slots → Mem → Prop) (s : Slots) (M : Mem) : wpC P c56_3 Q s M = w56_3 P Q M := by kernel_rfl
def c56_4 : ACode := (.seq c56_3 .ret)
def o56_5 : List AOper := [⟨some 5, (.mov (.tmp 0)), false, none⟩,
  ⟨some 6, (.lenStr (.tmp 5)), false, none⟩,
  ⟨some 7, (.bin .lss .none (.tmp 6) (.const (.int .i64 1))), true, none⟩,
  ⟨some 8, (.mov (.tmp 7)), true, none⟩,
  ⟨some 9, (.mov (.tmp 0)), false, some (8, false)⟩,
  ⟨some 10, (.lenStr (.tmp 9)), false, some (8, false)⟩,
  ⟨some 11, (.bin .gtr .none (.tmp 10) (.const (.int .i64 32))), true, some (8, false)⟩,
  ⟨some 12, (.pick (.tmp 8) (.const (.bool true)) (.tmp 11)), true, none⟩]
def c56_6 : ACode := (.seq (.region o56_5 [0, 12]) (.cond (.tmp 12) c56_4 .skip))
def w56_6 (P : Program) (Q : Exit → Slots → Mem → Prop) (M : Mem) (v0 : V) : Prop :=
  @OptVH (lenStrV v0) ⟨fun t6_2 =>
  @OptBH (binV .lss .none t6_2 (.int .i64 1)) ⟨fun b7_3 =>
  @BIfH b7_3
  ⟨wpC P c56_4 Q [(0, v0), (12, (.bool true))] M⟩
  ⟨@OptVH (lenStrV v0) ⟨fun t10_7 =>
  @OptBH (binV .gtr .none t10_7 (.int .i64 32)) ⟨fun b11_8 =>
  @BIfH b11_8
  ⟨wpC P c56_4 Q [(0, v0), (12, (.bool b11_8))] M⟩
  ⟨Q .normal [(0, v0), (12, (.bool b11_8))] M⟩⟩⟩⟩⟩⟩
theorem e56_6 (P : Program) (Q : Exit → Slots → Mem → Prop) (s : Slots) (M : Mem) : wpC P c56_6 Q s M = w56_6 P Q M (sget s 0) := by kernel_rfl
def o56_7 : List AOper := [⟨some 3, (.mov (.const (.int .i64 0))), false, none⟩]
def c56_8 : ACode := (.region o56_7 [0, 3])
def w56_8 (_P : Program) (Q : Exit → Slots → Mem → Prop) (M : Mem) (v0 : V) : Prop :=
  Q .normal [(0, v0), (3, (.int .i64 0))] M
theorem e56_8 (P : Program) (Q : Exit → Slots → Mem → Prop) (s : Slots) (M : Mem) : wpC P c56_8 Q s M = w56_8 P Q M (sget s 0) := by kernel_rfl
def o56_9 : List AOper := [⟨some 13, (.mov (.tmp 3)), false, none⟩,
  ⟨some 14, (.mov (.tmp 0)), false, none⟩,
  ⟨some 15, (.lenStr (.tmp 14)), false, none⟩,
  ⟨some 16, (.bin .lss .none (.tmp 13) (.tmp 15)), true, none⟩]
def c56_10 : ACode := (.seq (.region o56_9 [0, 3, 16]) (.cond (.tmp 16) .skip (.exit 0)))
def w56_10 (_P : Program) (Q : Exit → Slots → Mem → Prop) (M : Mem) (v0 : V) (v3 : V) : Prop :=
  @OptVH (lenStrV v0) ⟨fun t15_3 =>
  @OptBH (binV .lss .none v3 t15_3) ⟨fun b16_4 =>
  @BIfH b16_4
  ⟨Q .normal [(0, v0), (3, v3), (16, (.bool b16_4))] M⟩
  ⟨Q (.exit 0) [(0, v0), (3, v3), (16, (.bool b16_4))] M⟩⟩⟩
theorem e56_10 (P : Program) (Q : Exit → Slots → Mem → Prop) (s : Slots) (M : Mem) : wpC P c56_10 Q s M = w56_10 P Q M (sget s 0) (sget s 3) := by kernel_rfl
def o56_11 : List AOper := [⟨some 19, (.mov (.tmp 0)), false, none⟩,
  ⟨some 20, (.mov (.tmp 3)), false, none⟩,
  ⟨some 21, (.indexStr (.tmp 19) (.tmp 20)), false, none⟩,
  ⟨some 4, (.mov (.tmp 21)), false, none⟩]
def c56_12 : ACode := (.region o56_11 [0, 3, 4])
def w56_12 (_P : Program) (Q : Exit → Slots → Mem → Prop) (M : Mem) (v0 : V) (v3 : V) : Prop :=
  @OptVH (indexStrV v0 v3) ⟨fun t21_3 =>
  Q .normal [(0, v0), (3, v3), (4, t21_3)] M⟩
theorem e56_12 (P : Program) (Q : Exit → Slots → Mem → Prop) (s : Slots) (M : Mem) : wpC P c56_12 Q s M = w56_12 P Q M (sget s 0) (sget s 3) := by kernel_rfl
def o56_13 : List AOper := [⟨some 2, (.mov (.const (.bool false))), true, none⟩]
def c56_14 : ACode := (.region o56_13 [2])
def w56_14 (_P : Program) (Q : Exit → Slots → Mem → Prop) (M : Mem) : Prop :=
  Q .normal [(2, (.bool false))] M
theorem e56_14 (P : Program) (Q : Exit → Slots → Mem → Prop) (s : Slots) (M : Mem) : wpC P c56_14 Q s M = w56_14 P Q M := by kernel_rfl
def c56_15 : ACode := (.seq c56_14 .ret)
def o56_16 : List AOper := [⟨some 22, (.mov (.tmp 4)), false, none⟩,
  ⟨some 23, (.bin .geq .none (.tmp 22) (.const (.int .u8 97))), true, none⟩,
  ⟨some 24, (.mov (.tmp 23)), true, none⟩,
  ⟨some 25, (.mov (.tmp 4)), false, some (24, true)⟩,
  ⟨some 26, (.bin .leq .none (.tmp 25) (.const (.int .u8 122))), true, some (24, true)⟩,
  ⟨some 27, (.pick (.tmp 24) (.tmp 26) (.const (.bool false))), true, none⟩,
  ⟨some 28, (.mov (.tmp 27)), true, none⟩,
  ⟨some 29, (.mov (.tmp 4)), false, some (28, false)⟩,
  ⟨some 30, (.bin .geq .none (.tmp 29) (.const (.int .u8 65))), true, some (28, false)⟩,
  ⟨some 31, (.mov (.tmp 30)), true, some (28, false)⟩,
  ⟨some 32, (.mov (.tmp 4)), false, some (31, true)⟩,
  ⟨some 33, (.bin .leq .none (.tmp 32) (.const (.int .u8 90))), true, some (31, true)⟩,
  ⟨some 34, (.pick (.tmp 31) (.tmp 33) (.const (.bool false))), true, some (28, false)⟩,
  ⟨some 35, (.pick (.tmp 28) (.const (.bool true)) (.tmp 34)), true, none⟩,
  ⟨some 36, (.mov (.tmp 35)), true, none⟩,
  ⟨some 37, (.mov (.tmp 4)), false, some (36, false)⟩,
  ⟨some 38, (.bin .geq .none (.tmp 37) (.const (.int .u8 48))), true, some (36, false)⟩,
  ⟨some 39, (.mov (.tmp 38)), true, some (36, false)⟩,
  ⟨some 40, (.mov (.tmp 4)), false, some (39, true)⟩,
  ⟨some 41, (.bin .leq .none (.tmp 40) (.const (.int .u8 57))), true, some (39, true)⟩,
  ⟨some 42, (.pick (.tmp 39) (.tmp 41) (.const (.bool false))), true, some (36, false)⟩,
  ⟨some 43, (.pick (.tmp 36) (.const (.bool true)) (.tmp 42)), true, none⟩,
  ⟨some 44, (.mov (.tmp 43)), true, none⟩,
  ⟨some 45, (.mov (.tmp 4)), false, some (44, false)⟩,
  ⟨some 46, (.bin .eql .none (.tmp 45) (.const (.int .u8 45))), true, some (44, false)⟩,
  ⟨some 47, (.pick (.tmp 44) (.const (.bool true)) (.tmp 46)), true, none⟩,
  ⟨some 48, (.mov (.tmp 47)), true, none⟩,
  ⟨some 49, (.mov (.tmp 4)), false, some (48, false)⟩,
  ⟨some 50, (.bin .eql .none (.tmp 49) (.const (.int .u8 95))), true, some (48, false)⟩,
  ⟨some 51, (.pick (.tmp 48) (.const (.bool true)) (.tmp 50)), true, none⟩,
  ⟨some 52, (.mov (.tmp 51)), true, none⟩,
  ⟨some 53, (.mov (.tmp 4)), false, some (52, false)⟩,
  ⟨some 54, (.bin .eql .none (.tmp 53) (.const (.int .u8 46))), true, some (52, false)⟩,
  ⟨some 55, (.pick (.tmp 52) (.const (.bool true)) (.tmp 54)), true, none⟩,
  ⟨some 56, (.un .not (.tmp 55)), true, none⟩]
def c56_17 : ACode := (.seq (.region o56_16 [0, 3, 56]) (.cond (.tmp 56) c56_15 .skip))
def w56_17 (P : Program) (Q : Exit → Slots → Mem → Prop) (M : Mem) (v0 : V) (v3 : V) (v4 : V) : Prop :=
  @OptBH (binV .geq .none v4 (.int .u8 97)) ⟨fun b23_2 =>
  @BIfH b23_2
  ⟨@OptBH (binV .leq .none v4 (.int .u8 122)) ⟨fun b26_5 =>
  @BIfH b26_5
  ⟨@OptBH (unV .not (.bool true)) ⟨fun b56_17 =>
  @BIfH b56_17
  ⟨wpC P c56_15 Q [(0, v0), (3, v3), (56, (.bool b56_17))] M⟩
  ⟨Q .normal [(0, v0), (3, v3), (56, (.bool b56_17))] M⟩⟩⟩
  ⟨@OptBH (binV .geq .none v4 (.int .u8 65)) ⟨fun b30_19 =>
  @BIfH b30_19
  ⟨@OptBH (binV .leq .none v4 (.int .u8 90)) ⟨fun b33_22 =>
  @BIfH b33_22
  ⟨@OptBH (unV .not (.bool true)) ⟨fun b56_33 =>
  @BIfH b56_33
  ⟨wpC P c56_15 Q [(0, v0), (3, v3), (56, (.bool b56_33))] M⟩
  ⟨Q .normal [(0, v0), (3, v3), (56, (.bool b56_33))] M⟩⟩⟩
  ⟨@OptBH (binV .geq .none v4 (.int .u8 48)) ⟨fun b38_35 =>
  @BIfH b38_35
  ⟨@OptBH (binV .leq .none v4 (.int .u8 57)) ⟨fun b41_38 =>
  @BIfH b41_38
  ⟨@OptBH (unV .not (.bool true)) ⟨fun b56_47 =>
  @BIfH b56_47
  ⟨wpC P c56_15 Q [(0, v0), (3, v3), (56, (.bool b56_47))] M⟩
  ⟨Q .normal [(0, v0), (3, v3), (56, (.bool b56_47))] M⟩⟩⟩
  ⟨@OptBH (binV .eql .none v4 (.int .u8 45)) ⟨fun b46_49 =>
  @BIfH b46_49
  ⟨@OptBH (unV .not (.bool true)) ⟨fun b56_55 =>
  @BIfH b56_55
  ⟨wpC P c56_15 Q [(0, v0), (3, v3), (56, (.bool b56_55))] M⟩
  ⟨Q .normal [(0, v0), (3, v3), (56, (.bool b56_55))] M⟩⟩⟩
  ⟨@OptBH (binV .eql .none v4 (.int .u8 95)) ⟨fun b50_57 =>
  @BIfH b50_57
  ⟨@OptBH (unV .not (.bool true)) ⟨fun b56_61 =>
  @BIfH b56_61
  ⟨wpC P c56_15 Q [(0, v0), (3, v3), (56, (.bool b56_61))] M⟩
  ⟨Q .normal [(0, v0), (3, v3), (56, (.bool b56_61))] M⟩⟩⟩
  ⟨@OptBH (binV .eql .none v4 (.int .u8 46)) ⟨fun b54_63 =>
  @OptBH (unV .not (.bool b54_63)) ⟨fun b56_65 =>
  @BIfH b56_65
  ⟨wpC P c56_15 Q [(0, v0), (3, v3), (56, (.bool b56_65))] M⟩
  ⟨Q .normal [(0, v0), (3, v3), (56, (.bool b56_65))] M⟩⟩⟩⟩⟩⟩⟩⟩⟩⟩
  ⟨@OptBH (binV .eql .none v4 (.int .u8 45)) ⟨fun b46_70 =>
  @BIfH b46_70
  ⟨@OptBH (unV .not (.bool true)) ⟨fun b56_76 =>
  @BIfH b56_76
  ⟨wpC P c56_15 Q [(0, v0), (3, v3), (56, (.bool b56_76))] M⟩
  ⟨Q .normal [(0, v0), (3, v3), (56, (.bool b56_76))] M⟩⟩⟩
  ⟨@OptBH (binV .eql .none v4 (.int .u8 95)) ⟨fun b50_78 =>
  @BIfH b50_78
  ⟨@OptBH (unV .not (.bool true)) ⟨fun b56_82 =>
  @BIfH b56_82
  ⟨wpC P c56_15 Q [(0, v0), (3, v3), (56, (.bool b56_82))] M⟩
  ⟨Q .normal [(0, v0), (3, v3), (56, (.bool b56_82))] M⟩⟩⟩
  ⟨@OptBH (binV .eql .none v4 (.int .u8 46)) ⟨fun b54_84 =>
  @OptBH (unV .not (.bool b54_84)) ⟨fun b56_86 =>
  @BIfH b56_86
  ⟨wpC P c56_15 Q [(0, v0), (3, v3), (56, (.bool b56_86))] M⟩
  ⟨Q .normal [(0, v0), (3, v3), (56, (.bool b56_86))] M⟩⟩⟩⟩⟩⟩⟩⟩⟩⟩⟩⟩
  ⟨@OptBH (binV .geq .none v4 (.int .u8 48)) ⟨fun b38_91 =>
  @BIfH b38_91
  ⟨@OptBH (binV .leq .none v4 (.int .u8 57)) ⟨fun b41_94 =>
  @BIfH b41_94
  ⟨@OptBH (unV .not (.bool true)) ⟨fun b56_103 =>
  @BIfH b56_103
  ⟨wpC P c56_15 Q [(0, v0), (3, v3), (56, (.bool b56_103))] M⟩
  ⟨Q .normal [(0, v0), (3, v3), (56, (.bool b56_103))] M⟩⟩⟩
  ⟨@OptBH (binV .eql .none v4 (.int .u8 45)) ⟨fun b46_105 =>
  @BIfH b46_105
  ⟨@OptBH (unV .not (.bool true)) ⟨fun b56_111 =>
  @BIfH b56_111
  ⟨wpC P c56_15 Q [(0, v0), (3, v3), (56, (.bool b56_111))] M⟩
  ⟨Q .normal [(0, v0), (3, v3), (56, (.bool b56_111))] M⟩⟩⟩
  ⟨@OptBH (binV .eql .none v4 (.int .u8 95)) ⟨fun b50_113 =>
  @BIfH b50_113
  ⟨@OptBH (unV .not (.bool true)) ⟨fun b56_117 =>
  @BIfH b56_117
  ⟨wpC P c56_15 Q [(0, v0), (3, v3), (56, (.bool b56_117))] M⟩
  ⟨Q .normal [(0, v0), (3, v3), (56, (.bool b56_117))] M⟩⟩⟩
  ⟨@OptBH (binV .eql .none v4 (.int .u8 46)) ⟨fun b54_119 =>
  @OptBH (unV .not (.bool b54_119)) ⟨fun b56_121 =>
  @BIfH b56_121
  ⟨wpC P c56_15 Q [(0, v0), (3, v3), (56, (.bool b56_121))] M⟩
  ⟨Q .normal [(0, v0), (3, v3), (56, (.bool b56_121))] M⟩⟩⟩⟩⟩⟩⟩⟩⟩⟩
  ⟨@OptBH (binV .eql .none v4 (.int .u8 45)) ⟨fun b46_126 =>
  @BIfH b46_126
  ⟨@OptBH (unV .not (.bool true)) ⟨fun b56_132 =>
  @BIfH b56_132
  ⟨wpC P c56_15 Q [(0, v0), (3, v3), (56, (.bool b56_132))] M⟩
  ⟨Q .normal [(0, v0), (3, v3), (56, (.bool b56_132))] M⟩⟩⟩
  ⟨@OptBH (binV .eql .none v4 (.int .u8 95)) ⟨fun b50_134 =>
  @BIfH b50_134
  ⟨@OptBH (unV .not (.bool true)) ⟨fun b56_138 =>
  @BIfH b56_138
  ⟨wpC P c56_15 Q [(0, v0), (3, v3), (56, (.bool b56_138))] M⟩
  ⟨Q .normal [(0, v0), (3, v3), (56, (.bool b56_138))] M⟩⟩⟩
  ⟨@OptBH (binV .eql .none v4 (.int .u8 46)) ⟨fun b54_140 =>
  @OptBH (unV .not (.bool b54_140)) ⟨fun b56_142 =>
  @BIfH b56_142
  ⟨wpC P c56_15 Q [(0, v0), (3, v3), (56, (.bool b56_142))] M⟩
  ⟨Q .normal [(0, v0), (3, v3), (56, (.bool b56_142))] M⟩⟩⟩⟩⟩⟩⟩⟩⟩⟩⟩⟩⟩⟩
  ⟨@OptBH (binV .geq .none v4 (.int .u8 65)) ⟨fun b30_146 =>
  @BIfH b30_146
  ⟨@OptBH (binV .leq .none v4 (.int .u8 90)) ⟨fun b33_149 =>
  @BIfH b33_149
  ⟨@OptBH (unV .not (.bool true)) ⟨fun b56_160 =>
  @BIfH b56_160
  ⟨wpC P c56_15 Q [(0, v0), (3, v3), (56, (.bool b56_160))] M⟩
  ⟨Q .normal [(0, v0), (3, v3), (56, (.bool b56_160))] M⟩⟩⟩
  ⟨@OptBH (binV .geq .none v4 (.int .u8 48)) ⟨fun b38_162 =>
  @BIfH b38_162
  ⟨@OptBH (binV .leq .none v4 (.int .u8 57)) ⟨fun b41_165 =>
  @BIfH b41_165
  ⟨@OptBH (unV .not (.bool true)) ⟨fun b56_174 =>
  @BIfH b56_174
  ⟨wpC P c56_15 Q [(0, v0), (3, v3), (56, (.bool b56_174))] M⟩
  ⟨Q .normal [(0, v0), (3, v3), (56, (.bool b56_174))] M⟩⟩⟩
  ⟨@OptBH (binV .eql .none v4 (.int .u8 45)) ⟨fun b46_176 =>
  @BIfH b46_176
  ⟨@OptBH (unV .not (.bool true)) ⟨fun b56_182 =>
  @BIfH b56_182
  ⟨wpC P c56_15 Q [(0, v0), (3, v3), (56, (.bool b56_182))] M⟩
  ⟨Q .normal [(0, v0), (3, v3), (56, (.bool b56_182))] M⟩⟩⟩
  ⟨@OptBH (binV .eql .none v4 (.int .u8 95)) ⟨fun b50_184 =>
  @BIfH b50_184
  ⟨@OptBH (unV .not (.bool true)) ⟨fun b56_188 =>
  @BIfH b56_188
  ⟨wpC P c56_15 Q [(0, v0), (3, v3), (56, (.bool b56_188))] M⟩
  ⟨Q .normal [(0, v0), (3, v3), (56, (.bool b56_188))] M⟩⟩⟩
  ⟨@OptBH (binV .eql .none v4 (.int .u8 46)) ⟨fun b54_190 =>
  @OptBH (unV .not (.bool b54_190)) ⟨fun b56_192 =>
  @BIfH b56_192
  ⟨wpC P c56_15 Q [(0, v0), (3, v3), (56, (.bool b56_192))] M⟩
  ⟨Q .normal [(0, v0), (3, v3), (56, (.bool b56_192))] M⟩⟩⟩⟩⟩⟩⟩⟩⟩⟩
  ⟨@OptBH (binV .eql .none v4 (.int .u8 45)) ⟨fun b46_197 =>
  @BIfH b46_197
  ⟨@OptBH (unV .not (.bool true)) ⟨fun b56_203 =>
  @BIfH b56_203
  ⟨wpC P c56_15 Q [(0, v0), (3, v3), (56, (.bool b56_203))] M⟩
  ⟨Q .normal [(0, v0), (3, v3), (56, (.bool b56_203))] M⟩⟩⟩
  ⟨@OptBH (binV .eql .none v4 (.int .u8 95)) ⟨fun b50_205 =>
  @BIfH b50_205
  ⟨@OptBH (unV .not (.bool true)) ⟨fun b56_209 =>
  @BIfH b56_209
  ⟨wpC P c56_15 Q [(0, v0), (3, v3), (56, (.bool b56_209))] M⟩
  ⟨Q .normal [(0, v0), (3, v3), (56, (.bool b56_209))] M⟩⟩⟩
  ⟨@OptBH (binV .eql .none v4 (.int .u8 46)) ⟨fun b54_211 =>
  @OptBH (unV .not (.bool b54_211)) ⟨fun b56_213 =>
  @BIfH b56_213
  ⟨wpC P c56_15 Q [(0, v0), (3, v3), (56, (.bool b56_213))] M⟩
  ⟨Q .normal [(0, v0), (3, v3), (56, (.bool b56_213))] M⟩⟩⟩⟩⟩⟩⟩⟩⟩⟩⟩⟩
  ⟨@OptBH (binV .geq .none v4 (.int .u8 48)) ⟨fun b38_218 =>
  @BIfH b38_218
  ⟨@OptBH (binV .leq .none v4 (.int .u8 57)) ⟨fun b41_221 =>
  @BIfH b41_221
  ⟨@OptBH (unV .not (.bool true)) ⟨fun b56_230 =>
  @BIfH b56_230
  ⟨wpC P c56_15 Q [(0, v0), (3, v3), (56, (.bool b56_230))] M⟩
  ⟨Q .normal [(0, v0), (3, v3), (56, (.bool b56_230))] M⟩⟩⟩
  ⟨@OptBH (binV .eql .none v4 (.int .u8 45)) ⟨fun b46_232 =>
  @BIfH b46_232
  ⟨@OptBH (unV .not (.bool true)) ⟨fun b56_238 =>
  @BIfH b56_238
  ⟨wpC P c56_15 Q [(0, v0), (3, v3), (56, (.bool b56_238))] M⟩
  ⟨Q .normal [(0, v0), (3, v3), (56, (.bool b56_238))] M⟩⟩⟩
  ⟨@OptBH (binV .eql .none v4 (.int .u8 95)) ⟨fun b50_240 =>
  @BIfH b50_240
  ⟨@OptBH (unV .not (.bool true)) ⟨fun b56_244 =>
  @BIfH b56_244
  ⟨wpC P c56_15 Q [(0, v0), (3, v3), (56, (.bool b56_244))] M⟩
  ⟨Q .normal [(0, v0), (3, v3), (56, (.bool b56_244))] M⟩⟩⟩
  ⟨@OptBH (binV .eql .none v4 (.int .u8 46)) ⟨fun b54_246 =>
  @OptBH (unV .not (.bool b54_246)) ⟨fun b56_248 =>
  @BIfH b56_248
  ⟨wpC P c56_15 Q [(0, v0), (3, v3), (56, (.bool b56_248))] M⟩
  ⟨Q .normal [(0, v0), (3, v3), (56, (.bool b56_248))] M⟩⟩⟩⟩⟩⟩⟩⟩⟩⟩
  ⟨@OptBH (binV .eql .none v4 (.int .u8 45)) ⟨fun b46_253 =>
  @BIfH b46_253
  ⟨@OptBH (unV .not (.bool true)) ⟨fun b56_259 =>
  @BIfH b56_259
  ⟨wpC P c56_15 Q [(0, v0), (3, v3), (56, (.bool b56_259))] M⟩
  ⟨Q .normal [(0, v0), (3, v3), (56, (.bool b56_259))] M⟩⟩⟩
  ⟨@OptBH (binV .eql .none v4 (.int .u8 95)) ⟨fun b50_261 =>
  @BIfH b50_261
  ⟨@OptBH (unV .not (.bool true)) ⟨fun b56_265 =>
  @BIfH b56_265
  ⟨wpC P c56_15 Q [(0, v0), (3, v3), (56, (.bool b56_265))] M⟩
  ⟨Q .normal [(0, v0), (3, v3), (56, (.bool b56_265))] M⟩⟩⟩
  ⟨@OptBH (binV .eql .none v4 (.int .u8 46)) ⟨fun b54_267 =>
  @OptBH (unV .not (.bool b54_267)) ⟨fun b56_269 =>
  @BIfH b56_269
  ⟨wpC P c56_15 Q [(0, v0), (3, v3), (56, (.bool b56_269))] M⟩
  ⟨Q .normal [(0, v0), (3, v3), (56, (.bool b56_269))] M⟩⟩⟩⟩⟩⟩⟩⟩⟩⟩⟩⟩⟩
theorem e56_17 (P : Program) (Q : Exit → Slots → Mem → Prop) (s : Slots) (M : Mem) : wpC P c56_17 Q s M = w56_17 P Q M (sget s 0) (sget s 3) (sget s 4) := by kernel_rfl
def c56_18 : ACode := (.seq c56_12 c56_17)
def c56_19 : ACode := (.block 1 c56_18)
def o56_20 : List AOper := [⟨some 17, (.mov (.tmp 3)), false, none⟩,
  ⟨some 18, (.bin .add .none (.tmp 17) (.const (.int .i64 1))), false, none⟩,
  ⟨some 3, (.mov (.tmp 18)), false, none⟩]
def c56_21 : ACode := (.region o56_20 [0, 3])
def w56_21 (_P : Program) (Q : Exit → Slots → Mem → Prop) (M : Mem) (v0 : V) (v3 : V) : Prop :=
  @OptVH (binV .add .none v3 (.int .i64 1)) ⟨fun t18_2 =>
  Q .normal [(0, v0), (3, t18_2)] M⟩
theorem e56_21 (P : Program) (Q : Exit → Slots → Mem → Prop) (s : Slots) (M : Mem) : wpC P c56_21 Q s M = w56_21 P Q M (sget s 0) (sget s 3) := by kernel_rfl
def c56_22 : ACode := (.seq c56_19 c56_21)
def c56_23 : ACode := (.seq c56_10 c56_22)
def c56_24 : ACode := (.loop [0, 3] c56_23)
def c56_25 : ACode := (.block 0 c56_24)
def c56_26 : ACode := (.seq c56_8 c56_25)
def o56_27 : List AOper := [⟨some 2, (.mov (.const (.bool true))), true, none⟩]
def c56_28 : ACode := (.region o56_27 [2])
def w56_28 (_P : Program) (Q : Exit → Slots → Mem → Prop) (M : Mem) : Prop :=
  Q .normal [(2, (.bool true))] M
theorem e56_28 (P : Program) (Q : Exit → Slots → Mem → Prop) (s : Slots) (M : Mem) : wpC P c56_28 Q s M = w56_28 P Q M := by kernel_rfl
def c56_29 : ACode := (.seq c56_28 .ret)
def c56_30 : ACode := (.seq c56_26 c56_29)
def c56_31 : ACode := (.seq c56_6 c56_30)
def c56_32 : ACode := (.seq c56_1 c56_31)
def fn_transitref15_Name : AFn := ⟨57, [(.tmp 2)], c56_32⟩
theorem fn_transitref15_Name_ok : resFn PR h_transitref15_Name i_transitref15_Name = some fn_transitref15_Name := by kernel_rfl

end Go.Vm.C
