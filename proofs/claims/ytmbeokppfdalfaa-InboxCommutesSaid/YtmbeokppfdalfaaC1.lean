/- The abstract code of the functions that the statements reach, printed by a program, each with the equation that it is what the loaded program says. Part 1. -/
import Derived.Test.YtmbeokppfdalfaaC0
namespace Go.Vm.C
open Go.Vm
def h_message_used : Hints := ⟨[(0, [0, 2]), (1, [2, 3]), (2, [2, 3, 4]), (3, [2]), (4, [2, 3, 7]), (5, [2]), (6, [2, 3, 10]), (7, [2]), (8, [2, 13]), (9, [2]), (10, [2])], [], []⟩
def o64_0 : List AOper := [⟨some 2, (.alloc [(.bool false), (.bool false), (.bool false), (.bool false), (.bool false)]), false, none⟩]
def c64_1 : ACode := (.region o64_0 [0, 2])
def w64_1 (_P : Program) (Q : Exit → Slots → Mem → Prop) (M : Mem) (v0 : V) : Prop :=
  @OptMH (allocV [(.bool false), (.bool false), (.bool false), (.bool false), (.bool false)] M) ⟨fun t2_1 M1 =>
  Q .normal [(0, v0), (2, t2_1)] M1⟩
theorem e64_1 (P : Program) (Q : Exit → Slots → Mem → Prop) (s : Slots) (M : Mem) : wpC P c64_1 Q s M = w64_1 P Q M (sget s 0) := by kernel_rfl
def o64_2 : List AOper := [⟨some 3, (.mov (.tmp 0)), false, none⟩]
def c64_3 : ACode := (.region o64_2 [2, 3])
def w64_3 (_P : Program) (Q : Exit → Slots → Mem → Prop) (M : Mem) (v0 : V) (v2 : V) : Prop :=
  Q .normal [(2, v2), (3, v0)] M
theorem e64_3 (P : Program) (Q : Exit → Slots → Mem → Prop) (s : Slots) (M : Mem) : wpC P c64_3 Q s M = w64_3 P Q M (sget s 0) (sget s 2) := by kernel_rfl
def o64_4 : List AOper := [⟨some 6, (.build [(.bool false), (.bool false), (.bool false), (.bool false), (.bool false)] [(0, (1, (.const (.bool true)))), (1, (1, (.const (.bool true))))]), false, none⟩,
  ⟨none, (.store 5 (.tmp 2) (.tmp 6)), false, none⟩]
def c64_5 : ACode := (.region o64_4 [2])
def w64_5 (_P : Program) (Q : Exit → Slots → Mem → Prop) (M : Mem) (v2 : V) : Prop :=
  @OptVH (buildV [(.bool false), (.bool false), (.bool false), (.bool false), (.bool false)] [(0, 1, (.bool true)), (1, 1, (.bool true))]) ⟨fun t6_1 =>
  @OptMH (storeVM 5 v2 t6_1 M) ⟨fun _tx_2 M2 =>
  Q .normal [(2, v2)] M2⟩⟩
theorem e64_5 (P : Program) (Q : Exit → Slots → Mem → Prop) (s : Slots) (M : Mem) : wpC P c64_5 Q s M = w64_5 P Q M (sget s 2) := by kernel_rfl
def c64_6 : ACode := (.seq c64_5 .ret)
def o64_7 : List AOper := [⟨some 9, (.build [(.bool false), (.bool false), (.bool false), (.bool false), (.bool false)] [(0, (1, (.const (.bool true))))]), false, none⟩,
  ⟨none, (.store 5 (.tmp 2) (.tmp 9)), false, none⟩]
def c64_8 : ACode := (.region o64_7 [2])
def w64_8 (_P : Program) (Q : Exit → Slots → Mem → Prop) (M : Mem) (v2 : V) : Prop :=
  @OptVH (buildV [(.bool false), (.bool false), (.bool false), (.bool false), (.bool false)] [(0, 1, (.bool true))]) ⟨fun t9_1 =>
  @OptMH (storeVM 5 v2 t9_1 M) ⟨fun _tx_2 M2 =>
  Q .normal [(2, v2)] M2⟩⟩
theorem e64_8 (P : Program) (Q : Exit → Slots → Mem → Prop) (s : Slots) (M : Mem) : wpC P c64_8 Q s M = w64_8 P Q M (sget s 2) := by kernel_rfl
def c64_9 : ACode := (.seq c64_8 .ret)
def o64_10 : List AOper := [⟨some 12, (.build [(.bool false), (.bool false), (.bool false), (.bool false), (.bool false)] [(4, (1, (.const (.bool true))))]), false, none⟩,
  ⟨none, (.store 5 (.tmp 2) (.tmp 12)), false, none⟩]
def c64_11 : ACode := (.region o64_10 [2])
def w64_11 (_P : Program) (Q : Exit → Slots → Mem → Prop) (M : Mem) (v2 : V) : Prop :=
  @OptVH (buildV [(.bool false), (.bool false), (.bool false), (.bool false), (.bool false)] [(4, 1, (.bool true))]) ⟨fun t12_1 =>
  @OptMH (storeVM 5 v2 t12_1 M) ⟨fun _tx_2 M2 =>
  Q .normal [(2, v2)] M2⟩⟩
theorem e64_11 (P : Program) (Q : Exit → Slots → Mem → Prop) (s : Slots) (M : Mem) : wpC P c64_11 Q s M = w64_11 P Q M (sget s 2) := by kernel_rfl
def c64_12 : ACode := (.seq c64_11 .ret)
def o64_13 : List AOper := [⟨some 15, (.build [(.bool false), (.bool false), (.bool false), (.bool false), (.bool false)] [(2, (1, (.const (.bool true)))), (3, (1, (.const (.bool true)))), (4, (1, (.const (.bool true))))]), false, none⟩,
  ⟨none, (.store 5 (.tmp 2) (.tmp 15)), false, none⟩]
def c64_14 : ACode := (.region o64_13 [2])
def w64_14 (_P : Program) (Q : Exit → Slots → Mem → Prop) (M : Mem) (v2 : V) : Prop :=
  @OptVH (buildV [(.bool false), (.bool false), (.bool false), (.bool false), (.bool false)] [(2, 1, (.bool true)), (3, 1, (.bool true)), (4, 1, (.bool true))]) ⟨fun t15_1 =>
  @OptMH (storeVM 5 v2 t15_1 M) ⟨fun _tx_2 M2 =>
  Q .normal [(2, v2)] M2⟩⟩
theorem e64_14 (P : Program) (Q : Exit → Slots → Mem → Prop) (s : Slots) (M : Mem) : wpC P c64_14 Q s M = w64_14 P Q M (sget s 2) := by kernel_rfl
def c64_15 : ACode := (.seq c64_14 .ret)
def o64_16 : List AOper := [⟨some 14, (.bin .eql .none (.tmp 3) (.const (.int .i64 5))), true, none⟩,
  ⟨some 13, (.mov (.tmp 14)), true, none⟩]
def c64_17 : ACode := (.seq (.region o64_16 [2, 13]) (.cond (.tmp 13) c64_15 .skip))
def w64_17 (P : Program) (Q : Exit → Slots → Mem → Prop) (M : Mem) (v2 : V) (v3 : V) : Prop :=
  @OptBH (binV .eql .none v3 (.int .i64 5)) ⟨fun b14_1 =>
  @BIfH b14_1
  ⟨wpC P c64_15 Q [(2, v2), (13, (.bool b14_1))] M⟩
  ⟨Q .normal [(2, v2), (13, (.bool b14_1))] M⟩⟩
theorem e64_17 (P : Program) (Q : Exit → Slots → Mem → Prop) (s : Slots) (M : Mem) : wpC P c64_17 Q s M = w64_17 P Q M (sget s 2) (sget s 3) := by kernel_rfl
def o64_18 : List AOper := [⟨some 11, (.bin .eql .none (.tmp 3) (.const (.int .i64 4))), true, none⟩,
  ⟨some 10, (.mov (.tmp 11)), true, none⟩]
def c64_19 : ACode := (.seq (.region o64_18 [2, 3, 10]) (.cond (.tmp 10) c64_12 c64_17))
def w64_19 (P : Program) (Q : Exit → Slots → Mem → Prop) (M : Mem) (v2 : V) (v3 : V) : Prop :=
  @OptBH (binV .eql .none v3 (.int .i64 4)) ⟨fun b11_1 =>
  @BIfH b11_1
  ⟨wpC P c64_12 Q [(2, v2), (3, v3), (10, (.bool b11_1))] M⟩
  ⟨wpC P c64_17 Q [(2, v2), (3, v3), (10, (.bool b11_1))] M⟩⟩
theorem e64_19 (P : Program) (Q : Exit → Slots → Mem → Prop) (s : Slots) (M : Mem) : wpC P c64_19 Q s M = w64_19 P Q M (sget s 2) (sget s 3) := by kernel_rfl
def o64_20 : List AOper := [⟨some 8, (.bin .eql .none (.tmp 3) (.const (.int .i64 3))), true, none⟩,
  ⟨some 7, (.mov (.tmp 8)), true, none⟩]
def c64_21 : ACode := (.seq (.region o64_20 [2, 3, 7]) (.cond (.tmp 7) c64_9 c64_19))
def w64_21 (P : Program) (Q : Exit → Slots → Mem → Prop) (M : Mem) (v2 : V) (v3 : V) : Prop :=
  @OptBH (binV .eql .none v3 (.int .i64 3)) ⟨fun b8_1 =>
  @BIfH b8_1
  ⟨wpC P c64_9 Q [(2, v2), (3, v3), (7, (.bool b8_1))] M⟩
  ⟨wpC P c64_19 Q [(2, v2), (3, v3), (7, (.bool b8_1))] M⟩⟩
theorem e64_21 (P : Program) (Q : Exit → Slots → Mem → Prop) (s : Slots) (M : Mem) : wpC P c64_21 Q s M = w64_21 P Q M (sget s 2) (sget s 3) := by kernel_rfl
def o64_22 : List AOper := [⟨some 5, (.bin .eql .none (.tmp 3) (.const (.int .i64 1))), true, none⟩,
  ⟨some 4, (.mov (.tmp 5)), true, none⟩]
def c64_23 : ACode := (.seq (.region o64_22 [2, 3, 4]) (.cond (.tmp 4) c64_6 c64_21))
def w64_23 (P : Program) (Q : Exit → Slots → Mem → Prop) (M : Mem) (v2 : V) (v3 : V) : Prop :=
  @OptBH (binV .eql .none v3 (.int .i64 1)) ⟨fun b5_1 =>
  @BIfH b5_1
  ⟨wpC P c64_6 Q [(2, v2), (3, v3), (4, (.bool b5_1))] M⟩
  ⟨wpC P c64_21 Q [(2, v2), (3, v3), (4, (.bool b5_1))] M⟩⟩
theorem e64_23 (P : Program) (Q : Exit → Slots → Mem → Prop) (s : Slots) (M : Mem) : wpC P c64_23 Q s M = w64_23 P Q M (sget s 2) (sget s 3) := by kernel_rfl
def c64_24 : ACode := (.block 0 c64_23)
def c64_25 : ACode := (.seq c64_3 c64_24)
def o64_26 : List AOper := [⟨some 16, (.build [(.bool false), (.bool false), (.bool false), (.bool false), (.bool false)] []), false, none⟩,
  ⟨none, (.store 5 (.tmp 2) (.tmp 16)), false, none⟩]
def c64_27 : ACode := (.region o64_26 [2])
def w64_27 (_P : Program) (Q : Exit → Slots → Mem → Prop) (M : Mem) (v2 : V) : Prop :=
  @OptVH (buildV [(.bool false), (.bool false), (.bool false), (.bool false), (.bool false)] []) ⟨fun t16_1 =>
  @OptMH (storeVM 5 v2 t16_1 M) ⟨fun _tx_2 M2 =>
  Q .normal [(2, v2)] M2⟩⟩
theorem e64_27 (P : Program) (Q : Exit → Slots → Mem → Prop) (s : Slots) (M : Mem) : wpC P c64_27 Q s M = w64_27 P Q M (sget s 2) := by kernel_rfl
def c64_28 : ACode := (.seq c64_27 .ret)
def c64_29 : ACode := (.seq c64_25 c64_28)
def c64_30 : ACode := (.seq c64_1 c64_29)
def fn_message_used : AFn := ⟨17, [(.cell 2 5 true)], c64_30⟩
theorem fn_message_used_ok : resFn PR h_message_used i_message_used = some fn_message_used := by kernel_rfl

def h_call_Check : Hints := ⟨[(0, [0, 1, 2, 3]), (1, [0, 1, 2, 3, 19]), (2, [8, 9]), (3, [0, 1, 2, 3, 21, 22]), (4, [0, 1, 2, 3, 21, 22, 23]), (5, [0, 1, 2, 3, 10, 21, 22]), (6, [0, 1, 2, 3, 10, 11, 21, 22]), (7, [0, 1, 2, 3, 10, 11, 21, 22, 32]), (8, [8, 9]), (9, [0, 1, 2, 3, 21, 22]), (10, [8, 9])], [(4, [0, 1, 2, 3, 21, 22])], []⟩
def o66_0 : List AOper := [⟨some 8, (.mov (.const (.int .i64 0))), false, none⟩,
  ⟨some 9, (.mov (.const (.int .i64 0))), false, none⟩]
def c66_1 : ACode := (.region o66_0 [0, 1, 2, 3])
def w66_1 (_P : Program) (Q : Exit → Slots → Mem → Prop) (M : Mem) (v0 : V) (v1 : V) (v2 : V) (v3 : V) : Prop :=
  Q .normal [(0, v0), (1, v1), (2, v2), (3, v3)] M
theorem e66_1 (P : Program) (Q : Exit → Slots → Mem → Prop) (s : Slots) (M : Mem) : wpC P c66_1 Q s M = w66_1 P Q M (sget s 0) (sget s 1) (sget s 2) (sget s 3) := by kernel_rfl
def o66_2 : List AOper := [⟨some 8, (.mov (.const (.int .i64 0))), false, none⟩,
  ⟨some 9, (.mov (.const (.int .i64 5))), false, none⟩]
def c66_3 : ACode := (.region o66_2 [8, 9])
def w66_3 (_P : Program) (Q : Exit → Slots → Mem → Prop) (M : Mem) : Prop :=
  Q .normal [(8, (.int .i64 0)), (9, (.int .i64 5))] M
theorem e66_3 (P : Program) (Q : Exit → Slots → Mem → Prop) (s : Slots) (M : Mem) : wpC P c66_3 Q s M = w66_3 P Q M := by kernel_rfl
def c66_4 : ACode := (.seq c66_3 .ret)
def o66_5 : List AOper := [⟨some 12, (.mov (.tmp 0)), false, none⟩,
  ⟨some 13, (.lenSl (.tmp 12)), false, none⟩,
  ⟨some 14, (.bin .lss .none (.tmp 13) (.const (.int .i64 2))), true, none⟩,
  ⟨some 15, (.mov (.tmp 14)), true, none⟩,
  ⟨some 16, (.mov (.tmp 0)), false, some (15, false)⟩,
  ⟨some 17, (.lenSl (.tmp 16)), false, some (15, false)⟩,
  ⟨some 18, (.bin .gtr .none (.tmp 17) (.const (.int .i64 32))), true, some (15, false)⟩,
  ⟨some 19, (.pick (.tmp 15) (.const (.bool true)) (.tmp 18)), true, none⟩]
def c66_6 : ACode := (.seq (.region o66_5 [0, 1, 2, 3, 19]) (.cond (.tmp 19) c66_4 .skip))
def w66_6 (P : Program) (Q : Exit → Slots → Mem → Prop) (M : Mem) (v0 : V) (v1 : V) (v2 : V) (v3 : V) : Prop :=
  @OptVH (lenV v0 M) ⟨fun t13_2 =>
  @OptBH (binV .lss .none t13_2 (.int .i64 2)) ⟨fun b14_3 =>
  @BIfH b14_3
  ⟨wpC P c66_4 Q [(0, v0), (1, v1), (2, v2), (3, v3), (19, (.bool true))] M⟩
  ⟨@OptVH (lenV v0 M) ⟨fun t17_7 =>
  @OptBH (binV .gtr .none t17_7 (.int .i64 32)) ⟨fun b18_8 =>
  @BIfH b18_8
  ⟨wpC P c66_4 Q [(0, v0), (1, v1), (2, v2), (3, v3), (19, (.bool b18_8))] M⟩
  ⟨Q .normal [(0, v0), (1, v1), (2, v2), (3, v3), (19, (.bool b18_8))] M⟩⟩⟩⟩⟩⟩
theorem e66_6 (P : Program) (Q : Exit → Slots → Mem → Prop) (s : Slots) (M : Mem) : wpC P c66_6 Q s M = w66_6 P Q M (sget s 0) (sget s 1) (sget s 2) (sget s 3) := by kernel_rfl
def o66_7 : List AOper := [⟨some 20, (.mov (.tmp 0)), false, none⟩,
  ⟨some 21, (.lenSl (.tmp 20)), false, none⟩,
  ⟨some 22, (.mov (.const (.int .i64 0))), false, none⟩]
def c66_8 : ACode := (.region o66_7 [0, 1, 2, 3, 21, 22])
def w66_8 (_P : Program) (Q : Exit → Slots → Mem → Prop) (M : Mem) (v0 : V) (v1 : V) (v2 : V) (v3 : V) : Prop :=
  @OptVH (lenV v0 M) ⟨fun t21_2 =>
  Q .normal [(0, v0), (1, v1), (2, v2), (3, v3), (21, t21_2), (22, (.int .i64 0))] M⟩
theorem e66_8 (P : Program) (Q : Exit → Slots → Mem → Prop) (s : Slots) (M : Mem) : wpC P c66_8 Q s M = w66_8 P Q M (sget s 0) (sget s 1) (sget s 2) (sget s 3) := by kernel_rfl
def o66_9 : List AOper := [⟨some 23, (.bin .lss .none (.tmp 22) (.tmp 21)), false, none⟩]
def c66_10 : ACode := (.region o66_9 [0, 1, 2, 3, 21, 22, 23])
def w66_10 (_P : Program) (Q : Exit → Slots → Mem → Prop) (M : Mem) (v0 : V) (v1 : V) (v2 : V) (v3 : V) (v21 : V) (v22 : V) : Prop :=
  @OptVH (binV .lss .none v22 v21) ⟨fun t23_1 =>
  Q .normal [(0, v0), (1, v1), (2, v2), (3, v3), (21, v21), (22, v22), (23, t23_1)] M⟩
theorem e66_10 (P : Program) (Q : Exit → Slots → Mem → Prop) (s : Slots) (M : Mem) : wpC P c66_10 Q s M = w66_10 P Q M (sget s 0) (sget s 1) (sget s 2) (sget s 3) (sget s 21) (sget s 22) := by kernel_rfl
def c66_11 : ACode := (.cond (.tmp 23) .skip (.exit 0))
def o66_12 : List AOper := [⟨some 24, (.mov (.tmp 22)), false, none⟩,
  ⟨some 10, (.mov (.tmp 24)), false, none⟩]
def c66_13 : ACode := (.region o66_12 [0, 1, 2, 3, 10, 21, 22])
def w66_13 (_P : Program) (Q : Exit → Slots → Mem → Prop) (M : Mem) (v0 : V) (v1 : V) (v2 : V) (v3 : V) (v21 : V) (v22 : V) : Prop :=
  Q .normal [(0, v0), (1, v1), (2, v2), (3, v3), (10, v22), (21, v21), (22, v22)] M
theorem e66_13 (P : Program) (Q : Exit → Slots → Mem → Prop) (s : Slots) (M : Mem) : wpC P c66_13 Q s M = w66_13 P Q M (sget s 0) (sget s 1) (sget s 2) (sget s 3) (sget s 21) (sget s 22) := by kernel_rfl
def o66_14 : List AOper := [⟨some 25, (.mov (.tmp 0)), false, none⟩,
  ⟨some 26, (.mov (.tmp 10)), false, none⟩,
  ⟨some 27, (.mov (.tmp 1)), false, none⟩,
  ⟨some 28, (.mov (.tmp 2)), false, none⟩,
  ⟨some 29, (.mov (.tmp 3)), false, none⟩,
  ⟨some 30, (.call i_call_one [(.tmp 25), (.tmp 26), (.tmp 27), (.tmp 28), (.tmp 29)]), false, none⟩,
  ⟨some 11, (.mov (.tmp 30)), false, none⟩]
def c66_15 : ACode := (.region o66_14 [0, 1, 2, 3, 10, 11, 21, 22])
def w66_15 (P : Program) (Q : Exit → Slots → Mem → Prop) (M : Mem) (v0 : V) (v1 : V) (v2 : V) (v3 : V) (v10 : V) (v21 : V) (v22 : V) : Prop :=
  @CallH P i_call_one [v0, v10, v1, v2, v3] M ⟨fun t30_6 M6 =>
  Q .normal [(0, v0), (1, v1), (2, v2), (3, v3), (10, v10), (11, t30_6), (21, v21), (22, v22)] M6⟩
theorem e66_15 (P : Program) (Q : Exit → Slots → Mem → Prop) (s : Slots) (M : Mem) : wpC P c66_15 Q s M = w66_15 P Q M (sget s 0) (sget s 1) (sget s 2) (sget s 3) (sget s 10) (sget s 21) (sget s 22) := by kernel_rfl
def o66_16 : List AOper := [⟨some 33, (.mov (.tmp 10)), false, none⟩,
  ⟨some 34, (.mov (.tmp 11)), false, none⟩,
  ⟨some 8, (.mov (.tmp 33)), false, none⟩,
  ⟨some 9, (.mov (.tmp 34)), false, none⟩]
def c66_17 : ACode := (.region o66_16 [8, 9])
def w66_17 (_P : Program) (Q : Exit → Slots → Mem → Prop) (M : Mem) (v10 : V) (v11 : V) : Prop :=
  Q .normal [(8, v10), (9, v11)] M
theorem e66_17 (P : Program) (Q : Exit → Slots → Mem → Prop) (s : Slots) (M : Mem) : wpC P c66_17 Q s M = w66_17 P Q M (sget s 10) (sget s 11) := by kernel_rfl
def c66_18 : ACode := (.seq c66_17 .ret)
def o66_19 : List AOper := [⟨some 31, (.mov (.tmp 11)), false, none⟩,
  ⟨some 32, (.bin .neq .none (.tmp 31) (.const (.int .i64 0))), true, none⟩]
def c66_20 : ACode := (.seq (.region o66_19 [0, 1, 2, 3, 10, 11, 21, 22, 32]) (.cond (.tmp 32) c66_18 .skip))
def w66_20 (P : Program) (Q : Exit → Slots → Mem → Prop) (M : Mem) (v0 : V) (v1 : V) (v2 : V) (v3 : V) (v10 : V) (v11 : V) (v21 : V) (v22 : V) : Prop :=
  @OptBH (binV .neq .none v11 (.int .i64 0)) ⟨fun b32_2 =>
  @BIfH b32_2
  ⟨wpC P c66_18 Q [(0, v0), (1, v1), (2, v2), (3, v3), (10, v10), (11, v11), (21, v21), (22, v22), (32, (.bool b32_2))] M⟩
  ⟨Q .normal [(0, v0), (1, v1), (2, v2), (3, v3), (10, v10), (11, v11), (21, v21), (22, v22), (32, (.bool b32_2))] M⟩⟩
theorem e66_20 (P : Program) (Q : Exit → Slots → Mem → Prop) (s : Slots) (M : Mem) : wpC P c66_20 Q s M = w66_20 P Q M (sget s 0) (sget s 1) (sget s 2) (sget s 3) (sget s 10) (sget s 11) (sget s 21) (sget s 22) := by kernel_rfl
def c66_21 : ACode := (.seq c66_15 c66_20)
def c66_22 : ACode := (.seq c66_13 c66_21)
def c66_23 : ACode := (.block 1 c66_22)
def o66_24 : List AOper := [⟨some 35, (.bin .add .none (.tmp 22) (.const (.int .i64 1))), false, none⟩,
  ⟨some 22, (.mov (.tmp 35)), false, none⟩]
def c66_25 : ACode := (.region o66_24 [0, 1, 2, 3, 21, 22])
def w66_25 (_P : Program) (Q : Exit → Slots → Mem → Prop) (M : Mem) (v0 : V) (v1 : V) (v2 : V) (v3 : V) (v21 : V) (v22 : V) : Prop :=
  @OptVH (binV .add .none v22 (.int .i64 1)) ⟨fun t35_1 =>
  Q .normal [(0, v0), (1, v1), (2, v2), (3, v3), (21, v21), (22, t35_1)] M⟩
theorem e66_25 (P : Program) (Q : Exit → Slots → Mem → Prop) (s : Slots) (M : Mem) : wpC P c66_25 Q s M = w66_25 P Q M (sget s 0) (sget s 1) (sget s 2) (sget s 3) (sget s 21) (sget s 22) := by kernel_rfl
def c66_26 : ACode := (.seq c66_23 c66_25)
def c66_27 : ACode := (.seq c66_11 c66_26)
def c66_28 : ACode := (.seq c66_10 c66_27)
def c66_29 : ACode := (.loop [0, 1, 2, 3, 21, 22] c66_28)
def c66_30 : ACode := (.block 0 c66_29)
def c66_31 : ACode := (.seq c66_8 c66_30)
def o66_32 : List AOper := [⟨some 8, (.mov (.const (.int .i64 0))), false, none⟩,
  ⟨some 9, (.mov (.const (.int .i64 0))), false, none⟩]
def c66_33 : ACode := (.region o66_32 [8, 9])
def w66_33 (_P : Program) (Q : Exit → Slots → Mem → Prop) (M : Mem) : Prop :=
  Q .normal [(8, (.int .i64 0)), (9, (.int .i64 0))] M
theorem e66_33 (P : Program) (Q : Exit → Slots → Mem → Prop) (s : Slots) (M : Mem) : wpC P c66_33 Q s M = w66_33 P Q M := by kernel_rfl
def c66_34 : ACode := (.seq c66_33 .ret)
def c66_35 : ACode := (.seq c66_31 c66_34)
def c66_36 : ACode := (.seq c66_6 c66_35)
def c66_37 : ACode := (.seq c66_1 c66_36)
def fn_call_Check : AFn := ⟨36, [(.tmp 8), (.tmp 9)], c66_37⟩
theorem fn_call_Check_ok : resFn PR h_call_Check i_call_Check = some fn_call_Check := by kernel_rfl

def h_call_one : Hints := ⟨[(0, [0, 1, 2, 3, 4]), (1, [0, 1, 2, 3, 4, 11]), (2, [0, 1, 3, 4, 11, 24]), (3, [10]), (4, [0, 1, 3, 4, 11, 37]), (5, [10]), (6, [69]), (7, [10]), (8, [10])], [], []⟩
def o67_0 : List AOper := [⟨some 10, (.mov (.const (.int .i64 0))), false, none⟩]
def c67_1 : ACode := (.region o67_0 [0, 1, 2, 3, 4])
def w67_1 (_P : Program) (Q : Exit → Slots → Mem → Prop) (M : Mem) (v0 : V) (v1 : V) (v2 : V) (v3 : V) (v4 : V) : Prop :=
  Q .normal [(0, v0), (1, v1), (2, v2), (3, v3), (4, v4)] M
theorem e67_1 (P : Program) (Q : Exit → Slots → Mem → Prop) (s : Slots) (M : Mem) : wpC P c67_1 Q s M = w67_1 P Q M (sget s 0) (sget s 1) (sget s 2) (sget s 3) (sget s 4) := by kernel_rfl
def o67_2 : List AOper := [⟨some 12, (.mov (.tmp 0)), false, none⟩,
  ⟨some 13, (.mov (.tmp 1)), false, none⟩,
  ⟨some 14, (.indexSl 5 (.tmp 12) (.tmp 13)), false, none⟩,
  ⟨some 15, (.load 5 true (.tmp 14)), false, none⟩,
  ⟨some 11, (.alloc [(.int .i64 0), (.int .i64 0), (.int .i64 0), (.bool false), (.bool false)]), false, none⟩,
  ⟨none, (.store 5 (.tmp 11) (.tmp 15)), false, none⟩]
def c67_3 : ACode := (.region o67_2 [0, 1, 2, 3, 4, 11])
def w67_3 (_P : Program) (Q : Exit → Slots → Mem → Prop) (M : Mem) (v0 : V) (v1 : V) (v2 : V) (v3 : V) (v4 : V) : Prop :=
  @OptVH (indexSlV 5 v0 v1 M) ⟨fun t14_3 =>
  @OptVH (loadV 5 true t14_3 M) ⟨fun t15_4 =>
  @OptMH (allocV [(.int .i64 0), (.int .i64 0), (.int .i64 0), (.bool false), (.bool false)] M) ⟨fun t11_5 M5 =>
  @OptMH (storeVM 5 t11_5 t15_4 M5) ⟨fun _tx_6 M6 =>
  Q .normal [(0, v0), (1, v1), (2, v2), (3, v3), (4, v4), (11, t11_5)] M6⟩⟩⟩⟩
theorem e67_3 (P : Program) (Q : Exit → Slots → Mem → Prop) (s : Slots) (M : Mem) : wpC P c67_3 Q s M = w67_3 P Q M (sget s 0) (sget s 1) (sget s 2) (sget s 3) (sget s 4) := by kernel_rfl
def o67_4 : List AOper := [⟨some 10, (.mov (.const (.int .i64 9))), false, none⟩]
def c67_5 : ACode := (.region o67_4 [10])
def w67_5 (_P : Program) (Q : Exit → Slots → Mem → Prop) (M : Mem) : Prop :=
  Q .normal [(10, (.int .i64 9))] M
theorem e67_5 (P : Program) (Q : Exit → Slots → Mem → Prop) (s : Slots) (M : Mem) : wpC P c67_5 Q s M = w67_5 P Q M := by kernel_rfl
def c67_6 : ACode := (.seq c67_5 .ret)
def o67_7 : List AOper := [⟨some 16, (.fieldAddr 0 (.tmp 11)), false, none⟩,
  ⟨some 17, (.load 1 false (.tmp 16)), false, none⟩,
  ⟨some 18, (.bin .lss .none (.tmp 17) (.const (.int .i64 0))), true, none⟩,
  ⟨some 19, (.mov (.tmp 18)), true, none⟩,
  ⟨some 20, (.fieldAddr 0 (.tmp 11)), false, some (19, false)⟩,
  ⟨some 21, (.load 1 false (.tmp 20)), false, some (19, false)⟩,
  ⟨some 22, (.mov (.tmp 2)), false, some (19, false)⟩,
  ⟨some 23, (.bin .geq .none (.tmp 21) (.tmp 22)), true, some (19, false)⟩,
  ⟨some 24, (.pick (.tmp 19) (.const (.bool true)) (.tmp 23)), true, none⟩]
def c67_8 : ACode := (.seq (.region o67_7 [0, 1, 3, 4, 11, 24]) (.cond (.tmp 24) c67_6 .skip))
def w67_8 (P : Program) (Q : Exit → Slots → Mem → Prop) (M : Mem) (v0 : V) (v1 : V) (v2 : V) (v3 : V) (v4 : V) (v11 : V) : Prop :=
  @OptVH (moveV 0 v11) ⟨fun t16_1 =>
  @OptVH (loadV 1 false t16_1 M) ⟨fun t17_2 =>
  @OptBH (binV .lss .none t17_2 (.int .i64 0)) ⟨fun b18_3 =>
  @BIfH b18_3
  ⟨wpC P c67_6 Q [(0, v0), (1, v1), (3, v3), (4, v4), (11, v11), (24, (.bool true))] M⟩
  ⟨@OptVH (moveV 0 v11) ⟨fun t20_6 =>
  @OptVH (loadV 1 false t20_6 M) ⟨fun t21_7 =>
  @OptBH (binV .geq .none t21_7 v2) ⟨fun b23_9 =>
  @BIfH b23_9
  ⟨wpC P c67_6 Q [(0, v0), (1, v1), (3, v3), (4, v4), (11, v11), (24, (.bool b23_9))] M⟩
  ⟨Q .normal [(0, v0), (1, v1), (3, v3), (4, v4), (11, v11), (24, (.bool b23_9))] M⟩⟩⟩⟩⟩⟩⟩⟩
theorem e67_8 (P : Program) (Q : Exit → Slots → Mem → Prop) (s : Slots) (M : Mem) : wpC P c67_8 Q s M = w67_8 P Q M (sget s 0) (sget s 1) (sget s 2) (sget s 3) (sget s 4) (sget s 11) := by kernel_rfl
def o67_9 : List AOper := [⟨some 10, (.mov (.const (.int .i64 13))), false, none⟩]
def c67_10 : ACode := (.region o67_9 [10])
def w67_10 (_P : Program) (Q : Exit → Slots → Mem → Prop) (M : Mem) : Prop :=
  Q .normal [(10, (.int .i64 13))] M
theorem e67_10 (P : Program) (Q : Exit → Slots → Mem → Prop) (s : Slots) (M : Mem) : wpC P c67_10 Q s M = w67_10 P Q M := by kernel_rfl
def c67_11 : ACode := (.seq c67_10 .ret)
def o67_12 : List AOper := [⟨some 25, (.mov (.tmp 1)), false, none⟩,
  ⟨some 26, (.bin .gtr .none (.tmp 25) (.const (.int .i64 0))), true, none⟩,
  ⟨some 27, (.mov (.tmp 26)), true, none⟩,
  ⟨some 28, (.mov (.tmp 0)), false, some (27, true)⟩,
  ⟨some 29, (.mov (.tmp 1)), false, some (27, true)⟩,
  ⟨some 30, (.bin .sub .none (.tmp 29) (.const (.int .i64 1))), false, some (27, true)⟩,
  ⟨some 31, (.indexSl 5 (.tmp 28) (.tmp 30)), false, some (27, true)⟩,
  ⟨some 32, (.fieldAddr 0 (.tmp 31)), false, some (27, true)⟩,
  ⟨some 33, (.load 1 false (.tmp 32)), false, some (27, true)⟩,
  ⟨some 34, (.fieldAddr 0 (.tmp 11)), false, some (27, true)⟩,
  ⟨some 35, (.load 1 false (.tmp 34)), false, some (27, true)⟩,
  ⟨some 36, (.bin .eql .none (.tmp 33) (.tmp 35)), true, some (27, true)⟩,
  ⟨some 37, (.pick (.tmp 27) (.tmp 36) (.const (.bool false))), true, none⟩]
def c67_13 : ACode := (.seq (.mixed o67_12 [true, true, true, true, true, true, true, true, true, true, true, true, true] [0, 1, 3, 4, 11, 37]) (.cond (.tmp 37) c67_11 .skip))
def w67_13 (P : Program) (Q : Exit → Slots → Mem → Prop) (M : Mem) (v0 : V) (v1 : V) (v3 : V) (v4 : V) (v11 : V) : Prop :=
  @OptBH (binV .gtr .none v1 (.int .i64 0)) ⟨fun b26_2 =>
  @BIfH b26_2
  ⟨@OptVH (binV .sub .none v1 (.int .i64 1)) ⟨fun t30_6 =>
  @OptVH (indexSlV 5 v0 t30_6 M) ⟨fun t31_7 =>
  @OptVH (moveV 0 t31_7) ⟨fun t32_8 =>
  @OptVH (loadV 1 false t32_8 M) ⟨fun t33_9 =>
  @OptVH (moveV 0 v11) ⟨fun t34_10 =>
  @OptVH (loadV 1 false t34_10 M) ⟨fun t35_11 =>
  @OptBH (binV .eql .none t33_9 t35_11) ⟨fun b36_12 =>
  @BIfH b36_12
  ⟨wpC P c67_11 Q [(0, v0), (1, v1), (3, v3), (4, v4), (11, v11), (37, (.bool b36_12))] M⟩
  ⟨Q .normal [(0, v0), (1, v1), (3, v3), (4, v4), (11, v11), (37, (.bool b36_12))] M⟩⟩⟩⟩⟩⟩⟩⟩⟩
  ⟨Q .normal [(0, v0), (1, v1), (3, v3), (4, v4), (11, v11), (37, (.bool false))] M⟩⟩
theorem e67_13 (P : Program) (Q : Exit → Slots → Mem → Prop) (s : Slots) (M : Mem) : wpC P c67_13 Q s M = w67_13 P Q M (sget s 0) (sget s 1) (sget s 3) (sget s 4) (sget s 11) := by kernel_rfl
def o67_14 : List AOper := [⟨some 10, (.mov (.const (.int .i64 10))), false, none⟩]
def c67_15 : ACode := (.region o67_14 [10])
def w67_15 (_P : Program) (Q : Exit → Slots → Mem → Prop) (M : Mem) : Prop :=
  Q .normal [(10, (.int .i64 10))] M
theorem e67_15 (P : Program) (Q : Exit → Slots → Mem → Prop) (s : Slots) (M : Mem) : wpC P c67_15 Q s M = w67_15 P Q M := by kernel_rfl
def c67_16 : ACode := (.seq c67_15 .ret)
def o67_17 : List AOper := [⟨some 38, (.fieldAddr 1 (.tmp 11)), false, none⟩,
  ⟨some 39, (.load 1 false (.tmp 38)), false, none⟩,
  ⟨some 40, (.mov (.tmp 3)), false, none⟩,
  ⟨some 41, (.bin .lss .none (.tmp 39) (.tmp 40)), true, none⟩,
  ⟨some 42, (.mov (.tmp 41)), true, none⟩,
  ⟨some 43, (.fieldAddr 1 (.tmp 11)), false, some (42, false)⟩,
  ⟨some 44, (.load 1 false (.tmp 43)), false, some (42, false)⟩,
  ⟨some 45, (.fieldAddr 2 (.tmp 11)), false, some (42, false)⟩,
  ⟨some 46, (.load 1 false (.tmp 45)), false, some (42, false)⟩,
  ⟨some 47, (.bin .gtr .none (.tmp 44) (.tmp 46)), true, some (42, false)⟩,
  ⟨some 48, (.pick (.tmp 42) (.const (.bool true)) (.tmp 47)), true, none⟩,
  ⟨some 49, (.mov (.tmp 48)), true, none⟩,
  ⟨some 50, (.fieldAddr 2 (.tmp 11)), false, some (49, false)⟩,
  ⟨some 51, (.load 1 false (.tmp 50)), false, some (49, false)⟩,
  ⟨some 52, (.mov (.tmp 4)), false, some (49, false)⟩,
  ⟨some 53, (.bin .gtr .none (.tmp 51) (.tmp 52)), true, some (49, false)⟩,
  ⟨some 54, (.pick (.tmp 49) (.const (.bool true)) (.tmp 53)), true, none⟩,
  ⟨some 55, (.mov (.tmp 54)), true, none⟩,
  ⟨some 56, (.mov (.tmp 1)), false, some (55, false)⟩,
  ⟨some 57, (.bin .gtr .none (.tmp 56) (.const (.int .i64 0))), true, some (55, false)⟩,
  ⟨some 58, (.mov (.tmp 57)), true, some (55, false)⟩,
  ⟨some 59, (.fieldAddr 1 (.tmp 11)), false, some (58, true)⟩,
  ⟨some 60, (.load 1 false (.tmp 59)), false, some (58, true)⟩,
  ⟨some 61, (.mov (.tmp 0)), false, some (58, true)⟩,
  ⟨some 62, (.mov (.tmp 1)), false, some (58, true)⟩,
  ⟨some 63, (.bin .sub .none (.tmp 62) (.const (.int .i64 1))), false, some (58, true)⟩,
  ⟨some 64, (.indexSl 5 (.tmp 61) (.tmp 63)), false, some (58, true)⟩,
  ⟨some 65, (.fieldAddr 2 (.tmp 64)), false, some (58, true)⟩,
  ⟨some 66, (.load 1 false (.tmp 65)), false, some (58, true)⟩,
  ⟨some 67, (.bin .lss .none (.tmp 60) (.tmp 66)), true, some (58, true)⟩,
  ⟨some 68, (.pick (.tmp 58) (.tmp 67) (.const (.bool false))), true, some (55, false)⟩,
  ⟨some 69, (.pick (.tmp 55) (.const (.bool true)) (.tmp 68)), true, none⟩]
def c67_18 : ACode := (.seq (.mixed o67_17 [true, true, true, true, true, true, true, true, true, true, true, true, true, true, true, true, true, true, true, true, true, true, true, true, true, true, true, true, true, true, true, true] [69]) (.cond (.tmp 69) c67_16 .skip))
def w67_18 (P : Program) (Q : Exit → Slots → Mem → Prop) (M : Mem) (v0 : V) (v1 : V) (v3 : V) (v4 : V) (v11 : V) : Prop :=
  @OptVH (moveV 1 v11) ⟨fun t38_1 =>
  @OptVH (loadV 1 false t38_1 M) ⟨fun t39_2 =>
  @OptBH (binV .lss .none t39_2 v3) ⟨fun b41_4 =>
  @BIfH b41_4
  ⟨wpC P c67_16 Q [(69, (.bool true))] M⟩
  ⟨@OptVH (moveV 1 v11) ⟨fun t43_11 =>
  @OptVH (loadV 1 false t43_11 M) ⟨fun t44_12 =>
  @OptVH (moveV 2 v11) ⟨fun t45_13 =>
  @OptVH (loadV 1 false t45_13 M) ⟨fun t46_14 =>
  @OptBH (binV .gtr .none t44_12 t46_14) ⟨fun b47_15 =>
  @BIfH b47_15
  ⟨wpC P c67_16 Q [(69, (.bool true))] M⟩
  ⟨@OptVH (moveV 2 v11) ⟨fun t50_21 =>
  @OptVH (loadV 1 false t50_21 M) ⟨fun t51_22 =>
  @OptBH (binV .gtr .none t51_22 v4) ⟨fun b53_24 =>
  @BIfH b53_24
  ⟨wpC P c67_16 Q [(69, (.bool true))] M⟩
  ⟨@OptBH (binV .gtr .none v1 (.int .i64 0)) ⟨fun b57_29 =>
  @BIfH b57_29
  ⟨@OptVH (moveV 1 v11) ⟨fun t59_31 =>
  @OptVH (loadV 1 false t59_31 M) ⟨fun t60_32 =>
  @OptVH (binV .sub .none v1 (.int .i64 1)) ⟨fun t63_35 =>
  @OptVH (indexSlV 5 v0 t63_35 M) ⟨fun t64_36 =>
  @OptVH (moveV 2 t64_36) ⟨fun t65_37 =>
  @OptVH (loadV 1 false t65_37 M) ⟨fun t66_38 =>
  @OptBH (binV .lss .none t60_32 t66_38) ⟨fun b67_39 =>
  @BIfH b67_39
  ⟨wpC P c67_16 Q [(69, (.bool b67_39))] M⟩
  ⟨Q .normal [(69, (.bool b67_39))] M⟩⟩⟩⟩⟩⟩⟩⟩⟩
  ⟨Q .normal [(69, (.bool false))] M⟩⟩⟩⟩⟩⟩⟩⟩⟩⟩⟩⟩⟩⟩⟩⟩
theorem e67_18 (P : Program) (Q : Exit → Slots → Mem → Prop) (s : Slots) (M : Mem) : wpC P c67_18 Q s M = w67_18 P Q M (sget s 0) (sget s 1) (sget s 3) (sget s 4) (sget s 11) := by kernel_rfl
def o67_19 : List AOper := [⟨some 10, (.mov (.const (.int .i64 0))), false, none⟩]
def c67_20 : ACode := (.region o67_19 [10])
def w67_20 (_P : Program) (Q : Exit → Slots → Mem → Prop) (M : Mem) : Prop :=
  Q .normal [(10, (.int .i64 0))] M
theorem e67_20 (P : Program) (Q : Exit → Slots → Mem → Prop) (s : Slots) (M : Mem) : wpC P c67_20 Q s M = w67_20 P Q M := by kernel_rfl
def c67_21 : ACode := (.seq c67_20 .ret)
def c67_22 : ACode := (.seq c67_18 c67_21)
def c67_23 : ACode := (.seq c67_13 c67_22)
def c67_24 : ACode := (.seq c67_8 c67_23)
def c67_25 : ACode := (.seq c67_3 c67_24)
def c67_26 : ACode := (.seq c67_1 c67_25)
def fn_call_one : AFn := ⟨70, [(.tmp 10)], c67_26⟩
theorem fn_call_one_ok : resFn PR h_call_one i_call_one = some fn_call_one := by kernel_rfl

def tabL : List (Nat × AFn × Bool) := [(4, fn_transitlaw32_InboxCommutes, false), (10, fn_inbox_New, true), (12, fn_transitlaw32_exampleHolds, false), (13, fn_transitlaw32_played, true), (14, fn_transitlaw32_shorts, false), (15, fn_transitlaw32_small, false), (16, fn_inbox_Inbox_Receive, true), (17, fn_transitref32_Same, false), (18, fn_inbox_Inbox_Active, false), (19, fn_inbox_Inbox_Messages, false), (20, fn_inbox_Inbox_Failed, false), (22, fn_transitref31_SameTarget, false), (25, fn_inbox_Inbox_Heartbeat, false), (31, fn_transitlaw32_message, false), (32, fn_inbox_Inbox_refusal, false), (33, fn_inbox_filtered, true), (34, fn_inbox_Inbox_Receive_1, false), (35, fn_message_Supersedes, false), (36, fn_inbox_owned, false), (37, fn_inbox_heard_hear, false), (38, fn_transitref31_Equal, false), (39, fn_inbox_Inbox_Active_1, false), (40, fn_message_SameTarget, false), (41, fn_inbox_inserted_api_Message, false), (42, fn_inbox_before, false), (43, fn_inbox_Inbox_Messages_1, false), (44, fn_inbox_Inbox_exists, false), (45, fn_inbox_heard_silent, false), (53, fn_message_Check, false), (54, fn_message_status, false), (55, fn_transitref16_Equal, false), (60, fn_message_within, false), (61, fn_ident_Valid, false), (62, fn_date_Valid, false), (63, fn_message_checkKind, false), (64, fn_message_used, false), (66, fn_call_Check, false), (67, fn_call_one, false)]
theorem tab_ok : TabOK PR (tabOf tabL) := tabOf_cons fn_transitlaw32_InboxCommutes_ok (tabOf_cons fn_inbox_New_ok (tabOf_cons fn_transitlaw32_exampleHolds_ok (tabOf_cons fn_transitlaw32_played_ok (tabOf_cons fn_transitlaw32_shorts_ok (tabOf_cons fn_transitlaw32_small_ok (tabOf_cons fn_inbox_Inbox_Receive_ok (tabOf_cons fn_transitref32_Same_ok (tabOf_cons fn_inbox_Inbox_Active_ok (tabOf_cons fn_inbox_Inbox_Messages_ok (tabOf_cons fn_inbox_Inbox_Failed_ok (tabOf_cons fn_transitref31_SameTarget_ok (tabOf_cons fn_inbox_Inbox_Heartbeat_ok (tabOf_cons fn_transitlaw32_message_ok (tabOf_cons fn_inbox_Inbox_refusal_ok (tabOf_cons fn_inbox_filtered_ok (tabOf_cons fn_inbox_Inbox_Receive_1_ok (tabOf_cons fn_message_Supersedes_ok (tabOf_cons fn_inbox_owned_ok (tabOf_cons fn_inbox_heard_hear_ok (tabOf_cons fn_transitref31_Equal_ok (tabOf_cons fn_inbox_Inbox_Active_1_ok (tabOf_cons fn_message_SameTarget_ok (tabOf_cons fn_inbox_inserted_api_Message_ok (tabOf_cons fn_inbox_before_ok (tabOf_cons fn_inbox_Inbox_Messages_1_ok (tabOf_cons fn_inbox_Inbox_exists_ok (tabOf_cons fn_inbox_heard_silent_ok (tabOf_cons fn_message_Check_ok (tabOf_cons fn_message_status_ok (tabOf_cons fn_transitref16_Equal_ok (tabOf_cons fn_message_within_ok (tabOf_cons fn_ident_Valid_ok (tabOf_cons fn_date_Valid_ok (tabOf_cons fn_message_checkKind_ok (tabOf_cons fn_message_used_ok (tabOf_cons fn_call_Check_ok (tabOf_cons fn_call_one_ok (tabOf_nil))))))))))))))))))))))))))))))))))))))

end Go.Vm.C
