/- The abstract code of the functions that the statements reach, printed by a program, each with the equation that it is what the loaded program says. Part 1. -/
import Derived.Test.YtcgejpmgaaghkaaC0
namespace Go.Vm.C
open Go.Vm
def h_transitref15_Name : Hints := ⟨[(0, [0]), (1, [0, 12]), (2, [2]), (3, [0, 3]), (4, [0, 3, 16]), (5, [0, 3]), (6, [0, 3, 4]), (7, [0, 3, 56]), (8, [2]), (9, [2])], [(4, [0, 3])], []⟩
def o26_0 : List AOper := [⟨some 2, (.mov (.const (.bool false))), true, none⟩]
def c26_1 : ACode := (.region o26_0 [0])
def w26_1 (_P : Program) (Q : Exit → Slots → Mem → Prop) (M : Mem) (v0 : V) : Prop :=
  Q .normal [(0, v0)] M
theorem e26_1 (P : Program) (Q : Exit → Slots → Mem → Prop) (s : Slots) (M : Mem) : wpC P c26_1 Q s M = w26_1 P Q M (sget s 0) := by kernel_rfl
def o26_2 : List AOper := [⟨some 2, (.mov (.const (.bool false))), true, none⟩]
def c26_3 : ACode := (.region o26_2 [2])
def w26_3 (_P : Program) (Q : Exit → Slots → Mem → Prop) (M : Mem) : Prop :=
  Q .normal [(2, (.bool false))] M
theorem e26_3 (P : Program) (Q : Exit → Slots → Mem → Prop) (s : Slots) (M : Mem) : wpC P c26_3 Q s M = w26_3 P Q M := by kernel_rfl
def c26_4 : ACode := (.seq c26_3 .ret)
def o26_5 : List AOper := [⟨some 5, (.mov (.tmp 0)), false, none⟩,
  ⟨some 6, (.lenStr (.tmp 5)), false, none⟩,
  ⟨some 7, (.bin .lss .none (.tmp 6) (.const (.int .i64 1))), true, none⟩,
  ⟨some 8, (.mov (.tmp 7)), true, none⟩,
  ⟨some 9, (.mov (.tmp 0)), false, some (8, false)⟩,
  ⟨some 10, (.lenStr (.tmp 9)), false, some (8, false)⟩,
  ⟨some 11, (.bin .gtr .none (.tmp 10) (.const (.int .i64 32))), true, some (8, false)⟩,
  ⟨some 12, (.pick (.tmp 8) (.const (.bool true)) (.tmp 11)), true, none⟩]
def c26_6 : ACode := (.seq (.region o26_5 [0, 12]) (.cond (.tmp 12) c26_4 .skip))
def w26_6 (P : Program) (Q : Exit → Slots → Mem → Prop) (M : Mem) (v0 : V) : Prop :=
  @OptVH (lenStrV v0) ⟨fun t6_2 =>
  @OptBH (binV .lss .none t6_2 (.int .i64 1)) ⟨fun b7_3 =>
  @BIfH b7_3
  ⟨wpC P c26_4 Q [(0, v0), (12, (.bool true))] M⟩
  ⟨@OptVH (lenStrV v0) ⟨fun t10_7 =>
  @OptBH (binV .gtr .none t10_7 (.int .i64 32)) ⟨fun b11_8 =>
  @BIfH b11_8
  ⟨wpC P c26_4 Q [(0, v0), (12, (.bool b11_8))] M⟩
  ⟨Q .normal [(0, v0), (12, (.bool b11_8))] M⟩⟩⟩⟩⟩⟩
theorem e26_6 (P : Program) (Q : Exit → Slots → Mem → Prop) (s : Slots) (M : Mem) : wpC P c26_6 Q s M = w26_6 P Q M (sget s 0) := by kernel_rfl
def o26_7 : List AOper := [⟨some 3, (.mov (.const (.int .i64 0))), false, none⟩]
def c26_8 : ACode := (.region o26_7 [0, 3])
def w26_8 (_P : Program) (Q : Exit → Slots → Mem → Prop) (M : Mem) (v0 : V) : Prop :=
  Q .normal [(0, v0), (3, (.int .i64 0))] M
theorem e26_8 (P : Program) (Q : Exit → Slots → Mem → Prop) (s : Slots) (M : Mem) : wpC P c26_8 Q s M = w26_8 P Q M (sget s 0) := by kernel_rfl
def o26_9 : List AOper := [⟨some 13, (.mov (.tmp 3)), false, none⟩,
  ⟨some 14, (.mov (.tmp 0)), false, none⟩,
  ⟨some 15, (.lenStr (.tmp 14)), false, none⟩,
  ⟨some 16, (.bin .lss .none (.tmp 13) (.tmp 15)), true, none⟩]
def c26_10 : ACode := (.seq (.region o26_9 [0, 3, 16]) (.cond (.tmp 16) .skip (.exit 0)))
def w26_10 (_P : Program) (Q : Exit → Slots → Mem → Prop) (M : Mem) (v0 : V) (v3 : V) : Prop :=
  @OptVH (lenStrV v0) ⟨fun t15_3 =>
  @OptBH (binV .lss .none v3 t15_3) ⟨fun b16_4 =>
  @BIfH b16_4
  ⟨Q .normal [(0, v0), (3, v3), (16, (.bool b16_4))] M⟩
  ⟨Q (.exit 0) [(0, v0), (3, v3), (16, (.bool b16_4))] M⟩⟩⟩
theorem e26_10 (P : Program) (Q : Exit → Slots → Mem → Prop) (s : Slots) (M : Mem) : wpC P c26_10 Q s M = w26_10 P Q M (sget s 0) (sget s 3) := by kernel_rfl
def o26_11 : List AOper := [⟨some 19, (.mov (.tmp 0)), false, none⟩,
  ⟨some 20, (.mov (.tmp 3)), false, none⟩,
  ⟨some 21, (.indexStr (.tmp 19) (.tmp 20)), false, none⟩,
  ⟨some 4, (.mov (.tmp 21)), false, none⟩]
def c26_12 : ACode := (.region o26_11 [0, 3, 4])
def w26_12 (_P : Program) (Q : Exit → Slots → Mem → Prop) (M : Mem) (v0 : V) (v3 : V) : Prop :=
  @OptVH (indexStrV v0 v3) ⟨fun t21_3 =>
  Q .normal [(0, v0), (3, v3), (4, t21_3)] M⟩
theorem e26_12 (P : Program) (Q : Exit → Slots → Mem → Prop) (s : Slots) (M : Mem) : wpC P c26_12 Q s M = w26_12 P Q M (sget s 0) (sget s 3) := by kernel_rfl
def o26_13 : List AOper := [⟨some 2, (.mov (.const (.bool false))), true, none⟩]
def c26_14 : ACode := (.region o26_13 [2])
def w26_14 (_P : Program) (Q : Exit → Slots → Mem → Prop) (M : Mem) : Prop :=
  Q .normal [(2, (.bool false))] M
theorem e26_14 (P : Program) (Q : Exit → Slots → Mem → Prop) (s : Slots) (M : Mem) : wpC P c26_14 Q s M = w26_14 P Q M := by kernel_rfl
def c26_15 : ACode := (.seq c26_14 .ret)
def o26_16 : List AOper := [⟨some 22, (.mov (.tmp 4)), false, none⟩,
  ⟨some 23, (.bin .geq .none (.tmp 22) (.const (.int .u8 97))), true, none⟩,
  ⟨some 24, (.mov (.tmp 23)), true, none⟩,
  ⟨some 25, (.mov (.tmp 4)), false, some (24, true)⟩,
  ⟨some 26, (.bin .leq .none (.tmp 25) (.const (.int .u8 122))), true, some (24, true)⟩,
  ⟨some 27, (.pick (.tmp 24) (.tmp 26) (.const (.bool false))), true, none⟩,
  ⟨some 28, (.mov (.tmp 27)), true, none⟩,
  ⟨some 29, (.mov (.tmp 4)), false, some (28, false)⟩,
  ⟨some 30, (.bin .geq .none (.tmp 29) (.const (.int .u8 65))), true, some (28, false)⟩,
  ⟨some 31, (.mov (.tmp 30)), true, some (28, false)⟩,
  ⟨some 32, (.mov (.tmp 4)), false, some (31, true)⟩,
  ⟨some 33, (.bin .leq .none (.tmp 32) (.const (.int .u8 90))), true, some (31, true)⟩,
  ⟨some 34, (.pick (.tmp 31) (.tmp 33) (.const (.bool false))), true, some (28, false)⟩,
  ⟨some 35, (.pick (.tmp 28) (.const (.bool true)) (.tmp 34)), true, none⟩,
  ⟨some 36, (.mov (.tmp 35)), true, none⟩,
  ⟨some 37, (.mov (.tmp 4)), false, some (36, false)⟩,
  ⟨some 38, (.bin .geq .none (.tmp 37) (.const (.int .u8 48))), true, some (36, false)⟩,
  ⟨some 39, (.mov (.tmp 38)), true, some (36, false)⟩,
  ⟨some 40, (.mov (.tmp 4)), false, some (39, true)⟩,
  ⟨some 41, (.bin .leq .none (.tmp 40) (.const (.int .u8 57))), true, some (39, true)⟩,
  ⟨some 42, (.pick (.tmp 39) (.tmp 41) (.const (.bool false))), true, some (36, false)⟩,
  ⟨some 43, (.pick (.tmp 36) (.const (.bool true)) (.tmp 42)), true, none⟩,
  ⟨some 44, (.mov (.tmp 43)), true, none⟩,
  ⟨some 45, (.mov (.tmp 4)), false, some (44, false)⟩,
  ⟨some 46, (.bin .eql .none (.tmp 45) (.const (.int .u8 45))), true, some (44, false)⟩,
  ⟨some 47, (.pick (.tmp 44) (.const (.bool true)) (.tmp 46)), true, none⟩,
  ⟨some 48, (.mov (.tmp 47)), true, none⟩,
  ⟨some 49, (.mov (.tmp 4)), false, some (48, false)⟩,
  ⟨some 50, (.bin .eql .none (.tmp 49) (.const (.int .u8 95))), true, some (48, false)⟩,
  ⟨some 51, (.pick (.tmp 48) (.const (.bool true)) (.tmp 50)), true, none⟩,
  ⟨some 52, (.mov (.tmp 51)), true, none⟩,
  ⟨some 53, (.mov (.tmp 4)), false, some (52, false)⟩,
  ⟨some 54, (.bin .eql .none (.tmp 53) (.const (.int .u8 46))), true, some (52, false)⟩,
  ⟨some 55, (.pick (.tmp 52) (.const (.bool true)) (.tmp 54)), true, none⟩,
  ⟨some 56, (.un .not (.tmp 55)), true, none⟩]
def c26_17 : ACode := (.seq (.region o26_16 [0, 3, 56]) (.cond (.tmp 56) c26_15 .skip))
def w26_17 (P : Program) (Q : Exit → Slots → Mem → Prop) (M : Mem) (v0 : V) (v3 : V) (v4 : V) : Prop :=
  @OptBH (binV .geq .none v4 (.int .u8 97)) ⟨fun b23_2 =>
  @BIfH b23_2
  ⟨@OptBH (binV .leq .none v4 (.int .u8 122)) ⟨fun b26_5 =>
  @BIfH b26_5
  ⟨@OptBH (unV .not (.bool true)) ⟨fun b56_17 =>
  @BIfH b56_17
  ⟨wpC P c26_15 Q [(0, v0), (3, v3), (56, (.bool b56_17))] M⟩
  ⟨Q .normal [(0, v0), (3, v3), (56, (.bool b56_17))] M⟩⟩⟩
  ⟨@OptBH (binV .geq .none v4 (.int .u8 65)) ⟨fun b30_19 =>
  @BIfH b30_19
  ⟨@OptBH (binV .leq .none v4 (.int .u8 90)) ⟨fun b33_22 =>
  @BIfH b33_22
  ⟨@OptBH (unV .not (.bool true)) ⟨fun b56_33 =>
  @BIfH b56_33
  ⟨wpC P c26_15 Q [(0, v0), (3, v3), (56, (.bool b56_33))] M⟩
  ⟨Q .normal [(0, v0), (3, v3), (56, (.bool b56_33))] M⟩⟩⟩
  ⟨@OptBH (binV .geq .none v4 (.int .u8 48)) ⟨fun b38_35 =>
  @BIfH b38_35
  ⟨@OptBH (binV .leq .none v4 (.int .u8 57)) ⟨fun b41_38 =>
  @BIfH b41_38
  ⟨@OptBH (unV .not (.bool true)) ⟨fun b56_47 =>
  @BIfH b56_47
  ⟨wpC P c26_15 Q [(0, v0), (3, v3), (56, (.bool b56_47))] M⟩
  ⟨Q .normal [(0, v0), (3, v3), (56, (.bool b56_47))] M⟩⟩⟩
  ⟨@OptBH (binV .eql .none v4 (.int .u8 45)) ⟨fun b46_49 =>
  @BIfH b46_49
  ⟨@OptBH (unV .not (.bool true)) ⟨fun b56_55 =>
  @BIfH b56_55
  ⟨wpC P c26_15 Q [(0, v0), (3, v3), (56, (.bool b56_55))] M⟩
  ⟨Q .normal [(0, v0), (3, v3), (56, (.bool b56_55))] M⟩⟩⟩
  ⟨@OptBH (binV .eql .none v4 (.int .u8 95)) ⟨fun b50_57 =>
  @BIfH b50_57
  ⟨@OptBH (unV .not (.bool true)) ⟨fun b56_61 =>
  @BIfH b56_61
  ⟨wpC P c26_15 Q [(0, v0), (3, v3), (56, (.bool b56_61))] M⟩
  ⟨Q .normal [(0, v0), (3, v3), (56, (.bool b56_61))] M⟩⟩⟩
  ⟨@OptBH (binV .eql .none v4 (.int .u8 46)) ⟨fun b54_63 =>
  @OptBH (unV .not (.bool b54_63)) ⟨fun b56_65 =>
  @BIfH b56_65
  ⟨wpC P c26_15 Q [(0, v0), (3, v3), (56, (.bool b56_65))] M⟩
  ⟨Q .normal [(0, v0), (3, v3), (56, (.bool b56_65))] M⟩⟩⟩⟩⟩⟩⟩⟩⟩⟩
  ⟨@OptBH (binV .eql .none v4 (.int .u8 45)) ⟨fun b46_70 =>
  @BIfH b46_70
  ⟨@OptBH (unV .not (.bool true)) ⟨fun b56_76 =>
  @BIfH b56_76
  ⟨wpC P c26_15 Q [(0, v0), (3, v3), (56, (.bool b56_76))] M⟩
  ⟨Q .normal [(0, v0), (3, v3), (56, (.bool b56_76))] M⟩⟩⟩
  ⟨@OptBH (binV .eql .none v4 (.int .u8 95)) ⟨fun b50_78 =>
  @BIfH b50_78
  ⟨@OptBH (unV .not (.bool true)) ⟨fun b56_82 =>
  @BIfH b56_82
  ⟨wpC P c26_15 Q [(0, v0), (3, v3), (56, (.bool b56_82))] M⟩
  ⟨Q .normal [(0, v0), (3, v3), (56, (.bool b56_82))] M⟩⟩⟩
  ⟨@OptBH (binV .eql .none v4 (.int .u8 46)) ⟨fun b54_84 =>
  @OptBH (unV .not (.bool b54_84)) ⟨fun b56_86 =>
  @BIfH b56_86
  ⟨wpC P c26_15 Q [(0, v0), (3, v3), (56, (.bool b56_86))] M⟩
  ⟨Q .normal [(0, v0), (3, v3), (56, (.bool b56_86))] M⟩⟩⟩⟩⟩⟩⟩⟩⟩⟩⟩⟩
  ⟨@OptBH (binV .geq .none v4 (.int .u8 48)) ⟨fun b38_91 =>
  @BIfH b38_91
  ⟨@OptBH (binV .leq .none v4 (.int .u8 57)) ⟨fun b41_94 =>
  @BIfH b41_94
  ⟨@OptBH (unV .not (.bool true)) ⟨fun b56_103 =>
  @BIfH b56_103
  ⟨wpC P c26_15 Q [(0, v0), (3, v3), (56, (.bool b56_103))] M⟩
  ⟨Q .normal [(0, v0), (3, v3), (56, (.bool b56_103))] M⟩⟩⟩
  ⟨@OptBH (binV .eql .none v4 (.int .u8 45)) ⟨fun b46_105 =>
  @BIfH b46_105
  ⟨@OptBH (unV .not (.bool true)) ⟨fun b56_111 =>
  @BIfH b56_111
  ⟨wpC P c26_15 Q [(0, v0), (3, v3), (56, (.bool b56_111))] M⟩
  ⟨Q .normal [(0, v0), (3, v3), (56, (.bool b56_111))] M⟩⟩⟩
  ⟨@OptBH (binV .eql .none v4 (.int .u8 95)) ⟨fun b50_113 =>
  @BIfH b50_113
  ⟨@OptBH (unV .not (.bool true)) ⟨fun b56_117 =>
  @BIfH b56_117
  ⟨wpC P c26_15 Q [(0, v0), (3, v3), (56, (.bool b56_117))] M⟩
  ⟨Q .normal [(0, v0), (3, v3), (56, (.bool b56_117))] M⟩⟩⟩
  ⟨@OptBH (binV .eql .none v4 (.int .u8 46)) ⟨fun b54_119 =>
  @OptBH (unV .not (.bool b54_119)) ⟨fun b56_121 =>
  @BIfH b56_121
  ⟨wpC P c26_15 Q [(0, v0), (3, v3), (56, (.bool b56_121))] M⟩
  ⟨Q .normal [(0, v0), (3, v3), (56, (.bool b56_121))] M⟩⟩⟩⟩⟩⟩⟩⟩⟩⟩
  ⟨@OptBH (binV .eql .none v4 (.int .u8 45)) ⟨fun b46_126 =>
  @BIfH b46_126
  ⟨@OptBH (unV .not (.bool true)) ⟨fun b56_132 =>
  @BIfH b56_132
  ⟨wpC P c26_15 Q [(0, v0), (3, v3), (56, (.bool b56_132))] M⟩
  ⟨Q .normal [(0, v0), (3, v3), (56, (.bool b56_132))] M⟩⟩⟩
  ⟨@OptBH (binV .eql .none v4 (.int .u8 95)) ⟨fun b50_134 =>
  @BIfH b50_134
  ⟨@OptBH (unV .not (.bool true)) ⟨fun b56_138 =>
  @BIfH b56_138
  ⟨wpC P c26_15 Q [(0, v0), (3, v3), (56, (.bool b56_138))] M⟩
  ⟨Q .normal [(0, v0), (3, v3), (56, (.bool b56_138))] M⟩⟩⟩
  ⟨@OptBH (binV .eql .none v4 (.int .u8 46)) ⟨fun b54_140 =>
  @OptBH (unV .not (.bool b54_140)) ⟨fun b56_142 =>
  @BIfH b56_142
  ⟨wpC P c26_15 Q [(0, v0), (3, v3), (56, (.bool b56_142))] M⟩
  ⟨Q .normal [(0, v0), (3, v3), (56, (.bool b56_142))] M⟩⟩⟩⟩⟩⟩⟩⟩⟩⟩⟩⟩⟩⟩
  ⟨@OptBH (binV .geq .none v4 (.int .u8 65)) ⟨fun b30_146 =>
  @BIfH b30_146
  ⟨@OptBH (binV .leq .none v4 (.int .u8 90)) ⟨fun b33_149 =>
  @BIfH b33_149
  ⟨@OptBH (unV .not (.bool true)) ⟨fun b56_160 =>
  @BIfH b56_160
  ⟨wpC P c26_15 Q [(0, v0), (3, v3), (56, (.bool b56_160))] M⟩
  ⟨Q .normal [(0, v0), (3, v3), (56, (.bool b56_160))] M⟩⟩⟩
  ⟨@OptBH (binV .geq .none v4 (.int .u8 48)) ⟨fun b38_162 =>
  @BIfH b38_162
  ⟨@OptBH (binV .leq .none v4 (.int .u8 57)) ⟨fun b41_165 =>
  @BIfH b41_165
  ⟨@OptBH (unV .not (.bool true)) ⟨fun b56_174 =>
  @BIfH b56_174
  ⟨wpC P c26_15 Q [(0, v0), (3, v3), (56, (.bool b56_174))] M⟩
  ⟨Q .normal [(0, v0), (3, v3), (56, (.bool b56_174))] M⟩⟩⟩
  ⟨@OptBH (binV .eql .none v4 (.int .u8 45)) ⟨fun b46_176 =>
  @BIfH b46_176
  ⟨@OptBH (unV .not (.bool true)) ⟨fun b56_182 =>
  @BIfH b56_182
  ⟨wpC P c26_15 Q [(0, v0), (3, v3), (56, (.bool b56_182))] M⟩
  ⟨Q .normal [(0, v0), (3, v3), (56, (.bool b56_182))] M⟩⟩⟩
  ⟨@OptBH (binV .eql .none v4 (.int .u8 95)) ⟨fun b50_184 =>
  @BIfH b50_184
  ⟨@OptBH (unV .not (.bool true)) ⟨fun b56_188 =>
  @BIfH b56_188
  ⟨wpC P c26_15 Q [(0, v0), (3, v3), (56, (.bool b56_188))] M⟩
  ⟨Q .normal [(0, v0), (3, v3), (56, (.bool b56_188))] M⟩⟩⟩
  ⟨@OptBH (binV .eql .none v4 (.int .u8 46)) ⟨fun b54_190 =>
  @OptBH (unV .not (.bool b54_190)) ⟨fun b56_192 =>
  @BIfH b56_192
  ⟨wpC P c26_15 Q [(0, v0), (3, v3), (56, (.bool b56_192))] M⟩
  ⟨Q .normal [(0, v0), (3, v3), (56, (.bool b56_192))] M⟩⟩⟩⟩⟩⟩⟩⟩⟩⟩
  ⟨@OptBH (binV .eql .none v4 (.int .u8 45)) ⟨fun b46_197 =>
  @BIfH b46_197
  ⟨@OptBH (unV .not (.bool true)) ⟨fun b56_203 =>
  @BIfH b56_203
  ⟨wpC P c26_15 Q [(0, v0), (3, v3), (56, (.bool b56_203))] M⟩
  ⟨Q .normal [(0, v0), (3, v3), (56, (.bool b56_203))] M⟩⟩⟩
  ⟨@OptBH (binV .eql .none v4 (.int .u8 95)) ⟨fun b50_205 =>
  @BIfH b50_205
  ⟨@OptBH (unV .not (.bool true)) ⟨fun b56_209 =>
  @BIfH b56_209
  ⟨wpC P c26_15 Q [(0, v0), (3, v3), (56, (.bool b56_209))] M⟩
  ⟨Q .normal [(0, v0), (3, v3), (56, (.bool b56_209))] M⟩⟩⟩
  ⟨@OptBH (binV .eql .none v4 (.int .u8 46)) ⟨fun b54_211 =>
  @OptBH (unV .not (.bool b54_211)) ⟨fun b56_213 =>
  @BIfH b56_213
  ⟨wpC P c26_15 Q [(0, v0), (3, v3), (56, (.bool b56_213))] M⟩
  ⟨Q .normal [(0, v0), (3, v3), (56, (.bool b56_213))] M⟩⟩⟩⟩⟩⟩⟩⟩⟩⟩⟩⟩
  ⟨@OptBH (binV .geq .none v4 (.int .u8 48)) ⟨fun b38_218 =>
  @BIfH b38_218
  ⟨@OptBH (binV .leq .none v4 (.int .u8 57)) ⟨fun b41_221 =>
  @BIfH b41_221
  ⟨@OptBH (unV .not (.bool true)) ⟨fun b56_230 =>
  @BIfH b56_230
  ⟨wpC P c26_15 Q [(0, v0), (3, v3), (56, (.bool b56_230))] M⟩
  ⟨Q .normal [(0, v0), (3, v3), (56, (.bool b56_230))] M⟩⟩⟩
  ⟨@OptBH (binV .eql .none v4 (.int .u8 45)) ⟨fun b46_232 =>
  @BIfH b46_232
  ⟨@OptBH (unV .not (.bool true)) ⟨fun b56_238 =>
  @BIfH b56_238
  ⟨wpC P c26_15 Q [(0, v0), (3, v3), (56, (.bool b56_238))] M⟩
  ⟨Q .normal [(0, v0), (3, v3), (56, (.bool b56_238))] M⟩⟩⟩
  ⟨@OptBH (binV .eql .none v4 (.int .u8 95)) ⟨fun b50_240 =>
  @BIfH b50_240
  ⟨@OptBH (unV .not (.bool true)) ⟨fun b56_244 =>
  @BIfH b56_244
  ⟨wpC P c26_15 Q [(0, v0), (3, v3), (56, (.bool b56_244))] M⟩
  ⟨Q .normal [(0, v0), (3, v3), (56, (.bool b56_244))] M⟩⟩⟩
  ⟨@OptBH (binV .eql .none v4 (.int .u8 46)) ⟨fun b54_246 =>
  @OptBH (unV .not (.bool b54_246)) ⟨fun b56_248 =>
  @BIfH b56_248
  ⟨wpC P c26_15 Q [(0, v0), (3, v3), (56, (.bool b56_248))] M⟩
  ⟨Q .normal [(0, v0), (3, v3), (56, (.bool b56_248))] M⟩⟩⟩⟩⟩⟩⟩⟩⟩⟩
  ⟨@OptBH (binV .eql .none v4 (.int .u8 45)) ⟨fun b46_253 =>
  @BIfH b46_253
  ⟨@OptBH (unV .not (.bool true)) ⟨fun b56_259 =>
  @BIfH b56_259
  ⟨wpC P c26_15 Q [(0, v0), (3, v3), (56, (.bool b56_259))] M⟩
  ⟨Q .normal [(0, v0), (3, v3), (56, (.bool b56_259))] M⟩⟩⟩
  ⟨@OptBH (binV .eql .none v4 (.int .u8 95)) ⟨fun b50_261 =>
  @BIfH b50_261
  ⟨@OptBH (unV .not (.bool true)) ⟨fun b56_265 =>
  @BIfH b56_265
  ⟨wpC P c26_15 Q [(0, v0), (3, v3), (56, (.bool b56_265))] M⟩
  ⟨Q .normal [(0, v0), (3, v3), (56, (.bool b56_265))] M⟩⟩⟩
  ⟨@OptBH (binV .eql .none v4 (.int .u8 46)) ⟨fun b54_267 =>
  @OptBH (unV .not (.bool b54_267)) ⟨fun b56_269 =>
  @BIfH b56_269
  ⟨wpC P c26_15 Q [(0, v0), (3, v3), (56, (.bool b56_269))] M⟩
  ⟨Q .normal [(0, v0), (3, v3), (56, (.bool b56_269))] M⟩⟩⟩⟩⟩⟩⟩⟩⟩⟩⟩⟩⟩
theorem e26_17 (P : Program) (Q : Exit → Slots → Mem → Prop) (s : Slots) (M : Mem) : wpC P c26_17 Q s M = w26_17 P Q M (sget s 0) (sget s 3) (sget s 4) := by kernel_rfl
def c26_18 : ACode := (.seq c26_12 c26_17)
def c26_19 : ACode := (.block 1 c26_18)
def o26_20 : List AOper := [⟨some 17, (.mov (.tmp 3)), false, none⟩,
  ⟨some 18, (.bin .add .none (.tmp 17) (.const (.int .i64 1))), false, none⟩,
  ⟨some 3, (.mov (.tmp 18)), false, none⟩]
def c26_21 : ACode := (.region o26_20 [0, 3])
def w26_21 (_P : Program) (Q : Exit → Slots → Mem → Prop) (M : Mem) (v0 : V) (v3 : V) : Prop :=
  @OptVH (binV .add .none v3 (.int .i64 1)) ⟨fun t18_2 =>
  Q .normal [(0, v0), (3, t18_2)] M⟩
theorem e26_21 (P : Program) (Q : Exit → Slots → Mem → Prop) (s : Slots) (M : Mem) : wpC P c26_21 Q s M = w26_21 P Q M (sget s 0) (sget s 3) := by kernel_rfl
def c26_22 : ACode := (.seq c26_19 c26_21)
def c26_23 : ACode := (.seq c26_10 c26_22)
def c26_24 : ACode := (.loop [0, 3] c26_23)
def c26_25 : ACode := (.block 0 c26_24)
def c26_26 : ACode := (.seq c26_8 c26_25)
def o26_27 : List AOper := [⟨some 2, (.mov (.const (.bool true))), true, none⟩]
def c26_28 : ACode := (.region o26_27 [2])
def w26_28 (_P : Program) (Q : Exit → Slots → Mem → Prop) (M : Mem) : Prop :=
  Q .normal [(2, (.bool true))] M
theorem e26_28 (P : Program) (Q : Exit → Slots → Mem → Prop) (s : Slots) (M : Mem) : wpC P c26_28 Q s M = w26_28 P Q M := by kernel_rfl
def c26_29 : ACode := (.seq c26_28 .ret)
def c26_30 : ACode := (.seq c26_26 c26_29)
def c26_31 : ACode := (.seq c26_6 c26_30)
def c26_32 : ACode := (.seq c26_1 c26_31)
def fn_transitref15_Name : AFn := ⟨57, [(.tmp 2)], c26_32⟩
theorem fn_transitref15_Name_ok : resFn PR h_transitref15_Name i_transitref15_Name = some fn_transitref15_Name := by kernel_rfl

def h_product_later : Hints := ⟨[(0, [0, 1, 2]), (1, [0, 1, 2, 9]), (2, [6]), (3, [6])], [], []⟩
def o27_0 : List AOper := [⟨some 6, (.mov (.const (.bool false))), true, none⟩]
def c27_1 : ACode := (.region o27_0 [0, 1, 2])
def w27_1 (_P : Program) (Q : Exit → Slots → Mem → Prop) (M : Mem) (v0 : V) (v1 : V) (v2 : V) : Prop :=
  Q .normal [(0, v0), (1, v1), (2, v2)] M
theorem e27_1 (P : Program) (Q : Exit → Slots → Mem → Prop) (s : Slots) (M : Mem) : wpC P c27_1 Q s M = w27_1 P Q M (sget s 0) (sget s 1) (sget s 2) := by kernel_rfl
def o27_2 : List AOper := [⟨some 10, (.mov (.tmp 2)), false, none⟩,
  ⟨some 11, (.bin .lss .none (.tmp 10) (.const (.int .i64 0))), true, none⟩,
  ⟨some 12, (.mov (.tmp 11)), true, none⟩,
  ⟨some 13, (.mov (.tmp 1)), false, some (12, false)⟩,
  ⟨some 14, (.conv .u64 (.tmp 13)), false, some (12, false)⟩,
  ⟨some 15, (.mov (.tmp 0)), false, some (12, false)⟩,
  ⟨some 16, (.conv .u64 (.tmp 15)), false, some (12, false)⟩,
  ⟨some 17, (.bin .sub .none (.tmp 14) (.tmp 16)), false, some (12, false)⟩,
  ⟨some 18, (.mov (.tmp 2)), false, some (12, false)⟩,
  ⟨some 19, (.conv .u64 (.tmp 18)), false, some (12, false)⟩,
  ⟨some 20, (.bin .gtr .none (.tmp 17) (.tmp 19)), true, some (12, false)⟩,
  ⟨some 21, (.pick (.tmp 12) (.const (.bool true)) (.tmp 20)), true, none⟩,
  ⟨some 6, (.mov (.tmp 21)), true, none⟩]
def c27_3 : ACode := (.region o27_2 [6])
def w27_3 (_P : Program) (Q : Exit → Slots → Mem → Prop) (M : Mem) (v0 : V) (v1 : V) (v2 : V) : Prop :=
  @OptBH (binV .lss .none v2 (.int .i64 0)) ⟨fun b11_2 =>
  @BIfH b11_2
  ⟨Q .normal [(6, (.bool true))] M⟩
  ⟨@OptVH (convV .u64 v1) ⟨fun t14_7 =>
  @OptVH (convV .u64 v0) ⟨fun t16_9 =>
  @OptVH (binV .sub .none t14_7 t16_9) ⟨fun t17_10 =>
  @OptVH (convV .u64 v2) ⟨fun t19_12 =>
  @OptBH (binV .gtr .none t17_10 t19_12) ⟨fun b20_13 =>
  Q .normal [(6, (.bool b20_13))] M⟩⟩⟩⟩⟩⟩⟩
theorem e27_3 (P : Program) (Q : Exit → Slots → Mem → Prop) (s : Slots) (M : Mem) : wpC P c27_3 Q s M = w27_3 P Q M (sget s 0) (sget s 1) (sget s 2) := by kernel_rfl
def c27_4 : ACode := (.seq c27_3 .ret)
def o27_5 : List AOper := [⟨some 7, (.mov (.tmp 1)), false, none⟩,
  ⟨some 8, (.mov (.tmp 0)), false, none⟩,
  ⟨some 9, (.bin .geq .none (.tmp 7) (.tmp 8)), true, none⟩]
def c27_6 : ACode := (.seq (.region o27_5 [0, 1, 2, 9]) (.cond (.tmp 9) c27_4 .skip))
def w27_6 (P : Program) (Q : Exit → Slots → Mem → Prop) (M : Mem) (v0 : V) (v1 : V) (v2 : V) : Prop :=
  @OptBH (binV .geq .none v1 v0) ⟨fun b9_3 =>
  @BIfH b9_3
  ⟨wpC P c27_4 Q [(0, v0), (1, v1), (2, v2), (9, (.bool b9_3))] M⟩
  ⟨Q .normal [(0, v0), (1, v1), (2, v2), (9, (.bool b9_3))] M⟩⟩
theorem e27_6 (P : Program) (Q : Exit → Slots → Mem → Prop) (s : Slots) (M : Mem) : wpC P c27_6 Q s M = w27_6 P Q M (sget s 0) (sget s 1) (sget s 2) := by kernel_rfl
def o27_7 : List AOper := [⟨some 22, (.mov (.tmp 2)), false, none⟩,
  ⟨some 23, (.bin .lss .none (.tmp 22) (.const (.int .i64 0))), true, none⟩,
  ⟨some 24, (.mov (.tmp 23)), true, none⟩,
  ⟨some 25, (.mov (.tmp 0)), false, some (24, true)⟩,
  ⟨some 26, (.conv .u64 (.tmp 25)), false, some (24, true)⟩,
  ⟨some 27, (.mov (.tmp 1)), false, some (24, true)⟩,
  ⟨some 28, (.conv .u64 (.tmp 27)), false, some (24, true)⟩,
  ⟨some 29, (.bin .sub .none (.tmp 26) (.tmp 28)), false, some (24, true)⟩,
  ⟨some 30, (.mov (.tmp 2)), false, some (24, true)⟩,
  ⟨some 31, (.conv .u64 (.tmp 30)), false, some (24, true)⟩,
  ⟨some 32, (.un .neg (.tmp 31)), false, some (24, true)⟩,
  ⟨some 33, (.bin .lss .none (.tmp 29) (.tmp 32)), true, some (24, true)⟩,
  ⟨some 34, (.pick (.tmp 24) (.tmp 33) (.const (.bool false))), true, none⟩,
  ⟨some 6, (.mov (.tmp 34)), true, none⟩]
def c27_8 : ACode := (.region o27_7 [6])
def w27_8 (_P : Program) (Q : Exit → Slots → Mem → Prop) (M : Mem) (v0 : V) (v1 : V) (v2 : V) : Prop :=
  @OptBH (binV .lss .none v2 (.int .i64 0)) ⟨fun b23_2 =>
  @BIfH b23_2
  ⟨@OptVH (convV .u64 v0) ⟨fun t26_5 =>
  @OptVH (convV .u64 v1) ⟨fun t28_7 =>
  @OptVH (binV .sub .none t26_5 t28_7) ⟨fun t29_8 =>
  @OptVH (convV .u64 v2) ⟨fun t31_10 =>
  @OptVH (unV .neg t31_10) ⟨fun t32_11 =>
  @OptBH (binV .lss .none t29_8 t32_11) ⟨fun b33_12 =>
  Q .normal [(6, (.bool b33_12))] M⟩⟩⟩⟩⟩⟩⟩
  ⟨Q .normal [(6, (.bool false))] M⟩⟩
theorem e27_8 (P : Program) (Q : Exit → Slots → Mem → Prop) (s : Slots) (M : Mem) : wpC P c27_8 Q s M = w27_8 P Q M (sget s 0) (sget s 1) (sget s 2) := by kernel_rfl
def c27_9 : ACode := (.seq c27_8 .ret)
def c27_10 : ACode := (.seq c27_6 c27_9)
def c27_11 : ACode := (.seq c27_1 c27_10)
def fn_product_later : AFn := ⟨35, [(.tmp 6)], c27_11⟩
theorem fn_product_later_ok : resFn PR h_product_later i_product_later = some fn_product_later := by kernel_rfl

def h_product_Covers_1 : Hints := ⟨[(0, [1, 2, 3]), (1, [2, 3]), (2, [])], [], []⟩
def o28_0 : List AOper := [⟨some 3, (.box 4 (.tmp 0)), false, none⟩]
def c28_1 : ACode := (.region o28_0 [1, 2, 3])
def w28_1 (_P : Program) (Q : Exit → Slots → Mem → Prop) (M : Mem) (v0 : V) (v1 : V) (v2 : V) : Prop :=
  @OptMH (boxV 4 v0 M) ⟨fun t3_1 M1 =>
  Q .normal [(1, v1), (2, v2), (3, t3_1)] M1⟩
theorem e28_1 (P : Program) (Q : Exit → Slots → Mem → Prop) (s : Slots) (M : Mem) : wpC P c28_1 Q s M = w28_1 P Q M (sget s 0) (sget s 1) (sget s 2) := by kernel_rfl
def o28_2 : List AOper := [⟨some 4, (.load 1 false (.tmp 1)), false, none⟩,
  ⟨some 5, (.fieldAddr 2 (.tmp 3)), false, none⟩,
  ⟨some 6, (.load 1 false (.tmp 5)), false, none⟩,
  ⟨some 7, (.conv .u64 (.tmp 6)), false, none⟩,
  ⟨some 8, (.call i_bitset_Set_Union [(.tmp 4), (.tmp 7)]), false, none⟩,
  ⟨none, (.store 1 (.tmp 1) (.tmp 8)), false, none⟩]
def c28_3 : ACode := (.region o28_2 [2, 3])
def w28_3 (P : Program) (Q : Exit → Slots → Mem → Prop) (M : Mem) (v1 : V) (v2 : V) (v3 : V) : Prop :=
  @OptVH (loadV 1 false v1 M) ⟨fun t4_1 =>
  @OptVH (moveV 2 v3) ⟨fun t5_2 =>
  @OptVH (loadV 1 false t5_2 M) ⟨fun t6_3 =>
  @OptVH (convV .u64 t6_3) ⟨fun t7_4 =>
  @CallH P i_bitset_Set_Union [t4_1, t7_4] M ⟨fun t8_5 M5 =>
  @OptMH (storeVM 1 v1 t8_5 M5) ⟨fun _tx_6 M6 =>
  Q .normal [(2, v2), (3, v3)] M6⟩⟩⟩⟩⟩⟩
theorem e28_3 (P : Program) (Q : Exit → Slots → Mem → Prop) (s : Slots) (M : Mem) : wpC P c28_3 Q s M = w28_3 P Q M (sget s 1) (sget s 2) (sget s 3) := by kernel_rfl
def o28_4 : List AOper := [⟨some 9, (.load 1 false (.tmp 2)), false, none⟩,
  ⟨some 10, (.fieldAddr 3 (.tmp 3)), false, none⟩,
  ⟨some 11, (.load 1 false (.tmp 10)), false, none⟩,
  ⟨some 12, (.conv .u64 (.tmp 11)), false, none⟩,
  ⟨some 13, (.call i_bitset_Set_Union [(.tmp 9), (.tmp 12)]), false, none⟩,
  ⟨none, (.store 1 (.tmp 2) (.tmp 13)), false, none⟩]
def c28_5 : ACode := (.region o28_4 [])
def w28_5 (P : Program) (Q : Exit → Slots → Mem → Prop) (M : Mem) (v2 : V) (v3 : V) : Prop :=
  @OptVH (loadV 1 false v2 M) ⟨fun t9_1 =>
  @OptVH (moveV 3 v3) ⟨fun t10_2 =>
  @OptVH (loadV 1 false t10_2 M) ⟨fun t11_3 =>
  @OptVH (convV .u64 t11_3) ⟨fun t12_4 =>
  @CallH P i_bitset_Set_Union [t9_1, t12_4] M ⟨fun t13_5 M5 =>
  @OptMH (storeVM 1 v2 t13_5 M5) ⟨fun _tx_6 M6 =>
  Q .normal [] M6⟩⟩⟩⟩⟩⟩
theorem e28_5 (P : Program) (Q : Exit → Slots → Mem → Prop) (s : Slots) (M : Mem) : wpC P c28_5 Q s M = w28_5 P Q M (sget s 2) (sget s 3) := by kernel_rfl
def c28_6 : ACode := (.seq c28_3 c28_5)
def c28_7 : ACode := (.seq c28_1 c28_6)
def fn_product_Covers_1 : AFn := ⟨14, [], c28_7⟩
theorem fn_product_Covers_1_ok : resFn PR h_product_Covers_1 i_product_Covers_1 = some fn_product_Covers_1 := by kernel_rfl

def h_bitset_Set_Union : Hints := ⟨[(0, [0, 1]), (1, [4])], [], []⟩
def o29_0 : List AOper := [⟨some 4, (.mov (.const (.int .u64 0))), false, none⟩]
def c29_1 : ACode := (.region o29_0 [0, 1])
def w29_1 (_P : Program) (Q : Exit → Slots → Mem → Prop) (M : Mem) (v0 : V) (v1 : V) : Prop :=
  Q .normal [(0, v0), (1, v1)] M
theorem e29_1 (P : Program) (Q : Exit → Slots → Mem → Prop) (s : Slots) (M : Mem) : wpC P c29_1 Q s M = w29_1 P Q M (sget s 0) (sget s 1) := by kernel_rfl
def o29_2 : List AOper := [⟨some 5, (.mov (.tmp 0)), false, none⟩,
  ⟨some 6, (.mov (.tmp 1)), false, none⟩,
  ⟨some 7, (.bin .or .none (.tmp 5) (.tmp 6)), false, none⟩,
  ⟨some 4, (.mov (.tmp 7)), false, none⟩]
def c29_3 : ACode := (.region o29_2 [4])
def w29_3 (_P : Program) (Q : Exit → Slots → Mem → Prop) (M : Mem) (v0 : V) (v1 : V) : Prop :=
  @OptVH (binV .or .none v0 v1) ⟨fun t7_3 =>
  Q .normal [(4, t7_3)] M⟩
theorem e29_3 (P : Program) (Q : Exit → Slots → Mem → Prop) (s : Slots) (M : Mem) : wpC P c29_3 Q s M = w29_3 P Q M (sget s 0) (sget s 1) := by kernel_rfl
def c29_4 : ACode := (.seq c29_3 .ret)
def c29_5 : ACode := (.seq c29_1 c29_4)
def fn_bitset_Set_Union : AFn := ⟨8, [(.tmp 4)], c29_5⟩
theorem fn_bitset_Set_Union_ok : resFn PR h_bitset_Set_Union i_bitset_Set_Union = some fn_bitset_Set_Union := by kernel_rfl

def h_bitset_Set_Len : Hints := ⟨[(0, [0]), (1, [0, 3]), (2, [0, 3, 5]), (3, [2]), (4, [0, 3]), (5, [0, 3])], [(2, [0, 3])], []⟩
def o30_0 : List AOper := [⟨some 2, (.mov (.const (.int .i64 0))), false, none⟩]
def c30_1 : ACode := (.region o30_0 [0])
def w30_1 (_P : Program) (Q : Exit → Slots → Mem → Prop) (M : Mem) (v0 : V) : Prop :=
  Q .normal [(0, v0)] M
theorem e30_1 (P : Program) (Q : Exit → Slots → Mem → Prop) (s : Slots) (M : Mem) : wpC P c30_1 Q s M = w30_1 P Q M (sget s 0) := by kernel_rfl
def o30_2 : List AOper := [⟨some 3, (.mov (.const (.int .i64 0))), false, none⟩]
def c30_3 : ACode := (.region o30_2 [0, 3])
def w30_3 (_P : Program) (Q : Exit → Slots → Mem → Prop) (M : Mem) (v0 : V) : Prop :=
  Q .normal [(0, v0), (3, (.int .i64 0))] M
theorem e30_3 (P : Program) (Q : Exit → Slots → Mem → Prop) (s : Slots) (M : Mem) : wpC P c30_3 Q s M = w30_3 P Q M (sget s 0) := by kernel_rfl
def o30_4 : List AOper := [⟨some 6, (.mov (.tmp 3)), false, none⟩,
  ⟨some 2, (.mov (.tmp 6)), false, none⟩]
def c30_5 : ACode := (.region o30_4 [2])
def w30_5 (_P : Program) (Q : Exit → Slots → Mem → Prop) (M : Mem) (v3 : V) : Prop :=
  Q .normal [(2, v3)] M
theorem e30_5 (P : Program) (Q : Exit → Slots → Mem → Prop) (s : Slots) (M : Mem) : wpC P c30_5 Q s M = w30_5 P Q M (sget s 3) := by kernel_rfl
def c30_6 : ACode := (.seq c30_5 .ret)
def o30_7 : List AOper := [⟨some 4, (.mov (.tmp 0)), false, none⟩,
  ⟨some 5, (.bin .eql .none (.tmp 4) (.const (.int .u64 0))), true, none⟩]
def c30_8 : ACode := (.seq (.region o30_7 [0, 3, 5]) (.cond (.tmp 5) c30_6 .skip))
def w30_8 (P : Program) (Q : Exit → Slots → Mem → Prop) (M : Mem) (v0 : V) (v3 : V) : Prop :=
  @OptBH (binV .eql .none v0 (.int .u64 0)) ⟨fun b5_2 =>
  @BIfH b5_2
  ⟨wpC P c30_6 Q [(0, v0), (3, v3), (5, (.bool b5_2))] M⟩
  ⟨Q .normal [(0, v0), (3, v3), (5, (.bool b5_2))] M⟩⟩
theorem e30_8 (P : Program) (Q : Exit → Slots → Mem → Prop) (s : Slots) (M : Mem) : wpC P c30_8 Q s M = w30_8 P Q M (sget s 0) (sget s 3) := by kernel_rfl
def o30_9 : List AOper := [⟨some 7, (.mov (.tmp 0)), false, none⟩,
  ⟨some 8, (.mov (.tmp 0)), false, none⟩,
  ⟨some 9, (.bin .sub .none (.tmp 8) (.const (.int .u64 1))), false, none⟩,
  ⟨some 10, (.bin .and .none (.tmp 7) (.tmp 9)), false, none⟩,
  ⟨some 0, (.mov (.tmp 10)), false, none⟩]
def c30_10 : ACode := (.region o30_9 [0, 3])
def w30_10 (_P : Program) (Q : Exit → Slots → Mem → Prop) (M : Mem) (v0 : V) (v3 : V) : Prop :=
  @OptVH (binV .sub .none v0 (.int .u64 1)) ⟨fun t9_3 =>
  @OptVH (binV .and .none v0 t9_3) ⟨fun t10_4 =>
  Q .normal [(0, t10_4), (3, v3)] M⟩⟩
theorem e30_10 (P : Program) (Q : Exit → Slots → Mem → Prop) (s : Slots) (M : Mem) : wpC P c30_10 Q s M = w30_10 P Q M (sget s 0) (sget s 3) := by kernel_rfl
def o30_11 : List AOper := [⟨some 11, (.mov (.tmp 3)), false, none⟩,
  ⟨some 12, (.bin .add .none (.tmp 11) (.const (.int .i64 1))), false, none⟩,
  ⟨some 3, (.mov (.tmp 12)), false, none⟩]
def c30_12 : ACode := (.region o30_11 [0, 3])
def w30_12 (_P : Program) (Q : Exit → Slots → Mem → Prop) (M : Mem) (v0 : V) (v3 : V) : Prop :=
  @OptVH (binV .add .none v3 (.int .i64 1)) ⟨fun t12_2 =>
  Q .normal [(0, v0), (3, t12_2)] M⟩
theorem e30_12 (P : Program) (Q : Exit → Slots → Mem → Prop) (s : Slots) (M : Mem) : wpC P c30_12 Q s M = w30_12 P Q M (sget s 0) (sget s 3) := by kernel_rfl
def c30_13 : ACode := (.seq c30_12 (.goto 0))
def c30_14 : ACode := (.seq c30_10 c30_13)
def c30_15 : ACode := (.seq c30_8 c30_14)
def c30_16 : ACode := (.seq .label c30_15)
def c30_17 : ACode := (.seq c30_3 c30_16)
def o30_18 : List AOper := [⟨some 6, (.mov (.tmp 3)), false, none⟩,
  ⟨some 2, (.mov (.tmp 6)), false, none⟩]
def c30_19 : ACode := (.region o30_18 [2])
def w30_19 (_P : Program) (Q : Exit → Slots → Mem → Prop) (M : Mem) (v3 : V) : Prop :=
  Q .normal [(2, v3)] M
theorem e30_19 (P : Program) (Q : Exit → Slots → Mem → Prop) (s : Slots) (M : Mem) : wpC P c30_19 Q s M = w30_19 P Q M (sget s 3) := by kernel_rfl
def c30_20 : ACode := (.seq c30_19 .ret)
def o30_21 : List AOper := [⟨some 4, (.mov (.tmp 0)), false, none⟩,
  ⟨some 5, (.bin .eql .none (.tmp 4) (.const (.int .u64 0))), true, none⟩]
def c30_22 : ACode := (.seq (.region o30_21 [0, 3, 5]) (.cond (.tmp 5) c30_20 .skip))
def w30_22 (P : Program) (Q : Exit → Slots → Mem → Prop) (M : Mem) (v0 : V) (v3 : V) : Prop :=
  @OptBH (binV .eql .none v0 (.int .u64 0)) ⟨fun b5_2 =>
  @BIfH b5_2
  ⟨wpC P c30_20 Q [(0, v0), (3, v3), (5, (.bool b5_2))] M⟩
  ⟨Q .normal [(0, v0), (3, v3), (5, (.bool b5_2))] M⟩⟩
theorem e30_22 (P : Program) (Q : Exit → Slots → Mem → Prop) (s : Slots) (M : Mem) : wpC P c30_22 Q s M = w30_22 P Q M (sget s 0) (sget s 3) := by kernel_rfl
def o30_23 : List AOper := [⟨some 7, (.mov (.tmp 0)), false, none⟩,
  ⟨some 8, (.mov (.tmp 0)), false, none⟩,
  ⟨some 9, (.bin .sub .none (.tmp 8) (.const (.int .u64 1))), false, none⟩,
  ⟨some 10, (.bin .and .none (.tmp 7) (.tmp 9)), false, none⟩,
  ⟨some 0, (.mov (.tmp 10)), false, none⟩]
def c30_24 : ACode := (.region o30_23 [0, 3])
def w30_24 (_P : Program) (Q : Exit → Slots → Mem → Prop) (M : Mem) (v0 : V) (v3 : V) : Prop :=
  @OptVH (binV .sub .none v0 (.int .u64 1)) ⟨fun t9_3 =>
  @OptVH (binV .and .none v0 t9_3) ⟨fun t10_4 =>
  Q .normal [(0, t10_4), (3, v3)] M⟩⟩
theorem e30_24 (P : Program) (Q : Exit → Slots → Mem → Prop) (s : Slots) (M : Mem) : wpC P c30_24 Q s M = w30_24 P Q M (sget s 0) (sget s 3) := by kernel_rfl
def o30_25 : List AOper := [⟨some 11, (.mov (.tmp 3)), false, none⟩,
  ⟨some 12, (.bin .add .none (.tmp 11) (.const (.int .i64 1))), false, none⟩,
  ⟨some 3, (.mov (.tmp 12)), false, none⟩]
def c30_26 : ACode := (.region o30_25 [0, 3])
def w30_26 (_P : Program) (Q : Exit → Slots → Mem → Prop) (M : Mem) (v0 : V) (v3 : V) : Prop :=
  @OptVH (binV .add .none v3 (.int .i64 1)) ⟨fun t12_2 =>
  Q .normal [(0, v0), (3, t12_2)] M⟩
theorem e30_26 (P : Program) (Q : Exit → Slots → Mem → Prop) (s : Slots) (M : Mem) : wpC P c30_26 Q s M = w30_26 P Q M (sget s 0) (sget s 3) := by kernel_rfl
def c30_27 : ACode := (.seq c30_26 (.goto 0))
def c30_28 : ACode := (.seq c30_24 c30_27)
def c30_29 : ACode := (.seq c30_22 c30_28)
def c30_30 : ACode := (.seq .skip c30_29)
def c30_31 : ACode := (.scope 0 [0, 3] c30_17 c30_30)
def c30_32 : ACode := (.seq c30_1 c30_31)
def fn_bitset_Set_Len : AFn := ⟨13, [(.tmp 2)], c30_32⟩
theorem fn_bitset_Set_Len_ok : resFn PR h_bitset_Set_Len i_bitset_Set_Len = some fn_bitset_Set_Len := by kernel_rfl

def h_bitset_Set_Within : Hints := ⟨[(0, [0, 1]), (1, [4])], [], []⟩
def o31_0 : List AOper := [⟨some 4, (.mov (.const (.bool false))), true, none⟩]
def c31_1 : ACode := (.region o31_0 [0, 1])
def w31_1 (_P : Program) (Q : Exit → Slots → Mem → Prop) (M : Mem) (v0 : V) (v1 : V) : Prop :=
  Q .normal [(0, v0), (1, v1)] M
theorem e31_1 (P : Program) (Q : Exit → Slots → Mem → Prop) (s : Slots) (M : Mem) : wpC P c31_1 Q s M = w31_1 P Q M (sget s 0) (sget s 1) := by kernel_rfl
def o31_2 : List AOper := [⟨some 5, (.mov (.tmp 0)), false, none⟩,
  ⟨some 6, (.mov (.tmp 1)), false, none⟩,
  ⟨some 7, (.bin .andNot .none (.tmp 5) (.tmp 6)), false, none⟩,
  ⟨some 8, (.bin .eql .none (.tmp 7) (.const (.int .u64 0))), true, none⟩,
  ⟨some 4, (.mov (.tmp 8)), true, none⟩]
def c31_3 : ACode := (.region o31_2 [4])
def w31_3 (_P : Program) (Q : Exit → Slots → Mem → Prop) (M : Mem) (v0 : V) (v1 : V) : Prop :=
  @OptVH (binV .andNot .none v0 v1) ⟨fun t7_3 =>
  @OptBH (binV .eql .none t7_3 (.int .u64 0)) ⟨fun b8_4 =>
  Q .normal [(4, (.bool b8_4))] M⟩⟩
theorem e31_3 (P : Program) (Q : Exit → Slots → Mem → Prop) (s : Slots) (M : Mem) : wpC P c31_3 Q s M = w31_3 P Q M (sget s 0) (sget s 1) := by kernel_rfl
def c31_4 : ACode := (.seq c31_3 .ret)
def c31_5 : ACode := (.seq c31_1 c31_4)
def fn_bitset_Set_Within : AFn := ⟨9, [(.tmp 4)], c31_5⟩
theorem fn_bitset_Set_Within_ok : resFn PR h_bitset_Set_Within i_bitset_Set_Within = some fn_bitset_Set_Within := by kernel_rfl

def h_transitref06_Union : Hints := ⟨[(0, [0, 1]), (1, [0, 1, 5]), (2, [0, 1, 5, 7]), (3, [0, 1, 5]), (4, [0, 1, 5, 12]), (5, [0, 1, 5]), (6, [4])], [(2, [0, 1, 5])], []⟩
def o32_0 : List AOper := [⟨some 4, (.mov (.const (.int .u64 0))), false, none⟩]
def c32_1 : ACode := (.region o32_0 [0, 1])
def w32_1 (_P : Program) (Q : Exit → Slots → Mem → Prop) (M : Mem) (v0 : V) (v1 : V) : Prop :=
  Q .normal [(0, v0), (1, v1)] M
theorem e32_1 (P : Program) (Q : Exit → Slots → Mem → Prop) (s : Slots) (M : Mem) : wpC P c32_1 Q s M = w32_1 P Q M (sget s 0) (sget s 1) := by kernel_rfl
def o32_2 : List AOper := [⟨some 5, (.mov (.const (.int .i64 0))), false, none⟩]
def c32_3 : ACode := (.region o32_2 [0, 1, 5])
def w32_3 (_P : Program) (Q : Exit → Slots → Mem → Prop) (M : Mem) (v0 : V) (v1 : V) : Prop :=
  Q .normal [(0, v0), (1, v1), (5, (.int .i64 0))] M
theorem e32_3 (P : Program) (Q : Exit → Slots → Mem → Prop) (s : Slots) (M : Mem) : wpC P c32_3 Q s M = w32_3 P Q M (sget s 0) (sget s 1) := by kernel_rfl
def o32_4 : List AOper := [⟨some 6, (.mov (.tmp 5)), false, none⟩,
  ⟨some 7, (.bin .lss .none (.tmp 6) (.const (.int .i64 64))), true, none⟩]
def c32_5 : ACode := (.seq (.region o32_4 [0, 1, 5, 7]) (.cond (.tmp 7) .skip (.exit 0)))
def w32_5 (_P : Program) (Q : Exit → Slots → Mem → Prop) (M : Mem) (v0 : V) (v1 : V) (v5 : V) : Prop :=
  @OptBH (binV .lss .none v5 (.int .i64 64)) ⟨fun b7_2 =>
  @BIfH b7_2
  ⟨Q .normal [(0, v0), (1, v1), (5, v5), (7, (.bool b7_2))] M⟩
  ⟨Q (.exit 0) [(0, v0), (1, v1), (5, v5), (7, (.bool b7_2))] M⟩⟩
theorem e32_5 (P : Program) (Q : Exit → Slots → Mem → Prop) (s : Slots) (M : Mem) : wpC P c32_5 Q s M = w32_5 P Q M (sget s 0) (sget s 1) (sget s 5) := by kernel_rfl
def o32_6 : List AOper := [⟨some 13, (.mov (.tmp 0)), false, none⟩,
  ⟨some 14, (.mov (.tmp 5)), false, none⟩,
  ⟨some 15, (.call i_transitref06_With [(.tmp 13), (.tmp 14)]), false, none⟩,
  ⟨some 0, (.mov (.tmp 15)), false, none⟩]
def c32_7 : ACode := (.region o32_6 [0, 1, 5])
def w32_7 (P : Program) (Q : Exit → Slots → Mem → Prop) (M : Mem) (v0 : V) (v1 : V) (v5 : V) : Prop :=
  @CallH P i_transitref06_With [v0, v5] M ⟨fun t15_3 M3 =>
  Q .normal [(0, t15_3), (1, v1), (5, v5)] M3⟩
theorem e32_7 (P : Program) (Q : Exit → Slots → Mem → Prop) (s : Slots) (M : Mem) : wpC P c32_7 Q s M = w32_7 P Q M (sget s 0) (sget s 1) (sget s 5) := by kernel_rfl
def o32_8 : List AOper := [⟨some 10, (.mov (.tmp 1)), false, none⟩,
  ⟨some 11, (.mov (.tmp 5)), false, none⟩,
  ⟨some 12, (.call i_transitref06_Has [(.tmp 10), (.tmp 11)]), true, none⟩]
def c32_9 : ACode := (.seq (.region o32_8 [0, 1, 5, 12]) (.cond (.tmp 12) c32_7 .skip))
def w32_9 (P : Program) (Q : Exit → Slots → Mem → Prop) (M : Mem) (v0 : V) (v1 : V) (v5 : V) : Prop :=
  @CallH P i_transitref06_Has [v1, v5] M ⟨fun t12_3 M3 => @OptBH (some t12_3) ⟨fun b12_3 =>
  @BIfH b12_3
  ⟨wpC P c32_7 Q [(0, v0), (1, v1), (5, v5), (12, (.bool b12_3))] M3⟩
  ⟨Q .normal [(0, v0), (1, v1), (5, v5), (12, (.bool b12_3))] M3⟩⟩⟩
theorem e32_9 (P : Program) (Q : Exit → Slots → Mem → Prop) (s : Slots) (M : Mem) : wpC P c32_9 Q s M = w32_9 P Q M (sget s 0) (sget s 1) (sget s 5) := by kernel_rfl
def c32_10 : ACode := (.block 1 c32_9)
def o32_11 : List AOper := [⟨some 8, (.mov (.tmp 5)), false, none⟩,
  ⟨some 9, (.bin .add .none (.tmp 8) (.const (.int .i64 1))), false, none⟩,
  ⟨some 5, (.mov (.tmp 9)), false, none⟩]
def c32_12 : ACode := (.region o32_11 [0, 1, 5])
def w32_12 (_P : Program) (Q : Exit → Slots → Mem → Prop) (M : Mem) (v0 : V) (v1 : V) (v5 : V) : Prop :=
  @OptVH (binV .add .none v5 (.int .i64 1)) ⟨fun t9_2 =>
  Q .normal [(0, v0), (1, v1), (5, t9_2)] M⟩
theorem e32_12 (P : Program) (Q : Exit → Slots → Mem → Prop) (s : Slots) (M : Mem) : wpC P c32_12 Q s M = w32_12 P Q M (sget s 0) (sget s 1) (sget s 5) := by kernel_rfl
def c32_13 : ACode := (.seq c32_10 c32_12)
def c32_14 : ACode := (.seq c32_5 c32_13)
def c32_15 : ACode := (.loop [0, 1, 5] c32_14)
def c32_16 : ACode := (.block 0 c32_15)
def c32_17 : ACode := (.seq c32_3 c32_16)
def o32_18 : List AOper := [⟨some 16, (.mov (.tmp 0)), false, none⟩,
  ⟨some 4, (.mov (.tmp 16)), false, none⟩]
def c32_19 : ACode := (.region o32_18 [4])
def w32_19 (_P : Program) (Q : Exit → Slots → Mem → Prop) (M : Mem) (v0 : V) : Prop :=
  Q .normal [(4, v0)] M
theorem e32_19 (P : Program) (Q : Exit → Slots → Mem → Prop) (s : Slots) (M : Mem) : wpC P c32_19 Q s M = w32_19 P Q M (sget s 0) := by kernel_rfl
def c32_20 : ACode := (.seq c32_19 .ret)
def c32_21 : ACode := (.seq c32_17 c32_20)
def c32_22 : ACode := (.seq c32_1 c32_21)
def fn_transitref06_Union : AFn := ⟨17, [(.tmp 4)], c32_22⟩
theorem fn_transitref06_Union_ok : resFn PR h_transitref06_Union i_transitref06_Union = some fn_transitref06_Union := by kernel_rfl

def h_transitref06_List : Hints := ⟨[(0, [0]), (1, [0, 3]), (2, [0, 3, 4]), (3, [0, 3, 4, 6]), (4, [0, 3, 4]), (5, [0, 3, 4, 11]), (6, [0, 3, 4]), (7, [2])], [(3, [0, 3, 4])], [(1, [0])]⟩
def o33_0 : List AOper := [⟨some 2, (.mov (.const (.slice [] .nil))), false, none⟩]
def c33_1 : ACode := (.region o33_0 [0])
def w33_1 (_P : Program) (Q : Exit → Slots → Mem → Prop) (M : Mem) (v0 : V) : Prop :=
  Q .normal [(0, v0)] M
theorem e33_1 (P : Program) (Q : Exit → Slots → Mem → Prop) (s : Slots) (M : Mem) : wpC P c33_1 Q s M = w33_1 P Q M (sget s 0) := by kernel_rfl
def o33_2 : List AOper := [⟨some 3, (.newarr 1), false, none⟩]
def c33_3 : ACode := (.region o33_2 [0, 3])
def w33_3 (_P : Program) (Q : Exit → Slots → Mem → Prop) (M : Mem) (v0 : V) : Prop :=
  @OptMH (newarrV 1 M) ⟨fun t3_1 M1 =>
  Q .normal [(0, v0), (3, t3_1)] M1⟩
theorem e33_3 (P : Program) (Q : Exit → Slots → Mem → Prop) (s : Slots) (M : Mem) : wpC P c33_3 Q s M = w33_3 P Q M (sget s 0) := by kernel_rfl
def o33_4 : List AOper := [⟨some 4, (.mov (.const (.int .i64 0))), false, none⟩]
def c33_5 : ACode := (.region o33_4 [0, 3, 4])
def w33_5 (_P : Program) (Q : Exit → Slots → Mem → Prop) (M : Mem) (v0 : V) (v3 : V) : Prop :=
  Q .normal [(0, v0), (3, v3), (4, (.int .i64 0))] M
theorem e33_5 (P : Program) (Q : Exit → Slots → Mem → Prop) (s : Slots) (M : Mem) : wpC P c33_5 Q s M = w33_5 P Q M (sget s 0) (sget s 3) := by kernel_rfl
def o33_6 : List AOper := [⟨some 5, (.mov (.tmp 4)), false, none⟩,
  ⟨some 6, (.bin .lss .none (.tmp 5) (.const (.int .i64 64))), true, none⟩]
def c33_7 : ACode := (.seq (.region o33_6 [0, 3, 4, 6]) (.cond (.tmp 6) .skip (.exit 0)))
def w33_7 (_P : Program) (Q : Exit → Slots → Mem → Prop) (M : Mem) (v0 : V) (v3 : V) (v4 : V) : Prop :=
  @OptBH (binV .lss .none v4 (.int .i64 64)) ⟨fun b6_2 =>
  @BIfH b6_2
  ⟨Q .normal [(0, v0), (3, v3), (4, v4), (6, (.bool b6_2))] M⟩
  ⟨Q (.exit 0) [(0, v0), (3, v3), (4, v4), (6, (.bool b6_2))] M⟩⟩
theorem e33_7 (P : Program) (Q : Exit → Slots → Mem → Prop) (s : Slots) (M : Mem) : wpC P c33_7 Q s M = w33_7 P Q M (sget s 0) (sget s 3) (sget s 4) := by kernel_rfl
def o33_8 : List AOper := [⟨some 12, (.mov (.tmp 3)), false, none⟩,
  ⟨some 13, (.mov (.tmp 4)), false, none⟩,
  ⟨some 14, (.buildSlice [(.int .i64 0)] 1 1 [(0, (1, (.tmp 13)))]), false, none⟩,
  ⟨some 15, (.append false 1 8 (.tmp 12) (.tmp 14)), false, none⟩,
  ⟨some 3, (.mov (.tmp 15)), false, none⟩]
def c33_9 : ACode := (.region o33_8 [0, 3, 4])
def w33_9 (_P : Program) (Q : Exit → Slots → Mem → Prop) (M : Mem) (v0 : V) (v3 : V) (v4 : V) : Prop :=
  @OptVH (buildSliceV [(.int .i64 0)] 1 1 [(0, 1, v4)]) ⟨fun t14_3 =>
  @OptMH (appV false 1 8 v3 t14_3 M) ⟨fun t15_4 M4 =>
  Q .normal [(0, v0), (3, t15_4), (4, v4)] M4⟩⟩
theorem e33_9 (P : Program) (Q : Exit → Slots → Mem → Prop) (s : Slots) (M : Mem) : wpC P c33_9 Q s M = w33_9 P Q M (sget s 0) (sget s 3) (sget s 4) := by kernel_rfl
def o33_10 : List AOper := [⟨some 9, (.mov (.tmp 0)), false, none⟩,
  ⟨some 10, (.mov (.tmp 4)), false, none⟩,
  ⟨some 11, (.call i_transitref06_Has [(.tmp 9), (.tmp 10)]), true, none⟩]
def c33_11 : ACode := (.seq (.region o33_10 [0, 3, 4, 11]) (.cond (.tmp 11) c33_9 .skip))
def w33_11 (P : Program) (Q : Exit → Slots → Mem → Prop) (M : Mem) (v0 : V) (v3 : V) (v4 : V) : Prop :=
  @CallH P i_transitref06_Has [v0, v4] M ⟨fun t11_3 M3 => @OptBH (some t11_3) ⟨fun b11_3 =>
  @BIfH b11_3
  ⟨wpC P c33_9 Q [(0, v0), (3, v3), (4, v4), (11, (.bool b11_3))] M3⟩
  ⟨Q .normal [(0, v0), (3, v3), (4, v4), (11, (.bool b11_3))] M3⟩⟩⟩
theorem e33_11 (P : Program) (Q : Exit → Slots → Mem → Prop) (s : Slots) (M : Mem) : wpC P c33_11 Q s M = w33_11 P Q M (sget s 0) (sget s 3) (sget s 4) := by kernel_rfl
def c33_12 : ACode := (.block 1 c33_11)
def o33_13 : List AOper := [⟨some 7, (.mov (.tmp 4)), false, none⟩,
  ⟨some 8, (.bin .add .none (.tmp 7) (.const (.int .i64 1))), false, none⟩,
  ⟨some 4, (.mov (.tmp 8)), false, none⟩]
def c33_14 : ACode := (.region o33_13 [0, 3, 4])
def w33_14 (_P : Program) (Q : Exit → Slots → Mem → Prop) (M : Mem) (v0 : V) (v3 : V) (v4 : V) : Prop :=
  @OptVH (binV .add .none v4 (.int .i64 1)) ⟨fun t8_2 =>
  Q .normal [(0, v0), (3, v3), (4, t8_2)] M⟩
theorem e33_14 (P : Program) (Q : Exit → Slots → Mem → Prop) (s : Slots) (M : Mem) : wpC P c33_14 Q s M = w33_14 P Q M (sget s 0) (sget s 3) (sget s 4) := by kernel_rfl
def c33_15 : ACode := (.seq c33_12 c33_14)
def c33_16 : ACode := (.seq c33_7 c33_15)
def c33_17 : ACode := (.loop [0, 3, 4] c33_16)
def c33_18 : ACode := (.block 0 c33_17)
def c33_19 : ACode := (.seq c33_5 c33_18)
def o33_20 : List AOper := [⟨some 16, (.mov (.tmp 3)), false, none⟩,
  ⟨some 2, (.mov (.tmp 16)), false, none⟩]
def c33_21 : ACode := (.region o33_20 [2])
def w33_21 (_P : Program) (Q : Exit → Slots → Mem → Prop) (M : Mem) (v3 : V) : Prop :=
  Q .normal [(2, v3)] M
theorem e33_21 (P : Program) (Q : Exit → Slots → Mem → Prop) (s : Slots) (M : Mem) : wpC P c33_21 Q s M = w33_21 P Q M (sget s 3) := by kernel_rfl
def c33_22 : ACode := (.seq c33_21 .ret)
def c33_23 : ACode := (.seq c33_19 c33_22)
def c33_24 : ACode := (.seq c33_3 c33_23)
def c33_25 : ACode := (.seq c33_1 c33_24)
def fn_transitref06_List : AFn := ⟨17, [(.tmp 2)], c33_25⟩
theorem fn_transitref06_List_ok : resFn PR h_transitref06_List i_transitref06_List = some fn_transitref06_List := by kernel_rfl

def h_transitref06_Minus : Hints := ⟨[(0, [0, 1]), (1, [0, 1, 5]), (2, [0, 1, 5, 7]), (3, [0, 1, 5]), (4, [0, 1, 5, 12]), (5, [0, 1, 5]), (6, [4])], [(2, [0, 1, 5])], []⟩
def o34_0 : List AOper := [⟨some 4, (.mov (.const (.int .u64 0))), false, none⟩]
def c34_1 : ACode := (.region o34_0 [0, 1])
def w34_1 (_P : Program) (Q : Exit → Slots → Mem → Prop) (M : Mem) (v0 : V) (v1 : V) : Prop :=
  Q .normal [(0, v0), (1, v1)] M
theorem e34_1 (P : Program) (Q : Exit → Slots → Mem → Prop) (s : Slots) (M : Mem) : wpC P c34_1 Q s M = w34_1 P Q M (sget s 0) (sget s 1) := by kernel_rfl
def o34_2 : List AOper := [⟨some 5, (.mov (.const (.int .i64 0))), false, none⟩]
def c34_3 : ACode := (.region o34_2 [0, 1, 5])
def w34_3 (_P : Program) (Q : Exit → Slots → Mem → Prop) (M : Mem) (v0 : V) (v1 : V) : Prop :=
  Q .normal [(0, v0), (1, v1), (5, (.int .i64 0))] M
theorem e34_3 (P : Program) (Q : Exit → Slots → Mem → Prop) (s : Slots) (M : Mem) : wpC P c34_3 Q s M = w34_3 P Q M (sget s 0) (sget s 1) := by kernel_rfl
def o34_4 : List AOper := [⟨some 6, (.mov (.tmp 5)), false, none⟩,
  ⟨some 7, (.bin .lss .none (.tmp 6) (.const (.int .i64 64))), true, none⟩]
def c34_5 : ACode := (.seq (.region o34_4 [0, 1, 5, 7]) (.cond (.tmp 7) .skip (.exit 0)))
def w34_5 (_P : Program) (Q : Exit → Slots → Mem → Prop) (M : Mem) (v0 : V) (v1 : V) (v5 : V) : Prop :=
  @OptBH (binV .lss .none v5 (.int .i64 64)) ⟨fun b7_2 =>
  @BIfH b7_2
  ⟨Q .normal [(0, v0), (1, v1), (5, v5), (7, (.bool b7_2))] M⟩
  ⟨Q (.exit 0) [(0, v0), (1, v1), (5, v5), (7, (.bool b7_2))] M⟩⟩
theorem e34_5 (P : Program) (Q : Exit → Slots → Mem → Prop) (s : Slots) (M : Mem) : wpC P c34_5 Q s M = w34_5 P Q M (sget s 0) (sget s 1) (sget s 5) := by kernel_rfl
def o34_6 : List AOper := [⟨some 13, (.mov (.tmp 0)), false, none⟩,
  ⟨some 14, (.mov (.tmp 5)), false, none⟩,
  ⟨some 15, (.call i_transitref06_Without [(.tmp 13), (.tmp 14)]), false, none⟩,
  ⟨some 0, (.mov (.tmp 15)), false, none⟩]
def c34_7 : ACode := (.region o34_6 [0, 1, 5])
def w34_7 (P : Program) (Q : Exit → Slots → Mem → Prop) (M : Mem) (v0 : V) (v1 : V) (v5 : V) : Prop :=
  @CallH P i_transitref06_Without [v0, v5] M ⟨fun t15_3 M3 =>
  Q .normal [(0, t15_3), (1, v1), (5, v5)] M3⟩
theorem e34_7 (P : Program) (Q : Exit → Slots → Mem → Prop) (s : Slots) (M : Mem) : wpC P c34_7 Q s M = w34_7 P Q M (sget s 0) (sget s 1) (sget s 5) := by kernel_rfl
def o34_8 : List AOper := [⟨some 10, (.mov (.tmp 1)), false, none⟩,
  ⟨some 11, (.mov (.tmp 5)), false, none⟩,
  ⟨some 12, (.call i_transitref06_Has [(.tmp 10), (.tmp 11)]), true, none⟩]
def c34_9 : ACode := (.seq (.region o34_8 [0, 1, 5, 12]) (.cond (.tmp 12) c34_7 .skip))
def w34_9 (P : Program) (Q : Exit → Slots → Mem → Prop) (M : Mem) (v0 : V) (v1 : V) (v5 : V) : Prop :=
  @CallH P i_transitref06_Has [v1, v5] M ⟨fun t12_3 M3 => @OptBH (some t12_3) ⟨fun b12_3 =>
  @BIfH b12_3
  ⟨wpC P c34_7 Q [(0, v0), (1, v1), (5, v5), (12, (.bool b12_3))] M3⟩
  ⟨Q .normal [(0, v0), (1, v1), (5, v5), (12, (.bool b12_3))] M3⟩⟩⟩
theorem e34_9 (P : Program) (Q : Exit → Slots → Mem → Prop) (s : Slots) (M : Mem) : wpC P c34_9 Q s M = w34_9 P Q M (sget s 0) (sget s 1) (sget s 5) := by kernel_rfl
def c34_10 : ACode := (.block 1 c34_9)
def o34_11 : List AOper := [⟨some 8, (.mov (.tmp 5)), false, none⟩,
  ⟨some 9, (.bin .add .none (.tmp 8) (.const (.int .i64 1))), false, none⟩,
  ⟨some 5, (.mov (.tmp 9)), false, none⟩]
def c34_12 : ACode := (.region o34_11 [0, 1, 5])
def w34_12 (_P : Program) (Q : Exit → Slots → Mem → Prop) (M : Mem) (v0 : V) (v1 : V) (v5 : V) : Prop :=
  @OptVH (binV .add .none v5 (.int .i64 1)) ⟨fun t9_2 =>
  Q .normal [(0, v0), (1, v1), (5, t9_2)] M⟩
theorem e34_12 (P : Program) (Q : Exit → Slots → Mem → Prop) (s : Slots) (M : Mem) : wpC P c34_12 Q s M = w34_12 P Q M (sget s 0) (sget s 1) (sget s 5) := by kernel_rfl
def c34_13 : ACode := (.seq c34_10 c34_12)
def c34_14 : ACode := (.seq c34_5 c34_13)
def c34_15 : ACode := (.loop [0, 1, 5] c34_14)
def c34_16 : ACode := (.block 0 c34_15)
def c34_17 : ACode := (.seq c34_3 c34_16)
def o34_18 : List AOper := [⟨some 16, (.mov (.tmp 0)), false, none⟩,
  ⟨some 4, (.mov (.tmp 16)), false, none⟩]
def c34_19 : ACode := (.region o34_18 [4])
def w34_19 (_P : Program) (Q : Exit → Slots → Mem → Prop) (M : Mem) (v0 : V) : Prop :=
  Q .normal [(4, v0)] M
theorem e34_19 (P : Program) (Q : Exit → Slots → Mem → Prop) (s : Slots) (M : Mem) : wpC P c34_19 Q s M = w34_19 P Q M (sget s 0) := by kernel_rfl
def c34_20 : ACode := (.seq c34_19 .ret)
def c34_21 : ACode := (.seq c34_17 c34_20)
def c34_22 : ACode := (.seq c34_1 c34_21)
def fn_transitref06_Minus : AFn := ⟨17, [(.tmp 4)], c34_22⟩
theorem fn_transitref06_Minus_ok : resFn PR h_transitref06_Minus i_transitref06_Minus = some fn_transitref06_Minus := by kernel_rfl

def h_transitref21_soon : Hints := ⟨[(0, [0, 1, 2]), (1, [0, 1, 2, 9]), (2, [6]), (3, [6])], [], []⟩
def o35_0 : List AOper := [⟨some 6, (.mov (.const (.bool false))), true, none⟩]
def c35_1 : ACode := (.region o35_0 [0, 1, 2])
def w35_1 (_P : Program) (Q : Exit → Slots → Mem → Prop) (M : Mem) (v0 : V) (v1 : V) (v2 : V) : Prop :=
  Q .normal [(0, v0), (1, v1), (2, v2)] M
theorem e35_1 (P : Program) (Q : Exit → Slots → Mem → Prop) (s : Slots) (M : Mem) : wpC P c35_1 Q s M = w35_1 P Q M (sget s 0) (sget s 1) (sget s 2) := by kernel_rfl
def o35_2 : List AOper := [⟨some 10, (.mov (.tmp 2)), false, none⟩,
  ⟨some 11, (.bin .geq .none (.tmp 10) (.const (.int .i64 0))), true, none⟩,
  ⟨some 12, (.mov (.tmp 11)), true, none⟩,
  ⟨some 13, (.mov (.tmp 1)), false, some (12, true)⟩,
  ⟨some 14, (.conv .u64 (.tmp 13)), false, some (12, true)⟩,
  ⟨some 15, (.mov (.tmp 0)), false, some (12, true)⟩,
  ⟨some 16, (.conv .u64 (.tmp 15)), false, some (12, true)⟩,
  ⟨some 17, (.bin .sub .none (.tmp 14) (.tmp 16)), false, some (12, true)⟩,
  ⟨some 18, (.mov (.tmp 2)), false, some (12, true)⟩,
  ⟨some 19, (.conv .u64 (.tmp 18)), false, some (12, true)⟩,
  ⟨some 20, (.bin .leq .none (.tmp 17) (.tmp 19)), true, some (12, true)⟩,
  ⟨some 21, (.pick (.tmp 12) (.tmp 20) (.const (.bool false))), true, none⟩,
  ⟨some 6, (.mov (.tmp 21)), true, none⟩]
def c35_3 : ACode := (.region o35_2 [6])
def w35_3 (_P : Program) (Q : Exit → Slots → Mem → Prop) (M : Mem) (v0 : V) (v1 : V) (v2 : V) : Prop :=
  @OptBH (binV .geq .none v2 (.int .i64 0)) ⟨fun b11_2 =>
  @BIfH b11_2
  ⟨@OptVH (convV .u64 v1) ⟨fun t14_5 =>
  @OptVH (convV .u64 v0) ⟨fun t16_7 =>
  @OptVH (binV .sub .none t14_5 t16_7) ⟨fun t17_8 =>
  @OptVH (convV .u64 v2) ⟨fun t19_10 =>
  @OptBH (binV .leq .none t17_8 t19_10) ⟨fun b20_11 =>
  Q .normal [(6, (.bool b20_11))] M⟩⟩⟩⟩⟩⟩
  ⟨Q .normal [(6, (.bool false))] M⟩⟩
theorem e35_3 (P : Program) (Q : Exit → Slots → Mem → Prop) (s : Slots) (M : Mem) : wpC P c35_3 Q s M = w35_3 P Q M (sget s 0) (sget s 1) (sget s 2) := by kernel_rfl
def c35_4 : ACode := (.seq c35_3 .ret)
def o35_5 : List AOper := [⟨some 7, (.mov (.tmp 1)), false, none⟩,
  ⟨some 8, (.mov (.tmp 0)), false, none⟩,
  ⟨some 9, (.bin .geq .none (.tmp 7) (.tmp 8)), true, none⟩]
def c35_6 : ACode := (.seq (.region o35_5 [0, 1, 2, 9]) (.cond (.tmp 9) c35_4 .skip))
def w35_6 (P : Program) (Q : Exit → Slots → Mem → Prop) (M : Mem) (v0 : V) (v1 : V) (v2 : V) : Prop :=
  @OptBH (binV .geq .none v1 v0) ⟨fun b9_3 =>
  @BIfH b9_3
  ⟨wpC P c35_4 Q [(0, v0), (1, v1), (2, v2), (9, (.bool b9_3))] M⟩
  ⟨Q .normal [(0, v0), (1, v1), (2, v2), (9, (.bool b9_3))] M⟩⟩
theorem e35_6 (P : Program) (Q : Exit → Slots → Mem → Prop) (s : Slots) (M : Mem) : wpC P c35_6 Q s M = w35_6 P Q M (sget s 0) (sget s 1) (sget s 2) := by kernel_rfl
def o35_7 : List AOper := [⟨some 22, (.mov (.tmp 2)), false, none⟩,
  ⟨some 23, (.bin .geq .none (.tmp 22) (.const (.int .i64 0))), true, none⟩,
  ⟨some 24, (.mov (.tmp 23)), true, none⟩,
  ⟨some 25, (.mov (.tmp 0)), false, some (24, false)⟩,
  ⟨some 26, (.conv .u64 (.tmp 25)), false, some (24, false)⟩,
  ⟨some 27, (.mov (.tmp 1)), false, some (24, false)⟩,
  ⟨some 28, (.conv .u64 (.tmp 27)), false, some (24, false)⟩,
  ⟨some 29, (.bin .sub .none (.tmp 26) (.tmp 28)), false, some (24, false)⟩,
  ⟨some 30, (.mov (.tmp 2)), false, some (24, false)⟩,
  ⟨some 31, (.bin .add .none (.tmp 30) (.const (.int .i64 1))), false, some (24, false)⟩,
  ⟨some 32, (.un .neg (.tmp 31)), false, some (24, false)⟩,
  ⟨some 33, (.conv .u64 (.tmp 32)), false, some (24, false)⟩,
  ⟨some 34, (.bin .add .none (.tmp 33) (.const (.int .u64 1))), false, some (24, false)⟩,
  ⟨some 35, (.bin .geq .none (.tmp 29) (.tmp 34)), true, some (24, false)⟩,
  ⟨some 36, (.pick (.tmp 24) (.const (.bool true)) (.tmp 35)), true, none⟩,
  ⟨some 6, (.mov (.tmp 36)), true, none⟩]
def c35_8 : ACode := (.region o35_7 [6])
def w35_8 (_P : Program) (Q : Exit → Slots → Mem → Prop) (M : Mem) (v0 : V) (v1 : V) (v2 : V) : Prop :=
  @OptBH (binV .geq .none v2 (.int .i64 0)) ⟨fun b23_2 =>
  @BIfH b23_2
  ⟨Q .normal [(6, (.bool true))] M⟩
  ⟨@OptVH (convV .u64 v0) ⟨fun t26_7 =>
  @OptVH (convV .u64 v1) ⟨fun t28_9 =>
  @OptVH (binV .sub .none t26_7 t28_9) ⟨fun t29_10 =>
  @OptVH (binV .add .none v2 (.int .i64 1)) ⟨fun t31_12 =>
  @OptVH (unV .neg t31_12) ⟨fun t32_13 =>
  @OptVH (convV .u64 t32_13) ⟨fun t33_14 =>
  @OptVH (binV .add .none t33_14 (.int .u64 1)) ⟨fun t34_15 =>
  @OptBH (binV .geq .none t29_10 t34_15) ⟨fun b35_16 =>
  Q .normal [(6, (.bool b35_16))] M⟩⟩⟩⟩⟩⟩⟩⟩⟩⟩
theorem e35_8 (P : Program) (Q : Exit → Slots → Mem → Prop) (s : Slots) (M : Mem) : wpC P c35_8 Q s M = w35_8 P Q M (sget s 0) (sget s 1) (sget s 2) := by kernel_rfl
def c35_9 : ACode := (.seq c35_8 .ret)
def c35_10 : ACode := (.seq c35_6 c35_9)
def c35_11 : ACode := (.seq c35_1 c35_10)
def fn_transitref21_soon : AFn := ⟨37, [(.tmp 6)], c35_11⟩
theorem fn_transitref21_soon_ok : resFn PR h_transitref21_soon i_transitref21_soon = some fn_transitref21_soon := by kernel_rfl

def h_product_Cheapest_1 : Hints := ⟨[(0, [0, 2, 3, 4, 6]), (1, [0, 2, 3, 4, 6, 19]), (2, [])], [], []⟩
def o36_0 : List AOper := [⟨some 7, (.fieldAddr 0 (.tmp 1)), false, none⟩,
  ⟨some 8, (.load 1 false (.tmp 7)), false, none⟩,
  ⟨some 9, (.mov (.tmp 0)), false, none⟩,
  ⟨some 10, (.indexSl 6 (.tmp 8) (.tmp 9)), false, none⟩,
  ⟨some 11, (.fieldAddr 1 (.tmp 10)), false, none⟩,
  ⟨some 12, (.load 1 false (.tmp 11)), false, none⟩,
  ⟨some 6, (.mov (.tmp 12)), false, none⟩]
def c36_1 : ACode := (.region o36_0 [0, 2, 3, 4, 6])
def w36_1 (_P : Program) (Q : Exit → Slots → Mem → Prop) (M : Mem) (v0 : V) (v1 : V) (v2 : V) (v3 : V) (v4 : V) : Prop :=
  @OptVH (moveV 0 v1) ⟨fun t7_1 =>
  @OptVH (loadV 1 false t7_1 M) ⟨fun t8_2 =>
  @OptVH (indexSlV 6 t8_2 v0 M) ⟨fun t10_4 =>
  @OptVH (moveV 1 t10_4) ⟨fun t11_5 =>
  @OptVH (loadV 1 false t11_5 M) ⟨fun t12_6 =>
  Q .normal [(0, v0), (2, v2), (3, v3), (4, v4), (6, t12_6)] M⟩⟩⟩⟩⟩
theorem e36_1 (P : Program) (Q : Exit → Slots → Mem → Prop) (s : Slots) (M : Mem) : wpC P c36_1 Q s M = w36_1 P Q M (sget s 0) (sget s 1) (sget s 2) (sget s 3) (sget s 4) := by kernel_rfl
def o36_2 : List AOper := [⟨some 20, (.mov (.tmp 0)), false, none⟩,
  ⟨some 21, (.mov (.tmp 6)), false, none⟩,
  ⟨none, (.store 1 (.tmp 4) (.tmp 20)), false, none⟩,
  ⟨none, (.store 1 (.tmp 3) (.tmp 21)), false, none⟩,
  ⟨none, (.store 1 (.tmp 2) (.const (.bool true))), false, none⟩]
def c36_3 : ACode := (.region o36_2 [])
def w36_3 (_P : Program) (Q : Exit → Slots → Mem → Prop) (M : Mem) (v0 : V) (v2 : V) (v3 : V) (v4 : V) (v6 : V) : Prop :=
  @OptMH (storeVM 1 v4 v0 M) ⟨fun _tx_3 M3 =>
  @OptMH (storeVM 1 v3 v6 M3) ⟨fun _tx_4 M4 =>
  @OptMH (storeVM 1 v2 (.bool true) M4) ⟨fun _tx_5 M5 =>
  Q .normal [] M5⟩⟩⟩
theorem e36_3 (P : Program) (Q : Exit → Slots → Mem → Prop) (s : Slots) (M : Mem) : wpC P c36_3 Q s M = w36_3 P Q M (sget s 0) (sget s 2) (sget s 3) (sget s 4) (sget s 6) := by kernel_rfl
def o36_4 : List AOper := [⟨some 13, (.load 1 false (.tmp 2)), true, none⟩,
  ⟨some 14, (.un .not (.tmp 13)), true, none⟩,
  ⟨some 15, (.mov (.tmp 14)), true, none⟩,
  ⟨some 16, (.mov (.tmp 6)), false, some (15, false)⟩,
  ⟨some 17, (.load 1 false (.tmp 3)), false, some (15, false)⟩,
  ⟨some 18, (.bin .lss .none (.tmp 16) (.tmp 17)), true, some (15, false)⟩,
  ⟨some 19, (.pick (.tmp 15) (.const (.bool true)) (.tmp 18)), true, none⟩]
def c36_5 : ACode := (.seq (.region o36_4 [0, 2, 3, 4, 6, 19]) (.cond (.tmp 19) c36_3 .skip))
def w36_5 (P : Program) (Q : Exit → Slots → Mem → Prop) (M : Mem) (v0 : V) (v2 : V) (v3 : V) (v4 : V) (v6 : V) : Prop :=
  @OptBH (loadV 1 false v2 M) ⟨fun b13_1 =>
  @OptBH (unV .not (.bool b13_1)) ⟨fun b14_2 =>
  @BIfH b14_2
  ⟨wpC P c36_3 Q [(0, v0), (2, v2), (3, v3), (4, v4), (6, v6), (19, (.bool true))] M⟩
  ⟨@OptVH (loadV 1 false v3 M) ⟨fun t17_6 =>
  @OptBH (binV .lss .none v6 t17_6) ⟨fun b18_7 =>
  @BIfH b18_7
  ⟨wpC P c36_3 Q [(0, v0), (2, v2), (3, v3), (4, v4), (6, v6), (19, (.bool b18_7))] M⟩
  ⟨Q .normal [(0, v0), (2, v2), (3, v3), (4, v4), (6, v6), (19, (.bool b18_7))] M⟩⟩⟩⟩⟩⟩
theorem e36_5 (P : Program) (Q : Exit → Slots → Mem → Prop) (s : Slots) (M : Mem) : wpC P c36_5 Q s M = w36_5 P Q M (sget s 0) (sget s 2) (sget s 3) (sget s 4) (sget s 6) := by kernel_rfl
def c36_6 : ACode := (.seq c36_1 c36_5)
def fn_product_Cheapest_1 : AFn := ⟨22, [], c36_6⟩
theorem fn_product_Cheapest_1_ok : resFn PR h_product_Cheapest_1 i_product_Cheapest_1 = some fn_product_Cheapest_1 := by kernel_rfl

def h_transitref06_Has : Hints := ⟨[(0, [0, 1]), (1, [4])], [], []⟩
def o37_0 : List AOper := [⟨some 4, (.mov (.const (.bool false))), true, none⟩]
def c37_1 : ACode := (.region o37_0 [0, 1])
def w37_1 (_P : Program) (Q : Exit → Slots → Mem → Prop) (M : Mem) (v0 : V) (v1 : V) : Prop :=
  Q .normal [(0, v0), (1, v1)] M
theorem e37_1 (P : Program) (Q : Exit → Slots → Mem → Prop) (s : Slots) (M : Mem) : wpC P c37_1 Q s M = w37_1 P Q M (sget s 0) (sget s 1) := by kernel_rfl
def o37_2 : List AOper := [⟨some 5, (.mov (.tmp 1)), false, none⟩,
  ⟨some 6, (.bin .geq .none (.tmp 5) (.const (.int .i64 0))), true, none⟩,
  ⟨some 7, (.mov (.tmp 6)), true, none⟩,
  ⟨some 8, (.mov (.tmp 1)), false, some (7, true)⟩,
  ⟨some 9, (.bin .lss .none (.tmp 8) (.const (.int .i64 64))), true, some (7, true)⟩,
  ⟨some 10, (.pick (.tmp 7) (.tmp 9) (.const (.bool false))), true, none⟩,
  ⟨some 11, (.mov (.tmp 10)), true, none⟩,
  ⟨some 12, (.mov (.tmp 0)), false, some (11, true)⟩,
  ⟨some 13, (.mov (.tmp 1)), false, some (11, true)⟩,
  ⟨some 14, (.call i_transitref06_Power [(.tmp 13)]), false, some (11, true)⟩,
  ⟨some 15, (.bin .quo .none (.tmp 12) (.tmp 14)), false, some (11, true)⟩,
  ⟨some 16, (.bin .rem .none (.tmp 15) (.const (.int .u64 2))), false, some (11, true)⟩,
  ⟨some 17, (.bin .eql .none (.tmp 16) (.const (.int .u64 1))), true, some (11, true)⟩,
  ⟨some 18, (.pick (.tmp 11) (.tmp 17) (.const (.bool false))), true, none⟩,
  ⟨some 4, (.mov (.tmp 18)), true, none⟩]
def c37_3 : ACode := (.region o37_2 [4])
def w37_3 (P : Program) (Q : Exit → Slots → Mem → Prop) (M : Mem) (v0 : V) (v1 : V) : Prop :=
  @OptBH (binV .geq .none v1 (.int .i64 0)) ⟨fun b6_2 =>
  @BIfH b6_2
  ⟨@OptBH (binV .lss .none v1 (.int .i64 64)) ⟨fun b9_5 =>
  @BIfH b9_5
  ⟨@CallH P i_transitref06_Power [v1] M ⟨fun t14_10 M10 =>
  @OptVH (binV .quo .none v0 t14_10) ⟨fun t15_11 =>
  @OptVH (binV .rem .none t15_11 (.int .u64 2)) ⟨fun t16_12 =>
  @OptBH (binV .eql .none t16_12 (.int .u64 1)) ⟨fun b17_13 =>
  Q .normal [(4, (.bool b17_13))] M10⟩⟩⟩⟩⟩
  ⟨Q .normal [(4, (.bool false))] M⟩⟩⟩
  ⟨Q .normal [(4, (.bool false))] M⟩⟩
theorem e37_3 (P : Program) (Q : Exit → Slots → Mem → Prop) (s : Slots) (M : Mem) : wpC P c37_3 Q s M = w37_3 P Q M (sget s 0) (sget s 1) := by kernel_rfl
def c37_4 : ACode := (.seq c37_3 .ret)
def c37_5 : ACode := (.seq c37_1 c37_4)
def fn_transitref06_Has : AFn := ⟨19, [(.tmp 4)], c37_5⟩
theorem fn_transitref06_Has_ok : resFn PR h_transitref06_Has i_transitref06_Has = some fn_transitref06_Has := by kernel_rfl

def h_transitref06_With : Hints := ⟨[(0, [0, 1]), (1, [0, 1, 15]), (2, [4]), (3, [4])], [], []⟩
def o38_0 : List AOper := [⟨some 4, (.mov (.const (.int .u64 0))), false, none⟩]
def c38_1 : ACode := (.region o38_0 [0, 1])
def w38_1 (_P : Program) (Q : Exit → Slots → Mem → Prop) (M : Mem) (v0 : V) (v1 : V) : Prop :=
  Q .normal [(0, v0), (1, v1)] M
theorem e38_1 (P : Program) (Q : Exit → Slots → Mem → Prop) (s : Slots) (M : Mem) : wpC P c38_1 Q s M = w38_1 P Q M (sget s 0) (sget s 1) := by kernel_rfl
def o38_2 : List AOper := [⟨some 16, (.mov (.tmp 0)), false, none⟩,
  ⟨some 4, (.mov (.tmp 16)), false, none⟩]
def c38_3 : ACode := (.region o38_2 [4])
def w38_3 (_P : Program) (Q : Exit → Slots → Mem → Prop) (M : Mem) (v0 : V) : Prop :=
  Q .normal [(4, v0)] M
theorem e38_3 (P : Program) (Q : Exit → Slots → Mem → Prop) (s : Slots) (M : Mem) : wpC P c38_3 Q s M = w38_3 P Q M (sget s 0) := by kernel_rfl
def c38_4 : ACode := (.seq c38_3 .ret)
def o38_5 : List AOper := [⟨some 5, (.mov (.tmp 1)), false, none⟩,
  ⟨some 6, (.bin .lss .none (.tmp 5) (.const (.int .i64 0))), true, none⟩,
  ⟨some 7, (.mov (.tmp 6)), true, none⟩,
  ⟨some 8, (.mov (.tmp 1)), false, some (7, false)⟩,
  ⟨some 9, (.bin .gtr .none (.tmp 8) (.const (.int .i64 63))), true, some (7, false)⟩,
  ⟨some 10, (.pick (.tmp 7) (.const (.bool true)) (.tmp 9)), true, none⟩,
  ⟨some 11, (.mov (.tmp 10)), true, none⟩,
  ⟨some 12, (.mov (.tmp 0)), false, some (11, false)⟩,
  ⟨some 13, (.mov (.tmp 1)), false, some (11, false)⟩,
  ⟨some 14, (.call i_transitref06_Has [(.tmp 12), (.tmp 13)]), true, some (11, false)⟩,
  ⟨some 15, (.pick (.tmp 11) (.const (.bool true)) (.tmp 14)), true, none⟩]
def c38_6 : ACode := (.seq (.region o38_5 [0, 1, 15]) (.cond (.tmp 15) c38_4 .skip))
def w38_6 (P : Program) (Q : Exit → Slots → Mem → Prop) (M : Mem) (v0 : V) (v1 : V) : Prop :=
  @OptBH (binV .lss .none v1 (.int .i64 0)) ⟨fun b6_2 =>
  @BIfH b6_2
  ⟨wpC P c38_4 Q [(0, v0), (1, v1), (15, (.bool true))] M⟩
  ⟨@OptBH (binV .gtr .none v1 (.int .i64 63)) ⟨fun b9_8 =>
  @BIfH b9_8
  ⟨wpC P c38_4 Q [(0, v0), (1, v1), (15, (.bool true))] M⟩
  ⟨@CallH P i_transitref06_Has [v0, v1] M ⟨fun t14_14 M14 => @OptBH (some t14_14) ⟨fun b14_14 =>
  @BIfH b14_14
  ⟨wpC P c38_4 Q [(0, v0), (1, v1), (15, (.bool b14_14))] M14⟩
  ⟨Q .normal [(0, v0), (1, v1), (15, (.bool b14_14))] M14⟩⟩⟩⟩⟩⟩⟩
theorem e38_6 (P : Program) (Q : Exit → Slots → Mem → Prop) (s : Slots) (M : Mem) : wpC P c38_6 Q s M = w38_6 P Q M (sget s 0) (sget s 1) := by kernel_rfl
def o38_7 : List AOper := [⟨some 17, (.mov (.tmp 0)), false, none⟩,
  ⟨some 18, (.mov (.tmp 1)), false, none⟩,
  ⟨some 19, (.call i_transitref06_Power [(.tmp 18)]), false, none⟩,
  ⟨some 20, (.bin .add .none (.tmp 17) (.tmp 19)), false, none⟩,
  ⟨some 4, (.mov (.tmp 20)), false, none⟩]
def c38_8 : ACode := (.region o38_7 [4])
def w38_8 (P : Program) (Q : Exit → Slots → Mem → Prop) (M : Mem) (v0 : V) (v1 : V) : Prop :=
  @CallH P i_transitref06_Power [v1] M ⟨fun t19_3 M3 =>
  @OptVH (binV .add .none v0 t19_3) ⟨fun t20_4 =>
  Q .normal [(4, t20_4)] M3⟩⟩
theorem e38_8 (P : Program) (Q : Exit → Slots → Mem → Prop) (s : Slots) (M : Mem) : wpC P c38_8 Q s M = w38_8 P Q M (sget s 0) (sget s 1) := by kernel_rfl
def c38_9 : ACode := (.seq c38_8 .ret)
def c38_10 : ACode := (.seq c38_6 c38_9)
def c38_11 : ACode := (.seq c38_1 c38_10)
def fn_transitref06_With : AFn := ⟨21, [(.tmp 4)], c38_11⟩
theorem fn_transitref06_With_ok : resFn PR h_transitref06_With i_transitref06_With = some fn_transitref06_With := by kernel_rfl

def h_transitref06_Without : Hints := ⟨[(0, [0, 1]), (1, [0, 1, 8]), (2, [4]), (3, [4])], [], []⟩
def o39_0 : List AOper := [⟨some 4, (.mov (.const (.int .u64 0))), false, none⟩]
def c39_1 : ACode := (.region o39_0 [0, 1])
def w39_1 (_P : Program) (Q : Exit → Slots → Mem → Prop) (M : Mem) (v0 : V) (v1 : V) : Prop :=
  Q .normal [(0, v0), (1, v1)] M
theorem e39_1 (P : Program) (Q : Exit → Slots → Mem → Prop) (s : Slots) (M : Mem) : wpC P c39_1 Q s M = w39_1 P Q M (sget s 0) (sget s 1) := by kernel_rfl
def o39_2 : List AOper := [⟨some 9, (.mov (.tmp 0)), false, none⟩,
  ⟨some 4, (.mov (.tmp 9)), false, none⟩]
def c39_3 : ACode := (.region o39_2 [4])
def w39_3 (_P : Program) (Q : Exit → Slots → Mem → Prop) (M : Mem) (v0 : V) : Prop :=
  Q .normal [(4, v0)] M
theorem e39_3 (P : Program) (Q : Exit → Slots → Mem → Prop) (s : Slots) (M : Mem) : wpC P c39_3 Q s M = w39_3 P Q M (sget s 0) := by kernel_rfl
def c39_4 : ACode := (.seq c39_3 .ret)
def o39_5 : List AOper := [⟨some 5, (.mov (.tmp 0)), false, none⟩,
  ⟨some 6, (.mov (.tmp 1)), false, none⟩,
  ⟨some 7, (.call i_transitref06_Has [(.tmp 5), (.tmp 6)]), true, none⟩,
  ⟨some 8, (.un .not (.tmp 7)), true, none⟩]
def c39_6 : ACode := (.seq (.region o39_5 [0, 1, 8]) (.cond (.tmp 8) c39_4 .skip))
def w39_6 (P : Program) (Q : Exit → Slots → Mem → Prop) (M : Mem) (v0 : V) (v1 : V) : Prop :=
  @CallH P i_transitref06_Has [v0, v1] M ⟨fun t7_3 M3 => @OptBH (some t7_3) ⟨fun b7_3 =>
  @OptBH (unV .not (.bool b7_3)) ⟨fun b8_4 =>
  @BIfH b8_4
  ⟨wpC P c39_4 Q [(0, v0), (1, v1), (8, (.bool b8_4))] M3⟩
  ⟨Q .normal [(0, v0), (1, v1), (8, (.bool b8_4))] M3⟩⟩⟩⟩
theorem e39_6 (P : Program) (Q : Exit → Slots → Mem → Prop) (s : Slots) (M : Mem) : wpC P c39_6 Q s M = w39_6 P Q M (sget s 0) (sget s 1) := by kernel_rfl
def o39_7 : List AOper := [⟨some 10, (.mov (.tmp 0)), false, none⟩,
  ⟨some 11, (.mov (.tmp 1)), false, none⟩,
  ⟨some 12, (.call i_transitref06_Power [(.tmp 11)]), false, none⟩,
  ⟨some 13, (.bin .sub .none (.tmp 10) (.tmp 12)), false, none⟩,
  ⟨some 4, (.mov (.tmp 13)), false, none⟩]
def c39_8 : ACode := (.region o39_7 [4])
def w39_8 (P : Program) (Q : Exit → Slots → Mem → Prop) (M : Mem) (v0 : V) (v1 : V) : Prop :=
  @CallH P i_transitref06_Power [v1] M ⟨fun t12_3 M3 =>
  @OptVH (binV .sub .none v0 t12_3) ⟨fun t13_4 =>
  Q .normal [(4, t13_4)] M3⟩⟩
theorem e39_8 (P : Program) (Q : Exit → Slots → Mem → Prop) (s : Slots) (M : Mem) : wpC P c39_8 Q s M = w39_8 P Q M (sget s 0) (sget s 1) := by kernel_rfl
def c39_9 : ACode := (.seq c39_8 .ret)
def c39_10 : ACode := (.seq c39_6 c39_9)
def c39_11 : ACode := (.seq c39_1 c39_10)
def fn_transitref06_Without : AFn := ⟨14, [(.tmp 4)], c39_11⟩
theorem fn_transitref06_Without_ok : resFn PR h_transitref06_Without i_transitref06_Without = some fn_transitref06_Without := by kernel_rfl

def h_transitref06_Power : Hints := ⟨[(0, [0]), (1, [0, 3]), (2, [0, 3, 4]), (3, [0, 3, 4, 7]), (4, [0, 3, 4]), (5, [0, 3, 4]), (6, [2])], [(3, [0, 3, 4])], []⟩
def o40_0 : List AOper := [⟨some 2, (.mov (.const (.int .u64 0))), false, none⟩]
def c40_1 : ACode := (.region o40_0 [0])
def w40_1 (_P : Program) (Q : Exit → Slots → Mem → Prop) (M : Mem) (v0 : V) : Prop :=
  Q .normal [(0, v0)] M
theorem e40_1 (P : Program) (Q : Exit → Slots → Mem → Prop) (s : Slots) (M : Mem) : wpC P c40_1 Q s M = w40_1 P Q M (sget s 0) := by kernel_rfl
def o40_2 : List AOper := [⟨some 3, (.mov (.const (.int .u64 1))), false, none⟩]
def c40_3 : ACode := (.region o40_2 [0, 3])
def w40_3 (_P : Program) (Q : Exit → Slots → Mem → Prop) (M : Mem) (v0 : V) : Prop :=
  Q .normal [(0, v0), (3, (.int .u64 1))] M
theorem e40_3 (P : Program) (Q : Exit → Slots → Mem → Prop) (s : Slots) (M : Mem) : wpC P c40_3 Q s M = w40_3 P Q M (sget s 0) := by kernel_rfl
def o40_4 : List AOper := [⟨some 4, (.mov (.const (.int .i64 0))), false, none⟩]
def c40_5 : ACode := (.region o40_4 [0, 3, 4])
def w40_5 (_P : Program) (Q : Exit → Slots → Mem → Prop) (M : Mem) (v0 : V) (v3 : V) : Prop :=
  Q .normal [(0, v0), (3, v3), (4, (.int .i64 0))] M
theorem e40_5 (P : Program) (Q : Exit → Slots → Mem → Prop) (s : Slots) (M : Mem) : wpC P c40_5 Q s M = w40_5 P Q M (sget s 0) (sget s 3) := by kernel_rfl
def o40_6 : List AOper := [⟨some 5, (.mov (.tmp 4)), false, none⟩,
  ⟨some 6, (.mov (.tmp 0)), false, none⟩,
  ⟨some 7, (.bin .lss .none (.tmp 5) (.tmp 6)), true, none⟩]
def c40_7 : ACode := (.seq (.region o40_6 [0, 3, 4, 7]) (.cond (.tmp 7) .skip (.exit 0)))
def w40_7 (_P : Program) (Q : Exit → Slots → Mem → Prop) (M : Mem) (v0 : V) (v3 : V) (v4 : V) : Prop :=
  @OptBH (binV .lss .none v4 v0) ⟨fun b7_3 =>
  @BIfH b7_3
  ⟨Q .normal [(0, v0), (3, v3), (4, v4), (7, (.bool b7_3))] M⟩
  ⟨Q (.exit 0) [(0, v0), (3, v3), (4, v4), (7, (.bool b7_3))] M⟩⟩
theorem e40_7 (P : Program) (Q : Exit → Slots → Mem → Prop) (s : Slots) (M : Mem) : wpC P c40_7 Q s M = w40_7 P Q M (sget s 0) (sget s 3) (sget s 4) := by kernel_rfl
def o40_8 : List AOper := [⟨some 10, (.mov (.tmp 3)), false, none⟩,
  ⟨some 11, (.bin .mul .none (.tmp 10) (.const (.int .u64 2))), false, none⟩,
  ⟨some 3, (.mov (.tmp 11)), false, none⟩]
def c40_9 : ACode := (.region o40_8 [0, 3, 4])
def w40_9 (_P : Program) (Q : Exit → Slots → Mem → Prop) (M : Mem) (v0 : V) (v3 : V) (v4 : V) : Prop :=
  @OptVH (binV .mul .none v3 (.int .u64 2)) ⟨fun t11_2 =>
  Q .normal [(0, v0), (3, t11_2), (4, v4)] M⟩
theorem e40_9 (P : Program) (Q : Exit → Slots → Mem → Prop) (s : Slots) (M : Mem) : wpC P c40_9 Q s M = w40_9 P Q M (sget s 0) (sget s 3) (sget s 4) := by kernel_rfl
def c40_10 : ACode := (.block 1 c40_9)
def o40_11 : List AOper := [⟨some 8, (.mov (.tmp 4)), false, none⟩,
  ⟨some 9, (.bin .add .none (.tmp 8) (.const (.int .i64 1))), false, none⟩,
  ⟨some 4, (.mov (.tmp 9)), false, none⟩]
def c40_12 : ACode := (.region o40_11 [0, 3, 4])
def w40_12 (_P : Program) (Q : Exit → Slots → Mem → Prop) (M : Mem) (v0 : V) (v3 : V) (v4 : V) : Prop :=
  @OptVH (binV .add .none v4 (.int .i64 1)) ⟨fun t9_2 =>
  Q .normal [(0, v0), (3, v3), (4, t9_2)] M⟩
theorem e40_12 (P : Program) (Q : Exit → Slots → Mem → Prop) (s : Slots) (M : Mem) : wpC P c40_12 Q s M = w40_12 P Q M (sget s 0) (sget s 3) (sget s 4) := by kernel_rfl
def c40_13 : ACode := (.seq c40_10 c40_12)
def c40_14 : ACode := (.seq c40_7 c40_13)
def c40_15 : ACode := (.loop [0, 3, 4] c40_14)
def c40_16 : ACode := (.block 0 c40_15)
def c40_17 : ACode := (.seq c40_5 c40_16)
def o40_18 : List AOper := [⟨some 12, (.mov (.tmp 3)), false, none⟩,
  ⟨some 2, (.mov (.tmp 12)), false, none⟩]
def c40_19 : ACode := (.region o40_18 [2])
def w40_19 (_P : Program) (Q : Exit → Slots → Mem → Prop) (M : Mem) (v3 : V) : Prop :=
  Q .normal [(2, v3)] M
theorem e40_19 (P : Program) (Q : Exit → Slots → Mem → Prop) (s : Slots) (M : Mem) : wpC P c40_19 Q s M = w40_19 P Q M (sget s 3) := by kernel_rfl
def c40_20 : ACode := (.seq c40_19 .ret)
def c40_21 : ACode := (.seq c40_17 c40_20)
def c40_22 : ACode := (.seq c40_3 c40_21)
def c40_23 : ACode := (.seq c40_1 c40_22)
def fn_transitref06_Power : AFn := ⟨13, [(.tmp 2)], c40_23⟩
theorem fn_transitref06_Power_ok : resFn PR h_transitref06_Power i_transitref06_Power = some fn_transitref06_Power := by kernel_rfl

def tabL : List (Nat × AFn × Bool) := [(3, fn_transitlaw21_ProductChecks, false), (4, fn_transitlaw21_ProductSelects, false), (5, fn_transitlaw21_ProductPrices, false), (6, fn_transitlaw21_ProductCheapest, false), (7, fn_transitlaw21_ProductCovers, false), (8, fn_transitlaw21_ProductDiscounts, false), (9, fn_transitlaw21_large, false), (10, fn_transitlaw21_exampleHolds, false), (11, fn_product_Check, false), (12, fn_transitref21_Check, false), (13, fn_product_Covers, false), (14, fn_transitref21_Covers, false), (15, fn_transitref03_SameInts, false), (16, fn_product_Options, false), (17, fn_transitref21_Options, false), (18, fn_product_Price, false), (19, fn_transitref21_Price, false), (20, fn_product_Cheapest, false), (21, fn_transitref21_Cheapest, false), (22, fn_transitref21_Right, false), (23, fn_product_within, false), (24, fn_ident_Valid, false), (25, fn_transitref21_within, false), (26, fn_transitref15_Name, false), (27, fn_product_later, false), (28, fn_product_Covers_1, false), (29, fn_bitset_Set_Union, false), (30, fn_bitset_Set_Len, false), (31, fn_bitset_Set_Within, false), (32, fn_transitref06_Union, false), (33, fn_transitref06_List, false), (34, fn_transitref06_Minus, false), (35, fn_transitref21_soon, false), (36, fn_product_Cheapest_1, false), (37, fn_transitref06_Has, false), (38, fn_transitref06_With, false), (39, fn_transitref06_Without, false), (40, fn_transitref06_Power, false)]
theorem tab_ok : TabOK PR (tabOf tabL) := tabOf_cons fn_transitlaw21_ProductChecks_ok (tabOf_cons fn_transitlaw21_ProductSelects_ok (tabOf_cons fn_transitlaw21_ProductPrices_ok (tabOf_cons fn_transitlaw21_ProductCheapest_ok (tabOf_cons fn_transitlaw21_ProductCovers_ok (tabOf_cons fn_transitlaw21_ProductDiscounts_ok (tabOf_cons fn_transitlaw21_large_ok (tabOf_cons fn_transitlaw21_exampleHolds_ok (tabOf_cons fn_product_Check_ok (tabOf_cons fn_transitref21_Check_ok (tabOf_cons fn_product_Covers_ok (tabOf_cons fn_transitref21_Covers_ok (tabOf_cons fn_transitref03_SameInts_ok (tabOf_cons fn_product_Options_ok (tabOf_cons fn_transitref21_Options_ok (tabOf_cons fn_product_Price_ok (tabOf_cons fn_transitref21_Price_ok (tabOf_cons fn_product_Cheapest_ok (tabOf_cons fn_transitref21_Cheapest_ok (tabOf_cons fn_transitref21_Right_ok (tabOf_cons fn_product_within_ok (tabOf_cons fn_ident_Valid_ok (tabOf_cons fn_transitref21_within_ok (tabOf_cons fn_transitref15_Name_ok (tabOf_cons fn_product_later_ok (tabOf_cons fn_product_Covers_1_ok (tabOf_cons fn_bitset_Set_Union_ok (tabOf_cons fn_bitset_Set_Len_ok (tabOf_cons fn_bitset_Set_Within_ok (tabOf_cons fn_transitref06_Union_ok (tabOf_cons fn_transitref06_List_ok (tabOf_cons fn_transitref06_Minus_ok (tabOf_cons fn_transitref21_soon_ok (tabOf_cons fn_product_Cheapest_1_ok (tabOf_cons fn_transitref06_Has_ok (tabOf_cons fn_transitref06_With_ok (tabOf_cons fn_transitref06_Without_ok (tabOf_cons fn_transitref06_Power_ok (tabOf_nil))))))))))))))))))))))))))))))))))))))

end Go.Vm.C
