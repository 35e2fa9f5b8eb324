/- The abstract code of the functions that the statements reach, printed by a program, each with the equation that it is what the loaded program says. Part 0. -/
import Derived.Test.YtmbeokppfdalfaaProg
import Derived.Test.YtmbeokppfdalfaaVm2
import Derived.KernelRfl
namespace Go.Vm.C
open Go.Vm

abbrev i_main_main : Nat := 0
abbrev i_gosem_cut : Nat := 1
abbrev i_gosem_cut_init : Nat := 2
abbrev i_transitlaw32_InboxNews : Nat := 3
abbrev i_transitlaw32_InboxCommutes : Nat := 4
abbrev i_transitlaw32_InboxActive : Nat := 5
abbrev i_transitlaw32_InboxPlays : Nat := 6
abbrev i_transitlaw32_InboxSupersedes : Nat := 7
abbrev i_transitlaw32_InboxClones : Nat := 8
abbrev i_transitlaw32_InboxNil : Nat := 9
abbrev i_inbox_New : Nat := 10
abbrev i_transitref32_New : Nat := 11
abbrev i_transitlaw32_exampleHolds : Nat := 12
abbrev i_transitlaw32_played : Nat := 13
abbrev i_transitlaw32_shorts : Nat := 14
abbrev i_transitlaw32_small : Nat := 15
abbrev i_inbox_Inbox_Receive : Nat := 16
abbrev i_transitref32_Same : Nat := 17
abbrev i_inbox_Inbox_Active : Nat := 18
abbrev i_inbox_Inbox_Messages : Nat := 19
abbrev i_inbox_Inbox_Failed : Nat := 20
abbrev i_transitlaw32_has : Nat := 21
abbrev i_transitref31_SameTarget : Nat := 22
abbrev i_transitlaw32_lower : Nat := 23
abbrev i_transitref32_Receive : Nat := 24
abbrev i_inbox_Inbox_Heartbeat : Nat := 25
abbrev i_transitref32_Heartbeat : Nat := 26
abbrev i_transitlaw32_same : Nat := 27
abbrev i_inbox_Inbox_Sequence : Nat := 28
abbrev i_transitref31_Supersedes : Nat := 29
abbrev i_inbox_Inbox_Clone : Nat := 30
abbrev i_transitlaw32_message : Nat := 31
abbrev i_inbox_Inbox_refusal : Nat := 32
abbrev i_inbox_filtered : Nat := 33
abbrev i_inbox_Inbox_Receive_1 : Nat := 34
abbrev i_message_Supersedes : Nat := 35
abbrev i_inbox_owned : Nat := 36
abbrev i_inbox_heard_hear : Nat := 37
abbrev i_transitref31_Equal : Nat := 38
abbrev i_inbox_Inbox_Active_1 : Nat := 39
abbrev i_message_SameTarget : Nat := 40
abbrev i_inbox_inserted_api_Message : Nat := 41
abbrev i_inbox_before : Nat := 42
abbrev i_inbox_Inbox_Messages_1 : Nat := 43
abbrev i_inbox_Inbox_exists : Nat := 44
abbrev i_inbox_heard_silent : Nat := 45
abbrev i_transitref32_moment : Nat := 46
abbrev i_transitref31_Check : Nat := 47
abbrev i_transitref32_heard : Nat := 48
abbrev i_transitref32_Sequence : Nat := 49
abbrev i_transitref32_Failed : Nat := 50
abbrev i_transitref32_Active : Nat := 51
abbrev i_transitref31_Status : Nat := 52
abbrev i_message_Check : Nat := 53
abbrev i_message_status : Nat := 54
abbrev i_transitref16_Equal : Nat := 55
abbrev i_transitref15_Name : Nat := 56
abbrev i_transitref16_Check : Nat := 57
abbrev i_transitref32_active : Nat := 58
abbrev i_transitref32_before : Nat := 59
abbrev i_message_within : Nat := 60
abbrev i_ident_Valid : Nat := 61
abbrev i_date_Valid : Nat := 62
abbrev i_message_checkKind : Nat := 63
abbrev i_message_used : Nat := 64
abbrev i_transitref32_Current : Nat := 65
abbrev i_call_Check : Nat := 66
abbrev i_call_one : Nat := 67
abbrev i_runtime_boundsError_Error : Nat := 68
abbrev i_runtime_boundsError_RuntimeError : Nat := 69
abbrev i_runtime_errorString_Error : Nat := 70
abbrev i_runtime_errorString_RuntimeError : Nat := 71
abbrev i_runtime_plainError_Error : Nat := 72
abbrev i_runtime_plainError_RuntimeError : Nat := 73
abbrev i_runtime_errorAddressString_Error : Nat := 74
abbrev i_runtime_errorAddressString_RuntimeError : Nat := 75
abbrev i_runtime_TypeAssertionError_Error : Nat := 76
abbrev i_runtime_TypeAssertionError_RuntimeError : Nat := 77
abbrev i_runtime_PanicNilError_Error : Nat := 78
abbrev i_runtime_PanicNilError_RuntimeError : Nat := 79
abbrev i_internal_abi_Type_Align : Nat := 80
abbrev i_internal_runtime_maps_unhashableTypeError_Error : Nat := 81
abbrev i_internal_runtime_maps_unhashableTypeError_RuntimeError : Nat := 82
abbrev i_internal_abi_Kind_String : Nat := 83
noncomputable abbrev PR : Program := Go.Proofs.Try.prog

def h_transitlaw32_InboxCommutes : Hints := ⟨[(0, [0, 1, 5]), (1, [1, 5, 7, 8]), (2, [5, 7, 8, 58]), (3, [6]), (4, [5, 7, 8, 9, 10]), (5, [5, 7, 8, 9, 10, 11, 12]), (6, [5, 7, 8, 97]), (7, [6]), (8, [6])], [], [(1, [9999]), (4, [9999]), (5, [9999])]⟩
def o4_0 : List AOper := [⟨some 5, (.box 28 (.tmp 2)), false, none⟩,
  ⟨some 6, (.mov (.const (.bool false))), true, none⟩]
def c4_1 : ACode := (.region o4_0 [0, 1, 5])
def w4_1 (_P : Program) (Q : Exit → Slots → Mem → Prop) (M : Mem) (v0 : V) (v1 : V) (v2 : V) : Prop :=
  @OptMH (boxV 28 v2 M) ⟨fun t5_1 M1 =>
  Q .normal [(0, v0), (1, v1), (5, t5_1)] M1⟩
theorem e4_1 (P : Program) (Q : Exit → Slots → Mem → Prop) (s : Slots) (M : Mem) : wpC P c4_1 Q s M = w4_1 P Q M (sget s 0) (sget s 1) (sget s 2) := by kernel_rfl
def o4_2 : List AOper := [⟨some 13, (.mov (.tmp 0)), false, none⟩,
  ⟨some 14, (.mov (.tmp 1)), false, none⟩,
  ⟨some 15, (.mov (.tmp 1)), false, none⟩,
  ⟨some 16, (.lenSl (.tmp 15)), false, none⟩,
  ⟨some 17, (.minmax false (.tmp 16) (.const (.int .i64 40))), false, none⟩,
  ⟨some 18, (.slice 16 (.tmp 14) none (some (.tmp 17)) none), false, none⟩,
  ⟨some 20, (.mov (.tmp 0)), false, none⟩,
  ⟨some 21, (.mov (.tmp 1)), false, none⟩,
  ⟨some 22, (.mov (.tmp 1)), false, none⟩,
  ⟨some 23, (.lenSl (.tmp 22)), false, none⟩,
  ⟨some 24, (.minmax false (.tmp 23) (.const (.int .i64 40))), false, none⟩,
  ⟨some 25, (.slice 16 (.tmp 21) none (some (.tmp 24)) none), false, none⟩,
  ⟨some 19, (.call i_transitlaw32_played [(.tmp 13), (.tmp 18)]), false, none⟩,
  ⟨some 26, (.call i_transitlaw32_played [(.tmp 20), (.tmp 25)]), false, none⟩,
  ⟨some 7, (.mov (.tmp 19)), false, none⟩,
  ⟨some 8, (.mov (.tmp 26)), false, none⟩]
def c4_3 : ACode := (.float o4_2 [none, none, none, none, none, none, none, none, none, none, none, none, (some [6, 7, 8, 9, 10, 11]), (some []), none, none] [1, 5, 7, 8])
def w4_3 (P : Program) (Q : Exit → Slots → Mem → Prop) (M : Mem) (v0 : V) (v1 : V) (v5 : V) : Prop :=
  @OptVH (lenV v1 M) ⟨fun t16_4 =>
  @OptVH (minmaxV false t16_4 (.int .i64 40)) ⟨fun t17_5 =>
  @OptVH (sliceV 16 v1 none (some t17_5) none M) ⟨fun t18_6 =>
  @OptVH (lenV v1 M) ⟨fun t23_10 =>
  @OptVH (minmaxV false t23_10 (.int .i64 40)) ⟨fun t24_11 =>
  @OptVH (sliceV 16 v1 none (some t24_11) none M) ⟨fun t25_12 =>
  @CallH P i_transitlaw32_played [v0, t18_6] M ⟨fun t19_13 M13 =>
  (some v0 = some v0 ∧ some v1 = some v1 ∧ some v1 = some v1 ∧ lenV v1 M13 = some t23_10 ∧ minmaxV false t23_10 (.int .i64 40) = some t24_11 ∧ sliceV 16 v1 none (some t24_11) none M13 = some t25_12 ∧ True) ∧ (@CallH P i_transitlaw32_played [v0, t25_12] M13 ⟨fun t26_14 M14 =>
  (True) ∧ (Q .normal [(1, v1), (5, v5), (7, t19_13), (8, t26_14)] M14)⟩)⟩⟩⟩⟩⟩⟩⟩
theorem e4_3 (P : Program) (Q : Exit → Slots → Mem → Prop) (s : Slots) (M : Mem) : wpC P c4_3 Q s M = w4_3 P Q M (sget s 0) (sget s 1) (sget s 5) := by kernel_rfl
def o4_4 : List AOper := [⟨some 59, (.call i_transitlaw32_exampleHolds []), true, none⟩,
  ⟨some 6, (.mov (.tmp 59)), true, none⟩]
def c4_5 : ACode := (.region o4_4 [6])
def w4_5 (P : Program) (Q : Exit → Slots → Mem → Prop) (M : Mem) : Prop :=
  @CallH P i_transitlaw32_exampleHolds [] M ⟨fun t59_1 M1 => @OptBH (some t59_1) ⟨fun b59_1 =>
  Q .normal [(6, (.bool b59_1))] M1⟩⟩
theorem e4_5 (P : Program) (Q : Exit → Slots → Mem → Prop) (s : Slots) (M : Mem) : wpC P c4_5 Q s M = w4_5 P Q M := by kernel_rfl
def c4_6 : ACode := (.seq c4_5 .ret)
def o4_7 : List AOper := [⟨some 27, (.mov (.tmp 1)), false, none⟩,
  ⟨some 28, (.call i_transitlaw32_shorts [(.tmp 27)]), true, none⟩,
  ⟨some 29, (.un .not (.tmp 28)), true, none⟩,
  ⟨some 30, (.mov (.tmp 29)), true, none⟩,
  ⟨some 31, (.fieldAddr 0 (.tmp 5)), false, some (30, false)⟩,
  ⟨some 32, (.load 13 true (.tmp 31)), false, some (30, false)⟩,
  ⟨some 33, (.call i_transitlaw32_small [(.tmp 32)]), true, some (30, false)⟩,
  ⟨some 34, (.un .not (.tmp 33)), true, some (30, false)⟩,
  ⟨some 35, (.pick (.tmp 30) (.const (.bool true)) (.tmp 34)), true, none⟩,
  ⟨some 36, (.mov (.tmp 35)), true, none⟩,
  ⟨some 37, (.fieldAddr 13 (.tmp 5)), false, some (36, false)⟩,
  ⟨some 38, (.load 13 true (.tmp 37)), false, some (36, false)⟩,
  ⟨some 39, (.call i_transitlaw32_small [(.tmp 38)]), true, some (36, false)⟩,
  ⟨some 40, (.un .not (.tmp 39)), true, some (36, false)⟩,
  ⟨some 41, (.pick (.tmp 36) (.const (.bool true)) (.tmp 40)), true, none⟩,
  ⟨some 42, (.mov (.tmp 41)), true, none⟩,
  ⟨some 43, (.fieldAddr 0 (.tmp 5)), false, some (42, false)⟩,
  ⟨some 44, (.fieldAddr 0 (.tmp 43)), false, some (42, false)⟩,
  ⟨some 45, (.load 1 false (.tmp 44)), false, some (42, false)⟩,
  ⟨some 46, (.fieldAddr 13 (.tmp 5)), false, some (42, false)⟩,
  ⟨some 47, (.fieldAddr 0 (.tmp 46)), false, some (42, false)⟩,
  ⟨some 48, (.load 1 false (.tmp 47)), false, some (42, false)⟩,
  ⟨some 49, (.bin .eql .none (.tmp 45) (.tmp 48)), true, some (42, false)⟩,
  ⟨some 50, (.pick (.tmp 42) (.const (.bool true)) (.tmp 49)), true, none⟩,
  ⟨some 51, (.mov (.tmp 50)), true, none⟩,
  ⟨some 52, (.mov (.tmp 7)), false, some (51, false)⟩,
  ⟨some 53, (.bin .eql .ptr (.tmp 52) (.const .nilp)), true, some (51, false)⟩,
  ⟨some 54, (.pick (.tmp 51) (.const (.bool true)) (.tmp 53)), true, none⟩,
  ⟨some 55, (.mov (.tmp 54)), true, none⟩,
  ⟨some 56, (.mov (.tmp 8)), false, some (55, false)⟩,
  ⟨some 57, (.bin .eql .ptr (.tmp 56) (.const .nilp)), true, some (55, false)⟩,
  ⟨some 58, (.pick (.tmp 55) (.const (.bool true)) (.tmp 57)), true, none⟩]
def c4_8 : ACode := (.seq (.region o4_7 [5, 7, 8, 58]) (.cond (.tmp 58) c4_6 .skip))
def w4_8 (P : Program) (Q : Exit → Slots → Mem → Prop) (M : Mem) (v1 : V) (v5 : V) (v7 : V) (v8 : V) : Prop :=
  @CallH P i_transitlaw32_shorts [v1] M ⟨fun t28_2 M2 => @OptBH (some t28_2) ⟨fun b28_2 =>
  @OptBH (unV .not (.bool b28_2)) ⟨fun b29_3 =>
  @BIfH b29_3
  ⟨wpC P c4_6 Q [(5, v5), (7, v7), (8, v8), (58, (.bool true))] M2⟩
  ⟨@OptVH (moveV 0 v5) ⟨fun t31_14 =>
  @OptVH (loadV 13 true t31_14 M2) ⟨fun t32_15 =>
  @CallH P i_transitlaw32_small [t32_15] M2 ⟨fun t33_16 M16 => @OptBH (some t33_16) ⟨fun b33_16 =>
  @OptBH (unV .not (.bool b33_16)) ⟨fun b34_17 =>
  @BIfH b34_17
  ⟨wpC P c4_6 Q [(5, v5), (7, v7), (8, v8), (58, (.bool true))] M16⟩
  ⟨@OptVH (moveV 13 v5) ⟨fun t37_27 =>
  @OptVH (loadV 13 true t37_27 M16) ⟨fun t38_28 =>
  @CallH P i_transitlaw32_small [t38_28] M16 ⟨fun t39_29 M29 => @OptBH (some t39_29) ⟨fun b39_29 =>
  @OptBH (unV .not (.bool b39_29)) ⟨fun b40_30 =>
  @BIfH b40_30
  ⟨wpC P c4_6 Q [(5, v5), (7, v7), (8, v8), (58, (.bool true))] M29⟩
  ⟨@OptVH (moveV 0 v5) ⟨fun t43_38 =>
  @OptVH (moveV 0 t43_38) ⟨fun t44_39 =>
  @OptVH (loadV 1 false t44_39 M29) ⟨fun t45_40 =>
  @OptVH (moveV 13 v5) ⟨fun t46_41 =>
  @OptVH (moveV 0 t46_41) ⟨fun t47_42 =>
  @OptVH (loadV 1 false t47_42 M29) ⟨fun t48_43 =>
  @OptBH (binV .eql .none t45_40 t48_43) ⟨fun b49_44 =>
  @BIfH b49_44
  ⟨wpC P c4_6 Q [(5, v5), (7, v7), (8, v8), (58, (.bool true))] M29⟩
  ⟨@OptBH (binV .eql .ptr v7 .nilp) ⟨fun b53_51 =>
  @BIfH b53_51
  ⟨wpC P c4_6 Q [(5, v5), (7, v7), (8, v8), (58, (.bool true))] M29⟩
  ⟨@OptBH (binV .eql .ptr v8 .nilp) ⟨fun b57_56 =>
  @BIfH b57_56
  ⟨wpC P c4_6 Q [(5, v5), (7, v7), (8, v8), (58, (.bool b57_56))] M29⟩
  ⟨Q .normal [(5, v5), (7, v7), (8, v8), (58, (.bool b57_56))] M29⟩⟩⟩⟩⟩⟩⟩⟩⟩⟩⟩⟩⟩⟩⟩⟩⟩⟩⟩⟩⟩⟩⟩⟩⟩⟩⟩⟩
theorem e4_8 (P : Program) (Q : Exit → Slots → Mem → Prop) (s : Slots) (M : Mem) : wpC P c4_8 Q s M = w4_8 P Q M (sget s 1) (sget s 5) (sget s 7) (sget s 8) := by kernel_rfl
def o4_9 : List AOper := [⟨some 60, (.mov (.tmp 7)), false, none⟩,
  ⟨some 61, (.fieldAddr 0 (.tmp 5)), false, none⟩,
  ⟨some 62, (.load 13 true (.tmp 61)), false, none⟩,
  ⟨some 63, (.fieldAddr 26 (.tmp 5)), false, none⟩,
  ⟨some 64, (.load 1 false (.tmp 63)), false, none⟩,
  ⟨some 66, (.mov (.tmp 7)), false, none⟩,
  ⟨some 67, (.fieldAddr 13 (.tmp 5)), false, none⟩,
  ⟨some 68, (.load 13 true (.tmp 67)), false, none⟩,
  ⟨some 69, (.fieldAddr 26 (.tmp 5)), false, none⟩,
  ⟨some 70, (.load 1 false (.tmp 69)), false, none⟩,
  ⟨some 65, (.call i_inbox_Inbox_Receive [(.tmp 60), (.tmp 62), (.tmp 64)]), false, none⟩,
  ⟨some 71, (.call i_inbox_Inbox_Receive [(.tmp 66), (.tmp 68), (.tmp 70)]), false, none⟩,
  ⟨some 9, (.mov (.tmp 65)), false, none⟩,
  ⟨some 10, (.mov (.tmp 71)), false, none⟩]
def c4_10 : ACode := (.float o4_9 [none, none, none, none, none, none, none, none, none, none, (some [5, 6, 7, 8, 9]), (some []), none, none] [5, 7, 8, 9, 10])
def w4_10 (P : Program) (Q : Exit → Slots → Mem → Prop) (M : Mem) (v5 : V) (v7 : V) (v8 : V) : Prop :=
  @OptVH (moveV 0 v5) ⟨fun t61_2 =>
  @OptVH (loadV 13 true t61_2 M) ⟨fun t62_3 =>
  @OptVH (moveV 26 v5) ⟨fun t63_4 =>
  @OptVH (loadV 1 false t63_4 M) ⟨fun t64_5 =>
  @OptVH (moveV 13 v5) ⟨fun t67_7 =>
  @OptVH (loadV 13 true t67_7 M) ⟨fun t68_8 =>
  @OptVH (moveV 26 v5) ⟨fun t69_9 =>
  @OptVH (loadV 1 false t69_9 M) ⟨fun t70_10 =>
  @CallH P i_inbox_Inbox_Receive [v7, t62_3, t64_5] M ⟨fun t65_11 M11 =>
  (some v7 = some v7 ∧ moveV 13 v5 = some t67_7 ∧ loadV 13 true t67_7 M11 = some t68_8 ∧ moveV 26 v5 = some t69_9 ∧ loadV 1 false t69_9 M11 = some t70_10 ∧ True) ∧ (@CallH P i_inbox_Inbox_Receive [v7, t68_8, t70_10] M11 ⟨fun t71_12 M12 =>
  (True) ∧ (Q .normal [(5, v5), (7, v7), (8, v8), (9, t65_11), (10, t71_12)] M12)⟩)⟩⟩⟩⟩⟩⟩⟩⟩⟩
theorem e4_10 (P : Program) (Q : Exit → Slots → Mem → Prop) (s : Slots) (M : Mem) : wpC P c4_10 Q s M = w4_10 P Q M (sget s 5) (sget s 7) (sget s 8) := by kernel_rfl
def o4_11 : List AOper := [⟨some 72, (.mov (.tmp 8)), false, none⟩,
  ⟨some 73, (.fieldAddr 13 (.tmp 5)), false, none⟩,
  ⟨some 74, (.load 13 true (.tmp 73)), false, none⟩,
  ⟨some 75, (.fieldAddr 26 (.tmp 5)), false, none⟩,
  ⟨some 76, (.load 1 false (.tmp 75)), false, none⟩,
  ⟨some 78, (.mov (.tmp 8)), false, none⟩,
  ⟨some 79, (.fieldAddr 0 (.tmp 5)), false, none⟩,
  ⟨some 80, (.load 13 true (.tmp 79)), false, none⟩,
  ⟨some 81, (.fieldAddr 26 (.tmp 5)), false, none⟩,
  ⟨some 82, (.load 1 false (.tmp 81)), false, none⟩,
  ⟨some 77, (.call i_inbox_Inbox_Receive [(.tmp 72), (.tmp 74), (.tmp 76)]), false, none⟩,
  ⟨some 83, (.call i_inbox_Inbox_Receive [(.tmp 78), (.tmp 80), (.tmp 82)]), false, none⟩,
  ⟨some 11, (.mov (.tmp 77)), false, none⟩,
  ⟨some 12, (.mov (.tmp 83)), false, none⟩]
def c4_12 : ACode := (.float o4_11 [none, none, none, none, none, none, none, none, none, none, (some [5, 6, 7, 8, 9]), (some []), none, none] [5, 7, 8, 9, 10, 11, 12])
def w4_12 (P : Program) (Q : Exit → Slots → Mem → Prop) (M : Mem) (v5 : V) (v7 : V) (v8 : V) (v9 : V) (v10 : V) : Prop :=
  @OptVH (moveV 13 v5) ⟨fun t73_2 =>
  @OptVH (loadV 13 true t73_2 M) ⟨fun t74_3 =>
  @OptVH (moveV 26 v5) ⟨fun t75_4 =>
  @OptVH (loadV 1 false t75_4 M) ⟨fun t76_5 =>
  @OptVH (moveV 0 v5) ⟨fun t79_7 =>
  @OptVH (loadV 13 true t79_7 M) ⟨fun t80_8 =>
  @OptVH (moveV 26 v5) ⟨fun t81_9 =>
  @OptVH (loadV 1 false t81_9 M) ⟨fun t82_10 =>
  @CallH P i_inbox_Inbox_Receive [v8, t74_3, t76_5] M ⟨fun t77_11 M11 =>
  (some v8 = some v8 ∧ moveV 0 v5 = some t79_7 ∧ loadV 13 true t79_7 M11 = some t80_8 ∧ moveV 26 v5 = some t81_9 ∧ loadV 1 false t81_9 M11 = some t82_10 ∧ True) ∧ (@CallH P i_inbox_Inbox_Receive [v8, t80_8, t82_10] M11 ⟨fun t83_12 M12 =>
  (True) ∧ (Q .normal [(5, v5), (7, v7), (8, v8), (9, v9), (10, v10), (11, t77_11), (12, t83_12)] M12)⟩)⟩⟩⟩⟩⟩⟩⟩⟩⟩
theorem e4_12 (P : Program) (Q : Exit → Slots → Mem → Prop) (s : Slots) (M : Mem) : wpC P c4_12 Q s M = w4_12 P Q M (sget s 5) (sget s 7) (sget s 8) (sget s 9) (sget s 10) := by kernel_rfl
def o4_13 : List AOper := [⟨some 98, (.call i_transitlaw32_exampleHolds []), true, none⟩,
  ⟨some 6, (.mov (.tmp 98)), true, none⟩]
def c4_14 : ACode := (.region o4_13 [6])
def w4_14 (P : Program) (Q : Exit → Slots → Mem → Prop) (M : Mem) : Prop :=
  @CallH P i_transitlaw32_exampleHolds [] M ⟨fun t98_1 M1 => @OptBH (some t98_1) ⟨fun b98_1 =>
  Q .normal [(6, (.bool b98_1))] M1⟩⟩
theorem e4_14 (P : Program) (Q : Exit → Slots → Mem → Prop) (s : Slots) (M : Mem) : wpC P c4_14 Q s M = w4_14 P Q M := by kernel_rfl
def c4_15 : ACode := (.seq c4_14 .ret)
def o4_16 : List AOper := [⟨some 84, (.mov (.tmp 9)), false, none⟩,
  ⟨some 85, (.bin .neq .none (.tmp 84) (.const (.int .i64 0))), true, none⟩,
  ⟨some 86, (.mov (.tmp 85)), true, none⟩,
  ⟨some 87, (.mov (.tmp 10)), false, some (86, false)⟩,
  ⟨some 88, (.bin .neq .none (.tmp 87) (.const (.int .i64 0))), true, some (86, false)⟩,
  ⟨some 89, (.pick (.tmp 86) (.const (.bool true)) (.tmp 88)), true, none⟩,
  ⟨some 90, (.mov (.tmp 89)), true, none⟩,
  ⟨some 91, (.mov (.tmp 11)), false, some (90, false)⟩,
  ⟨some 92, (.bin .neq .none (.tmp 91) (.const (.int .i64 0))), true, some (90, false)⟩,
  ⟨some 93, (.pick (.tmp 90) (.const (.bool true)) (.tmp 92)), true, none⟩,
  ⟨some 94, (.mov (.tmp 93)), true, none⟩,
  ⟨some 95, (.mov (.tmp 12)), false, some (94, false)⟩,
  ⟨some 96, (.bin .neq .none (.tmp 95) (.const (.int .i64 0))), true, some (94, false)⟩,
  ⟨some 97, (.pick (.tmp 94) (.const (.bool true)) (.tmp 96)), true, none⟩]
def c4_17 : ACode := (.seq (.region o4_16 [5, 7, 8, 97]) (.cond (.tmp 97) c4_15 .skip))
def w4_17 (P : Program) (Q : Exit → Slots → Mem → Prop) (M : Mem) (v5 : V) (v7 : V) (v8 : V) (v9 : V) (v10 : V) (v11 : V) (v12 : V) : Prop :=
  @OptBH (binV .neq .none v9 (.int .i64 0)) ⟨fun b85_2 =>
  @BIfH b85_2
  ⟨wpC P c4_15 Q [(5, v5), (7, v7), (8, v8), (97, (.bool true))] M⟩
  ⟨@OptBH (binV .neq .none v10 (.int .i64 0)) ⟨fun b88_10 =>
  @BIfH b88_10
  ⟨wpC P c4_15 Q [(5, v5), (7, v7), (8, v8), (97, (.bool true))] M⟩
  ⟨@OptBH (binV .neq .none v11 (.int .i64 0)) ⟨fun b92_17 =>
  @BIfH b92_17
  ⟨wpC P c4_15 Q [(5, v5), (7, v7), (8, v8), (97, (.bool true))] M⟩
  ⟨@OptBH (binV .neq .none v12 (.int .i64 0)) ⟨fun b96_22 =>
  @BIfH b96_22
  ⟨wpC P c4_15 Q [(5, v5), (7, v7), (8, v8), (97, (.bool b96_22))] M⟩
  ⟨Q .normal [(5, v5), (7, v7), (8, v8), (97, (.bool b96_22))] M⟩⟩⟩⟩⟩⟩⟩⟩
theorem e4_17 (P : Program) (Q : Exit → Slots → Mem → Prop) (s : Slots) (M : Mem) : wpC P c4_17 Q s M = w4_17 P Q M (sget s 5) (sget s 7) (sget s 8) (sget s 9) (sget s 10) (sget s 11) (sget s 12) := by kernel_rfl
def o4_18 : List AOper := [⟨some 99, (.mov (.tmp 7)), false, none⟩,
  ⟨some 100, (.fieldAddr 27 (.tmp 5)), false, none⟩,
  ⟨some 101, (.load 1 false (.tmp 100)), false, none⟩,
  ⟨some 102, (.call i_inbox_Inbox_Active [(.tmp 99), (.tmp 101)]), false, none⟩,
  ⟨some 103, (.mov (.tmp 8)), false, none⟩,
  ⟨some 104, (.fieldAddr 27 (.tmp 5)), false, none⟩,
  ⟨some 105, (.load 1 false (.tmp 104)), false, none⟩,
  ⟨some 106, (.call i_inbox_Inbox_Active [(.tmp 103), (.tmp 105)]), false, none⟩,
  ⟨some 107, (.call i_transitref32_Same [(.tmp 102), (.tmp 106)]), true, none⟩,
  ⟨some 108, (.mov (.tmp 107)), true, none⟩,
  ⟨some 109, (.call i_transitlaw32_exampleHolds []), true, some (108, true)⟩,
  ⟨some 110, (.pick (.tmp 108) (.tmp 109) (.const (.bool false))), true, none⟩,
  ⟨some 6, (.mov (.tmp 110)), true, none⟩]
def c4_19 : ACode := (.mixed o4_18 [true, true, true, true, true, true, true, false, false, true, false, true, true] [6])
def w4_19 (P : Program) (Q : Exit → Slots → Mem → Prop) (M : Mem) (v5 : V) (v7 : V) (v8 : V) : Prop :=
  @OptVH (moveV 27 v5) ⟨fun t100_2 =>
  @OptVH (loadV 1 false t100_2 M) ⟨fun t101_3 =>
  @CallQ P i_inbox_Inbox_Active [v7, t101_3] M ⟨fun t102_4 M4 =>
  @OptVH (moveV 27 v5) ⟨fun t104_6 =>
  @OptVH (loadV 1 false t104_6 M4) ⟨fun t105_7 =>
  @CallH P i_inbox_Inbox_Active [v8, t105_7] M4 ⟨fun t106_8 M8 =>
  @CallH P i_transitref32_Same [t102_4, t106_8] M8 ⟨fun t107_9 M9 => @OptBH (some t107_9) ⟨fun b107_9 =>
  @BIfH b107_9
  ⟨@CallH P i_transitlaw32_exampleHolds [] M9 ⟨fun t109_11 M11 => @OptBH (some t109_11) ⟨fun b109_11 =>
  Q .normal [(6, (.bool b109_11))] M11⟩⟩⟩
  ⟨Q .normal [(6, (.bool false))] M9⟩⟩⟩⟩⟩⟩⟩⟩⟩
theorem e4_19 (P : Program) (Q : Exit → Slots → Mem → Prop) (s : Slots) (M : Mem) : wpC P c4_19 Q s M = w4_19 P Q M (sget s 5) (sget s 7) (sget s 8) := by kernel_rfl
def c4_20 : ACode := (.seq c4_19 .ret)
def c4_21 : ACode := (.seq c4_17 c4_20)
def c4_22 : ACode := (.seq c4_12 c4_21)
def c4_23 : ACode := (.seq c4_10 c4_22)
def c4_24 : ACode := (.seq c4_8 c4_23)
def c4_25 : ACode := (.seq c4_3 c4_24)
def c4_26 : ACode := (.seq c4_1 c4_25)
def fn_transitlaw32_InboxCommutes : AFn := ⟨111, [(.tmp 6)], c4_26⟩
theorem fn_transitlaw32_InboxCommutes_ok : resFn PR h_transitlaw32_InboxCommutes i_transitlaw32_InboxCommutes = some fn_transitlaw32_InboxCommutes := by kernel_rfl

def h_inbox_New : Hints := ⟨[(0, [0, 1]), (1, [0, 1, 11]), (2, [4, 5]), (3, [0, 1, 17]), (4, [4, 5]), (5, [4, 5])], [], []⟩
def o10_0 : List AOper := [⟨some 4, (.mov (.const .nilp)), false, none⟩,
  ⟨some 5, (.mov (.const (.int .i64 0))), false, none⟩]
def c10_1 : ACode := (.region o10_0 [0, 1])
def w10_1 (_P : Program) (Q : Exit → Slots → Mem → Prop) (M : Mem) (v0 : V) (v1 : V) : Prop :=
  Q .normal [(0, v0), (1, v1)] M
theorem e10_1 (P : Program) (Q : Exit → Slots → Mem → Prop) (s : Slots) (M : Mem) : wpC P c10_1 Q s M = w10_1 P Q M (sget s 0) (sget s 1) := by kernel_rfl
def o10_2 : List AOper := [⟨some 4, (.mov (.const .nilp)), false, none⟩,
  ⟨some 5, (.mov (.const (.int .i64 36))), false, none⟩]
def c10_3 : ACode := (.region o10_2 [4, 5])
def w10_3 (_P : Program) (Q : Exit → Slots → Mem → Prop) (M : Mem) : Prop :=
  Q .normal [(4, .nilp), (5, (.int .i64 36))] M
theorem e10_3 (P : Program) (Q : Exit → Slots → Mem → Prop) (s : Slots) (M : Mem) : wpC P c10_3 Q s M = w10_3 P Q M := by kernel_rfl
def c10_4 : ACode := (.seq c10_3 .ret)
def o10_5 : List AOper := [⟨some 6, (.mov (.tmp 0)), false, none⟩,
  ⟨some 7, (.bin .lss .none (.tmp 6) (.const (.int .i64 1))), true, none⟩,
  ⟨some 8, (.mov (.tmp 7)), true, none⟩,
  ⟨some 9, (.mov (.tmp 0)), false, some (8, false)⟩,
  ⟨some 10, (.bin .gtr .none (.tmp 9) (.const (.int .i64 8))), true, some (8, false)⟩,
  ⟨some 11, (.pick (.tmp 8) (.const (.bool true)) (.tmp 10)), true, none⟩]
def c10_6 : ACode := (.seq (.region o10_5 [0, 1, 11]) (.cond (.tmp 11) c10_4 .skip))
def w10_6 (P : Program) (Q : Exit → Slots → Mem → Prop) (M : Mem) (v0 : V) (v1 : V) : Prop :=
  @OptBH (binV .lss .none v0 (.int .i64 1)) ⟨fun b7_2 =>
  @BIfH b7_2
  ⟨wpC P c10_4 Q [(0, v0), (1, v1), (11, (.bool true))] M⟩
  ⟨@OptBH (binV .gtr .none v0 (.int .i64 8)) ⟨fun b10_6 =>
  @BIfH b10_6
  ⟨wpC P c10_4 Q [(0, v0), (1, v1), (11, (.bool b10_6))] M⟩
  ⟨Q .normal [(0, v0), (1, v1), (11, (.bool b10_6))] M⟩⟩⟩⟩
theorem e10_6 (P : Program) (Q : Exit → Slots → Mem → Prop) (s : Slots) (M : Mem) : wpC P c10_6 Q s M = w10_6 P Q M (sget s 0) (sget s 1) := by kernel_rfl
def o10_7 : List AOper := [⟨some 4, (.mov (.const .nilp)), false, none⟩,
  ⟨some 5, (.mov (.const (.int .i64 2))), false, none⟩]
def c10_8 : ACode := (.region o10_7 [4, 5])
def w10_8 (_P : Program) (Q : Exit → Slots → Mem → Prop) (M : Mem) : Prop :=
  Q .normal [(4, .nilp), (5, (.int .i64 2))] M
theorem e10_8 (P : Program) (Q : Exit → Slots → Mem → Prop) (s : Slots) (M : Mem) : wpC P c10_8 Q s M = w10_8 P Q M := by kernel_rfl
def c10_9 : ACode := (.seq c10_8 .ret)
def o10_10 : List AOper := [⟨some 12, (.mov (.tmp 1)), false, none⟩,
  ⟨some 13, (.bin .lss .none (.tmp 12) (.const (.int .i64 0))), true, none⟩,
  ⟨some 14, (.mov (.tmp 13)), true, none⟩,
  ⟨some 15, (.mov (.tmp 1)), false, some (14, false)⟩,
  ⟨some 16, (.bin .gtr .none (.tmp 15) (.const (.int .i64 86400))), true, some (14, false)⟩,
  ⟨some 17, (.pick (.tmp 14) (.const (.bool true)) (.tmp 16)), true, none⟩]
def c10_11 : ACode := (.seq (.region o10_10 [0, 1, 17]) (.cond (.tmp 17) c10_9 .skip))
def w10_11 (P : Program) (Q : Exit → Slots → Mem → Prop) (M : Mem) (v0 : V) (v1 : V) : Prop :=
  @OptBH (binV .lss .none v1 (.int .i64 0)) ⟨fun b13_2 =>
  @BIfH b13_2
  ⟨wpC P c10_9 Q [(0, v0), (1, v1), (17, (.bool true))] M⟩
  ⟨@OptBH (binV .gtr .none v1 (.int .i64 86400)) ⟨fun b16_6 =>
  @BIfH b16_6
  ⟨wpC P c10_9 Q [(0, v0), (1, v1), (17, (.bool b16_6))] M⟩
  ⟨Q .normal [(0, v0), (1, v1), (17, (.bool b16_6))] M⟩⟩⟩⟩
theorem e10_11 (P : Program) (Q : Exit → Slots → Mem → Prop) (s : Slots) (M : Mem) : wpC P c10_11 Q s M = w10_11 P Q M (sget s 0) (sget s 1) := by kernel_rfl
def o10_12 : List AOper := [⟨some 18, (.mov (.tmp 0)), false, none⟩,
  ⟨some 19, (.makeSlice [(.bool false), (.int .i64 0), (.bool false), (.int .i64 0)] 4 32 (.tmp 18) (.tmp 18)), false, none⟩,
  ⟨some 20, (.mov (.tmp 1)), false, none⟩,
  ⟨some 21, (.build [(.slice [] .nil), (.int .i64 0), (.slice [] .nil)] [(0, (1, (.tmp 19))), (1, (1, (.tmp 20)))]), false, none⟩,
  ⟨some 22, (.box 3 (.tmp 21)), false, none⟩,
  ⟨some 4, (.mov (.tmp 22)), false, none⟩,
  ⟨some 5, (.mov (.const (.int .i64 0))), false, none⟩]
def c10_13 : ACode := (.region o10_12 [4, 5])
def w10_13 (_P : Program) (Q : Exit → Slots → Mem → Prop) (M : Mem) (v0 : V) (v1 : V) : Prop :=
  @OptMH (makeSliceV [(.bool false), (.int .i64 0), (.bool false), (.int .i64 0)] 4 32 v0 v0 M) ⟨fun t19_2 M2 =>
  @OptVH (buildV [(.slice [] .nil), (.int .i64 0), (.slice [] .nil)] [(0, 1, t19_2), (1, 1, v1)]) ⟨fun t21_4 =>
  @OptMH (boxV 3 t21_4 M2) ⟨fun t22_5 M5 =>
  Q .normal [(4, t22_5), (5, (.int .i64 0))] M5⟩⟩⟩
theorem e10_13 (P : Program) (Q : Exit → Slots → Mem → Prop) (s : Slots) (M : Mem) : wpC P c10_13 Q s M = w10_13 P Q M (sget s 0) (sget s 1) := by kernel_rfl
def c10_14 : ACode := (.seq c10_13 .ret)
def c10_15 : ACode := (.seq c10_11 c10_14)
def c10_16 : ACode := (.seq c10_6 c10_15)
def c10_17 : ACode := (.seq c10_1 c10_16)
def fn_inbox_New : AFn := ⟨23, [(.tmp 4), (.tmp 5)], c10_17⟩
theorem fn_inbox_New_ok : resFn PR h_inbox_New i_inbox_New = some fn_inbox_New := by kernel_rfl

def h_transitlaw32_exampleHolds : Hints := ⟨[(0, []), (1, [1, 2]), (2, [1, 17]), (3, [0]), (4, [1, 3]), (5, [1, 3, 4]), (6, [1, 3, 4, 5]), (7, [1, 3, 4, 5, 6, 7]), (8, [0])], [], []⟩
def o12_0 : List AOper := [⟨some 0, (.mov (.const (.bool false))), true, none⟩]
def c12_1 : ACode := (.region o12_0 [])
def w12_1 (_P : Program) (Q : Exit → Slots → Mem → Prop) (M : Mem) : Prop :=
  Q .normal [] M
theorem e12_1 (P : Program) (Q : Exit → Slots → Mem → Prop) (s : Slots) (M : Mem) : wpC P c12_1 Q s M = w12_1 P Q M := by kernel_rfl
def o12_2 : List AOper := [⟨some 9, (.call i_inbox_New [(.const (.int .i64 2)), (.const (.int .i64 300))]), false, none⟩,
  ⟨some 8, (.mov (.tmp 9)), false, none⟩,
  ⟨some 10, (.extract (.tmp 8) 0), false, none⟩,
  ⟨some 11, (.extract (.tmp 8) 1), false, none⟩,
  ⟨some 1, (.mov (.tmp 10)), false, none⟩,
  ⟨some 2, (.mov (.tmp 11)), false, none⟩]
def c12_3 : ACode := (.region o12_2 [1, 2])
def w12_3 (P : Program) (Q : Exit → Slots → Mem → Prop) (M : Mem) : Prop :=
  @CallH P i_inbox_New [(.int .i64 2), (.int .i64 300)] M ⟨fun t9_1 M1 =>
  @OptVH (extractV t9_1 0) ⟨fun t10_3 =>
  @OptVH (extractV t9_1 1) ⟨fun t11_4 =>
  Q .normal [(1, t10_3), (2, t11_4)] M1⟩⟩⟩
theorem e12_3 (P : Program) (Q : Exit → Slots → Mem → Prop) (s : Slots) (M : Mem) : wpC P c12_3 Q s M = w12_3 P Q M := by kernel_rfl
def o12_4 : List AOper := [⟨some 0, (.mov (.const (.bool false))), true, none⟩]
def c12_5 : ACode := (.region o12_4 [0])
def w12_5 (_P : Program) (Q : Exit → Slots → Mem → Prop) (M : Mem) : Prop :=
  Q .normal [(0, (.bool false))] M
theorem e12_5 (P : Program) (Q : Exit → Slots → Mem → Prop) (s : Slots) (M : Mem) : wpC P c12_5 Q s M = w12_5 P Q M := by kernel_rfl
def c12_6 : ACode := (.seq c12_5 .ret)
def o12_7 : List AOper := [⟨some 12, (.mov (.tmp 1)), false, none⟩,
  ⟨some 13, (.bin .eql .ptr (.tmp 12) (.const .nilp)), true, none⟩,
  ⟨some 14, (.mov (.tmp 13)), true, none⟩,
  ⟨some 15, (.mov (.tmp 2)), false, some (14, false)⟩,
  ⟨some 16, (.bin .neq .none (.tmp 15) (.const (.int .i64 0))), true, some (14, false)⟩,
  ⟨some 17, (.pick (.tmp 14) (.const (.bool true)) (.tmp 16)), true, none⟩]
def c12_8 : ACode := (.seq (.region o12_7 [1, 17]) (.cond (.tmp 17) c12_6 .skip))
def w12_8 (P : Program) (Q : Exit → Slots → Mem → Prop) (M : Mem) (v1 : V) (v2 : V) : Prop :=
  @OptBH (binV .eql .ptr v1 .nilp) ⟨fun b13_2 =>
  @BIfH b13_2
  ⟨wpC P c12_6 Q [(1, v1), (17, (.bool true))] M⟩
  ⟨@OptBH (binV .neq .none v2 (.int .i64 0)) ⟨fun b16_6 =>
  @BIfH b16_6
  ⟨wpC P c12_6 Q [(1, v1), (17, (.bool b16_6))] M⟩
  ⟨Q .normal [(1, v1), (17, (.bool b16_6))] M⟩⟩⟩⟩
theorem e12_8 (P : Program) (Q : Exit → Slots → Mem → Prop) (s : Slots) (M : Mem) : wpC P c12_8 Q s M = w12_8 P Q M (sget s 1) (sget s 2) := by kernel_rfl
def o12_9 : List AOper := [⟨some 18, (.mov (.tmp 1)), false, none⟩,
  ⟨some 19, (.call i_transitlaw32_message [(.const (.int .i64 0)), (.const (.int .i64 1)), (.const (.int .i64 900)), (.const (.int .i64 5000))]), false, none⟩,
  ⟨some 20, (.call i_inbox_Inbox_Receive [(.tmp 18), (.tmp 19), (.const (.int .i64 1000))]), false, none⟩,
  ⟨some 3, (.mov (.tmp 20)), false, none⟩]
def c12_10 : ACode := (.region o12_9 [1, 3])
def w12_10 (P : Program) (Q : Exit → Slots → Mem → Prop) (M : Mem) (v1 : V) : Prop :=
  @CallH P i_transitlaw32_message [(.int .i64 0), (.int .i64 1), (.int .i64 900), (.int .i64 5000)] M ⟨fun t19_2 M2 =>
  @CallH P i_inbox_Inbox_Receive [v1, t19_2, (.int .i64 1000)] M2 ⟨fun t20_3 M3 =>
  Q .normal [(1, v1), (3, t20_3)] M3⟩⟩
theorem e12_10 (P : Program) (Q : Exit → Slots → Mem → Prop) (s : Slots) (M : Mem) : wpC P c12_10 Q s M = w12_10 P Q M (sget s 1) := by kernel_rfl
def o12_11 : List AOper := [⟨some 21, (.mov (.tmp 1)), false, none⟩,
  ⟨some 22, (.call i_transitlaw32_message [(.const (.int .i64 0)), (.const (.int .i64 1)), (.const (.int .i64 900)), (.const (.int .i64 5000))]), false, none⟩,
  ⟨some 23, (.call i_inbox_Inbox_Receive [(.tmp 21), (.tmp 22), (.const (.int .i64 1000))]), false, none⟩,
  ⟨some 4, (.mov (.tmp 23)), false, none⟩]
def c12_12 : ACode := (.region o12_11 [1, 3, 4])
def w12_12 (P : Program) (Q : Exit → Slots → Mem → Prop) (M : Mem) (v1 : V) (v3 : V) : Prop :=
  @CallH P i_transitlaw32_message [(.int .i64 0), (.int .i64 1), (.int .i64 900), (.int .i64 5000)] M ⟨fun t22_2 M2 =>
  @CallH P i_inbox_Inbox_Receive [v1, t22_2, (.int .i64 1000)] M2 ⟨fun t23_3 M3 =>
  Q .normal [(1, v1), (3, v3), (4, t23_3)] M3⟩⟩
theorem e12_12 (P : Program) (Q : Exit → Slots → Mem → Prop) (s : Slots) (M : Mem) : wpC P c12_12 Q s M = w12_12 P Q M (sget s 1) (sget s 3) := by kernel_rfl
def o12_13 : List AOper := [⟨some 24, (.mov (.tmp 1)), false, none⟩,
  ⟨some 25, (.call i_transitlaw32_message [(.const (.int .i64 1)), (.const (.int .i64 7)), (.const (.int .i64 900)), (.const (.int .i64 5000))]), false, none⟩,
  ⟨some 26, (.call i_inbox_Inbox_Receive [(.tmp 24), (.tmp 25), (.const (.int .i64 1200))]), false, none⟩,
  ⟨some 5, (.mov (.tmp 26)), false, none⟩]
def c12_14 : ACode := (.region o12_13 [1, 3, 4, 5])
def w12_14 (P : Program) (Q : Exit → Slots → Mem → Prop) (M : Mem) (v1 : V) (v3 : V) (v4 : V) : Prop :=
  @CallH P i_transitlaw32_message [(.int .i64 1), (.int .i64 7), (.int .i64 900), (.int .i64 5000)] M ⟨fun t25_2 M2 =>
  @CallH P i_inbox_Inbox_Receive [v1, t25_2, (.int .i64 1200)] M2 ⟨fun t26_3 M3 =>
  Q .normal [(1, v1), (3, v3), (4, v4), (5, t26_3)] M3⟩⟩
theorem e12_14 (P : Program) (Q : Exit → Slots → Mem → Prop) (s : Slots) (M : Mem) : wpC P c12_14 Q s M = w12_14 P Q M (sget s 1) (sget s 3) (sget s 4) := by kernel_rfl
def o12_15 : List AOper := [⟨some 27, (.mov (.tmp 1)), false, none⟩,
  ⟨some 28, (.call i_inbox_Inbox_Active [(.tmp 27), (.const (.int .i64 1300))]), false, none⟩,
  ⟨some 29, (.mov (.tmp 1)), false, none⟩,
  ⟨some 30, (.call i_inbox_Inbox_Active [(.tmp 29), (.const (.int .i64 1301))]), false, none⟩,
  ⟨some 6, (.mov (.tmp 28)), false, none⟩,
  ⟨some 7, (.mov (.tmp 30)), false, none⟩]
def c12_16 : ACode := (.region o12_15 [1, 3, 4, 5, 6, 7])
def w12_16 (P : Program) (Q : Exit → Slots → Mem → Prop) (M : Mem) (v1 : V) (v3 : V) (v4 : V) (v5 : V) : Prop :=
  @CallH P i_inbox_Inbox_Active [v1, (.int .i64 1300)] M ⟨fun t28_2 M2 =>
  @CallH P i_inbox_Inbox_Active [v1, (.int .i64 1301)] M2 ⟨fun t30_4 M4 =>
  Q .normal [(1, v1), (3, v3), (4, v4), (5, v5), (6, t28_2), (7, t30_4)] M4⟩⟩
theorem e12_16 (P : Program) (Q : Exit → Slots → Mem → Prop) (s : Slots) (M : Mem) : wpC P c12_16 Q s M = w12_16 P Q M (sget s 1) (sget s 3) (sget s 4) (sget s 5) := by kernel_rfl
def o12_17 : List AOper := [⟨some 31, (.mov (.tmp 3)), false, none⟩,
  ⟨some 32, (.bin .eql .none (.tmp 31) (.const (.int .i64 0))), true, none⟩,
  ⟨some 33, (.mov (.tmp 32)), true, none⟩,
  ⟨some 34, (.mov (.tmp 4)), false, some (33, true)⟩,
  ⟨some 35, (.bin .eql .none (.tmp 34) (.const (.int .i64 37))), true, some (33, true)⟩,
  ⟨some 36, (.pick (.tmp 33) (.tmp 35) (.const (.bool false))), true, none⟩,
  ⟨some 37, (.mov (.tmp 36)), true, none⟩,
  ⟨some 38, (.mov (.tmp 5)), false, some (37, true)⟩,
  ⟨some 39, (.bin .eql .none (.tmp 38) (.const (.int .i64 0))), true, some (37, true)⟩,
  ⟨some 40, (.pick (.tmp 37) (.tmp 39) (.const (.bool false))), true, none⟩,
  ⟨some 41, (.mov (.tmp 40)), true, none⟩,
  ⟨some 42, (.mov (.tmp 6)), false, some (41, true)⟩,
  ⟨some 43, (.lenSl (.tmp 42)), false, some (41, true)⟩,
  ⟨some 44, (.bin .eql .none (.tmp 43) (.const (.int .i64 1))), true, some (41, true)⟩,
  ⟨some 45, (.pick (.tmp 41) (.tmp 44) (.const (.bool false))), true, none⟩,
  ⟨some 46, (.mov (.tmp 45)), true, none⟩,
  ⟨some 47, (.mov (.tmp 6)), false, some (46, true)⟩,
  ⟨some 48, (.indexSl 13 (.tmp 47) (.const (.int .i64 0))), false, some (46, true)⟩,
  ⟨some 49, (.fieldAddr 0 (.tmp 48)), false, some (46, true)⟩,
  ⟨some 50, (.load 1 false (.tmp 49)), false, some (46, true)⟩,
  ⟨some 51, (.bin .eql .none (.tmp 50) (.const (.int .i64 0))), true, some (46, true)⟩,
  ⟨some 52, (.pick (.tmp 46) (.tmp 51) (.const (.bool false))), true, none⟩,
  ⟨some 53, (.mov (.tmp 52)), true, none⟩,
  ⟨some 54, (.mov (.tmp 7)), false, some (53, true)⟩,
  ⟨some 55, (.lenSl (.tmp 54)), false, some (53, true)⟩,
  ⟨some 56, (.bin .eql .none (.tmp 55) (.const (.int .i64 1))), true, some (53, true)⟩,
  ⟨some 57, (.pick (.tmp 53) (.tmp 56) (.const (.bool false))), true, none⟩,
  ⟨some 58, (.mov (.tmp 57)), true, none⟩,
  ⟨some 59, (.mov (.tmp 7)), false, some (58, true)⟩,
  ⟨some 60, (.indexSl 13 (.tmp 59) (.const (.int .i64 0))), false, some (58, true)⟩,
  ⟨some 61, (.fieldAddr 0 (.tmp 60)), false, some (58, true)⟩,
  ⟨some 62, (.load 1 false (.tmp 61)), false, some (58, true)⟩,
  ⟨some 63, (.bin .eql .none (.tmp 62) (.const (.int .i64 1))), true, some (58, true)⟩,
  ⟨some 64, (.pick (.tmp 58) (.tmp 63) (.const (.bool false))), true, none⟩,
  ⟨some 65, (.mov (.tmp 64)), true, none⟩,
  ⟨some 66, (.mov (.tmp 1)), false, some (65, true)⟩,
  ⟨some 67, (.call i_inbox_Inbox_Failed [(.tmp 66), (.const (.int .i64 0)), (.const (.int .i64 1301))]), true, some (65, true)⟩,
  ⟨some 68, (.pick (.tmp 65) (.tmp 67) (.const (.bool false))), true, none⟩,
  ⟨some 69, (.mov (.tmp 68)), true, none⟩,
  ⟨some 70, (.mov (.tmp 1)), false, some (69, true)⟩,
  ⟨some 71, (.call i_inbox_Inbox_Failed [(.tmp 70), (.const (.int .i64 0)), (.const (.int .i64 1300))]), true, some (69, true)⟩,
  ⟨some 72, (.un .not (.tmp 71)), true, some (69, true)⟩,
  ⟨some 73, (.pick (.tmp 69) (.tmp 72) (.const (.bool false))), true, none⟩,
  ⟨some 0, (.mov (.tmp 73)), true, none⟩]
def c12_18 : ACode := (.region o12_17 [0])
def w12_18 (P : Program) (Q : Exit → Slots → Mem → Prop) (M : Mem) (v1 : V) (v3 : V) (v4 : V) (v5 : V) (v6 : V) (v7 : V) : Prop :=
  @OptBH (binV .eql .none v3 (.int .i64 0)) ⟨fun b32_2 =>
  @BIfH b32_2
  ⟨@OptBH (binV .eql .none v4 (.int .i64 37)) ⟨fun b35_5 =>
  @BIfH b35_5
  ⟨@OptBH (binV .eql .none v5 (.int .i64 0)) ⟨fun b39_9 =>
  @BIfH b39_9
  ⟨@OptVH (lenV v6 M) ⟨fun t43_13 =>
  @OptBH (binV .eql .none t43_13 (.int .i64 1)) ⟨fun b44_14 =>
  @BIfH b44_14
  ⟨@OptVH (indexSlV 13 v6 (.int .i64 0) M) ⟨fun t48_18 =>
  @OptVH (moveV 0 t48_18) ⟨fun t49_19 =>
  @OptVH (loadV 1 false t49_19 M) ⟨fun t50_20 =>
  @OptBH (binV .eql .none t50_20 (.int .i64 0)) ⟨fun b51_21 =>
  @BIfH b51_21
  ⟨@OptVH (lenV v7 M) ⟨fun t55_25 =>
  @OptBH (binV .eql .none t55_25 (.int .i64 1)) ⟨fun b56_26 =>
  @BIfH b56_26
  ⟨@OptVH (indexSlV 13 v7 (.int .i64 0) M) ⟨fun t60_30 =>
  @OptVH (moveV 0 t60_30) ⟨fun t61_31 =>
  @OptVH (loadV 1 false t61_31 M) ⟨fun t62_32 =>
  @OptBH (binV .eql .none t62_32 (.int .i64 1)) ⟨fun b63_33 =>
  @BIfH b63_33
  ⟨@CallH P i_inbox_Inbox_Failed [v1, (.int .i64 0), (.int .i64 1301)] M ⟨fun t67_37 M37 => @OptBH (some t67_37) ⟨fun b67_37 =>
  @BIfH b67_37
  ⟨@CallH P i_inbox_Inbox_Failed [v1, (.int .i64 0), (.int .i64 1300)] M37 ⟨fun t71_41 M41 => @OptBH (some t71_41) ⟨fun b71_41 =>
  @OptBH (unV .not (.bool b71_41)) ⟨fun b72_42 =>
  Q .normal [(0, (.bool b72_42))] M41⟩⟩⟩⟩
  ⟨Q .normal [(0, (.bool false))] M37⟩⟩⟩⟩
  ⟨Q .normal [(0, (.bool false))] M⟩⟩⟩⟩⟩⟩
  ⟨Q .normal [(0, (.bool false))] M⟩⟩⟩⟩
  ⟨Q .normal [(0, (.bool false))] M⟩⟩⟩⟩⟩⟩
  ⟨Q .normal [(0, (.bool false))] M⟩⟩⟩⟩
  ⟨Q .normal [(0, (.bool false))] M⟩⟩⟩
  ⟨Q .normal [(0, (.bool false))] M⟩⟩⟩
  ⟨Q .normal [(0, (.bool false))] M⟩⟩
theorem e12_18 (P : Program) (Q : Exit → Slots → Mem → Prop) (s : Slots) (M : Mem) : wpC P c12_18 Q s M = w12_18 P Q M (sget s 1) (sget s 3) (sget s 4) (sget s 5) (sget s 6) (sget s 7) := by kernel_rfl
def c12_19 : ACode := (.seq c12_18 .ret)
def c12_20 : ACode := (.seq c12_16 c12_19)
def c12_21 : ACode := (.seq c12_14 c12_20)
def c12_22 : ACode := (.seq c12_12 c12_21)
def c12_23 : ACode := (.seq c12_10 c12_22)
def c12_24 : ACode := (.seq c12_8 c12_23)
def c12_25 : ACode := (.seq c12_3 c12_24)
def c12_26 : ACode := (.seq c12_1 c12_25)
def fn_transitlaw32_exampleHolds : AFn := ⟨74, [(.tmp 0)], c12_26⟩
theorem fn_transitlaw32_exampleHolds_ok : resFn PR h_transitlaw32_exampleHolds i_transitlaw32_exampleHolds = some fn_transitlaw32_exampleHolds := by kernel_rfl

def h_transitlaw32_played : Hints := ⟨[(0, [0, 1]), (1, [1, 5, 6]), (2, [1, 5, 19]), (3, [4]), (4, [5, 20, 21, 22]), (5, [5, 20, 21, 22, 23]), (6, [5, 8, 20, 21, 22]), (7, [5, 8, 20, 21, 22, 28]), (8, [5, 8, 20, 21, 22]), (9, [5, 8, 20, 21, 22, 37]), (10, [5, 20, 21, 22]), (11, [5, 20, 21, 22]), (12, [4])], [(5, [5, 20, 21, 22])], []⟩
def o13_0 : List AOper := [⟨some 4, (.mov (.const .nilp)), false, none⟩]
def c13_1 : ACode := (.region o13_0 [0, 1])
def w13_1 (_P : Program) (Q : Exit → Slots → Mem → Prop) (M : Mem) (v0 : V) (v1 : V) : Prop :=
  Q .normal [(0, v0), (1, v1)] M
theorem e13_1 (P : Program) (Q : Exit → Slots → Mem → Prop) (s : Slots) (M : Mem) : wpC P c13_1 Q s M = w13_1 P Q M (sget s 0) (sget s 1) := by kernel_rfl
def o13_2 : List AOper := [⟨some 10, (.mov (.tmp 0)), false, none⟩,
  ⟨some 11, (.call i_inbox_New [(.const (.int .i64 3)), (.tmp 10)]), false, none⟩,
  ⟨some 9, (.mov (.tmp 11)), false, none⟩,
  ⟨some 12, (.extract (.tmp 9) 0), false, none⟩,
  ⟨some 13, (.extract (.tmp 9) 1), false, none⟩,
  ⟨some 5, (.mov (.tmp 12)), false, none⟩,
  ⟨some 6, (.mov (.tmp 13)), false, none⟩]
def c13_3 : ACode := (.region o13_2 [1, 5, 6])
def w13_3 (P : Program) (Q : Exit → Slots → Mem → Prop) (M : Mem) (v0 : V) (v1 : V) : Prop :=
  @CallH P i_inbox_New [(.int .i64 3), v0] M ⟨fun t11_2 M2 =>
  @OptVH (extractV t11_2 0) ⟨fun t12_4 =>
  @OptVH (extractV t11_2 1) ⟨fun t13_5 =>
  Q .normal [(1, v1), (5, t12_4), (6, t13_5)] M2⟩⟩⟩
theorem e13_3 (P : Program) (Q : Exit → Slots → Mem → Prop) (s : Slots) (M : Mem) : wpC P c13_3 Q s M = w13_3 P Q M (sget s 0) (sget s 1) := by kernel_rfl
def o13_4 : List AOper := [⟨some 4, (.mov (.const .nilp)), false, none⟩]
def c13_5 : ACode := (.region o13_4 [4])
def w13_5 (_P : Program) (Q : Exit → Slots → Mem → Prop) (M : Mem) : Prop :=
  Q .normal [(4, .nilp)] M
theorem e13_5 (P : Program) (Q : Exit → Slots → Mem → Prop) (s : Slots) (M : Mem) : wpC P c13_5 Q s M = w13_5 P Q M := by kernel_rfl
def c13_6 : ACode := (.seq c13_5 .ret)
def o13_7 : List AOper := [⟨some 14, (.mov (.tmp 6)), false, none⟩,
  ⟨some 15, (.bin .neq .none (.tmp 14) (.const (.int .i64 0))), true, none⟩,
  ⟨some 16, (.mov (.tmp 15)), true, none⟩,
  ⟨some 17, (.mov (.tmp 5)), false, some (16, false)⟩,
  ⟨some 18, (.bin .eql .ptr (.tmp 17) (.const .nilp)), true, some (16, false)⟩,
  ⟨some 19, (.pick (.tmp 16) (.const (.bool true)) (.tmp 18)), true, none⟩]
def c13_8 : ACode := (.seq (.region o13_7 [1, 5, 19]) (.cond (.tmp 19) c13_6 .skip))
def w13_8 (P : Program) (Q : Exit → Slots → Mem → Prop) (M : Mem) (v1 : V) (v5 : V) (v6 : V) : Prop :=
  @OptBH (binV .neq .none v6 (.int .i64 0)) ⟨fun b15_2 =>
  @BIfH b15_2
  ⟨wpC P c13_6 Q [(1, v1), (5, v5), (19, (.bool true))] M⟩
  ⟨@OptBH (binV .eql .ptr v5 .nilp) ⟨fun b18_6 =>
  @BIfH b18_6
  ⟨wpC P c13_6 Q [(1, v1), (5, v5), (19, (.bool b18_6))] M⟩
  ⟨Q .normal [(1, v1), (5, v5), (19, (.bool b18_6))] M⟩⟩⟩⟩
theorem e13_8 (P : Program) (Q : Exit → Slots → Mem → Prop) (s : Slots) (M : Mem) : wpC P c13_8 Q s M = w13_8 P Q M (sget s 1) (sget s 5) (sget s 6) := by kernel_rfl
def o13_9 : List AOper := [⟨some 20, (.mov (.tmp 1)), false, none⟩,
  ⟨some 21, (.lenSl (.tmp 20)), false, none⟩,
  ⟨some 22, (.mov (.const (.int .i64 0))), false, none⟩]
def c13_10 : ACode := (.region o13_9 [5, 20, 21, 22])
def w13_10 (_P : Program) (Q : Exit → Slots → Mem → Prop) (M : Mem) (v1 : V) (v5 : V) : Prop :=
  @OptVH (lenV v1 M) ⟨fun t21_2 =>
  Q .normal [(5, v5), (20, v1), (21, t21_2), (22, (.int .i64 0))] M⟩
theorem e13_10 (P : Program) (Q : Exit → Slots → Mem → Prop) (s : Slots) (M : Mem) : wpC P c13_10 Q s M = w13_10 P Q M (sget s 1) (sget s 5) := by kernel_rfl
def o13_11 : List AOper := [⟨some 23, (.bin .lss .none (.tmp 22) (.tmp 21)), false, none⟩]
def c13_12 : ACode := (.region o13_11 [5, 20, 21, 22, 23])
def w13_12 (_P : Program) (Q : Exit → Slots → Mem → Prop) (M : Mem) (v5 : V) (v20 : V) (v21 : V) (v22 : V) : Prop :=
  @OptVH (binV .lss .none v22 v21) ⟨fun t23_1 =>
  Q .normal [(5, v5), (20, v20), (21, v21), (22, v22), (23, t23_1)] M⟩
theorem e13_12 (P : Program) (Q : Exit → Slots → Mem → Prop) (s : Slots) (M : Mem) : wpC P c13_12 Q s M = w13_12 P Q M (sget s 5) (sget s 20) (sget s 21) (sget s 22) := by kernel_rfl
def c13_13 : ACode := (.cond (.tmp 23) .skip (.exit 0))
def o13_14 : List AOper := [⟨some 24, (.indexSl 16 (.tmp 20) (.tmp 22)), false, none⟩,
  ⟨some 25, (.load 16 true (.tmp 24)), false, none⟩,
  ⟨some 8, (.alloc [(.int .i64 0), (.int .i64 0), (.int .i64 0), (.int .i64 0), (.int .i64 0), (.int .i64 0), (.str []), (.int .i64 0), (.int .i64 0), (.int .i64 0), (.int .i64 0), (.int .i64 0), (.bool false), (.slice [] .nil), (.int .i64 0), (.int .i64 0)]), false, none⟩,
  ⟨none, (.store 16 (.tmp 8) (.tmp 25)), false, none⟩]
def c13_15 : ACode := (.region o13_14 [5, 8, 20, 21, 22])
def w13_15 (_P : Program) (Q : Exit → Slots → Mem → Prop) (M : Mem) (v5 : V) (v20 : V) (v21 : V) (v22 : V) : Prop :=
  @OptVH (indexSlV 16 v20 v22 M) ⟨fun t24_1 =>
  @OptVH (loadV 16 true t24_1 M) ⟨fun t25_2 =>
  @OptMH (allocV [(.int .i64 0), (.int .i64 0), (.int .i64 0), (.int .i64 0), (.int .i64 0), (.int .i64 0), (.str []), (.int .i64 0), (.int .i64 0), (.int .i64 0), (.int .i64 0), (.int .i64 0), (.bool false), (.slice [] .nil), (.int .i64 0), (.int .i64 0)] M) ⟨fun t8_3 M3 =>
  @OptMH (storeVM 16 t8_3 t25_2 M3) ⟨fun _tx_4 M4 =>
  Q .normal [(5, v5), (8, t8_3), (20, v20), (21, v21), (22, v22)] M4⟩⟩⟩⟩
theorem e13_15 (P : Program) (Q : Exit → Slots → Mem → Prop) (s : Slots) (M : Mem) : wpC P c13_15 Q s M = w13_15 P Q M (sget s 5) (sget s 20) (sget s 21) (sget s 22) := by kernel_rfl
def o13_16 : List AOper := [⟨some 29, (.mov (.tmp 5)), false, none⟩,
  ⟨some 30, (.fieldAddr 1 (.tmp 8)), false, none⟩,
  ⟨some 31, (.load 13 true (.tmp 30)), false, none⟩,
  ⟨some 32, (.fieldAddr 15 (.tmp 8)), false, none⟩,
  ⟨some 33, (.load 1 false (.tmp 32)), false, none⟩,
  ⟨some 34, (.call i_inbox_Inbox_Receive [(.tmp 29), (.tmp 31), (.tmp 33)]), false, none⟩]
def c13_17 : ACode := (.region o13_16 [5, 8, 20, 21, 22])
def w13_17 (P : Program) (Q : Exit → Slots → Mem → Prop) (M : Mem) (v5 : V) (v8 : V) (v20 : V) (v21 : V) (v22 : V) : Prop :=
  @OptVH (moveV 1 v8) ⟨fun t30_2 =>
  @OptVH (loadV 13 true t30_2 M) ⟨fun t31_3 =>
  @OptVH (moveV 15 v8) ⟨fun t32_4 =>
  @OptVH (loadV 1 false t32_4 M) ⟨fun t33_5 =>
  @CallH P i_inbox_Inbox_Receive [v5, t31_3, t33_5] M ⟨fun _t34_6 M6 =>
  Q .normal [(5, v5), (8, v8), (20, v20), (21, v21), (22, v22)] M6⟩⟩⟩⟩⟩
theorem e13_17 (P : Program) (Q : Exit → Slots → Mem → Prop) (s : Slots) (M : Mem) : wpC P c13_17 Q s M = w13_17 P Q M (sget s 5) (sget s 8) (sget s 20) (sget s 21) (sget s 22) := by kernel_rfl
def o13_18 : List AOper := [⟨some 26, (.fieldAddr 0 (.tmp 8)), false, none⟩,
  ⟨some 27, (.load 1 false (.tmp 26)), false, none⟩,
  ⟨some 28, (.bin .eql .none (.tmp 27) (.const (.int .i64 0))), true, none⟩]
def c13_19 : ACode := (.seq (.region o13_18 [5, 8, 20, 21, 22, 28]) (.cond (.tmp 28) c13_17 .skip))
def w13_19 (P : Program) (Q : Exit → Slots → Mem → Prop) (M : Mem) (v5 : V) (v8 : V) (v20 : V) (v21 : V) (v22 : V) : Prop :=
  @OptVH (moveV 0 v8) ⟨fun t26_1 =>
  @OptVH (loadV 1 false t26_1 M) ⟨fun t27_2 =>
  @OptBH (binV .eql .none t27_2 (.int .i64 0)) ⟨fun b28_3 =>
  @BIfH b28_3
  ⟨wpC P c13_17 Q [(5, v5), (8, v8), (20, v20), (21, v21), (22, v22), (28, (.bool b28_3))] M⟩
  ⟨Q .normal [(5, v5), (8, v8), (20, v20), (21, v21), (22, v22), (28, (.bool b28_3))] M⟩⟩⟩⟩
theorem e13_19 (P : Program) (Q : Exit → Slots → Mem → Prop) (s : Slots) (M : Mem) : wpC P c13_19 Q s M = w13_19 P Q M (sget s 5) (sget s 8) (sget s 20) (sget s 21) (sget s 22) := by kernel_rfl
def o13_20 : List AOper := [⟨some 38, (.mov (.tmp 5)), false, none⟩,
  ⟨some 39, (.fieldAddr 14 (.tmp 8)), false, none⟩,
  ⟨some 40, (.load 1 false (.tmp 39)), false, none⟩,
  ⟨some 41, (.fieldAddr 15 (.tmp 8)), false, none⟩,
  ⟨some 42, (.load 1 false (.tmp 41)), false, none⟩,
  ⟨some 43, (.call i_inbox_Inbox_Heartbeat [(.tmp 38), (.tmp 40), (.tmp 42)]), false, none⟩]
def c13_21 : ACode := (.region o13_20 [5, 20, 21, 22])
def w13_21 (P : Program) (Q : Exit → Slots → Mem → Prop) (M : Mem) (v5 : V) (v8 : V) (v20 : V) (v21 : V) (v22 : V) : Prop :=
  @OptVH (moveV 14 v8) ⟨fun t39_2 =>
  @OptVH (loadV 1 false t39_2 M) ⟨fun t40_3 =>
  @OptVH (moveV 15 v8) ⟨fun t41_4 =>
  @OptVH (loadV 1 false t41_4 M) ⟨fun t42_5 =>
  @CallH P i_inbox_Inbox_Heartbeat [v5, t40_3, t42_5] M ⟨fun _t43_6 M6 =>
  Q .normal [(5, v5), (20, v20), (21, v21), (22, v22)] M6⟩⟩⟩⟩⟩
theorem e13_21 (P : Program) (Q : Exit → Slots → Mem → Prop) (s : Slots) (M : Mem) : wpC P c13_21 Q s M = w13_21 P Q M (sget s 5) (sget s 8) (sget s 20) (sget s 21) (sget s 22) := by kernel_rfl
def o13_22 : List AOper := [⟨some 35, (.fieldAddr 0 (.tmp 8)), false, none⟩,
  ⟨some 36, (.load 1 false (.tmp 35)), false, none⟩,
  ⟨some 37, (.bin .eql .none (.tmp 36) (.const (.int .i64 1))), true, none⟩]
def c13_23 : ACode := (.seq (.region o13_22 [5, 8, 20, 21, 22, 37]) (.cond (.tmp 37) c13_21 .skip))
def w13_23 (P : Program) (Q : Exit → Slots → Mem → Prop) (M : Mem) (v5 : V) (v8 : V) (v20 : V) (v21 : V) (v22 : V) : Prop :=
  @OptVH (moveV 0 v8) ⟨fun t35_1 =>
  @OptVH (loadV 1 false t35_1 M) ⟨fun t36_2 =>
  @OptBH (binV .eql .none t36_2 (.int .i64 1)) ⟨fun b37_3 =>
  @BIfH b37_3
  ⟨wpC P c13_21 Q [(5, v5), (8, v8), (20, v20), (21, v21), (22, v22), (37, (.bool b37_3))] M⟩
  ⟨Q .normal [(5, v5), (8, v8), (20, v20), (21, v21), (22, v22), (37, (.bool b37_3))] M⟩⟩⟩⟩
theorem e13_23 (P : Program) (Q : Exit → Slots → Mem → Prop) (s : Slots) (M : Mem) : wpC P c13_23 Q s M = w13_23 P Q M (sget s 5) (sget s 8) (sget s 20) (sget s 21) (sget s 22) := by kernel_rfl
def c13_24 : ACode := (.seq c13_19 c13_23)
def c13_25 : ACode := (.seq c13_15 c13_24)
def c13_26 : ACode := (.block 1 c13_25)
def o13_27 : List AOper := [⟨some 44, (.bin .add .none (.tmp 22) (.const (.int .i64 1))), false, none⟩,
  ⟨some 22, (.mov (.tmp 44)), false, none⟩]
def c13_28 : ACode := (.region o13_27 [5, 20, 21, 22])
def w13_28 (_P : Program) (Q : Exit → Slots → Mem → Prop) (M : Mem) (v5 : V) (v20 : V) (v21 : V) (v22 : V) : Prop :=
  @OptVH (binV .add .none v22 (.int .i64 1)) ⟨fun t44_1 =>
  Q .normal [(5, v5), (20, v20), (21, v21), (22, t44_1)] M⟩
theorem e13_28 (P : Program) (Q : Exit → Slots → Mem → Prop) (s : Slots) (M : Mem) : wpC P c13_28 Q s M = w13_28 P Q M (sget s 5) (sget s 20) (sget s 21) (sget s 22) := by kernel_rfl
def c13_29 : ACode := (.seq c13_26 c13_28)
def c13_30 : ACode := (.seq c13_13 c13_29)
def c13_31 : ACode := (.seq c13_12 c13_30)
def c13_32 : ACode := (.loop [5, 20, 21, 22] c13_31)
def c13_33 : ACode := (.block 0 c13_32)
def c13_34 : ACode := (.seq c13_10 c13_33)
def o13_35 : List AOper := [⟨some 45, (.mov (.tmp 5)), false, none⟩,
  ⟨some 4, (.mov (.tmp 45)), false, none⟩]
def c13_36 : ACode := (.region o13_35 [4])
def w13_36 (_P : Program) (Q : Exit → Slots → Mem → Prop) (M : Mem) (v5 : V) : Prop :=
  Q .normal [(4, v5)] M
theorem e13_36 (P : Program) (Q : Exit → Slots → Mem → Prop) (s : Slots) (M : Mem) : wpC P c13_36 Q s M = w13_36 P Q M (sget s 5) := by kernel_rfl
def c13_37 : ACode := (.seq c13_36 .ret)
def c13_38 : ACode := (.seq c13_34 c13_37)
def c13_39 : ACode := (.seq c13_8 c13_38)
def c13_40 : ACode := (.seq c13_3 c13_39)
def c13_41 : ACode := (.seq c13_1 c13_40)
def fn_transitlaw32_played : AFn := ⟨46, [(.tmp 4)], c13_41⟩
theorem fn_transitlaw32_played_ok : resFn PR h_transitlaw32_played i_transitlaw32_played = some fn_transitlaw32_played := by kernel_rfl

def h_transitlaw32_shorts : Hints := ⟨[(0, [0]), (1, [0, 7]), (2, [2]), (3, [8, 9, 10]), (4, [8, 9, 10, 11]), (5, [4, 8, 9, 10]), (6, [8, 9, 10, 17]), (7, [2]), (8, [8, 9, 10]), (9, [2])], [(4, [8, 9, 10])], []⟩
def o14_0 : List AOper := [⟨some 2, (.mov (.const (.bool false))), true, none⟩]
def c14_1 : ACode := (.region o14_0 [0])
def w14_1 (_P : Program) (Q : Exit → Slots → Mem → Prop) (M : Mem) (v0 : V) : Prop :=
  Q .normal [(0, v0)] M
theorem e14_1 (P : Program) (Q : Exit → Slots → Mem → Prop) (s : Slots) (M : Mem) : wpC P c14_1 Q s M = w14_1 P Q M (sget s 0) := by kernel_rfl
def o14_2 : List AOper := [⟨some 2, (.mov (.const (.bool false))), true, none⟩]
def c14_3 : ACode := (.region o14_2 [2])
def w14_3 (_P : Program) (Q : Exit → Slots → Mem → Prop) (M : Mem) : Prop :=
  Q .normal [(2, (.bool false))] M
theorem e14_3 (P : Program) (Q : Exit → Slots → Mem → Prop) (s : Slots) (M : Mem) : wpC P c14_3 Q s M = w14_3 P Q M := by kernel_rfl
def c14_4 : ACode := (.seq c14_3 .ret)
def o14_5 : List AOper := [⟨some 5, (.mov (.tmp 0)), false, none⟩,
  ⟨some 6, (.lenSl (.tmp 5)), false, none⟩,
  ⟨some 7, (.bin .gtr .none (.tmp 6) (.const (.int .i64 40))), true, none⟩]
def c14_6 : ACode := (.seq (.region o14_5 [0, 7]) (.cond (.tmp 7) c14_4 .skip))
def w14_6 (P : Program) (Q : Exit → Slots → Mem → Prop) (M : Mem) (v0 : V) : Prop :=
  @OptVH (lenV v0 M) ⟨fun t6_2 =>
  @OptBH (binV .gtr .none t6_2 (.int .i64 40)) ⟨fun b7_3 =>
  @BIfH b7_3
  ⟨wpC P c14_4 Q [(0, v0), (7, (.bool b7_3))] M⟩
  ⟨Q .normal [(0, v0), (7, (.bool b7_3))] M⟩⟩⟩
theorem e14_6 (P : Program) (Q : Exit → Slots → Mem → Prop) (s : Slots) (M : Mem) : wpC P c14_6 Q s M = w14_6 P Q M (sget s 0) := by kernel_rfl
def o14_7 : List AOper := [⟨some 8, (.mov (.tmp 0)), false, none⟩,
  ⟨some 9, (.lenSl (.tmp 8)), false, none⟩,
  ⟨some 10, (.mov (.const (.int .i64 0))), false, none⟩]
def c14_8 : ACode := (.region o14_7 [8, 9, 10])
def w14_8 (_P : Program) (Q : Exit → Slots → Mem → Prop) (M : Mem) (v0 : V) : Prop :=
  @OptVH (lenV v0 M) ⟨fun t9_2 =>
  Q .normal [(8, v0), (9, t9_2), (10, (.int .i64 0))] M⟩
theorem e14_8 (P : Program) (Q : Exit → Slots → Mem → Prop) (s : Slots) (M : Mem) : wpC P c14_8 Q s M = w14_8 P Q M (sget s 0) := by kernel_rfl
def o14_9 : List AOper := [⟨some 11, (.bin .lss .none (.tmp 10) (.tmp 9)), false, none⟩]
def c14_10 : ACode := (.region o14_9 [8, 9, 10, 11])
def w14_10 (_P : Program) (Q : Exit → Slots → Mem → Prop) (M : Mem) (v8 : V) (v9 : V) (v10 : V) : Prop :=
  @OptVH (binV .lss .none v10 v9) ⟨fun t11_1 =>
  Q .normal [(8, v8), (9, v9), (10, v10), (11, t11_1)] M⟩
theorem e14_10 (P : Program) (Q : Exit → Slots → Mem → Prop) (s : Slots) (M : Mem) : wpC P c14_10 Q s M = w14_10 P Q M (sget s 8) (sget s 9) (sget s 10) := by kernel_rfl
def c14_11 : ACode := (.cond (.tmp 11) .skip (.exit 0))
def o14_12 : List AOper := [⟨some 12, (.indexSl 16 (.tmp 8) (.tmp 10)), false, none⟩,
  ⟨some 13, (.load 16 true (.tmp 12)), false, none⟩,
  ⟨some 4, (.alloc [(.int .i64 0), (.int .i64 0), (.int .i64 0), (.int .i64 0), (.int .i64 0), (.int .i64 0), (.str []), (.int .i64 0), (.int .i64 0), (.int .i64 0), (.int .i64 0), (.int .i64 0), (.bool false), (.slice [] .nil), (.int .i64 0), (.int .i64 0)]), false, none⟩,
  ⟨none, (.store 16 (.tmp 4) (.tmp 13)), false, none⟩]
def c14_13 : ACode := (.region o14_12 [4, 8, 9, 10])
def w14_13 (_P : Program) (Q : Exit → Slots → Mem → Prop) (M : Mem) (v8 : V) (v9 : V) (v10 : V) : Prop :=
  @OptVH (indexSlV 16 v8 v10 M) ⟨fun t12_1 =>
  @OptVH (loadV 16 true t12_1 M) ⟨fun t13_2 =>
  @OptMH (allocV [(.int .i64 0), (.int .i64 0), (.int .i64 0), (.int .i64 0), (.int .i64 0), (.int .i64 0), (.str []), (.int .i64 0), (.int .i64 0), (.int .i64 0), (.int .i64 0), (.int .i64 0), (.bool false), (.slice [] .nil), (.int .i64 0), (.int .i64 0)] M) ⟨fun t4_3 M3 =>
  @OptMH (storeVM 16 t4_3 t13_2 M3) ⟨fun _tx_4 M4 =>
  Q .normal [(4, t4_3), (8, v8), (9, v9), (10, v10)] M4⟩⟩⟩⟩
theorem e14_13 (P : Program) (Q : Exit → Slots → Mem → Prop) (s : Slots) (M : Mem) : wpC P c14_13 Q s M = w14_13 P Q M (sget s 8) (sget s 9) (sget s 10) := by kernel_rfl
def o14_14 : List AOper := [⟨some 2, (.mov (.const (.bool false))), true, none⟩]
def c14_15 : ACode := (.region o14_14 [2])
def w14_15 (_P : Program) (Q : Exit → Slots → Mem → Prop) (M : Mem) : Prop :=
  Q .normal [(2, (.bool false))] M
theorem e14_15 (P : Program) (Q : Exit → Slots → Mem → Prop) (s : Slots) (M : Mem) : wpC P c14_15 Q s M = w14_15 P Q M := by kernel_rfl
def c14_16 : ACode := (.seq c14_15 .ret)
def o14_17 : List AOper := [⟨some 14, (.fieldAddr 1 (.tmp 4)), false, none⟩,
  ⟨some 15, (.load 13 true (.tmp 14)), false, none⟩,
  ⟨some 16, (.call i_transitlaw32_small [(.tmp 15)]), true, none⟩,
  ⟨some 17, (.un .not (.tmp 16)), true, none⟩]
def c14_18 : ACode := (.seq (.region o14_17 [8, 9, 10, 17]) (.cond (.tmp 17) c14_16 .skip))
def w14_18 (P : Program) (Q : Exit → Slots → Mem → Prop) (M : Mem) (v4 : V) (v8 : V) (v9 : V) (v10 : V) : Prop :=
  @OptVH (moveV 1 v4) ⟨fun t14_1 =>
  @OptVH (loadV 13 true t14_1 M) ⟨fun t15_2 =>
  @CallH P i_transitlaw32_small [t15_2] M ⟨fun t16_3 M3 => @OptBH (some t16_3) ⟨fun b16_3 =>
  @OptBH (unV .not (.bool b16_3)) ⟨fun b17_4 =>
  @BIfH b17_4
  ⟨wpC P c14_16 Q [(8, v8), (9, v9), (10, v10), (17, (.bool b17_4))] M3⟩
  ⟨Q .normal [(8, v8), (9, v9), (10, v10), (17, (.bool b17_4))] M3⟩⟩⟩⟩⟩⟩
theorem e14_18 (P : Program) (Q : Exit → Slots → Mem → Prop) (s : Slots) (M : Mem) : wpC P c14_18 Q s M = w14_18 P Q M (sget s 4) (sget s 8) (sget s 9) (sget s 10) := by kernel_rfl
def c14_19 : ACode := (.seq c14_13 c14_18)
def c14_20 : ACode := (.block 1 c14_19)
def o14_21 : List AOper := [⟨some 18, (.bin .add .none (.tmp 10) (.const (.int .i64 1))), false, none⟩,
  ⟨some 10, (.mov (.tmp 18)), false, none⟩]
def c14_22 : ACode := (.region o14_21 [8, 9, 10])
def w14_22 (_P : Program) (Q : Exit → Slots → Mem → Prop) (M : Mem) (v8 : V) (v9 : V) (v10 : V) : Prop :=
  @OptVH (binV .add .none v10 (.int .i64 1)) ⟨fun t18_1 =>
  Q .normal [(8, v8), (9, v9), (10, t18_1)] M⟩
theorem e14_22 (P : Program) (Q : Exit → Slots → Mem → Prop) (s : Slots) (M : Mem) : wpC P c14_22 Q s M = w14_22 P Q M (sget s 8) (sget s 9) (sget s 10) := by kernel_rfl
def c14_23 : ACode := (.seq c14_20 c14_22)
def c14_24 : ACode := (.seq c14_11 c14_23)
def c14_25 : ACode := (.seq c14_10 c14_24)
def c14_26 : ACode := (.loop [8, 9, 10] c14_25)
def c14_27 : ACode := (.block 0 c14_26)
def c14_28 : ACode := (.seq c14_8 c14_27)
def o14_29 : List AOper := [⟨some 2, (.mov (.const (.bool true))), true, none⟩]
def c14_30 : ACode := (.region o14_29 [2])
def w14_30 (_P : Program) (Q : Exit → Slots → Mem → Prop) (M : Mem) : Prop :=
  Q .normal [(2, (.bool true))] M
theorem e14_30 (P : Program) (Q : Exit → Slots → Mem → Prop) (s : Slots) (M : Mem) : wpC P c14_30 Q s M = w14_30 P Q M := by kernel_rfl
def c14_31 : ACode := (.seq c14_30 .ret)
def c14_32 : ACode := (.seq c14_28 c14_31)
def c14_33 : ACode := (.seq c14_6 c14_32)
def c14_34 : ACode := (.seq c14_1 c14_33)
def fn_transitlaw32_shorts : AFn := ⟨19, [(.tmp 2)], c14_34⟩
theorem fn_transitlaw32_shorts_ok : resFn PR h_transitlaw32_shorts i_transitlaw32_shorts = some fn_transitlaw32_shorts := by kernel_rfl

def h_transitlaw32_small : Hints := ⟨[(0, [1]), (1, [2])], [], []⟩
def o15_0 : List AOper := [⟨some 1, (.box 13 (.tmp 0)), false, none⟩,
  ⟨some 2, (.mov (.const (.bool false))), true, none⟩]
def c15_1 : ACode := (.region o15_0 [1])
def w15_1 (_P : Program) (Q : Exit → Slots → Mem → Prop) (M : Mem) (v0 : V) : Prop :=
  @OptMH (boxV 13 v0 M) ⟨fun t1_1 M1 =>
  Q .normal [(1, t1_1)] M1⟩
theorem e15_1 (P : Program) (Q : Exit → Slots → Mem → Prop) (s : Slots) (M : Mem) : wpC P c15_1 Q s M = w15_1 P Q M (sget s 0) := by kernel_rfl
def o15_2 : List AOper := [⟨some 3, (.fieldAddr 12 (.tmp 1)), false, none⟩,
  ⟨some 4, (.load 1 false (.tmp 3)), false, none⟩,
  ⟨some 5, (.lenSl (.tmp 4)), false, none⟩,
  ⟨some 6, (.bin .leq .none (.tmp 5) (.const (.int .i64 40))), true, none⟩,
  ⟨some 7, (.mov (.tmp 6)), true, none⟩,
  ⟨some 8, (.fieldAddr 5 (.tmp 1)), false, some (7, true)⟩,
  ⟨some 9, (.load 1 false (.tmp 8)), false, some (7, true)⟩,
  ⟨some 10, (.lenStr (.tmp 9)), false, some (7, true)⟩,
  ⟨some 11, (.bin .leq .none (.tmp 10) (.const (.int .i64 256))), true, some (7, true)⟩,
  ⟨some 12, (.pick (.tmp 7) (.tmp 11) (.const (.bool false))), true, none⟩,
  ⟨some 2, (.mov (.tmp 12)), true, none⟩]
def c15_3 : ACode := (.region o15_2 [2])
def w15_3 (_P : Program) (Q : Exit → Slots → Mem → Prop) (M : Mem) (v1 : V) : Prop :=
  @OptVH (moveV 12 v1) ⟨fun t3_1 =>
  @OptVH (loadV 1 false t3_1 M) ⟨fun t4_2 =>
  @OptVH (lenV t4_2 M) ⟨fun t5_3 =>
  @OptBH (binV .leq .none t5_3 (.int .i64 40)) ⟨fun b6_4 =>
  @BIfH b6_4
  ⟨@OptVH (moveV 5 v1) ⟨fun t8_6 =>
  @OptVH (loadV 1 false t8_6 M) ⟨fun t9_7 =>
  @OptVH (lenStrV t9_7) ⟨fun t10_8 =>
  @OptBH (binV .leq .none t10_8 (.int .i64 256)) ⟨fun b11_9 =>
  Q .normal [(2, (.bool b11_9))] M⟩⟩⟩⟩⟩
  ⟨Q .normal [(2, (.bool false))] M⟩⟩⟩⟩⟩
theorem e15_3 (P : Program) (Q : Exit → Slots → Mem → Prop) (s : Slots) (M : Mem) : wpC P c15_3 Q s M = w15_3 P Q M (sget s 1) := by kernel_rfl
def c15_4 : ACode := (.seq c15_3 .ret)
def c15_5 : ACode := (.seq c15_1 c15_4)
def fn_transitlaw32_small : AFn := ⟨13, [(.tmp 2)], c15_5⟩
theorem fn_transitlaw32_small_ok : resFn PR h_transitlaw32_small i_transitlaw32_small = some fn_transitlaw32_small := by kernel_rfl

def h_inbox_Inbox_Receive : Hints := ⟨[(0, [0, 4, 5]), (1, [0, 4, 5, 11]), (2, [6]), (3, [0, 4, 5, 7]), (4, [0, 4, 5, 7, 17]), (5, [6]), (6, [0, 4, 5, 8]), (7, [0, 4, 5, 8, 27]), (8, [6]), (9, [0, 4, 5]), (10, [4, 5, 9]), (11, [4, 9]), (12, []), (13, [6])], [], []⟩
def o16_0 : List AOper := [⟨some 4, (.box 13 (.tmp 1)), false, none⟩,
  ⟨some 5, (.box 1 (.tmp 2)), false, none⟩,
  ⟨some 6, (.mov (.const (.int .i64 0))), false, none⟩]
def c16_1 : ACode := (.region o16_0 [0, 4, 5])
def w16_1 (_P : Program) (Q : Exit → Slots → Mem → Prop) (M : Mem) (v0 : V) (v1 : V) (v2 : V) : Prop :=
  @OptMH (boxV 13 v1 M) ⟨fun t4_1 M1 =>
  @OptMH (boxV 1 v2 M1) ⟨fun t5_2 M2 =>
  Q .normal [(0, v0), (4, t4_1), (5, t5_2)] M2⟩⟩
theorem e16_1 (P : Program) (Q : Exit → Slots → Mem → Prop) (s : Slots) (M : Mem) : wpC P c16_1 Q s M = w16_1 P Q M (sget s 0) (sget s 1) (sget s 2) := by kernel_rfl
def o16_2 : List AOper := [⟨some 6, (.mov (.const (.int .i64 40))), false, none⟩]
def c16_3 : ACode := (.region o16_2 [6])
def w16_3 (_P : Program) (Q : Exit → Slots → Mem → Prop) (M : Mem) : Prop :=
  Q .normal [(6, (.int .i64 40))] M
theorem e16_3 (P : Program) (Q : Exit → Slots → Mem → Prop) (s : Slots) (M : Mem) : wpC P c16_3 Q s M = w16_3 P Q M := by kernel_rfl
def c16_4 : ACode := (.seq c16_3 .ret)
def o16_5 : List AOper := [⟨some 10, (.mov (.tmp 0)), false, none⟩,
  ⟨some 11, (.bin .eql .ptr (.tmp 10) (.const .nilp)), true, none⟩]
def c16_6 : ACode := (.seq (.region o16_5 [0, 4, 5, 11]) (.cond (.tmp 11) c16_4 .skip))
def w16_6 (P : Program) (Q : Exit → Slots → Mem → Prop) (M : Mem) (v0 : V) (v4 : V) (v5 : V) : Prop :=
  @OptBH (binV .eql .ptr v0 .nilp) ⟨fun b11_2 =>
  @BIfH b11_2
  ⟨wpC P c16_4 Q [(0, v0), (4, v4), (5, v5), (11, (.bool b11_2))] M⟩
  ⟨Q .normal [(0, v0), (4, v4), (5, v5), (11, (.bool b11_2))] M⟩⟩
theorem e16_6 (P : Program) (Q : Exit → Slots → Mem → Prop) (s : Slots) (M : Mem) : wpC P c16_6 Q s M = w16_6 P Q M (sget s 0) (sget s 4) (sget s 5) := by kernel_rfl
def o16_7 : List AOper := [⟨some 12, (.mov (.tmp 0)), false, none⟩,
  ⟨some 13, (.load 13 true (.tmp 4)), false, none⟩,
  ⟨some 14, (.load 1 false (.tmp 5)), false, none⟩,
  ⟨some 15, (.call i_inbox_Inbox_refusal [(.tmp 12), (.tmp 13), (.tmp 14)]), false, none⟩,
  ⟨some 7, (.mov (.tmp 15)), false, none⟩]
def c16_8 : ACode := (.region o16_7 [0, 4, 5, 7])
def w16_8 (P : Program) (Q : Exit → Slots → Mem → Prop) (M : Mem) (v0 : V) (v4 : V) (v5 : V) : Prop :=
  @OptVH (loadV 13 true v4 M) ⟨fun t13_2 =>
  @OptVH (loadV 1 false v5 M) ⟨fun t14_3 =>
  @CallH P i_inbox_Inbox_refusal [v0, t13_2, t14_3] M ⟨fun t15_4 M4 =>
  Q .normal [(0, v0), (4, v4), (5, v5), (7, t15_4)] M4⟩⟩⟩
theorem e16_8 (P : Program) (Q : Exit → Slots → Mem → Prop) (s : Slots) (M : Mem) : wpC P c16_8 Q s M = w16_8 P Q M (sget s 0) (sget s 4) (sget s 5) := by kernel_rfl
def o16_9 : List AOper := [⟨some 18, (.mov (.tmp 7)), false, none⟩,
  ⟨some 6, (.mov (.tmp 18)), false, none⟩]
def c16_10 : ACode := (.region o16_9 [6])
def w16_10 (_P : Program) (Q : Exit → Slots → Mem → Prop) (M : Mem) (v7 : V) : Prop :=
  Q .normal [(6, v7)] M
theorem e16_10 (P : Program) (Q : Exit → Slots → Mem → Prop) (s : Slots) (M : Mem) : wpC P c16_10 Q s M = w16_10 P Q M (sget s 7) := by kernel_rfl
def c16_11 : ACode := (.seq c16_10 .ret)
def o16_12 : List AOper := [⟨some 16, (.mov (.tmp 7)), false, none⟩,
  ⟨some 17, (.bin .neq .none (.tmp 16) (.const (.int .i64 0))), true, none⟩]
def c16_13 : ACode := (.seq (.region o16_12 [0, 4, 5, 7, 17]) (.cond (.tmp 17) c16_11 .skip))
def w16_13 (P : Program) (Q : Exit → Slots → Mem → Prop) (M : Mem) (v0 : V) (v4 : V) (v5 : V) (v7 : V) : Prop :=
  @OptBH (binV .neq .none v7 (.int .i64 0)) ⟨fun b17_2 =>
  @BIfH b17_2
  ⟨wpC P c16_11 Q [(0, v0), (4, v4), (5, v5), (7, v7), (17, (.bool b17_2))] M⟩
  ⟨Q .normal [(0, v0), (4, v4), (5, v5), (7, v7), (17, (.bool b17_2))] M⟩⟩
theorem e16_13 (P : Program) (Q : Exit → Slots → Mem → Prop) (s : Slots) (M : Mem) : wpC P c16_13 Q s M = w16_13 P Q M (sget s 0) (sget s 4) (sget s 5) (sget s 7) := by kernel_rfl
def c16_14 : ACode := (.seq c16_8 c16_13)
def o16_15 : List AOper := [⟨some 19, (.mov (.tmp 0)), false, none⟩,
  ⟨some 20, (.nilCheck (.tmp 19)), false, none⟩,
  ⟨some 21, (.fieldAddr 2 (.tmp 20)), false, none⟩,
  ⟨some 22, (.load 1 false (.tmp 21)), false, none⟩,
  ⟨some 23, (.mkfn i_inbox_Inbox_Receive_1 [(.tmp 4), (.tmp 5)]), false, none⟩,
  ⟨some 24, (.call i_inbox_filtered [(.tmp 22), (.tmp 23)]), false, none⟩,
  ⟨some 8, (.mov (.tmp 24)), false, none⟩]
def c16_16 : ACode := (.region o16_15 [0, 4, 5, 8])
def w16_16 (P : Program) (Q : Exit → Slots → Mem → Prop) (M : Mem) (v0 : V) (v4 : V) (v5 : V) : Prop :=
  @OptVH (nilCheckV v0) ⟨fun t20_2 =>
  @OptVH (moveV 2 t20_2) ⟨fun t21_3 =>
  @OptVH (loadV 1 false t21_3 M) ⟨fun t22_4 =>
  @CallH P i_inbox_filtered [t22_4, (mkfnV i_inbox_Inbox_Receive_1 [v4, v5])] M ⟨fun t24_6 M6 =>
  Q .normal [(0, v0), (4, v4), (5, v5), (8, t24_6)] M6⟩⟩⟩⟩
theorem e16_16 (P : Program) (Q : Exit → Slots → Mem → Prop) (s : Slots) (M : Mem) : wpC P c16_16 Q s M = w16_16 P Q M (sget s 0) (sget s 4) (sget s 5) := by kernel_rfl
def o16_17 : List AOper := [⟨some 6, (.mov (.const (.int .i64 5))), false, none⟩]
def c16_18 : ACode := (.region o16_17 [6])
def w16_18 (_P : Program) (Q : Exit → Slots → Mem → Prop) (M : Mem) : Prop :=
  Q .normal [(6, (.int .i64 5))] M
theorem e16_18 (P : Program) (Q : Exit → Slots → Mem → Prop) (s : Slots) (M : Mem) : wpC P c16_18 Q s M = w16_18 P Q M := by kernel_rfl
def c16_19 : ACode := (.seq c16_18 .ret)
def o16_20 : List AOper := [⟨some 25, (.mov (.tmp 8)), false, none⟩,
  ⟨some 26, (.lenSl (.tmp 25)), false, none⟩,
  ⟨some 27, (.bin .geq .none (.tmp 26) (.const (.int .i64 256))), true, none⟩]
def c16_21 : ACode := (.seq (.region o16_20 [0, 4, 5, 8, 27]) (.cond (.tmp 27) c16_19 .skip))
def w16_21 (P : Program) (Q : Exit → Slots → Mem → Prop) (M : Mem) (v0 : V) (v4 : V) (v5 : V) (v8 : V) : Prop :=
  @OptVH (lenV v8 M) ⟨fun t26_2 =>
  @OptBH (binV .geq .none t26_2 (.int .i64 256)) ⟨fun b27_3 =>
  @BIfH b27_3
  ⟨wpC P c16_19 Q [(0, v0), (4, v4), (5, v5), (8, v8), (27, (.bool b27_3))] M⟩
  ⟨Q .normal [(0, v0), (4, v4), (5, v5), (8, v8), (27, (.bool b27_3))] M⟩⟩⟩
theorem e16_21 (P : Program) (Q : Exit → Slots → Mem → Prop) (s : Slots) (M : Mem) : wpC P c16_21 Q s M = w16_21 P Q M (sget s 0) (sget s 4) (sget s 5) (sget s 8) := by kernel_rfl
def o16_22 : List AOper := [⟨some 28, (.mov (.tmp 0)), false, none⟩,
  ⟨some 29, (.mov (.tmp 8)), false, none⟩,
  ⟨some 30, (.load 13 true (.tmp 4)), false, none⟩,
  ⟨some 31, (.call i_inbox_owned [(.tmp 30)]), false, none⟩,
  ⟨some 32, (.buildSlice [(.int .i64 0), (.int .i64 0), (.int .i64 0), (.int .i64 0), (.int .i64 0), (.str []), (.int .i64 0), (.int .i64 0), (.int .i64 0), (.int .i64 0), (.int .i64 0), (.bool false), (.slice [] .nil)] 13 1 [(0, (13, (.tmp 31)))]), false, none⟩,
  ⟨some 33, (.append false 13 128 (.tmp 29) (.tmp 32)), false, none⟩,
  ⟨some 34, (.nilCheck (.tmp 28)), false, none⟩,
  ⟨some 35, (.fieldAddr 2 (.tmp 34)), false, none⟩,
  ⟨none, (.store 1 (.tmp 35) (.tmp 33)), false, none⟩]
def c16_23 : ACode := (.region o16_22 [0, 4, 5])
def w16_23 (P : Program) (Q : Exit → Slots → Mem → Prop) (M : Mem) (v0 : V) (v4 : V) (v5 : V) (v8 : V) : Prop :=
  @OptVH (loadV 13 true v4 M) ⟨fun t30_3 =>
  @CallH P i_inbox_owned [t30_3] M ⟨fun t31_4 M4 =>
  @OptVH (buildSliceV [(.int .i64 0), (.int .i64 0), (.int .i64 0), (.int .i64 0), (.int .i64 0), (.str []), (.int .i64 0), (.int .i64 0), (.int .i64 0), (.int .i64 0), (.int .i64 0), (.bool false), (.slice [] .nil)] 13 1 [(0, 13, t31_4)]) ⟨fun t32_5 =>
  @OptMH (appV false 13 128 v8 t32_5 M4) ⟨fun t33_6 M6 =>
  @OptVH (nilCheckV v0) ⟨fun t34_7 =>
  @OptVH (moveV 2 t34_7) ⟨fun t35_8 =>
  @OptMH (storeVM 1 t35_8 t33_6 M6) ⟨fun _tx_9 M9 =>
  Q .normal [(0, v0), (4, v4), (5, v5)] M9⟩⟩⟩⟩⟩⟩⟩
theorem e16_23 (P : Program) (Q : Exit → Slots → Mem → Prop) (s : Slots) (M : Mem) : wpC P c16_23 Q s M = w16_23 P Q M (sget s 0) (sget s 4) (sget s 5) (sget s 8) := by kernel_rfl
def o16_24 : List AOper := [⟨some 36, (.mov (.tmp 0)), false, none⟩,
  ⟨some 37, (.nilCheck (.tmp 36)), false, none⟩,
  ⟨some 38, (.fieldAddr 0 (.tmp 37)), false, none⟩,
  ⟨some 39, (.load 1 false (.tmp 38)), false, none⟩,
  ⟨some 40, (.fieldAddr 0 (.tmp 4)), false, none⟩,
  ⟨some 41, (.load 1 false (.tmp 40)), false, none⟩,
  ⟨some 42, (.indexSl 4 (.tmp 39) (.tmp 41)), false, none⟩,
  ⟨some 9, (.mov (.tmp 42)), false, none⟩]
def c16_25 : ACode := (.mixed o16_24 [true, true, true, true, true, true, true, true] [4, 5, 9])
def w16_25 (_P : Program) (Q : Exit → Slots → Mem → Prop) (M : Mem) (v0 : V) (v4 : V) (v5 : V) : Prop :=
  @OptVH (nilCheckV v0) ⟨fun t37_2 =>
  @OptVH (moveV 0 t37_2) ⟨fun t38_3 =>
  @OptVH (loadV 1 false t38_3 M) ⟨fun t39_4 =>
  @OptVH (moveV 0 v4) ⟨fun t40_5 =>
  @OptVH (loadV 1 false t40_5 M) ⟨fun t41_6 =>
  @OptVH (indexSlV 4 t39_4 t41_6 M) ⟨fun t42_7 =>
  Q .normal [(4, v4), (5, v5), (9, t42_7)] M⟩⟩⟩⟩⟩⟩
theorem e16_25 (P : Program) (Q : Exit → Slots → Mem → Prop) (s : Slots) (M : Mem) : wpC P c16_25 Q s M = w16_25 P Q M (sget s 0) (sget s 4) (sget s 5) := by kernel_rfl
def o16_26 : List AOper := [⟨some 43, (.mov (.tmp 9)), false, none⟩,
  ⟨some 44, (.nilCheck (.tmp 43)), false, none⟩,
  ⟨some 45, (.fieldAddr 0 (.tmp 44)), false, none⟩,
  ⟨some 46, (.load 1 false (.tmp 5)), false, none⟩,
  ⟨some 47, (.call i_inbox_heard_hear [(.tmp 45), (.tmp 46)]), false, none⟩]
def c16_27 : ACode := (.mixed o16_26 [true, true, true, true, false] [4, 9])
def w16_27 (P : Program) (Q : Exit → Slots → Mem → Prop) (M : Mem) (v4 : V) (v5 : V) (v9 : V) : Prop :=
  @OptVH (nilCheckV v9) ⟨fun t44_2 =>
  @OptVH (moveV 0 t44_2) ⟨fun t45_3 =>
  @OptVH (loadV 1 false v5 M) ⟨fun t46_4 =>
  @CallH P i_inbox_heard_hear [t45_3, t46_4] M ⟨fun _t47_5 M5 =>
  Q .normal [(4, v4), (9, v9)] M5⟩⟩⟩⟩
theorem e16_27 (P : Program) (Q : Exit → Slots → Mem → Prop) (s : Slots) (M : Mem) : wpC P c16_27 Q s M = w16_27 P Q M (sget s 4) (sget s 5) (sget s 9) := by kernel_rfl
def o16_28 : List AOper := [⟨some 48, (.mov (.tmp 9)), false, none⟩,
  ⟨some 49, (.mov (.tmp 9)), false, none⟩,
  ⟨some 50, (.fieldAddr 1 (.tmp 4)), false, none⟩,
  ⟨some 51, (.load 1 false (.tmp 50)), false, none⟩,
  ⟨some 52, (.nilCheck (.tmp 48)), false, none⟩,
  ⟨some 53, (.fieldAddr 2 (.tmp 52)), false, none⟩,
  ⟨none, (.store 1 (.tmp 53) (.const (.bool true))), false, none⟩,
  ⟨some 54, (.nilCheck (.tmp 49)), false, none⟩,
  ⟨some 55, (.fieldAddr 3 (.tmp 54)), false, none⟩,
  ⟨none, (.store 1 (.tmp 55) (.tmp 51)), false, none⟩]
def c16_29 : ACode := (.float o16_28 [none, none, none, none, none, none, (some [1, 2, 3]), none, none, (some [])] [])
def w16_29 (_P : Program) (Q : Exit → Slots → Mem → Prop) (M : Mem) (v4 : V) (v9 : V) : Prop :=
  @OptVH (moveV 1 v4) ⟨fun t50_3 =>
  @OptVH (loadV 1 false t50_3 M) ⟨fun t51_4 =>
  @OptVH (nilCheckV v9) ⟨fun t52_5 =>
  @OptVH (moveV 2 t52_5) ⟨fun t53_6 =>
  @OptMH (storeVM 1 t53_6 (.bool true) M) ⟨fun _tx_7 M7 =>
  (some v9 = some v9 ∧ moveV 1 v4 = some t50_3 ∧ loadV 1 false t50_3 M7 = some t51_4 ∧ True) ∧ (@OptVH (nilCheckV v9) ⟨fun t54_8 =>
  @OptVH (moveV 3 t54_8) ⟨fun t55_9 =>
  @OptMH (storeVM 1 t55_9 t51_4 M7) ⟨fun _tx_10 M10 =>
  (True) ∧ (Q .normal [] M10)⟩⟩⟩)⟩⟩⟩⟩⟩
theorem e16_29 (P : Program) (Q : Exit → Slots → Mem → Prop) (s : Slots) (M : Mem) : wpC P c16_29 Q s M = w16_29 P Q M (sget s 4) (sget s 9) := by kernel_rfl
def o16_30 : List AOper := [⟨some 6, (.mov (.const (.int .i64 0))), false, none⟩]
def c16_31 : ACode := (.region o16_30 [6])
def w16_31 (_P : Program) (Q : Exit → Slots → Mem → Prop) (M : Mem) : Prop :=
  Q .normal [(6, (.int .i64 0))] M
theorem e16_31 (P : Program) (Q : Exit → Slots → Mem → Prop) (s : Slots) (M : Mem) : wpC P c16_31 Q s M = w16_31 P Q M := by kernel_rfl
def c16_32 : ACode := (.seq c16_31 .ret)
def c16_33 : ACode := (.seq c16_29 c16_32)
def c16_34 : ACode := (.seq c16_27 c16_33)
def c16_35 : ACode := (.seq c16_25 c16_34)
def c16_36 : ACode := (.seq c16_23 c16_35)
def c16_37 : ACode := (.seq c16_21 c16_36)
def c16_38 : ACode := (.seq c16_16 c16_37)
def c16_39 : ACode := (.seq c16_14 c16_38)
def c16_40 : ACode := (.seq c16_6 c16_39)
def c16_41 : ACode := (.seq c16_1 c16_40)
def fn_inbox_Inbox_Receive : AFn := ⟨56, [(.tmp 6)], c16_41⟩
theorem fn_inbox_Inbox_Receive_ok : resFn PR h_inbox_Inbox_Receive i_inbox_Inbox_Receive = some fn_inbox_Inbox_Receive := by kernel_rfl

def h_transitref32_Same : Hints := ⟨[(0, [0, 1]), (1, [0, 1, 10]), (2, [4]), (3, [0, 1, 5]), (4, [0, 1, 5, 14]), (5, [0, 1, 5]), (6, [0, 1, 5, 26]), (7, [4]), (8, [4])], [(4, [0, 1, 5])], []⟩
def o17_0 : List AOper := [⟨some 4, (.mov (.const (.bool false))), true, none⟩]
def c17_1 : ACode := (.region o17_0 [0, 1])
def w17_1 (_P : Program) (Q : Exit → Slots → Mem → Prop) (M : Mem) (v0 : V) (v1 : V) : Prop :=
  Q .normal [(0, v0), (1, v1)] M
theorem e17_1 (P : Program) (Q : Exit → Slots → Mem → Prop) (s : Slots) (M : Mem) : wpC P c17_1 Q s M = w17_1 P Q M (sget s 0) (sget s 1) := by kernel_rfl
def o17_2 : List AOper := [⟨some 4, (.mov (.const (.bool false))), true, none⟩]
def c17_3 : ACode := (.region o17_2 [4])
def w17_3 (_P : Program) (Q : Exit → Slots → Mem → Prop) (M : Mem) : Prop :=
  Q .normal [(4, (.bool false))] M
theorem e17_3 (P : Program) (Q : Exit → Slots → Mem → Prop) (s : Slots) (M : Mem) : wpC P c17_3 Q s M = w17_3 P Q M := by kernel_rfl
def c17_4 : ACode := (.seq c17_3 .ret)
def o17_5 : List AOper := [⟨some 6, (.mov (.tmp 0)), false, none⟩,
  ⟨some 7, (.lenSl (.tmp 6)), false, none⟩,
  ⟨some 8, (.mov (.tmp 1)), false, none⟩,
  ⟨some 9, (.lenSl (.tmp 8)), false, none⟩,
  ⟨some 10, (.bin .neq .none (.tmp 7) (.tmp 9)), true, none⟩]
def c17_6 : ACode := (.seq (.region o17_5 [0, 1, 10]) (.cond (.tmp 10) c17_4 .skip))
def w17_6 (P : Program) (Q : Exit → Slots → Mem → Prop) (M : Mem) (v0 : V) (v1 : V) : Prop :=
  @OptVH (lenV v0 M) ⟨fun t7_2 =>
  @OptVH (lenV v1 M) ⟨fun t9_4 =>
  @OptBH (binV .neq .none t7_2 t9_4) ⟨fun b10_5 =>
  @BIfH b10_5
  ⟨wpC P c17_4 Q [(0, v0), (1, v1), (10, (.bool b10_5))] M⟩
  ⟨Q .normal [(0, v0), (1, v1), (10, (.bool b10_5))] M⟩⟩⟩⟩
theorem e17_6 (P : Program) (Q : Exit → Slots → Mem → Prop) (s : Slots) (M : Mem) : wpC P c17_6 Q s M = w17_6 P Q M (sget s 0) (sget s 1) := by kernel_rfl
def o17_7 : List AOper := [⟨some 5, (.mov (.const (.int .i64 0))), false, none⟩]
def c17_8 : ACode := (.region o17_7 [0, 1, 5])
def w17_8 (_P : Program) (Q : Exit → Slots → Mem → Prop) (M : Mem) (v0 : V) (v1 : V) : Prop :=
  Q .normal [(0, v0), (1, v1), (5, (.int .i64 0))] M
theorem e17_8 (P : Program) (Q : Exit → Slots → Mem → Prop) (s : Slots) (M : Mem) : wpC P c17_8 Q s M = w17_8 P Q M (sget s 0) (sget s 1) := by kernel_rfl
def o17_9 : List AOper := [⟨some 11, (.mov (.tmp 5)), false, none⟩,
  ⟨some 12, (.mov (.tmp 0)), false, none⟩,
  ⟨some 13, (.lenSl (.tmp 12)), false, none⟩,
  ⟨some 14, (.bin .lss .none (.tmp 11) (.tmp 13)), true, none⟩]
def c17_10 : ACode := (.seq (.region o17_9 [0, 1, 5, 14]) (.cond (.tmp 14) .skip (.exit 0)))
def w17_10 (_P : Program) (Q : Exit → Slots → Mem → Prop) (M : Mem) (v0 : V) (v1 : V) (v5 : V) : Prop :=
  @OptVH (lenV v0 M) ⟨fun t13_3 =>
  @OptBH (binV .lss .none v5 t13_3) ⟨fun b14_4 =>
  @BIfH b14_4
  ⟨Q .normal [(0, v0), (1, v1), (5, v5), (14, (.bool b14_4))] M⟩
  ⟨Q (.exit 0) [(0, v0), (1, v1), (5, v5), (14, (.bool b14_4))] M⟩⟩⟩
theorem e17_10 (P : Program) (Q : Exit → Slots → Mem → Prop) (s : Slots) (M : Mem) : wpC P c17_10 Q s M = w17_10 P Q M (sget s 0) (sget s 1) (sget s 5) := by kernel_rfl
def o17_11 : List AOper := [⟨some 4, (.mov (.const (.bool false))), true, none⟩]
def c17_12 : ACode := (.region o17_11 [4])
def w17_12 (_P : Program) (Q : Exit → Slots → Mem → Prop) (M : Mem) : Prop :=
  Q .normal [(4, (.bool false))] M
theorem e17_12 (P : Program) (Q : Exit → Slots → Mem → Prop) (s : Slots) (M : Mem) : wpC P c17_12 Q s M = w17_12 P Q M := by kernel_rfl
def c17_13 : ACode := (.seq c17_12 .ret)
def o17_14 : List AOper := [⟨some 17, (.mov (.tmp 0)), false, none⟩,
  ⟨some 18, (.mov (.tmp 5)), false, none⟩,
  ⟨some 19, (.indexSl 13 (.tmp 17) (.tmp 18)), false, none⟩,
  ⟨some 20, (.load 13 true (.tmp 19)), false, none⟩,
  ⟨some 21, (.mov (.tmp 1)), false, none⟩,
  ⟨some 22, (.mov (.tmp 5)), false, none⟩,
  ⟨some 23, (.indexSl 13 (.tmp 21) (.tmp 22)), false, none⟩,
  ⟨some 24, (.load 13 true (.tmp 23)), false, none⟩,
  ⟨some 25, (.call i_transitref31_Equal [(.tmp 20), (.tmp 24)]), true, none⟩,
  ⟨some 26, (.un .not (.tmp 25)), true, none⟩]
def c17_15 : ACode := (.seq (.mixed o17_14 [true, true, true, true, true, true, true, true, false, true] [0, 1, 5, 26]) (.cond (.tmp 26) c17_13 .skip))
def w17_15 (P : Program) (Q : Exit → Slots → Mem → Prop) (M : Mem) (v0 : V) (v1 : V) (v5 : V) : Prop :=
  @OptVH (indexSlV 13 v0 v5 M) ⟨fun t19_3 =>
  @OptVH (loadV 13 true t19_3 M) ⟨fun t20_4 =>
  @OptVH (indexSlV 13 v1 v5 M) ⟨fun t23_7 =>
  @OptVH (loadV 13 true t23_7 M) ⟨fun t24_8 =>
  @CallH P i_transitref31_Equal [t20_4, t24_8] M ⟨fun t25_9 M9 => @OptBH (some t25_9) ⟨fun b25_9 =>
  @OptBH (unV .not (.bool b25_9)) ⟨fun b26_10 =>
  @BIfH b26_10
  ⟨wpC P c17_13 Q [(0, v0), (1, v1), (5, v5), (26, (.bool b26_10))] M9⟩
  ⟨Q .normal [(0, v0), (1, v1), (5, v5), (26, (.bool b26_10))] M9⟩⟩⟩⟩⟩⟩⟩⟩
theorem e17_15 (P : Program) (Q : Exit → Slots → Mem → Prop) (s : Slots) (M : Mem) : wpC P c17_15 Q s M = w17_15 P Q M (sget s 0) (sget s 1) (sget s 5) := by kernel_rfl
def c17_16 : ACode := (.block 1 c17_15)
def o17_17 : List AOper := [⟨some 15, (.mov (.tmp 5)), false, none⟩,
  ⟨some 16, (.bin .add .none (.tmp 15) (.const (.int .i64 1))), false, none⟩,
  ⟨some 5, (.mov (.tmp 16)), false, none⟩]
def c17_18 : ACode := (.region o17_17 [0, 1, 5])
def w17_18 (_P : Program) (Q : Exit → Slots → Mem → Prop) (M : Mem) (v0 : V) (v1 : V) (v5 : V) : Prop :=
  @OptVH (binV .add .none v5 (.int .i64 1)) ⟨fun t16_2 =>
  Q .normal [(0, v0), (1, v1), (5, t16_2)] M⟩
theorem e17_18 (P : Program) (Q : Exit → Slots → Mem → Prop) (s : Slots) (M : Mem) : wpC P c17_18 Q s M = w17_18 P Q M (sget s 0) (sget s 1) (sget s 5) := by kernel_rfl
def c17_19 : ACode := (.seq c17_16 c17_18)
def c17_20 : ACode := (.seq c17_10 c17_19)
def c17_21 : ACode := (.loop [0, 1, 5] c17_20)
def c17_22 : ACode := (.block 0 c17_21)
def c17_23 : ACode := (.seq c17_8 c17_22)
def o17_24 : List AOper := [⟨some 4, (.mov (.const (.bool true))), true, none⟩]
def c17_25 : ACode := (.region o17_24 [4])
def w17_25 (_P : Program) (Q : Exit → Slots → Mem → Prop) (M : Mem) : Prop :=
  Q .normal [(4, (.bool true))] M
theorem e17_25 (P : Program) (Q : Exit → Slots → Mem → Prop) (s : Slots) (M : Mem) : wpC P c17_25 Q s M = w17_25 P Q M := by kernel_rfl
def c17_26 : ACode := (.seq c17_25 .ret)
def c17_27 : ACode := (.seq c17_23 c17_26)
def c17_28 : ACode := (.seq c17_6 c17_27)
def c17_29 : ACode := (.seq c17_1 c17_28)
def fn_transitref32_Same : AFn := ⟨27, [(.tmp 4)], c17_29⟩
theorem fn_transitref32_Same_ok : resFn PR h_transitref32_Same i_transitref32_Same = some fn_transitref32_Same := by kernel_rfl

def h_inbox_Inbox_Active : Hints := ⟨[(0, [2, 3]), (1, [2, 3, 13]), (2, [4]), (3, [5]), (4, [5, 6]), (5, [5, 6, 20, 21, 22]), (6, [5, 6, 20, 21, 22, 23]), (7, [5, 6, 8, 20, 21, 22]), (8, [5, 6, 8, 9, 20, 21, 22]), (9, [5, 6, 8, 9, 20, 21, 22, 26, 27, 28]), (10, [5, 6, 8, 9, 20, 21, 22, 26, 27, 28, 29]), (11, [5, 6, 8, 9, 11, 20, 21, 22, 26, 27, 28]), (12, [5, 6, 8, 9, 20, 21, 22, 26, 27, 28]), (13, [5, 6, 8, 9, 20, 21, 22, 26, 27, 28]), (14, [5, 6, 8, 20, 21, 22, 47]), (15, [5, 6, 20, 21, 22]), (16, [5, 6, 20, 21, 22]), (17, [4])], [(6, [5, 6, 20, 21, 22]), (10, [5, 6, 8, 9, 20, 21, 22, 26, 27, 28])], []⟩
def o18_0 : List AOper := [⟨some 2, (.box 1 (.tmp 0)), false, none⟩,
  ⟨some 3, (.box 1 (.tmp 1)), false, none⟩,
  ⟨some 4, (.mov (.const (.slice [] .nil))), false, none⟩]
def c18_1 : ACode := (.region o18_0 [2, 3])
def w18_1 (_P : Program) (Q : Exit → Slots → Mem → Prop) (M : Mem) (v0 : V) (v1 : V) : Prop :=
  @OptMH (boxV 1 v0 M) ⟨fun t2_1 M1 =>
  @OptMH (boxV 1 v1 M1) ⟨fun t3_2 M2 =>
  Q .normal [(2, t2_1), (3, t3_2)] M2⟩⟩
theorem e18_1 (P : Program) (Q : Exit → Slots → Mem → Prop) (s : Slots) (M : Mem) : wpC P c18_1 Q s M = w18_1 P Q M (sget s 0) (sget s 1) := by kernel_rfl
def o18_2 : List AOper := [⟨some 4, (.mov (.const (.slice [] .nil))), false, none⟩]
def c18_3 : ACode := (.region o18_2 [4])
def w18_3 (_P : Program) (Q : Exit → Slots → Mem → Prop) (M : Mem) : Prop :=
  Q .normal [(4, (.slice [] .nil))] M
theorem e18_3 (P : Program) (Q : Exit → Slots → Mem → Prop) (s : Slots) (M : Mem) : wpC P c18_3 Q s M = w18_3 P Q M := by kernel_rfl
def c18_4 : ACode := (.seq c18_3 .ret)
def o18_5 : List AOper := [⟨some 12, (.load 1 false (.tmp 2)), false, none⟩,
  ⟨some 13, (.bin .eql .ptr (.tmp 12) (.const .nilp)), true, none⟩]
def c18_6 : ACode := (.seq (.region o18_5 [2, 3, 13]) (.cond (.tmp 13) c18_4 .skip))
def w18_6 (P : Program) (Q : Exit → Slots → Mem → Prop) (M : Mem) (v2 : V) (v3 : V) : Prop :=
  @OptVH (loadV 1 false v2 M) ⟨fun t12_1 =>
  @OptBH (binV .eql .ptr t12_1 .nilp) ⟨fun b13_2 =>
  @BIfH b13_2
  ⟨wpC P c18_4 Q [(2, v2), (3, v3), (13, (.bool b13_2))] M⟩
  ⟨Q .normal [(2, v2), (3, v3), (13, (.bool b13_2))] M⟩⟩⟩
theorem e18_6 (P : Program) (Q : Exit → Slots → Mem → Prop) (s : Slots) (M : Mem) : wpC P c18_6 Q s M = w18_6 P Q M (sget s 2) (sget s 3) := by kernel_rfl
def o18_7 : List AOper := [⟨some 14, (.load 1 false (.tmp 2)), false, none⟩,
  ⟨some 15, (.nilCheck (.tmp 14)), false, none⟩,
  ⟨some 16, (.fieldAddr 2 (.tmp 15)), false, none⟩,
  ⟨some 17, (.load 1 false (.tmp 16)), false, none⟩,
  ⟨some 18, (.mkfn i_inbox_Inbox_Active_1 [(.tmp 3), (.tmp 2)]), false, none⟩,
  ⟨some 19, (.call i_inbox_filtered [(.tmp 17), (.tmp 18)]), false, none⟩,
  ⟨some 5, (.mov (.tmp 19)), false, none⟩]
def c18_8 : ACode := (.region o18_7 [5])
def w18_8 (P : Program) (Q : Exit → Slots → Mem → Prop) (M : Mem) (v2 : V) (v3 : V) : Prop :=
  @OptVH (loadV 1 false v2 M) ⟨fun t14_1 =>
  @OptVH (nilCheckV t14_1) ⟨fun t15_2 =>
  @OptVH (moveV 2 t15_2) ⟨fun t16_3 =>
  @OptVH (loadV 1 false t16_3 M) ⟨fun t17_4 =>
  @CallH P i_inbox_filtered [t17_4, (mkfnV i_inbox_Inbox_Active_1 [v3, v2])] M ⟨fun t19_6 M6 =>
  Q .normal [(5, t19_6)] M6⟩⟩⟩⟩⟩
theorem e18_8 (P : Program) (Q : Exit → Slots → Mem → Prop) (s : Slots) (M : Mem) : wpC P c18_8 Q s M = w18_8 P Q M (sget s 2) (sget s 3) := by kernel_rfl
def o18_9 : List AOper := [⟨some 6, (.mov (.const (.slice [] .nil))), false, none⟩]
def c18_10 : ACode := (.region o18_9 [5, 6])
def w18_10 (_P : Program) (Q : Exit → Slots → Mem → Prop) (M : Mem) (v5 : V) : Prop :=
  Q .normal [(5, v5), (6, (.slice [] .nil))] M
theorem e18_10 (P : Program) (Q : Exit → Slots → Mem → Prop) (s : Slots) (M : Mem) : wpC P c18_10 Q s M = w18_10 P Q M (sget s 5) := by kernel_rfl
def o18_11 : List AOper := [⟨some 20, (.mov (.tmp 5)), false, none⟩,
  ⟨some 21, (.lenSl (.tmp 20)), false, none⟩,
  ⟨some 22, (.mov (.const (.int .i64 0))), false, none⟩]
def c18_12 : ACode := (.region o18_11 [5, 6, 20, 21, 22])
def w18_12 (_P : Program) (Q : Exit → Slots → Mem → Prop) (M : Mem) (v5 : V) (v6 : V) : Prop :=
  @OptVH (lenV v5 M) ⟨fun t21_2 =>
  Q .normal [(5, v5), (6, v6), (20, v5), (21, t21_2), (22, (.int .i64 0))] M⟩
theorem e18_12 (P : Program) (Q : Exit → Slots → Mem → Prop) (s : Slots) (M : Mem) : wpC P c18_12 Q s M = w18_12 P Q M (sget s 5) (sget s 6) := by kernel_rfl
def o18_13 : List AOper := [⟨some 23, (.bin .lss .none (.tmp 22) (.tmp 21)), false, none⟩]
def c18_14 : ACode := (.region o18_13 [5, 6, 20, 21, 22, 23])
def w18_14 (_P : Program) (Q : Exit → Slots → Mem → Prop) (M : Mem) (v5 : V) (v6 : V) (v20 : V) (v21 : V) (v22 : V) : Prop :=
  @OptVH (binV .lss .none v22 v21) ⟨fun t23_1 =>
  Q .normal [(5, v5), (6, v6), (20, v20), (21, v21), (22, v22), (23, t23_1)] M⟩
theorem e18_14 (P : Program) (Q : Exit → Slots → Mem → Prop) (s : Slots) (M : Mem) : wpC P c18_14 Q s M = w18_14 P Q M (sget s 5) (sget s 6) (sget s 20) (sget s 21) (sget s 22) := by kernel_rfl
def c18_15 : ACode := (.cond (.tmp 23) .skip (.exit 0))
def o18_16 : List AOper := [⟨some 24, (.indexSl 13 (.tmp 20) (.tmp 22)), false, none⟩,
  ⟨some 25, (.load 13 true (.tmp 24)), false, none⟩,
  ⟨some 8, (.alloc [(.int .i64 0), (.int .i64 0), (.int .i64 0), (.int .i64 0), (.int .i64 0), (.str []), (.int .i64 0), (.int .i64 0), (.int .i64 0), (.int .i64 0), (.int .i64 0), (.bool false), (.slice [] .nil)]), false, none⟩,
  ⟨none, (.store 13 (.tmp 8) (.tmp 25)), false, none⟩]
def c18_17 : ACode := (.region o18_16 [5, 6, 8, 20, 21, 22])
def w18_17 (_P : Program) (Q : Exit → Slots → Mem → Prop) (M : Mem) (v5 : V) (v6 : V) (v20 : V) (v21 : V) (v22 : V) : Prop :=
  @OptVH (indexSlV 13 v20 v22 M) ⟨fun t24_1 =>
  @OptVH (loadV 13 true t24_1 M) ⟨fun t25_2 =>
  @OptMH (allocV [(.int .i64 0), (.int .i64 0), (.int .i64 0), (.int .i64 0), (.int .i64 0), (.str []), (.int .i64 0), (.int .i64 0), (.int .i64 0), (.int .i64 0), (.int .i64 0), (.bool false), (.slice [] .nil)] M) ⟨fun t8_3 M3 =>
  @OptMH (storeVM 13 t8_3 t25_2 M3) ⟨fun _tx_4 M4 =>
  Q .normal [(5, v5), (6, v6), (8, t8_3), (20, v20), (21, v21), (22, v22)] M4⟩⟩⟩⟩
theorem e18_17 (P : Program) (Q : Exit → Slots → Mem → Prop) (s : Slots) (M : Mem) : wpC P c18_17 Q s M = w18_17 P Q M (sget s 5) (sget s 6) (sget s 20) (sget s 21) (sget s 22) := by kernel_rfl
def o18_18 : List AOper := [⟨some 9, (.mov (.const (.bool false))), true, none⟩]
def c18_19 : ACode := (.region o18_18 [5, 6, 8, 9, 20, 21, 22])
def w18_19 (_P : Program) (Q : Exit → Slots → Mem → Prop) (M : Mem) (v5 : V) (v6 : V) (v8 : V) (v20 : V) (v21 : V) (v22 : V) : Prop :=
  Q .normal [(5, v5), (6, v6), (8, v8), (9, (.bool false)), (20, v20), (21, v21), (22, v22)] M
theorem e18_19 (P : Program) (Q : Exit → Slots → Mem → Prop) (s : Slots) (M : Mem) : wpC P c18_19 Q s M = w18_19 P Q M (sget s 5) (sget s 6) (sget s 8) (sget s 20) (sget s 21) (sget s 22) := by kernel_rfl
def o18_20 : List AOper := [⟨some 26, (.mov (.tmp 5)), false, none⟩,
  ⟨some 27, (.lenSl (.tmp 26)), false, none⟩,
  ⟨some 28, (.mov (.const (.int .i64 0))), false, none⟩]
def c18_21 : ACode := (.region o18_20 [5, 6, 8, 9, 20, 21, 22, 26, 27, 28])
def w18_21 (_P : Program) (Q : Exit → Slots → Mem → Prop) (M : Mem) (v5 : V) (v6 : V) (v8 : V) (v9 : V) (v20 : V) (v21 : V) (v22 : V) : Prop :=
  @OptVH (lenV v5 M) ⟨fun t27_2 =>
  Q .normal [(5, v5), (6, v6), (8, v8), (9, v9), (20, v20), (21, v21), (22, v22), (26, v5), (27, t27_2), (28, (.int .i64 0))] M⟩
theorem e18_21 (P : Program) (Q : Exit → Slots → Mem → Prop) (s : Slots) (M : Mem) : wpC P c18_21 Q s M = w18_21 P Q M (sget s 5) (sget s 6) (sget s 8) (sget s 9) (sget s 20) (sget s 21) (sget s 22) := by kernel_rfl
def o18_22 : List AOper := [⟨some 29, (.bin .lss .none (.tmp 28) (.tmp 27)), false, none⟩]
def c18_23 : ACode := (.region o18_22 [5, 6, 8, 9, 20, 21, 22, 26, 27, 28, 29])
def w18_23 (_P : Program) (Q : Exit → Slots → Mem → Prop) (M : Mem) (v5 : V) (v6 : V) (v8 : V) (v9 : V) (v20 : V) (v21 : V) (v22 : V) (v26 : V) (v27 : V) (v28 : V) : Prop :=
  @OptVH (binV .lss .none v28 v27) ⟨fun t29_1 =>
  Q .normal [(5, v5), (6, v6), (8, v8), (9, v9), (20, v20), (21, v21), (22, v22), (26, v26), (27, v27), (28, v28), (29, t29_1)] M⟩
theorem e18_23 (P : Program) (Q : Exit → Slots → Mem → Prop) (s : Slots) (M : Mem) : wpC P c18_23 Q s M = w18_23 P Q M (sget s 5) (sget s 6) (sget s 8) (sget s 9) (sget s 20) (sget s 21) (sget s 22) (sget s 26) (sget s 27) (sget s 28) := by kernel_rfl
def c18_24 : ACode := (.cond (.tmp 29) .skip (.exit 2))
def o18_25 : List AOper := [⟨some 30, (.indexSl 13 (.tmp 26) (.tmp 28)), false, none⟩,
  ⟨some 31, (.load 13 true (.tmp 30)), false, none⟩,
  ⟨some 11, (.alloc [(.int .i64 0), (.int .i64 0), (.int .i64 0), (.int .i64 0), (.int .i64 0), (.str []), (.int .i64 0), (.int .i64 0), (.int .i64 0), (.int .i64 0), (.int .i64 0), (.bool false), (.slice [] .nil)]), false, none⟩,
  ⟨none, (.store 13 (.tmp 11) (.tmp 31)), false, none⟩]
def c18_26 : ACode := (.region o18_25 [5, 6, 8, 9, 11, 20, 21, 22, 26, 27, 28])
def w18_26 (_P : Program) (Q : Exit → Slots → Mem → Prop) (M : Mem) (v5 : V) (v6 : V) (v8 : V) (v9 : V) (v20 : V) (v21 : V) (v22 : V) (v26 : V) (v27 : V) (v28 : V) : Prop :=
  @OptVH (indexSlV 13 v26 v28 M) ⟨fun t30_1 =>
  @OptVH (loadV 13 true t30_1 M) ⟨fun t31_2 =>
  @OptMH (allocV [(.int .i64 0), (.int .i64 0), (.int .i64 0), (.int .i64 0), (.int .i64 0), (.str []), (.int .i64 0), (.int .i64 0), (.int .i64 0), (.int .i64 0), (.int .i64 0), (.bool false), (.slice [] .nil)] M) ⟨fun t11_3 M3 =>
  @OptMH (storeVM 13 t11_3 t31_2 M3) ⟨fun _tx_4 M4 =>
  Q .normal [(5, v5), (6, v6), (8, v8), (9, v9), (11, t11_3), (20, v20), (21, v21), (22, v22), (26, v26), (27, v27), (28, v28)] M4⟩⟩⟩⟩
theorem e18_26 (P : Program) (Q : Exit → Slots → Mem → Prop) (s : Slots) (M : Mem) : wpC P c18_26 Q s M = w18_26 P Q M (sget s 5) (sget s 6) (sget s 8) (sget s 9) (sget s 20) (sget s 21) (sget s 22) (sget s 26) (sget s 27) (sget s 28) := by kernel_rfl
def o18_27 : List AOper := [⟨some 32, (.mov (.tmp 9)), true, none⟩,
  ⟨some 33, (.mov (.tmp 32)), true, none⟩,
  ⟨some 34, (.fieldAddr 0 (.tmp 11)), false, some (33, false)⟩,
  ⟨some 35, (.load 1 false (.tmp 34)), false, some (33, false)⟩,
  ⟨some 36, (.fieldAddr 0 (.tmp 8)), false, some (33, false)⟩,
  ⟨some 37, (.load 1 false (.tmp 36)), false, some (33, false)⟩,
  ⟨some 38, (.bin .lss .none (.tmp 35) (.tmp 37)), true, some (33, false)⟩,
  ⟨some 39, (.mov (.tmp 38)), true, some (33, false)⟩,
  ⟨some 40, (.load 13 true (.tmp 11)), false, some (39, true)⟩,
  ⟨some 41, (.load 13 true (.tmp 8)), false, some (39, true)⟩,
  ⟨some 42, (.call i_message_SameTarget [(.tmp 40), (.tmp 41)]), true, some (39, true)⟩,
  ⟨some 43, (.pick (.tmp 39) (.tmp 42) (.const (.bool false))), true, some (33, false)⟩,
  ⟨some 44, (.pick (.tmp 33) (.const (.bool true)) (.tmp 43)), true, none⟩,
  ⟨some 9, (.mov (.tmp 44)), true, none⟩]
def c18_28 : ACode := (.region o18_27 [5, 6, 8, 9, 20, 21, 22, 26, 27, 28])
def w18_28 (P : Program) (Q : Exit → Slots → Mem → Prop) (M : Mem) (v5 : V) (v6 : V) (v8 : V) (v9 : V) (v11 : V) (v20 : V) (v21 : V) (v22 : V) (v26 : V) (v27 : V) (v28 : V) : Prop :=
  @OptBH (some v9) ⟨fun b32_1 =>
  @BIfH b32_1
  ⟨Q .normal [(5, v5), (6, v6), (8, v8), (9, (.bool true)), (20, v20), (21, v21), (22, v22), (26, v26), (27, v27), (28, v28)] M⟩
  ⟨@OptVH (moveV 0 v11) ⟨fun t34_5 =>
  @OptVH (loadV 1 false t34_5 M) ⟨fun t35_6 =>
  @OptVH (moveV 0 v8) ⟨fun t36_7 =>
  @OptVH (loadV 1 false t36_7 M) ⟨fun t37_8 =>
  @OptBH (binV .lss .none t35_6 t37_8) ⟨fun b38_9 =>
  @BIfH b38_9
  ⟨@OptVH (loadV 13 true v11 M) ⟨fun t40_11 =>
  @OptVH (loadV 13 true v8 M) ⟨fun t41_12 =>
  @CallH P i_message_SameTarget [t40_11, t41_12] M ⟨fun t42_13 M13 => @OptBH (some t42_13) ⟨fun b42_13 =>
  Q .normal [(5, v5), (6, v6), (8, v8), (9, (.bool b42_13)), (20, v20), (21, v21), (22, v22), (26, v26), (27, v27), (28, v28)] M13⟩⟩⟩⟩⟩
  ⟨Q .normal [(5, v5), (6, v6), (8, v8), (9, (.bool false)), (20, v20), (21, v21), (22, v22), (26, v26), (27, v27), (28, v28)] M⟩⟩⟩⟩⟩⟩⟩⟩
theorem e18_28 (P : Program) (Q : Exit → Slots → Mem → Prop) (s : Slots) (M : Mem) : wpC P c18_28 Q s M = w18_28 P Q M (sget s 5) (sget s 6) (sget s 8) (sget s 9) (sget s 11) (sget s 20) (sget s 21) (sget s 22) (sget s 26) (sget s 27) (sget s 28) := by kernel_rfl
def c18_29 : ACode := (.seq c18_26 c18_28)
def c18_30 : ACode := (.block 3 c18_29)
def o18_31 : List AOper := [⟨some 45, (.bin .add .none (.tmp 28) (.const (.int .i64 1))), false, none⟩,
  ⟨some 28, (.mov (.tmp 45)), false, none⟩]
def c18_32 : ACode := (.region o18_31 [5, 6, 8, 9, 20, 21, 22, 26, 27, 28])
def w18_32 (_P : Program) (Q : Exit → Slots → Mem → Prop) (M : Mem) (v5 : V) (v6 : V) (v8 : V) (v9 : V) (v20 : V) (v21 : V) (v22 : V) (v26 : V) (v27 : V) (v28 : V) : Prop :=
  @OptVH (binV .add .none v28 (.int .i64 1)) ⟨fun t45_1 =>
  Q .normal [(5, v5), (6, v6), (8, v8), (9, v9), (20, v20), (21, v21), (22, v22), (26, v26), (27, v27), (28, t45_1)] M⟩
theorem e18_32 (P : Program) (Q : Exit → Slots → Mem → Prop) (s : Slots) (M : Mem) : wpC P c18_32 Q s M = w18_32 P Q M (sget s 5) (sget s 6) (sget s 8) (sget s 9) (sget s 20) (sget s 21) (sget s 22) (sget s 26) (sget s 27) (sget s 28) := by kernel_rfl
def c18_33 : ACode := (.seq c18_30 c18_32)
def c18_34 : ACode := (.seq c18_24 c18_33)
def c18_35 : ACode := (.seq c18_23 c18_34)
def c18_36 : ACode := (.loop [5, 6, 8, 9, 20, 21, 22, 26, 27, 28] c18_35)
def c18_37 : ACode := (.block 2 c18_36)
def c18_38 : ACode := (.seq c18_21 c18_37)
def o18_39 : List AOper := [⟨some 48, (.mov (.tmp 6)), false, none⟩,
  ⟨some 49, (.load 13 true (.tmp 8)), false, none⟩,
  ⟨some 50, (.call i_inbox_inserted_api_Message [(.tmp 48), (.tmp 49), (.const (.pfn i_inbox_before []))]), false, none⟩,
  ⟨some 6, (.mov (.tmp 50)), false, none⟩]
def c18_40 : ACode := (.region o18_39 [5, 6, 20, 21, 22])
def w18_40 (P : Program) (Q : Exit → Slots → Mem → Prop) (M : Mem) (v5 : V) (v6 : V) (v8 : V) (v20 : V) (v21 : V) (v22 : V) : Prop :=
  @OptVH (loadV 13 true v8 M) ⟨fun t49_2 =>
  @CallH P i_inbox_inserted_api_Message [v6, t49_2, (.pfn i_inbox_before [])] M ⟨fun t50_3 M3 =>
  Q .normal [(5, v5), (6, t50_3), (20, v20), (21, v21), (22, v22)] M3⟩⟩
theorem e18_40 (P : Program) (Q : Exit → Slots → Mem → Prop) (s : Slots) (M : Mem) : wpC P c18_40 Q s M = w18_40 P Q M (sget s 5) (sget s 6) (sget s 8) (sget s 20) (sget s 21) (sget s 22) := by kernel_rfl
def o18_41 : List AOper := [⟨some 46, (.mov (.tmp 9)), true, none⟩,
  ⟨some 47, (.un .not (.tmp 46)), true, none⟩]
def c18_42 : ACode := (.seq (.region o18_41 [5, 6, 8, 20, 21, 22, 47]) (.cond (.tmp 47) c18_40 .skip))
def w18_42 (P : Program) (Q : Exit → Slots → Mem → Prop) (M : Mem) (v5 : V) (v6 : V) (v8 : V) (v9 : V) (v20 : V) (v21 : V) (v22 : V) : Prop :=
  @OptBH (some v9) ⟨fun b46_1 =>
  @OptBH (unV .not (.bool b46_1)) ⟨fun b47_2 =>
  @BIfH b47_2
  ⟨wpC P c18_40 Q [(5, v5), (6, v6), (8, v8), (20, v20), (21, v21), (22, v22), (47, (.bool b47_2))] M⟩
  ⟨Q .normal [(5, v5), (6, v6), (8, v8), (20, v20), (21, v21), (22, v22), (47, (.bool b47_2))] M⟩⟩⟩
theorem e18_42 (P : Program) (Q : Exit → Slots → Mem → Prop) (s : Slots) (M : Mem) : wpC P c18_42 Q s M = w18_42 P Q M (sget s 5) (sget s 6) (sget s 8) (sget s 9) (sget s 20) (sget s 21) (sget s 22) := by kernel_rfl
def c18_43 : ACode := (.seq c18_38 c18_42)
def c18_44 : ACode := (.seq c18_19 c18_43)
def c18_45 : ACode := (.seq c18_17 c18_44)
def c18_46 : ACode := (.block 1 c18_45)
def o18_47 : List AOper := [⟨some 51, (.bin .add .none (.tmp 22) (.const (.int .i64 1))), false, none⟩,
  ⟨some 22, (.mov (.tmp 51)), false, none⟩]
def c18_48 : ACode := (.region o18_47 [5, 6, 20, 21, 22])
def w18_48 (_P : Program) (Q : Exit → Slots → Mem → Prop) (M : Mem) (v5 : V) (v6 : V) (v20 : V) (v21 : V) (v22 : V) : Prop :=
  @OptVH (binV .add .none v22 (.int .i64 1)) ⟨fun t51_1 =>
  Q .normal [(5, v5), (6, v6), (20, v20), (21, v21), (22, t51_1)] M⟩
theorem e18_48 (P : Program) (Q : Exit → Slots → Mem → Prop) (s : Slots) (M : Mem) : wpC P c18_48 Q s M = w18_48 P Q M (sget s 5) (sget s 6) (sget s 20) (sget s 21) (sget s 22) := by kernel_rfl
def c18_49 : ACode := (.seq c18_46 c18_48)
def c18_50 : ACode := (.seq c18_15 c18_49)
def c18_51 : ACode := (.seq c18_14 c18_50)
def c18_52 : ACode := (.loop [5, 6, 20, 21, 22] c18_51)
def c18_53 : ACode := (.block 0 c18_52)
def c18_54 : ACode := (.seq c18_12 c18_53)
def o18_55 : List AOper := [⟨some 52, (.mov (.tmp 6)), false, none⟩,
  ⟨some 4, (.mov (.tmp 52)), false, none⟩]
def c18_56 : ACode := (.region o18_55 [4])
def w18_56 (_P : Program) (Q : Exit → Slots → Mem → Prop) (M : Mem) (v6 : V) : Prop :=
  Q .normal [(4, v6)] M
theorem e18_56 (P : Program) (Q : Exit → Slots → Mem → Prop) (s : Slots) (M : Mem) : wpC P c18_56 Q s M = w18_56 P Q M (sget s 6) := by kernel_rfl
def c18_57 : ACode := (.seq c18_56 .ret)
def c18_58 : ACode := (.seq c18_54 c18_57)
def c18_59 : ACode := (.seq c18_10 c18_58)
def c18_60 : ACode := (.seq c18_8 c18_59)
def c18_61 : ACode := (.seq c18_6 c18_60)
def c18_62 : ACode := (.seq c18_1 c18_61)
def fn_inbox_Inbox_Active : AFn := ⟨53, [(.tmp 4)], c18_62⟩
theorem fn_inbox_Inbox_Active_ok : resFn PR h_inbox_Inbox_Active i_inbox_Inbox_Active = some fn_inbox_Inbox_Active := by kernel_rfl

def h_inbox_Inbox_Messages : Hints := ⟨[(0, [0]), (1, [0, 4]), (2, [2]), (3, [2])], [], []⟩
def o19_0 : List AOper := [⟨some 2, (.mov (.const (.slice [] .nil))), false, none⟩]
def c19_1 : ACode := (.region o19_0 [0])
def w19_1 (_P : Program) (Q : Exit → Slots → Mem → Prop) (M : Mem) (v0 : V) : Prop :=
  Q .normal [(0, v0)] M
theorem e19_1 (P : Program) (Q : Exit → Slots → Mem → Prop) (s : Slots) (M : Mem) : wpC P c19_1 Q s M = w19_1 P Q M (sget s 0) := by kernel_rfl
def o19_2 : List AOper := [⟨some 2, (.mov (.const (.slice [] .nil))), false, none⟩]
def c19_3 : ACode := (.region o19_2 [2])
def w19_3 (_P : Program) (Q : Exit → Slots → Mem → Prop) (M : Mem) : Prop :=
  Q .normal [(2, (.slice [] .nil))] M
theorem e19_3 (P : Program) (Q : Exit → Slots → Mem → Prop) (s : Slots) (M : Mem) : wpC P c19_3 Q s M = w19_3 P Q M := by kernel_rfl
def c19_4 : ACode := (.seq c19_3 .ret)
def o19_5 : List AOper := [⟨some 3, (.mov (.tmp 0)), false, none⟩,
  ⟨some 4, (.bin .eql .ptr (.tmp 3) (.const .nilp)), true, none⟩]
def c19_6 : ACode := (.seq (.region o19_5 [0, 4]) (.cond (.tmp 4) c19_4 .skip))
def w19_6 (P : Program) (Q : Exit → Slots → Mem → Prop) (M : Mem) (v0 : V) : Prop :=
  @OptBH (binV .eql .ptr v0 .nilp) ⟨fun b4_2 =>
  @BIfH b4_2
  ⟨wpC P c19_4 Q [(0, v0), (4, (.bool b4_2))] M⟩
  ⟨Q .normal [(0, v0), (4, (.bool b4_2))] M⟩⟩
theorem e19_6 (P : Program) (Q : Exit → Slots → Mem → Prop) (s : Slots) (M : Mem) : wpC P c19_6 Q s M = w19_6 P Q M (sget s 0) := by kernel_rfl
def o19_7 : List AOper := [⟨some 5, (.mov (.tmp 0)), false, none⟩,
  ⟨some 6, (.nilCheck (.tmp 5)), false, none⟩,
  ⟨some 7, (.fieldAddr 2 (.tmp 6)), false, none⟩,
  ⟨some 8, (.load 1 false (.tmp 7)), false, none⟩,
  ⟨some 9, (.call i_inbox_filtered [(.tmp 8), (.const (.pfn i_inbox_Inbox_Messages_1 []))]), false, none⟩,
  ⟨some 2, (.mov (.tmp 9)), false, none⟩]
def c19_8 : ACode := (.region o19_7 [2])
def w19_8 (P : Program) (Q : Exit → Slots → Mem → Prop) (M : Mem) (v0 : V) : Prop :=
  @OptVH (nilCheckV v0) ⟨fun t6_2 =>
  @OptVH (moveV 2 t6_2) ⟨fun t7_3 =>
  @OptVH (loadV 1 false t7_3 M) ⟨fun t8_4 =>
  @CallH P i_inbox_filtered [t8_4, (.pfn i_inbox_Inbox_Messages_1 [])] M ⟨fun t9_5 M5 =>
  Q .normal [(2, t9_5)] M5⟩⟩⟩⟩
theorem e19_8 (P : Program) (Q : Exit → Slots → Mem → Prop) (s : Slots) (M : Mem) : wpC P c19_8 Q s M = w19_8 P Q M (sget s 0) := by kernel_rfl
def c19_9 : ACode := (.seq c19_8 .ret)
def c19_10 : ACode := (.seq c19_6 c19_9)
def c19_11 : ACode := (.seq c19_1 c19_10)
def fn_inbox_Inbox_Messages : AFn := ⟨10, [(.tmp 2)], c19_11⟩
theorem fn_inbox_Inbox_Messages_ok : resFn PR h_inbox_Inbox_Messages i_inbox_Inbox_Messages = some fn_inbox_Inbox_Messages := by kernel_rfl

def h_inbox_Inbox_Failed : Hints := ⟨[(0, [0, 1, 2]), (1, [6])], [], []⟩
def o20_0 : List AOper := [⟨some 6, (.mov (.const (.bool false))), true, none⟩]
def c20_1 : ACode := (.region o20_0 [0, 1, 2])
def w20_1 (_P : Program) (Q : Exit → Slots → Mem → Prop) (M : Mem) (v0 : V) (v1 : V) (v2 : V) : Prop :=
  Q .normal [(0, v0), (1, v1), (2, v2)] M
theorem e20_1 (P : Program) (Q : Exit → Slots → Mem → Prop) (s : Slots) (M : Mem) : wpC P c20_1 Q s M = w20_1 P Q M (sget s 0) (sget s 1) (sget s 2) := by kernel_rfl
def o20_2 : List AOper := [⟨some 7, (.mov (.tmp 0)), false, none⟩,
  ⟨some 8, (.mov (.tmp 1)), false, none⟩,
  ⟨some 9, (.call i_inbox_Inbox_exists [(.tmp 7), (.tmp 8)]), true, none⟩,
  ⟨some 10, (.mov (.tmp 9)), true, none⟩,
  ⟨some 11, (.mov (.tmp 0)), false, some (10, true)⟩,
  ⟨some 12, (.nilCheck (.tmp 11)), false, some (10, true)⟩,
  ⟨some 13, (.fieldAddr 0 (.tmp 12)), false, some (10, true)⟩,
  ⟨some 14, (.load 1 false (.tmp 13)), false, some (10, true)⟩,
  ⟨some 15, (.mov (.tmp 1)), false, some (10, true)⟩,
  ⟨some 16, (.indexSl 4 (.tmp 14) (.tmp 15)), false, some (10, true)⟩,
  ⟨some 17, (.fieldAddr 0 (.tmp 16)), false, some (10, true)⟩,
  ⟨some 18, (.mov (.tmp 2)), false, some (10, true)⟩,
  ⟨some 19, (.mov (.tmp 0)), false, some (10, true)⟩,
  ⟨some 20, (.nilCheck (.tmp 19)), false, some (10, true)⟩,
  ⟨some 21, (.fieldAddr 1 (.tmp 20)), false, some (10, true)⟩,
  ⟨some 22, (.load 1 false (.tmp 21)), false, some (10, true)⟩,
  ⟨some 23, (.call i_inbox_heard_silent [(.tmp 17), (.tmp 18), (.tmp 22)]), true, some (10, true)⟩,
  ⟨some 24, (.pick (.tmp 10) (.tmp 23) (.const (.bool false))), true, none⟩,
  ⟨some 6, (.mov (.tmp 24)), true, none⟩]
def c20_3 : ACode := (.mixed o20_2 [true, true, false, true, true, true, true, true, true, true, true, true, true, true, true, true, false, true, true] [6])
def w20_3 (P : Program) (Q : Exit → Slots → Mem → Prop) (M : Mem) (v0 : V) (v1 : V) (v2 : V) : Prop :=
  @CallH P i_inbox_Inbox_exists [v0, v1] M ⟨fun t9_3 M3 => @OptBH (some t9_3) ⟨fun b9_3 =>
  @BIfH b9_3
  ⟨@OptVH (nilCheckV v0) ⟨fun t12_6 =>
  @OptVH (moveV 0 t12_6) ⟨fun t13_7 =>
  @OptVH (loadV 1 false t13_7 M3) ⟨fun t14_8 =>
  @OptVH (indexSlV 4 t14_8 v1 M3) ⟨fun t16_10 =>
  @OptVH (moveV 0 t16_10) ⟨fun t17_11 =>
  @OptVH (nilCheckV v0) ⟨fun t20_14 =>
  @OptVH (moveV 1 t20_14) ⟨fun t21_15 =>
  @OptVH (loadV 1 false t21_15 M3) ⟨fun t22_16 =>
  @CallH P i_inbox_heard_silent [t17_11, v2, t22_16] M3 ⟨fun t23_17 M17 => @OptBH (some t23_17) ⟨fun b23_17 =>
  Q .normal [(6, (.bool b23_17))] M17⟩⟩⟩⟩⟩⟩⟩⟩⟩⟩⟩
  ⟨Q .normal [(6, (.bool false))] M3⟩⟩⟩
theorem e20_3 (P : Program) (Q : Exit → Slots → Mem → Prop) (s : Slots) (M : Mem) : wpC P c20_3 Q s M = w20_3 P Q M (sget s 0) (sget s 1) (sget s 2) := by kernel_rfl
def c20_4 : ACode := (.seq c20_3 .ret)
def c20_5 : ACode := (.seq c20_1 c20_4)
def fn_inbox_Inbox_Failed : AFn := ⟨25, [(.tmp 6)], c20_5⟩
theorem fn_inbox_Inbox_Failed_ok : resFn PR h_inbox_Inbox_Failed i_inbox_Inbox_Failed = some fn_inbox_Inbox_Failed := by kernel_rfl

def h_transitref31_SameTarget : Hints := ⟨[(0, [2, 3]), (1, [4])], [], []⟩
def o22_0 : List AOper := [⟨some 2, (.box 13 (.tmp 0)), false, none⟩,
  ⟨some 3, (.box 13 (.tmp 1)), false, none⟩,
  ⟨some 4, (.mov (.const (.bool false))), true, none⟩]
def c22_1 : ACode := (.region o22_0 [2, 3])
def w22_1 (_P : Program) (Q : Exit → Slots → Mem → Prop) (M : Mem) (v0 : V) (v1 : V) : Prop :=
  @OptMH (boxV 13 v0 M) ⟨fun t2_1 M1 =>
  @OptMH (boxV 13 v1 M1) ⟨fun t3_2 M2 =>
  Q .normal [(2, t2_1), (3, t3_2)] M2⟩⟩
theorem e22_1 (P : Program) (Q : Exit → Slots → Mem → Prop) (s : Slots) (M : Mem) : wpC P c22_1 Q s M = w22_1 P Q M (sget s 0) (sget s 1) := by kernel_rfl
def o22_2 : List AOper := [⟨some 5, (.fieldAddr 5 (.tmp 2)), false, none⟩,
  ⟨some 6, (.load 1 false (.tmp 5)), false, none⟩,
  ⟨some 7, (.fieldAddr 5 (.tmp 3)), false, none⟩,
  ⟨some 8, (.load 1 false (.tmp 7)), false, none⟩,
  ⟨some 9, (.bin .eql .none (.tmp 6) (.tmp 8)), true, none⟩,
  ⟨some 10, (.mov (.tmp 9)), true, none⟩,
  ⟨some 11, (.fieldAddr 6 (.tmp 2)), false, some (10, true)⟩,
  ⟨some 12, (.load 1 false (.tmp 11)), false, some (10, true)⟩,
  ⟨some 13, (.fieldAddr 6 (.tmp 3)), false, some (10, true)⟩,
  ⟨some 14, (.load 1 false (.tmp 13)), false, some (10, true)⟩,
  ⟨some 15, (.bin .eql .none (.tmp 12) (.tmp 14)), true, some (10, true)⟩,
  ⟨some 16, (.pick (.tmp 10) (.tmp 15) (.const (.bool false))), true, none⟩,
  ⟨some 17, (.mov (.tmp 16)), true, none⟩,
  ⟨some 18, (.fieldAddr 7 (.tmp 2)), false, some (17, true)⟩,
  ⟨some 19, (.load 1 false (.tmp 18)), false, some (17, true)⟩,
  ⟨some 20, (.fieldAddr 7 (.tmp 3)), false, some (17, true)⟩,
  ⟨some 21, (.load 1 false (.tmp 20)), false, some (17, true)⟩,
  ⟨some 22, (.bin .eql .none (.tmp 19) (.tmp 21)), true, some (17, true)⟩,
  ⟨some 23, (.pick (.tmp 17) (.tmp 22) (.const (.bool false))), true, none⟩,
  ⟨some 4, (.mov (.tmp 23)), true, none⟩]
def c22_3 : ACode := (.region o22_2 [4])
def w22_3 (_P : Program) (Q : Exit → Slots → Mem → Prop) (M : Mem) (v2 : V) (v3 : V) : Prop :=
  @OptVH (moveV 5 v2) ⟨fun t5_1 =>
  @OptVH (loadV 1 false t5_1 M) ⟨fun t6_2 =>
  @OptVH (moveV 5 v3) ⟨fun t7_3 =>
  @OptVH (loadV 1 false t7_3 M) ⟨fun t8_4 =>
  @OptBH (binV .eql .none t6_2 t8_4) ⟨fun b9_5 =>
  @BIfH b9_5
  ⟨@OptVH (moveV 6 v2) ⟨fun t11_7 =>
  @OptVH (loadV 1 false t11_7 M) ⟨fun t12_8 =>
  @OptVH (moveV 6 v3) ⟨fun t13_9 =>
  @OptVH (loadV 1 false t13_9 M) ⟨fun t14_10 =>
  @OptBH (binV .eql .none t12_8 t14_10) ⟨fun b15_11 =>
  @BIfH b15_11
  ⟨@OptVH (moveV 7 v2) ⟨fun t18_14 =>
  @OptVH (loadV 1 false t18_14 M) ⟨fun t19_15 =>
  @OptVH (moveV 7 v3) ⟨fun t20_16 =>
  @OptVH (loadV 1 false t20_16 M) ⟨fun t21_17 =>
  @OptBH (binV .eql .none t19_15 t21_17) ⟨fun b22_18 =>
  Q .normal [(4, (.bool b22_18))] M⟩⟩⟩⟩⟩⟩
  ⟨Q .normal [(4, (.bool false))] M⟩⟩⟩⟩⟩⟩⟩
  ⟨Q .normal [(4, (.bool false))] M⟩⟩⟩⟩⟩⟩
theorem e22_3 (P : Program) (Q : Exit → Slots → Mem → Prop) (s : Slots) (M : Mem) : wpC P c22_3 Q s M = w22_3 P Q M (sget s 2) (sget s 3) := by kernel_rfl
def c22_4 : ACode := (.seq c22_3 .ret)
def c22_5 : ACode := (.seq c22_1 c22_4)
def fn_transitref31_SameTarget : AFn := ⟨24, [(.tmp 4)], c22_5⟩
theorem fn_transitref31_SameTarget_ok : resFn PR h_transitref31_SameTarget i_transitref31_SameTarget = some fn_transitref31_SameTarget := by kernel_rfl

def h_inbox_Inbox_Heartbeat : Hints := ⟨[(0, [0, 1, 2]), (1, [0, 1, 2, 7]), (2, [6]), (3, [0, 1, 2, 10]), (4, [6]), (5, [0, 1, 2, 15]), (6, [6]), (7, []), (8, [6])], [], []⟩
def o25_0 : List AOper := [⟨some 6, (.mov (.const (.int .i64 0))), false, none⟩]
def c25_1 : ACode := (.region o25_0 [0, 1, 2])
def w25_1 (_P : Program) (Q : Exit → Slots → Mem → Prop) (M : Mem) (v0 : V) (v1 : V) (v2 : V) : Prop :=
  Q .normal [(0, v0), (1, v1), (2, v2)] M
theorem e25_1 (P : Program) (Q : Exit → Slots → Mem → Prop) (s : Slots) (M : Mem) : wpC P c25_1 Q s M = w25_1 P Q M (sget s 0) (sget s 1) (sget s 2) := by kernel_rfl
def o25_2 : List AOper := [⟨some 6, (.mov (.const (.int .i64 40))), false, none⟩]
def c25_3 : ACode := (.region o25_2 [6])
def w25_3 (_P : Program) (Q : Exit → Slots → Mem → Prop) (M : Mem) : Prop :=
  Q .normal [(6, (.int .i64 40))] M
theorem e25_3 (P : Program) (Q : Exit → Slots → Mem → Prop) (s : Slots) (M : Mem) : wpC P c25_3 Q s M = w25_3 P Q M := by kernel_rfl
def c25_4 : ACode := (.seq c25_3 .ret)
def o25_5 : List AOper := [⟨some 6, (.mov (.const (.int .i64 36))), false, none⟩]
def c25_6 : ACode := (.region o25_5 [6])
def w25_6 (_P : Program) (Q : Exit → Slots → Mem → Prop) (M : Mem) : Prop :=
  Q .normal [(6, (.int .i64 36))] M
theorem e25_6 (P : Program) (Q : Exit → Slots → Mem → Prop) (s : Slots) (M : Mem) : wpC P c25_6 Q s M = w25_6 P Q M := by kernel_rfl
def c25_7 : ACode := (.seq c25_6 .ret)
def o25_8 : List AOper := [⟨some 6, (.mov (.const (.int .i64 10))), false, none⟩]
def c25_9 : ACode := (.region o25_8 [6])
def w25_9 (_P : Program) (Q : Exit → Slots → Mem → Prop) (M : Mem) : Prop :=
  Q .normal [(6, (.int .i64 10))] M
theorem e25_9 (P : Program) (Q : Exit → Slots → Mem → Prop) (s : Slots) (M : Mem) : wpC P c25_9 Q s M = w25_9 P Q M := by kernel_rfl
def c25_10 : ACode := (.seq c25_9 .ret)
def o25_11 : List AOper := [⟨some 16, (.mov (.tmp 2)), false, none⟩,
  ⟨some 17, (.bin .lss .none (.tmp 16) (.const (.int .i64 0))), true, none⟩,
  ⟨some 18, (.mov (.tmp 17)), true, none⟩,
  ⟨some 19, (.mov (.tmp 2)), false, some (18, false)⟩,
  ⟨some 20, (.bin .gtr .none (.tmp 19) (.const (.int .i64 3155932800))), true, some (18, false)⟩,
  ⟨some 21, (.pick (.tmp 18) (.const (.bool true)) (.tmp 20)), true, none⟩,
  ⟨some 15, (.mov (.tmp 21)), true, none⟩]
def c25_12 : ACode := (.seq (.region o25_11 [0, 1, 2, 15]) (.cond (.tmp 15) c25_10 .skip))
def w25_12 (P : Program) (Q : Exit → Slots → Mem → Prop) (M : Mem) (v0 : V) (v1 : V) (v2 : V) : Prop :=
  @OptBH (binV .lss .none v2 (.int .i64 0)) ⟨fun b17_2 =>
  @BIfH b17_2
  ⟨wpC P c25_10 Q [(0, v0), (1, v1), (2, v2), (15, (.bool true))] M⟩
  ⟨@OptBH (binV .gtr .none v2 (.int .i64 3155932800)) ⟨fun b20_7 =>
  @BIfH b20_7
  ⟨wpC P c25_10 Q [(0, v0), (1, v1), (2, v2), (15, (.bool b20_7))] M⟩
  ⟨Q .normal [(0, v0), (1, v1), (2, v2), (15, (.bool b20_7))] M⟩⟩⟩⟩
theorem e25_12 (P : Program) (Q : Exit → Slots → Mem → Prop) (s : Slots) (M : Mem) : wpC P c25_12 Q s M = w25_12 P Q M (sget s 0) (sget s 1) (sget s 2) := by kernel_rfl
def o25_13 : List AOper := [⟨some 11, (.mov (.tmp 0)), false, none⟩,
  ⟨some 12, (.mov (.tmp 1)), false, none⟩,
  ⟨some 13, (.call i_inbox_Inbox_exists [(.tmp 11), (.tmp 12)]), true, none⟩,
  ⟨some 14, (.un .not (.tmp 13)), true, none⟩,
  ⟨some 10, (.mov (.tmp 14)), true, none⟩]
def c25_14 : ACode := (.seq (.region o25_13 [0, 1, 2, 10]) (.cond (.tmp 10) c25_7 c25_12))
def w25_14 (P : Program) (Q : Exit → Slots → Mem → Prop) (M : Mem) (v0 : V) (v1 : V) (v2 : V) : Prop :=
  @CallH P i_inbox_Inbox_exists [v0, v1] M ⟨fun t13_3 M3 => @OptBH (some t13_3) ⟨fun b13_3 =>
  @OptBH (unV .not (.bool b13_3)) ⟨fun b14_4 =>
  @BIfH b14_4
  ⟨wpC P c25_7 Q [(0, v0), (1, v1), (2, v2), (10, (.bool b14_4))] M3⟩
  ⟨wpC P c25_12 Q [(0, v0), (1, v1), (2, v2), (10, (.bool b14_4))] M3⟩⟩⟩⟩
theorem e25_14 (P : Program) (Q : Exit → Slots → Mem → Prop) (s : Slots) (M : Mem) : wpC P c25_14 Q s M = w25_14 P Q M (sget s 0) (sget s 1) (sget s 2) := by kernel_rfl
def o25_15 : List AOper := [⟨some 8, (.mov (.tmp 0)), false, none⟩,
  ⟨some 9, (.bin .eql .ptr (.tmp 8) (.const .nilp)), true, none⟩,
  ⟨some 7, (.mov (.tmp 9)), true, none⟩]
def c25_16 : ACode := (.seq (.region o25_15 [0, 1, 2, 7]) (.cond (.tmp 7) c25_4 c25_14))
def w25_16 (P : Program) (Q : Exit → Slots → Mem → Prop) (M : Mem) (v0 : V) (v1 : V) (v2 : V) : Prop :=
  @OptBH (binV .eql .ptr v0 .nilp) ⟨fun b9_2 =>
  @BIfH b9_2
  ⟨wpC P c25_4 Q [(0, v0), (1, v1), (2, v2), (7, (.bool b9_2))] M⟩
  ⟨wpC P c25_14 Q [(0, v0), (1, v1), (2, v2), (7, (.bool b9_2))] M⟩⟩
theorem e25_16 (P : Program) (Q : Exit → Slots → Mem → Prop) (s : Slots) (M : Mem) : wpC P c25_16 Q s M = w25_16 P Q M (sget s 0) (sget s 1) (sget s 2) := by kernel_rfl
def c25_17 : ACode := (.block 0 c25_16)
def o25_18 : List AOper := [⟨some 22, (.mov (.tmp 0)), false, none⟩,
  ⟨some 23, (.nilCheck (.tmp 22)), false, none⟩,
  ⟨some 24, (.fieldAddr 0 (.tmp 23)), false, none⟩,
  ⟨some 25, (.load 1 false (.tmp 24)), false, none⟩,
  ⟨some 26, (.mov (.tmp 1)), false, none⟩,
  ⟨some 27, (.indexSl 4 (.tmp 25) (.tmp 26)), false, none⟩,
  ⟨some 28, (.fieldAddr 0 (.tmp 27)), false, none⟩,
  ⟨some 29, (.mov (.tmp 2)), false, none⟩,
  ⟨some 30, (.call i_inbox_heard_hear [(.tmp 28), (.tmp 29)]), false, none⟩]
def c25_19 : ACode := (.region o25_18 [])
def w25_19 (P : Program) (Q : Exit → Slots → Mem → Prop) (M : Mem) (v0 : V) (v1 : V) (v2 : V) : Prop :=
  @OptVH (nilCheckV v0) ⟨fun t23_2 =>
  @OptVH (moveV 0 t23_2) ⟨fun t24_3 =>
  @OptVH (loadV 1 false t24_3 M) ⟨fun t25_4 =>
  @OptVH (indexSlV 4 t25_4 v1 M) ⟨fun t27_6 =>
  @OptVH (moveV 0 t27_6) ⟨fun t28_7 =>
  @CallH P i_inbox_heard_hear [t28_7, v2] M ⟨fun _t30_9 M9 =>
  Q .normal [] M9⟩⟩⟩⟩⟩⟩
theorem e25_19 (P : Program) (Q : Exit → Slots → Mem → Prop) (s : Slots) (M : Mem) : wpC P c25_19 Q s M = w25_19 P Q M (sget s 0) (sget s 1) (sget s 2) := by kernel_rfl
def o25_20 : List AOper := [⟨some 6, (.mov (.const (.int .i64 0))), false, none⟩]
def c25_21 : ACode := (.region o25_20 [6])
def w25_21 (_P : Program) (Q : Exit → Slots → Mem → Prop) (M : Mem) : Prop :=
  Q .normal [(6, (.int .i64 0))] M
theorem e25_21 (P : Program) (Q : Exit → Slots → Mem → Prop) (s : Slots) (M : Mem) : wpC P c25_21 Q s M = w25_21 P Q M := by kernel_rfl
def c25_22 : ACode := (.seq c25_21 .ret)
def c25_23 : ACode := (.seq c25_19 c25_22)
def c25_24 : ACode := (.seq c25_17 c25_23)
def c25_25 : ACode := (.seq c25_1 c25_24)
def fn_inbox_Inbox_Heartbeat : AFn := ⟨31, [(.tmp 6)], c25_25⟩
theorem fn_inbox_Inbox_Heartbeat_ok : resFn PR h_inbox_Inbox_Heartbeat i_inbox_Inbox_Heartbeat = some fn_inbox_Inbox_Heartbeat := by kernel_rfl

def h_transitlaw32_message : Hints := ⟨[(0, [0, 1, 2, 3, 8]), (1, [8])], [], []⟩
def o31_0 : List AOper := [⟨some 8, (.alloc [(.int .i64 0), (.int .i64 0), (.int .i64 0), (.int .i64 0), (.int .i64 0), (.str []), (.int .i64 0), (.int .i64 0), (.int .i64 0), (.int .i64 0), (.int .i64 0), (.bool false), (.slice [] .nil)]), false, none⟩]
def c31_1 : ACode := (.region o31_0 [0, 1, 2, 3, 8])
def w31_1 (_P : Program) (Q : Exit → Slots → Mem → Prop) (M : Mem) (v0 : V) (v1 : V) (v2 : V) (v3 : V) : Prop :=
  @OptMH (allocV [(.int .i64 0), (.int .i64 0), (.int .i64 0), (.int .i64 0), (.int .i64 0), (.str []), (.int .i64 0), (.int .i64 0), (.int .i64 0), (.int .i64 0), (.int .i64 0), (.bool false), (.slice [] .nil)] M) ⟨fun t8_1 M1 =>
  Q .normal [(0, v0), (1, v1), (2, v2), (3, v3), (8, t8_1)] M1⟩
theorem e31_1 (P : Program) (Q : Exit → Slots → Mem → Prop) (s : Slots) (M : Mem) : wpC P c31_1 Q s M = w31_1 P Q M (sget s 0) (sget s 1) (sget s 2) (sget s 3) := by kernel_rfl
def o31_2 : List AOper := [⟨some 9, (.mov (.tmp 0)), false, none⟩,
  ⟨some 10, (.mov (.tmp 1)), false, none⟩,
  ⟨some 11, (.mov (.tmp 2)), false, none⟩,
  ⟨some 12, (.mov (.tmp 3)), false, none⟩,
  ⟨some 13, (.build [(.int .i64 0), (.int .i64 0), (.int .i64 0), (.int .i64 0), (.int .i64 0), (.str []), (.int .i64 0), (.int .i64 0), (.int .i64 0), (.int .i64 0), (.int .i64 0), (.bool false), (.slice [] .nil)] [(0, (1, (.tmp 9))), (1, (1, (.tmp 10))), (2, (1, (.tmp 11))), (3, (1, (.tmp 12))), (4, (1, (.const (.int .i64 2)))), (5, (1, (.const (.str [84]))))]), false, none⟩,
  ⟨none, (.store 13 (.tmp 8) (.tmp 13)), false, none⟩]
def c31_3 : ACode := (.region o31_2 [8])
def w31_3 (_P : Program) (Q : Exit → Slots → Mem → Prop) (M : Mem) (v0 : V) (v1 : V) (v2 : V) (v3 : V) (v8 : V) : Prop :=
  @OptVH (buildV [(.int .i64 0), (.int .i64 0), (.int .i64 0), (.int .i64 0), (.int .i64 0), (.str []), (.int .i64 0), (.int .i64 0), (.int .i64 0), (.int .i64 0), (.int .i64 0), (.bool false), (.slice [] .nil)] [(0, 1, v0), (1, 1, v1), (2, 1, v2), (3, 1, v3), (4, 1, (.int .i64 2)), (5, 1, (.str [84]))]) ⟨fun t13_5 =>
  @OptMH (storeVM 13 v8 t13_5 M) ⟨fun _tx_6 M6 =>
  Q .normal [(8, v8)] M6⟩⟩
theorem e31_3 (P : Program) (Q : Exit → Slots → Mem → Prop) (s : Slots) (M : Mem) : wpC P c31_3 Q s M = w31_3 P Q M (sget s 0) (sget s 1) (sget s 2) (sget s 3) (sget s 8) := by kernel_rfl
def c31_4 : ACode := (.seq c31_3 .ret)
def c31_5 : ACode := (.seq c31_1 c31_4)
def fn_transitlaw32_message : AFn := ⟨14, [(.cell 8 13 true)], c31_5⟩
theorem fn_transitlaw32_message_ok : resFn PR h_transitlaw32_message i_transitlaw32_message = some fn_transitlaw32_message := by kernel_rfl

def h_inbox_Inbox_refusal : Hints := ⟨[(0, [0, 2, 4]), (1, [0, 2, 4, 14]), (2, [6]), (3, [0, 2, 4, 7]), (4, [0, 2, 4, 7, 18]), (5, [6]), (6, [0, 2, 4, 27]), (7, [6]), (8, [2, 4, 8]), (9, [50]), (10, [6]), (11, [6])], [], []⟩
def o32_0 : List AOper := [⟨some 4, (.box 13 (.tmp 1)), false, none⟩,
  ⟨some 6, (.mov (.const (.int .i64 0))), false, none⟩]
def c32_1 : ACode := (.region o32_0 [0, 2, 4])
def w32_1 (_P : Program) (Q : Exit → Slots → Mem → Prop) (M : Mem) (v0 : V) (v1 : V) (v2 : V) : Prop :=
  @OptMH (boxV 13 v1 M) ⟨fun t4_1 M1 =>
  Q .normal [(0, v0), (2, v2), (4, t4_1)] M1⟩
theorem e32_1 (P : Program) (Q : Exit → Slots → Mem → Prop) (s : Slots) (M : Mem) : wpC P c32_1 Q s M = w32_1 P Q M (sget s 0) (sget s 1) (sget s 2) := by kernel_rfl
def o32_2 : List AOper := [⟨some 6, (.mov (.const (.int .i64 10))), false, none⟩]
def c32_3 : ACode := (.region o32_2 [6])
def w32_3 (_P : Program) (Q : Exit → Slots → Mem → Prop) (M : Mem) : Prop :=
  Q .normal [(6, (.int .i64 10))] M
theorem e32_3 (P : Program) (Q : Exit → Slots → Mem → Prop) (s : Slots) (M : Mem) : wpC P c32_3 Q s M = w32_3 P Q M := by kernel_rfl
def c32_4 : ACode := (.seq c32_3 .ret)
def o32_5 : List AOper := [⟨some 9, (.mov (.tmp 2)), false, none⟩,
  ⟨some 10, (.bin .lss .none (.tmp 9) (.const (.int .i64 0))), true, none⟩,
  ⟨some 11, (.mov (.tmp 10)), true, none⟩,
  ⟨some 12, (.mov (.tmp 2)), false, some (11, false)⟩,
  ⟨some 13, (.bin .gtr .none (.tmp 12) (.const (.int .i64 3155932800))), true, some (11, false)⟩,
  ⟨some 14, (.pick (.tmp 11) (.const (.bool true)) (.tmp 13)), true, none⟩]
def c32_6 : ACode := (.seq (.region o32_5 [0, 2, 4, 14]) (.cond (.tmp 14) c32_4 .skip))
def w32_6 (P : Program) (Q : Exit → Slots → Mem → Prop) (M : Mem) (v0 : V) (v2 : V) (v4 : V) : Prop :=
  @OptBH (binV .lss .none v2 (.int .i64 0)) ⟨fun b10_2 =>
  @BIfH b10_2
  ⟨wpC P c32_4 Q [(0, v0), (2, v2), (4, v4), (14, (.bool true))] M⟩
  ⟨@OptBH (binV .gtr .none v2 (.int .i64 3155932800)) ⟨fun b13_6 =>
  @BIfH b13_6
  ⟨wpC P c32_4 Q [(0, v0), (2, v2), (4, v4), (14, (.bool b13_6))] M⟩
  ⟨Q .normal [(0, v0), (2, v2), (4, v4), (14, (.bool b13_6))] M⟩⟩⟩⟩
theorem e32_6 (P : Program) (Q : Exit → Slots → Mem → Prop) (s : Slots) (M : Mem) : wpC P c32_6 Q s M = w32_6 P Q M (sget s 0) (sget s 2) (sget s 4) := by kernel_rfl
def o32_7 : List AOper := [⟨some 15, (.load 13 true (.tmp 4)), false, none⟩,
  ⟨some 16, (.call i_message_Check [(.tmp 15)]), false, none⟩,
  ⟨some 7, (.mov (.tmp 16)), false, none⟩]
def c32_8 : ACode := (.region o32_7 [0, 2, 4, 7])
def w32_8 (P : Program) (Q : Exit → Slots → Mem → Prop) (M : Mem) (v0 : V) (v2 : V) (v4 : V) : Prop :=
  @OptVH (loadV 13 true v4 M) ⟨fun t15_1 =>
  @CallH P i_message_Check [t15_1] M ⟨fun t16_2 M2 =>
  Q .normal [(0, v0), (2, v2), (4, v4), (7, t16_2)] M2⟩⟩
theorem e32_8 (P : Program) (Q : Exit → Slots → Mem → Prop) (s : Slots) (M : Mem) : wpC P c32_8 Q s M = w32_8 P Q M (sget s 0) (sget s 2) (sget s 4) := by kernel_rfl
def o32_9 : List AOper := [⟨some 19, (.mov (.tmp 7)), false, none⟩,
  ⟨some 6, (.mov (.tmp 19)), false, none⟩]
def c32_10 : ACode := (.region o32_9 [6])
def w32_10 (_P : Program) (Q : Exit → Slots → Mem → Prop) (M : Mem) (v7 : V) : Prop :=
  Q .normal [(6, v7)] M
theorem e32_10 (P : Program) (Q : Exit → Slots → Mem → Prop) (s : Slots) (M : Mem) : wpC P c32_10 Q s M = w32_10 P Q M (sget s 7) := by kernel_rfl
def c32_11 : ACode := (.seq c32_10 .ret)
def o32_12 : List AOper := [⟨some 17, (.mov (.tmp 7)), false, none⟩,
  ⟨some 18, (.bin .neq .none (.tmp 17) (.const (.int .i64 0))), true, none⟩]
def c32_13 : ACode := (.seq (.region o32_12 [0, 2, 4, 7, 18]) (.cond (.tmp 18) c32_11 .skip))
def w32_13 (P : Program) (Q : Exit → Slots → Mem → Prop) (M : Mem) (v0 : V) (v2 : V) (v4 : V) (v7 : V) : Prop :=
  @OptBH (binV .neq .none v7 (.int .i64 0)) ⟨fun b18_2 =>
  @BIfH b18_2
  ⟨wpC P c32_11 Q [(0, v0), (2, v2), (4, v4), (7, v7), (18, (.bool b18_2))] M⟩
  ⟨Q .normal [(0, v0), (2, v2), (4, v4), (7, v7), (18, (.bool b18_2))] M⟩⟩
theorem e32_13 (P : Program) (Q : Exit → Slots → Mem → Prop) (s : Slots) (M : Mem) : wpC P c32_13 Q s M = w32_13 P Q M (sget s 0) (sget s 2) (sget s 4) (sget s 7) := by kernel_rfl
def c32_14 : ACode := (.seq c32_8 c32_13)
def o32_15 : List AOper := [⟨some 6, (.mov (.const (.int .i64 36))), false, none⟩]
def c32_16 : ACode := (.region o32_15 [6])
def w32_16 (_P : Program) (Q : Exit → Slots → Mem → Prop) (M : Mem) : Prop :=
  Q .normal [(6, (.int .i64 36))] M
theorem e32_16 (P : Program) (Q : Exit → Slots → Mem → Prop) (s : Slots) (M : Mem) : wpC P c32_16 Q s M = w32_16 P Q M := by kernel_rfl
def c32_17 : ACode := (.seq c32_16 .ret)
def o32_18 : List AOper := [⟨some 20, (.fieldAddr 0 (.tmp 4)), false, none⟩,
  ⟨some 21, (.load 1 false (.tmp 20)), false, none⟩,
  ⟨some 22, (.mov (.tmp 0)), false, none⟩,
  ⟨some 23, (.nilCheck (.tmp 22)), false, none⟩,
  ⟨some 24, (.fieldAddr 0 (.tmp 23)), false, none⟩,
  ⟨some 25, (.load 1 false (.tmp 24)), false, none⟩,
  ⟨some 26, (.lenSl (.tmp 25)), false, none⟩,
  ⟨some 27, (.bin .geq .none (.tmp 21) (.tmp 26)), true, none⟩]
def c32_19 : ACode := (.seq (.mixed o32_18 [true, true, true, true, true, true, true, true] [0, 2, 4, 27]) (.cond (.tmp 27) c32_17 .skip))
def w32_19 (P : Program) (Q : Exit → Slots → Mem → Prop) (M : Mem) (v0 : V) (v2 : V) (v4 : V) : Prop :=
  @OptVH (moveV 0 v4) ⟨fun t20_1 =>
  @OptVH (loadV 1 false t20_1 M) ⟨fun t21_2 =>
  @OptVH (nilCheckV v0) ⟨fun t23_4 =>
  @OptVH (moveV 0 t23_4) ⟨fun t24_5 =>
  @OptVH (loadV 1 false t24_5 M) ⟨fun t25_6 =>
  @OptVH (lenV t25_6 M) ⟨fun t26_7 =>
  @OptBH (binV .geq .none t21_2 t26_7) ⟨fun b27_8 =>
  @BIfH b27_8
  ⟨wpC P c32_17 Q [(0, v0), (2, v2), (4, v4), (27, (.bool b27_8))] M⟩
  ⟨Q .normal [(0, v0), (2, v2), (4, v4), (27, (.bool b27_8))] M⟩⟩⟩⟩⟩⟩⟩⟩
theorem e32_19 (P : Program) (Q : Exit → Slots → Mem → Prop) (s : Slots) (M : Mem) : wpC P c32_19 Q s M = w32_19 P Q M (sget s 0) (sget s 2) (sget s 4) := by kernel_rfl
def o32_20 : List AOper := [⟨some 28, (.mov (.tmp 0)), false, none⟩,
  ⟨some 29, (.nilCheck (.tmp 28)), false, none⟩,
  ⟨some 30, (.fieldAddr 0 (.tmp 29)), false, none⟩,
  ⟨some 31, (.load 1 false (.tmp 30)), false, none⟩,
  ⟨some 32, (.fieldAddr 0 (.tmp 4)), false, none⟩,
  ⟨some 33, (.load 1 false (.tmp 32)), false, none⟩,
  ⟨some 34, (.indexSl 4 (.tmp 31) (.tmp 33)), false, none⟩,
  ⟨some 35, (.load 4 true (.tmp 34)), false, none⟩,
  ⟨some 8, (.alloc [(.bool false), (.int .i64 0), (.bool false), (.int .i64 0)]), false, none⟩,
  ⟨none, (.store 4 (.tmp 8) (.tmp 35)), false, none⟩]
def c32_21 : ACode := (.float o32_20 [none, none, none, none, none, none, none, none, (some [0, 1, 2, 3, 4, 5, 6, 7]), (some [])] [2, 4, 8])
def w32_21 (_P : Program) (Q : Exit → Slots → Mem → Prop) (M : Mem) (v0 : V) (v2 : V) (v4 : V) : Prop :=
  @OptVH (nilCheckV v0) ⟨fun t29_2 =>
  @OptVH (moveV 0 t29_2) ⟨fun t30_3 =>
  @OptVH (loadV 1 false t30_3 M) ⟨fun t31_4 =>
  @OptVH (moveV 0 v4) ⟨fun t32_5 =>
  @OptVH (loadV 1 false t32_5 M) ⟨fun t33_6 =>
  @OptVH (indexSlV 4 t31_4 t33_6 M) ⟨fun t34_7 =>
  @OptVH (loadV 4 true t34_7 M) ⟨fun t35_8 =>
  @OptMH (allocV [(.bool false), (.int .i64 0), (.bool false), (.int .i64 0)] M) ⟨fun t8_9 M9 =>
  (some v0 = some v0 ∧ nilCheckV v0 = some t29_2 ∧ moveV 0 t29_2 = some t30_3 ∧ loadV 1 false t30_3 M9 = some t31_4 ∧ moveV 0 v4 = some t32_5 ∧ loadV 1 false t32_5 M9 = some t33_6 ∧ indexSlV 4 t31_4 t33_6 M9 = some t34_7 ∧ loadV 4 true t34_7 M9 = some t35_8 ∧ True) ∧ (@OptMH (storeVM 4 t8_9 t35_8 M9) ⟨fun _tx_10 M10 =>
  (True) ∧ (Q .normal [(2, v2), (4, v4), (8, t8_9)] M10)⟩)⟩⟩⟩⟩⟩⟩⟩⟩
theorem e32_21 (P : Program) (Q : Exit → Slots → Mem → Prop) (s : Slots) (M : Mem) : wpC P c32_21 Q s M = w32_21 P Q M (sget s 0) (sget s 2) (sget s 4) := by kernel_rfl
def o32_22 : List AOper := [⟨some 6, (.mov (.const (.int .i64 37))), false, none⟩]
def c32_23 : ACode := (.region o32_22 [6])
def w32_23 (_P : Program) (Q : Exit → Slots → Mem → Prop) (M : Mem) : Prop :=
  Q .normal [(6, (.int .i64 37))] M
theorem e32_23 (P : Program) (Q : Exit → Slots → Mem → Prop) (s : Slots) (M : Mem) : wpC P c32_23 Q s M = w32_23 P Q M := by kernel_rfl
def c32_24 : ACode := (.seq c32_23 .ret)
def o32_25 : List AOper := [⟨some 36, (.fieldAddr 2 (.tmp 8)), false, none⟩,
  ⟨some 37, (.load 1 false (.tmp 36)), true, none⟩,
  ⟨some 38, (.mov (.tmp 37)), true, none⟩,
  ⟨some 39, (.fieldAddr 1 (.tmp 4)), false, some (38, true)⟩,
  ⟨some 40, (.load 1 false (.tmp 39)), false, some (38, true)⟩,
  ⟨some 41, (.fieldAddr 3 (.tmp 8)), false, some (38, true)⟩,
  ⟨some 42, (.load 1 false (.tmp 41)), false, some (38, true)⟩,
  ⟨some 43, (.bin .leq .none (.tmp 40) (.tmp 42)), true, some (38, true)⟩,
  ⟨some 44, (.pick (.tmp 38) (.tmp 43) (.const (.bool false))), true, none⟩,
  ⟨some 45, (.mov (.tmp 44)), true, none⟩,
  ⟨some 46, (.fieldAddr 3 (.tmp 4)), false, some (45, false)⟩,
  ⟨some 47, (.load 1 false (.tmp 46)), false, some (45, false)⟩,
  ⟨some 48, (.mov (.tmp 2)), false, some (45, false)⟩,
  ⟨some 49, (.bin .leq .none (.tmp 47) (.tmp 48)), true, some (45, false)⟩,
  ⟨some 50, (.pick (.tmp 45) (.const (.bool true)) (.tmp 49)), true, none⟩]
def c32_26 : ACode := (.seq (.region o32_25 [50]) (.cond (.tmp 50) c32_24 .skip))
def w32_26 (P : Program) (Q : Exit → Slots → Mem → Prop) (M : Mem) (v2 : V) (v4 : V) (v8 : V) : Prop :=
  @OptVH (moveV 2 v8) ⟨fun t36_1 =>
  @OptBH (loadV 1 false t36_1 M) ⟨fun b37_2 =>
  @BIfH b37_2
  ⟨@OptVH (moveV 1 v4) ⟨fun t39_4 =>
  @OptVH (loadV 1 false t39_4 M) ⟨fun t40_5 =>
  @OptVH (moveV 3 v8) ⟨fun t41_6 =>
  @OptVH (loadV 1 false t41_6 M) ⟨fun t42_7 =>
  @OptBH (binV .leq .none t40_5 t42_7) ⟨fun b43_8 =>
  @BIfH b43_8
  ⟨wpC P c32_24 Q [(50, (.bool true))] M⟩
  ⟨@OptVH (moveV 3 v4) ⟨fun t46_12 =>
  @OptVH (loadV 1 false t46_12 M) ⟨fun t47_13 =>
  @OptBH (binV .leq .none t47_13 v2) ⟨fun b49_15 =>
  @BIfH b49_15
  ⟨wpC P c32_24 Q [(50, (.bool b49_15))] M⟩
  ⟨Q .normal [(50, (.bool b49_15))] M⟩⟩⟩⟩⟩⟩⟩⟩⟩⟩⟩
  ⟨@OptVH (moveV 3 v4) ⟨fun t46_19 =>
  @OptVH (loadV 1 false t46_19 M) ⟨fun t47_20 =>
  @OptBH (binV .leq .none t47_20 v2) ⟨fun b49_22 =>
  @BIfH b49_22
  ⟨wpC P c32_24 Q [(50, (.bool b49_22))] M⟩
  ⟨Q .normal [(50, (.bool b49_22))] M⟩⟩⟩⟩⟩⟩⟩
theorem e32_26 (P : Program) (Q : Exit → Slots → Mem → Prop) (s : Slots) (M : Mem) : wpC P c32_26 Q s M = w32_26 P Q M (sget s 2) (sget s 4) (sget s 8) := by kernel_rfl
def o32_27 : List AOper := [⟨some 6, (.mov (.const (.int .i64 0))), false, none⟩]
def c32_28 : ACode := (.region o32_27 [6])
def w32_28 (_P : Program) (Q : Exit → Slots → Mem → Prop) (M : Mem) : Prop :=
  Q .normal [(6, (.int .i64 0))] M
theorem e32_28 (P : Program) (Q : Exit → Slots → Mem → Prop) (s : Slots) (M : Mem) : wpC P c32_28 Q s M = w32_28 P Q M := by kernel_rfl
def c32_29 : ACode := (.seq c32_28 .ret)
def c32_30 : ACode := (.seq c32_26 c32_29)
def c32_31 : ACode := (.seq c32_21 c32_30)
def c32_32 : ACode := (.seq c32_19 c32_31)
def c32_33 : ACode := (.seq c32_14 c32_32)
def c32_34 : ACode := (.seq c32_6 c32_33)
def c32_35 : ACode := (.seq c32_1 c32_34)
def fn_inbox_Inbox_refusal : AFn := ⟨51, [(.tmp 6)], c32_35⟩
theorem fn_inbox_Inbox_refusal_ok : resFn PR h_inbox_Inbox_refusal i_inbox_Inbox_refusal = some fn_inbox_Inbox_refusal := by kernel_rfl

def h_inbox_filtered : Hints := ⟨[(0, [0, 1]), (1, [0, 1, 5]), (2, [1, 5, 8, 9, 10]), (3, [1, 5, 8, 9, 10, 11]), (4, [1, 5, 7, 8, 9, 10]), (5, [1, 5, 7, 8, 9, 10, 16]), (6, [1, 5, 8, 9, 10]), (7, [1, 5, 8, 9, 10]), (8, [4])], [(3, [1, 5, 8, 9, 10])], [(1, [0])]⟩
def o33_0 : List AOper := [⟨some 4, (.mov (.const (.slice [] .nil))), false, none⟩]
def c33_1 : ACode := (.region o33_0 [0, 1])
def w33_1 (_P : Program) (Q : Exit → Slots → Mem → Prop) (M : Mem) (v0 : V) (v1 : V) : Prop :=
  Q .normal [(0, v0), (1, v1)] M
theorem e33_1 (P : Program) (Q : Exit → Slots → Mem → Prop) (s : Slots) (M : Mem) : wpC P c33_1 Q s M = w33_1 P Q M (sget s 0) (sget s 1) := by kernel_rfl
def o33_2 : List AOper := [⟨some 5, (.newarr 13), false, none⟩]
def c33_3 : ACode := (.region o33_2 [0, 1, 5])
def w33_3 (_P : Program) (Q : Exit → Slots → Mem → Prop) (M : Mem) (v0 : V) (v1 : V) : Prop :=
  @OptMH (newarrV 13 M) ⟨fun t5_1 M1 =>
  Q .normal [(0, v0), (1, v1), (5, t5_1)] M1⟩
theorem e33_3 (P : Program) (Q : Exit → Slots → Mem → Prop) (s : Slots) (M : Mem) : wpC P c33_3 Q s M = w33_3 P Q M (sget s 0) (sget s 1) := by kernel_rfl
def o33_4 : List AOper := [⟨some 8, (.mov (.tmp 0)), false, none⟩,
  ⟨some 9, (.lenSl (.tmp 8)), false, none⟩,
  ⟨some 10, (.mov (.const (.int .i64 0))), false, none⟩]
def c33_5 : ACode := (.region o33_4 [1, 5, 8, 9, 10])
def w33_5 (_P : Program) (Q : Exit → Slots → Mem → Prop) (M : Mem) (v0 : V) (v1 : V) (v5 : V) : Prop :=
  @OptVH (lenV v0 M) ⟨fun t9_2 =>
  Q .normal [(1, v1), (5, v5), (8, v0), (9, t9_2), (10, (.int .i64 0))] M⟩
theorem e33_5 (P : Program) (Q : Exit → Slots → Mem → Prop) (s : Slots) (M : Mem) : wpC P c33_5 Q s M = w33_5 P Q M (sget s 0) (sget s 1) (sget s 5) := by kernel_rfl
def o33_6 : List AOper := [⟨some 11, (.bin .lss .none (.tmp 10) (.tmp 9)), false, none⟩]
def c33_7 : ACode := (.region o33_6 [1, 5, 8, 9, 10, 11])
def w33_7 (_P : Program) (Q : Exit → Slots → Mem → Prop) (M : Mem) (v1 : V) (v5 : V) (v8 : V) (v9 : V) (v10 : V) : Prop :=
  @OptVH (binV .lss .none v10 v9) ⟨fun t11_1 =>
  Q .normal [(1, v1), (5, v5), (8, v8), (9, v9), (10, v10), (11, t11_1)] M⟩
theorem e33_7 (P : Program) (Q : Exit → Slots → Mem → Prop) (s : Slots) (M : Mem) : wpC P c33_7 Q s M = w33_7 P Q M (sget s 1) (sget s 5) (sget s 8) (sget s 9) (sget s 10) := by kernel_rfl
def c33_8 : ACode := (.cond (.tmp 11) .skip (.exit 0))
def o33_9 : List AOper := [⟨some 12, (.indexSl 13 (.tmp 8) (.tmp 10)), false, none⟩,
  ⟨some 13, (.load 13 true (.tmp 12)), false, none⟩,
  ⟨some 7, (.alloc [(.int .i64 0), (.int .i64 0), (.int .i64 0), (.int .i64 0), (.int .i64 0), (.str []), (.int .i64 0), (.int .i64 0), (.int .i64 0), (.int .i64 0), (.int .i64 0), (.bool false), (.slice [] .nil)]), false, none⟩,
  ⟨none, (.store 13 (.tmp 7) (.tmp 13)), false, none⟩]
def c33_10 : ACode := (.region o33_9 [1, 5, 7, 8, 9, 10])
def w33_10 (_P : Program) (Q : Exit → Slots → Mem → Prop) (M : Mem) (v1 : V) (v5 : V) (v8 : V) (v9 : V) (v10 : V) : Prop :=
  @OptVH (indexSlV 13 v8 v10 M) ⟨fun t12_1 =>
  @OptVH (loadV 13 true t12_1 M) ⟨fun t13_2 =>
  @OptMH (allocV [(.int .i64 0), (.int .i64 0), (.int .i64 0), (.int .i64 0), (.int .i64 0), (.str []), (.int .i64 0), (.int .i64 0), (.int .i64 0), (.int .i64 0), (.int .i64 0), (.bool false), (.slice [] .nil)] M) ⟨fun t7_3 M3 =>
  @OptMH (storeVM 13 t7_3 t13_2 M3) ⟨fun _tx_4 M4 =>
  Q .normal [(1, v1), (5, v5), (7, t7_3), (8, v8), (9, v9), (10, v10)] M4⟩⟩⟩⟩
theorem e33_10 (P : Program) (Q : Exit → Slots → Mem → Prop) (s : Slots) (M : Mem) : wpC P c33_10 Q s M = w33_10 P Q M (sget s 1) (sget s 5) (sget s 8) (sget s 9) (sget s 10) := by kernel_rfl
def o33_11 : List AOper := [⟨some 17, (.mov (.tmp 5)), false, none⟩,
  ⟨some 18, (.load 13 true (.tmp 7)), false, none⟩,
  ⟨some 19, (.call i_inbox_owned [(.tmp 18)]), false, none⟩,
  ⟨some 20, (.buildSlice [(.int .i64 0), (.int .i64 0), (.int .i64 0), (.int .i64 0), (.int .i64 0), (.str []), (.int .i64 0), (.int .i64 0), (.int .i64 0), (.int .i64 0), (.int .i64 0), (.bool false), (.slice [] .nil)] 13 1 [(0, (13, (.tmp 19)))]), false, none⟩,
  ⟨some 21, (.append false 13 128 (.tmp 17) (.tmp 20)), false, none⟩,
  ⟨some 5, (.mov (.tmp 21)), false, none⟩]
def c33_12 : ACode := (.region o33_11 [1, 5, 8, 9, 10])
def w33_12 (P : Program) (Q : Exit → Slots → Mem → Prop) (M : Mem) (v1 : V) (v5 : V) (v7 : V) (v8 : V) (v9 : V) (v10 : V) : Prop :=
  @OptVH (loadV 13 true v7 M) ⟨fun t18_2 =>
  @CallH P i_inbox_owned [t18_2] M ⟨fun t19_3 M3 =>
  @OptVH (buildSliceV [(.int .i64 0), (.int .i64 0), (.int .i64 0), (.int .i64 0), (.int .i64 0), (.str []), (.int .i64 0), (.int .i64 0), (.int .i64 0), (.int .i64 0), (.int .i64 0), (.bool false), (.slice [] .nil)] 13 1 [(0, 13, t19_3)]) ⟨fun t20_4 =>
  @OptMH (appV false 13 128 v5 t20_4 M3) ⟨fun t21_5 M5 =>
  Q .normal [(1, v1), (5, t21_5), (8, v8), (9, v9), (10, v10)] M5⟩⟩⟩⟩
theorem e33_12 (P : Program) (Q : Exit → Slots → Mem → Prop) (s : Slots) (M : Mem) : wpC P c33_12 Q s M = w33_12 P Q M (sget s 1) (sget s 5) (sget s 7) (sget s 8) (sget s 9) (sget s 10) := by kernel_rfl
def o33_13 : List AOper := [⟨some 14, (.mov (.tmp 1)), false, none⟩,
  ⟨some 15, (.load 13 true (.tmp 7)), false, none⟩,
  ⟨some 16, (.callv (.tmp 14) [(.tmp 15)]), true, none⟩]
def c33_14 : ACode := (.seq (.region o33_13 [1, 5, 7, 8, 9, 10, 16]) (.cond (.tmp 16) c33_12 .skip))
def w33_14 (P : Program) (Q : Exit → Slots → Mem → Prop) (M : Mem) (v1 : V) (v5 : V) (v7 : V) (v8 : V) (v9 : V) (v10 : V) : Prop :=
  @OptVH (loadV 13 true v7 M) ⟨fun t15_2 =>
  @CallV P false v1 [t15_2] M ⟨fun t16_3 M3 => @OptBH (some t16_3) ⟨fun b16_3 =>
  @BIfH b16_3
  ⟨wpC P c33_12 Q [(1, v1), (5, v5), (7, v7), (8, v8), (9, v9), (10, v10), (16, (.bool b16_3))] M3⟩
  ⟨Q .normal [(1, v1), (5, v5), (7, v7), (8, v8), (9, v9), (10, v10), (16, (.bool b16_3))] M3⟩⟩⟩⟩
theorem e33_14 (P : Program) (Q : Exit → Slots → Mem → Prop) (s : Slots) (M : Mem) : wpC P c33_14 Q s M = w33_14 P Q M (sget s 1) (sget s 5) (sget s 7) (sget s 8) (sget s 9) (sget s 10) := by kernel_rfl
def c33_15 : ACode := (.seq c33_10 c33_14)
def c33_16 : ACode := (.block 1 c33_15)
def o33_17 : List AOper := [⟨some 22, (.bin .add .none (.tmp 10) (.const (.int .i64 1))), false, none⟩,
  ⟨some 10, (.mov (.tmp 22)), false, none⟩]
def c33_18 : ACode := (.region o33_17 [1, 5, 8, 9, 10])
def w33_18 (_P : Program) (Q : Exit → Slots → Mem → Prop) (M : Mem) (v1 : V) (v5 : V) (v8 : V) (v9 : V) (v10 : V) : Prop :=
  @OptVH (binV .add .none v10 (.int .i64 1)) ⟨fun t22_1 =>
  Q .normal [(1, v1), (5, v5), (8, v8), (9, v9), (10, t22_1)] M⟩
theorem e33_18 (P : Program) (Q : Exit → Slots → Mem → Prop) (s : Slots) (M : Mem) : wpC P c33_18 Q s M = w33_18 P Q M (sget s 1) (sget s 5) (sget s 8) (sget s 9) (sget s 10) := by kernel_rfl
def c33_19 : ACode := (.seq c33_16 c33_18)
def c33_20 : ACode := (.seq c33_8 c33_19)
def c33_21 : ACode := (.seq c33_7 c33_20)
def c33_22 : ACode := (.loop [1, 5, 8, 9, 10] c33_21)
def c33_23 : ACode := (.block 0 c33_22)
def c33_24 : ACode := (.seq c33_5 c33_23)
def o33_25 : List AOper := [⟨some 23, (.mov (.tmp 5)), false, none⟩,
  ⟨some 4, (.mov (.tmp 23)), false, none⟩]
def c33_26 : ACode := (.region o33_25 [4])
def w33_26 (_P : Program) (Q : Exit → Slots → Mem → Prop) (M : Mem) (v5 : V) : Prop :=
  Q .normal [(4, v5)] M
theorem e33_26 (P : Program) (Q : Exit → Slots → Mem → Prop) (s : Slots) (M : Mem) : wpC P c33_26 Q s M = w33_26 P Q M (sget s 5) := by kernel_rfl
def c33_27 : ACode := (.seq c33_26 .ret)
def c33_28 : ACode := (.seq c33_24 c33_27)
def c33_29 : ACode := (.seq c33_3 c33_28)
def c33_30 : ACode := (.seq c33_1 c33_29)
def fn_inbox_filtered : AFn := ⟨24, [(.tmp 4)], c33_30⟩
theorem fn_inbox_filtered_ok : resFn PR h_inbox_filtered i_inbox_filtered = some fn_inbox_filtered := by kernel_rfl

def h_inbox_Inbox_Receive_1 : Hints := ⟨[(0, [1, 2, 3]), (1, [4])], [], []⟩
def o34_0 : List AOper := [⟨some 3, (.box 13 (.tmp 0)), false, none⟩,
  ⟨some 4, (.mov (.const (.bool false))), true, none⟩]
def c34_1 : ACode := (.region o34_0 [1, 2, 3])
def w34_1 (_P : Program) (Q : Exit → Slots → Mem → Prop) (M : Mem) (v0 : V) (v1 : V) (v2 : V) : Prop :=
  @OptMH (boxV 13 v0 M) ⟨fun t3_1 M1 =>
  Q .normal [(1, v1), (2, v2), (3, t3_1)] M1⟩
theorem e34_1 (P : Program) (Q : Exit → Slots → Mem → Prop) (s : Slots) (M : Mem) : wpC P c34_1 Q s M = w34_1 P Q M (sget s 0) (sget s 1) (sget s 2) := by kernel_rfl
def o34_2 : List AOper := [⟨some 5, (.load 13 true (.tmp 1)), false, none⟩,
  ⟨some 6, (.load 13 true (.tmp 3)), false, none⟩,
  ⟨some 7, (.call i_message_Supersedes [(.tmp 5), (.tmp 6)]), true, none⟩,
  ⟨some 8, (.un .not (.tmp 7)), true, none⟩,
  ⟨some 9, (.mov (.tmp 8)), true, none⟩,
  ⟨some 10, (.fieldAddr 3 (.tmp 3)), false, some (9, true)⟩,
  ⟨some 11, (.load 1 false (.tmp 10)), false, some (9, true)⟩,
  ⟨some 12, (.load 1 false (.tmp 2)), false, some (9, true)⟩,
  ⟨some 13, (.bin .gtr .none (.tmp 11) (.tmp 12)), true, some (9, true)⟩,
  ⟨some 14, (.pick (.tmp 9) (.tmp 13) (.const (.bool false))), true, none⟩,
  ⟨some 4, (.mov (.tmp 14)), true, none⟩]
def c34_3 : ACode := (.region o34_2 [4])
def w34_3 (P : Program) (Q : Exit → Slots → Mem → Prop) (M : Mem) (v1 : V) (v2 : V) (v3 : V) : Prop :=
  @OptVH (loadV 13 true v1 M) ⟨fun t5_1 =>
  @OptVH (loadV 13 true v3 M) ⟨fun t6_2 =>
  @CallH P i_message_Supersedes [t5_1, t6_2] M ⟨fun t7_3 M3 => @OptBH (some t7_3) ⟨fun b7_3 =>
  @OptBH (unV .not (.bool b7_3)) ⟨fun b8_4 =>
  @BIfH b8_4
  ⟨@OptVH (moveV 3 v3) ⟨fun t10_6 =>
  @OptVH (loadV 1 false t10_6 M3) ⟨fun t11_7 =>
  @OptVH (loadV 1 false v2 M3) ⟨fun t12_8 =>
  @OptBH (binV .gtr .none t11_7 t12_8) ⟨fun b13_9 =>
  Q .normal [(4, (.bool b13_9))] M3⟩⟩⟩⟩⟩
  ⟨Q .normal [(4, (.bool false))] M3⟩⟩⟩⟩⟩⟩
theorem e34_3 (P : Program) (Q : Exit → Slots → Mem → Prop) (s : Slots) (M : Mem) : wpC P c34_3 Q s M = w34_3 P Q M (sget s 1) (sget s 2) (sget s 3) := by kernel_rfl
def c34_4 : ACode := (.seq c34_3 .ret)
def c34_5 : ACode := (.seq c34_1 c34_4)
def fn_inbox_Inbox_Receive_1 : AFn := ⟨15, [(.tmp 4)], c34_5⟩
theorem fn_inbox_Inbox_Receive_1_ok : resFn PR h_inbox_Inbox_Receive_1 i_inbox_Inbox_Receive_1 = some fn_inbox_Inbox_Receive_1 := by kernel_rfl

def h_message_Supersedes : Hints := ⟨[(0, [2, 3]), (1, [4])], [], []⟩
def o35_0 : List AOper := [⟨some 2, (.box 13 (.tmp 0)), false, none⟩,
  ⟨some 3, (.box 13 (.tmp 1)), false, none⟩,
  ⟨some 4, (.mov (.const (.bool false))), true, none⟩]
def c35_1 : ACode := (.region o35_0 [2, 3])
def w35_1 (_P : Program) (Q : Exit → Slots → Mem → Prop) (M : Mem) (v0 : V) (v1 : V) : Prop :=
  @OptMH (boxV 13 v0 M) ⟨fun t2_1 M1 =>
  @OptMH (boxV 13 v1 M1) ⟨fun t3_2 M2 =>
  Q .normal [(2, t2_1), (3, t3_2)] M2⟩⟩
theorem e35_1 (P : Program) (Q : Exit → Slots → Mem → Prop) (s : Slots) (M : Mem) : wpC P c35_1 Q s M = w35_1 P Q M (sget s 0) (sget s 1) := by kernel_rfl
def o35_2 : List AOper := [⟨some 5, (.fieldAddr 0 (.tmp 2)), false, none⟩,
  ⟨some 6, (.load 1 false (.tmp 5)), false, none⟩,
  ⟨some 7, (.fieldAddr 0 (.tmp 3)), false, none⟩,
  ⟨some 8, (.load 1 false (.tmp 7)), false, none⟩,
  ⟨some 9, (.bin .eql .none (.tmp 6) (.tmp 8)), true, none⟩,
  ⟨some 10, (.mov (.tmp 9)), true, none⟩,
  ⟨some 11, (.load 13 true (.tmp 2)), false, some (10, true)⟩,
  ⟨some 12, (.load 13 true (.tmp 3)), false, some (10, true)⟩,
  ⟨some 13, (.call i_message_SameTarget [(.tmp 11), (.tmp 12)]), true, some (10, true)⟩,
  ⟨some 14, (.pick (.tmp 10) (.tmp 13) (.const (.bool false))), true, none⟩,
  ⟨some 15, (.mov (.tmp 14)), true, none⟩,
  ⟨some 16, (.fieldAddr 1 (.tmp 2)), false, some (15, true)⟩,
  ⟨some 17, (.load 1 false (.tmp 16)), false, some (15, true)⟩,
  ⟨some 18, (.fieldAddr 1 (.tmp 3)), false, some (15, true)⟩,
  ⟨some 19, (.load 1 false (.tmp 18)), false, some (15, true)⟩,
  ⟨some 20, (.bin .gtr .none (.tmp 17) (.tmp 19)), true, some (15, true)⟩,
  ⟨some 21, (.pick (.tmp 15) (.tmp 20) (.const (.bool false))), true, none⟩,
  ⟨some 22, (.mov (.tmp 21)), true, none⟩,
  ⟨some 23, (.fieldAddr 4 (.tmp 2)), false, some (22, true)⟩,
  ⟨some 24, (.load 1 false (.tmp 23)), false, some (22, true)⟩,
  ⟨some 25, (.call i_message_status [(.tmp 24)]), true, some (22, true)⟩,
  ⟨some 26, (.mov (.tmp 25)), true, some (22, true)⟩,
  ⟨some 27, (.fieldAddr 4 (.tmp 2)), false, some (26, false)⟩,
  ⟨some 28, (.load 1 false (.tmp 27)), false, some (26, false)⟩,
  ⟨some 29, (.fieldAddr 4 (.tmp 3)), false, some (26, false)⟩,
  ⟨some 30, (.load 1 false (.tmp 29)), false, some (26, false)⟩,
  ⟨some 31, (.bin .eql .none (.tmp 28) (.tmp 30)), true, some (26, false)⟩,
  ⟨some 32, (.mov (.tmp 31)), true, some (26, false)⟩,
  ⟨some 33, (.fieldAddr 8 (.tmp 2)), false, some (32, true)⟩,
  ⟨some 34, (.load 1 false (.tmp 33)), false, some (32, true)⟩,
  ⟨some 35, (.fieldAddr 8 (.tmp 3)), false, some (32, true)⟩,
  ⟨some 36, (.load 1 false (.tmp 35)), false, some (32, true)⟩,
  ⟨some 37, (.bin .eql .none (.tmp 34) (.tmp 36)), true, some (32, true)⟩,
  ⟨some 38, (.pick (.tmp 32) (.tmp 37) (.const (.bool false))), true, some (26, false)⟩,
  ⟨some 39, (.pick (.tmp 26) (.const (.bool true)) (.tmp 38)), true, some (22, true)⟩,
  ⟨some 40, (.pick (.tmp 22) (.tmp 39) (.const (.bool false))), true, none⟩,
  ⟨some 4, (.mov (.tmp 40)), true, none⟩]
def c35_3 : ACode := (.region o35_2 [4])
def w35_3 (P : Program) (Q : Exit → Slots → Mem → Prop) (M : Mem) (v2 : V) (v3 : V) : Prop :=
  @OptVH (moveV 0 v2) ⟨fun t5_1 =>
  @OptVH (loadV 1 false t5_1 M) ⟨fun t6_2 =>
  @OptVH (moveV 0 v3) ⟨fun t7_3 =>
  @OptVH (loadV 1 false t7_3 M) ⟨fun t8_4 =>
  @OptBH (binV .eql .none t6_2 t8_4) ⟨fun b9_5 =>
  @BIfH b9_5
  ⟨@OptVH (loadV 13 true v2 M) ⟨fun t11_7 =>
  @OptVH (loadV 13 true v3 M) ⟨fun t12_8 =>
  @CallH P i_message_SameTarget [t11_7, t12_8] M ⟨fun t13_9 M9 => @OptBH (some t13_9) ⟨fun b13_9 =>
  @BIfH b13_9
  ⟨@OptVH (moveV 1 v2) ⟨fun t16_12 =>
  @OptVH (loadV 1 false t16_12 M9) ⟨fun t17_13 =>
  @OptVH (moveV 1 v3) ⟨fun t18_14 =>
  @OptVH (loadV 1 false t18_14 M9) ⟨fun t19_15 =>
  @OptBH (binV .gtr .none t17_13 t19_15) ⟨fun b20_16 =>
  @BIfH b20_16
  ⟨@OptVH (moveV 4 v2) ⟨fun t23_19 =>
  @OptVH (loadV 1 false t23_19 M9) ⟨fun t24_20 =>
  @CallH P i_message_status [t24_20] M9 ⟨fun t25_21 M21 => @OptBH (some t25_21) ⟨fun b25_21 =>
  @BIfH b25_21
  ⟨Q .normal [(4, (.bool true))] M21⟩
  ⟨@OptVH (moveV 4 v2) ⟨fun t27_26 =>
  @OptVH (loadV 1 false t27_26 M21) ⟨fun t28_27 =>
  @OptVH (moveV 4 v3) ⟨fun t29_28 =>
  @OptVH (loadV 1 false t29_28 M21) ⟨fun t30_29 =>
  @OptBH (binV .eql .none t28_27 t30_29) ⟨fun b31_30 =>
  @BIfH b31_30
  ⟨@OptVH (moveV 8 v2) ⟨fun t33_32 =>
  @OptVH (loadV 1 false t33_32 M21) ⟨fun t34_33 =>
  @OptVH (moveV 8 v3) ⟨fun t35_34 =>
  @OptVH (loadV 1 false t35_34 M21) ⟨fun t36_35 =>
  @OptBH (binV .eql .none t34_33 t36_35) ⟨fun b37_36 =>
  Q .normal [(4, (.bool b37_36))] M21⟩⟩⟩⟩⟩⟩
  ⟨Q .normal [(4, (.bool false))] M21⟩⟩⟩⟩⟩⟩⟩⟩⟩⟩⟩⟩
  ⟨Q .normal [(4, (.bool false))] M9⟩⟩⟩⟩⟩⟩⟩
  ⟨Q .normal [(4, (.bool false))] M9⟩⟩⟩⟩⟩⟩
  ⟨Q .normal [(4, (.bool false))] M⟩⟩⟩⟩⟩⟩
theorem e35_3 (P : Program) (Q : Exit → Slots → Mem → Prop) (s : Slots) (M : Mem) : wpC P c35_3 Q s M = w35_3 P Q M (sget s 2) (sget s 3) := by kernel_rfl
def c35_4 : ACode := (.seq c35_3 .ret)
def c35_5 : ACode := (.seq c35_1 c35_4)
def fn_message_Supersedes : AFn := ⟨41, [(.tmp 4)], c35_5⟩
theorem fn_message_Supersedes_ok : resFn PR h_message_Supersedes i_message_Supersedes = some fn_message_Supersedes := by kernel_rfl

def h_inbox_owned : Hints := ⟨[(0, [1, 2]), (1, [1, 2, 3]), (2, [1, 2]), (3, [2])], [], [(2, [3])]⟩
def o36_0 : List AOper := [⟨some 1, (.box 13 (.tmp 0)), false, none⟩,
  ⟨some 2, (.alloc [(.int .i64 0), (.int .i64 0), (.int .i64 0), (.int .i64 0), (.int .i64 0), (.str []), (.int .i64 0), (.int .i64 0), (.int .i64 0), (.int .i64 0), (.int .i64 0), (.bool false), (.slice [] .nil)]), false, none⟩]
def c36_1 : ACode := (.region o36_0 [1, 2])
def w36_1 (_P : Program) (Q : Exit → Slots → Mem → Prop) (M : Mem) (v0 : V) : Prop :=
  @OptMH (boxV 13 v0 M) ⟨fun t1_1 M1 =>
  @OptMH (allocV [(.int .i64 0), (.int .i64 0), (.int .i64 0), (.int .i64 0), (.int .i64 0), (.str []), (.int .i64 0), (.int .i64 0), (.int .i64 0), (.int .i64 0), (.int .i64 0), (.bool false), (.slice [] .nil)] M1) ⟨fun t2_2 M2 =>
  Q .normal [(1, t1_1), (2, t2_2)] M2⟩⟩
theorem e36_1 (P : Program) (Q : Exit → Slots → Mem → Prop) (s : Slots) (M : Mem) : wpC P c36_1 Q s M = w36_1 P Q M (sget s 0) := by kernel_rfl
def o36_2 : List AOper := [⟨some 3, (.mov (.const (.slice [] .nil))), false, none⟩]
def c36_3 : ACode := (.region o36_2 [1, 2, 3])
def w36_3 (_P : Program) (Q : Exit → Slots → Mem → Prop) (M : Mem) (v1 : V) (v2 : V) : Prop :=
  Q .normal [(1, v1), (2, v2), (3, (.slice [] .nil))] M
theorem e36_3 (P : Program) (Q : Exit → Slots → Mem → Prop) (s : Slots) (M : Mem) : wpC P c36_3 Q s M = w36_3 P Q M (sget s 1) (sget s 2) := by kernel_rfl
def o36_4 : List AOper := [⟨some 4, (.mov (.tmp 3)), false, none⟩,
  ⟨some 5, (.fieldAddr 12 (.tmp 1)), false, none⟩,
  ⟨some 6, (.load 1 false (.tmp 5)), false, none⟩,
  ⟨some 7, (.append true 5 32 (.tmp 4) (.tmp 6)), false, none⟩,
  ⟨some 8, (.fieldAddr 12 (.tmp 1)), false, none⟩,
  ⟨none, (.store 1 (.tmp 8) (.tmp 7)), false, none⟩]
def c36_5 : ACode := (.region o36_4 [1, 2])
def w36_5 (_P : Program) (Q : Exit → Slots → Mem → Prop) (M : Mem) (v1 : V) (v2 : V) (v3 : V) : Prop :=
  @OptVH (moveV 12 v1) ⟨fun t5_2 =>
  @OptVH (loadV 1 false t5_2 M) ⟨fun t6_3 =>
  @OptMH (appV true 5 32 v3 t6_3 M) ⟨fun t7_4 M4 =>
  @OptVH (moveV 12 v1) ⟨fun t8_5 =>
  @OptMH (storeVM 1 t8_5 t7_4 M4) ⟨fun _tx_6 M6 =>
  Q .normal [(1, v1), (2, v2)] M6⟩⟩⟩⟩⟩
theorem e36_5 (P : Program) (Q : Exit → Slots → Mem → Prop) (s : Slots) (M : Mem) : wpC P c36_5 Q s M = w36_5 P Q M (sget s 1) (sget s 2) (sget s 3) := by kernel_rfl
def o36_6 : List AOper := [⟨some 9, (.load 13 true (.tmp 1)), false, none⟩,
  ⟨none, (.store 13 (.tmp 2) (.tmp 9)), false, none⟩]
def c36_7 : ACode := (.region o36_6 [2])
def w36_7 (_P : Program) (Q : Exit → Slots → Mem → Prop) (M : Mem) (v1 : V) (v2 : V) : Prop :=
  @OptVH (loadV 13 true v1 M) ⟨fun t9_1 =>
  @OptMH (storeVM 13 v2 t9_1 M) ⟨fun _tx_2 M2 =>
  Q .normal [(2, v2)] M2⟩⟩
theorem e36_7 (P : Program) (Q : Exit → Slots → Mem → Prop) (s : Slots) (M : Mem) : wpC P c36_7 Q s M = w36_7 P Q M (sget s 1) (sget s 2) := by kernel_rfl
def c36_8 : ACode := (.seq c36_7 .ret)
def c36_9 : ACode := (.seq c36_5 c36_8)
def c36_10 : ACode := (.seq c36_3 c36_9)
def c36_11 : ACode := (.seq c36_1 c36_10)
def fn_inbox_owned : AFn := ⟨10, [(.cell 2 13 true)], c36_11⟩
theorem fn_inbox_owned_ok : resFn PR h_inbox_owned i_inbox_owned = some fn_inbox_owned := by kernel_rfl

def h_inbox_heard_hear : Hints := ⟨[(0, [0, 1, 16]), (1, [])], [], []⟩
def o37_0 : List AOper := [⟨some 17, (.mov (.tmp 0)), false, none⟩,
  ⟨some 18, (.mov (.tmp 0)), false, none⟩,
  ⟨some 19, (.mov (.tmp 1)), false, none⟩,
  ⟨some 20, (.nilCheck (.tmp 17)), false, none⟩,
  ⟨some 21, (.fieldAddr 0 (.tmp 20)), false, none⟩,
  ⟨none, (.store 1 (.tmp 21) (.const (.bool true))), false, none⟩,
  ⟨some 22, (.nilCheck (.tmp 18)), false, none⟩,
  ⟨some 23, (.fieldAddr 1 (.tmp 22)), false, none⟩,
  ⟨none, (.store 1 (.tmp 23) (.tmp 19)), false, none⟩]
def c37_1 : ACode := (.region o37_0 [])
def w37_1 (_P : Program) (Q : Exit → Slots → Mem → Prop) (M : Mem) (v0 : V) (v1 : V) : Prop :=
  @OptVH (nilCheckV v0) ⟨fun t20_4 =>
  @OptVH (moveV 0 t20_4) ⟨fun t21_5 =>
  @OptMH (storeVM 1 t21_5 (.bool true) M) ⟨fun _tx_6 M6 =>
  @OptVH (nilCheckV v0) ⟨fun t22_7 =>
  @OptVH (moveV 1 t22_7) ⟨fun t23_8 =>
  @OptMH (storeVM 1 t23_8 v1 M6) ⟨fun _tx_9 M9 =>
  Q .normal [] M9⟩⟩⟩⟩⟩⟩
theorem e37_1 (P : Program) (Q : Exit → Slots → Mem → Prop) (s : Slots) (M : Mem) : wpC P c37_1 Q s M = w37_1 P Q M (sget s 0) (sget s 1) := by kernel_rfl
def o37_2 : List AOper := [⟨some 4, (.mov (.tmp 0)), false, none⟩,
  ⟨some 5, (.nilCheck (.tmp 4)), false, none⟩,
  ⟨some 6, (.fieldAddr 0 (.tmp 5)), false, none⟩,
  ⟨some 7, (.load 1 false (.tmp 6)), true, none⟩,
  ⟨some 8, (.un .not (.tmp 7)), true, none⟩,
  ⟨some 9, (.mov (.tmp 8)), true, none⟩,
  ⟨some 10, (.mov (.tmp 1)), false, some (9, false)⟩,
  ⟨some 11, (.mov (.tmp 0)), false, some (9, false)⟩,
  ⟨some 12, (.nilCheck (.tmp 11)), false, some (9, false)⟩,
  ⟨some 13, (.fieldAddr 1 (.tmp 12)), false, some (9, false)⟩,
  ⟨some 14, (.load 1 false (.tmp 13)), false, some (9, false)⟩,
  ⟨some 15, (.bin .gtr .none (.tmp 10) (.tmp 14)), true, some (9, false)⟩,
  ⟨some 16, (.pick (.tmp 9) (.const (.bool true)) (.tmp 15)), true, none⟩]
def c37_3 : ACode := (.seq (.region o37_2 [0, 1, 16]) (.cond (.tmp 16) c37_1 .skip))
def w37_3 (P : Program) (Q : Exit → Slots → Mem → Prop) (M : Mem) (v0 : V) (v1 : V) : Prop :=
  @OptVH (nilCheckV v0) ⟨fun t5_2 =>
  @OptVH (moveV 0 t5_2) ⟨fun t6_3 =>
  @OptBH (loadV 1 false t6_3 M) ⟨fun b7_4 =>
  @OptBH (unV .not (.bool b7_4)) ⟨fun b8_5 =>
  @BIfH b8_5
  ⟨wpC P c37_1 Q [(0, v0), (1, v1), (16, (.bool true))] M⟩
  ⟨@OptVH (nilCheckV v0) ⟨fun t12_10 =>
  @OptVH (moveV 1 t12_10) ⟨fun t13_11 =>
  @OptVH (loadV 1 false t13_11 M) ⟨fun t14_12 =>
  @OptBH (binV .gtr .none v1 t14_12) ⟨fun b15_13 =>
  @BIfH b15_13
  ⟨wpC P c37_1 Q [(0, v0), (1, v1), (16, (.bool b15_13))] M⟩
  ⟨Q .normal [(0, v0), (1, v1), (16, (.bool b15_13))] M⟩⟩⟩⟩⟩⟩⟩⟩⟩⟩
theorem e37_3 (P : Program) (Q : Exit → Slots → Mem → Prop) (s : Slots) (M : Mem) : wpC P c37_3 Q s M = w37_3 P Q M (sget s 0) (sget s 1) := by kernel_rfl
def fn_inbox_heard_hear : AFn := ⟨24, [], c37_3⟩
theorem fn_inbox_heard_hear_ok : resFn PR h_inbox_heard_hear i_inbox_heard_hear = some fn_inbox_heard_hear := by kernel_rfl

def h_transitref31_Equal : Hints := ⟨[(0, [2, 3]), (1, [4])], [], []⟩
def o38_0 : List AOper := [⟨some 2, (.box 13 (.tmp 0)), false, none⟩,
  ⟨some 3, (.box 13 (.tmp 1)), false, none⟩,
  ⟨some 4, (.mov (.const (.bool false))), true, none⟩]
def c38_1 : ACode := (.region o38_0 [2, 3])
def w38_1 (_P : Program) (Q : Exit → Slots → Mem → Prop) (M : Mem) (v0 : V) (v1 : V) : Prop :=
  @OptMH (boxV 13 v0 M) ⟨fun t2_1 M1 =>
  @OptMH (boxV 13 v1 M1) ⟨fun t3_2 M2 =>
  Q .normal [(2, t2_1), (3, t3_2)] M2⟩⟩
theorem e38_1 (P : Program) (Q : Exit → Slots → Mem → Prop) (s : Slots) (M : Mem) : wpC P c38_1 Q s M = w38_1 P Q M (sget s 0) (sget s 1) := by kernel_rfl
def o38_2 : List AOper := [⟨some 5, (.fieldAddr 0 (.tmp 2)), false, none⟩,
  ⟨some 6, (.load 1 false (.tmp 5)), false, none⟩,
  ⟨some 7, (.fieldAddr 0 (.tmp 3)), false, none⟩,
  ⟨some 8, (.load 1 false (.tmp 7)), false, none⟩,
  ⟨some 9, (.bin .eql .none (.tmp 6) (.tmp 8)), true, none⟩,
  ⟨some 10, (.mov (.tmp 9)), true, none⟩,
  ⟨some 11, (.fieldAddr 1 (.tmp 2)), false, some (10, true)⟩,
  ⟨some 12, (.load 1 false (.tmp 11)), false, some (10, true)⟩,
  ⟨some 13, (.fieldAddr 1 (.tmp 3)), false, some (10, true)⟩,
  ⟨some 14, (.load 1 false (.tmp 13)), false, some (10, true)⟩,
  ⟨some 15, (.bin .eql .none (.tmp 12) (.tmp 14)), true, some (10, true)⟩,
  ⟨some 16, (.pick (.tmp 10) (.tmp 15) (.const (.bool false))), true, none⟩,
  ⟨some 17, (.mov (.tmp 16)), true, none⟩,
  ⟨some 18, (.fieldAddr 2 (.tmp 2)), false, some (17, true)⟩,
  ⟨some 19, (.load 1 false (.tmp 18)), false, some (17, true)⟩,
  ⟨some 20, (.fieldAddr 2 (.tmp 3)), false, some (17, true)⟩,
  ⟨some 21, (.load 1 false (.tmp 20)), false, some (17, true)⟩,
  ⟨some 22, (.bin .eql .none (.tmp 19) (.tmp 21)), true, some (17, true)⟩,
  ⟨some 23, (.pick (.tmp 17) (.tmp 22) (.const (.bool false))), true, none⟩,
  ⟨some 24, (.mov (.tmp 23)), true, none⟩,
  ⟨some 25, (.fieldAddr 3 (.tmp 2)), false, some (24, true)⟩,
  ⟨some 26, (.load 1 false (.tmp 25)), false, some (24, true)⟩,
  ⟨some 27, (.fieldAddr 3 (.tmp 3)), false, some (24, true)⟩,
  ⟨some 28, (.load 1 false (.tmp 27)), false, some (24, true)⟩,
  ⟨some 29, (.bin .eql .none (.tmp 26) (.tmp 28)), true, some (24, true)⟩,
  ⟨some 30, (.pick (.tmp 24) (.tmp 29) (.const (.bool false))), true, none⟩,
  ⟨some 31, (.mov (.tmp 30)), true, none⟩,
  ⟨some 32, (.fieldAddr 4 (.tmp 2)), false, some (31, true)⟩,
  ⟨some 33, (.load 1 false (.tmp 32)), false, some (31, true)⟩,
  ⟨some 34, (.fieldAddr 4 (.tmp 3)), false, some (31, true)⟩,
  ⟨some 35, (.load 1 false (.tmp 34)), false, some (31, true)⟩,
  ⟨some 36, (.bin .eql .none (.tmp 33) (.tmp 35)), true, some (31, true)⟩,
  ⟨some 37, (.pick (.tmp 31) (.tmp 36) (.const (.bool false))), true, none⟩,
  ⟨some 38, (.mov (.tmp 37)), true, none⟩,
  ⟨some 39, (.load 13 true (.tmp 2)), false, some (38, true)⟩,
  ⟨some 40, (.load 13 true (.tmp 3)), false, some (38, true)⟩,
  ⟨some 41, (.call i_transitref31_SameTarget [(.tmp 39), (.tmp 40)]), true, some (38, true)⟩,
  ⟨some 42, (.pick (.tmp 38) (.tmp 41) (.const (.bool false))), true, none⟩,
  ⟨some 43, (.mov (.tmp 42)), true, none⟩,
  ⟨some 44, (.fieldAddr 8 (.tmp 2)), false, some (43, true)⟩,
  ⟨some 45, (.load 1 false (.tmp 44)), false, some (43, true)⟩,
  ⟨some 46, (.fieldAddr 8 (.tmp 3)), false, some (43, true)⟩,
  ⟨some 47, (.load 1 false (.tmp 46)), false, some (43, true)⟩,
  ⟨some 48, (.bin .eql .none (.tmp 45) (.tmp 47)), true, some (43, true)⟩,
  ⟨some 49, (.pick (.tmp 43) (.tmp 48) (.const (.bool false))), true, none⟩,
  ⟨some 50, (.mov (.tmp 49)), true, none⟩,
  ⟨some 51, (.fieldAddr 9 (.tmp 2)), false, some (50, true)⟩,
  ⟨some 52, (.load 1 false (.tmp 51)), false, some (50, true)⟩,
  ⟨some 53, (.fieldAddr 9 (.tmp 3)), false, some (50, true)⟩,
  ⟨some 54, (.load 1 false (.tmp 53)), false, some (50, true)⟩,
  ⟨some 55, (.bin .eql .none (.tmp 52) (.tmp 54)), true, some (50, true)⟩,
  ⟨some 56, (.pick (.tmp 50) (.tmp 55) (.const (.bool false))), true, none⟩,
  ⟨some 57, (.mov (.tmp 56)), true, none⟩,
  ⟨some 58, (.fieldAddr 10 (.tmp 2)), false, some (57, true)⟩,
  ⟨some 59, (.load 1 false (.tmp 58)), false, some (57, true)⟩,
  ⟨some 60, (.fieldAddr 10 (.tmp 3)), false, some (57, true)⟩,
  ⟨some 61, (.load 1 false (.tmp 60)), false, some (57, true)⟩,
  ⟨some 62, (.bin .eql .none (.tmp 59) (.tmp 61)), true, some (57, true)⟩,
  ⟨some 63, (.pick (.tmp 57) (.tmp 62) (.const (.bool false))), true, none⟩,
  ⟨some 64, (.mov (.tmp 63)), true, none⟩,
  ⟨some 65, (.fieldAddr 11 (.tmp 2)), false, some (64, true)⟩,
  ⟨some 66, (.load 1 false (.tmp 65)), true, some (64, true)⟩,
  ⟨some 67, (.fieldAddr 11 (.tmp 3)), false, some (64, true)⟩,
  ⟨some 68, (.load 1 false (.tmp 67)), true, some (64, true)⟩,
  ⟨some 69, (.bin .eql .bool (.tmp 66) (.tmp 68)), true, some (64, true)⟩,
  ⟨some 70, (.pick (.tmp 64) (.tmp 69) (.const (.bool false))), true, none⟩,
  ⟨some 71, (.mov (.tmp 70)), true, none⟩,
  ⟨some 72, (.fieldAddr 12 (.tmp 2)), false, some (71, true)⟩,
  ⟨some 73, (.load 1 false (.tmp 72)), false, some (71, true)⟩,
  ⟨some 74, (.fieldAddr 12 (.tmp 3)), false, some (71, true)⟩,
  ⟨some 75, (.load 1 false (.tmp 74)), false, some (71, true)⟩,
  ⟨some 76, (.call i_transitref16_Equal [(.tmp 73), (.tmp 75)]), true, some (71, true)⟩,
  ⟨some 77, (.pick (.tmp 71) (.tmp 76) (.const (.bool false))), true, none⟩,
  ⟨some 4, (.mov (.tmp 77)), true, none⟩]
def c38_3 : ACode := (.region o38_2 [4])
def w38_3 (P : Program) (Q : Exit → Slots → Mem → Prop) (M : Mem) (v2 : V) (v3 : V) : Prop :=
  @OptVH (moveV 0 v2) ⟨fun t5_1 =>
  @OptVH (loadV 1 false t5_1 M) ⟨fun t6_2 =>
  @OptVH (moveV 0 v3) ⟨fun t7_3 =>
  @OptVH (loadV 1 false t7_3 M) ⟨fun t8_4 =>
  @OptBH (binV .eql .none t6_2 t8_4) ⟨fun b9_5 =>
  @BIfH b9_5
  ⟨@OptVH (moveV 1 v2) ⟨fun t11_7 =>
  @OptVH (loadV 1 false t11_7 M) ⟨fun t12_8 =>
  @OptVH (moveV 1 v3) ⟨fun t13_9 =>
  @OptVH (loadV 1 false t13_9 M) ⟨fun t14_10 =>
  @OptBH (binV .eql .none t12_8 t14_10) ⟨fun b15_11 =>
  @BIfH b15_11
  ⟨@OptVH (moveV 2 v2) ⟨fun t18_14 =>
  @OptVH (loadV 1 false t18_14 M) ⟨fun t19_15 =>
  @OptVH (moveV 2 v3) ⟨fun t20_16 =>
  @OptVH (loadV 1 false t20_16 M) ⟨fun t21_17 =>
  @OptBH (binV .eql .none t19_15 t21_17) ⟨fun b22_18 =>
  @BIfH b22_18
  ⟨@OptVH (moveV 3 v2) ⟨fun t25_21 =>
  @OptVH (loadV 1 false t25_21 M) ⟨fun t26_22 =>
  @OptVH (moveV 3 v3) ⟨fun t27_23 =>
  @OptVH (loadV 1 false t27_23 M) ⟨fun t28_24 =>
  @OptBH (binV .eql .none t26_22 t28_24) ⟨fun b29_25 =>
  @BIfH b29_25
  ⟨@OptVH (moveV 4 v2) ⟨fun t32_28 =>
  @OptVH (loadV 1 false t32_28 M) ⟨fun t33_29 =>
  @OptVH (moveV 4 v3) ⟨fun t34_30 =>
  @OptVH (loadV 1 false t34_30 M) ⟨fun t35_31 =>
  @OptBH (binV .eql .none t33_29 t35_31) ⟨fun b36_32 =>
  @BIfH b36_32
  ⟨@OptVH (loadV 13 true v2 M) ⟨fun t39_35 =>
  @OptVH (loadV 13 true v3 M) ⟨fun t40_36 =>
  @CallH P i_transitref31_SameTarget [t39_35, t40_36] M ⟨fun t41_37 M37 => @OptBH (some t41_37) ⟨fun b41_37 =>
  @BIfH b41_37
  ⟨@OptVH (moveV 8 v2) ⟨fun t44_40 =>
  @OptVH (loadV 1 false t44_40 M37) ⟨fun t45_41 =>
  @OptVH (moveV 8 v3) ⟨fun t46_42 =>
  @OptVH (loadV 1 false t46_42 M37) ⟨fun t47_43 =>
  @OptBH (binV .eql .none t45_41 t47_43) ⟨fun b48_44 =>
  @BIfH b48_44
  ⟨@OptVH (moveV 9 v2) ⟨fun t51_47 =>
  @OptVH (loadV 1 false t51_47 M37) ⟨fun t52_48 =>
  @OptVH (moveV 9 v3) ⟨fun t53_49 =>
  @OptVH (loadV 1 false t53_49 M37) ⟨fun t54_50 =>
  @OptBH (binV .eql .none t52_48 t54_50) ⟨fun b55_51 =>
  @BIfH b55_51
  ⟨@OptVH (moveV 10 v2) ⟨fun t58_54 =>
  @OptVH (loadV 1 false t58_54 M37) ⟨fun t59_55 =>
  @OptVH (moveV 10 v3) ⟨fun t60_56 =>
  @OptVH (loadV 1 false t60_56 M37) ⟨fun t61_57 =>
  @OptBH (binV .eql .none t59_55 t61_57) ⟨fun b62_58 =>
  @BIfH b62_58
  ⟨@OptVH (moveV 11 v2) ⟨fun t65_61 =>
  @OptBH (loadV 1 false t65_61 M37) ⟨fun b66_62 =>
  @OptVH (moveV 11 v3) ⟨fun t67_63 =>
  @OptBH (loadV 1 false t67_63 M37) ⟨fun b68_64 =>
  @OptBH (binV .eql .bool (.bool b66_62) (.bool b68_64)) ⟨fun b69_65 =>
  @BIfH b69_65
  ⟨@OptVH (moveV 12 v2) ⟨fun t72_68 =>
  @OptVH (loadV 1 false t72_68 M37) ⟨fun t73_69 =>
  @OptVH (moveV 12 v3) ⟨fun t74_70 =>
  @OptVH (loadV 1 false t74_70 M37) ⟨fun t75_71 =>
  @CallH P i_transitref16_Equal [t73_69, t75_71] M37 ⟨fun t76_72 M72 => @OptBH (some t76_72) ⟨fun b76_72 =>
  Q .normal [(4, (.bool b76_72))] M72⟩⟩⟩⟩⟩⟩⟩
  ⟨Q .normal [(4, (.bool false))] M37⟩⟩⟩⟩⟩⟩⟩
  ⟨Q .normal [(4, (.bool false))] M37⟩⟩⟩⟩⟩⟩⟩
  ⟨Q .normal [(4, (.bool false))] M37⟩⟩⟩⟩⟩⟩⟩
  ⟨Q .normal [(4, (.bool false))] M37⟩⟩⟩⟩⟩⟩⟩
  ⟨Q .normal [(4, (.bool false))] M37⟩⟩⟩⟩⟩⟩
  ⟨Q .normal [(4, (.bool false))] M⟩⟩⟩⟩⟩⟩⟩
  ⟨Q .normal [(4, (.bool false))] M⟩⟩⟩⟩⟩⟩⟩
  ⟨Q .normal [(4, (.bool false))] M⟩⟩⟩⟩⟩⟩⟩
  ⟨Q .normal [(4, (.bool false))] M⟩⟩⟩⟩⟩⟩⟩
  ⟨Q .normal [(4, (.bool false))] M⟩⟩⟩⟩⟩⟩
theorem e38_3 (P : Program) (Q : Exit → Slots → Mem → Prop) (s : Slots) (M : Mem) : wpC P c38_3 Q s M = w38_3 P Q M (sget s 2) (sget s 3) := by kernel_rfl
def c38_4 : ACode := (.seq c38_3 .ret)
def c38_5 : ACode := (.seq c38_1 c38_4)
def fn_transitref31_Equal : AFn := ⟨78, [(.tmp 4)], c38_5⟩
theorem fn_transitref31_Equal_ok : resFn PR h_transitref31_Equal i_transitref31_Equal = some fn_transitref31_Equal := by kernel_rfl

def h_inbox_Inbox_Active_1 : Hints := ⟨[(0, [1, 2, 3]), (1, [4])], [], []⟩
def o39_0 : List AOper := [⟨some 3, (.box 13 (.tmp 0)), false, none⟩,
  ⟨some 4, (.mov (.const (.bool false))), true, none⟩]
def c39_1 : ACode := (.region o39_0 [1, 2, 3])
def w39_1 (_P : Program) (Q : Exit → Slots → Mem → Prop) (M : Mem) (v0 : V) (v1 : V) (v2 : V) : Prop :=
  @OptMH (boxV 13 v0 M) ⟨fun t3_1 M1 =>
  Q .normal [(1, v1), (2, v2), (3, t3_1)] M1⟩
theorem e39_1 (P : Program) (Q : Exit → Slots → Mem → Prop) (s : Slots) (M : Mem) : wpC P c39_1 Q s M = w39_1 P Q M (sget s 0) (sget s 1) (sget s 2) := by kernel_rfl
def o39_2 : List AOper := [⟨some 5, (.fieldAddr 2 (.tmp 3)), false, none⟩,
  ⟨some 6, (.load 1 false (.tmp 5)), false, none⟩,
  ⟨some 7, (.load 1 false (.tmp 1)), false, none⟩,
  ⟨some 8, (.bin .leq .none (.tmp 6) (.tmp 7)), true, none⟩,
  ⟨some 9, (.mov (.tmp 8)), true, none⟩,
  ⟨some 10, (.fieldAddr 3 (.tmp 3)), false, some (9, true)⟩,
  ⟨some 11, (.load 1 false (.tmp 10)), false, some (9, true)⟩,
  ⟨some 12, (.load 1 false (.tmp 1)), false, some (9, true)⟩,
  ⟨some 13, (.bin .gtr .none (.tmp 11) (.tmp 12)), true, some (9, true)⟩,
  ⟨some 14, (.pick (.tmp 9) (.tmp 13) (.const (.bool false))), true, none⟩,
  ⟨some 15, (.mov (.tmp 14)), true, none⟩,
  ⟨some 16, (.load 1 false (.tmp 2)), false, some (15, true)⟩,
  ⟨some 17, (.fieldAddr 0 (.tmp 3)), false, some (15, true)⟩,
  ⟨some 18, (.load 1 false (.tmp 17)), false, some (15, true)⟩,
  ⟨some 19, (.load 1 false (.tmp 1)), false, some (15, true)⟩,
  ⟨some 20, (.call i_inbox_Inbox_Failed [(.tmp 16), (.tmp 18), (.tmp 19)]), true, some (15, true)⟩,
  ⟨some 21, (.un .not (.tmp 20)), true, some (15, true)⟩,
  ⟨some 22, (.pick (.tmp 15) (.tmp 21) (.const (.bool false))), true, none⟩,
  ⟨some 4, (.mov (.tmp 22)), true, none⟩]
def c39_3 : ACode := (.region o39_2 [4])
def w39_3 (P : Program) (Q : Exit → Slots → Mem → Prop) (M : Mem) (v1 : V) (v2 : V) (v3 : V) : Prop :=
  @OptVH (moveV 2 v3) ⟨fun t5_1 =>
  @OptVH (loadV 1 false t5_1 M) ⟨fun t6_2 =>
  @OptVH (loadV 1 false v1 M) ⟨fun t7_3 =>
  @OptBH (binV .leq .none t6_2 t7_3) ⟨fun b8_4 =>
  @BIfH b8_4
  ⟨@OptVH (moveV 3 v3) ⟨fun t10_6 =>
  @OptVH (loadV 1 false t10_6 M) ⟨fun t11_7 =>
  @OptVH (loadV 1 false v1 M) ⟨fun t12_8 =>
  @OptBH (binV .gtr .none t11_7 t12_8) ⟨fun b13_9 =>
  @BIfH b13_9
  ⟨@OptVH (loadV 1 false v2 M) ⟨fun t16_12 =>
  @OptVH (moveV 0 v3) ⟨fun t17_13 =>
  @OptVH (loadV 1 false t17_13 M) ⟨fun t18_14 =>
  @OptVH (loadV 1 false v1 M) ⟨fun t19_15 =>
  @CallH P i_inbox_Inbox_Failed [t16_12, t18_14, t19_15] M ⟨fun t20_16 M16 => @OptBH (some t20_16) ⟨fun b20_16 =>
  @OptBH (unV .not (.bool b20_16)) ⟨fun b21_17 =>
  Q .normal [(4, (.bool b21_17))] M16⟩⟩⟩⟩⟩⟩⟩⟩
  ⟨Q .normal [(4, (.bool false))] M⟩⟩⟩⟩⟩⟩
  ⟨Q .normal [(4, (.bool false))] M⟩⟩⟩⟩⟩
theorem e39_3 (P : Program) (Q : Exit → Slots → Mem → Prop) (s : Slots) (M : Mem) : wpC P c39_3 Q s M = w39_3 P Q M (sget s 1) (sget s 2) (sget s 3) := by kernel_rfl
def c39_4 : ACode := (.seq c39_3 .ret)
def c39_5 : ACode := (.seq c39_1 c39_4)
def fn_inbox_Inbox_Active_1 : AFn := ⟨23, [(.tmp 4)], c39_5⟩
theorem fn_inbox_Inbox_Active_1_ok : resFn PR h_inbox_Inbox_Active_1 i_inbox_Inbox_Active_1 = some fn_inbox_Inbox_Active_1 := by kernel_rfl

def h_message_SameTarget : Hints := ⟨[(0, [2, 3]), (1, [4])], [], []⟩
def o40_0 : List AOper := [⟨some 2, (.box 13 (.tmp 0)), false, none⟩,
  ⟨some 3, (.box 13 (.tmp 1)), false, none⟩,
  ⟨some 4, (.mov (.const (.bool false))), true, none⟩]
def c40_1 : ACode := (.region o40_0 [2, 3])
def w40_1 (_P : Program) (Q : Exit → Slots → Mem → Prop) (M : Mem) (v0 : V) (v1 : V) : Prop :=
  @OptMH (boxV 13 v0 M) ⟨fun t2_1 M1 =>
  @OptMH (boxV 13 v1 M1) ⟨fun t3_2 M2 =>
  Q .normal [(2, t2_1), (3, t3_2)] M2⟩⟩
theorem e40_1 (P : Program) (Q : Exit → Slots → Mem → Prop) (s : Slots) (M : Mem) : wpC P c40_1 Q s M = w40_1 P Q M (sget s 0) (sget s 1) := by kernel_rfl
def o40_2 : List AOper := [⟨some 5, (.fieldAddr 5 (.tmp 2)), false, none⟩,
  ⟨some 6, (.load 1 false (.tmp 5)), false, none⟩,
  ⟨some 7, (.fieldAddr 5 (.tmp 3)), false, none⟩,
  ⟨some 8, (.load 1 false (.tmp 7)), false, none⟩,
  ⟨some 9, (.bin .eql .none (.tmp 6) (.tmp 8)), true, none⟩,
  ⟨some 10, (.mov (.tmp 9)), true, none⟩,
  ⟨some 11, (.fieldAddr 6 (.tmp 2)), false, some (10, true)⟩,
  ⟨some 12, (.load 1 false (.tmp 11)), false, some (10, true)⟩,
  ⟨some 13, (.fieldAddr 6 (.tmp 3)), false, some (10, true)⟩,
  ⟨some 14, (.load 1 false (.tmp 13)), false, some (10, true)⟩,
  ⟨some 15, (.bin .eql .none (.tmp 12) (.tmp 14)), true, some (10, true)⟩,
  ⟨some 16, (.pick (.tmp 10) (.tmp 15) (.const (.bool false))), true, none⟩,
  ⟨some 17, (.mov (.tmp 16)), true, none⟩,
  ⟨some 18, (.fieldAddr 7 (.tmp 2)), false, some (17, true)⟩,
  ⟨some 19, (.load 1 false (.tmp 18)), false, some (17, true)⟩,
  ⟨some 20, (.fieldAddr 7 (.tmp 3)), false, some (17, true)⟩,
  ⟨some 21, (.load 1 false (.tmp 20)), false, some (17, true)⟩,
  ⟨some 22, (.bin .eql .none (.tmp 19) (.tmp 21)), true, some (17, true)⟩,
  ⟨some 23, (.pick (.tmp 17) (.tmp 22) (.const (.bool false))), true, none⟩,
  ⟨some 4, (.mov (.tmp 23)), true, none⟩]
def c40_3 : ACode := (.region o40_2 [4])
def w40_3 (_P : Program) (Q : Exit → Slots → Mem → Prop) (M : Mem) (v2 : V) (v3 : V) : Prop :=
  @OptVH (moveV 5 v2) ⟨fun t5_1 =>
  @OptVH (loadV 1 false t5_1 M) ⟨fun t6_2 =>
  @OptVH (moveV 5 v3) ⟨fun t7_3 =>
  @OptVH (loadV 1 false t7_3 M) ⟨fun t8_4 =>
  @OptBH (binV .eql .none t6_2 t8_4) ⟨fun b9_5 =>
  @BIfH b9_5
  ⟨@OptVH (moveV 6 v2) ⟨fun t11_7 =>
  @OptVH (loadV 1 false t11_7 M) ⟨fun t12_8 =>
  @OptVH (moveV 6 v3) ⟨fun t13_9 =>
  @OptVH (loadV 1 false t13_9 M) ⟨fun t14_10 =>
  @OptBH (binV .eql .none t12_8 t14_10) ⟨fun b15_11 =>
  @BIfH b15_11
  ⟨@OptVH (moveV 7 v2) ⟨fun t18_14 =>
  @OptVH (loadV 1 false t18_14 M) ⟨fun t19_15 =>
  @OptVH (moveV 7 v3) ⟨fun t20_16 =>
  @OptVH (loadV 1 false t20_16 M) ⟨fun t21_17 =>
  @OptBH (binV .eql .none t19_15 t21_17) ⟨fun b22_18 =>
  Q .normal [(4, (.bool b22_18))] M⟩⟩⟩⟩⟩⟩
  ⟨Q .normal [(4, (.bool false))] M⟩⟩⟩⟩⟩⟩⟩
  ⟨Q .normal [(4, (.bool false))] M⟩⟩⟩⟩⟩⟩
theorem e40_3 (P : Program) (Q : Exit → Slots → Mem → Prop) (s : Slots) (M : Mem) : wpC P c40_3 Q s M = w40_3 P Q M (sget s 2) (sget s 3) := by kernel_rfl
def c40_4 : ACode := (.seq c40_3 .ret)
def c40_5 : ACode := (.seq c40_1 c40_4)
def fn_message_SameTarget : AFn := ⟨24, [(.tmp 4)], c40_5⟩
theorem fn_message_SameTarget_ok : resFn PR h_message_SameTarget i_message_SameTarget = some fn_message_SameTarget := by kernel_rfl

def h_inbox_inserted_api_Message : Hints := ⟨[(0, [0, 2, 4]), (1, [0, 2, 4, 7]), (2, [0, 2, 4, 7, 22]), (3, [0, 2, 4, 7]), (4, [0, 4, 7, 8]), (5, [0, 4, 7, 8]), (6, [0, 7, 8]), (7, [6])], [(2, [0, 2, 4, 7])], [(4, [0])]⟩
def o41_0 : List AOper := [⟨some 4, (.box 13 (.tmp 1)), false, none⟩,
  ⟨some 6, (.mov (.const (.slice [] .nil))), false, none⟩]
def c41_1 : ACode := (.region o41_0 [0, 2, 4])
def w41_1 (_P : Program) (Q : Exit → Slots → Mem → Prop) (M : Mem) (v0 : V) (v1 : V) (v2 : V) : Prop :=
  @OptMH (boxV 13 v1 M) ⟨fun t4_1 M1 =>
  Q .normal [(0, v0), (2, v2), (4, t4_1)] M1⟩
theorem e41_1 (P : Program) (Q : Exit → Slots → Mem → Prop) (s : Slots) (M : Mem) : wpC P c41_1 Q s M = w41_1 P Q M (sget s 0) (sget s 1) (sget s 2) := by kernel_rfl
def o41_2 : List AOper := [⟨some 9, (.mov (.tmp 0)), false, none⟩,
  ⟨some 10, (.lenSl (.tmp 9)), false, none⟩,
  ⟨some 7, (.mov (.tmp 10)), false, none⟩]
def c41_3 : ACode := (.region o41_2 [0, 2, 4, 7])
def w41_3 (_P : Program) (Q : Exit → Slots → Mem → Prop) (M : Mem) (v0 : V) (v2 : V) (v4 : V) : Prop :=
  @OptVH (lenV v0 M) ⟨fun t10_2 =>
  Q .normal [(0, v0), (2, v2), (4, v4), (7, t10_2)] M⟩
theorem e41_3 (P : Program) (Q : Exit → Slots → Mem → Prop) (s : Slots) (M : Mem) : wpC P c41_3 Q s M = w41_3 P Q M (sget s 0) (sget s 2) (sget s 4) := by kernel_rfl
def o41_4 : List AOper := [⟨some 11, (.mov (.tmp 7)), false, none⟩,
  ⟨some 12, (.bin .gtr .none (.tmp 11) (.const (.int .i64 0))), true, none⟩,
  ⟨some 13, (.mov (.tmp 12)), true, none⟩,
  ⟨some 14, (.mov (.tmp 2)), false, some (13, true)⟩,
  ⟨some 15, (.load 13 true (.tmp 4)), false, some (13, true)⟩,
  ⟨some 16, (.mov (.tmp 0)), false, some (13, true)⟩,
  ⟨some 17, (.mov (.tmp 7)), false, some (13, true)⟩,
  ⟨some 18, (.bin .sub .none (.tmp 17) (.const (.int .i64 1))), false, some (13, true)⟩,
  ⟨some 19, (.indexSl 13 (.tmp 16) (.tmp 18)), false, some (13, true)⟩,
  ⟨some 20, (.load 13 true (.tmp 19)), false, some (13, true)⟩,
  ⟨some 21, (.callv (.tmp 14) [(.tmp 15), (.tmp 20)]), true, some (13, true)⟩,
  ⟨some 22, (.pick (.tmp 13) (.tmp 21) (.const (.bool false))), true, none⟩]
def c41_5 : ACode := (.seq (.mixed o41_4 [true, true, true, true, true, true, true, true, true, true, false, true] [0, 2, 4, 7, 22]) (.cond (.tmp 22) .skip (.exit 0)))
def w41_5 (P : Program) (Q : Exit → Slots → Mem → Prop) (M : Mem) (v0 : V) (v2 : V) (v4 : V) (v7 : V) : Prop :=
  @OptBH (binV .gtr .none v7 (.int .i64 0)) ⟨fun b12_2 =>
  @BIfH b12_2
  ⟨@OptVH (loadV 13 true v4 M) ⟨fun t15_5 =>
  @OptVH (binV .sub .none v7 (.int .i64 1)) ⟨fun t18_8 =>
  @OptVH (indexSlV 13 v0 t18_8 M) ⟨fun t19_9 =>
  @OptVH (loadV 13 true t19_9 M) ⟨fun t20_10 =>
  @CallV P false v2 [t15_5, t20_10] M ⟨fun t21_11 M11 => @OptBH (some t21_11) ⟨fun b21_11 =>
  @BIfH b21_11
  ⟨Q .normal [(0, v0), (2, v2), (4, v4), (7, v7), (22, (.bool b21_11))] M11⟩
  ⟨Q (.exit 0) [(0, v0), (2, v2), (4, v4), (7, v7), (22, (.bool b21_11))] M11⟩⟩⟩⟩⟩⟩⟩⟩
  ⟨Q (.exit 0) [(0, v0), (2, v2), (4, v4), (7, v7), (22, (.bool false))] M⟩⟩
theorem e41_5 (P : Program) (Q : Exit → Slots → Mem → Prop) (s : Slots) (M : Mem) : wpC P c41_5 Q s M = w41_5 P Q M (sget s 0) (sget s 2) (sget s 4) (sget s 7) := by kernel_rfl
def o41_6 : List AOper := [⟨some 23, (.mov (.tmp 7)), false, none⟩,
  ⟨some 24, (.bin .sub .none (.tmp 23) (.const (.int .i64 1))), false, none⟩,
  ⟨some 7, (.mov (.tmp 24)), false, none⟩]
def c41_7 : ACode := (.region o41_6 [0, 2, 4, 7])
def w41_7 (_P : Program) (Q : Exit → Slots → Mem → Prop) (M : Mem) (v0 : V) (v2 : V) (v4 : V) (v7 : V) : Prop :=
  @OptVH (binV .sub .none v7 (.int .i64 1)) ⟨fun t24_2 =>
  Q .normal [(0, v0), (2, v2), (4, v4), (7, t24_2)] M⟩
theorem e41_7 (P : Program) (Q : Exit → Slots → Mem → Prop) (s : Slots) (M : Mem) : wpC P c41_7 Q s M = w41_7 P Q M (sget s 0) (sget s 2) (sget s 4) (sget s 7) := by kernel_rfl
def c41_8 : ACode := (.block 1 c41_7)
def c41_9 : ACode := (.seq c41_5 c41_8)
def c41_10 : ACode := (.loop [0, 2, 4, 7] c41_9)
def c41_11 : ACode := (.block 0 c41_10)
def o41_12 : List AOper := [⟨some 8, (.newarr 13), false, none⟩]
def c41_13 : ACode := (.region o41_12 [0, 4, 7, 8])
def w41_13 (_P : Program) (Q : Exit → Slots → Mem → Prop) (M : Mem) (v0 : V) (v4 : V) (v7 : V) : Prop :=
  @OptMH (newarrV 13 M) ⟨fun t8_1 M1 =>
  Q .normal [(0, v0), (4, v4), (7, v7), (8, t8_1)] M1⟩
theorem e41_13 (P : Program) (Q : Exit → Slots → Mem → Prop) (s : Slots) (M : Mem) : wpC P c41_13 Q s M = w41_13 P Q M (sget s 0) (sget s 4) (sget s 7) := by kernel_rfl
def o41_14 : List AOper := [⟨some 25, (.mov (.tmp 8)), false, none⟩,
  ⟨some 26, (.mov (.tmp 0)), false, none⟩,
  ⟨some 27, (.mov (.tmp 7)), false, none⟩,
  ⟨some 28, (.slice 13 (.tmp 26) none (some (.tmp 27)) none), false, none⟩,
  ⟨some 29, (.append false 13 128 (.tmp 25) (.tmp 28)), false, none⟩,
  ⟨some 8, (.mov (.tmp 29)), false, none⟩]
def c41_15 : ACode := (.region o41_14 [0, 4, 7, 8])
def w41_15 (_P : Program) (Q : Exit → Slots → Mem → Prop) (M : Mem) (v0 : V) (v4 : V) (v7 : V) (v8 : V) : Prop :=
  @OptVH (sliceV 13 v0 none (some v7) none M) ⟨fun t28_4 =>
  @OptMH (appV false 13 128 v8 t28_4 M) ⟨fun t29_5 M5 =>
  Q .normal [(0, v0), (4, v4), (7, v7), (8, t29_5)] M5⟩⟩
theorem e41_15 (P : Program) (Q : Exit → Slots → Mem → Prop) (s : Slots) (M : Mem) : wpC P c41_15 Q s M = w41_15 P Q M (sget s 0) (sget s 4) (sget s 7) (sget s 8) := by kernel_rfl
def o41_16 : List AOper := [⟨some 30, (.mov (.tmp 8)), false, none⟩,
  ⟨some 31, (.load 13 true (.tmp 4)), false, none⟩,
  ⟨some 32, (.buildSlice [(.int .i64 0), (.int .i64 0), (.int .i64 0), (.int .i64 0), (.int .i64 0), (.str []), (.int .i64 0), (.int .i64 0), (.int .i64 0), (.int .i64 0), (.int .i64 0), (.bool false), (.slice [] .nil)] 13 1 [(0, (13, (.tmp 31)))]), false, none⟩,
  ⟨some 33, (.append false 13 128 (.tmp 30) (.tmp 32)), false, none⟩,
  ⟨some 8, (.mov (.tmp 33)), false, none⟩]
def c41_17 : ACode := (.region o41_16 [0, 7, 8])
def w41_17 (_P : Program) (Q : Exit → Slots → Mem → Prop) (M : Mem) (v0 : V) (v4 : V) (v7 : V) (v8 : V) : Prop :=
  @OptVH (loadV 13 true v4 M) ⟨fun t31_2 =>
  @OptVH (buildSliceV [(.int .i64 0), (.int .i64 0), (.int .i64 0), (.int .i64 0), (.int .i64 0), (.str []), (.int .i64 0), (.int .i64 0), (.int .i64 0), (.int .i64 0), (.int .i64 0), (.bool false), (.slice [] .nil)] 13 1 [(0, 13, t31_2)]) ⟨fun t32_3 =>
  @OptMH (appV false 13 128 v8 t32_3 M) ⟨fun t33_4 M4 =>
  Q .normal [(0, v0), (7, v7), (8, t33_4)] M4⟩⟩⟩
theorem e41_17 (P : Program) (Q : Exit → Slots → Mem → Prop) (s : Slots) (M : Mem) : wpC P c41_17 Q s M = w41_17 P Q M (sget s 0) (sget s 4) (sget s 7) (sget s 8) := by kernel_rfl
def o41_18 : List AOper := [⟨some 34, (.mov (.tmp 8)), false, none⟩,
  ⟨some 35, (.mov (.tmp 0)), false, none⟩,
  ⟨some 36, (.mov (.tmp 7)), false, none⟩,
  ⟨some 37, (.slice 13 (.tmp 35) (some (.tmp 36)) none none), false, none⟩,
  ⟨some 38, (.append false 13 128 (.tmp 34) (.tmp 37)), false, none⟩,
  ⟨some 6, (.mov (.tmp 38)), false, none⟩]
def c41_19 : ACode := (.region o41_18 [6])
def w41_19 (_P : Program) (Q : Exit → Slots → Mem → Prop) (M : Mem) (v0 : V) (v7 : V) (v8 : V) : Prop :=
  @OptVH (sliceV 13 v0 (some v7) none none M) ⟨fun t37_4 =>
  @OptMH (appV false 13 128 v8 t37_4 M) ⟨fun t38_5 M5 =>
  Q .normal [(6, t38_5)] M5⟩⟩
theorem e41_19 (P : Program) (Q : Exit → Slots → Mem → Prop) (s : Slots) (M : Mem) : wpC P c41_19 Q s M = w41_19 P Q M (sget s 0) (sget s 7) (sget s 8) := by kernel_rfl
def c41_20 : ACode := (.seq c41_19 .ret)
def c41_21 : ACode := (.seq c41_17 c41_20)
def c41_22 : ACode := (.seq c41_15 c41_21)
def c41_23 : ACode := (.seq c41_13 c41_22)
def c41_24 : ACode := (.seq c41_11 c41_23)
def c41_25 : ACode := (.seq c41_3 c41_24)
def c41_26 : ACode := (.seq c41_1 c41_25)
def fn_inbox_inserted_api_Message : AFn := ⟨39, [(.tmp 6)], c41_26⟩
theorem fn_inbox_inserted_api_Message_ok : resFn PR h_inbox_inserted_api_Message i_inbox_inserted_api_Message = some fn_inbox_inserted_api_Message := by kernel_rfl

def h_inbox_before : Hints := ⟨[(0, [2, 3]), (1, [2, 3, 5]), (2, [4]), (3, [2, 3, 16]), (4, [4]), (5, [2, 3, 27]), (6, [4]), (7, [4])], [], []⟩
def o42_0 : List AOper := [⟨some 2, (.box 13 (.tmp 0)), false, none⟩,
  ⟨some 3, (.box 13 (.tmp 1)), false, none⟩,
  ⟨some 4, (.mov (.const (.bool false))), true, none⟩]
def c42_1 : ACode := (.region o42_0 [2, 3])
def w42_1 (_P : Program) (Q : Exit → Slots → Mem → Prop) (M : Mem) (v0 : V) (v1 : V) : Prop :=
  @OptMH (boxV 13 v0 M) ⟨fun t2_1 M1 =>
  @OptMH (boxV 13 v1 M1) ⟨fun t3_2 M2 =>
  Q .normal [(2, t2_1), (3, t3_2)] M2⟩⟩
theorem e42_1 (P : Program) (Q : Exit → Slots → Mem → Prop) (s : Slots) (M : Mem) : wpC P c42_1 Q s M = w42_1 P Q M (sget s 0) (sget s 1) := by kernel_rfl
def o42_2 : List AOper := [⟨some 11, (.fieldAddr 5 (.tmp 2)), false, none⟩,
  ⟨some 12, (.load 1 false (.tmp 11)), false, none⟩,
  ⟨some 13, (.fieldAddr 5 (.tmp 3)), false, none⟩,
  ⟨some 14, (.load 1 false (.tmp 13)), false, none⟩,
  ⟨some 15, (.bin .lss .none (.tmp 12) (.tmp 14)), true, none⟩,
  ⟨some 4, (.mov (.tmp 15)), true, none⟩]
def c42_3 : ACode := (.region o42_2 [4])
def w42_3 (_P : Program) (Q : Exit → Slots → Mem → Prop) (M : Mem) (v2 : V) (v3 : V) : Prop :=
  @OptVH (moveV 5 v2) ⟨fun t11_1 =>
  @OptVH (loadV 1 false t11_1 M) ⟨fun t12_2 =>
  @OptVH (moveV 5 v3) ⟨fun t13_3 =>
  @OptVH (loadV 1 false t13_3 M) ⟨fun t14_4 =>
  @OptBH (binV .lss .none t12_2 t14_4) ⟨fun b15_5 =>
  Q .normal [(4, (.bool b15_5))] M⟩⟩⟩⟩⟩
theorem e42_3 (P : Program) (Q : Exit → Slots → Mem → Prop) (s : Slots) (M : Mem) : wpC P c42_3 Q s M = w42_3 P Q M (sget s 2) (sget s 3) := by kernel_rfl
def c42_4 : ACode := (.seq c42_3 .ret)
def o42_5 : List AOper := [⟨some 22, (.fieldAddr 6 (.tmp 2)), false, none⟩,
  ⟨some 23, (.load 1 false (.tmp 22)), false, none⟩,
  ⟨some 24, (.fieldAddr 6 (.tmp 3)), false, none⟩,
  ⟨some 25, (.load 1 false (.tmp 24)), false, none⟩,
  ⟨some 26, (.bin .lss .none (.tmp 23) (.tmp 25)), true, none⟩,
  ⟨some 4, (.mov (.tmp 26)), true, none⟩]
def c42_6 : ACode := (.region o42_5 [4])
def w42_6 (_P : Program) (Q : Exit → Slots → Mem → Prop) (M : Mem) (v2 : V) (v3 : V) : Prop :=
  @OptVH (moveV 6 v2) ⟨fun t22_1 =>
  @OptVH (loadV 1 false t22_1 M) ⟨fun t23_2 =>
  @OptVH (moveV 6 v3) ⟨fun t24_3 =>
  @OptVH (loadV 1 false t24_3 M) ⟨fun t25_4 =>
  @OptBH (binV .lss .none t23_2 t25_4) ⟨fun b26_5 =>
  Q .normal [(4, (.bool b26_5))] M⟩⟩⟩⟩⟩
theorem e42_6 (P : Program) (Q : Exit → Slots → Mem → Prop) (s : Slots) (M : Mem) : wpC P c42_6 Q s M = w42_6 P Q M (sget s 2) (sget s 3) := by kernel_rfl
def c42_7 : ACode := (.seq c42_6 .ret)
def o42_8 : List AOper := [⟨some 33, (.fieldAddr 7 (.tmp 2)), false, none⟩,
  ⟨some 34, (.load 1 false (.tmp 33)), false, none⟩,
  ⟨some 35, (.fieldAddr 7 (.tmp 3)), false, none⟩,
  ⟨some 36, (.load 1 false (.tmp 35)), false, none⟩,
  ⟨some 37, (.bin .lss .none (.tmp 34) (.tmp 36)), true, none⟩,
  ⟨some 4, (.mov (.tmp 37)), true, none⟩]
def c42_9 : ACode := (.region o42_8 [4])
def w42_9 (_P : Program) (Q : Exit → Slots → Mem → Prop) (M : Mem) (v2 : V) (v3 : V) : Prop :=
  @OptVH (moveV 7 v2) ⟨fun t33_1 =>
  @OptVH (loadV 1 false t33_1 M) ⟨fun t34_2 =>
  @OptVH (moveV 7 v3) ⟨fun t35_3 =>
  @OptVH (loadV 1 false t35_3 M) ⟨fun t36_4 =>
  @OptBH (binV .lss .none t34_2 t36_4) ⟨fun b37_5 =>
  Q .normal [(4, (.bool b37_5))] M⟩⟩⟩⟩⟩
theorem e42_9 (P : Program) (Q : Exit → Slots → Mem → Prop) (s : Slots) (M : Mem) : wpC P c42_9 Q s M = w42_9 P Q M (sget s 2) (sget s 3) := by kernel_rfl
def c42_10 : ACode := (.seq c42_9 .ret)
def o42_11 : List AOper := [⟨some 28, (.fieldAddr 7 (.tmp 2)), false, none⟩,
  ⟨some 29, (.load 1 false (.tmp 28)), false, none⟩,
  ⟨some 30, (.fieldAddr 7 (.tmp 3)), false, none⟩,
  ⟨some 31, (.load 1 false (.tmp 30)), false, none⟩,
  ⟨some 32, (.bin .neq .none (.tmp 29) (.tmp 31)), true, none⟩,
  ⟨some 27, (.mov (.tmp 32)), true, none⟩]
def c42_12 : ACode := (.seq (.region o42_11 [2, 3, 27]) (.cond (.tmp 27) c42_10 .skip))
def w42_12 (P : Program) (Q : Exit → Slots → Mem → Prop) (M : Mem) (v2 : V) (v3 : V) : Prop :=
  @OptVH (moveV 7 v2) ⟨fun t28_1 =>
  @OptVH (loadV 1 false t28_1 M) ⟨fun t29_2 =>
  @OptVH (moveV 7 v3) ⟨fun t30_3 =>
  @OptVH (loadV 1 false t30_3 M) ⟨fun t31_4 =>
  @OptBH (binV .neq .none t29_2 t31_4) ⟨fun b32_5 =>
  @BIfH b32_5
  ⟨wpC P c42_10 Q [(2, v2), (3, v3), (27, (.bool b32_5))] M⟩
  ⟨Q .normal [(2, v2), (3, v3), (27, (.bool b32_5))] M⟩⟩⟩⟩⟩⟩
theorem e42_12 (P : Program) (Q : Exit → Slots → Mem → Prop) (s : Slots) (M : Mem) : wpC P c42_12 Q s M = w42_12 P Q M (sget s 2) (sget s 3) := by kernel_rfl
def o42_13 : List AOper := [⟨some 17, (.fieldAddr 6 (.tmp 2)), false, none⟩,
  ⟨some 18, (.load 1 false (.tmp 17)), false, none⟩,
  ⟨some 19, (.fieldAddr 6 (.tmp 3)), false, none⟩,
  ⟨some 20, (.load 1 false (.tmp 19)), false, none⟩,
  ⟨some 21, (.bin .neq .none (.tmp 18) (.tmp 20)), true, none⟩,
  ⟨some 16, (.mov (.tmp 21)), true, none⟩]
def c42_14 : ACode := (.seq (.region o42_13 [2, 3, 16]) (.cond (.tmp 16) c42_7 c42_12))
def w42_14 (P : Program) (Q : Exit → Slots → Mem → Prop) (M : Mem) (v2 : V) (v3 : V) : Prop :=
  @OptVH (moveV 6 v2) ⟨fun t17_1 =>
  @OptVH (loadV 1 false t17_1 M) ⟨fun t18_2 =>
  @OptVH (moveV 6 v3) ⟨fun t19_3 =>
  @OptVH (loadV 1 false t19_3 M) ⟨fun t20_4 =>
  @OptBH (binV .neq .none t18_2 t20_4) ⟨fun b21_5 =>
  @BIfH b21_5
  ⟨wpC P c42_7 Q [(2, v2), (3, v3), (16, (.bool b21_5))] M⟩
  ⟨wpC P c42_12 Q [(2, v2), (3, v3), (16, (.bool b21_5))] M⟩⟩⟩⟩⟩⟩
theorem e42_14 (P : Program) (Q : Exit → Slots → Mem → Prop) (s : Slots) (M : Mem) : wpC P c42_14 Q s M = w42_14 P Q M (sget s 2) (sget s 3) := by kernel_rfl
def o42_15 : List AOper := [⟨some 6, (.fieldAddr 5 (.tmp 2)), false, none⟩,
  ⟨some 7, (.load 1 false (.tmp 6)), false, none⟩,
  ⟨some 8, (.fieldAddr 5 (.tmp 3)), false, none⟩,
  ⟨some 9, (.load 1 false (.tmp 8)), false, none⟩,
  ⟨some 10, (.bin .neq .none (.tmp 7) (.tmp 9)), true, none⟩,
  ⟨some 5, (.mov (.tmp 10)), true, none⟩]
def c42_16 : ACode := (.seq (.region o42_15 [2, 3, 5]) (.cond (.tmp 5) c42_4 c42_14))
def w42_16 (P : Program) (Q : Exit → Slots → Mem → Prop) (M : Mem) (v2 : V) (v3 : V) : Prop :=
  @OptVH (moveV 5 v2) ⟨fun t6_1 =>
  @OptVH (loadV 1 false t6_1 M) ⟨fun t7_2 =>
  @OptVH (moveV 5 v3) ⟨fun t8_3 =>
  @OptVH (loadV 1 false t8_3 M) ⟨fun t9_4 =>
  @OptBH (binV .neq .none t7_2 t9_4) ⟨fun b10_5 =>
  @BIfH b10_5
  ⟨wpC P c42_4 Q [(2, v2), (3, v3), (5, (.bool b10_5))] M⟩
  ⟨wpC P c42_14 Q [(2, v2), (3, v3), (5, (.bool b10_5))] M⟩⟩⟩⟩⟩⟩
theorem e42_16 (P : Program) (Q : Exit → Slots → Mem → Prop) (s : Slots) (M : Mem) : wpC P c42_16 Q s M = w42_16 P Q M (sget s 2) (sget s 3) := by kernel_rfl
def c42_17 : ACode := (.block 0 c42_16)
def o42_18 : List AOper := [⟨some 38, (.fieldAddr 1 (.tmp 2)), false, none⟩,
  ⟨some 39, (.load 1 false (.tmp 38)), false, none⟩,
  ⟨some 40, (.fieldAddr 1 (.tmp 3)), false, none⟩,
  ⟨some 41, (.load 1 false (.tmp 40)), false, none⟩,
  ⟨some 42, (.bin .lss .none (.tmp 39) (.tmp 41)), true, none⟩,
  ⟨some 4, (.mov (.tmp 42)), true, none⟩]
def c42_19 : ACode := (.region o42_18 [4])
def w42_19 (_P : Program) (Q : Exit → Slots → Mem → Prop) (M : Mem) (v2 : V) (v3 : V) : Prop :=
  @OptVH (moveV 1 v2) ⟨fun t38_1 =>
  @OptVH (loadV 1 false t38_1 M) ⟨fun t39_2 =>
  @OptVH (moveV 1 v3) ⟨fun t40_3 =>
  @OptVH (loadV 1 false t40_3 M) ⟨fun t41_4 =>
  @OptBH (binV .lss .none t39_2 t41_4) ⟨fun b42_5 =>
  Q .normal [(4, (.bool b42_5))] M⟩⟩⟩⟩⟩
theorem e42_19 (P : Program) (Q : Exit → Slots → Mem → Prop) (s : Slots) (M : Mem) : wpC P c42_19 Q s M = w42_19 P Q M (sget s 2) (sget s 3) := by kernel_rfl
def c42_20 : ACode := (.seq c42_19 .ret)
def c42_21 : ACode := (.seq c42_17 c42_20)
def c42_22 : ACode := (.seq c42_1 c42_21)
def fn_inbox_before : AFn := ⟨43, [(.tmp 4)], c42_22⟩
theorem fn_inbox_before_ok : resFn PR h_inbox_before i_inbox_before = some fn_inbox_before := by kernel_rfl

def h_inbox_Inbox_Messages_1 : Hints := ⟨[(0, []), (1, [2])], [], []⟩
def o43_0 : List AOper := [⟨some 1, (.box 13 (.tmp 0)), false, none⟩,
  ⟨some 2, (.mov (.const (.bool false))), true, none⟩]
def c43_1 : ACode := (.region o43_0 [])
def w43_1 (_P : Program) (Q : Exit → Slots → Mem → Prop) (M : Mem) (v0 : V) : Prop :=
  @OptMH (boxV 13 v0 M) ⟨fun _t1_1 M1 =>
  Q .normal [] M1⟩
theorem e43_1 (P : Program) (Q : Exit → Slots → Mem → Prop) (s : Slots) (M : Mem) : wpC P c43_1 Q s M = w43_1 P Q M (sget s 0) := by kernel_rfl
def o43_2 : List AOper := [⟨some 2, (.mov (.const (.bool true))), true, none⟩]
def c43_3 : ACode := (.region o43_2 [2])
def w43_3 (_P : Program) (Q : Exit → Slots → Mem → Prop) (M : Mem) : Prop :=
  Q .normal [(2, (.bool true))] M
theorem e43_3 (P : Program) (Q : Exit → Slots → Mem → Prop) (s : Slots) (M : Mem) : wpC P c43_3 Q s M = w43_3 P Q M := by kernel_rfl
def c43_4 : ACode := (.seq c43_3 .ret)
def c43_5 : ACode := (.seq c43_1 c43_4)
def fn_inbox_Inbox_Messages_1 : AFn := ⟨3, [(.tmp 2)], c43_5⟩
theorem fn_inbox_Inbox_Messages_1_ok : resFn PR h_inbox_Inbox_Messages_1 i_inbox_Inbox_Messages_1 = some fn_inbox_Inbox_Messages_1 := by kernel_rfl

def h_inbox_Inbox_exists : Hints := ⟨[(0, [0, 1]), (1, [4])], [], []⟩
def o44_0 : List AOper := [⟨some 4, (.mov (.const (.bool false))), true, none⟩]
def c44_1 : ACode := (.region o44_0 [0, 1])
def w44_1 (_P : Program) (Q : Exit → Slots → Mem → Prop) (M : Mem) (v0 : V) (v1 : V) : Prop :=
  Q .normal [(0, v0), (1, v1)] M
theorem e44_1 (P : Program) (Q : Exit → Slots → Mem → Prop) (s : Slots) (M : Mem) : wpC P c44_1 Q s M = w44_1 P Q M (sget s 0) (sget s 1) := by kernel_rfl
def o44_2 : List AOper := [⟨some 5, (.mov (.tmp 0)), false, none⟩,
  ⟨some 6, (.bin .neq .ptr (.tmp 5) (.const .nilp)), true, none⟩,
  ⟨some 7, (.mov (.tmp 6)), true, none⟩,
  ⟨some 8, (.mov (.tmp 1)), false, some (7, true)⟩,
  ⟨some 9, (.bin .geq .none (.tmp 8) (.const (.int .i64 0))), true, some (7, true)⟩,
  ⟨some 10, (.pick (.tmp 7) (.tmp 9) (.const (.bool false))), true, none⟩,
  ⟨some 11, (.mov (.tmp 10)), true, none⟩,
  ⟨some 12, (.mov (.tmp 1)), false, some (11, true)⟩,
  ⟨some 13, (.mov (.tmp 0)), false, some (11, true)⟩,
  ⟨some 14, (.nilCheck (.tmp 13)), false, some (11, true)⟩,
  ⟨some 15, (.fieldAddr 0 (.tmp 14)), false, some (11, true)⟩,
  ⟨some 16, (.load 1 false (.tmp 15)), false, some (11, true)⟩,
  ⟨some 17, (.lenSl (.tmp 16)), false, some (11, true)⟩,
  ⟨some 18, (.bin .lss .none (.tmp 12) (.tmp 17)), true, some (11, true)⟩,
  ⟨some 19, (.pick (.tmp 11) (.tmp 18) (.const (.bool false))), true, none⟩,
  ⟨some 4, (.mov (.tmp 19)), true, none⟩]
def c44_3 : ACode := (.region o44_2 [4])
def w44_3 (_P : Program) (Q : Exit → Slots → Mem → Prop) (M : Mem) (v0 : V) (v1 : V) : Prop :=
  @OptBH (binV .neq .ptr v0 .nilp) ⟨fun b6_2 =>
  @BIfH b6_2
  ⟨@OptBH (binV .geq .none v1 (.int .i64 0)) ⟨fun b9_5 =>
  @BIfH b9_5
  ⟨@OptVH (nilCheckV v0) ⟨fun t14_10 =>
  @OptVH (moveV 0 t14_10) ⟨fun t15_11 =>
  @OptVH (loadV 1 false t15_11 M) ⟨fun t16_12 =>
  @OptVH (lenV t16_12 M) ⟨fun t17_13 =>
  @OptBH (binV .lss .none v1 t17_13) ⟨fun b18_14 =>
  Q .normal [(4, (.bool b18_14))] M⟩⟩⟩⟩⟩⟩
  ⟨Q .normal [(4, (.bool false))] M⟩⟩⟩
  ⟨Q .normal [(4, (.bool false))] M⟩⟩
theorem e44_3 (P : Program) (Q : Exit → Slots → Mem → Prop) (s : Slots) (M : Mem) : wpC P c44_3 Q s M = w44_3 P Q M (sget s 0) (sget s 1) := by kernel_rfl
def c44_4 : ACode := (.seq c44_3 .ret)
def c44_5 : ACode := (.seq c44_1 c44_4)
def fn_inbox_Inbox_exists : AFn := ⟨20, [(.tmp 4)], c44_5⟩
theorem fn_inbox_Inbox_exists_ok : resFn PR h_inbox_Inbox_exists i_inbox_Inbox_exists = some fn_inbox_Inbox_exists := by kernel_rfl

def h_inbox_heard_silent : Hints := ⟨[(0, [0, 1, 2]), (1, [6])], [], []⟩
def o45_0 : List AOper := [⟨some 6, (.mov (.const (.bool false))), true, none⟩]
def c45_1 : ACode := (.region o45_0 [0, 1, 2])
def w45_1 (_P : Program) (Q : Exit → Slots → Mem → Prop) (M : Mem) (v0 : V) (v1 : V) (v2 : V) : Prop :=
  Q .normal [(0, v0), (1, v1), (2, v2)] M
theorem e45_1 (P : Program) (Q : Exit → Slots → Mem → Prop) (s : Slots) (M : Mem) : wpC P c45_1 Q s M = w45_1 P Q M (sget s 0) (sget s 1) (sget s 2) := by kernel_rfl
def o45_2 : List AOper := [⟨some 7, (.mov (.tmp 0)), false, none⟩,
  ⟨some 8, (.nilCheck (.tmp 7)), false, none⟩,
  ⟨some 9, (.fieldAddr 0 (.tmp 8)), false, none⟩,
  ⟨some 10, (.load 1 false (.tmp 9)), true, none⟩,
  ⟨some 11, (.un .not (.tmp 10)), true, none⟩,
  ⟨some 12, (.mov (.tmp 11)), true, none⟩,
  ⟨some 13, (.mov (.tmp 1)), false, some (12, false)⟩,
  ⟨some 14, (.mov (.tmp 0)), false, some (12, false)⟩,
  ⟨some 15, (.nilCheck (.tmp 14)), false, some (12, false)⟩,
  ⟨some 16, (.fieldAddr 1 (.tmp 15)), false, some (12, false)⟩,
  ⟨some 17, (.load 1 false (.tmp 16)), false, some (12, false)⟩,
  ⟨some 18, (.bin .gtr .none (.tmp 13) (.tmp 17)), true, some (12, false)⟩,
  ⟨some 19, (.mov (.tmp 18)), true, some (12, false)⟩,
  ⟨some 20, (.mov (.tmp 1)), false, some (19, true)⟩,
  ⟨some 21, (.conv .u64 (.tmp 20)), false, some (19, true)⟩,
  ⟨some 22, (.mov (.tmp 0)), false, some (19, true)⟩,
  ⟨some 23, (.nilCheck (.tmp 22)), false, some (19, true)⟩,
  ⟨some 24, (.fieldAddr 1 (.tmp 23)), false, some (19, true)⟩,
  ⟨some 25, (.load 1 false (.tmp 24)), false, some (19, true)⟩,
  ⟨some 26, (.conv .u64 (.tmp 25)), false, some (19, true)⟩,
  ⟨some 27, (.bin .sub .none (.tmp 21) (.tmp 26)), false, some (19, true)⟩,
  ⟨some 28, (.mov (.tmp 2)), false, some (19, true)⟩,
  ⟨some 29, (.conv .u64 (.tmp 28)), false, some (19, true)⟩,
  ⟨some 30, (.bin .gtr .none (.tmp 27) (.tmp 29)), true, some (19, true)⟩,
  ⟨some 31, (.pick (.tmp 19) (.tmp 30) (.const (.bool false))), true, some (12, false)⟩,
  ⟨some 32, (.pick (.tmp 12) (.const (.bool true)) (.tmp 31)), true, none⟩,
  ⟨some 6, (.mov (.tmp 32)), true, none⟩]
def c45_3 : ACode := (.region o45_2 [6])
def w45_3 (_P : Program) (Q : Exit → Slots → Mem → Prop) (M : Mem) (v0 : V) (v1 : V) (v2 : V) : Prop :=
  @OptVH (nilCheckV v0) ⟨fun t8_2 =>
  @OptVH (moveV 0 t8_2) ⟨fun t9_3 =>
  @OptBH (loadV 1 false t9_3 M) ⟨fun b10_4 =>
  @OptBH (unV .not (.bool b10_4)) ⟨fun b11_5 =>
  @BIfH b11_5
  ⟨Q .normal [(6, (.bool true))] M⟩
  ⟨@OptVH (nilCheckV v0) ⟨fun t15_11 =>
  @OptVH (moveV 1 t15_11) ⟨fun t16_12 =>
  @OptVH (loadV 1 false t16_12 M) ⟨fun t17_13 =>
  @OptBH (binV .gtr .none v1 t17_13) ⟨fun b18_14 =>
  @BIfH b18_14
  ⟨@OptVH (convV .u64 v1) ⟨fun t21_17 =>
  @OptVH (nilCheckV v0) ⟨fun t23_19 =>
  @OptVH (moveV 1 t23_19) ⟨fun t24_20 =>
  @OptVH (loadV 1 false t24_20 M) ⟨fun t25_21 =>
  @OptVH (convV .u64 t25_21) ⟨fun t26_22 =>
  @OptVH (binV .sub .none t21_17 t26_22) ⟨fun t27_23 =>
  @OptVH (convV .u64 v2) ⟨fun t29_25 =>
  @OptBH (binV .gtr .none t27_23 t29_25) ⟨fun b30_26 =>
  Q .normal [(6, (.bool b30_26))] M⟩⟩⟩⟩⟩⟩⟩⟩⟩
  ⟨Q .normal [(6, (.bool false))] M⟩⟩⟩⟩⟩⟩⟩⟩⟩⟩
theorem e45_3 (P : Program) (Q : Exit → Slots → Mem → Prop) (s : Slots) (M : Mem) : wpC P c45_3 Q s M = w45_3 P Q M (sget s 0) (sget s 1) (sget s 2) := by kernel_rfl
def c45_4 : ACode := (.seq c45_3 .ret)
def c45_5 : ACode := (.seq c45_1 c45_4)
def fn_inbox_heard_silent : AFn := ⟨33, [(.tmp 6)], c45_5⟩
theorem fn_inbox_heard_silent_ok : resFn PR h_inbox_heard_silent i_inbox_heard_silent = some fn_inbox_heard_silent := by kernel_rfl

def h_message_Check : Hints := ⟨[(0, [1]), (1, [1, 6]), (2, [2]), (3, [1, 9]), (4, [2]), (5, [1, 26]), (6, [2]), (7, [1, 30]), (8, [2]), (9, [1, 34]), (10, [2]), (11, [1, 38]), (12, [2]), (13, [1, 41]), (14, [2]), (15, [2])], [], []⟩
def o53_0 : List AOper := [⟨some 1, (.box 13 (.tmp 0)), false, none⟩,
  ⟨some 2, (.mov (.const (.int .i64 0))), false, none⟩]
def c53_1 : ACode := (.region o53_0 [1])
def w53_1 (_P : Program) (Q : Exit → Slots → Mem → Prop) (M : Mem) (v0 : V) : Prop :=
  @OptMH (boxV 13 v0 M) ⟨fun t1_1 M1 =>
  Q .normal [(1, t1_1)] M1⟩
theorem e53_1 (P : Program) (Q : Exit → Slots → Mem → Prop) (s : Slots) (M : Mem) : wpC P c53_1 Q s M = w53_1 P Q M (sget s 0) := by kernel_rfl
def o53_2 : List AOper := [⟨some 2, (.mov (.const (.int .i64 36))), false, none⟩]
def c53_3 : ACode := (.region o53_2 [2])
def w53_3 (_P : Program) (Q : Exit → Slots → Mem → Prop) (M : Mem) : Prop :=
  Q .normal [(2, (.int .i64 36))] M
theorem e53_3 (P : Program) (Q : Exit → Slots → Mem → Prop) (s : Slots) (M : Mem) : wpC P c53_3 Q s M = w53_3 P Q M := by kernel_rfl
def c53_4 : ACode := (.seq c53_3 .ret)
def o53_5 : List AOper := [⟨some 3, (.fieldAddr 0 (.tmp 1)), false, none⟩,
  ⟨some 4, (.load 1 false (.tmp 3)), false, none⟩,
  ⟨some 5, (.call i_message_within [(.tmp 4), (.const (.int .i64 0)), (.const (.int .i64 7))]), true, none⟩,
  ⟨some 6, (.un .not (.tmp 5)), true, none⟩]
def c53_6 : ACode := (.seq (.region o53_5 [1, 6]) (.cond (.tmp 6) c53_4 .skip))
def w53_6 (P : Program) (Q : Exit → Slots → Mem → Prop) (M : Mem) (v1 : V) : Prop :=
  @OptVH (moveV 0 v1) ⟨fun t3_1 =>
  @OptVH (loadV 1 false t3_1 M) ⟨fun t4_2 =>
  @CallH P i_message_within [t4_2, (.int .i64 0), (.int .i64 7)] M ⟨fun t5_3 M3 => @OptBH (some t5_3) ⟨fun b5_3 =>
  @OptBH (unV .not (.bool b5_3)) ⟨fun b6_4 =>
  @BIfH b6_4
  ⟨wpC P c53_4 Q [(1, v1), (6, (.bool b6_4))] M3⟩
  ⟨Q .normal [(1, v1), (6, (.bool b6_4))] M3⟩⟩⟩⟩⟩⟩
theorem e53_6 (P : Program) (Q : Exit → Slots → Mem → Prop) (s : Slots) (M : Mem) : wpC P c53_6 Q s M = w53_6 P Q M (sget s 1) := by kernel_rfl
def o53_7 : List AOper := [⟨some 2, (.mov (.const (.int .i64 2))), false, none⟩]
def c53_8 : ACode := (.region o53_7 [2])
def w53_8 (_P : Program) (Q : Exit → Slots → Mem → Prop) (M : Mem) : Prop :=
  Q .normal [(2, (.int .i64 2))] M
theorem e53_8 (P : Program) (Q : Exit → Slots → Mem → Prop) (s : Slots) (M : Mem) : wpC P c53_8 Q s M = w53_8 P Q M := by kernel_rfl
def c53_9 : ACode := (.seq c53_8 .ret)
def o53_10 : List AOper := [⟨some 7, (.fieldAddr 1 (.tmp 1)), false, none⟩,
  ⟨some 8, (.load 1 false (.tmp 7)), false, none⟩,
  ⟨some 9, (.bin .lss .none (.tmp 8) (.const (.int .i64 1))), true, none⟩]
def c53_11 : ACode := (.seq (.region o53_10 [1, 9]) (.cond (.tmp 9) c53_9 .skip))
def w53_11 (P : Program) (Q : Exit → Slots → Mem → Prop) (M : Mem) (v1 : V) : Prop :=
  @OptVH (moveV 1 v1) ⟨fun t7_1 =>
  @OptVH (loadV 1 false t7_1 M) ⟨fun t8_2 =>
  @OptBH (binV .lss .none t8_2 (.int .i64 1)) ⟨fun b9_3 =>
  @BIfH b9_3
  ⟨wpC P c53_9 Q [(1, v1), (9, (.bool b9_3))] M⟩
  ⟨Q .normal [(1, v1), (9, (.bool b9_3))] M⟩⟩⟩⟩
theorem e53_11 (P : Program) (Q : Exit → Slots → Mem → Prop) (s : Slots) (M : Mem) : wpC P c53_11 Q s M = w53_11 P Q M (sget s 1) := by kernel_rfl
def o53_12 : List AOper := [⟨some 2, (.mov (.const (.int .i64 10))), false, none⟩]
def c53_13 : ACode := (.region o53_12 [2])
def w53_13 (_P : Program) (Q : Exit → Slots → Mem → Prop) (M : Mem) : Prop :=
  Q .normal [(2, (.int .i64 10))] M
theorem e53_13 (P : Program) (Q : Exit → Slots → Mem → Prop) (s : Slots) (M : Mem) : wpC P c53_13 Q s M = w53_13 P Q M := by kernel_rfl
def c53_14 : ACode := (.seq c53_13 .ret)
def o53_15 : List AOper := [⟨some 10, (.fieldAddr 2 (.tmp 1)), false, none⟩,
  ⟨some 11, (.load 1 false (.tmp 10)), false, none⟩,
  ⟨some 12, (.call i_message_within [(.tmp 11), (.const (.int .i64 0)), (.const (.int .i64 3155932800))]), true, none⟩,
  ⟨some 13, (.un .not (.tmp 12)), true, none⟩,
  ⟨some 14, (.mov (.tmp 13)), true, none⟩,
  ⟨some 15, (.fieldAddr 3 (.tmp 1)), false, some (14, false)⟩,
  ⟨some 16, (.load 1 false (.tmp 15)), false, some (14, false)⟩,
  ⟨some 17, (.call i_message_within [(.tmp 16), (.const (.int .i64 0)), (.const (.int .i64 3155932800))]), true, some (14, false)⟩,
  ⟨some 18, (.un .not (.tmp 17)), true, some (14, false)⟩,
  ⟨some 19, (.pick (.tmp 14) (.const (.bool true)) (.tmp 18)), true, none⟩,
  ⟨some 20, (.mov (.tmp 19)), true, none⟩,
  ⟨some 21, (.fieldAddr 2 (.tmp 1)), false, some (20, false)⟩,
  ⟨some 22, (.load 1 false (.tmp 21)), false, some (20, false)⟩,
  ⟨some 23, (.fieldAddr 3 (.tmp 1)), false, some (20, false)⟩,
  ⟨some 24, (.load 1 false (.tmp 23)), false, some (20, false)⟩,
  ⟨some 25, (.bin .geq .none (.tmp 22) (.tmp 24)), true, some (20, false)⟩,
  ⟨some 26, (.pick (.tmp 20) (.const (.bool true)) (.tmp 25)), true, none⟩]
def c53_16 : ACode := (.seq (.region o53_15 [1, 26]) (.cond (.tmp 26) c53_14 .skip))
def w53_16 (P : Program) (Q : Exit → Slots → Mem → Prop) (M : Mem) (v1 : V) : Prop :=
  @OptVH (moveV 2 v1) ⟨fun t10_1 =>
  @OptVH (loadV 1 false t10_1 M) ⟨fun t11_2 =>
  @CallH P i_message_within [t11_2, (.int .i64 0), (.int .i64 3155932800)] M ⟨fun t12_3 M3 => @OptBH (some t12_3) ⟨fun b12_3 =>
  @OptBH (unV .not (.bool b12_3)) ⟨fun b13_4 =>
  @BIfH b13_4
  ⟨wpC P c53_14 Q [(1, v1), (26, (.bool true))] M3⟩
  ⟨@OptVH (moveV 3 v1) ⟨fun t15_9 =>
  @OptVH (loadV 1 false t15_9 M3) ⟨fun t16_10 =>
  @CallH P i_message_within [t16_10, (.int .i64 0), (.int .i64 3155932800)] M3 ⟨fun t17_11 M11 => @OptBH (some t17_11) ⟨fun b17_11 =>
  @OptBH (unV .not (.bool b17_11)) ⟨fun b18_12 =>
  @BIfH b18_12
  ⟨wpC P c53_14 Q [(1, v1), (26, (.bool true))] M11⟩
  ⟨@OptVH (moveV 2 v1) ⟨fun t21_16 =>
  @OptVH (loadV 1 false t21_16 M11) ⟨fun t22_17 =>
  @OptVH (moveV 3 v1) ⟨fun t23_18 =>
  @OptVH (loadV 1 false t23_18 M11) ⟨fun t24_19 =>
  @OptBH (binV .geq .none t22_17 t24_19) ⟨fun b25_20 =>
  @BIfH b25_20
  ⟨wpC P c53_14 Q [(1, v1), (26, (.bool b25_20))] M11⟩
  ⟨Q .normal [(1, v1), (26, (.bool b25_20))] M11⟩⟩⟩⟩⟩⟩⟩⟩⟩⟩⟩⟩⟩⟩⟩⟩⟩⟩
theorem e53_16 (P : Program) (Q : Exit → Slots → Mem → Prop) (s : Slots) (M : Mem) : wpC P c53_16 Q s M = w53_16 P Q M (sget s 1) := by kernel_rfl
def o53_17 : List AOper := [⟨some 2, (.mov (.const (.int .i64 35))), false, none⟩]
def c53_18 : ACode := (.region o53_17 [2])
def w53_18 (_P : Program) (Q : Exit → Slots → Mem → Prop) (M : Mem) : Prop :=
  Q .normal [(2, (.int .i64 35))] M
theorem e53_18 (P : Program) (Q : Exit → Slots → Mem → Prop) (s : Slots) (M : Mem) : wpC P c53_18 Q s M = w53_18 P Q M := by kernel_rfl
def c53_19 : ACode := (.seq c53_18 .ret)
def o53_20 : List AOper := [⟨some 27, (.fieldAddr 4 (.tmp 1)), false, none⟩,
  ⟨some 28, (.load 1 false (.tmp 27)), false, none⟩,
  ⟨some 29, (.call i_message_within [(.tmp 28), (.const (.int .i64 1)), (.const (.int .i64 6))]), true, none⟩,
  ⟨some 30, (.un .not (.tmp 29)), true, none⟩]
def c53_21 : ACode := (.seq (.region o53_20 [1, 30]) (.cond (.tmp 30) c53_19 .skip))
def w53_21 (P : Program) (Q : Exit → Slots → Mem → Prop) (M : Mem) (v1 : V) : Prop :=
  @OptVH (moveV 4 v1) ⟨fun t27_1 =>
  @OptVH (loadV 1 false t27_1 M) ⟨fun t28_2 =>
  @CallH P i_message_within [t28_2, (.int .i64 1), (.int .i64 6)] M ⟨fun t29_3 M3 => @OptBH (some t29_3) ⟨fun b29_3 =>
  @OptBH (unV .not (.bool b29_3)) ⟨fun b30_4 =>
  @BIfH b30_4
  ⟨wpC P c53_19 Q [(1, v1), (30, (.bool b30_4))] M3⟩
  ⟨Q .normal [(1, v1), (30, (.bool b30_4))] M3⟩⟩⟩⟩⟩⟩
theorem e53_21 (P : Program) (Q : Exit → Slots → Mem → Prop) (s : Slots) (M : Mem) : wpC P c53_21 Q s M = w53_21 P Q M (sget s 1) := by kernel_rfl
def o53_22 : List AOper := [⟨some 2, (.mov (.const (.int .i64 12))), false, none⟩]
def c53_23 : ACode := (.region o53_22 [2])
def w53_23 (_P : Program) (Q : Exit → Slots → Mem → Prop) (M : Mem) : Prop :=
  Q .normal [(2, (.int .i64 12))] M
theorem e53_23 (P : Program) (Q : Exit → Slots → Mem → Prop) (s : Slots) (M : Mem) : wpC P c53_23 Q s M = w53_23 P Q M := by kernel_rfl
def c53_24 : ACode := (.seq c53_23 .ret)
def o53_25 : List AOper := [⟨some 31, (.fieldAddr 5 (.tmp 1)), false, none⟩,
  ⟨some 32, (.load 1 false (.tmp 31)), false, none⟩,
  ⟨some 33, (.call i_ident_Valid [(.tmp 32)]), true, none⟩,
  ⟨some 34, (.un .not (.tmp 33)), true, none⟩]
def c53_26 : ACode := (.seq (.region o53_25 [1, 34]) (.cond (.tmp 34) c53_24 .skip))
def w53_26 (P : Program) (Q : Exit → Slots → Mem → Prop) (M : Mem) (v1 : V) : Prop :=
  @OptVH (moveV 5 v1) ⟨fun t31_1 =>
  @OptVH (loadV 1 false t31_1 M) ⟨fun t32_2 =>
  @CallH P i_ident_Valid [t32_2] M ⟨fun t33_3 M3 => @OptBH (some t33_3) ⟨fun b33_3 =>
  @OptBH (unV .not (.bool b33_3)) ⟨fun b34_4 =>
  @BIfH b34_4
  ⟨wpC P c53_24 Q [(1, v1), (34, (.bool b34_4))] M3⟩
  ⟨Q .normal [(1, v1), (34, (.bool b34_4))] M3⟩⟩⟩⟩⟩⟩
theorem e53_26 (P : Program) (Q : Exit → Slots → Mem → Prop) (s : Slots) (M : Mem) : wpC P c53_26 Q s M = w53_26 P Q M (sget s 1) := by kernel_rfl
def o53_27 : List AOper := [⟨some 2, (.mov (.const (.int .i64 11))), false, none⟩]
def c53_28 : ACode := (.region o53_27 [2])
def w53_28 (_P : Program) (Q : Exit → Slots → Mem → Prop) (M : Mem) : Prop :=
  Q .normal [(2, (.int .i64 11))] M
theorem e53_28 (P : Program) (Q : Exit → Slots → Mem → Prop) (s : Slots) (M : Mem) : wpC P c53_28 Q s M = w53_28 P Q M := by kernel_rfl
def c53_29 : ACode := (.seq c53_28 .ret)
def o53_30 : List AOper := [⟨some 35, (.fieldAddr 6 (.tmp 1)), false, none⟩,
  ⟨some 36, (.load 1 false (.tmp 35)), false, none⟩,
  ⟨some 37, (.call i_date_Valid [(.tmp 36)]), true, none⟩,
  ⟨some 38, (.un .not (.tmp 37)), true, none⟩]
def c53_31 : ACode := (.seq (.region o53_30 [1, 38]) (.cond (.tmp 38) c53_29 .skip))
def w53_31 (P : Program) (Q : Exit → Slots → Mem → Prop) (M : Mem) (v1 : V) : Prop :=
  @OptVH (moveV 6 v1) ⟨fun t35_1 =>
  @OptVH (loadV 1 false t35_1 M) ⟨fun t36_2 =>
  @CallH P i_date_Valid [t36_2] M ⟨fun t37_3 M3 => @OptBH (some t37_3) ⟨fun b37_3 =>
  @OptBH (unV .not (.bool b37_3)) ⟨fun b38_4 =>
  @BIfH b38_4
  ⟨wpC P c53_29 Q [(1, v1), (38, (.bool b38_4))] M3⟩
  ⟨Q .normal [(1, v1), (38, (.bool b38_4))] M3⟩⟩⟩⟩⟩⟩
theorem e53_31 (P : Program) (Q : Exit → Slots → Mem → Prop) (s : Slots) (M : Mem) : wpC P c53_31 Q s M = w53_31 P Q M (sget s 1) := by kernel_rfl
def o53_32 : List AOper := [⟨some 2, (.mov (.const (.int .i64 2))), false, none⟩]
def c53_33 : ACode := (.region o53_32 [2])
def w53_33 (_P : Program) (Q : Exit → Slots → Mem → Prop) (M : Mem) : Prop :=
  Q .normal [(2, (.int .i64 2))] M
theorem e53_33 (P : Program) (Q : Exit → Slots → Mem → Prop) (s : Slots) (M : Mem) : wpC P c53_33 Q s M = w53_33 P Q M := by kernel_rfl
def c53_34 : ACode := (.seq c53_33 .ret)
def o53_35 : List AOper := [⟨some 39, (.fieldAddr 7 (.tmp 1)), false, none⟩,
  ⟨some 40, (.load 1 false (.tmp 39)), false, none⟩,
  ⟨some 41, (.bin .lss .none (.tmp 40) (.const (.int .i64 0))), true, none⟩]
def c53_36 : ACode := (.seq (.region o53_35 [1, 41]) (.cond (.tmp 41) c53_34 .skip))
def w53_36 (P : Program) (Q : Exit → Slots → Mem → Prop) (M : Mem) (v1 : V) : Prop :=
  @OptVH (moveV 7 v1) ⟨fun t39_1 =>
  @OptVH (loadV 1 false t39_1 M) ⟨fun t40_2 =>
  @OptBH (binV .lss .none t40_2 (.int .i64 0)) ⟨fun b41_3 =>
  @BIfH b41_3
  ⟨wpC P c53_34 Q [(1, v1), (41, (.bool b41_3))] M⟩
  ⟨Q .normal [(1, v1), (41, (.bool b41_3))] M⟩⟩⟩⟩
theorem e53_36 (P : Program) (Q : Exit → Slots → Mem → Prop) (s : Slots) (M : Mem) : wpC P c53_36 Q s M = w53_36 P Q M (sget s 1) := by kernel_rfl
def o53_37 : List AOper := [⟨some 42, (.load 13 true (.tmp 1)), false, none⟩,
  ⟨some 43, (.fieldAddr 4 (.tmp 1)), false, none⟩,
  ⟨some 44, (.load 1 false (.tmp 43)), false, none⟩,
  ⟨some 45, (.call i_message_used [(.tmp 44)]), false, none⟩,
  ⟨some 46, (.call i_message_checkKind [(.tmp 42), (.tmp 45)]), false, none⟩,
  ⟨some 2, (.mov (.tmp 46)), false, none⟩]
def c53_38 : ACode := (.mixed o53_37 [true, true, true, true, false, true] [2])
def w53_38 (P : Program) (Q : Exit → Slots → Mem → Prop) (M : Mem) (v1 : V) : Prop :=
  @OptVH (loadV 13 true v1 M) ⟨fun t42_1 =>
  @OptVH (moveV 4 v1) ⟨fun t43_2 =>
  @OptVH (loadV 1 false t43_2 M) ⟨fun t44_3 =>
  @CallQ P i_message_used [t44_3] M ⟨fun t45_4 M4 =>
  @CallH P i_message_checkKind [t42_1, t45_4] M4 ⟨fun t46_5 M5 =>
  Q .normal [(2, t46_5)] M5⟩⟩⟩⟩⟩
theorem e53_38 (P : Program) (Q : Exit → Slots → Mem → Prop) (s : Slots) (M : Mem) : wpC P c53_38 Q s M = w53_38 P Q M (sget s 1) := by kernel_rfl
def c53_39 : ACode := (.seq c53_38 .ret)
def c53_40 : ACode := (.seq c53_36 c53_39)
def c53_41 : ACode := (.seq c53_31 c53_40)
def c53_42 : ACode := (.seq c53_26 c53_41)
def c53_43 : ACode := (.seq c53_21 c53_42)
def c53_44 : ACode := (.seq c53_16 c53_43)
def c53_45 : ACode := (.seq c53_11 c53_44)
def c53_46 : ACode := (.seq c53_6 c53_45)
def c53_47 : ACode := (.seq c53_1 c53_46)
def fn_message_Check : AFn := ⟨47, [(.tmp 2)], c53_47⟩
theorem fn_message_Check_ok : resFn PR h_message_Check i_message_Check = some fn_message_Check := by kernel_rfl

def h_message_status : Hints := ⟨[(0, [0]), (1, [3]), (2, [3, 4]), (3, [3, 4]), (4, [3, 4]), (5, [4]), (6, [2]), (7, [2])], [], []⟩
def o54_0 : List AOper := [⟨some 2, (.mov (.const (.bool false))), true, none⟩]
def c54_1 : ACode := (.region o54_0 [0])
def w54_1 (_P : Program) (Q : Exit → Slots → Mem → Prop) (M : Mem) (v0 : V) : Prop :=
  Q .normal [(0, v0)] M
theorem e54_1 (P : Program) (Q : Exit → Slots → Mem → Prop) (s : Slots) (M : Mem) : wpC P c54_1 Q s M = w54_1 P Q M (sget s 0) := by kernel_rfl
def o54_2 : List AOper := [⟨some 3, (.mov (.tmp 0)), false, none⟩]
def c54_3 : ACode := (.region o54_2 [3])
def w54_3 (_P : Program) (Q : Exit → Slots → Mem → Prop) (M : Mem) (v0 : V) : Prop :=
  Q .normal [(3, v0)] M
theorem e54_3 (P : Program) (Q : Exit → Slots → Mem → Prop) (s : Slots) (M : Mem) : wpC P c54_3 Q s M = w54_3 P Q M (sget s 0) := by kernel_rfl
def o54_4 : List AOper := [⟨some 8, (.bin .eql .none (.tmp 3) (.const (.int .i64 6))), true, none⟩,
  ⟨some 4, (.mov (.tmp 8)), true, none⟩]
def c54_5 : ACode := (.region o54_4 [4])
def w54_5 (_P : Program) (Q : Exit → Slots → Mem → Prop) (M : Mem) (v3 : V) : Prop :=
  @OptBH (binV .eql .none v3 (.int .i64 6)) ⟨fun b8_1 =>
  Q .normal [(4, (.bool b8_1))] M⟩
theorem e54_5 (P : Program) (Q : Exit → Slots → Mem → Prop) (s : Slots) (M : Mem) : wpC P c54_5 Q s M = w54_5 P Q M (sget s 3) := by kernel_rfl
def o54_6 : List AOper := [⟨some 7, (.bin .eql .none (.tmp 3) (.const (.int .i64 5))), true, none⟩,
  ⟨some 4, (.mov (.tmp 7)), true, none⟩]
def c54_7 : ACode := (.seq (.region o54_6 [3, 4]) (.cond (.tmp 4) .skip c54_5))
def w54_7 (P : Program) (Q : Exit → Slots → Mem → Prop) (M : Mem) (v3 : V) : Prop :=
  @OptBH (binV .eql .none v3 (.int .i64 5)) ⟨fun b7_1 =>
  @BIfH b7_1
  ⟨Q .normal [(3, v3), (4, (.bool b7_1))] M⟩
  ⟨wpC P c54_5 Q [(3, v3), (4, (.bool b7_1))] M⟩⟩
theorem e54_7 (P : Program) (Q : Exit → Slots → Mem → Prop) (s : Slots) (M : Mem) : wpC P c54_7 Q s M = w54_7 P Q M (sget s 3) := by kernel_rfl
def o54_8 : List AOper := [⟨some 6, (.bin .eql .none (.tmp 3) (.const (.int .i64 4))), true, none⟩,
  ⟨some 4, (.mov (.tmp 6)), true, none⟩]
def c54_9 : ACode := (.seq (.region o54_8 [3, 4]) (.cond (.tmp 4) .skip c54_7))
def w54_9 (P : Program) (Q : Exit → Slots → Mem → Prop) (M : Mem) (v3 : V) : Prop :=
  @OptBH (binV .eql .none v3 (.int .i64 4)) ⟨fun b6_1 =>
  @BIfH b6_1
  ⟨Q .normal [(3, v3), (4, (.bool b6_1))] M⟩
  ⟨wpC P c54_7 Q [(3, v3), (4, (.bool b6_1))] M⟩⟩
theorem e54_9 (P : Program) (Q : Exit → Slots → Mem → Prop) (s : Slots) (M : Mem) : wpC P c54_9 Q s M = w54_9 P Q M (sget s 3) := by kernel_rfl
def o54_10 : List AOper := [⟨some 5, (.bin .eql .none (.tmp 3) (.const (.int .i64 2))), true, none⟩,
  ⟨some 4, (.mov (.tmp 5)), true, none⟩]
def c54_11 : ACode := (.seq (.region o54_10 [3, 4]) (.cond (.tmp 4) .skip c54_9))
def w54_11 (P : Program) (Q : Exit → Slots → Mem → Prop) (M : Mem) (v3 : V) : Prop :=
  @OptBH (binV .eql .none v3 (.int .i64 2)) ⟨fun b5_1 =>
  @BIfH b5_1
  ⟨Q .normal [(3, v3), (4, (.bool b5_1))] M⟩
  ⟨wpC P c54_9 Q [(3, v3), (4, (.bool b5_1))] M⟩⟩
theorem e54_11 (P : Program) (Q : Exit → Slots → Mem → Prop) (s : Slots) (M : Mem) : wpC P c54_11 Q s M = w54_11 P Q M (sget s 3) := by kernel_rfl
def o54_12 : List AOper := [⟨some 2, (.mov (.const (.bool true))), true, none⟩]
def c54_13 : ACode := (.region o54_12 [2])
def w54_13 (_P : Program) (Q : Exit → Slots → Mem → Prop) (M : Mem) : Prop :=
  Q .normal [(2, (.bool true))] M
theorem e54_13 (P : Program) (Q : Exit → Slots → Mem → Prop) (s : Slots) (M : Mem) : wpC P c54_13 Q s M = w54_13 P Q M := by kernel_rfl
def c54_14 : ACode := (.seq c54_13 .ret)
def c54_15 : ACode := (.cond (.tmp 4) c54_14 .skip)
def c54_16 : ACode := (.seq c54_11 c54_15)
def c54_17 : ACode := (.block 0 c54_16)
def c54_18 : ACode := (.seq c54_3 c54_17)
def o54_19 : List AOper := [⟨some 2, (.mov (.const (.bool false))), true, none⟩]
def c54_20 : ACode := (.region o54_19 [2])
def w54_20 (_P : Program) (Q : Exit → Slots → Mem → Prop) (M : Mem) : Prop :=
  Q .normal [(2, (.bool false))] M
theorem e54_20 (P : Program) (Q : Exit → Slots → Mem → Prop) (s : Slots) (M : Mem) : wpC P c54_20 Q s M = w54_20 P Q M := by kernel_rfl
def c54_21 : ACode := (.seq c54_20 .ret)
def c54_22 : ACode := (.seq c54_18 c54_21)
def c54_23 : ACode := (.seq c54_1 c54_22)
def fn_message_status : AFn := ⟨9, [(.tmp 2)], c54_23⟩
theorem fn_message_status_ok : resFn PR h_message_status i_message_status = some fn_message_status := by kernel_rfl

def h_transitref16_Equal : Hints := ⟨[(0, [0, 1]), (1, [0, 1, 10]), (2, [4]), (3, [0, 1, 5]), (4, [0, 1, 5, 14]), (5, [0, 1, 5]), (6, [0, 1, 5, 25]), (7, [4]), (8, [4])], [(4, [0, 1, 5])], []⟩
def o55_0 : List AOper := [⟨some 4, (.mov (.const (.bool false))), true, none⟩]
def c55_1 : ACode := (.region o55_0 [0, 1])
def w55_1 (_P : Program) (Q : Exit → Slots → Mem → Prop) (M : Mem) (v0 : V) (v1 : V) : Prop :=
  Q .normal [(0, v0), (1, v1)] M
theorem e55_1 (P : Program) (Q : Exit → Slots → Mem → Prop) (s : Slots) (M : Mem) : wpC P c55_1 Q s M = w55_1 P Q M (sget s 0) (sget s 1) := by kernel_rfl
def o55_2 : List AOper := [⟨some 4, (.mov (.const (.bool false))), true, none⟩]
def c55_3 : ACode := (.region o55_2 [4])
def w55_3 (_P : Program) (Q : Exit → Slots → Mem → Prop) (M : Mem) : Prop :=
  Q .normal [(4, (.bool false))] M
theorem e55_3 (P : Program) (Q : Exit → Slots → Mem → Prop) (s : Slots) (M : Mem) : wpC P c55_3 Q s M = w55_3 P Q M := by kernel_rfl
def c55_4 : ACode := (.seq c55_3 .ret)
def o55_5 : List AOper := [⟨some 6, (.mov (.tmp 0)), false, none⟩,
  ⟨some 7, (.lenSl (.tmp 6)), false, none⟩,
  ⟨some 8, (.mov (.tmp 1)), false, none⟩,
  ⟨some 9, (.lenSl (.tmp 8)), false, none⟩,
  ⟨some 10, (.bin .neq .none (.tmp 7) (.tmp 9)), true, none⟩]
def c55_6 : ACode := (.seq (.region o55_5 [0, 1, 10]) (.cond (.tmp 10) c55_4 .skip))
def w55_6 (P : Program) (Q : Exit → Slots → Mem → Prop) (M : Mem) (v0 : V) (v1 : V) : Prop :=
  @OptVH (lenV v0 M) ⟨fun t7_2 =>
  @OptVH (lenV v1 M) ⟨fun t9_4 =>
  @OptBH (binV .neq .none t7_2 t9_4) ⟨fun b10_5 =>
  @BIfH b10_5
  ⟨wpC P c55_4 Q [(0, v0), (1, v1), (10, (.bool b10_5))] M⟩
  ⟨Q .normal [(0, v0), (1, v1), (10, (.bool b10_5))] M⟩⟩⟩⟩
theorem e55_6 (P : Program) (Q : Exit → Slots → Mem → Prop) (s : Slots) (M : Mem) : wpC P c55_6 Q s M = w55_6 P Q M (sget s 0) (sget s 1) := by kernel_rfl
def o55_7 : List AOper := [⟨some 5, (.mov (.const (.int .i64 0))), false, none⟩]
def c55_8 : ACode := (.region o55_7 [0, 1, 5])
def w55_8 (_P : Program) (Q : Exit → Slots → Mem → Prop) (M : Mem) (v0 : V) (v1 : V) : Prop :=
  Q .normal [(0, v0), (1, v1), (5, (.int .i64 0))] M
theorem e55_8 (P : Program) (Q : Exit → Slots → Mem → Prop) (s : Slots) (M : Mem) : wpC P c55_8 Q s M = w55_8 P Q M (sget s 0) (sget s 1) := by kernel_rfl
def o55_9 : List AOper := [⟨some 11, (.mov (.tmp 5)), false, none⟩,
  ⟨some 12, (.mov (.tmp 0)), false, none⟩,
  ⟨some 13, (.lenSl (.tmp 12)), false, none⟩,
  ⟨some 14, (.bin .lss .none (.tmp 11) (.tmp 13)), true, none⟩]
def c55_10 : ACode := (.seq (.region o55_9 [0, 1, 5, 14]) (.cond (.tmp 14) .skip (.exit 0)))
def w55_10 (_P : Program) (Q : Exit → Slots → Mem → Prop) (M : Mem) (v0 : V) (v1 : V) (v5 : V) : Prop :=
  @OptVH (lenV v0 M) ⟨fun t13_3 =>
  @OptBH (binV .lss .none v5 t13_3) ⟨fun b14_4 =>
  @BIfH b14_4
  ⟨Q .normal [(0, v0), (1, v1), (5, v5), (14, (.bool b14_4))] M⟩
  ⟨Q (.exit 0) [(0, v0), (1, v1), (5, v5), (14, (.bool b14_4))] M⟩⟩⟩
theorem e55_10 (P : Program) (Q : Exit → Slots → Mem → Prop) (s : Slots) (M : Mem) : wpC P c55_10 Q s M = w55_10 P Q M (sget s 0) (sget s 1) (sget s 5) := by kernel_rfl
def o55_11 : List AOper := [⟨some 4, (.mov (.const (.bool false))), true, none⟩]
def c55_12 : ACode := (.region o55_11 [4])
def w55_12 (_P : Program) (Q : Exit → Slots → Mem → Prop) (M : Mem) : Prop :=
  Q .normal [(4, (.bool false))] M
theorem e55_12 (P : Program) (Q : Exit → Slots → Mem → Prop) (s : Slots) (M : Mem) : wpC P c55_12 Q s M = w55_12 P Q M := by kernel_rfl
def c55_13 : ACode := (.seq c55_12 .ret)
def o55_14 : List AOper := [⟨some 17, (.mov (.tmp 0)), false, none⟩,
  ⟨some 18, (.mov (.tmp 5)), false, none⟩,
  ⟨some 19, (.indexSl 5 (.tmp 17) (.tmp 18)), false, none⟩,
  ⟨some 20, (.load 5 true (.tmp 19)), false, none⟩,
  ⟨some 21, (.mov (.tmp 1)), false, none⟩,
  ⟨some 22, (.mov (.tmp 5)), false, none⟩,
  ⟨some 23, (.indexSl 5 (.tmp 21) (.tmp 22)), false, none⟩,
  ⟨some 24, (.load 5 true (.tmp 23)), false, none⟩,
  ⟨some 25, (.bin .neq (.cells [.int, .int, .int, .bool, .bool]) (.tmp 20) (.tmp 24)), true, none⟩]
def c55_15 : ACode := (.seq (.mixed o55_14 [true, true, true, true, true, true, true, true, true] [0, 1, 5, 25]) (.cond (.tmp 25) c55_13 .skip))
def w55_15 (P : Program) (Q : Exit → Slots → Mem → Prop) (M : Mem) (v0 : V) (v1 : V) (v5 : V) : Prop :=
  @OptVH (indexSlV 5 v0 v5 M) ⟨fun t19_3 =>
  @OptVH (loadV 5 true t19_3 M) ⟨fun t20_4 =>
  @OptVH (indexSlV 5 v1 v5 M) ⟨fun t23_7 =>
  @OptVH (loadV 5 true t23_7 M) ⟨fun t24_8 =>
  @OptBH (binV .neq (.cells [.int, .int, .int, .bool, .bool]) t20_4 t24_8) ⟨fun b25_9 =>
  @BIfH b25_9
  ⟨wpC P c55_13 Q [(0, v0), (1, v1), (5, v5), (25, (.bool b25_9))] M⟩
  ⟨Q .normal [(0, v0), (1, v1), (5, v5), (25, (.bool b25_9))] M⟩⟩⟩⟩⟩⟩
theorem e55_15 (P : Program) (Q : Exit → Slots → Mem → Prop) (s : Slots) (M : Mem) : wpC P c55_15 Q s M = w55_15 P Q M (sget s 0) (sget s 1) (sget s 5) := by kernel_rfl
def c55_16 : ACode := (.block 1 c55_15)
def o55_17 : List AOper := [⟨some 15, (.mov (.tmp 5)), false, none⟩,
  ⟨some 16, (.bin .add .none (.tmp 15) (.const (.int .i64 1))), false, none⟩,
  ⟨some 5, (.mov (.tmp 16)), false, none⟩]
def c55_18 : ACode := (.region o55_17 [0, 1, 5])
def w55_18 (_P : Program) (Q : Exit → Slots → Mem → Prop) (M : Mem) (v0 : V) (v1 : V) (v5 : V) : Prop :=
  @OptVH (binV .add .none v5 (.int .i64 1)) ⟨fun t16_2 =>
  Q .normal [(0, v0), (1, v1), (5, t16_2)] M⟩
theorem e55_18 (P : Program) (Q : Exit → Slots → Mem → Prop) (s : Slots) (M : Mem) : wpC P c55_18 Q s M = w55_18 P Q M (sget s 0) (sget s 1) (sget s 5) := by kernel_rfl
def c55_19 : ACode := (.seq c55_16 c55_18)
def c55_20 : ACode := (.seq c55_10 c55_19)
def c55_21 : ACode := (.loop [0, 1, 5] c55_20)
def c55_22 : ACode := (.block 0 c55_21)
def c55_23 : ACode := (.seq c55_8 c55_22)
def o55_24 : List AOper := [⟨some 4, (.mov (.const (.bool true))), true, none⟩]
def c55_25 : ACode := (.region o55_24 [4])
def w55_25 (_P : Program) (Q : Exit → Slots → Mem → Prop) (M : Mem) : Prop :=
  Q .normal [(4, (.bool true))] M
theorem e55_25 (P : Program) (Q : Exit → Slots → Mem → Prop) (s : Slots) (M : Mem) : wpC P c55_25 Q s M = w55_25 P Q M := by kernel_rfl
def c55_26 : ACode := (.seq c55_25 .ret)
def c55_27 : ACode := (.seq c55_23 c55_26)
def c55_28 : ACode := (.seq c55_6 c55_27)
def c55_29 : ACode := (.seq c55_1 c55_28)
def fn_transitref16_Equal : AFn := ⟨26, [(.tmp 4)], c55_29⟩
theorem fn_transitref16_Equal_ok : resFn PR h_transitref16_Equal i_transitref16_Equal = some fn_transitref16_Equal := by kernel_rfl

def h_message_within : Hints := ⟨[(0, [0, 1, 2]), (1, [6])], [], []⟩
def o60_0 : List AOper := [⟨some 6, (.mov (.const (.bool false))), true, none⟩]
def c60_1 : ACode := (.region o60_0 [0, 1, 2])
def w60_1 (_P : Program) (Q : Exit → Slots → Mem → Prop) (M : Mem) (v0 : V) (v1 : V) (v2 : V) : Prop :=
  Q .normal [(0, v0), (1, v1), (2, v2)] M
theorem e60_1 (P : Program) (Q : Exit → Slots → Mem → Prop) (s : Slots) (M : Mem) : wpC P c60_1 Q s M = w60_1 P Q M (sget s 0) (sget s 1) (sget s 2) := by kernel_rfl
def o60_2 : List AOper := [⟨some 7, (.mov (.tmp 0)), false, none⟩,
  ⟨some 8, (.mov (.tmp 1)), false, none⟩,
  ⟨some 9, (.bin .geq .none (.tmp 7) (.tmp 8)), true, none⟩,
  ⟨some 10, (.mov (.tmp 9)), true, none⟩,
  ⟨some 11, (.mov (.tmp 0)), false, some (10, true)⟩,
  ⟨some 12, (.mov (.tmp 2)), false, some (10, true)⟩,
  ⟨some 13, (.bin .leq .none (.tmp 11) (.tmp 12)), true, some (10, true)⟩,
  ⟨some 14, (.pick (.tmp 10) (.tmp 13) (.const (.bool false))), true, none⟩,
  ⟨some 6, (.mov (.tmp 14)), true, none⟩]
def c60_3 : ACode := (.region o60_2 [6])
def w60_3 (_P : Program) (Q : Exit → Slots → Mem → Prop) (M : Mem) (v0 : V) (v1 : V) (v2 : V) : Prop :=
  @OptBH (binV .geq .none v0 v1) ⟨fun b9_3 =>
  @BIfH b9_3
  ⟨@OptBH (binV .leq .none v0 v2) ⟨fun b13_7 =>
  Q .normal [(6, (.bool b13_7))] M⟩⟩
  ⟨Q .normal [(6, (.bool false))] M⟩⟩
theorem e60_3 (P : Program) (Q : Exit → Slots → Mem → Prop) (s : Slots) (M : Mem) : wpC P c60_3 Q s M = w60_3 P Q M (sget s 0) (sget s 1) (sget s 2) := by kernel_rfl
def c60_4 : ACode := (.seq c60_3 .ret)
def c60_5 : ACode := (.seq c60_1 c60_4)
def fn_message_within : AFn := ⟨15, [(.tmp 6)], c60_5⟩
theorem fn_message_within_ok : resFn PR h_message_within i_message_within = some fn_message_within := by kernel_rfl

def h_ident_Valid : Hints := ⟨[(0, [0]), (1, [0, 3]), (2, [0, 3, 8]), (3, [0, 3]), (4, [0, 3, 4]), (5, [2]), (6, [0, 3, 4, 14]), (7, [0, 3, 4, 14]), (8, [0, 3, 4, 14]), (9, [0, 3, 4, 33]), (10, [0, 3, 4, 33]), (11, [0, 3, 33]), (12, [2])], [(2, [0, 3])], []⟩
def o61_0 : List AOper := [⟨some 2, (.mov (.const (.bool false))), true, none⟩]
def c61_1 : ACode := (.region o61_0 [0])
def w61_1 (_P : Program) (Q : Exit → Slots → Mem → Prop) (M : Mem) (v0 : V) : Prop :=
  Q .normal [(0, v0)] M
theorem e61_1 (P : Program) (Q : Exit → Slots → Mem → Prop) (s : Slots) (M : Mem) : wpC P c61_1 Q s M = w61_1 P Q M (sget s 0) := by kernel_rfl
def o61_2 : List AOper := [⟨some 3, (.mov (.const (.int .i64 0))), false, none⟩]
def c61_3 : ACode := (.region o61_2 [0, 3])
def w61_3 (_P : Program) (Q : Exit → Slots → Mem → Prop) (M : Mem) (v0 : V) : Prop :=
  Q .normal [(0, v0), (3, (.int .i64 0))] M
theorem e61_3 (P : Program) (Q : Exit → Slots → Mem → Prop) (s : Slots) (M : Mem) : wpC P c61_3 Q s M = w61_3 P Q M (sget s 0) := by kernel_rfl
def o61_4 : List AOper := [⟨some 5, (.mov (.tmp 3)), false, none⟩,
  ⟨some 6, (.mov (.tmp 0)), false, none⟩,
  ⟨some 7, (.lenStr (.tmp 6)), false, none⟩,
  ⟨some 8, (.bin .lss .none (.tmp 5) (.tmp 7)), true, none⟩]
def c61_5 : ACode := (.seq (.region o61_4 [0, 3, 8]) (.cond (.tmp 8) .skip (.exit 0)))
def w61_5 (_P : Program) (Q : Exit → Slots → Mem → Prop) (M : Mem) (v0 : V) (v3 : V) : Prop :=
  @OptVH (lenStrV v0) ⟨fun t7_3 =>
  @OptBH (binV .lss .none v3 t7_3) ⟨fun b8_4 =>
  @BIfH b8_4
  ⟨Q .normal [(0, v0), (3, v3), (8, (.bool b8_4))] M⟩
  ⟨Q (.exit 0) [(0, v0), (3, v3), (8, (.bool b8_4))] M⟩⟩⟩
theorem e61_5 (P : Program) (Q : Exit → Slots → Mem → Prop) (s : Slots) (M : Mem) : wpC P c61_5 Q s M = w61_5 P Q M (sget s 0) (sget s 3) := by kernel_rfl
def o61_6 : List AOper := [⟨some 11, (.mov (.tmp 0)), false, none⟩,
  ⟨some 12, (.mov (.tmp 3)), false, none⟩,
  ⟨some 13, (.indexStr (.tmp 11) (.tmp 12)), false, none⟩,
  ⟨some 4, (.mov (.tmp 13)), false, none⟩]
def c61_7 : ACode := (.region o61_6 [0, 3, 4])
def w61_7 (_P : Program) (Q : Exit → Slots → Mem → Prop) (M : Mem) (v0 : V) (v3 : V) : Prop :=
  @OptVH (indexStrV v0 v3) ⟨fun t13_3 =>
  Q .normal [(0, v0), (3, v3), (4, t13_3)] M⟩
theorem e61_7 (P : Program) (Q : Exit → Slots → Mem → Prop) (s : Slots) (M : Mem) : wpC P c61_7 Q s M = w61_7 P Q M (sget s 0) (sget s 3) := by kernel_rfl
def o61_8 : List AOper := [⟨some 27, (.mov (.tmp 4)), false, none⟩,
  ⟨some 28, (.bin .leq .none (.const (.int .u8 48)) (.tmp 27)), true, none⟩,
  ⟨some 29, (.mov (.tmp 28)), true, none⟩,
  ⟨some 30, (.mov (.tmp 4)), false, some (29, true)⟩,
  ⟨some 31, (.bin .leq .none (.tmp 30) (.const (.int .u8 57))), true, some (29, true)⟩,
  ⟨some 32, (.pick (.tmp 29) (.tmp 31) (.const (.bool false))), true, none⟩,
  ⟨some 14, (.mov (.tmp 32)), true, none⟩]
def c61_9 : ACode := (.region o61_8 [0, 3, 4, 14])
def w61_9 (_P : Program) (Q : Exit → Slots → Mem → Prop) (M : Mem) (v0 : V) (v3 : V) (v4 : V) : Prop :=
  @OptBH (binV .leq .none (.int .u8 48) v4) ⟨fun b28_2 =>
  @BIfH b28_2
  ⟨@OptBH (binV .leq .none v4 (.int .u8 57)) ⟨fun b31_5 =>
  Q .normal [(0, v0), (3, v3), (4, v4), (14, (.bool b31_5))] M⟩⟩
  ⟨Q .normal [(0, v0), (3, v3), (4, v4), (14, (.bool false))] M⟩⟩
theorem e61_9 (P : Program) (Q : Exit → Slots → Mem → Prop) (s : Slots) (M : Mem) : wpC P c61_9 Q s M = w61_9 P Q M (sget s 0) (sget s 3) (sget s 4) := by kernel_rfl
def o61_10 : List AOper := [⟨some 21, (.mov (.tmp 4)), false, none⟩,
  ⟨some 22, (.bin .leq .none (.const (.int .u8 65)) (.tmp 21)), true, none⟩,
  ⟨some 23, (.mov (.tmp 22)), true, none⟩,
  ⟨some 24, (.mov (.tmp 4)), false, some (23, true)⟩,
  ⟨some 25, (.bin .leq .none (.tmp 24) (.const (.int .u8 90))), true, some (23, true)⟩,
  ⟨some 26, (.pick (.tmp 23) (.tmp 25) (.const (.bool false))), true, none⟩,
  ⟨some 14, (.mov (.tmp 26)), true, none⟩]
def c61_11 : ACode := (.seq (.region o61_10 [0, 3, 4, 14]) (.cond (.tmp 14) .skip c61_9))
def w61_11 (P : Program) (Q : Exit → Slots → Mem → Prop) (M : Mem) (v0 : V) (v3 : V) (v4 : V) : Prop :=
  @OptBH (binV .leq .none (.int .u8 65) v4) ⟨fun b22_2 =>
  @BIfH b22_2
  ⟨@OptBH (binV .leq .none v4 (.int .u8 90)) ⟨fun b25_5 =>
  @BIfH b25_5
  ⟨Q .normal [(0, v0), (3, v3), (4, v4), (14, (.bool b25_5))] M⟩
  ⟨wpC P c61_9 Q [(0, v0), (3, v3), (4, v4), (14, (.bool b25_5))] M⟩⟩⟩
  ⟨wpC P c61_9 Q [(0, v0), (3, v3), (4, v4), (14, (.bool false))] M⟩⟩
theorem e61_11 (P : Program) (Q : Exit → Slots → Mem → Prop) (s : Slots) (M : Mem) : wpC P c61_11 Q s M = w61_11 P Q M (sget s 0) (sget s 3) (sget s 4) := by kernel_rfl
def o61_12 : List AOper := [⟨some 15, (.mov (.tmp 4)), false, none⟩,
  ⟨some 16, (.bin .leq .none (.const (.int .u8 97)) (.tmp 15)), true, none⟩,
  ⟨some 17, (.mov (.tmp 16)), true, none⟩,
  ⟨some 18, (.mov (.tmp 4)), false, some (17, true)⟩,
  ⟨some 19, (.bin .leq .none (.tmp 18) (.const (.int .u8 122))), true, some (17, true)⟩,
  ⟨some 20, (.pick (.tmp 17) (.tmp 19) (.const (.bool false))), true, none⟩,
  ⟨some 14, (.mov (.tmp 20)), true, none⟩]
def c61_13 : ACode := (.seq (.region o61_12 [0, 3, 4, 14]) (.cond (.tmp 14) .skip c61_11))
def w61_13 (P : Program) (Q : Exit → Slots → Mem → Prop) (M : Mem) (v0 : V) (v3 : V) (v4 : V) : Prop :=
  @OptBH (binV .leq .none (.int .u8 97) v4) ⟨fun b16_2 =>
  @BIfH b16_2
  ⟨@OptBH (binV .leq .none v4 (.int .u8 122)) ⟨fun b19_5 =>
  @BIfH b19_5
  ⟨Q .normal [(0, v0), (3, v3), (4, v4), (14, (.bool b19_5))] M⟩
  ⟨wpC P c61_11 Q [(0, v0), (3, v3), (4, v4), (14, (.bool b19_5))] M⟩⟩⟩
  ⟨wpC P c61_11 Q [(0, v0), (3, v3), (4, v4), (14, (.bool false))] M⟩⟩
theorem e61_13 (P : Program) (Q : Exit → Slots → Mem → Prop) (s : Slots) (M : Mem) : wpC P c61_13 Q s M = w61_13 P Q M (sget s 0) (sget s 3) (sget s 4) := by kernel_rfl
def o61_14 : List AOper := [⟨some 38, (.mov (.tmp 4)), false, none⟩,
  ⟨some 39, (.bin .eql .none (.tmp 38) (.const (.int .u8 46))), true, none⟩,
  ⟨some 33, (.mov (.tmp 39)), true, none⟩]
def c61_15 : ACode := (.region o61_14 [0, 3, 33])
def w61_15 (_P : Program) (Q : Exit → Slots → Mem → Prop) (M : Mem) (v0 : V) (v3 : V) (v4 : V) : Prop :=
  @OptBH (binV .eql .none v4 (.int .u8 46)) ⟨fun b39_2 =>
  Q .normal [(0, v0), (3, v3), (33, (.bool b39_2))] M⟩
theorem e61_15 (P : Program) (Q : Exit → Slots → Mem → Prop) (s : Slots) (M : Mem) : wpC P c61_15 Q s M = w61_15 P Q M (sget s 0) (sget s 3) (sget s 4) := by kernel_rfl
def o61_16 : List AOper := [⟨some 36, (.mov (.tmp 4)), false, none⟩,
  ⟨some 37, (.bin .eql .none (.tmp 36) (.const (.int .u8 95))), true, none⟩,
  ⟨some 33, (.mov (.tmp 37)), true, none⟩]
def c61_17 : ACode := (.seq (.region o61_16 [0, 3, 4, 33]) (.cond (.tmp 33) .skip c61_15))
def w61_17 (P : Program) (Q : Exit → Slots → Mem → Prop) (M : Mem) (v0 : V) (v3 : V) (v4 : V) : Prop :=
  @OptBH (binV .eql .none v4 (.int .u8 95)) ⟨fun b37_2 =>
  @BIfH b37_2
  ⟨Q .normal [(0, v0), (3, v3), (4, v4), (33, (.bool b37_2))] M⟩
  ⟨wpC P c61_15 Q [(0, v0), (3, v3), (4, v4), (33, (.bool b37_2))] M⟩⟩
theorem e61_17 (P : Program) (Q : Exit → Slots → Mem → Prop) (s : Slots) (M : Mem) : wpC P c61_17 Q s M = w61_17 P Q M (sget s 0) (sget s 3) (sget s 4) := by kernel_rfl
def o61_18 : List AOper := [⟨some 34, (.mov (.tmp 4)), false, none⟩,
  ⟨some 35, (.bin .eql .none (.tmp 34) (.const (.int .u8 45))), true, none⟩,
  ⟨some 33, (.mov (.tmp 35)), true, none⟩]
def c61_19 : ACode := (.seq (.region o61_18 [0, 3, 4, 33]) (.cond (.tmp 33) .skip c61_17))
def w61_19 (P : Program) (Q : Exit → Slots → Mem → Prop) (M : Mem) (v0 : V) (v3 : V) (v4 : V) : Prop :=
  @OptBH (binV .eql .none v4 (.int .u8 45)) ⟨fun b35_2 =>
  @BIfH b35_2
  ⟨Q .normal [(0, v0), (3, v3), (4, v4), (33, (.bool b35_2))] M⟩
  ⟨wpC P c61_17 Q [(0, v0), (3, v3), (4, v4), (33, (.bool b35_2))] M⟩⟩
theorem e61_19 (P : Program) (Q : Exit → Slots → Mem → Prop) (s : Slots) (M : Mem) : wpC P c61_19 Q s M = w61_19 P Q M (sget s 0) (sget s 3) (sget s 4) := by kernel_rfl
def o61_20 : List AOper := [⟨some 2, (.mov (.const (.bool false))), true, none⟩]
def c61_21 : ACode := (.region o61_20 [2])
def w61_21 (_P : Program) (Q : Exit → Slots → Mem → Prop) (M : Mem) : Prop :=
  Q .normal [(2, (.bool false))] M
theorem e61_21 (P : Program) (Q : Exit → Slots → Mem → Prop) (s : Slots) (M : Mem) : wpC P c61_21 Q s M = w61_21 P Q M := by kernel_rfl
def c61_22 : ACode := (.seq c61_21 .ret)
def c61_23 : ACode := (.cond (.tmp 33) .skip c61_22)
def c61_24 : ACode := (.seq c61_19 c61_23)
def c61_25 : ACode := (.cond (.tmp 14) .skip c61_24)
def c61_26 : ACode := (.seq c61_13 c61_25)
def c61_27 : ACode := (.block 2 c61_26)
def c61_28 : ACode := (.seq c61_7 c61_27)
def c61_29 : ACode := (.block 1 c61_28)
def o61_30 : List AOper := [⟨some 9, (.mov (.tmp 3)), false, none⟩,
  ⟨some 10, (.bin .add .none (.tmp 9) (.const (.int .i64 1))), false, none⟩,
  ⟨some 3, (.mov (.tmp 10)), false, none⟩]
def c61_31 : ACode := (.region o61_30 [0, 3])
def w61_31 (_P : Program) (Q : Exit → Slots → Mem → Prop) (M : Mem) (v0 : V) (v3 : V) : Prop :=
  @OptVH (binV .add .none v3 (.int .i64 1)) ⟨fun t10_2 =>
  Q .normal [(0, v0), (3, t10_2)] M⟩
theorem e61_31 (P : Program) (Q : Exit → Slots → Mem → Prop) (s : Slots) (M : Mem) : wpC P c61_31 Q s M = w61_31 P Q M (sget s 0) (sget s 3) := by kernel_rfl
def c61_32 : ACode := (.seq c61_29 c61_31)
def c61_33 : ACode := (.seq c61_5 c61_32)
def c61_34 : ACode := (.loop [0, 3] c61_33)
def c61_35 : ACode := (.block 0 c61_34)
def c61_36 : ACode := (.seq c61_3 c61_35)
def o61_37 : List AOper := [⟨some 40, (.mov (.tmp 0)), false, none⟩,
  ⟨some 41, (.lenStr (.tmp 40)), false, none⟩,
  ⟨some 42, (.bin .gtr .none (.tmp 41) (.const (.int .i64 0))), true, none⟩,
  ⟨some 43, (.mov (.tmp 42)), true, none⟩,
  ⟨some 44, (.mov (.tmp 0)), false, some (43, true)⟩,
  ⟨some 45, (.lenStr (.tmp 44)), false, some (43, true)⟩,
  ⟨some 46, (.bin .leq .none (.tmp 45) (.const (.int .i64 32))), true, some (43, true)⟩,
  ⟨some 47, (.pick (.tmp 43) (.tmp 46) (.const (.bool false))), true, none⟩,
  ⟨some 2, (.mov (.tmp 47)), true, none⟩]
def c61_38 : ACode := (.region o61_37 [2])
def w61_38 (_P : Program) (Q : Exit → Slots → Mem → Prop) (M : Mem) (v0 : V) : Prop :=
  @OptVH (lenStrV v0) ⟨fun t41_2 =>
  @OptBH (binV .gtr .none t41_2 (.int .i64 0)) ⟨fun b42_3 =>
  @BIfH b42_3
  ⟨@OptVH (lenStrV v0) ⟨fun t45_6 =>
  @OptBH (binV .leq .none t45_6 (.int .i64 32)) ⟨fun b46_7 =>
  Q .normal [(2, (.bool b46_7))] M⟩⟩⟩
  ⟨Q .normal [(2, (.bool false))] M⟩⟩⟩
theorem e61_38 (P : Program) (Q : Exit → Slots → Mem → Prop) (s : Slots) (M : Mem) : wpC P c61_38 Q s M = w61_38 P Q M (sget s 0) := by kernel_rfl
def c61_39 : ACode := (.seq c61_38 .ret)
def c61_40 : ACode := (.seq c61_36 c61_39)
def c61_41 : ACode := (.seq c61_1 c61_40)
def fn_ident_Valid : AFn := ⟨48, [(.tmp 2)], c61_41⟩
theorem fn_ident_Valid_ok : resFn PR h_ident_Valid i_ident_Valid = some fn_ident_Valid := by kernel_rfl

def h_date_Valid : Hints := ⟨[(0, [0]), (1, [2])], [], []⟩
def o62_0 : List AOper := [⟨some 2, (.mov (.const (.bool false))), true, none⟩]
def c62_1 : ACode := (.region o62_0 [0])
def w62_1 (_P : Program) (Q : Exit → Slots → Mem → Prop) (M : Mem) (v0 : V) : Prop :=
  Q .normal [(0, v0)] M
theorem e62_1 (P : Program) (Q : Exit → Slots → Mem → Prop) (s : Slots) (M : Mem) : wpC P c62_1 Q s M = w62_1 P Q M (sget s 0) := by kernel_rfl
def o62_2 : List AOper := [⟨some 3, (.mov (.tmp 0)), false, none⟩,
  ⟨some 4, (.bin .leq .none (.const (.int .i64 0)) (.tmp 3)), true, none⟩,
  ⟨some 5, (.mov (.tmp 4)), true, none⟩,
  ⟨some 6, (.mov (.tmp 0)), false, some (5, true)⟩,
  ⟨some 7, (.bin .leq .none (.tmp 6) (.const (.int .i64 36524))), true, some (5, true)⟩,
  ⟨some 8, (.pick (.tmp 5) (.tmp 7) (.const (.bool false))), true, none⟩,
  ⟨some 2, (.mov (.tmp 8)), true, none⟩]
def c62_3 : ACode := (.region o62_2 [2])
def w62_3 (_P : Program) (Q : Exit → Slots → Mem → Prop) (M : Mem) (v0 : V) : Prop :=
  @OptBH (binV .leq .none (.int .i64 0) v0) ⟨fun b4_2 =>
  @BIfH b4_2
  ⟨@OptBH (binV .leq .none v0 (.int .i64 36524)) ⟨fun b7_5 =>
  Q .normal [(2, (.bool b7_5))] M⟩⟩
  ⟨Q .normal [(2, (.bool false))] M⟩⟩
theorem e62_3 (P : Program) (Q : Exit → Slots → Mem → Prop) (s : Slots) (M : Mem) : wpC P c62_3 Q s M = w62_3 P Q M (sget s 0) := by kernel_rfl
def c62_4 : ACode := (.seq c62_3 .ret)
def c62_5 : ACode := (.seq c62_1 c62_4)
def fn_date_Valid : AFn := ⟨9, [(.tmp 2)], c62_5⟩
theorem fn_date_Valid_ok : resFn PR h_date_Valid i_date_Valid = some fn_date_Valid := by kernel_rfl

def h_message_checkKind : Hints := ⟨[(0, [2, 3]), (1, [2, 3, 34]), (2, [4]), (3, [2, 3, 36]), (4, [2, 3, 6]), (5, [2, 3, 6, 44]), (6, [4]), (7, [93]), (8, [4]), (9, [4])], [], []⟩
def o63_0 : List AOper := [⟨some 2, (.box 13 (.tmp 0)), false, none⟩,
  ⟨some 3, (.box 5 (.tmp 1)), false, none⟩,
  ⟨some 4, (.mov (.const (.int .i64 0))), false, none⟩]
def c63_1 : ACode := (.region o63_0 [2, 3])
def w63_1 (_P : Program) (Q : Exit → Slots → Mem → Prop) (M : Mem) (v0 : V) (v1 : V) : Prop :=
  @OptMH (boxV 13 v0 M) ⟨fun t2_1 M1 =>
  @OptMH (boxV 5 v1 M1) ⟨fun t3_2 M2 =>
  Q .normal [(2, t2_1), (3, t3_2)] M2⟩⟩
theorem e63_1 (P : Program) (Q : Exit → Slots → Mem → Prop) (s : Slots) (M : Mem) : wpC P c63_1 Q s M = w63_1 P Q M (sget s 0) (sget s 1) := by kernel_rfl
def o63_2 : List AOper := [⟨some 4, (.mov (.const (.int .i64 2))), false, none⟩]
def c63_3 : ACode := (.region o63_2 [4])
def w63_3 (_P : Program) (Q : Exit → Slots → Mem → Prop) (M : Mem) : Prop :=
  Q .normal [(4, (.int .i64 2))] M
theorem e63_3 (P : Program) (Q : Exit → Slots → Mem → Prop) (s : Slots) (M : Mem) : wpC P c63_3 Q s M = w63_3 P Q M := by kernel_rfl
def c63_4 : ACode := (.seq c63_3 .ret)
def o63_5 : List AOper := [⟨some 7, (.fieldAddr 0 (.tmp 3)), false, none⟩,
  ⟨some 8, (.load 1 false (.tmp 7)), true, none⟩,
  ⟨some 9, (.mov (.tmp 8)), true, none⟩,
  ⟨some 10, (.fieldAddr 8 (.tmp 2)), false, some (9, true)⟩,
  ⟨some 11, (.load 1 false (.tmp 10)), false, some (9, true)⟩,
  ⟨some 12, (.call i_message_within [(.tmp 11), (.const (.int .i64 0)), (.const (.int .i64 31))]), true, some (9, true)⟩,
  ⟨some 13, (.un .not (.tmp 12)), true, some (9, true)⟩,
  ⟨some 14, (.pick (.tmp 9) (.tmp 13) (.const (.bool false))), true, none⟩,
  ⟨some 15, (.mov (.tmp 14)), true, none⟩,
  ⟨some 16, (.fieldAddr 1 (.tmp 3)), false, some (15, false)⟩,
  ⟨some 17, (.load 1 false (.tmp 16)), true, some (15, false)⟩,
  ⟨some 18, (.mov (.tmp 17)), true, some (15, false)⟩,
  ⟨some 19, (.fieldAddr 9 (.tmp 2)), false, some (18, true)⟩,
  ⟨some 20, (.load 1 false (.tmp 19)), false, some (18, true)⟩,
  ⟨some 21, (.call i_message_within [(.tmp 20), (.const (.int .i64 (-43200))), (.const (.int .i64 43200))]), true, some (18, true)⟩,
  ⟨some 22, (.un .not (.tmp 21)), true, some (18, true)⟩,
  ⟨some 23, (.pick (.tmp 18) (.tmp 22) (.const (.bool false))), true, some (15, false)⟩,
  ⟨some 24, (.pick (.tmp 15) (.const (.bool true)) (.tmp 23)), true, none⟩,
  ⟨some 25, (.mov (.tmp 24)), true, none⟩,
  ⟨some 26, (.fieldAddr 2 (.tmp 3)), false, some (25, false)⟩,
  ⟨some 27, (.load 1 false (.tmp 26)), true, some (25, false)⟩,
  ⟨some 28, (.mov (.tmp 27)), true, some (25, false)⟩,
  ⟨some 29, (.fieldAddr 10 (.tmp 2)), false, some (28, true)⟩,
  ⟨some 30, (.load 1 false (.tmp 29)), false, some (28, true)⟩,
  ⟨some 31, (.call i_message_within [(.tmp 30), (.const (.int .i64 0)), (.const (.int .i64 63))]), true, some (28, true)⟩,
  ⟨some 32, (.un .not (.tmp 31)), true, some (28, true)⟩,
  ⟨some 33, (.pick (.tmp 28) (.tmp 32) (.const (.bool false))), true, some (25, false)⟩,
  ⟨some 34, (.pick (.tmp 25) (.const (.bool true)) (.tmp 33)), true, none⟩]
def c63_6 : ACode := (.seq (.region o63_5 [2, 3, 34]) (.cond (.tmp 34) c63_4 .skip))
def w63_6 (P : Program) (Q : Exit → Slots → Mem → Prop) (M : Mem) (v2 : V) (v3 : V) : Prop :=
  @OptVH (moveV 0 v3) ⟨fun t7_1 =>
  @OptBH (loadV 1 false t7_1 M) ⟨fun b8_2 =>
  @BIfH b8_2
  ⟨@OptVH (moveV 8 v2) ⟨fun t10_4 =>
  @OptVH (loadV 1 false t10_4 M) ⟨fun t11_5 =>
  @CallH P i_message_within [t11_5, (.int .i64 0), (.int .i64 31)] M ⟨fun t12_6 M6 => @OptBH (some t12_6) ⟨fun b12_6 =>
  @OptBH (unV .not (.bool b12_6)) ⟨fun b13_7 =>
  @BIfH b13_7
  ⟨wpC P c63_4 Q [(2, v2), (3, v3), (34, (.bool true))] M6⟩
  ⟨@OptVH (moveV 1 v3) ⟨fun t16_13 =>
  @OptBH (loadV 1 false t16_13 M6) ⟨fun b17_14 =>
  @BIfH b17_14
  ⟨@OptVH (moveV 9 v2) ⟨fun t19_16 =>
  @OptVH (loadV 1 false t19_16 M6) ⟨fun t20_17 =>
  @CallH P i_message_within [t20_17, (.int .i64 (-43200)), (.int .i64 43200)] M6 ⟨fun t21_18 M18 => @OptBH (some t21_18) ⟨fun b21_18 =>
  @OptBH (unV .not (.bool b21_18)) ⟨fun b22_19 =>
  @BIfH b22_19
  ⟨wpC P c63_4 Q [(2, v2), (3, v3), (34, (.bool true))] M18⟩
  ⟨@OptVH (moveV 2 v3) ⟨fun t26_24 =>
  @OptBH (loadV 1 false t26_24 M18) ⟨fun b27_25 =>
  @BIfH b27_25
  ⟨@OptVH (moveV 10 v2) ⟨fun t29_27 =>
  @OptVH (loadV 1 false t29_27 M18) ⟨fun t30_28 =>
  @CallH P i_message_within [t30_28, (.int .i64 0), (.int .i64 63)] M18 ⟨fun t31_29 M29 => @OptBH (some t31_29) ⟨fun b31_29 =>
  @OptBH (unV .not (.bool b31_29)) ⟨fun b32_30 =>
  @BIfH b32_30
  ⟨wpC P c63_4 Q [(2, v2), (3, v3), (34, (.bool b32_30))] M29⟩
  ⟨Q .normal [(2, v2), (3, v3), (34, (.bool b32_30))] M29⟩⟩⟩⟩⟩⟩⟩
  ⟨Q .normal [(2, v2), (3, v3), (34, (.bool false))] M18⟩⟩⟩⟩⟩⟩⟩⟩⟩⟩
  ⟨@OptVH (moveV 2 v3) ⟨fun t26_38 =>
  @OptBH (loadV 1 false t26_38 M6) ⟨fun b27_39 =>
  @BIfH b27_39
  ⟨@OptVH (moveV 10 v2) ⟨fun t29_41 =>
  @OptVH (loadV 1 false t29_41 M6) ⟨fun t30_42 =>
  @CallH P i_message_within [t30_42, (.int .i64 0), (.int .i64 63)] M6 ⟨fun t31_43 M43 => @OptBH (some t31_43) ⟨fun b31_43 =>
  @OptBH (unV .not (.bool b31_43)) ⟨fun b32_44 =>
  @BIfH b32_44
  ⟨wpC P c63_4 Q [(2, v2), (3, v3), (34, (.bool b32_44))] M43⟩
  ⟨Q .normal [(2, v2), (3, v3), (34, (.bool b32_44))] M43⟩⟩⟩⟩⟩⟩⟩
  ⟨Q .normal [(2, v2), (3, v3), (34, (.bool false))] M6⟩⟩⟩⟩⟩⟩⟩⟩⟩⟩⟩⟩⟩
  ⟨@OptVH (moveV 1 v3) ⟨fun t16_51 =>
  @OptBH (loadV 1 false t16_51 M) ⟨fun b17_52 =>
  @BIfH b17_52
  ⟨@OptVH (moveV 9 v2) ⟨fun t19_54 =>
  @OptVH (loadV 1 false t19_54 M) ⟨fun t20_55 =>
  @CallH P i_message_within [t20_55, (.int .i64 (-43200)), (.int .i64 43200)] M ⟨fun t21_56 M56 => @OptBH (some t21_56) ⟨fun b21_56 =>
  @OptBH (unV .not (.bool b21_56)) ⟨fun b22_57 =>
  @BIfH b22_57
  ⟨wpC P c63_4 Q [(2, v2), (3, v3), (34, (.bool true))] M56⟩
  ⟨@OptVH (moveV 2 v3) ⟨fun t26_62 =>
  @OptBH (loadV 1 false t26_62 M56) ⟨fun b27_63 =>
  @BIfH b27_63
  ⟨@OptVH (moveV 10 v2) ⟨fun t29_65 =>
  @OptVH (loadV 1 false t29_65 M56) ⟨fun t30_66 =>
  @CallH P i_message_within [t30_66, (.int .i64 0), (.int .i64 63)] M56 ⟨fun t31_67 M67 => @OptBH (some t31_67) ⟨fun b31_67 =>
  @OptBH (unV .not (.bool b31_67)) ⟨fun b32_68 =>
  @BIfH b32_68
  ⟨wpC P c63_4 Q [(2, v2), (3, v3), (34, (.bool b32_68))] M67⟩
  ⟨Q .normal [(2, v2), (3, v3), (34, (.bool b32_68))] M67⟩⟩⟩⟩⟩⟩⟩
  ⟨Q .normal [(2, v2), (3, v3), (34, (.bool false))] M56⟩⟩⟩⟩⟩⟩⟩⟩⟩⟩
  ⟨@OptVH (moveV 2 v3) ⟨fun t26_76 =>
  @OptBH (loadV 1 false t26_76 M) ⟨fun b27_77 =>
  @BIfH b27_77
  ⟨@OptVH (moveV 10 v2) ⟨fun t29_79 =>
  @OptVH (loadV 1 false t29_79 M) ⟨fun t30_80 =>
  @CallH P i_message_within [t30_80, (.int .i64 0), (.int .i64 63)] M ⟨fun t31_81 M81 => @OptBH (some t31_81) ⟨fun b31_81 =>
  @OptBH (unV .not (.bool b31_81)) ⟨fun b32_82 =>
  @BIfH b32_82
  ⟨wpC P c63_4 Q [(2, v2), (3, v3), (34, (.bool b32_82))] M81⟩
  ⟨Q .normal [(2, v2), (3, v3), (34, (.bool b32_82))] M81⟩⟩⟩⟩⟩⟩⟩
  ⟨Q .normal [(2, v2), (3, v3), (34, (.bool false))] M⟩⟩⟩⟩⟩⟩⟩⟩⟩
theorem e63_6 (P : Program) (Q : Exit → Slots → Mem → Prop) (s : Slots) (M : Mem) : wpC P c63_6 Q s M = w63_6 P Q M (sget s 2) (sget s 3) := by kernel_rfl
def o63_7 : List AOper := [⟨some 38, (.fieldAddr 12 (.tmp 2)), false, none⟩,
  ⟨some 39, (.load 1 false (.tmp 38)), false, none⟩,
  ⟨some 40, (.call i_call_Check [(.tmp 39), (.const (.int .i64 64)), (.const (.int .i64 0)), (.const (.int .i64 3155932800))]), false, none⟩,
  ⟨some 37, (.mov (.tmp 40)), false, none⟩,
  ⟨some 41, (.extract (.tmp 37) 0), false, none⟩,
  ⟨some 42, (.extract (.tmp 37) 1), false, none⟩,
  ⟨some 5, (.mov (.tmp 41)), false, none⟩,
  ⟨some 6, (.mov (.tmp 42)), false, none⟩]
def c63_8 : ACode := (.region o63_7 [2, 3, 6])
def w63_8 (P : Program) (Q : Exit → Slots → Mem → Prop) (M : Mem) (v2 : V) (v3 : V) : Prop :=
  @OptVH (moveV 12 v2) ⟨fun t38_1 =>
  @OptVH (loadV 1 false t38_1 M) ⟨fun t39_2 =>
  @CallH P i_call_Check [t39_2, (.int .i64 64), (.int .i64 0), (.int .i64 3155932800)] M ⟨fun t40_3 M3 =>
  @OptVH (extractV t40_3 0) ⟨fun _t41_5 =>
  @OptVH (extractV t40_3 1) ⟨fun t42_6 =>
  Q .normal [(2, v2), (3, v3), (6, t42_6)] M3⟩⟩⟩⟩⟩
theorem e63_8 (P : Program) (Q : Exit → Slots → Mem → Prop) (s : Slots) (M : Mem) : wpC P c63_8 Q s M = w63_8 P Q M (sget s 2) (sget s 3) := by kernel_rfl
def o63_9 : List AOper := [⟨some 45, (.mov (.tmp 6)), false, none⟩,
  ⟨some 4, (.mov (.tmp 45)), false, none⟩]
def c63_10 : ACode := (.region o63_9 [4])
def w63_10 (_P : Program) (Q : Exit → Slots → Mem → Prop) (M : Mem) (v6 : V) : Prop :=
  Q .normal [(4, v6)] M
theorem e63_10 (P : Program) (Q : Exit → Slots → Mem → Prop) (s : Slots) (M : Mem) : wpC P c63_10 Q s M = w63_10 P Q M (sget s 6) := by kernel_rfl
def c63_11 : ACode := (.seq c63_10 .ret)
def o63_12 : List AOper := [⟨some 43, (.mov (.tmp 6)), false, none⟩,
  ⟨some 44, (.bin .neq .none (.tmp 43) (.const (.int .i64 0))), true, none⟩]
def c63_13 : ACode := (.seq (.region o63_12 [2, 3, 6, 44]) (.cond (.tmp 44) c63_11 .skip))
def w63_13 (P : Program) (Q : Exit → Slots → Mem → Prop) (M : Mem) (v2 : V) (v3 : V) (v6 : V) : Prop :=
  @OptBH (binV .neq .none v6 (.int .i64 0)) ⟨fun b44_2 =>
  @BIfH b44_2
  ⟨wpC P c63_11 Q [(2, v2), (3, v3), (6, v6), (44, (.bool b44_2))] M⟩
  ⟨Q .normal [(2, v2), (3, v3), (6, v6), (44, (.bool b44_2))] M⟩⟩
theorem e63_13 (P : Program) (Q : Exit → Slots → Mem → Prop) (s : Slots) (M : Mem) : wpC P c63_13 Q s M = w63_13 P Q M (sget s 2) (sget s 3) (sget s 6) := by kernel_rfl
def c63_14 : ACode := (.seq c63_8 c63_13)
def o63_15 : List AOper := [⟨some 35, (.fieldAddr 4 (.tmp 3)), false, none⟩,
  ⟨some 36, (.load 1 false (.tmp 35)), true, none⟩]
def c63_16 : ACode := (.seq (.region o63_15 [2, 3, 36]) (.cond (.tmp 36) c63_14 .skip))
def w63_16 (P : Program) (Q : Exit → Slots → Mem → Prop) (M : Mem) (v2 : V) (v3 : V) : Prop :=
  @OptVH (moveV 4 v3) ⟨fun t35_1 =>
  @OptBH (loadV 1 false t35_1 M) ⟨fun b36_2 =>
  @BIfH b36_2
  ⟨wpC P c63_14 Q [(2, v2), (3, v3), (36, (.bool b36_2))] M⟩
  ⟨Q .normal [(2, v2), (3, v3), (36, (.bool b36_2))] M⟩⟩⟩
theorem e63_16 (P : Program) (Q : Exit → Slots → Mem → Prop) (s : Slots) (M : Mem) : wpC P c63_16 Q s M = w63_16 P Q M (sget s 2) (sget s 3) := by kernel_rfl
def o63_17 : List AOper := [⟨some 4, (.mov (.const (.int .i64 1))), false, none⟩]
def c63_18 : ACode := (.region o63_17 [4])
def w63_18 (_P : Program) (Q : Exit → Slots → Mem → Prop) (M : Mem) : Prop :=
  Q .normal [(4, (.int .i64 1))] M
theorem e63_18 (P : Program) (Q : Exit → Slots → Mem → Prop) (s : Slots) (M : Mem) : wpC P c63_18 Q s M = w63_18 P Q M := by kernel_rfl
def c63_19 : ACode := (.seq c63_18 .ret)
def o63_20 : List AOper := [⟨some 46, (.fieldAddr 0 (.tmp 3)), false, none⟩,
  ⟨some 47, (.load 1 false (.tmp 46)), true, none⟩,
  ⟨some 48, (.un .not (.tmp 47)), true, none⟩,
  ⟨some 49, (.mov (.tmp 48)), true, none⟩,
  ⟨some 50, (.fieldAddr 8 (.tmp 2)), false, some (49, true)⟩,
  ⟨some 51, (.load 1 false (.tmp 50)), false, some (49, true)⟩,
  ⟨some 52, (.bin .neq .none (.tmp 51) (.const (.int .i64 0))), true, some (49, true)⟩,
  ⟨some 53, (.pick (.tmp 49) (.tmp 52) (.const (.bool false))), true, none⟩,
  ⟨some 54, (.mov (.tmp 53)), true, none⟩,
  ⟨some 55, (.fieldAddr 1 (.tmp 3)), false, some (54, false)⟩,
  ⟨some 56, (.load 1 false (.tmp 55)), true, some (54, false)⟩,
  ⟨some 57, (.un .not (.tmp 56)), true, some (54, false)⟩,
  ⟨some 58, (.mov (.tmp 57)), true, some (54, false)⟩,
  ⟨some 59, (.fieldAddr 9 (.tmp 2)), false, some (58, true)⟩,
  ⟨some 60, (.load 1 false (.tmp 59)), false, some (58, true)⟩,
  ⟨some 61, (.bin .neq .none (.tmp 60) (.const (.int .i64 0))), true, some (58, true)⟩,
  ⟨some 62, (.pick (.tmp 58) (.tmp 61) (.const (.bool false))), true, some (54, false)⟩,
  ⟨some 63, (.pick (.tmp 54) (.const (.bool true)) (.tmp 62)), true, none⟩,
  ⟨some 64, (.mov (.tmp 63)), true, none⟩,
  ⟨some 65, (.fieldAddr 2 (.tmp 3)), false, some (64, false)⟩,
  ⟨some 66, (.load 1 false (.tmp 65)), true, some (64, false)⟩,
  ⟨some 67, (.un .not (.tmp 66)), true, some (64, false)⟩,
  ⟨some 68, (.mov (.tmp 67)), true, some (64, false)⟩,
  ⟨some 69, (.fieldAddr 10 (.tmp 2)), false, some (68, true)⟩,
  ⟨some 70, (.load 1 false (.tmp 69)), false, some (68, true)⟩,
  ⟨some 71, (.bin .neq .none (.tmp 70) (.const (.int .i64 0))), true, some (68, true)⟩,
  ⟨some 72, (.pick (.tmp 68) (.tmp 71) (.const (.bool false))), true, some (64, false)⟩,
  ⟨some 73, (.pick (.tmp 64) (.const (.bool true)) (.tmp 72)), true, none⟩,
  ⟨some 74, (.mov (.tmp 73)), true, none⟩,
  ⟨some 75, (.fieldAddr 3 (.tmp 3)), false, some (74, false)⟩,
  ⟨some 76, (.load 1 false (.tmp 75)), true, some (74, false)⟩,
  ⟨some 77, (.un .not (.tmp 76)), true, some (74, false)⟩,
  ⟨some 78, (.mov (.tmp 77)), true, some (74, false)⟩,
  ⟨some 79, (.fieldAddr 11 (.tmp 2)), false, some (78, true)⟩,
  ⟨some 80, (.load 1 false (.tmp 79)), true, some (78, true)⟩,
  ⟨some 81, (.pick (.tmp 78) (.tmp 80) (.const (.bool false))), true, some (74, false)⟩,
  ⟨some 82, (.pick (.tmp 74) (.const (.bool true)) (.tmp 81)), true, none⟩,
  ⟨some 83, (.mov (.tmp 82)), true, none⟩,
  ⟨some 84, (.fieldAddr 4 (.tmp 3)), false, some (83, false)⟩,
  ⟨some 85, (.load 1 false (.tmp 84)), true, some (83, false)⟩,
  ⟨some 86, (.un .not (.tmp 85)), true, some (83, false)⟩,
  ⟨some 87, (.mov (.tmp 86)), true, some (83, false)⟩,
  ⟨some 88, (.fieldAddr 12 (.tmp 2)), false, some (87, true)⟩,
  ⟨some 89, (.load 1 false (.tmp 88)), false, some (87, true)⟩,
  ⟨some 90, (.lenSl (.tmp 89)), false, some (87, true)⟩,
  ⟨some 91, (.bin .gtr .none (.tmp 90) (.const (.int .i64 0))), true, some (87, true)⟩,
  ⟨some 92, (.pick (.tmp 87) (.tmp 91) (.const (.bool false))), true, some (83, false)⟩,
  ⟨some 93, (.pick (.tmp 83) (.const (.bool true)) (.tmp 92)), true, none⟩]
def c63_21 : ACode := (.seq (.region o63_20 [93]) (.cond (.tmp 93) c63_19 .skip))
def w63_21 (P : Program) (Q : Exit → Slots → Mem → Prop) (M : Mem) (v2 : V) (v3 : V) : Prop :=
  @OptVH (moveV 0 v3) ⟨fun t46_1 =>
  @OptBH (loadV 1 false t46_1 M) ⟨fun b47_2 =>
  @OptBH (unV .not (.bool b47_2)) ⟨fun b48_3 =>
  @BIfH b48_3
  ⟨@OptVH (moveV 8 v2) ⟨fun t50_5 =>
  @OptVH (loadV 1 false t50_5 M) ⟨fun t51_6 =>
  @OptBH (binV .neq .none t51_6 (.int .i64 0)) ⟨fun b52_7 =>
  @BIfH b52_7
  ⟨wpC P c63_19 Q [(93, (.bool true))] M⟩
  ⟨@OptVH (moveV 1 v3) ⟨fun t55_17 =>
  @OptBH (loadV 1 false t55_17 M) ⟨fun b56_18 =>
  @OptBH (unV .not (.bool b56_18)) ⟨fun b57_19 =>
  @BIfH b57_19
  ⟨@OptVH (moveV 9 v2) ⟨fun t59_21 =>
  @OptVH (loadV 1 false t59_21 M) ⟨fun t60_22 =>
  @OptBH (binV .neq .none t60_22 (.int .i64 0)) ⟨fun b61_23 =>
  @BIfH b61_23
  ⟨wpC P c63_19 Q [(93, (.bool true))] M⟩
  ⟨@OptVH (moveV 2 v3) ⟨fun t65_32 =>
  @OptBH (loadV 1 false t65_32 M) ⟨fun b66_33 =>
  @OptBH (unV .not (.bool b66_33)) ⟨fun b67_34 =>
  @BIfH b67_34
  ⟨@OptVH (moveV 10 v2) ⟨fun t69_36 =>
  @OptVH (loadV 1 false t69_36 M) ⟨fun t70_37 =>
  @OptBH (binV .neq .none t70_37 (.int .i64 0)) ⟨fun b71_38 =>
  @BIfH b71_38
  ⟨wpC P c63_19 Q [(93, (.bool true))] M⟩
  ⟨@OptVH (moveV 3 v3) ⟨fun t75_45 =>
  @OptBH (loadV 1 false t75_45 M) ⟨fun b76_46 =>
  @OptBH (unV .not (.bool b76_46)) ⟨fun b77_47 =>
  @BIfH b77_47
  ⟨@OptVH (moveV 11 v2) ⟨fun t79_49 =>
  @OptBH (loadV 1 false t79_49 M) ⟨fun b80_50 =>
  @BIfH b80_50
  ⟨wpC P c63_19 Q [(93, (.bool true))] M⟩
  ⟨@OptVH (moveV 4 v3) ⟨fun t84_55 =>
  @OptBH (loadV 1 false t84_55 M) ⟨fun b85_56 =>
  @OptBH (unV .not (.bool b85_56)) ⟨fun b86_57 =>
  @BIfH b86_57
  ⟨@OptVH (moveV 12 v2) ⟨fun t88_59 =>
  @OptVH (loadV 1 false t88_59 M) ⟨fun t89_60 =>
  @OptVH (lenV t89_60 M) ⟨fun t90_61 =>
  @OptBH (binV .gtr .none t90_61 (.int .i64 0)) ⟨fun b91_62 =>
  @BIfH b91_62
  ⟨wpC P c63_19 Q [(93, (.bool b91_62))] M⟩
  ⟨Q .normal [(93, (.bool b91_62))] M⟩⟩⟩⟩⟩⟩
  ⟨Q .normal [(93, (.bool false))] M⟩⟩⟩⟩⟩⟩⟩⟩
  ⟨@OptVH (moveV 4 v3) ⟨fun t84_70 =>
  @OptBH (loadV 1 false t84_70 M) ⟨fun b85_71 =>
  @OptBH (unV .not (.bool b85_71)) ⟨fun b86_72 =>
  @BIfH b86_72
  ⟨@OptVH (moveV 12 v2) ⟨fun t88_74 =>
  @OptVH (loadV 1 false t88_74 M) ⟨fun t89_75 =>
  @OptVH (lenV t89_75 M) ⟨fun t90_76 =>
  @OptBH (binV .gtr .none t90_76 (.int .i64 0)) ⟨fun b91_77 =>
  @BIfH b91_77
  ⟨wpC P c63_19 Q [(93, (.bool b91_77))] M⟩
  ⟨Q .normal [(93, (.bool b91_77))] M⟩⟩⟩⟩⟩⟩
  ⟨Q .normal [(93, (.bool false))] M⟩⟩⟩⟩⟩⟩⟩⟩⟩⟩⟩⟩⟩
  ⟨@OptVH (moveV 3 v3) ⟨fun t75_85 =>
  @OptBH (loadV 1 false t75_85 M) ⟨fun b76_86 =>
  @OptBH (unV .not (.bool b76_86)) ⟨fun b77_87 =>
  @BIfH b77_87
  ⟨@OptVH (moveV 11 v2) ⟨fun t79_89 =>
  @OptBH (loadV 1 false t79_89 M) ⟨fun b80_90 =>
  @BIfH b80_90
  ⟨wpC P c63_19 Q [(93, (.bool true))] M⟩
  ⟨@OptVH (moveV 4 v3) ⟨fun t84_95 =>
  @OptBH (loadV 1 false t84_95 M) ⟨fun b85_96 =>
  @OptBH (unV .not (.bool b85_96)) ⟨fun b86_97 =>
  @BIfH b86_97
  ⟨@OptVH (moveV 12 v2) ⟨fun t88_99 =>
  @OptVH (loadV 1 false t88_99 M) ⟨fun t89_100 =>
  @OptVH (lenV t89_100 M) ⟨fun t90_101 =>
  @OptBH (binV .gtr .none t90_101 (.int .i64 0)) ⟨fun b91_102 =>
  @BIfH b91_102
  ⟨wpC P c63_19 Q [(93, (.bool b91_102))] M⟩
  ⟨Q .normal [(93, (.bool b91_102))] M⟩⟩⟩⟩⟩⟩
  ⟨Q .normal [(93, (.bool false))] M⟩⟩⟩⟩⟩⟩⟩⟩
  ⟨@OptVH (moveV 4 v3) ⟨fun t84_110 =>
  @OptBH (loadV 1 false t84_110 M) ⟨fun b85_111 =>
  @OptBH (unV .not (.bool b85_111)) ⟨fun b86_112 =>
  @BIfH b86_112
  ⟨@OptVH (moveV 12 v2) ⟨fun t88_114 =>
  @OptVH (loadV 1 false t88_114 M) ⟨fun t89_115 =>
  @OptVH (lenV t89_115 M) ⟨fun t90_116 =>
  @OptBH (binV .gtr .none t90_116 (.int .i64 0)) ⟨fun b91_117 =>
  @BIfH b91_117
  ⟨wpC P c63_19 Q [(93, (.bool b91_117))] M⟩
  ⟨Q .normal [(93, (.bool b91_117))] M⟩⟩⟩⟩⟩⟩
  ⟨Q .normal [(93, (.bool false))] M⟩⟩⟩⟩⟩⟩⟩⟩⟩⟩⟩⟩⟩⟩⟩⟩⟩
  ⟨@OptVH (moveV 2 v3) ⟨fun t65_125 =>
  @OptBH (loadV 1 false t65_125 M) ⟨fun b66_126 =>
  @OptBH (unV .not (.bool b66_126)) ⟨fun b67_127 =>
  @BIfH b67_127
  ⟨@OptVH (moveV 10 v2) ⟨fun t69_129 =>
  @OptVH (loadV 1 false t69_129 M) ⟨fun t70_130 =>
  @OptBH (binV .neq .none t70_130 (.int .i64 0)) ⟨fun b71_131 =>
  @BIfH b71_131
  ⟨wpC P c63_19 Q [(93, (.bool true))] M⟩
  ⟨@OptVH (moveV 3 v3) ⟨fun t75_138 =>
  @OptBH (loadV 1 false t75_138 M) ⟨fun b76_139 =>
  @OptBH (unV .not (.bool b76_139)) ⟨fun b77_140 =>
  @BIfH b77_140
  ⟨@OptVH (moveV 11 v2) ⟨fun t79_142 =>
  @OptBH (loadV 1 false t79_142 M) ⟨fun b80_143 =>
  @BIfH b80_143
  ⟨wpC P c63_19 Q [(93, (.bool true))] M⟩
  ⟨@OptVH (moveV 4 v3) ⟨fun t84_148 =>
  @OptBH (loadV 1 false t84_148 M) ⟨fun b85_149 =>
  @OptBH (unV .not (.bool b85_149)) ⟨fun b86_150 =>
  @BIfH b86_150
  ⟨@OptVH (moveV 12 v2) ⟨fun t88_152 =>
  @OptVH (loadV 1 false t88_152 M) ⟨fun t89_153 =>
  @OptVH (lenV t89_153 M) ⟨fun t90_154 =>
  @OptBH (binV .gtr .none t90_154 (.int .i64 0)) ⟨fun b91_155 =>
  @BIfH b91_155
  ⟨wpC P c63_19 Q [(93, (.bool b91_155))] M⟩
  ⟨Q .normal [(93, (.bool b91_155))] M⟩⟩⟩⟩⟩⟩
  ⟨Q .normal [(93, (.bool false))] M⟩⟩⟩⟩⟩⟩⟩⟩
  ⟨@OptVH (moveV 4 v3) ⟨fun t84_163 =>
  @OptBH (loadV 1 false t84_163 M) ⟨fun b85_164 =>
  @OptBH (unV .not (.bool b85_164)) ⟨fun b86_165 =>
  @BIfH b86_165
  ⟨@OptVH (moveV 12 v2) ⟨fun t88_167 =>
  @OptVH (loadV 1 false t88_167 M) ⟨fun t89_168 =>
  @OptVH (lenV t89_168 M) ⟨fun t90_169 =>
  @OptBH (binV .gtr .none t90_169 (.int .i64 0)) ⟨fun b91_170 =>
  @BIfH b91_170
  ⟨wpC P c63_19 Q [(93, (.bool b91_170))] M⟩
  ⟨Q .normal [(93, (.bool b91_170))] M⟩⟩⟩⟩⟩⟩
  ⟨Q .normal [(93, (.bool false))] M⟩⟩⟩⟩⟩⟩⟩⟩⟩⟩⟩⟩⟩
  ⟨@OptVH (moveV 3 v3) ⟨fun t75_178 =>
  @OptBH (loadV 1 false t75_178 M) ⟨fun b76_179 =>
  @OptBH (unV .not (.bool b76_179)) ⟨fun b77_180 =>
  @BIfH b77_180
  ⟨@OptVH (moveV 11 v2) ⟨fun t79_182 =>
  @OptBH (loadV 1 false t79_182 M) ⟨fun b80_183 =>
  @BIfH b80_183
  ⟨wpC P c63_19 Q [(93, (.bool true))] M⟩
  ⟨@OptVH (moveV 4 v3) ⟨fun t84_188 =>
  @OptBH (loadV 1 false t84_188 M) ⟨fun b85_189 =>
  @OptBH (unV .not (.bool b85_189)) ⟨fun b86_190 =>
  @BIfH b86_190
  ⟨@OptVH (moveV 12 v2) ⟨fun t88_192 =>
  @OptVH (loadV 1 false t88_192 M) ⟨fun t89_193 =>
  @OptVH (lenV t89_193 M) ⟨fun t90_194 =>
  @OptBH (binV .gtr .none t90_194 (.int .i64 0)) ⟨fun b91_195 =>
  @BIfH b91_195
  ⟨wpC P c63_19 Q [(93, (.bool b91_195))] M⟩
  ⟨Q .normal [(93, (.bool b91_195))] M⟩⟩⟩⟩⟩⟩
  ⟨Q .normal [(93, (.bool false))] M⟩⟩⟩⟩⟩⟩⟩⟩
  ⟨@OptVH (moveV 4 v3) ⟨fun t84_203 =>
  @OptBH (loadV 1 false t84_203 M) ⟨fun b85_204 =>
  @OptBH (unV .not (.bool b85_204)) ⟨fun b86_205 =>
  @BIfH b86_205
  ⟨@OptVH (moveV 12 v2) ⟨fun t88_207 =>
  @OptVH (loadV 1 false t88_207 M) ⟨fun t89_208 =>
  @OptVH (lenV t89_208 M) ⟨fun t90_209 =>
  @OptBH (binV .gtr .none t90_209 (.int .i64 0)) ⟨fun b91_210 =>
  @BIfH b91_210
  ⟨wpC P c63_19 Q [(93, (.bool b91_210))] M⟩
  ⟨Q .normal [(93, (.bool b91_210))] M⟩⟩⟩⟩⟩⟩
  ⟨Q .normal [(93, (.bool false))] M⟩⟩⟩⟩⟩⟩⟩⟩⟩⟩⟩⟩⟩⟩⟩⟩⟩⟩⟩⟩⟩
  ⟨@OptVH (moveV 1 v3) ⟨fun t55_217 =>
  @OptBH (loadV 1 false t55_217 M) ⟨fun b56_218 =>
  @OptBH (unV .not (.bool b56_218)) ⟨fun b57_219 =>
  @BIfH b57_219
  ⟨@OptVH (moveV 9 v2) ⟨fun t59_221 =>
  @OptVH (loadV 1 false t59_221 M) ⟨fun t60_222 =>
  @OptBH (binV .neq .none t60_222 (.int .i64 0)) ⟨fun b61_223 =>
  @BIfH b61_223
  ⟨wpC P c63_19 Q [(93, (.bool true))] M⟩
  ⟨@OptVH (moveV 2 v3) ⟨fun t65_232 =>
  @OptBH (loadV 1 false t65_232 M) ⟨fun b66_233 =>
  @OptBH (unV .not (.bool b66_233)) ⟨fun b67_234 =>
  @BIfH b67_234
  ⟨@OptVH (moveV 10 v2) ⟨fun t69_236 =>
  @OptVH (loadV 1 false t69_236 M) ⟨fun t70_237 =>
  @OptBH (binV .neq .none t70_237 (.int .i64 0)) ⟨fun b71_238 =>
  @BIfH b71_238
  ⟨wpC P c63_19 Q [(93, (.bool true))] M⟩
  ⟨@OptVH (moveV 3 v3) ⟨fun t75_245 =>
  @OptBH (loadV 1 false t75_245 M) ⟨fun b76_246 =>
  @OptBH (unV .not (.bool b76_246)) ⟨fun b77_247 =>
  @BIfH b77_247
  ⟨@OptVH (moveV 11 v2) ⟨fun t79_249 =>
  @OptBH (loadV 1 false t79_249 M) ⟨fun b80_250 =>
  @BIfH b80_250
  ⟨wpC P c63_19 Q [(93, (.bool true))] M⟩
  ⟨@OptVH (moveV 4 v3) ⟨fun t84_255 =>
  @OptBH (loadV 1 false t84_255 M) ⟨fun b85_256 =>
  @OptBH (unV .not (.bool b85_256)) ⟨fun b86_257 =>
  @BIfH b86_257
  ⟨@OptVH (moveV 12 v2) ⟨fun t88_259 =>
  @OptVH (loadV 1 false t88_259 M) ⟨fun t89_260 =>
  @OptVH (lenV t89_260 M) ⟨fun t90_261 =>
  @OptBH (binV .gtr .none t90_261 (.int .i64 0)) ⟨fun b91_262 =>
  @BIfH b91_262
  ⟨wpC P c63_19 Q [(93, (.bool b91_262))] M⟩
  ⟨Q .normal [(93, (.bool b91_262))] M⟩⟩⟩⟩⟩⟩
  ⟨Q .normal [(93, (.bool false))] M⟩⟩⟩⟩⟩⟩⟩⟩
  ⟨@OptVH (moveV 4 v3) ⟨fun t84_270 =>
  @OptBH (loadV 1 false t84_270 M) ⟨fun b85_271 =>
  @OptBH (unV .not (.bool b85_271)) ⟨fun b86_272 =>
  @BIfH b86_272
  ⟨@OptVH (moveV 12 v2) ⟨fun t88_274 =>
  @OptVH (loadV 1 false t88_274 M) ⟨fun t89_275 =>
  @OptVH (lenV t89_275 M) ⟨fun t90_276 =>
  @OptBH (binV .gtr .none t90_276 (.int .i64 0)) ⟨fun b91_277 =>
  @BIfH b91_277
  ⟨wpC P c63_19 Q [(93, (.bool b91_277))] M⟩
  ⟨Q .normal [(93, (.bool b91_277))] M⟩⟩⟩⟩⟩⟩
  ⟨Q .normal [(93, (.bool false))] M⟩⟩⟩⟩⟩⟩⟩⟩⟩⟩⟩⟩⟩
  ⟨@OptVH (moveV 3 v3) ⟨fun t75_285 =>
  @OptBH (loadV 1 false t75_285 M) ⟨fun b76_286 =>
  @OptBH (unV .not (.bool b76_286)) ⟨fun b77_287 =>
  @BIfH b77_287
  ⟨@OptVH (moveV 11 v2) ⟨fun t79_289 =>
  @OptBH (loadV 1 false t79_289 M) ⟨fun b80_290 =>
  @BIfH b80_290
  ⟨wpC P c63_19 Q [(93, (.bool true))] M⟩
  ⟨@OptVH (moveV 4 v3) ⟨fun t84_295 =>
  @OptBH (loadV 1 false t84_295 M) ⟨fun b85_296 =>
  @OptBH (unV .not (.bool b85_296)) ⟨fun b86_297 =>
  @BIfH b86_297
  ⟨@OptVH (moveV 12 v2) ⟨fun t88_299 =>
  @OptVH (loadV 1 false t88_299 M) ⟨fun t89_300 =>
  @OptVH (lenV t89_300 M) ⟨fun t90_301 =>
  @OptBH (binV .gtr .none t90_301 (.int .i64 0)) ⟨fun b91_302 =>
  @BIfH b91_302
  ⟨wpC P c63_19 Q [(93, (.bool b91_302))] M⟩
  ⟨Q .normal [(93, (.bool b91_302))] M⟩⟩⟩⟩⟩⟩
  ⟨Q .normal [(93, (.bool false))] M⟩⟩⟩⟩⟩⟩⟩⟩
  ⟨@OptVH (moveV 4 v3) ⟨fun t84_310 =>
  @OptBH (loadV 1 false t84_310 M) ⟨fun b85_311 =>
  @OptBH (unV .not (.bool b85_311)) ⟨fun b86_312 =>
  @BIfH b86_312
  ⟨@OptVH (moveV 12 v2) ⟨fun t88_314 =>
  @OptVH (loadV 1 false t88_314 M) ⟨fun t89_315 =>
  @OptVH (lenV t89_315 M) ⟨fun t90_316 =>
  @OptBH (binV .gtr .none t90_316 (.int .i64 0)) ⟨fun b91_317 =>
  @BIfH b91_317
  ⟨wpC P c63_19 Q [(93, (.bool b91_317))] M⟩
  ⟨Q .normal [(93, (.bool b91_317))] M⟩⟩⟩⟩⟩⟩
  ⟨Q .normal [(93, (.bool false))] M⟩⟩⟩⟩⟩⟩⟩⟩⟩⟩⟩⟩⟩⟩⟩⟩⟩
  ⟨@OptVH (moveV 2 v3) ⟨fun t65_325 =>
  @OptBH (loadV 1 false t65_325 M) ⟨fun b66_326 =>
  @OptBH (unV .not (.bool b66_326)) ⟨fun b67_327 =>
  @BIfH b67_327
  ⟨@OptVH (moveV 10 v2) ⟨fun t69_329 =>
  @OptVH (loadV 1 false t69_329 M) ⟨fun t70_330 =>
  @OptBH (binV .neq .none t70_330 (.int .i64 0)) ⟨fun b71_331 =>
  @BIfH b71_331
  ⟨wpC P c63_19 Q [(93, (.bool true))] M⟩
  ⟨@OptVH (moveV 3 v3) ⟨fun t75_338 =>
  @OptBH (loadV 1 false t75_338 M) ⟨fun b76_339 =>
  @OptBH (unV .not (.bool b76_339)) ⟨fun b77_340 =>
  @BIfH b77_340
  ⟨@OptVH (moveV 11 v2) ⟨fun t79_342 =>
  @OptBH (loadV 1 false t79_342 M) ⟨fun b80_343 =>
  @BIfH b80_343
  ⟨wpC P c63_19 Q [(93, (.bool true))] M⟩
  ⟨@OptVH (moveV 4 v3) ⟨fun t84_348 =>
  @OptBH (loadV 1 false t84_348 M) ⟨fun b85_349 =>
  @OptBH (unV .not (.bool b85_349)) ⟨fun b86_350 =>
  @BIfH b86_350
  ⟨@OptVH (moveV 12 v2) ⟨fun t88_352 =>
  @OptVH (loadV 1 false t88_352 M) ⟨fun t89_353 =>
  @OptVH (lenV t89_353 M) ⟨fun t90_354 =>
  @OptBH (binV .gtr .none t90_354 (.int .i64 0)) ⟨fun b91_355 =>
  @BIfH b91_355
  ⟨wpC P c63_19 Q [(93, (.bool b91_355))] M⟩
  ⟨Q .normal [(93, (.bool b91_355))] M⟩⟩⟩⟩⟩⟩
  ⟨Q .normal [(93, (.bool false))] M⟩⟩⟩⟩⟩⟩⟩⟩
  ⟨@OptVH (moveV 4 v3) ⟨fun t84_363 =>
  @OptBH (loadV 1 false t84_363 M) ⟨fun b85_364 =>
  @OptBH (unV .not (.bool b85_364)) ⟨fun b86_365 =>
  @BIfH b86_365
  ⟨@OptVH (moveV 12 v2) ⟨fun t88_367 =>
  @OptVH (loadV 1 false t88_367 M) ⟨fun t89_368 =>
  @OptVH (lenV t89_368 M) ⟨fun t90_369 =>
  @OptBH (binV .gtr .none t90_369 (.int .i64 0)) ⟨fun b91_370 =>
  @BIfH b91_370
  ⟨wpC P c63_19 Q [(93, (.bool b91_370))] M⟩
  ⟨Q .normal [(93, (.bool b91_370))] M⟩⟩⟩⟩⟩⟩
  ⟨Q .normal [(93, (.bool false))] M⟩⟩⟩⟩⟩⟩⟩⟩⟩⟩⟩⟩⟩
  ⟨@OptVH (moveV 3 v3) ⟨fun t75_378 =>
  @OptBH (loadV 1 false t75_378 M) ⟨fun b76_379 =>
  @OptBH (unV .not (.bool b76_379)) ⟨fun b77_380 =>
  @BIfH b77_380
  ⟨@OptVH (moveV 11 v2) ⟨fun t79_382 =>
  @OptBH (loadV 1 false t79_382 M) ⟨fun b80_383 =>
  @BIfH b80_383
  ⟨wpC P c63_19 Q [(93, (.bool true))] M⟩
  ⟨@OptVH (moveV 4 v3) ⟨fun t84_388 =>
  @OptBH (loadV 1 false t84_388 M) ⟨fun b85_389 =>
  @OptBH (unV .not (.bool b85_389)) ⟨fun b86_390 =>
  @BIfH b86_390
  ⟨@OptVH (moveV 12 v2) ⟨fun t88_392 =>
  @OptVH (loadV 1 false t88_392 M) ⟨fun t89_393 =>
  @OptVH (lenV t89_393 M) ⟨fun t90_394 =>
  @OptBH (binV .gtr .none t90_394 (.int .i64 0)) ⟨fun b91_395 =>
  @BIfH b91_395
  ⟨wpC P c63_19 Q [(93, (.bool b91_395))] M⟩
  ⟨Q .normal [(93, (.bool b91_395))] M⟩⟩⟩⟩⟩⟩
  ⟨Q .normal [(93, (.bool false))] M⟩⟩⟩⟩⟩⟩⟩⟩
  ⟨@OptVH (moveV 4 v3) ⟨fun t84_403 =>
  @OptBH (loadV 1 false t84_403 M) ⟨fun b85_404 =>
  @OptBH (unV .not (.bool b85_404)) ⟨fun b86_405 =>
  @BIfH b86_405
  ⟨@OptVH (moveV 12 v2) ⟨fun t88_407 =>
  @OptVH (loadV 1 false t88_407 M) ⟨fun t89_408 =>
  @OptVH (lenV t89_408 M) ⟨fun t90_409 =>
  @OptBH (binV .gtr .none t90_409 (.int .i64 0)) ⟨fun b91_410 =>
  @BIfH b91_410
  ⟨wpC P c63_19 Q [(93, (.bool b91_410))] M⟩
  ⟨Q .normal [(93, (.bool b91_410))] M⟩⟩⟩⟩⟩⟩
  ⟨Q .normal [(93, (.bool false))] M⟩⟩⟩⟩⟩⟩⟩⟩⟩⟩⟩⟩⟩⟩⟩⟩⟩⟩⟩⟩
theorem e63_21 (P : Program) (Q : Exit → Slots → Mem → Prop) (s : Slots) (M : Mem) : wpC P c63_21 Q s M = w63_21 P Q M (sget s 2) (sget s 3) := by kernel_rfl
def o63_22 : List AOper := [⟨some 4, (.mov (.const (.int .i64 0))), false, none⟩]
def c63_23 : ACode := (.region o63_22 [4])
def w63_23 (_P : Program) (Q : Exit → Slots → Mem → Prop) (M : Mem) : Prop :=
  Q .normal [(4, (.int .i64 0))] M
theorem e63_23 (P : Program) (Q : Exit → Slots → Mem → Prop) (s : Slots) (M : Mem) : wpC P c63_23 Q s M = w63_23 P Q M := by kernel_rfl
def c63_24 : ACode := (.seq c63_23 .ret)
def c63_25 : ACode := (.seq c63_21 c63_24)
def c63_26 : ACode := (.seq c63_16 c63_25)
def c63_27 : ACode := (.seq c63_6 c63_26)
def c63_28 : ACode := (.seq c63_1 c63_27)
def fn_message_checkKind : AFn := ⟨94, [(.tmp 4)], c63_28⟩
theorem fn_message_checkKind_ok : resFn PR h_message_checkKind i_message_checkKind = some fn_message_checkKind := by kernel_rfl

end Go.Vm.C
