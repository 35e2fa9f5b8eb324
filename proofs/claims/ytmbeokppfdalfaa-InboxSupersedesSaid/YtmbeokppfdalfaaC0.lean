/- The abstract code of the functions that the statements reach, printed by a program, each with the equation that it is what the loaded program says. Part 0. -/
import Derived.Test.YtmbeokppfdalfaaProg
import Derived.Test.YtmbeokppfdalfaaVm2
import Derived.KernelRfl
namespace Go.Vm.C
open Go.Vm

abbrev i_main_main : Nat := 0
abbrev i_gosem_cut : Nat := 1
abbrev i_gosem_cut_init : Nat := 2
abbrev i_transitlaw32_InboxNews : Nat := 3
abbrev i_transitlaw32_InboxCommutes : Nat := 4
abbrev i_transitlaw32_InboxActive : Nat := 5
abbrev i_transitlaw32_InboxPlays : Nat := 6
abbrev i_transitlaw32_InboxSupersedes : Nat := 7
abbrev i_transitlaw32_InboxClones : Nat := 8
abbrev i_transitlaw32_InboxNil : Nat := 9
abbrev i_inbox_New : Nat := 10
abbrev i_transitref32_New : Nat := 11
abbrev i_transitlaw32_exampleHolds : Nat := 12
abbrev i_transitlaw32_played : Nat := 13
abbrev i_transitlaw32_shorts : Nat := 14
abbrev i_transitlaw32_small : Nat := 15
abbrev i_inbox_Inbox_Receive : Nat := 16
abbrev i_transitref32_Same : Nat := 17
abbrev i_inbox_Inbox_Active : Nat := 18
abbrev i_inbox_Inbox_Messages : Nat := 19
abbrev i_inbox_Inbox_Failed : Nat := 20
abbrev i_transitlaw32_has : Nat := 21
abbrev i_transitref31_SameTarget : Nat := 22
abbrev i_transitlaw32_lower : Nat := 23
abbrev i_transitref32_Receive : Nat := 24
abbrev i_inbox_Inbox_Heartbeat : Nat := 25
abbrev i_transitref32_Heartbeat : Nat := 26
abbrev i_transitlaw32_same : Nat := 27
abbrev i_inbox_Inbox_Sequence : Nat := 28
abbrev i_transitref31_Supersedes : Nat := 29
abbrev i_inbox_Inbox_Clone : Nat := 30
abbrev i_transitlaw32_message : Nat := 31
abbrev i_inbox_Inbox_refusal : Nat := 32
abbrev i_inbox_filtered : Nat := 33
abbrev i_inbox_Inbox_Receive_1 : Nat := 34
abbrev i_message_Supersedes : Nat := 35
abbrev i_inbox_owned : Nat := 36
abbrev i_inbox_heard_hear : Nat := 37
abbrev i_transitref31_Equal : Nat := 38
abbrev i_inbox_Inbox_Active_1 : Nat := 39
abbrev i_message_SameTarget : Nat := 40
abbrev i_inbox_inserted_api_Message : Nat := 41
abbrev i_inbox_before : Nat := 42
abbrev i_inbox_Inbox_Messages_1 : Nat := 43
abbrev i_inbox_Inbox_exists : Nat := 44
abbrev i_inbox_heard_silent : Nat := 45
abbrev i_transitref32_moment : Nat := 46
abbrev i_transitref31_Check : Nat := 47
abbrev i_transitref32_heard : Nat := 48
abbrev i_transitref32_Sequence : Nat := 49
abbrev i_transitref32_Failed : Nat := 50
abbrev i_transitref32_Active : Nat := 51
abbrev i_transitref31_Status : Nat := 52
abbrev i_message_Check : Nat := 53
abbrev i_message_status : Nat := 54
abbrev i_transitref16_Equal : Nat := 55
abbrev i_transitref15_Name : Nat := 56
abbrev i_transitref16_Check : Nat := 57
abbrev i_transitref32_active : Nat := 58
abbrev i_transitref32_before : Nat := 59
abbrev i_message_within : Nat := 60
abbrev i_ident_Valid : Nat := 61
abbrev i_date_Valid : Nat := 62
abbrev i_message_checkKind : Nat := 63
abbrev i_message_used : Nat := 64
abbrev i_transitref32_Current : Nat := 65
abbrev i_call_Check : Nat := 66
abbrev i_call_one : Nat := 67
abbrev i_runtime_boundsError_Error : Nat := 68
abbrev i_runtime_boundsError_RuntimeError : Nat := 69
abbrev i_runtime_errorString_Error : Nat := 70
abbrev i_runtime_errorString_RuntimeError : Nat := 71
abbrev i_runtime_plainError_Error : Nat := 72
abbrev i_runtime_plainError_RuntimeError : Nat := 73
abbrev i_runtime_errorAddressString_Error : Nat := 74
abbrev i_runtime_errorAddressString_RuntimeError : Nat := 75
abbrev i_runtime_TypeAssertionError_Error : Nat := 76
abbrev i_runtime_TypeAssertionError_RuntimeError : Nat := 77
abbrev i_runtime_PanicNilError_Error : Nat := 78
abbrev i_runtime_PanicNilError_RuntimeError : Nat := 79
abbrev i_internal_abi_Type_Align : Nat := 80
abbrev i_internal_runtime_maps_unhashableTypeError_Error : Nat := 81
abbrev i_internal_runtime_maps_unhashableTypeError_RuntimeError : Nat := 82
abbrev i_internal_abi_Kind_String : Nat := 83
noncomputable abbrev PR : Program := Go.Proofs.Try.prog

def h_transitlaw32_InboxNews : Hints := ⟨[(0, [0, 1]), (1, [0, 1, 5, 6]), (2, [5, 6, 8]), (3, [4])], [], []⟩
def o3_0 : List AOper := [⟨some 4, (.mov (.const (.bool false))), true, none⟩]
def c3_1 : ACode := (.region o3_0 [0, 1])
def w3_1 (_P : Program) (Q : Exit → Slots → Mem → Prop) (M : Mem) (v0 : V) (v1 : V) : Prop :=
  Q .normal [(0, v0), (1, v1)] M
theorem e3_1 (P : Program) (Q : Exit → Slots → Mem → Prop) (s : Slots) (M : Mem) : wpC P c3_1 Q s M = w3_1 P Q M (sget s 0) (sget s 1) := by kernel_rfl
def o3_2 : List AOper := [⟨some 10, (.mov (.tmp 0)), false, none⟩,
  ⟨some 11, (.mov (.tmp 1)), false, none⟩,
  ⟨some 12, (.call i_inbox_New [(.tmp 10), (.tmp 11)]), false, none⟩,
  ⟨some 9, (.mov (.tmp 12)), false, none⟩,
  ⟨some 13, (.extract (.tmp 9) 0), false, none⟩,
  ⟨some 14, (.extract (.tmp 9) 1), false, none⟩,
  ⟨some 5, (.mov (.tmp 13)), false, none⟩,
  ⟨some 6, (.mov (.tmp 14)), false, none⟩]
def c3_3 : ACode := (.region o3_2 [0, 1, 5, 6])
def w3_3 (P : Program) (Q : Exit → Slots → Mem → Prop) (M : Mem) (v0 : V) (v1 : V) : Prop :=
  @CallH P i_inbox_New [v0, v1] M ⟨fun t12_3 M3 =>
  @OptVH (extractV t12_3 0) ⟨fun t13_5 =>
  @OptVH (extractV t12_3 1) ⟨fun t14_6 =>
  Q .normal [(0, v0), (1, v1), (5, t13_5), (6, t14_6)] M3⟩⟩⟩
theorem e3_3 (P : Program) (Q : Exit → Slots → Mem → Prop) (s : Slots) (M : Mem) : wpC P c3_3 Q s M = w3_3 P Q M (sget s 0) (sget s 1) := by kernel_rfl
def o3_4 : List AOper := [⟨some 16, (.mov (.tmp 0)), false, none⟩,
  ⟨some 17, (.mov (.tmp 1)), false, none⟩,
  ⟨some 18, (.call i_transitref32_New [(.tmp 16), (.tmp 17)]), false, none⟩,
  ⟨some 15, (.mov (.tmp 18)), false, none⟩,
  ⟨some 19, (.extract (.tmp 15) 0), false, none⟩,
  ⟨some 20, (.extract (.tmp 15) 1), false, none⟩,
  ⟨some 7, (.alloc [(.int .i64 0), (.slice [] .nil), (.slice [] .nil)]), false, none⟩,
  ⟨none, (.store 3 (.tmp 7) (.tmp 19)), false, none⟩,
  ⟨some 8, (.mov (.tmp 20)), false, none⟩]
def c3_5 : ACode := (.region o3_4 [5, 6, 8])
def w3_5 (P : Program) (Q : Exit → Slots → Mem → Prop) (M : Mem) (v0 : V) (v1 : V) (v5 : V) (v6 : V) : Prop :=
  @CallH P i_transitref32_New [v0, v1] M ⟨fun t18_3 M3 =>
  @OptVH (extractV t18_3 0) ⟨fun t19_5 =>
  @OptVH (extractV t18_3 1) ⟨fun t20_6 =>
  @OptMH (allocV [(.int .i64 0), (.slice [] .nil), (.slice [] .nil)] M3) ⟨fun t7_7 M7 =>
  @OptMH (storeVM 3 t7_7 t19_5 M7) ⟨fun _tx_8 M8 =>
  Q .normal [(5, v5), (6, v6), (8, t20_6)] M8⟩⟩⟩⟩⟩
theorem e3_5 (P : Program) (Q : Exit → Slots → Mem → Prop) (s : Slots) (M : Mem) : wpC P c3_5 Q s M = w3_5 P Q M (sget s 0) (sget s 1) (sget s 5) (sget s 6) := by kernel_rfl
def o3_6 : List AOper := [⟨some 21, (.mov (.tmp 6)), false, none⟩,
  ⟨some 22, (.mov (.tmp 8)), false, none⟩,
  ⟨some 23, (.bin .eql .none (.tmp 21) (.tmp 22)), true, none⟩,
  ⟨some 24, (.mov (.tmp 23)), true, none⟩,
  ⟨some 25, (.mov (.tmp 5)), false, some (24, true)⟩,
  ⟨some 26, (.bin .neq .ptr (.tmp 25) (.const .nilp)), true, some (24, true)⟩,
  ⟨some 27, (.mov (.tmp 8)), false, some (24, true)⟩,
  ⟨some 28, (.bin .eql .none (.tmp 27) (.const (.int .i64 0))), true, some (24, true)⟩,
  ⟨some 29, (.bin .eql .bool (.tmp 26) (.tmp 28)), true, some (24, true)⟩,
  ⟨some 30, (.pick (.tmp 24) (.tmp 29) (.const (.bool false))), true, none⟩,
  ⟨some 31, (.mov (.tmp 30)), true, none⟩,
  ⟨some 32, (.call i_transitlaw32_exampleHolds []), true, some (31, true)⟩,
  ⟨some 33, (.pick (.tmp 31) (.tmp 32) (.const (.bool false))), true, none⟩,
  ⟨some 4, (.mov (.tmp 33)), true, none⟩]
def c3_7 : ACode := (.region o3_6 [4])
def w3_7 (P : Program) (Q : Exit → Slots → Mem → Prop) (M : Mem) (v5 : V) (v6 : V) (v8 : V) : Prop :=
  @OptBH (binV .eql .none v6 v8) ⟨fun b23_3 =>
  @BIfH b23_3
  ⟨@OptBH (binV .neq .ptr v5 .nilp) ⟨fun b26_6 =>
  @OptBH (binV .eql .none v8 (.int .i64 0)) ⟨fun b28_8 =>
  @OptBH (binV .eql .bool (.bool b26_6) (.bool b28_8)) ⟨fun b29_9 =>
  @BIfH b29_9
  ⟨@CallH P i_transitlaw32_exampleHolds [] M ⟨fun t32_12 M12 => @OptBH (some t32_12) ⟨fun b32_12 =>
  Q .normal [(4, (.bool b32_12))] M12⟩⟩⟩
  ⟨Q .normal [(4, (.bool false))] M⟩⟩⟩⟩⟩
  ⟨Q .normal [(4, (.bool false))] M⟩⟩
theorem e3_7 (P : Program) (Q : Exit → Slots → Mem → Prop) (s : Slots) (M : Mem) : wpC P c3_7 Q s M = w3_7 P Q M (sget s 5) (sget s 6) (sget s 8) := by kernel_rfl
def c3_8 : ACode := (.seq c3_7 .ret)
def c3_9 : ACode := (.seq c3_5 c3_8)
def c3_10 : ACode := (.seq c3_3 c3_9)
def c3_11 : ACode := (.seq c3_1 c3_10)
def fn_transitlaw32_InboxNews : AFn := ⟨34, [(.tmp 4)], c3_11⟩
theorem fn_transitlaw32_InboxNews_ok : resFn PR h_transitlaw32_InboxNews i_transitlaw32_InboxNews = some fn_transitlaw32_InboxNews := by kernel_rfl

def h_transitlaw32_InboxCommutes : Hints := ⟨[(0, [0, 1, 5]), (1, [1, 5, 7, 8]), (2, [5, 7, 8, 58]), (3, [6]), (4, [5, 7, 8, 9, 10]), (5, [5, 7, 8, 9, 10, 11, 12]), (6, [5, 7, 8, 97]), (7, [6]), (8, [6])], [], []⟩
def o4_0 : List AOper := [⟨some 5, (.box 28 (.tmp 2)), false, none⟩,
  ⟨some 6, (.mov (.const (.bool false))), true, none⟩]
def c4_1 : ACode := (.region o4_0 [0, 1, 5])
def w4_1 (_P : Program) (Q : Exit → Slots → Mem → Prop) (M : Mem) (v0 : V) (v1 : V) (v2 : V) : Prop :=
  @OptMH (boxV 28 v2 M) ⟨fun t5_1 M1 =>
  Q .normal [(0, v0), (1, v1), (5, t5_1)] M1⟩
theorem e4_1 (P : Program) (Q : Exit → Slots → Mem → Prop) (s : Slots) (M : Mem) : wpC P c4_1 Q s M = w4_1 P Q M (sget s 0) (sget s 1) (sget s 2) := by kernel_rfl
def o4_2 : List AOper := [⟨some 13, (.mov (.tmp 0)), false, none⟩,
  ⟨some 14, (.mov (.tmp 1)), false, none⟩,
  ⟨some 15, (.mov (.tmp 1)), false, none⟩,
  ⟨some 16, (.lenSl (.tmp 15)), false, none⟩,
  ⟨some 17, (.minmax false (.tmp 16) (.const (.int .i64 40))), false, none⟩,
  ⟨some 18, (.slice 16 (.tmp 14) none (some (.tmp 17)) none), false, none⟩,
  ⟨some 19, (.call i_transitlaw32_played [(.tmp 13), (.tmp 18)]), false, none⟩,
  ⟨some 20, (.mov (.tmp 0)), false, none⟩,
  ⟨some 21, (.mov (.tmp 1)), false, none⟩,
  ⟨some 22, (.mov (.tmp 1)), false, none⟩,
  ⟨some 23, (.lenSl (.tmp 22)), false, none⟩,
  ⟨some 24, (.minmax false (.tmp 23) (.const (.int .i64 40))), false, none⟩,
  ⟨some 25, (.slice 16 (.tmp 21) none (some (.tmp 24)) none), false, none⟩,
  ⟨some 26, (.call i_transitlaw32_played [(.tmp 20), (.tmp 25)]), false, none⟩,
  ⟨some 7, (.mov (.tmp 19)), false, none⟩,
  ⟨some 8, (.mov (.tmp 26)), false, none⟩]
def c4_3 : ACode := (.mixed o4_2 [true, true, true, true, true, true, true, true, true, true, true, true, true, false, true, true] [1, 5, 7, 8])
def w4_3 (P : Program) (Q : Exit → Slots → Mem → Prop) (M : Mem) (v0 : V) (v1 : V) (v5 : V) : Prop :=
  @OptVH (lenV v1 M) ⟨fun t16_4 =>
  @OptVH (minmaxV false t16_4 (.int .i64 40)) ⟨fun t17_5 =>
  @OptVH (sliceV 16 v1 none (some t17_5) none M) ⟨fun t18_6 =>
  @CallQ P i_transitlaw32_played [v0, t18_6] M ⟨fun t19_7 M7 =>
  @OptVH (lenV v1 M7) ⟨fun t23_11 =>
  @OptVH (minmaxV false t23_11 (.int .i64 40)) ⟨fun t24_12 =>
  @OptVH (sliceV 16 v1 none (some t24_12) none M7) ⟨fun t25_13 =>
  @CallH P i_transitlaw32_played [v0, t25_13] M7 ⟨fun t26_14 M14 =>
  Q .normal [(1, v1), (5, v5), (7, t19_7), (8, t26_14)] M14⟩⟩⟩⟩⟩⟩⟩⟩
theorem e4_3 (P : Program) (Q : Exit → Slots → Mem → Prop) (s : Slots) (M : Mem) : wpC P c4_3 Q s M = w4_3 P Q M (sget s 0) (sget s 1) (sget s 5) := by kernel_rfl
def o4_4 : List AOper := [⟨some 59, (.call i_transitlaw32_exampleHolds []), true, none⟩,
  ⟨some 6, (.mov (.tmp 59)), true, none⟩]
def c4_5 : ACode := (.region o4_4 [6])
def w4_5 (P : Program) (Q : Exit → Slots → Mem → Prop) (M : Mem) : Prop :=
  @CallH P i_transitlaw32_exampleHolds [] M ⟨fun t59_1 M1 => @OptBH (some t59_1) ⟨fun b59_1 =>
  Q .normal [(6, (.bool b59_1))] M1⟩⟩
theorem e4_5 (P : Program) (Q : Exit → Slots → Mem → Prop) (s : Slots) (M : Mem) : wpC P c4_5 Q s M = w4_5 P Q M := by kernel_rfl
def c4_6 : ACode := (.seq c4_5 .ret)
def o4_7 : List AOper := [⟨some 27, (.mov (.tmp 1)), false, none⟩,
  ⟨some 28, (.call i_transitlaw32_shorts [(.tmp 27)]), true, none⟩,
  ⟨some 29, (.un .not (.tmp 28)), true, none⟩,
  ⟨some 30, (.mov (.tmp 29)), true, none⟩,
  ⟨some 31, (.fieldAddr 0 (.tmp 5)), false, some (30, false)⟩,
  ⟨some 32, (.load 13 true (.tmp 31)), false, some (30, false)⟩,
  ⟨some 33, (.call i_transitlaw32_small [(.tmp 32)]), true, some (30, false)⟩,
  ⟨some 34, (.un .not (.tmp 33)), true, some (30, false)⟩,
  ⟨some 35, (.pick (.tmp 30) (.const (.bool true)) (.tmp 34)), true, none⟩,
  ⟨some 36, (.mov (.tmp 35)), true, none⟩,
  ⟨some 37, (.fieldAddr 13 (.tmp 5)), false, some (36, false)⟩,
  ⟨some 38, (.load 13 true (.tmp 37)), false, some (36, false)⟩,
  ⟨some 39, (.call i_transitlaw32_small [(.tmp 38)]), true, some (36, false)⟩,
  ⟨some 40, (.un .not (.tmp 39)), true, some (36, false)⟩,
  ⟨some 41, (.pick (.tmp 36) (.const (.bool true)) (.tmp 40)), true, none⟩,
  ⟨some 42, (.mov (.tmp 41)), true, none⟩,
  ⟨some 43, (.fieldAddr 0 (.tmp 5)), false, some (42, false)⟩,
  ⟨some 44, (.fieldAddr 0 (.tmp 43)), false, some (42, false)⟩,
  ⟨some 45, (.load 1 false (.tmp 44)), false, some (42, false)⟩,
  ⟨some 46, (.fieldAddr 13 (.tmp 5)), false, some (42, false)⟩,
  ⟨some 47, (.fieldAddr 0 (.tmp 46)), false, some (42, false)⟩,
  ⟨some 48, (.load 1 false (.tmp 47)), false, some (42, false)⟩,
  ⟨some 49, (.bin .eql .none (.tmp 45) (.tmp 48)), true, some (42, false)⟩,
  ⟨some 50, (.pick (.tmp 42) (.const (.bool true)) (.tmp 49)), true, none⟩,
  ⟨some 51, (.mov (.tmp 50)), true, none⟩,
  ⟨some 52, (.mov (.tmp 7)), false, some (51, false)⟩,
  ⟨some 53, (.bin .eql .ptr (.tmp 52) (.const .nilp)), true, some (51, false)⟩,
  ⟨some 54, (.pick (.tmp 51) (.const (.bool true)) (.tmp 53)), true, none⟩,
  ⟨some 55, (.mov (.tmp 54)), true, none⟩,
  ⟨some 56, (.mov (.tmp 8)), false, some (55, false)⟩,
  ⟨some 57, (.bin .eql .ptr (.tmp 56) (.const .nilp)), true, some (55, false)⟩,
  ⟨some 58, (.pick (.tmp 55) (.const (.bool true)) (.tmp 57)), true, none⟩]
def c4_8 : ACode := (.seq (.region o4_7 [5, 7, 8, 58]) (.cond (.tmp 58) c4_6 .skip))
def w4_8 (P : Program) (Q : Exit → Slots → Mem → Prop) (M : Mem) (v1 : V) (v5 : V) (v7 : V) (v8 : V) : Prop :=
  @CallH P i_transitlaw32_shorts [v1] M ⟨fun t28_2 M2 => @OptBH (some t28_2) ⟨fun b28_2 =>
  @OptBH (unV .not (.bool b28_2)) ⟨fun b29_3 =>
  @BIfH b29_3
  ⟨wpC P c4_6 Q [(5, v5), (7, v7), (8, v8), (58, (.bool true))] M2⟩
  ⟨@OptVH (moveV 0 v5) ⟨fun t31_14 =>
  @OptVH (loadV 13 true t31_14 M2) ⟨fun t32_15 =>
  @CallH P i_transitlaw32_small [t32_15] M2 ⟨fun t33_16 M16 => @OptBH (some t33_16) ⟨fun b33_16 =>
  @OptBH (unV .not (.bool b33_16)) ⟨fun b34_17 =>
  @BIfH b34_17
  ⟨wpC P c4_6 Q [(5, v5), (7, v7), (8, v8), (58, (.bool true))] M16⟩
  ⟨@OptVH (moveV 13 v5) ⟨fun t37_27 =>
  @OptVH (loadV 13 true t37_27 M16) ⟨fun t38_28 =>
  @CallH P i_transitlaw32_small [t38_28] M16 ⟨fun t39_29 M29 => @OptBH (some t39_29) ⟨fun b39_29 =>
  @OptBH (unV .not (.bool b39_29)) ⟨fun b40_30 =>
  @BIfH b40_30
  ⟨wpC P c4_6 Q [(5, v5), (7, v7), (8, v8), (58, (.bool true))] M29⟩
  ⟨@OptVH (moveV 0 v5) ⟨fun t43_38 =>
  @OptVH (moveV 0 t43_38) ⟨fun t44_39 =>
  @OptVH (loadV 1 false t44_39 M29) ⟨fun t45_40 =>
  @OptVH (moveV 13 v5) ⟨fun t46_41 =>
  @OptVH (moveV 0 t46_41) ⟨fun t47_42 =>
  @OptVH (loadV 1 false t47_42 M29) ⟨fun t48_43 =>
  @OptBH (binV .eql .none t45_40 t48_43) ⟨fun b49_44 =>
  @BIfH b49_44
  ⟨wpC P c4_6 Q [(5, v5), (7, v7), (8, v8), (58, (.bool true))] M29⟩
  ⟨@OptBH (binV .eql .ptr v7 .nilp) ⟨fun b53_51 =>
  @BIfH b53_51
  ⟨wpC P c4_6 Q [(5, v5), (7, v7), (8, v8), (58, (.bool true))] M29⟩
  ⟨@OptBH (binV .eql .ptr v8 .nilp) ⟨fun b57_56 =>
  @BIfH b57_56
  ⟨wpC P c4_6 Q [(5, v5), (7, v7), (8, v8), (58, (.bool b57_56))] M29⟩
  ⟨Q .normal [(5, v5), (7, v7), (8, v8), (58, (.bool b57_56))] M29⟩⟩⟩⟩⟩⟩⟩⟩⟩⟩⟩⟩⟩⟩⟩⟩⟩⟩⟩⟩⟩⟩⟩⟩⟩⟩⟩⟩
theorem e4_8 (P : Program) (Q : Exit → Slots → Mem → Prop) (s : Slots) (M : Mem) : wpC P c4_8 Q s M = w4_8 P Q M (sget s 1) (sget s 5) (sget s 7) (sget s 8) := by kernel_rfl
def o4_9 : List AOper := [⟨some 60, (.mov (.tmp 7)), false, none⟩,
  ⟨some 61, (.fieldAddr 0 (.tmp 5)), false, none⟩,
  ⟨some 62, (.load 13 true (.tmp 61)), false, none⟩,
  ⟨some 63, (.fieldAddr 26 (.tmp 5)), false, none⟩,
  ⟨some 64, (.load 1 false (.tmp 63)), false, none⟩,
  ⟨some 65, (.call i_inbox_Inbox_Receive [(.tmp 60), (.tmp 62), (.tmp 64)]), false, none⟩,
  ⟨some 66, (.mov (.tmp 7)), false, none⟩,
  ⟨some 67, (.fieldAddr 13 (.tmp 5)), false, none⟩,
  ⟨some 68, (.load 13 true (.tmp 67)), false, none⟩,
  ⟨some 69, (.fieldAddr 26 (.tmp 5)), false, none⟩,
  ⟨some 70, (.load 1 false (.tmp 69)), false, none⟩,
  ⟨some 71, (.call i_inbox_Inbox_Receive [(.tmp 66), (.tmp 68), (.tmp 70)]), false, none⟩,
  ⟨some 9, (.mov (.tmp 65)), false, none⟩,
  ⟨some 10, (.mov (.tmp 71)), false, none⟩]
def c4_10 : ACode := (.mixed o4_9 [true, true, true, true, true, true, true, true, true, true, true, false, true, true] [5, 7, 8, 9, 10])
def w4_10 (P : Program) (Q : Exit → Slots → Mem → Prop) (M : Mem) (v5 : V) (v7 : V) (v8 : V) : Prop :=
  @OptVH (moveV 0 v5) ⟨fun t61_2 =>
  @OptVH (loadV 13 true t61_2 M) ⟨fun t62_3 =>
  @OptVH (moveV 26 v5) ⟨fun t63_4 =>
  @OptVH (loadV 1 false t63_4 M) ⟨fun t64_5 =>
  @CallQ P i_inbox_Inbox_Receive [v7, t62_3, t64_5] M ⟨fun t65_6 M6 =>
  @OptVH (moveV 13 v5) ⟨fun t67_8 =>
  @OptVH (loadV 13 true t67_8 M6) ⟨fun t68_9 =>
  @OptVH (moveV 26 v5) ⟨fun t69_10 =>
  @OptVH (loadV 1 false t69_10 M6) ⟨fun t70_11 =>
  @CallH P i_inbox_Inbox_Receive [v7, t68_9, t70_11] M6 ⟨fun t71_12 M12 =>
  Q .normal [(5, v5), (7, v7), (8, v8), (9, t65_6), (10, t71_12)] M12⟩⟩⟩⟩⟩⟩⟩⟩⟩⟩
theorem e4_10 (P : Program) (Q : Exit → Slots → Mem → Prop) (s : Slots) (M : Mem) : wpC P c4_10 Q s M = w4_10 P Q M (sget s 5) (sget s 7) (sget s 8) := by kernel_rfl
def o4_11 : List AOper := [⟨some 72, (.mov (.tmp 8)), false, none⟩,
  ⟨some 73, (.fieldAddr 13 (.tmp 5)), false, none⟩,
  ⟨some 74, (.load 13 true (.tmp 73)), false, none⟩,
  ⟨some 75, (.fieldAddr 26 (.tmp 5)), false, none⟩,
  ⟨some 76, (.load 1 false (.tmp 75)), false, none⟩,
  ⟨some 77, (.call i_inbox_Inbox_Receive [(.tmp 72), (.tmp 74), (.tmp 76)]), false, none⟩,
  ⟨some 78, (.mov (.tmp 8)), false, none⟩,
  ⟨some 79, (.fieldAddr 0 (.tmp 5)), false, none⟩,
  ⟨some 80, (.load 13 true (.tmp 79)), false, none⟩,
  ⟨some 81, (.fieldAddr 26 (.tmp 5)), false, none⟩,
  ⟨some 82, (.load 1 false (.tmp 81)), false, none⟩,
  ⟨some 83, (.call i_inbox_Inbox_Receive [(.tmp 78), (.tmp 80), (.tmp 82)]), false, none⟩,
  ⟨some 11, (.mov (.tmp 77)), false, none⟩,
  ⟨some 12, (.mov (.tmp 83)), false, none⟩]
def c4_12 : ACode := (.mixed o4_11 [true, true, true, true, true, true, true, true, true, true, true, false, true, true] [5, 7, 8, 9, 10, 11, 12])
def w4_12 (P : Program) (Q : Exit → Slots → Mem → Prop) (M : Mem) (v5 : V) (v7 : V) (v8 : V) (v9 : V) (v10 : V) : Prop :=
  @OptVH (moveV 13 v5) ⟨fun t73_2 =>
  @OptVH (loadV 13 true t73_2 M) ⟨fun t74_3 =>
  @OptVH (moveV 26 v5) ⟨fun t75_4 =>
  @OptVH (loadV 1 false t75_4 M) ⟨fun t76_5 =>
  @CallQ P i_inbox_Inbox_Receive [v8, t74_3, t76_5] M ⟨fun t77_6 M6 =>
  @OptVH (moveV 0 v5) ⟨fun t79_8 =>
  @OptVH (loadV 13 true t79_8 M6) ⟨fun t80_9 =>
  @OptVH (moveV 26 v5) ⟨fun t81_10 =>
  @OptVH (loadV 1 false t81_10 M6) ⟨fun t82_11 =>
  @CallH P i_inbox_Inbox_Receive [v8, t80_9, t82_11] M6 ⟨fun t83_12 M12 =>
  Q .normal [(5, v5), (7, v7), (8, v8), (9, v9), (10, v10), (11, t77_6), (12, t83_12)] M12⟩⟩⟩⟩⟩⟩⟩⟩⟩⟩
theorem e4_12 (P : Program) (Q : Exit → Slots → Mem → Prop) (s : Slots) (M : Mem) : wpC P c4_12 Q s M = w4_12 P Q M (sget s 5) (sget s 7) (sget s 8) (sget s 9) (sget s 10) := by kernel_rfl
def o4_13 : List AOper := [⟨some 98, (.call i_transitlaw32_exampleHolds []), true, none⟩,
  ⟨some 6, (.mov (.tmp 98)), true, none⟩]
def c4_14 : ACode := (.region o4_13 [6])
def w4_14 (P : Program) (Q : Exit → Slots → Mem → Prop) (M : Mem) : Prop :=
  @CallH P i_transitlaw32_exampleHolds [] M ⟨fun t98_1 M1 => @OptBH (some t98_1) ⟨fun b98_1 =>
  Q .normal [(6, (.bool b98_1))] M1⟩⟩
theorem e4_14 (P : Program) (Q : Exit → Slots → Mem → Prop) (s : Slots) (M : Mem) : wpC P c4_14 Q s M = w4_14 P Q M := by kernel_rfl
def c4_15 : ACode := (.seq c4_14 .ret)
def o4_16 : List AOper := [⟨some 84, (.mov (.tmp 9)), false, none⟩,
  ⟨some 85, (.bin .neq .none (.tmp 84) (.const (.int .i64 0))), true, none⟩,
  ⟨some 86, (.mov (.tmp 85)), true, none⟩,
  ⟨some 87, (.mov (.tmp 10)), false, some (86, false)⟩,
  ⟨some 88, (.bin .neq .none (.tmp 87) (.const (.int .i64 0))), true, some (86, false)⟩,
  ⟨some 89, (.pick (.tmp 86) (.const (.bool true)) (.tmp 88)), true, none⟩,
  ⟨some 90, (.mov (.tmp 89)), true, none⟩,
  ⟨some 91, (.mov (.tmp 11)), false, some (90, false)⟩,
  ⟨some 92, (.bin .neq .none (.tmp 91) (.const (.int .i64 0))), true, some (90, false)⟩,
  ⟨some 93, (.pick (.tmp 90) (.const (.bool true)) (.tmp 92)), true, none⟩,
  ⟨some 94, (.mov (.tmp 93)), true, none⟩,
  ⟨some 95, (.mov (.tmp 12)), false, some (94, false)⟩,
  ⟨some 96, (.bin .neq .none (.tmp 95) (.const (.int .i64 0))), true, some (94, false)⟩,
  ⟨some 97, (.pick (.tmp 94) (.const (.bool true)) (.tmp 96)), true, none⟩]
def c4_17 : ACode := (.seq (.region o4_16 [5, 7, 8, 97]) (.cond (.tmp 97) c4_15 .skip))
def w4_17 (P : Program) (Q : Exit → Slots → Mem → Prop) (M : Mem) (v5 : V) (v7 : V) (v8 : V) (v9 : V) (v10 : V) (v11 : V) (v12 : V) : Prop :=
  @OptBH (binV .neq .none v9 (.int .i64 0)) ⟨fun b85_2 =>
  @BIfH b85_2
  ⟨wpC P c4_15 Q [(5, v5), (7, v7), (8, v8), (97, (.bool true))] M⟩
  ⟨@OptBH (binV .neq .none v10 (.int .i64 0)) ⟨fun b88_10 =>
  @BIfH b88_10
  ⟨wpC P c4_15 Q [(5, v5), (7, v7), (8, v8), (97, (.bool true))] M⟩
  ⟨@OptBH (binV .neq .none v11 (.int .i64 0)) ⟨fun b92_17 =>
  @BIfH b92_17
  ⟨wpC P c4_15 Q [(5, v5), (7, v7), (8, v8), (97, (.bool true))] M⟩
  ⟨@OptBH (binV .neq .none v12 (.int .i64 0)) ⟨fun b96_22 =>
  @BIfH b96_22
  ⟨wpC P c4_15 Q [(5, v5), (7, v7), (8, v8), (97, (.bool b96_22))] M⟩
  ⟨Q .normal [(5, v5), (7, v7), (8, v8), (97, (.bool b96_22))] M⟩⟩⟩⟩⟩⟩⟩⟩
theorem e4_17 (P : Program) (Q : Exit → Slots → Mem → Prop) (s : Slots) (M : Mem) : wpC P c4_17 Q s M = w4_17 P Q M (sget s 5) (sget s 7) (sget s 8) (sget s 9) (sget s 10) (sget s 11) (sget s 12) := by kernel_rfl
def o4_18 : List AOper := [⟨some 99, (.mov (.tmp 7)), false, none⟩,
  ⟨some 100, (.fieldAddr 27 (.tmp 5)), false, none⟩,
  ⟨some 101, (.load 1 false (.tmp 100)), false, none⟩,
  ⟨some 102, (.call i_inbox_Inbox_Active [(.tmp 99), (.tmp 101)]), false, none⟩,
  ⟨some 103, (.mov (.tmp 8)), false, none⟩,
  ⟨some 104, (.fieldAddr 27 (.tmp 5)), false, none⟩,
  ⟨some 105, (.load 1 false (.tmp 104)), false, none⟩,
  ⟨some 106, (.call i_inbox_Inbox_Active [(.tmp 103), (.tmp 105)]), false, none⟩,
  ⟨some 107, (.call i_transitref32_Same [(.tmp 102), (.tmp 106)]), true, none⟩,
  ⟨some 108, (.mov (.tmp 107)), true, none⟩,
  ⟨some 109, (.call i_transitlaw32_exampleHolds []), true, some (108, true)⟩,
  ⟨some 110, (.pick (.tmp 108) (.tmp 109) (.const (.bool false))), true, none⟩,
  ⟨some 6, (.mov (.tmp 110)), true, none⟩]
def c4_19 : ACode := (.mixed o4_18 [true, true, true, true, true, true, true, false, false, true, false, true, true] [6])
def w4_19 (P : Program) (Q : Exit → Slots → Mem → Prop) (M : Mem) (v5 : V) (v7 : V) (v8 : V) : Prop :=
  @OptVH (moveV 27 v5) ⟨fun t100_2 =>
  @OptVH (loadV 1 false t100_2 M) ⟨fun t101_3 =>
  @CallQ P i_inbox_Inbox_Active [v7, t101_3] M ⟨fun t102_4 M4 =>
  @OptVH (moveV 27 v5) ⟨fun t104_6 =>
  @OptVH (loadV 1 false t104_6 M4) ⟨fun t105_7 =>
  @CallH P i_inbox_Inbox_Active [v8, t105_7] M4 ⟨fun t106_8 M8 =>
  @CallH P i_transitref32_Same [t102_4, t106_8] M8 ⟨fun t107_9 M9 => @OptBH (some t107_9) ⟨fun b107_9 =>
  @BIfH b107_9
  ⟨@CallH P i_transitlaw32_exampleHolds [] M9 ⟨fun t109_11 M11 => @OptBH (some t109_11) ⟨fun b109_11 =>
  Q .normal [(6, (.bool b109_11))] M11⟩⟩⟩
  ⟨Q .normal [(6, (.bool false))] M9⟩⟩⟩⟩⟩⟩⟩⟩⟩
theorem e4_19 (P : Program) (Q : Exit → Slots → Mem → Prop) (s : Slots) (M : Mem) : wpC P c4_19 Q s M = w4_19 P Q M (sget s 5) (sget s 7) (sget s 8) := by kernel_rfl
def c4_20 : ACode := (.seq c4_19 .ret)
def c4_21 : ACode := (.seq c4_17 c4_20)
def c4_22 : ACode := (.seq c4_12 c4_21)
def c4_23 : ACode := (.seq c4_10 c4_22)
def c4_24 : ACode := (.seq c4_8 c4_23)
def c4_25 : ACode := (.seq c4_3 c4_24)
def c4_26 : ACode := (.seq c4_1 c4_25)
def fn_transitlaw32_InboxCommutes : AFn := ⟨111, [(.tmp 6)], c4_26⟩
theorem fn_transitlaw32_InboxCommutes_ok : resFn PR h_transitlaw32_InboxCommutes i_transitlaw32_InboxCommutes = some fn_transitlaw32_InboxCommutes := by kernel_rfl

def h_transitlaw32_InboxActive : Hints := ⟨[(0, [0, 1, 2]), (1, [1, 2, 7]), (2, [1, 2, 7, 29]), (3, [6]), (4, [1, 2, 7, 8, 9]), (5, [2, 7, 8, 9, 47]), (6, [6]), (7, [2, 7, 8, 9, 48, 49, 50]), (8, [2, 7, 8, 9, 48, 49, 50, 51]), (9, [2, 7, 8, 9, 11, 48, 49, 50]), (10, [2, 7, 8, 9, 11, 48, 49, 50, 76]), (11, [6]), (12, [2, 7, 8, 9, 11, 48, 49, 50, 77, 78, 79]), (13, [2, 7, 8, 9, 11, 48, 49, 50, 77, 78, 79, 80]), (14, [2, 7, 8, 9, 11, 13, 48, 49, 50, 77, 78, 79]), (15, [2, 7, 8, 9, 11, 48, 49, 50, 77, 78, 79, 92]), (16, [6]), (17, [2, 7, 8, 9, 11, 48, 49, 50, 77, 78, 79]), (18, [2, 7, 8, 9, 48, 49, 50]), (19, [2, 7, 9, 95, 96, 97]), (20, [2, 7, 9, 95, 96, 97, 98]), (21, [2, 7, 9, 15, 95, 96, 97]), (22, [2, 7, 9, 95, 96, 97, 130]), (23, [6]), (24, [2, 7, 9, 95, 96, 97]), (25, [6])], [(8, [2, 7, 8, 9, 48, 49, 50]), (13, [2, 7, 8, 9, 11, 48, 49, 50, 77, 78, 79]), (20, [2, 7, 9, 95, 96, 97])], []⟩
def o5_0 : List AOper := [⟨some 6, (.mov (.const (.bool false))), true, none⟩]
def c5_1 : ACode := (.region o5_0 [0, 1, 2])
def w5_1 (_P : Program) (Q : Exit → Slots → Mem → Prop) (M : Mem) (v0 : V) (v1 : V) (v2 : V) : Prop :=
  Q .normal [(0, v0), (1, v1), (2, v2)] M
theorem e5_1 (P : Program) (Q : Exit → Slots → Mem → Prop) (s : Slots) (M : Mem) : wpC P c5_1 Q s M = w5_1 P Q M (sget s 0) (sget s 1) (sget s 2) := by kernel_rfl
def o5_2 : List AOper := [⟨some 16, (.mov (.tmp 0)), false, none⟩,
  ⟨some 17, (.mov (.tmp 1)), false, none⟩,
  ⟨some 18, (.mov (.tmp 1)), false, none⟩,
  ⟨some 19, (.lenSl (.tmp 18)), false, none⟩,
  ⟨some 20, (.minmax false (.tmp 19) (.const (.int .i64 40))), false, none⟩,
  ⟨some 21, (.slice 16 (.tmp 17) none (some (.tmp 20)) none), false, none⟩,
  ⟨some 22, (.call i_transitlaw32_played [(.tmp 16), (.tmp 21)]), false, none⟩,
  ⟨some 7, (.mov (.tmp 22)), false, none⟩]
def c5_3 : ACode := (.region o5_2 [1, 2, 7])
def w5_3 (P : Program) (Q : Exit → Slots → Mem → Prop) (M : Mem) (v0 : V) (v1 : V) (v2 : V) : Prop :=
  @OptVH (lenV v1 M) ⟨fun t19_4 =>
  @OptVH (minmaxV false t19_4 (.int .i64 40)) ⟨fun t20_5 =>
  @OptVH (sliceV 16 v1 none (some t20_5) none M) ⟨fun t21_6 =>
  @CallH P i_transitlaw32_played [v0, t21_6] M ⟨fun t22_7 M7 =>
  Q .normal [(1, v1), (2, v2), (7, t22_7)] M7⟩⟩⟩⟩
theorem e5_3 (P : Program) (Q : Exit → Slots → Mem → Prop) (s : Slots) (M : Mem) : wpC P c5_3 Q s M = w5_3 P Q M (sget s 0) (sget s 1) (sget s 2) := by kernel_rfl
def o5_4 : List AOper := [⟨some 30, (.call i_transitlaw32_exampleHolds []), true, none⟩,
  ⟨some 6, (.mov (.tmp 30)), true, none⟩]
def c5_5 : ACode := (.region o5_4 [6])
def w5_5 (P : Program) (Q : Exit → Slots → Mem → Prop) (M : Mem) : Prop :=
  @CallH P i_transitlaw32_exampleHolds [] M ⟨fun t30_1 M1 => @OptBH (some t30_1) ⟨fun b30_1 =>
  Q .normal [(6, (.bool b30_1))] M1⟩⟩
theorem e5_5 (P : Program) (Q : Exit → Slots → Mem → Prop) (s : Slots) (M : Mem) : wpC P c5_5 Q s M = w5_5 P Q M := by kernel_rfl
def c5_6 : ACode := (.seq c5_5 .ret)
def o5_7 : List AOper := [⟨some 23, (.mov (.tmp 1)), false, none⟩,
  ⟨some 24, (.call i_transitlaw32_shorts [(.tmp 23)]), true, none⟩,
  ⟨some 25, (.un .not (.tmp 24)), true, none⟩,
  ⟨some 26, (.mov (.tmp 25)), true, none⟩,
  ⟨some 27, (.mov (.tmp 7)), false, some (26, false)⟩,
  ⟨some 28, (.bin .eql .ptr (.tmp 27) (.const .nilp)), true, some (26, false)⟩,
  ⟨some 29, (.pick (.tmp 26) (.const (.bool true)) (.tmp 28)), true, none⟩]
def c5_8 : ACode := (.seq (.region o5_7 [1, 2, 7, 29]) (.cond (.tmp 29) c5_6 .skip))
def w5_8 (P : Program) (Q : Exit → Slots → Mem → Prop) (M : Mem) (v1 : V) (v2 : V) (v7 : V) : Prop :=
  @CallH P i_transitlaw32_shorts [v1] M ⟨fun t24_2 M2 => @OptBH (some t24_2) ⟨fun b24_2 =>
  @OptBH (unV .not (.bool b24_2)) ⟨fun b25_3 =>
  @BIfH b25_3
  ⟨wpC P c5_6 Q [(1, v1), (2, v2), (7, v7), (29, (.bool true))] M2⟩
  ⟨@OptBH (binV .eql .ptr v7 .nilp) ⟨fun b28_7 =>
  @BIfH b28_7
  ⟨wpC P c5_6 Q [(1, v1), (2, v2), (7, v7), (29, (.bool b28_7))] M2⟩
  ⟨Q .normal [(1, v1), (2, v2), (7, v7), (29, (.bool b28_7))] M2⟩⟩⟩⟩⟩⟩
theorem e5_8 (P : Program) (Q : Exit → Slots → Mem → Prop) (s : Slots) (M : Mem) : wpC P c5_8 Q s M = w5_8 P Q M (sget s 1) (sget s 2) (sget s 7) := by kernel_rfl
def o5_9 : List AOper := [⟨some 31, (.mov (.tmp 7)), false, none⟩,
  ⟨some 32, (.call i_inbox_Inbox_Messages [(.tmp 31)]), false, none⟩,
  ⟨some 33, (.mov (.tmp 7)), false, none⟩,
  ⟨some 34, (.mov (.tmp 2)), false, none⟩,
  ⟨some 35, (.call i_inbox_Inbox_Active [(.tmp 33), (.tmp 34)]), false, none⟩,
  ⟨some 8, (.mov (.tmp 32)), false, none⟩,
  ⟨some 9, (.mov (.tmp 35)), false, none⟩]
def c5_10 : ACode := (.region o5_9 [1, 2, 7, 8, 9])
def w5_10 (P : Program) (Q : Exit → Slots → Mem → Prop) (M : Mem) (v1 : V) (v2 : V) (v7 : V) : Prop :=
  @CallH P i_inbox_Inbox_Messages [v7] M ⟨fun t32_2 M2 =>
  @CallH P i_inbox_Inbox_Active [v7, v2] M2 ⟨fun t35_5 M5 =>
  Q .normal [(1, v1), (2, v2), (7, v7), (8, t32_2), (9, t35_5)] M5⟩⟩
theorem e5_10 (P : Program) (Q : Exit → Slots → Mem → Prop) (s : Slots) (M : Mem) : wpC P c5_10 Q s M = w5_10 P Q M (sget s 1) (sget s 2) (sget s 7) := by kernel_rfl
def o5_11 : List AOper := [⟨some 6, (.mov (.const (.bool false))), true, none⟩]
def c5_12 : ACode := (.region o5_11 [6])
def w5_12 (_P : Program) (Q : Exit → Slots → Mem → Prop) (M : Mem) : Prop :=
  Q .normal [(6, (.bool false))] M
theorem e5_12 (P : Program) (Q : Exit → Slots → Mem → Prop) (s : Slots) (M : Mem) : wpC P c5_12 Q s M = w5_12 P Q M := by kernel_rfl
def c5_13 : ACode := (.seq c5_12 .ret)
def o5_14 : List AOper := [⟨some 36, (.mov (.tmp 8)), false, none⟩,
  ⟨some 37, (.lenSl (.tmp 36)), false, none⟩,
  ⟨some 38, (.mov (.tmp 1)), false, none⟩,
  ⟨some 39, (.lenSl (.tmp 38)), false, none⟩,
  ⟨some 40, (.bin .gtr .none (.tmp 37) (.tmp 39)), true, none⟩,
  ⟨some 41, (.mov (.tmp 40)), true, none⟩,
  ⟨some 42, (.mov (.tmp 9)), false, some (41, false)⟩,
  ⟨some 43, (.lenSl (.tmp 42)), false, some (41, false)⟩,
  ⟨some 44, (.mov (.tmp 8)), false, some (41, false)⟩,
  ⟨some 45, (.lenSl (.tmp 44)), false, some (41, false)⟩,
  ⟨some 46, (.bin .gtr .none (.tmp 43) (.tmp 45)), true, some (41, false)⟩,
  ⟨some 47, (.pick (.tmp 41) (.const (.bool true)) (.tmp 46)), true, none⟩]
def c5_15 : ACode := (.seq (.region o5_14 [2, 7, 8, 9, 47]) (.cond (.tmp 47) c5_13 .skip))
def w5_15 (P : Program) (Q : Exit → Slots → Mem → Prop) (M : Mem) (v1 : V) (v2 : V) (v7 : V) (v8 : V) (v9 : V) : Prop :=
  @OptVH (lenV v8 M) ⟨fun t37_2 =>
  @OptVH (lenV v1 M) ⟨fun t39_4 =>
  @OptBH (binV .gtr .none t37_2 t39_4) ⟨fun b40_5 =>
  @BIfH b40_5
  ⟨wpC P c5_13 Q [(2, v2), (7, v7), (8, v8), (9, v9), (47, (.bool true))] M⟩
  ⟨@OptVH (lenV v9 M) ⟨fun t43_9 =>
  @OptVH (lenV v8 M) ⟨fun t45_11 =>
  @OptBH (binV .gtr .none t43_9 t45_11) ⟨fun b46_12 =>
  @BIfH b46_12
  ⟨wpC P c5_13 Q [(2, v2), (7, v7), (8, v8), (9, v9), (47, (.bool b46_12))] M⟩
  ⟨Q .normal [(2, v2), (7, v7), (8, v8), (9, v9), (47, (.bool b46_12))] M⟩⟩⟩⟩⟩⟩⟩⟩
theorem e5_15 (P : Program) (Q : Exit → Slots → Mem → Prop) (s : Slots) (M : Mem) : wpC P c5_15 Q s M = w5_15 P Q M (sget s 1) (sget s 2) (sget s 7) (sget s 8) (sget s 9) := by kernel_rfl
def o5_16 : List AOper := [⟨some 48, (.mov (.tmp 9)), false, none⟩,
  ⟨some 49, (.lenSl (.tmp 48)), false, none⟩,
  ⟨some 50, (.mov (.const (.int .i64 0))), false, none⟩]
def c5_17 : ACode := (.region o5_16 [2, 7, 8, 9, 48, 49, 50])
def w5_17 (_P : Program) (Q : Exit → Slots → Mem → Prop) (M : Mem) (v2 : V) (v7 : V) (v8 : V) (v9 : V) : Prop :=
  @OptVH (lenV v9 M) ⟨fun t49_2 =>
  Q .normal [(2, v2), (7, v7), (8, v8), (9, v9), (48, v9), (49, t49_2), (50, (.int .i64 0))] M⟩
theorem e5_17 (P : Program) (Q : Exit → Slots → Mem → Prop) (s : Slots) (M : Mem) : wpC P c5_17 Q s M = w5_17 P Q M (sget s 2) (sget s 7) (sget s 8) (sget s 9) := by kernel_rfl
def o5_18 : List AOper := [⟨some 51, (.bin .lss .none (.tmp 50) (.tmp 49)), false, none⟩]
def c5_19 : ACode := (.region o5_18 [2, 7, 8, 9, 48, 49, 50, 51])
def w5_19 (_P : Program) (Q : Exit → Slots → Mem → Prop) (M : Mem) (v2 : V) (v7 : V) (v8 : V) (v9 : V) (v48 : V) (v49 : V) (v50 : V) : Prop :=
  @OptVH (binV .lss .none v50 v49) ⟨fun t51_1 =>
  Q .normal [(2, v2), (7, v7), (8, v8), (9, v9), (48, v48), (49, v49), (50, v50), (51, t51_1)] M⟩
theorem e5_19 (P : Program) (Q : Exit → Slots → Mem → Prop) (s : Slots) (M : Mem) : wpC P c5_19 Q s M = w5_19 P Q M (sget s 2) (sget s 7) (sget s 8) (sget s 9) (sget s 48) (sget s 49) (sget s 50) := by kernel_rfl
def c5_20 : ACode := (.cond (.tmp 51) .skip (.exit 0))
def o5_21 : List AOper := [⟨some 52, (.indexSl 13 (.tmp 48) (.tmp 50)), false, none⟩,
  ⟨some 53, (.load 13 true (.tmp 52)), false, none⟩,
  ⟨some 11, (.alloc [(.int .i64 0), (.int .i64 0), (.int .i64 0), (.int .i64 0), (.int .i64 0), (.str []), (.int .i64 0), (.int .i64 0), (.int .i64 0), (.int .i64 0), (.int .i64 0), (.bool false), (.slice [] .nil)]), false, none⟩,
  ⟨none, (.store 13 (.tmp 11) (.tmp 53)), false, none⟩]
def c5_22 : ACode := (.region o5_21 [2, 7, 8, 9, 11, 48, 49, 50])
def w5_22 (_P : Program) (Q : Exit → Slots → Mem → Prop) (M : Mem) (v2 : V) (v7 : V) (v8 : V) (v9 : V) (v48 : V) (v49 : V) (v50 : V) : Prop :=
  @OptVH (indexSlV 13 v48 v50 M) ⟨fun t52_1 =>
  @OptVH (loadV 13 true t52_1 M) ⟨fun t53_2 =>
  @OptMH (allocV [(.int .i64 0), (.int .i64 0), (.int .i64 0), (.int .i64 0), (.int .i64 0), (.str []), (.int .i64 0), (.int .i64 0), (.int .i64 0), (.int .i64 0), (.int .i64 0), (.bool false), (.slice [] .nil)] M) ⟨fun t11_3 M3 =>
  @OptMH (storeVM 13 t11_3 t53_2 M3) ⟨fun _tx_4 M4 =>
  Q .normal [(2, v2), (7, v7), (8, v8), (9, v9), (11, t11_3), (48, v48), (49, v49), (50, v50)] M4⟩⟩⟩⟩
theorem e5_22 (P : Program) (Q : Exit → Slots → Mem → Prop) (s : Slots) (M : Mem) : wpC P c5_22 Q s M = w5_22 P Q M (sget s 2) (sget s 7) (sget s 8) (sget s 9) (sget s 48) (sget s 49) (sget s 50) := by kernel_rfl
def o5_23 : List AOper := [⟨some 6, (.mov (.const (.bool false))), true, none⟩]
def c5_24 : ACode := (.region o5_23 [6])
def w5_24 (_P : Program) (Q : Exit → Slots → Mem → Prop) (M : Mem) : Prop :=
  Q .normal [(6, (.bool false))] M
theorem e5_24 (P : Program) (Q : Exit → Slots → Mem → Prop) (s : Slots) (M : Mem) : wpC P c5_24 Q s M = w5_24 P Q M := by kernel_rfl
def c5_25 : ACode := (.seq c5_24 .ret)
def o5_26 : List AOper := [⟨some 54, (.fieldAddr 2 (.tmp 11)), false, none⟩,
  ⟨some 55, (.load 1 false (.tmp 54)), false, none⟩,
  ⟨some 56, (.mov (.tmp 2)), false, none⟩,
  ⟨some 57, (.bin .gtr .none (.tmp 55) (.tmp 56)), true, none⟩,
  ⟨some 58, (.mov (.tmp 57)), true, none⟩,
  ⟨some 59, (.fieldAddr 3 (.tmp 11)), false, some (58, false)⟩,
  ⟨some 60, (.load 1 false (.tmp 59)), false, some (58, false)⟩,
  ⟨some 61, (.mov (.tmp 2)), false, some (58, false)⟩,
  ⟨some 62, (.bin .leq .none (.tmp 60) (.tmp 61)), true, some (58, false)⟩,
  ⟨some 63, (.pick (.tmp 58) (.const (.bool true)) (.tmp 62)), true, none⟩,
  ⟨some 64, (.mov (.tmp 63)), true, none⟩,
  ⟨some 65, (.mov (.tmp 7)), false, some (64, false)⟩,
  ⟨some 66, (.fieldAddr 0 (.tmp 11)), false, some (64, false)⟩,
  ⟨some 67, (.load 1 false (.tmp 66)), false, some (64, false)⟩,
  ⟨some 68, (.mov (.tmp 2)), false, some (64, false)⟩,
  ⟨some 69, (.call i_inbox_Inbox_Failed [(.tmp 65), (.tmp 67), (.tmp 68)]), true, some (64, false)⟩,
  ⟨some 70, (.pick (.tmp 64) (.const (.bool true)) (.tmp 69)), true, none⟩,
  ⟨some 71, (.mov (.tmp 70)), true, none⟩,
  ⟨some 72, (.mov (.tmp 8)), false, some (71, false)⟩,
  ⟨some 73, (.load 13 true (.tmp 11)), false, some (71, false)⟩,
  ⟨some 74, (.call i_transitlaw32_has [(.tmp 72), (.tmp 73)]), true, some (71, false)⟩,
  ⟨some 75, (.un .not (.tmp 74)), true, some (71, false)⟩,
  ⟨some 76, (.pick (.tmp 71) (.const (.bool true)) (.tmp 75)), true, none⟩]
def c5_27 : ACode := (.seq (.region o5_26 [2, 7, 8, 9, 11, 48, 49, 50, 76]) (.cond (.tmp 76) c5_25 .skip))
def w5_27 (P : Program) (Q : Exit → Slots → Mem → Prop) (M : Mem) (v2 : V) (v7 : V) (v8 : V) (v9 : V) (v11 : V) (v48 : V) (v49 : V) (v50 : V) : Prop :=
  @OptVH (moveV 2 v11) ⟨fun t54_1 =>
  @OptVH (loadV 1 false t54_1 M) ⟨fun t55_2 =>
  @OptBH (binV .gtr .none t55_2 v2) ⟨fun b57_4 =>
  @BIfH b57_4
  ⟨wpC P c5_25 Q [(2, v2), (7, v7), (8, v8), (9, v9), (11, v11), (48, v48), (49, v49), (50, v50), (76, (.bool true))] M⟩
  ⟨@OptVH (moveV 3 v11) ⟨fun t59_11 =>
  @OptVH (loadV 1 false t59_11 M) ⟨fun t60_12 =>
  @OptBH (binV .leq .none t60_12 v2) ⟨fun b62_14 =>
  @BIfH b62_14
  ⟨wpC P c5_25 Q [(2, v2), (7, v7), (8, v8), (9, v9), (11, v11), (48, v48), (49, v49), (50, v50), (76, (.bool true))] M⟩
  ⟨@OptVH (moveV 0 v11) ⟨fun t66_21 =>
  @OptVH (loadV 1 false t66_21 M) ⟨fun t67_22 =>
  @CallH P i_inbox_Inbox_Failed [v7, t67_22, v2] M ⟨fun t69_24 M24 => @OptBH (some t69_24) ⟨fun b69_24 =>
  @BIfH b69_24
  ⟨wpC P c5_25 Q [(2, v2), (7, v7), (8, v8), (9, v9), (11, v11), (48, v48), (49, v49), (50, v50), (76, (.bool true))] M24⟩
  ⟨@OptVH (loadV 13 true v11 M24) ⟨fun t73_29 =>
  @CallH P i_transitlaw32_has [v8, t73_29] M24 ⟨fun t74_30 M30 => @OptBH (some t74_30) ⟨fun b74_30 =>
  @OptBH (unV .not (.bool b74_30)) ⟨fun b75_31 =>
  @BIfH b75_31
  ⟨wpC P c5_25 Q [(2, v2), (7, v7), (8, v8), (9, v9), (11, v11), (48, v48), (49, v49), (50, v50), (76, (.bool b75_31))] M30⟩
  ⟨Q .normal [(2, v2), (7, v7), (8, v8), (9, v9), (11, v11), (48, v48), (49, v49), (50, v50), (76, (.bool b75_31))] M30⟩⟩⟩⟩⟩⟩⟩⟩⟩⟩⟩⟩⟩⟩⟩⟩⟩⟩
theorem e5_27 (P : Program) (Q : Exit → Slots → Mem → Prop) (s : Slots) (M : Mem) : wpC P c5_27 Q s M = w5_27 P Q M (sget s 2) (sget s 7) (sget s 8) (sget s 9) (sget s 11) (sget s 48) (sget s 49) (sget s 50) := by kernel_rfl
def o5_28 : List AOper := [⟨some 77, (.mov (.tmp 9)), false, none⟩,
  ⟨some 78, (.lenSl (.tmp 77)), false, none⟩,
  ⟨some 79, (.mov (.const (.int .i64 0))), false, none⟩]
def c5_29 : ACode := (.region o5_28 [2, 7, 8, 9, 11, 48, 49, 50, 77, 78, 79])
def w5_29 (_P : Program) (Q : Exit → Slots → Mem → Prop) (M : Mem) (v2 : V) (v7 : V) (v8 : V) (v9 : V) (v11 : V) (v48 : V) (v49 : V) (v50 : V) : Prop :=
  @OptVH (lenV v9 M) ⟨fun t78_2 =>
  Q .normal [(2, v2), (7, v7), (8, v8), (9, v9), (11, v11), (48, v48), (49, v49), (50, v50), (77, v9), (78, t78_2), (79, (.int .i64 0))] M⟩
theorem e5_29 (P : Program) (Q : Exit → Slots → Mem → Prop) (s : Slots) (M : Mem) : wpC P c5_29 Q s M = w5_29 P Q M (sget s 2) (sget s 7) (sget s 8) (sget s 9) (sget s 11) (sget s 48) (sget s 49) (sget s 50) := by kernel_rfl
def o5_30 : List AOper := [⟨some 80, (.bin .lss .none (.tmp 79) (.tmp 78)), false, none⟩]
def c5_31 : ACode := (.region o5_30 [2, 7, 8, 9, 11, 48, 49, 50, 77, 78, 79, 80])
def w5_31 (_P : Program) (Q : Exit → Slots → Mem → Prop) (M : Mem) (v2 : V) (v7 : V) (v8 : V) (v9 : V) (v11 : V) (v48 : V) (v49 : V) (v50 : V) (v77 : V) (v78 : V) (v79 : V) : Prop :=
  @OptVH (binV .lss .none v79 v78) ⟨fun t80_1 =>
  Q .normal [(2, v2), (7, v7), (8, v8), (9, v9), (11, v11), (48, v48), (49, v49), (50, v50), (77, v77), (78, v78), (79, v79), (80, t80_1)] M⟩
theorem e5_31 (P : Program) (Q : Exit → Slots → Mem → Prop) (s : Slots) (M : Mem) : wpC P c5_31 Q s M = w5_31 P Q M (sget s 2) (sget s 7) (sget s 8) (sget s 9) (sget s 11) (sget s 48) (sget s 49) (sget s 50) (sget s 77) (sget s 78) (sget s 79) := by kernel_rfl
def c5_32 : ACode := (.cond (.tmp 80) .skip (.exit 2))
def o5_33 : List AOper := [⟨some 81, (.indexSl 13 (.tmp 77) (.tmp 79)), false, none⟩,
  ⟨some 82, (.load 13 true (.tmp 81)), false, none⟩,
  ⟨some 13, (.alloc [(.int .i64 0), (.int .i64 0), (.int .i64 0), (.int .i64 0), (.int .i64 0), (.str []), (.int .i64 0), (.int .i64 0), (.int .i64 0), (.int .i64 0), (.int .i64 0), (.bool false), (.slice [] .nil)]), false, none⟩,
  ⟨none, (.store 13 (.tmp 13) (.tmp 82)), false, none⟩]
def c5_34 : ACode := (.region o5_33 [2, 7, 8, 9, 11, 13, 48, 49, 50, 77, 78, 79])
def w5_34 (_P : Program) (Q : Exit → Slots → Mem → Prop) (M : Mem) (v2 : V) (v7 : V) (v8 : V) (v9 : V) (v11 : V) (v48 : V) (v49 : V) (v50 : V) (v77 : V) (v78 : V) (v79 : V) : Prop :=
  @OptVH (indexSlV 13 v77 v79 M) ⟨fun t81_1 =>
  @OptVH (loadV 13 true t81_1 M) ⟨fun t82_2 =>
  @OptMH (allocV [(.int .i64 0), (.int .i64 0), (.int .i64 0), (.int .i64 0), (.int .i64 0), (.str []), (.int .i64 0), (.int .i64 0), (.int .i64 0), (.int .i64 0), (.int .i64 0), (.bool false), (.slice [] .nil)] M) ⟨fun t13_3 M3 =>
  @OptMH (storeVM 13 t13_3 t82_2 M3) ⟨fun _tx_4 M4 =>
  Q .normal [(2, v2), (7, v7), (8, v8), (9, v9), (11, v11), (13, t13_3), (48, v48), (49, v49), (50, v50), (77, v77), (78, v78), (79, v79)] M4⟩⟩⟩⟩
theorem e5_34 (P : Program) (Q : Exit → Slots → Mem → Prop) (s : Slots) (M : Mem) : wpC P c5_34 Q s M = w5_34 P Q M (sget s 2) (sget s 7) (sget s 8) (sget s 9) (sget s 11) (sget s 48) (sget s 49) (sget s 50) (sget s 77) (sget s 78) (sget s 79) := by kernel_rfl
def o5_35 : List AOper := [⟨some 6, (.mov (.const (.bool false))), true, none⟩]
def c5_36 : ACode := (.region o5_35 [6])
def w5_36 (_P : Program) (Q : Exit → Slots → Mem → Prop) (M : Mem) : Prop :=
  Q .normal [(6, (.bool false))] M
theorem e5_36 (P : Program) (Q : Exit → Slots → Mem → Prop) (s : Slots) (M : Mem) : wpC P c5_36 Q s M = w5_36 P Q M := by kernel_rfl
def c5_37 : ACode := (.seq c5_36 .ret)
def o5_38 : List AOper := [⟨some 83, (.load 13 true (.tmp 11)), false, none⟩,
  ⟨some 84, (.load 13 true (.tmp 13)), false, none⟩,
  ⟨some 85, (.call i_transitref31_SameTarget [(.tmp 83), (.tmp 84)]), true, none⟩,
  ⟨some 86, (.mov (.tmp 85)), true, none⟩,
  ⟨some 87, (.fieldAddr 0 (.tmp 11)), false, some (86, true)⟩,
  ⟨some 88, (.load 1 false (.tmp 87)), false, some (86, true)⟩,
  ⟨some 89, (.fieldAddr 0 (.tmp 13)), false, some (86, true)⟩,
  ⟨some 90, (.load 1 false (.tmp 89)), false, some (86, true)⟩,
  ⟨some 91, (.bin .neq .none (.tmp 88) (.tmp 90)), true, some (86, true)⟩,
  ⟨some 92, (.pick (.tmp 86) (.tmp 91) (.const (.bool false))), true, none⟩]
def c5_39 : ACode := (.seq (.region o5_38 [2, 7, 8, 9, 11, 48, 49, 50, 77, 78, 79, 92]) (.cond (.tmp 92) c5_37 .skip))
def w5_39 (P : Program) (Q : Exit → Slots → Mem → Prop) (M : Mem) (v2 : V) (v7 : V) (v8 : V) (v9 : V) (v11 : V) (v13 : V) (v48 : V) (v49 : V) (v50 : V) (v77 : V) (v78 : V) (v79 : V) : Prop :=
  @OptVH (loadV 13 true v11 M) ⟨fun t83_1 =>
  @OptVH (loadV 13 true v13 M) ⟨fun t84_2 =>
  @CallH P i_transitref31_SameTarget [t83_1, t84_2] M ⟨fun t85_3 M3 => @OptBH (some t85_3) ⟨fun b85_3 =>
  @BIfH b85_3
  ⟨@OptVH (moveV 0 v11) ⟨fun t87_5 =>
  @OptVH (loadV 1 false t87_5 M3) ⟨fun t88_6 =>
  @OptVH (moveV 0 v13) ⟨fun t89_7 =>
  @OptVH (loadV 1 false t89_7 M3) ⟨fun t90_8 =>
  @OptBH (binV .neq .none t88_6 t90_8) ⟨fun b91_9 =>
  @BIfH b91_9
  ⟨wpC P c5_37 Q [(2, v2), (7, v7), (8, v8), (9, v9), (11, v11), (48, v48), (49, v49), (50, v50), (77, v77), (78, v78), (79, v79), (92, (.bool b91_9))] M3⟩
  ⟨Q .normal [(2, v2), (7, v7), (8, v8), (9, v9), (11, v11), (48, v48), (49, v49), (50, v50), (77, v77), (78, v78), (79, v79), (92, (.bool b91_9))] M3⟩⟩⟩⟩⟩⟩⟩
  ⟨Q .normal [(2, v2), (7, v7), (8, v8), (9, v9), (11, v11), (48, v48), (49, v49), (50, v50), (77, v77), (78, v78), (79, v79), (92, (.bool false))] M3⟩⟩⟩⟩⟩
theorem e5_39 (P : Program) (Q : Exit → Slots → Mem → Prop) (s : Slots) (M : Mem) : wpC P c5_39 Q s M = w5_39 P Q M (sget s 2) (sget s 7) (sget s 8) (sget s 9) (sget s 11) (sget s 13) (sget s 48) (sget s 49) (sget s 50) (sget s 77) (sget s 78) (sget s 79) := by kernel_rfl
def c5_40 : ACode := (.seq c5_34 c5_39)
def c5_41 : ACode := (.block 3 c5_40)
def o5_42 : List AOper := [⟨some 93, (.bin .add .none (.tmp 79) (.const (.int .i64 1))), false, none⟩,
  ⟨some 79, (.mov (.tmp 93)), false, none⟩]
def c5_43 : ACode := (.region o5_42 [2, 7, 8, 9, 11, 48, 49, 50, 77, 78, 79])
def w5_43 (_P : Program) (Q : Exit → Slots → Mem → Prop) (M : Mem) (v2 : V) (v7 : V) (v8 : V) (v9 : V) (v11 : V) (v48 : V) (v49 : V) (v50 : V) (v77 : V) (v78 : V) (v79 : V) : Prop :=
  @OptVH (binV .add .none v79 (.int .i64 1)) ⟨fun t93_1 =>
  Q .normal [(2, v2), (7, v7), (8, v8), (9, v9), (11, v11), (48, v48), (49, v49), (50, v50), (77, v77), (78, v78), (79, t93_1)] M⟩
theorem e5_43 (P : Program) (Q : Exit → Slots → Mem → Prop) (s : Slots) (M : Mem) : wpC P c5_43 Q s M = w5_43 P Q M (sget s 2) (sget s 7) (sget s 8) (sget s 9) (sget s 11) (sget s 48) (sget s 49) (sget s 50) (sget s 77) (sget s 78) (sget s 79) := by kernel_rfl
def c5_44 : ACode := (.seq c5_41 c5_43)
def c5_45 : ACode := (.seq c5_32 c5_44)
def c5_46 : ACode := (.seq c5_31 c5_45)
def c5_47 : ACode := (.loop [2, 7, 8, 9, 11, 48, 49, 50, 77, 78, 79] c5_46)
def c5_48 : ACode := (.block 2 c5_47)
def c5_49 : ACode := (.seq c5_29 c5_48)
def c5_50 : ACode := (.seq c5_27 c5_49)
def c5_51 : ACode := (.seq c5_22 c5_50)
def c5_52 : ACode := (.block 1 c5_51)
def o5_53 : List AOper := [⟨some 94, (.bin .add .none (.tmp 50) (.const (.int .i64 1))), false, none⟩,
  ⟨some 50, (.mov (.tmp 94)), false, none⟩]
def c5_54 : ACode := (.region o5_53 [2, 7, 8, 9, 48, 49, 50])
def w5_54 (_P : Program) (Q : Exit → Slots → Mem → Prop) (M : Mem) (v2 : V) (v7 : V) (v8 : V) (v9 : V) (v48 : V) (v49 : V) (v50 : V) : Prop :=
  @OptVH (binV .add .none v50 (.int .i64 1)) ⟨fun t94_1 =>
  Q .normal [(2, v2), (7, v7), (8, v8), (9, v9), (48, v48), (49, v49), (50, t94_1)] M⟩
theorem e5_54 (P : Program) (Q : Exit → Slots → Mem → Prop) (s : Slots) (M : Mem) : wpC P c5_54 Q s M = w5_54 P Q M (sget s 2) (sget s 7) (sget s 8) (sget s 9) (sget s 48) (sget s 49) (sget s 50) := by kernel_rfl
def c5_55 : ACode := (.seq c5_52 c5_54)
def c5_56 : ACode := (.seq c5_20 c5_55)
def c5_57 : ACode := (.seq c5_19 c5_56)
def c5_58 : ACode := (.loop [2, 7, 8, 9, 48, 49, 50] c5_57)
def c5_59 : ACode := (.block 0 c5_58)
def c5_60 : ACode := (.seq c5_17 c5_59)
def o5_61 : List AOper := [⟨some 95, (.mov (.tmp 8)), false, none⟩,
  ⟨some 96, (.lenSl (.tmp 95)), false, none⟩,
  ⟨some 97, (.mov (.const (.int .i64 0))), false, none⟩]
def c5_62 : ACode := (.region o5_61 [2, 7, 9, 95, 96, 97])
def w5_62 (_P : Program) (Q : Exit → Slots → Mem → Prop) (M : Mem) (v2 : V) (v7 : V) (v8 : V) (v9 : V) : Prop :=
  @OptVH (lenV v8 M) ⟨fun t96_2 =>
  Q .normal [(2, v2), (7, v7), (9, v9), (95, v8), (96, t96_2), (97, (.int .i64 0))] M⟩
theorem e5_62 (P : Program) (Q : Exit → Slots → Mem → Prop) (s : Slots) (M : Mem) : wpC P c5_62 Q s M = w5_62 P Q M (sget s 2) (sget s 7) (sget s 8) (sget s 9) := by kernel_rfl
def o5_63 : List AOper := [⟨some 98, (.bin .lss .none (.tmp 97) (.tmp 96)), false, none⟩]
def c5_64 : ACode := (.region o5_63 [2, 7, 9, 95, 96, 97, 98])
def w5_64 (_P : Program) (Q : Exit → Slots → Mem → Prop) (M : Mem) (v2 : V) (v7 : V) (v9 : V) (v95 : V) (v96 : V) (v97 : V) : Prop :=
  @OptVH (binV .lss .none v97 v96) ⟨fun t98_1 =>
  Q .normal [(2, v2), (7, v7), (9, v9), (95, v95), (96, v96), (97, v97), (98, t98_1)] M⟩
theorem e5_64 (P : Program) (Q : Exit → Slots → Mem → Prop) (s : Slots) (M : Mem) : wpC P c5_64 Q s M = w5_64 P Q M (sget s 2) (sget s 7) (sget s 9) (sget s 95) (sget s 96) (sget s 97) := by kernel_rfl
def c5_65 : ACode := (.cond (.tmp 98) .skip (.exit 4))
def o5_66 : List AOper := [⟨some 99, (.indexSl 13 (.tmp 95) (.tmp 97)), false, none⟩,
  ⟨some 100, (.load 13 true (.tmp 99)), false, none⟩,
  ⟨some 15, (.alloc [(.int .i64 0), (.int .i64 0), (.int .i64 0), (.int .i64 0), (.int .i64 0), (.str []), (.int .i64 0), (.int .i64 0), (.int .i64 0), (.int .i64 0), (.int .i64 0), (.bool false), (.slice [] .nil)]), false, none⟩,
  ⟨none, (.store 13 (.tmp 15) (.tmp 100)), false, none⟩]
def c5_67 : ACode := (.region o5_66 [2, 7, 9, 15, 95, 96, 97])
def w5_67 (_P : Program) (Q : Exit → Slots → Mem → Prop) (M : Mem) (v2 : V) (v7 : V) (v9 : V) (v95 : V) (v96 : V) (v97 : V) : Prop :=
  @OptVH (indexSlV 13 v95 v97 M) ⟨fun t99_1 =>
  @OptVH (loadV 13 true t99_1 M) ⟨fun t100_2 =>
  @OptMH (allocV [(.int .i64 0), (.int .i64 0), (.int .i64 0), (.int .i64 0), (.int .i64 0), (.str []), (.int .i64 0), (.int .i64 0), (.int .i64 0), (.int .i64 0), (.int .i64 0), (.bool false), (.slice [] .nil)] M) ⟨fun t15_3 M3 =>
  @OptMH (storeVM 13 t15_3 t100_2 M3) ⟨fun _tx_4 M4 =>
  Q .normal [(2, v2), (7, v7), (9, v9), (15, t15_3), (95, v95), (96, v96), (97, v97)] M4⟩⟩⟩⟩
theorem e5_67 (P : Program) (Q : Exit → Slots → Mem → Prop) (s : Slots) (M : Mem) : wpC P c5_67 Q s M = w5_67 P Q M (sget s 2) (sget s 7) (sget s 9) (sget s 95) (sget s 96) (sget s 97) := by kernel_rfl
def o5_68 : List AOper := [⟨some 6, (.mov (.const (.bool false))), true, none⟩]
def c5_69 : ACode := (.region o5_68 [6])
def w5_69 (_P : Program) (Q : Exit → Slots → Mem → Prop) (M : Mem) : Prop :=
  Q .normal [(6, (.bool false))] M
theorem e5_69 (P : Program) (Q : Exit → Slots → Mem → Prop) (s : Slots) (M : Mem) : wpC P c5_69 Q s M = w5_69 P Q M := by kernel_rfl
def c5_70 : ACode := (.seq c5_69 .ret)
def o5_71 : List AOper := [⟨some 101, (.fieldAddr 2 (.tmp 15)), false, none⟩,
  ⟨some 102, (.load 1 false (.tmp 101)), false, none⟩,
  ⟨some 103, (.mov (.tmp 2)), false, none⟩,
  ⟨some 104, (.bin .leq .none (.tmp 102) (.tmp 103)), true, none⟩,
  ⟨some 105, (.mov (.tmp 104)), true, none⟩,
  ⟨some 106, (.fieldAddr 3 (.tmp 15)), false, some (105, true)⟩,
  ⟨some 107, (.load 1 false (.tmp 106)), false, some (105, true)⟩,
  ⟨some 108, (.mov (.tmp 2)), false, some (105, true)⟩,
  ⟨some 109, (.bin .gtr .none (.tmp 107) (.tmp 108)), true, some (105, true)⟩,
  ⟨some 110, (.pick (.tmp 105) (.tmp 109) (.const (.bool false))), true, none⟩,
  ⟨some 111, (.mov (.tmp 110)), true, none⟩,
  ⟨some 112, (.mov (.tmp 7)), false, some (111, true)⟩,
  ⟨some 113, (.fieldAddr 0 (.tmp 15)), false, some (111, true)⟩,
  ⟨some 114, (.load 1 false (.tmp 113)), false, some (111, true)⟩,
  ⟨some 115, (.mov (.tmp 2)), false, some (111, true)⟩,
  ⟨some 116, (.call i_inbox_Inbox_Failed [(.tmp 112), (.tmp 114), (.tmp 115)]), true, some (111, true)⟩,
  ⟨some 117, (.un .not (.tmp 116)), true, some (111, true)⟩,
  ⟨some 118, (.pick (.tmp 111) (.tmp 117) (.const (.bool false))), true, none⟩,
  ⟨some 119, (.mov (.tmp 118)), true, none⟩,
  ⟨some 120, (.mov (.tmp 9)), false, some (119, true)⟩,
  ⟨some 121, (.load 13 true (.tmp 15)), false, some (119, true)⟩,
  ⟨some 122, (.call i_transitlaw32_has [(.tmp 120), (.tmp 121)]), true, some (119, true)⟩,
  ⟨some 123, (.un .not (.tmp 122)), true, some (119, true)⟩,
  ⟨some 124, (.pick (.tmp 119) (.tmp 123) (.const (.bool false))), true, none⟩,
  ⟨some 125, (.mov (.tmp 124)), true, none⟩,
  ⟨some 126, (.mov (.tmp 9)), false, some (125, true)⟩,
  ⟨some 127, (.load 13 true (.tmp 15)), false, some (125, true)⟩,
  ⟨some 128, (.call i_transitlaw32_lower [(.tmp 126), (.tmp 127)]), true, some (125, true)⟩,
  ⟨some 129, (.un .not (.tmp 128)), true, some (125, true)⟩,
  ⟨some 130, (.pick (.tmp 125) (.tmp 129) (.const (.bool false))), true, none⟩]
def c5_72 : ACode := (.seq (.region o5_71 [2, 7, 9, 95, 96, 97, 130]) (.cond (.tmp 130) c5_70 .skip))
def w5_72 (P : Program) (Q : Exit → Slots → Mem → Prop) (M : Mem) (v2 : V) (v7 : V) (v9 : V) (v15 : V) (v95 : V) (v96 : V) (v97 : V) : Prop :=
  @OptVH (moveV 2 v15) ⟨fun t101_1 =>
  @OptVH (loadV 1 false t101_1 M) ⟨fun t102_2 =>
  @OptBH (binV .leq .none t102_2 v2) ⟨fun b104_4 =>
  @BIfH b104_4
  ⟨@OptVH (moveV 3 v15) ⟨fun t106_6 =>
  @OptVH (loadV 1 false t106_6 M) ⟨fun t107_7 =>
  @OptBH (binV .gtr .none t107_7 v2) ⟨fun b109_9 =>
  @BIfH b109_9
  ⟨@OptVH (moveV 0 v15) ⟨fun t113_13 =>
  @OptVH (loadV 1 false t113_13 M) ⟨fun t114_14 =>
  @CallH P i_inbox_Inbox_Failed [v7, t114_14, v2] M ⟨fun t116_16 M16 => @OptBH (some t116_16) ⟨fun b116_16 =>
  @OptBH (unV .not (.bool b116_16)) ⟨fun b117_17 =>
  @BIfH b117_17
  ⟨@OptVH (loadV 13 true v15 M16) ⟨fun t121_21 =>
  @CallH P i_transitlaw32_has [v9, t121_21] M16 ⟨fun t122_22 M22 => @OptBH (some t122_22) ⟨fun b122_22 =>
  @OptBH (unV .not (.bool b122_22)) ⟨fun b123_23 =>
  @BIfH b123_23
  ⟨@OptVH (loadV 13 true v15 M22) ⟨fun t127_27 =>
  @CallH P i_transitlaw32_lower [v9, t127_27] M22 ⟨fun t128_28 M28 => @OptBH (some t128_28) ⟨fun b128_28 =>
  @OptBH (unV .not (.bool b128_28)) ⟨fun b129_29 =>
  @BIfH b129_29
  ⟨wpC P c5_70 Q [(2, v2), (7, v7), (9, v9), (95, v95), (96, v96), (97, v97), (130, (.bool b129_29))] M28⟩
  ⟨Q .normal [(2, v2), (7, v7), (9, v9), (95, v95), (96, v96), (97, v97), (130, (.bool b129_29))] M28⟩⟩⟩⟩⟩⟩
  ⟨Q .normal [(2, v2), (7, v7), (9, v9), (95, v95), (96, v96), (97, v97), (130, (.bool false))] M22⟩⟩⟩⟩⟩⟩
  ⟨Q .normal [(2, v2), (7, v7), (9, v9), (95, v95), (96, v96), (97, v97), (130, (.bool false))] M16⟩⟩⟩⟩⟩⟩⟩
  ⟨Q .normal [(2, v2), (7, v7), (9, v9), (95, v95), (96, v96), (97, v97), (130, (.bool false))] M⟩⟩⟩⟩⟩
  ⟨Q .normal [(2, v2), (7, v7), (9, v9), (95, v95), (96, v96), (97, v97), (130, (.bool false))] M⟩⟩⟩⟩
theorem e5_72 (P : Program) (Q : Exit → Slots → Mem → Prop) (s : Slots) (M : Mem) : wpC P c5_72 Q s M = w5_72 P Q M (sget s 2) (sget s 7) (sget s 9) (sget s 15) (sget s 95) (sget s 96) (sget s 97) := by kernel_rfl
def c5_73 : ACode := (.seq c5_67 c5_72)
def c5_74 : ACode := (.block 5 c5_73)
def o5_75 : List AOper := [⟨some 131, (.bin .add .none (.tmp 97) (.const (.int .i64 1))), false, none⟩,
  ⟨some 97, (.mov (.tmp 131)), false, none⟩]
def c5_76 : ACode := (.region o5_75 [2, 7, 9, 95, 96, 97])
def w5_76 (_P : Program) (Q : Exit → Slots → Mem → Prop) (M : Mem) (v2 : V) (v7 : V) (v9 : V) (v95 : V) (v96 : V) (v97 : V) : Prop :=
  @OptVH (binV .add .none v97 (.int .i64 1)) ⟨fun t131_1 =>
  Q .normal [(2, v2), (7, v7), (9, v9), (95, v95), (96, v96), (97, t131_1)] M⟩
theorem e5_76 (P : Program) (Q : Exit → Slots → Mem → Prop) (s : Slots) (M : Mem) : wpC P c5_76 Q s M = w5_76 P Q M (sget s 2) (sget s 7) (sget s 9) (sget s 95) (sget s 96) (sget s 97) := by kernel_rfl
def c5_77 : ACode := (.seq c5_74 c5_76)
def c5_78 : ACode := (.seq c5_65 c5_77)
def c5_79 : ACode := (.seq c5_64 c5_78)
def c5_80 : ACode := (.loop [2, 7, 9, 95, 96, 97] c5_79)
def c5_81 : ACode := (.block 4 c5_80)
def c5_82 : ACode := (.seq c5_62 c5_81)
def o5_83 : List AOper := [⟨some 132, (.call i_transitlaw32_exampleHolds []), true, none⟩,
  ⟨some 6, (.mov (.tmp 132)), true, none⟩]
def c5_84 : ACode := (.region o5_83 [6])
def w5_84 (P : Program) (Q : Exit → Slots → Mem → Prop) (M : Mem) : Prop :=
  @CallH P i_transitlaw32_exampleHolds [] M ⟨fun t132_1 M1 => @OptBH (some t132_1) ⟨fun b132_1 =>
  Q .normal [(6, (.bool b132_1))] M1⟩⟩
theorem e5_84 (P : Program) (Q : Exit → Slots → Mem → Prop) (s : Slots) (M : Mem) : wpC P c5_84 Q s M = w5_84 P Q M := by kernel_rfl
def c5_85 : ACode := (.seq c5_84 .ret)
def c5_86 : ACode := (.seq c5_82 c5_85)
def c5_87 : ACode := (.seq c5_60 c5_86)
def c5_88 : ACode := (.seq c5_15 c5_87)
def c5_89 : ACode := (.seq c5_10 c5_88)
def c5_90 : ACode := (.seq c5_8 c5_89)
def c5_91 : ACode := (.seq c5_3 c5_90)
def c5_92 : ACode := (.seq c5_1 c5_91)
def fn_transitlaw32_InboxActive : AFn := ⟨133, [(.tmp 6)], c5_92⟩
theorem fn_transitlaw32_InboxActive_ok : resFn PR h_transitlaw32_InboxActive i_transitlaw32_InboxActive = some fn_transitlaw32_InboxActive := by kernel_rfl

def h_transitlaw32_InboxPlays : Hints := ⟨[(0, [0, 1, 2]), (1, [0, 1, 2, 7]), (2, [2, 7, 9, 10]), (3, [2, 7, 9, 37]), (4, [6]), (5, [7, 9, 39, 40, 41]), (6, [7, 9, 39, 40, 41, 42]), (7, [7, 9, 12, 39, 40, 41]), (8, [7, 9, 12, 39, 40, 41, 48]), (9, [6]), (10, [7, 9, 12, 13, 14, 39, 40, 41]), (11, [7, 9, 12, 13, 14, 39, 40, 41, 52]), (12, [7, 9, 12, 13, 39, 40, 41]), (13, [7, 9, 12, 13, 14, 39, 40, 41]), (14, [7, 9, 12, 13, 14, 39, 40, 41, 70]), (15, [7, 9, 12, 13, 39, 40, 41]), (16, [7, 9, 12, 13, 14, 39, 40, 41]), (17, [7, 9, 39, 40, 41, 98]), (18, [6]), (19, [7, 9, 39, 40, 41]), (20, [6])], [(6, [7, 9, 39, 40, 41])], []⟩
def o6_0 : List AOper := [⟨some 6, (.mov (.const (.bool false))), true, none⟩]
def c6_1 : ACode := (.region o6_0 [0, 1, 2])
def w6_1 (_P : Program) (Q : Exit → Slots → Mem → Prop) (M : Mem) (v0 : V) (v1 : V) (v2 : V) : Prop :=
  Q .normal [(0, v0), (1, v1), (2, v2)] M
theorem e6_1 (P : Program) (Q : Exit → Slots → Mem → Prop) (s : Slots) (M : Mem) : wpC P c6_1 Q s M = w6_1 P Q M (sget s 0) (sget s 1) (sget s 2) := by kernel_rfl
def o6_2 : List AOper := [⟨some 16, (.mov (.tmp 0)), false, none⟩,
  ⟨some 17, (.mov (.tmp 1)), false, none⟩,
  ⟨some 18, (.call i_inbox_New [(.tmp 16), (.tmp 17)]), false, none⟩,
  ⟨some 15, (.mov (.tmp 18)), false, none⟩,
  ⟨some 19, (.extract (.tmp 15) 0), false, none⟩,
  ⟨some 20, (.extract (.tmp 15) 1), false, none⟩,
  ⟨some 7, (.mov (.tmp 19)), false, none⟩,
  ⟨some 8, (.mov (.tmp 20)), false, none⟩]
def c6_3 : ACode := (.region o6_2 [0, 1, 2, 7])
def w6_3 (P : Program) (Q : Exit → Slots → Mem → Prop) (M : Mem) (v0 : V) (v1 : V) (v2 : V) : Prop :=
  @CallH P i_inbox_New [v0, v1] M ⟨fun t18_3 M3 =>
  @OptVH (extractV t18_3 0) ⟨fun t19_5 =>
  @OptVH (extractV t18_3 1) ⟨fun _t20_6 =>
  Q .normal [(0, v0), (1, v1), (2, v2), (7, t19_5)] M3⟩⟩⟩
theorem e6_3 (P : Program) (Q : Exit → Slots → Mem → Prop) (s : Slots) (M : Mem) : wpC P c6_3 Q s M = w6_3 P Q M (sget s 0) (sget s 1) (sget s 2) := by kernel_rfl
def o6_4 : List AOper := [⟨some 22, (.mov (.tmp 0)), false, none⟩,
  ⟨some 23, (.mov (.tmp 1)), false, none⟩,
  ⟨some 24, (.call i_transitref32_New [(.tmp 22), (.tmp 23)]), false, none⟩,
  ⟨some 21, (.mov (.tmp 24)), false, none⟩,
  ⟨some 25, (.extract (.tmp 21) 0), false, none⟩,
  ⟨some 26, (.extract (.tmp 21) 1), false, none⟩,
  ⟨some 9, (.alloc [(.int .i64 0), (.slice [] .nil), (.slice [] .nil)]), false, none⟩,
  ⟨none, (.store 3 (.tmp 9) (.tmp 25)), false, none⟩,
  ⟨some 10, (.mov (.tmp 26)), false, none⟩]
def c6_5 : ACode := (.region o6_4 [2, 7, 9, 10])
def w6_5 (P : Program) (Q : Exit → Slots → Mem → Prop) (M : Mem) (v0 : V) (v1 : V) (v2 : V) (v7 : V) : Prop :=
  @CallH P i_transitref32_New [v0, v1] M ⟨fun t24_3 M3 =>
  @OptVH (extractV t24_3 0) ⟨fun t25_5 =>
  @OptVH (extractV t24_3 1) ⟨fun t26_6 =>
  @OptMH (allocV [(.int .i64 0), (.slice [] .nil), (.slice [] .nil)] M3) ⟨fun t9_7 M7 =>
  @OptMH (storeVM 3 t9_7 t25_5 M7) ⟨fun _tx_8 M8 =>
  Q .normal [(2, v2), (7, v7), (9, t9_7), (10, t26_6)] M8⟩⟩⟩⟩⟩
theorem e6_5 (P : Program) (Q : Exit → Slots → Mem → Prop) (s : Slots) (M : Mem) : wpC P c6_5 Q s M = w6_5 P Q M (sget s 0) (sget s 1) (sget s 2) (sget s 7) := by kernel_rfl
def o6_6 : List AOper := [⟨some 38, (.call i_transitlaw32_exampleHolds []), true, none⟩,
  ⟨some 6, (.mov (.tmp 38)), true, none⟩]
def c6_7 : ACode := (.region o6_6 [6])
def w6_7 (P : Program) (Q : Exit → Slots → Mem → Prop) (M : Mem) : Prop :=
  @CallH P i_transitlaw32_exampleHolds [] M ⟨fun t38_1 M1 => @OptBH (some t38_1) ⟨fun b38_1 =>
  Q .normal [(6, (.bool b38_1))] M1⟩⟩
theorem e6_7 (P : Program) (Q : Exit → Slots → Mem → Prop) (s : Slots) (M : Mem) : wpC P c6_7 Q s M = w6_7 P Q M := by kernel_rfl
def c6_8 : ACode := (.seq c6_7 .ret)
def o6_9 : List AOper := [⟨some 27, (.mov (.tmp 10)), false, none⟩,
  ⟨some 28, (.bin .neq .none (.tmp 27) (.const (.int .i64 0))), true, none⟩,
  ⟨some 29, (.mov (.tmp 28)), true, none⟩,
  ⟨some 30, (.mov (.tmp 7)), false, some (29, false)⟩,
  ⟨some 31, (.bin .eql .ptr (.tmp 30) (.const .nilp)), true, some (29, false)⟩,
  ⟨some 32, (.pick (.tmp 29) (.const (.bool true)) (.tmp 31)), true, none⟩,
  ⟨some 33, (.mov (.tmp 32)), true, none⟩,
  ⟨some 34, (.mov (.tmp 2)), false, some (33, false)⟩,
  ⟨some 35, (.lenSl (.tmp 34)), false, some (33, false)⟩,
  ⟨some 36, (.bin .gtr .none (.tmp 35) (.const (.int .i64 40))), true, some (33, false)⟩,
  ⟨some 37, (.pick (.tmp 33) (.const (.bool true)) (.tmp 36)), true, none⟩]
def c6_10 : ACode := (.seq (.region o6_9 [2, 7, 9, 37]) (.cond (.tmp 37) c6_8 .skip))
def w6_10 (P : Program) (Q : Exit → Slots → Mem → Prop) (M : Mem) (v2 : V) (v7 : V) (v9 : V) (v10 : V) : Prop :=
  @OptBH (binV .neq .none v10 (.int .i64 0)) ⟨fun b28_2 =>
  @BIfH b28_2
  ⟨wpC P c6_8 Q [(2, v2), (7, v7), (9, v9), (37, (.bool true))] M⟩
  ⟨@OptBH (binV .eql .ptr v7 .nilp) ⟨fun b31_8 =>
  @BIfH b31_8
  ⟨wpC P c6_8 Q [(2, v2), (7, v7), (9, v9), (37, (.bool true))] M⟩
  ⟨@OptVH (lenV v2 M) ⟨fun t35_13 =>
  @OptBH (binV .gtr .none t35_13 (.int .i64 40)) ⟨fun b36_14 =>
  @BIfH b36_14
  ⟨wpC P c6_8 Q [(2, v2), (7, v7), (9, v9), (37, (.bool b36_14))] M⟩
  ⟨Q .normal [(2, v2), (7, v7), (9, v9), (37, (.bool b36_14))] M⟩⟩⟩⟩⟩⟩⟩
theorem e6_10 (P : Program) (Q : Exit → Slots → Mem → Prop) (s : Slots) (M : Mem) : wpC P c6_10 Q s M = w6_10 P Q M (sget s 2) (sget s 7) (sget s 9) (sget s 10) := by kernel_rfl
def o6_11 : List AOper := [⟨some 39, (.mov (.tmp 2)), false, none⟩,
  ⟨some 40, (.lenSl (.tmp 39)), false, none⟩,
  ⟨some 41, (.mov (.const (.int .i64 0))), false, none⟩]
def c6_12 : ACode := (.region o6_11 [7, 9, 39, 40, 41])
def w6_12 (_P : Program) (Q : Exit → Slots → Mem → Prop) (M : Mem) (v2 : V) (v7 : V) (v9 : V) : Prop :=
  @OptVH (lenV v2 M) ⟨fun t40_2 =>
  Q .normal [(7, v7), (9, v9), (39, v2), (40, t40_2), (41, (.int .i64 0))] M⟩
theorem e6_12 (P : Program) (Q : Exit → Slots → Mem → Prop) (s : Slots) (M : Mem) : wpC P c6_12 Q s M = w6_12 P Q M (sget s 2) (sget s 7) (sget s 9) := by kernel_rfl
def o6_13 : List AOper := [⟨some 42, (.bin .lss .none (.tmp 41) (.tmp 40)), false, none⟩]
def c6_14 : ACode := (.region o6_13 [7, 9, 39, 40, 41, 42])
def w6_14 (_P : Program) (Q : Exit → Slots → Mem → Prop) (M : Mem) (v7 : V) (v9 : V) (v39 : V) (v40 : V) (v41 : V) : Prop :=
  @OptVH (binV .lss .none v41 v40) ⟨fun t42_1 =>
  Q .normal [(7, v7), (9, v9), (39, v39), (40, v40), (41, v41), (42, t42_1)] M⟩
theorem e6_14 (P : Program) (Q : Exit → Slots → Mem → Prop) (s : Slots) (M : Mem) : wpC P c6_14 Q s M = w6_14 P Q M (sget s 7) (sget s 9) (sget s 39) (sget s 40) (sget s 41) := by kernel_rfl
def c6_15 : ACode := (.cond (.tmp 42) .skip (.exit 0))
def o6_16 : List AOper := [⟨some 43, (.indexSl 16 (.tmp 39) (.tmp 41)), false, none⟩,
  ⟨some 44, (.load 16 true (.tmp 43)), false, none⟩,
  ⟨some 12, (.alloc [(.int .i64 0), (.int .i64 0), (.int .i64 0), (.int .i64 0), (.int .i64 0), (.int .i64 0), (.str []), (.int .i64 0), (.int .i64 0), (.int .i64 0), (.int .i64 0), (.int .i64 0), (.bool false), (.slice [] .nil), (.int .i64 0), (.int .i64 0)]), false, none⟩,
  ⟨none, (.store 16 (.tmp 12) (.tmp 44)), false, none⟩]
def c6_17 : ACode := (.region o6_16 [7, 9, 12, 39, 40, 41])
def w6_17 (_P : Program) (Q : Exit → Slots → Mem → Prop) (M : Mem) (v7 : V) (v9 : V) (v39 : V) (v40 : V) (v41 : V) : Prop :=
  @OptVH (indexSlV 16 v39 v41 M) ⟨fun t43_1 =>
  @OptVH (loadV 16 true t43_1 M) ⟨fun t44_2 =>
  @OptMH (allocV [(.int .i64 0), (.int .i64 0), (.int .i64 0), (.int .i64 0), (.int .i64 0), (.int .i64 0), (.str []), (.int .i64 0), (.int .i64 0), (.int .i64 0), (.int .i64 0), (.int .i64 0), (.bool false), (.slice [] .nil), (.int .i64 0), (.int .i64 0)] M) ⟨fun t12_3 M3 =>
  @OptMH (storeVM 16 t12_3 t44_2 M3) ⟨fun _tx_4 M4 =>
  Q .normal [(7, v7), (9, v9), (12, t12_3), (39, v39), (40, v40), (41, v41)] M4⟩⟩⟩⟩
theorem e6_17 (P : Program) (Q : Exit → Slots → Mem → Prop) (s : Slots) (M : Mem) : wpC P c6_17 Q s M = w6_17 P Q M (sget s 7) (sget s 9) (sget s 39) (sget s 40) (sget s 41) := by kernel_rfl
def o6_18 : List AOper := [⟨some 49, (.call i_transitlaw32_exampleHolds []), true, none⟩,
  ⟨some 6, (.mov (.tmp 49)), true, none⟩]
def c6_19 : ACode := (.region o6_18 [6])
def w6_19 (P : Program) (Q : Exit → Slots → Mem → Prop) (M : Mem) : Prop :=
  @CallH P i_transitlaw32_exampleHolds [] M ⟨fun t49_1 M1 => @OptBH (some t49_1) ⟨fun b49_1 =>
  Q .normal [(6, (.bool b49_1))] M1⟩⟩
theorem e6_19 (P : Program) (Q : Exit → Slots → Mem → Prop) (s : Slots) (M : Mem) : wpC P c6_19 Q s M = w6_19 P Q M := by kernel_rfl
def c6_20 : ACode := (.seq c6_19 .ret)
def o6_21 : List AOper := [⟨some 45, (.fieldAddr 1 (.tmp 12)), false, none⟩,
  ⟨some 46, (.load 13 true (.tmp 45)), false, none⟩,
  ⟨some 47, (.call i_transitlaw32_small [(.tmp 46)]), true, none⟩,
  ⟨some 48, (.un .not (.tmp 47)), true, none⟩]
def c6_22 : ACode := (.seq (.region o6_21 [7, 9, 12, 39, 40, 41, 48]) (.cond (.tmp 48) c6_20 .skip))
def w6_22 (P : Program) (Q : Exit → Slots → Mem → Prop) (M : Mem) (v7 : V) (v9 : V) (v12 : V) (v39 : V) (v40 : V) (v41 : V) : Prop :=
  @OptVH (moveV 1 v12) ⟨fun t45_1 =>
  @OptVH (loadV 13 true t45_1 M) ⟨fun t46_2 =>
  @CallH P i_transitlaw32_small [t46_2] M ⟨fun t47_3 M3 => @OptBH (some t47_3) ⟨fun b47_3 =>
  @OptBH (unV .not (.bool b47_3)) ⟨fun b48_4 =>
  @BIfH b48_4
  ⟨wpC P c6_20 Q [(7, v7), (9, v9), (12, v12), (39, v39), (40, v40), (41, v41), (48, (.bool b48_4))] M3⟩
  ⟨Q .normal [(7, v7), (9, v9), (12, v12), (39, v39), (40, v40), (41, v41), (48, (.bool b48_4))] M3⟩⟩⟩⟩⟩⟩
theorem e6_22 (P : Program) (Q : Exit → Slots → Mem → Prop) (s : Slots) (M : Mem) : wpC P c6_22 Q s M = w6_22 P Q M (sget s 7) (sget s 9) (sget s 12) (sget s 39) (sget s 40) (sget s 41) := by kernel_rfl
def o6_23 : List AOper := [⟨some 13, (.mov (.const (.int .i64 0))), false, none⟩,
  ⟨some 14, (.mov (.const (.int .i64 0))), false, none⟩]
def c6_24 : ACode := (.region o6_23 [7, 9, 12, 13, 14, 39, 40, 41])
def w6_24 (_P : Program) (Q : Exit → Slots → Mem → Prop) (M : Mem) (v7 : V) (v9 : V) (v12 : V) (v39 : V) (v40 : V) (v41 : V) : Prop :=
  Q .normal [(7, v7), (9, v9), (12, v12), (13, (.int .i64 0)), (14, (.int .i64 0)), (39, v39), (40, v40), (41, v41)] M
theorem e6_24 (P : Program) (Q : Exit → Slots → Mem → Prop) (s : Slots) (M : Mem) : wpC P c6_24 Q s M = w6_24 P Q M (sget s 7) (sget s 9) (sget s 12) (sget s 39) (sget s 40) (sget s 41) := by kernel_rfl
def o6_25 : List AOper := [⟨some 53, (.mov (.tmp 7)), false, none⟩,
  ⟨some 54, (.fieldAddr 1 (.tmp 12)), false, none⟩,
  ⟨some 55, (.load 13 true (.tmp 54)), false, none⟩,
  ⟨some 56, (.fieldAddr 15 (.tmp 12)), false, none⟩,
  ⟨some 57, (.load 1 false (.tmp 56)), false, none⟩,
  ⟨some 58, (.call i_inbox_Inbox_Receive [(.tmp 53), (.tmp 55), (.tmp 57)]), false, none⟩,
  ⟨some 13, (.mov (.tmp 58)), false, none⟩]
def c6_26 : ACode := (.region o6_25 [7, 9, 12, 13, 39, 40, 41])
def w6_26 (P : Program) (Q : Exit → Slots → Mem → Prop) (M : Mem) (v7 : V) (v9 : V) (v12 : V) (v39 : V) (v40 : V) (v41 : V) : Prop :=
  @OptVH (moveV 1 v12) ⟨fun t54_2 =>
  @OptVH (loadV 13 true t54_2 M) ⟨fun t55_3 =>
  @OptVH (moveV 15 v12) ⟨fun t56_4 =>
  @OptVH (loadV 1 false t56_4 M) ⟨fun t57_5 =>
  @CallH P i_inbox_Inbox_Receive [v7, t55_3, t57_5] M ⟨fun t58_6 M6 =>
  Q .normal [(7, v7), (9, v9), (12, v12), (13, t58_6), (39, v39), (40, v40), (41, v41)] M6⟩⟩⟩⟩⟩
theorem e6_26 (P : Program) (Q : Exit → Slots → Mem → Prop) (s : Slots) (M : Mem) : wpC P c6_26 Q s M = w6_26 P Q M (sget s 7) (sget s 9) (sget s 12) (sget s 39) (sget s 40) (sget s 41) := by kernel_rfl
def o6_27 : List AOper := [⟨some 60, (.load 3 true (.tmp 9)), false, none⟩,
  ⟨some 61, (.fieldAddr 1 (.tmp 12)), false, none⟩,
  ⟨some 62, (.load 13 true (.tmp 61)), false, none⟩,
  ⟨some 63, (.fieldAddr 15 (.tmp 12)), false, none⟩,
  ⟨some 64, (.load 1 false (.tmp 63)), false, none⟩,
  ⟨some 65, (.call i_transitref32_Receive [(.tmp 60), (.tmp 62), (.tmp 64)]), false, none⟩,
  ⟨some 59, (.mov (.tmp 65)), false, none⟩,
  ⟨some 66, (.extract (.tmp 59) 0), false, none⟩,
  ⟨some 67, (.extract (.tmp 59) 1), false, none⟩,
  ⟨none, (.store 3 (.tmp 9) (.tmp 66)), false, none⟩,
  ⟨some 14, (.mov (.tmp 67)), false, none⟩]
def c6_28 : ACode := (.region o6_27 [7, 9, 12, 13, 14, 39, 40, 41])
def w6_28 (P : Program) (Q : Exit → Slots → Mem → Prop) (M : Mem) (v7 : V) (v9 : V) (v12 : V) (v13 : V) (v39 : V) (v40 : V) (v41 : V) : Prop :=
  @OptVH (loadV 3 true v9 M) ⟨fun t60_1 =>
  @OptVH (moveV 1 v12) ⟨fun t61_2 =>
  @OptVH (loadV 13 true t61_2 M) ⟨fun t62_3 =>
  @OptVH (moveV 15 v12) ⟨fun t63_4 =>
  @OptVH (loadV 1 false t63_4 M) ⟨fun t64_5 =>
  @CallH P i_transitref32_Receive [t60_1, t62_3, t64_5] M ⟨fun t65_6 M6 =>
  @OptVH (extractV t65_6 0) ⟨fun t66_8 =>
  @OptVH (extractV t65_6 1) ⟨fun t67_9 =>
  @OptMH (storeVM 3 v9 t66_8 M6) ⟨fun _tx_10 M10 =>
  Q .normal [(7, v7), (9, v9), (12, v12), (13, v13), (14, t67_9), (39, v39), (40, v40), (41, v41)] M10⟩⟩⟩⟩⟩⟩⟩⟩⟩
theorem e6_28 (P : Program) (Q : Exit → Slots → Mem → Prop) (s : Slots) (M : Mem) : wpC P c6_28 Q s M = w6_28 P Q M (sget s 7) (sget s 9) (sget s 12) (sget s 13) (sget s 39) (sget s 40) (sget s 41) := by kernel_rfl
def c6_29 : ACode := (.seq c6_26 c6_28)
def o6_30 : List AOper := [⟨some 50, (.fieldAddr 0 (.tmp 12)), false, none⟩,
  ⟨some 51, (.load 1 false (.tmp 50)), false, none⟩,
  ⟨some 52, (.bin .eql .none (.tmp 51) (.const (.int .i64 0))), true, none⟩]
def c6_31 : ACode := (.seq (.region o6_30 [7, 9, 12, 13, 14, 39, 40, 41, 52]) (.cond (.tmp 52) c6_29 .skip))
def w6_31 (P : Program) (Q : Exit → Slots → Mem → Prop) (M : Mem) (v7 : V) (v9 : V) (v12 : V) (v13 : V) (v14 : V) (v39 : V) (v40 : V) (v41 : V) : Prop :=
  @OptVH (moveV 0 v12) ⟨fun t50_1 =>
  @OptVH (loadV 1 false t50_1 M) ⟨fun t51_2 =>
  @OptBH (binV .eql .none t51_2 (.int .i64 0)) ⟨fun b52_3 =>
  @BIfH b52_3
  ⟨wpC P c6_29 Q [(7, v7), (9, v9), (12, v12), (13, v13), (14, v14), (39, v39), (40, v40), (41, v41), (52, (.bool b52_3))] M⟩
  ⟨Q .normal [(7, v7), (9, v9), (12, v12), (13, v13), (14, v14), (39, v39), (40, v40), (41, v41), (52, (.bool b52_3))] M⟩⟩⟩⟩
theorem e6_31 (P : Program) (Q : Exit → Slots → Mem → Prop) (s : Slots) (M : Mem) : wpC P c6_31 Q s M = w6_31 P Q M (sget s 7) (sget s 9) (sget s 12) (sget s 13) (sget s 14) (sget s 39) (sget s 40) (sget s 41) := by kernel_rfl
def o6_32 : List AOper := [⟨some 71, (.mov (.tmp 7)), false, none⟩,
  ⟨some 72, (.fieldAddr 14 (.tmp 12)), false, none⟩,
  ⟨some 73, (.load 1 false (.tmp 72)), false, none⟩,
  ⟨some 74, (.fieldAddr 15 (.tmp 12)), false, none⟩,
  ⟨some 75, (.load 1 false (.tmp 74)), false, none⟩,
  ⟨some 76, (.call i_inbox_Inbox_Heartbeat [(.tmp 71), (.tmp 73), (.tmp 75)]), false, none⟩,
  ⟨some 13, (.mov (.tmp 76)), false, none⟩]
def c6_33 : ACode := (.region o6_32 [7, 9, 12, 13, 39, 40, 41])
def w6_33 (P : Program) (Q : Exit → Slots → Mem → Prop) (M : Mem) (v7 : V) (v9 : V) (v12 : V) (v39 : V) (v40 : V) (v41 : V) : Prop :=
  @OptVH (moveV 14 v12) ⟨fun t72_2 =>
  @OptVH (loadV 1 false t72_2 M) ⟨fun t73_3 =>
  @OptVH (moveV 15 v12) ⟨fun t74_4 =>
  @OptVH (loadV 1 false t74_4 M) ⟨fun t75_5 =>
  @CallH P i_inbox_Inbox_Heartbeat [v7, t73_3, t75_5] M ⟨fun t76_6 M6 =>
  Q .normal [(7, v7), (9, v9), (12, v12), (13, t76_6), (39, v39), (40, v40), (41, v41)] M6⟩⟩⟩⟩⟩
theorem e6_33 (P : Program) (Q : Exit → Slots → Mem → Prop) (s : Slots) (M : Mem) : wpC P c6_33 Q s M = w6_33 P Q M (sget s 7) (sget s 9) (sget s 12) (sget s 39) (sget s 40) (sget s 41) := by kernel_rfl
def o6_34 : List AOper := [⟨some 78, (.load 3 true (.tmp 9)), false, none⟩,
  ⟨some 79, (.fieldAddr 14 (.tmp 12)), false, none⟩,
  ⟨some 80, (.load 1 false (.tmp 79)), false, none⟩,
  ⟨some 81, (.fieldAddr 15 (.tmp 12)), false, none⟩,
  ⟨some 82, (.load 1 false (.tmp 81)), false, none⟩,
  ⟨some 83, (.call i_transitref32_Heartbeat [(.tmp 78), (.tmp 80), (.tmp 82)]), false, none⟩,
  ⟨some 77, (.mov (.tmp 83)), false, none⟩,
  ⟨some 84, (.extract (.tmp 77) 0), false, none⟩,
  ⟨some 85, (.extract (.tmp 77) 1), false, none⟩,
  ⟨none, (.store 3 (.tmp 9) (.tmp 84)), false, none⟩,
  ⟨some 14, (.mov (.tmp 85)), false, none⟩]
def c6_35 : ACode := (.region o6_34 [7, 9, 12, 13, 14, 39, 40, 41])
def w6_35 (P : Program) (Q : Exit → Slots → Mem → Prop) (M : Mem) (v7 : V) (v9 : V) (v12 : V) (v13 : V) (v39 : V) (v40 : V) (v41 : V) : Prop :=
  @OptVH (loadV 3 true v9 M) ⟨fun t78_1 =>
  @OptVH (moveV 14 v12) ⟨fun t79_2 =>
  @OptVH (loadV 1 false t79_2 M) ⟨fun t80_3 =>
  @OptVH (moveV 15 v12) ⟨fun t81_4 =>
  @OptVH (loadV 1 false t81_4 M) ⟨fun t82_5 =>
  @CallH P i_transitref32_Heartbeat [t78_1, t80_3, t82_5] M ⟨fun t83_6 M6 =>
  @OptVH (extractV t83_6 0) ⟨fun t84_8 =>
  @OptVH (extractV t83_6 1) ⟨fun t85_9 =>
  @OptMH (storeVM 3 v9 t84_8 M6) ⟨fun _tx_10 M10 =>
  Q .normal [(7, v7), (9, v9), (12, v12), (13, v13), (14, t85_9), (39, v39), (40, v40), (41, v41)] M10⟩⟩⟩⟩⟩⟩⟩⟩⟩
theorem e6_35 (P : Program) (Q : Exit → Slots → Mem → Prop) (s : Slots) (M : Mem) : wpC P c6_35 Q s M = w6_35 P Q M (sget s 7) (sget s 9) (sget s 12) (sget s 13) (sget s 39) (sget s 40) (sget s 41) := by kernel_rfl
def c6_36 : ACode := (.seq c6_33 c6_35)
def o6_37 : List AOper := [⟨some 68, (.fieldAddr 0 (.tmp 12)), false, none⟩,
  ⟨some 69, (.load 1 false (.tmp 68)), false, none⟩,
  ⟨some 70, (.bin .eql .none (.tmp 69) (.const (.int .i64 1))), true, none⟩]
def c6_38 : ACode := (.seq (.region o6_37 [7, 9, 12, 13, 14, 39, 40, 41, 70]) (.cond (.tmp 70) c6_36 .skip))
def w6_38 (P : Program) (Q : Exit → Slots → Mem → Prop) (M : Mem) (v7 : V) (v9 : V) (v12 : V) (v13 : V) (v14 : V) (v39 : V) (v40 : V) (v41 : V) : Prop :=
  @OptVH (moveV 0 v12) ⟨fun t68_1 =>
  @OptVH (loadV 1 false t68_1 M) ⟨fun t69_2 =>
  @OptBH (binV .eql .none t69_2 (.int .i64 1)) ⟨fun b70_3 =>
  @BIfH b70_3
  ⟨wpC P c6_36 Q [(7, v7), (9, v9), (12, v12), (13, v13), (14, v14), (39, v39), (40, v40), (41, v41), (70, (.bool b70_3))] M⟩
  ⟨Q .normal [(7, v7), (9, v9), (12, v12), (13, v13), (14, v14), (39, v39), (40, v40), (41, v41), (70, (.bool b70_3))] M⟩⟩⟩⟩
theorem e6_38 (P : Program) (Q : Exit → Slots → Mem → Prop) (s : Slots) (M : Mem) : wpC P c6_38 Q s M = w6_38 P Q M (sget s 7) (sget s 9) (sget s 12) (sget s 13) (sget s 14) (sget s 39) (sget s 40) (sget s 41) := by kernel_rfl
def o6_39 : List AOper := [⟨some 6, (.mov (.const (.bool false))), true, none⟩]
def c6_40 : ACode := (.region o6_39 [6])
def w6_40 (_P : Program) (Q : Exit → Slots → Mem → Prop) (M : Mem) : Prop :=
  Q .normal [(6, (.bool false))] M
theorem e6_40 (P : Program) (Q : Exit → Slots → Mem → Prop) (s : Slots) (M : Mem) : wpC P c6_40 Q s M = w6_40 P Q M := by kernel_rfl
def c6_41 : ACode := (.seq c6_40 .ret)
def o6_42 : List AOper := [⟨some 86, (.mov (.tmp 13)), false, none⟩,
  ⟨some 87, (.mov (.tmp 14)), false, none⟩,
  ⟨some 88, (.bin .neq .none (.tmp 86) (.tmp 87)), true, none⟩,
  ⟨some 89, (.mov (.tmp 88)), true, none⟩,
  ⟨some 90, (.mov (.tmp 7)), false, some (89, false)⟩,
  ⟨some 91, (.load 3 true (.tmp 9)), false, some (89, false)⟩,
  ⟨some 92, (.fieldAddr 14 (.tmp 12)), false, some (89, false)⟩,
  ⟨some 93, (.load 1 false (.tmp 92)), false, some (89, false)⟩,
  ⟨some 94, (.fieldAddr 15 (.tmp 12)), false, some (89, false)⟩,
  ⟨some 95, (.load 1 false (.tmp 94)), false, some (89, false)⟩,
  ⟨some 96, (.call i_transitlaw32_same [(.tmp 90), (.tmp 91), (.tmp 93), (.tmp 95)]), true, some (89, false)⟩,
  ⟨some 97, (.un .not (.tmp 96)), true, some (89, false)⟩,
  ⟨some 98, (.pick (.tmp 89) (.const (.bool true)) (.tmp 97)), true, none⟩]
def c6_43 : ACode := (.seq (.region o6_42 [7, 9, 39, 40, 41, 98]) (.cond (.tmp 98) c6_41 .skip))
def w6_43 (P : Program) (Q : Exit → Slots → Mem → Prop) (M : Mem) (v7 : V) (v9 : V) (v12 : V) (v13 : V) (v14 : V) (v39 : V) (v40 : V) (v41 : V) : Prop :=
  @OptBH (binV .neq .none v13 v14) ⟨fun b88_3 =>
  @BIfH b88_3
  ⟨wpC P c6_41 Q [(7, v7), (9, v9), (39, v39), (40, v40), (41, v41), (98, (.bool true))] M⟩
  ⟨@OptVH (loadV 3 true v9 M) ⟨fun t91_7 =>
  @OptVH (moveV 14 v12) ⟨fun t92_8 =>
  @OptVH (loadV 1 false t92_8 M) ⟨fun t93_9 =>
  @OptVH (moveV 15 v12) ⟨fun t94_10 =>
  @OptVH (loadV 1 false t94_10 M) ⟨fun t95_11 =>
  @CallH P i_transitlaw32_same [v7, t91_7, t93_9, t95_11] M ⟨fun t96_12 M12 => @OptBH (some t96_12) ⟨fun b96_12 =>
  @OptBH (unV .not (.bool b96_12)) ⟨fun b97_13 =>
  @BIfH b97_13
  ⟨wpC P c6_41 Q [(7, v7), (9, v9), (39, v39), (40, v40), (41, v41), (98, (.bool b97_13))] M12⟩
  ⟨Q .normal [(7, v7), (9, v9), (39, v39), (40, v40), (41, v41), (98, (.bool b97_13))] M12⟩⟩⟩⟩⟩⟩⟩⟩⟩⟩⟩
theorem e6_43 (P : Program) (Q : Exit → Slots → Mem → Prop) (s : Slots) (M : Mem) : wpC P c6_43 Q s M = w6_43 P Q M (sget s 7) (sget s 9) (sget s 12) (sget s 13) (sget s 14) (sget s 39) (sget s 40) (sget s 41) := by kernel_rfl
def c6_44 : ACode := (.seq c6_38 c6_43)
def c6_45 : ACode := (.seq c6_31 c6_44)
def c6_46 : ACode := (.seq c6_24 c6_45)
def c6_47 : ACode := (.seq c6_22 c6_46)
def c6_48 : ACode := (.seq c6_17 c6_47)
def c6_49 : ACode := (.block 1 c6_48)
def o6_50 : List AOper := [⟨some 99, (.bin .add .none (.tmp 41) (.const (.int .i64 1))), false, none⟩,
  ⟨some 41, (.mov (.tmp 99)), false, none⟩]
def c6_51 : ACode := (.region o6_50 [7, 9, 39, 40, 41])
def w6_51 (_P : Program) (Q : Exit → Slots → Mem → Prop) (M : Mem) (v7 : V) (v9 : V) (v39 : V) (v40 : V) (v41 : V) : Prop :=
  @OptVH (binV .add .none v41 (.int .i64 1)) ⟨fun t99_1 =>
  Q .normal [(7, v7), (9, v9), (39, v39), (40, v40), (41, t99_1)] M⟩
theorem e6_51 (P : Program) (Q : Exit → Slots → Mem → Prop) (s : Slots) (M : Mem) : wpC P c6_51 Q s M = w6_51 P Q M (sget s 7) (sget s 9) (sget s 39) (sget s 40) (sget s 41) := by kernel_rfl
def c6_52 : ACode := (.seq c6_49 c6_51)
def c6_53 : ACode := (.seq c6_15 c6_52)
def c6_54 : ACode := (.seq c6_14 c6_53)
def c6_55 : ACode := (.loop [7, 9, 39, 40, 41] c6_54)
def c6_56 : ACode := (.block 0 c6_55)
def c6_57 : ACode := (.seq c6_12 c6_56)
def o6_58 : List AOper := [⟨some 100, (.call i_transitlaw32_exampleHolds []), true, none⟩,
  ⟨some 6, (.mov (.tmp 100)), true, none⟩]
def c6_59 : ACode := (.region o6_58 [6])
def w6_59 (P : Program) (Q : Exit → Slots → Mem → Prop) (M : Mem) : Prop :=
  @CallH P i_transitlaw32_exampleHolds [] M ⟨fun t100_1 M1 => @OptBH (some t100_1) ⟨fun b100_1 =>
  Q .normal [(6, (.bool b100_1))] M1⟩⟩
theorem e6_59 (P : Program) (Q : Exit → Slots → Mem → Prop) (s : Slots) (M : Mem) : wpC P c6_59 Q s M = w6_59 P Q M := by kernel_rfl
def c6_60 : ACode := (.seq c6_59 .ret)
def c6_61 : ACode := (.seq c6_57 c6_60)
def c6_62 : ACode := (.seq c6_10 c6_61)
def c6_63 : ACode := (.seq c6_5 c6_62)
def c6_64 : ACode := (.seq c6_3 c6_63)
def c6_65 : ACode := (.seq c6_1 c6_64)
def fn_transitlaw32_InboxPlays : AFn := ⟨101, [(.tmp 6)], c6_65⟩
theorem fn_transitlaw32_InboxPlays_ok : resFn PR h_transitlaw32_InboxPlays i_transitlaw32_InboxPlays = some fn_transitlaw32_InboxPlays := by kernel_rfl

def h_transitlaw32_InboxSupersedes : Hints := ⟨[(0, [0, 1]), (1, [1, 5]), (2, [1, 5, 26]), (3, [4]), (4, [1, 5, 6]), (5, [5, 6, 34]), (6, [4]), (7, [5, 6, 35, 36, 37]), (8, [5, 6, 35, 36, 37, 38]), (9, [5, 6, 7, 8, 35, 36, 37]), (10, [5, 6, 7, 8, 9, 10, 35, 36, 37]), (11, [5, 6, 7, 8, 35, 36, 37, 56]), (12, [4]), (13, [5, 6, 7, 8, 35, 36, 37, 57, 58, 59]), (14, [5, 6, 7, 8, 35, 36, 37, 57, 58, 59, 60]), (15, [5, 6, 7, 8, 11, 12, 35, 36, 37, 57, 58, 59]), (16, [5, 6, 7, 8, 35, 36, 37, 57, 58, 59, 85]), (17, [4]), (18, [5, 6, 7, 8, 35, 36, 37, 57, 58, 59]), (19, [5, 6, 35, 36, 37]), (20, [4])], [(8, [5, 6, 35, 36, 37]), (14, [5, 6, 7, 8, 35, 36, 37, 57, 58, 59])], []⟩
def o7_0 : List AOper := [⟨some 4, (.mov (.const (.bool false))), true, none⟩]
def c7_1 : ACode := (.region o7_0 [0, 1])
def w7_1 (_P : Program) (Q : Exit → Slots → Mem → Prop) (M : Mem) (v0 : V) (v1 : V) : Prop :=
  Q .normal [(0, v0), (1, v1)] M
theorem e7_1 (P : Program) (Q : Exit → Slots → Mem → Prop) (s : Slots) (M : Mem) : wpC P c7_1 Q s M = w7_1 P Q M (sget s 0) (sget s 1) := by kernel_rfl
def o7_2 : List AOper := [⟨some 13, (.mov (.tmp 0)), false, none⟩,
  ⟨some 14, (.mov (.tmp 1)), false, none⟩,
  ⟨some 15, (.mov (.tmp 1)), false, none⟩,
  ⟨some 16, (.lenSl (.tmp 15)), false, none⟩,
  ⟨some 17, (.minmax false (.tmp 16) (.const (.int .i64 40))), false, none⟩,
  ⟨some 18, (.slice 16 (.tmp 14) none (some (.tmp 17)) none), false, none⟩,
  ⟨some 19, (.call i_transitlaw32_played [(.tmp 13), (.tmp 18)]), false, none⟩,
  ⟨some 5, (.mov (.tmp 19)), false, none⟩]
def c7_3 : ACode := (.region o7_2 [1, 5])
def w7_3 (P : Program) (Q : Exit → Slots → Mem → Prop) (M : Mem) (v0 : V) (v1 : V) : Prop :=
  @OptVH (lenV v1 M) ⟨fun t16_4 =>
  @OptVH (minmaxV false t16_4 (.int .i64 40)) ⟨fun t17_5 =>
  @OptVH (sliceV 16 v1 none (some t17_5) none M) ⟨fun t18_6 =>
  @CallH P i_transitlaw32_played [v0, t18_6] M ⟨fun t19_7 M7 =>
  Q .normal [(1, v1), (5, t19_7)] M7⟩⟩⟩⟩
theorem e7_3 (P : Program) (Q : Exit → Slots → Mem → Prop) (s : Slots) (M : Mem) : wpC P c7_3 Q s M = w7_3 P Q M (sget s 0) (sget s 1) := by kernel_rfl
def o7_4 : List AOper := [⟨some 27, (.call i_transitlaw32_exampleHolds []), true, none⟩,
  ⟨some 4, (.mov (.tmp 27)), true, none⟩]
def c7_5 : ACode := (.region o7_4 [4])
def w7_5 (P : Program) (Q : Exit → Slots → Mem → Prop) (M : Mem) : Prop :=
  @CallH P i_transitlaw32_exampleHolds [] M ⟨fun t27_1 M1 => @OptBH (some t27_1) ⟨fun b27_1 =>
  Q .normal [(4, (.bool b27_1))] M1⟩⟩
theorem e7_5 (P : Program) (Q : Exit → Slots → Mem → Prop) (s : Slots) (M : Mem) : wpC P c7_5 Q s M = w7_5 P Q M := by kernel_rfl
def c7_6 : ACode := (.seq c7_5 .ret)
def o7_7 : List AOper := [⟨some 20, (.mov (.tmp 1)), false, none⟩,
  ⟨some 21, (.call i_transitlaw32_shorts [(.tmp 20)]), true, none⟩,
  ⟨some 22, (.un .not (.tmp 21)), true, none⟩,
  ⟨some 23, (.mov (.tmp 22)), true, none⟩,
  ⟨some 24, (.mov (.tmp 5)), false, some (23, false)⟩,
  ⟨some 25, (.bin .eql .ptr (.tmp 24) (.const .nilp)), true, some (23, false)⟩,
  ⟨some 26, (.pick (.tmp 23) (.const (.bool true)) (.tmp 25)), true, none⟩]
def c7_8 : ACode := (.seq (.region o7_7 [1, 5, 26]) (.cond (.tmp 26) c7_6 .skip))
def w7_8 (P : Program) (Q : Exit → Slots → Mem → Prop) (M : Mem) (v1 : V) (v5 : V) : Prop :=
  @CallH P i_transitlaw32_shorts [v1] M ⟨fun t21_2 M2 => @OptBH (some t21_2) ⟨fun b21_2 =>
  @OptBH (unV .not (.bool b21_2)) ⟨fun b22_3 =>
  @BIfH b22_3
  ⟨wpC P c7_6 Q [(1, v1), (5, v5), (26, (.bool true))] M2⟩
  ⟨@OptBH (binV .eql .ptr v5 .nilp) ⟨fun b25_7 =>
  @BIfH b25_7
  ⟨wpC P c7_6 Q [(1, v1), (5, v5), (26, (.bool b25_7))] M2⟩
  ⟨Q .normal [(1, v1), (5, v5), (26, (.bool b25_7))] M2⟩⟩⟩⟩⟩⟩
theorem e7_8 (P : Program) (Q : Exit → Slots → Mem → Prop) (s : Slots) (M : Mem) : wpC P c7_8 Q s M = w7_8 P Q M (sget s 1) (sget s 5) := by kernel_rfl
def o7_9 : List AOper := [⟨some 28, (.mov (.tmp 5)), false, none⟩,
  ⟨some 29, (.call i_inbox_Inbox_Messages [(.tmp 28)]), false, none⟩,
  ⟨some 6, (.mov (.tmp 29)), false, none⟩]
def c7_10 : ACode := (.region o7_9 [1, 5, 6])
def w7_10 (P : Program) (Q : Exit → Slots → Mem → Prop) (M : Mem) (v1 : V) (v5 : V) : Prop :=
  @CallH P i_inbox_Inbox_Messages [v5] M ⟨fun t29_2 M2 =>
  Q .normal [(1, v1), (5, v5), (6, t29_2)] M2⟩
theorem e7_10 (P : Program) (Q : Exit → Slots → Mem → Prop) (s : Slots) (M : Mem) : wpC P c7_10 Q s M = w7_10 P Q M (sget s 1) (sget s 5) := by kernel_rfl
def o7_11 : List AOper := [⟨some 4, (.mov (.const (.bool false))), true, none⟩]
def c7_12 : ACode := (.region o7_11 [4])
def w7_12 (_P : Program) (Q : Exit → Slots → Mem → Prop) (M : Mem) : Prop :=
  Q .normal [(4, (.bool false))] M
theorem e7_12 (P : Program) (Q : Exit → Slots → Mem → Prop) (s : Slots) (M : Mem) : wpC P c7_12 Q s M = w7_12 P Q M := by kernel_rfl
def c7_13 : ACode := (.seq c7_12 .ret)
def o7_14 : List AOper := [⟨some 30, (.mov (.tmp 6)), false, none⟩,
  ⟨some 31, (.lenSl (.tmp 30)), false, none⟩,
  ⟨some 32, (.mov (.tmp 1)), false, none⟩,
  ⟨some 33, (.lenSl (.tmp 32)), false, none⟩,
  ⟨some 34, (.bin .gtr .none (.tmp 31) (.tmp 33)), true, none⟩]
def c7_15 : ACode := (.seq (.region o7_14 [5, 6, 34]) (.cond (.tmp 34) c7_13 .skip))
def w7_15 (P : Program) (Q : Exit → Slots → Mem → Prop) (M : Mem) (v1 : V) (v5 : V) (v6 : V) : Prop :=
  @OptVH (lenV v6 M) ⟨fun t31_2 =>
  @OptVH (lenV v1 M) ⟨fun t33_4 =>
  @OptBH (binV .gtr .none t31_2 t33_4) ⟨fun b34_5 =>
  @BIfH b34_5
  ⟨wpC P c7_13 Q [(5, v5), (6, v6), (34, (.bool b34_5))] M⟩
  ⟨Q .normal [(5, v5), (6, v6), (34, (.bool b34_5))] M⟩⟩⟩⟩
theorem e7_15 (P : Program) (Q : Exit → Slots → Mem → Prop) (s : Slots) (M : Mem) : wpC P c7_15 Q s M = w7_15 P Q M (sget s 1) (sget s 5) (sget s 6) := by kernel_rfl
def o7_16 : List AOper := [⟨some 35, (.mov (.tmp 6)), false, none⟩,
  ⟨some 36, (.lenSl (.tmp 35)), false, none⟩,
  ⟨some 37, (.mov (.const (.int .i64 0))), false, none⟩]
def c7_17 : ACode := (.region o7_16 [5, 6, 35, 36, 37])
def w7_17 (_P : Program) (Q : Exit → Slots → Mem → Prop) (M : Mem) (v5 : V) (v6 : V) : Prop :=
  @OptVH (lenV v6 M) ⟨fun t36_2 =>
  Q .normal [(5, v5), (6, v6), (35, v6), (36, t36_2), (37, (.int .i64 0))] M⟩
theorem e7_17 (P : Program) (Q : Exit → Slots → Mem → Prop) (s : Slots) (M : Mem) : wpC P c7_17 Q s M = w7_17 P Q M (sget s 5) (sget s 6) := by kernel_rfl
def o7_18 : List AOper := [⟨some 38, (.bin .lss .none (.tmp 37) (.tmp 36)), false, none⟩]
def c7_19 : ACode := (.region o7_18 [5, 6, 35, 36, 37, 38])
def w7_19 (_P : Program) (Q : Exit → Slots → Mem → Prop) (M : Mem) (v5 : V) (v6 : V) (v35 : V) (v36 : V) (v37 : V) : Prop :=
  @OptVH (binV .lss .none v37 v36) ⟨fun t38_1 =>
  Q .normal [(5, v5), (6, v6), (35, v35), (36, v36), (37, v37), (38, t38_1)] M⟩
theorem e7_19 (P : Program) (Q : Exit → Slots → Mem → Prop) (s : Slots) (M : Mem) : wpC P c7_19 Q s M = w7_19 P Q M (sget s 5) (sget s 6) (sget s 35) (sget s 36) (sget s 37) := by kernel_rfl
def c7_20 : ACode := (.cond (.tmp 38) .skip (.exit 0))
def o7_21 : List AOper := [⟨some 39, (.mov (.tmp 37)), false, none⟩,
  ⟨some 40, (.indexSl 13 (.tmp 35) (.tmp 37)), false, none⟩,
  ⟨some 41, (.load 13 true (.tmp 40)), false, none⟩,
  ⟨some 8, (.alloc [(.int .i64 0), (.int .i64 0), (.int .i64 0), (.int .i64 0), (.int .i64 0), (.str []), (.int .i64 0), (.int .i64 0), (.int .i64 0), (.int .i64 0), (.int .i64 0), (.bool false), (.slice [] .nil)]), false, none⟩,
  ⟨some 7, (.mov (.tmp 39)), false, none⟩,
  ⟨none, (.store 13 (.tmp 8) (.tmp 41)), false, none⟩]
def c7_22 : ACode := (.region o7_21 [5, 6, 7, 8, 35, 36, 37])
def w7_22 (_P : Program) (Q : Exit → Slots → Mem → Prop) (M : Mem) (v5 : V) (v6 : V) (v35 : V) (v36 : V) (v37 : V) : Prop :=
  @OptVH (indexSlV 13 v35 v37 M) ⟨fun t40_2 =>
  @OptVH (loadV 13 true t40_2 M) ⟨fun t41_3 =>
  @OptMH (allocV [(.int .i64 0), (.int .i64 0), (.int .i64 0), (.int .i64 0), (.int .i64 0), (.str []), (.int .i64 0), (.int .i64 0), (.int .i64 0), (.int .i64 0), (.int .i64 0), (.bool false), (.slice [] .nil)] M) ⟨fun t8_4 M4 =>
  @OptMH (storeVM 13 t8_4 t41_3 M4) ⟨fun _tx_6 M6 =>
  Q .normal [(5, v5), (6, v6), (7, v37), (8, t8_4), (35, v35), (36, v36), (37, v37)] M6⟩⟩⟩⟩
theorem e7_22 (P : Program) (Q : Exit → Slots → Mem → Prop) (s : Slots) (M : Mem) : wpC P c7_22 Q s M = w7_22 P Q M (sget s 5) (sget s 6) (sget s 35) (sget s 36) (sget s 37) := by kernel_rfl
def o7_23 : List AOper := [⟨some 43, (.mov (.tmp 5)), false, none⟩,
  ⟨some 44, (.fieldAddr 0 (.tmp 8)), false, none⟩,
  ⟨some 45, (.load 1 false (.tmp 44)), false, none⟩,
  ⟨some 46, (.call i_inbox_Inbox_Sequence [(.tmp 43), (.tmp 45)]), false, none⟩,
  ⟨some 42, (.mov (.tmp 46)), false, none⟩,
  ⟨some 47, (.extract (.tmp 42) 0), false, none⟩,
  ⟨some 48, (.extract (.tmp 42) 1), true, none⟩,
  ⟨some 9, (.mov (.tmp 47)), false, none⟩,
  ⟨some 10, (.mov (.tmp 48)), true, none⟩]
def c7_24 : ACode := (.region o7_23 [5, 6, 7, 8, 9, 10, 35, 36, 37])
def w7_24 (P : Program) (Q : Exit → Slots → Mem → Prop) (M : Mem) (v5 : V) (v6 : V) (v7 : V) (v8 : V) (v35 : V) (v36 : V) (v37 : V) : Prop :=
  @OptVH (moveV 0 v8) ⟨fun t44_2 =>
  @OptVH (loadV 1 false t44_2 M) ⟨fun t45_3 =>
  @CallH P i_inbox_Inbox_Sequence [v5, t45_3] M ⟨fun t46_4 M4 =>
  @OptVH (extractV t46_4 0) ⟨fun t47_6 =>
  @OptBH (extractV t46_4 1) ⟨fun b48_7 =>
  Q .normal [(5, v5), (6, v6), (7, v7), (8, v8), (9, t47_6), (10, (.bool b48_7)), (35, v35), (36, v36), (37, v37)] M4⟩⟩⟩⟩⟩
theorem e7_24 (P : Program) (Q : Exit → Slots → Mem → Prop) (s : Slots) (M : Mem) : wpC P c7_24 Q s M = w7_24 P Q M (sget s 5) (sget s 6) (sget s 7) (sget s 8) (sget s 35) (sget s 36) (sget s 37) := by kernel_rfl
def o7_25 : List AOper := [⟨some 4, (.mov (.const (.bool false))), true, none⟩]
def c7_26 : ACode := (.region o7_25 [4])
def w7_26 (_P : Program) (Q : Exit → Slots → Mem → Prop) (M : Mem) : Prop :=
  Q .normal [(4, (.bool false))] M
theorem e7_26 (P : Program) (Q : Exit → Slots → Mem → Prop) (s : Slots) (M : Mem) : wpC P c7_26 Q s M = w7_26 P Q M := by kernel_rfl
def c7_27 : ACode := (.seq c7_26 .ret)
def o7_28 : List AOper := [⟨some 49, (.mov (.tmp 10)), true, none⟩,
  ⟨some 50, (.un .not (.tmp 49)), true, none⟩,
  ⟨some 51, (.mov (.tmp 50)), true, none⟩,
  ⟨some 52, (.fieldAddr 1 (.tmp 8)), false, some (51, false)⟩,
  ⟨some 53, (.load 1 false (.tmp 52)), false, some (51, false)⟩,
  ⟨some 54, (.mov (.tmp 9)), false, some (51, false)⟩,
  ⟨some 55, (.bin .gtr .none (.tmp 53) (.tmp 54)), true, some (51, false)⟩,
  ⟨some 56, (.pick (.tmp 51) (.const (.bool true)) (.tmp 55)), true, none⟩]
def c7_29 : ACode := (.seq (.region o7_28 [5, 6, 7, 8, 35, 36, 37, 56]) (.cond (.tmp 56) c7_27 .skip))
def w7_29 (P : Program) (Q : Exit → Slots → Mem → Prop) (M : Mem) (v5 : V) (v6 : V) (v7 : V) (v8 : V) (v9 : V) (v10 : V) (v35 : V) (v36 : V) (v37 : V) : Prop :=
  @OptBH (some v10) ⟨fun b49_1 =>
  @OptBH (unV .not (.bool b49_1)) ⟨fun b50_2 =>
  @BIfH b50_2
  ⟨wpC P c7_27 Q [(5, v5), (6, v6), (7, v7), (8, v8), (35, v35), (36, v36), (37, v37), (56, (.bool true))] M⟩
  ⟨@OptVH (moveV 1 v8) ⟨fun t52_5 =>
  @OptVH (loadV 1 false t52_5 M) ⟨fun t53_6 =>
  @OptBH (binV .gtr .none t53_6 v9) ⟨fun b55_8 =>
  @BIfH b55_8
  ⟨wpC P c7_27 Q [(5, v5), (6, v6), (7, v7), (8, v8), (35, v35), (36, v36), (37, v37), (56, (.bool b55_8))] M⟩
  ⟨Q .normal [(5, v5), (6, v6), (7, v7), (8, v8), (35, v35), (36, v36), (37, v37), (56, (.bool b55_8))] M⟩⟩⟩⟩⟩⟩⟩
theorem e7_29 (P : Program) (Q : Exit → Slots → Mem → Prop) (s : Slots) (M : Mem) : wpC P c7_29 Q s M = w7_29 P Q M (sget s 5) (sget s 6) (sget s 7) (sget s 8) (sget s 9) (sget s 10) (sget s 35) (sget s 36) (sget s 37) := by kernel_rfl
def o7_30 : List AOper := [⟨some 57, (.mov (.tmp 6)), false, none⟩,
  ⟨some 58, (.lenSl (.tmp 57)), false, none⟩,
  ⟨some 59, (.mov (.const (.int .i64 0))), false, none⟩]
def c7_31 : ACode := (.region o7_30 [5, 6, 7, 8, 35, 36, 37, 57, 58, 59])
def w7_31 (_P : Program) (Q : Exit → Slots → Mem → Prop) (M : Mem) (v5 : V) (v6 : V) (v7 : V) (v8 : V) (v35 : V) (v36 : V) (v37 : V) : Prop :=
  @OptVH (lenV v6 M) ⟨fun t58_2 =>
  Q .normal [(5, v5), (6, v6), (7, v7), (8, v8), (35, v35), (36, v36), (37, v37), (57, v6), (58, t58_2), (59, (.int .i64 0))] M⟩
theorem e7_31 (P : Program) (Q : Exit → Slots → Mem → Prop) (s : Slots) (M : Mem) : wpC P c7_31 Q s M = w7_31 P Q M (sget s 5) (sget s 6) (sget s 7) (sget s 8) (sget s 35) (sget s 36) (sget s 37) := by kernel_rfl
def o7_32 : List AOper := [⟨some 60, (.bin .lss .none (.tmp 59) (.tmp 58)), false, none⟩]
def c7_33 : ACode := (.region o7_32 [5, 6, 7, 8, 35, 36, 37, 57, 58, 59, 60])
def w7_33 (_P : Program) (Q : Exit → Slots → Mem → Prop) (M : Mem) (v5 : V) (v6 : V) (v7 : V) (v8 : V) (v35 : V) (v36 : V) (v37 : V) (v57 : V) (v58 : V) (v59 : V) : Prop :=
  @OptVH (binV .lss .none v59 v58) ⟨fun t60_1 =>
  Q .normal [(5, v5), (6, v6), (7, v7), (8, v8), (35, v35), (36, v36), (37, v37), (57, v57), (58, v58), (59, v59), (60, t60_1)] M⟩
theorem e7_33 (P : Program) (Q : Exit → Slots → Mem → Prop) (s : Slots) (M : Mem) : wpC P c7_33 Q s M = w7_33 P Q M (sget s 5) (sget s 6) (sget s 7) (sget s 8) (sget s 35) (sget s 36) (sget s 37) (sget s 57) (sget s 58) (sget s 59) := by kernel_rfl
def c7_34 : ACode := (.cond (.tmp 60) .skip (.exit 2))
def o7_35 : List AOper := [⟨some 61, (.mov (.tmp 59)), false, none⟩,
  ⟨some 62, (.indexSl 13 (.tmp 57) (.tmp 59)), false, none⟩,
  ⟨some 63, (.load 13 true (.tmp 62)), false, none⟩,
  ⟨some 12, (.alloc [(.int .i64 0), (.int .i64 0), (.int .i64 0), (.int .i64 0), (.int .i64 0), (.str []), (.int .i64 0), (.int .i64 0), (.int .i64 0), (.int .i64 0), (.int .i64 0), (.bool false), (.slice [] .nil)]), false, none⟩,
  ⟨some 11, (.mov (.tmp 61)), false, none⟩,
  ⟨none, (.store 13 (.tmp 12) (.tmp 63)), false, none⟩]
def c7_36 : ACode := (.region o7_35 [5, 6, 7, 8, 11, 12, 35, 36, 37, 57, 58, 59])
def w7_36 (_P : Program) (Q : Exit → Slots → Mem → Prop) (M : Mem) (v5 : V) (v6 : V) (v7 : V) (v8 : V) (v35 : V) (v36 : V) (v37 : V) (v57 : V) (v58 : V) (v59 : V) : Prop :=
  @OptVH (indexSlV 13 v57 v59 M) ⟨fun t62_2 =>
  @OptVH (loadV 13 true t62_2 M) ⟨fun t63_3 =>
  @OptMH (allocV [(.int .i64 0), (.int .i64 0), (.int .i64 0), (.int .i64 0), (.int .i64 0), (.str []), (.int .i64 0), (.int .i64 0), (.int .i64 0), (.int .i64 0), (.int .i64 0), (.bool false), (.slice [] .nil)] M) ⟨fun t12_4 M4 =>
  @OptMH (storeVM 13 t12_4 t63_3 M4) ⟨fun _tx_6 M6 =>
  Q .normal [(5, v5), (6, v6), (7, v7), (8, v8), (11, v59), (12, t12_4), (35, v35), (36, v36), (37, v37), (57, v57), (58, v58), (59, v59)] M6⟩⟩⟩⟩
theorem e7_36 (P : Program) (Q : Exit → Slots → Mem → Prop) (s : Slots) (M : Mem) : wpC P c7_36 Q s M = w7_36 P Q M (sget s 5) (sget s 6) (sget s 7) (sget s 8) (sget s 35) (sget s 36) (sget s 37) (sget s 57) (sget s 58) (sget s 59) := by kernel_rfl
def o7_37 : List AOper := [⟨some 4, (.mov (.const (.bool false))), true, none⟩]
def c7_38 : ACode := (.region o7_37 [4])
def w7_38 (_P : Program) (Q : Exit → Slots → Mem → Prop) (M : Mem) : Prop :=
  Q .normal [(4, (.bool false))] M
theorem e7_38 (P : Program) (Q : Exit → Slots → Mem → Prop) (s : Slots) (M : Mem) : wpC P c7_38 Q s M = w7_38 P Q M := by kernel_rfl
def c7_39 : ACode := (.seq c7_38 .ret)
def o7_40 : List AOper := [⟨some 64, (.load 13 true (.tmp 8)), false, none⟩,
  ⟨some 65, (.load 13 true (.tmp 12)), false, none⟩,
  ⟨some 66, (.call i_transitref31_Supersedes [(.tmp 64), (.tmp 65)]), true, none⟩,
  ⟨some 67, (.mov (.tmp 66)), true, none⟩,
  ⟨some 68, (.mov (.tmp 7)), false, some (67, false)⟩,
  ⟨some 69, (.mov (.tmp 11)), false, some (67, false)⟩,
  ⟨some 70, (.bin .neq .none (.tmp 68) (.tmp 69)), true, some (67, false)⟩,
  ⟨some 71, (.mov (.tmp 70)), true, some (67, false)⟩,
  ⟨some 72, (.fieldAddr 0 (.tmp 8)), false, some (71, true)⟩,
  ⟨some 73, (.load 1 false (.tmp 72)), false, some (71, true)⟩,
  ⟨some 74, (.fieldAddr 0 (.tmp 12)), false, some (71, true)⟩,
  ⟨some 75, (.load 1 false (.tmp 74)), false, some (71, true)⟩,
  ⟨some 76, (.bin .eql .none (.tmp 73) (.tmp 75)), true, some (71, true)⟩,
  ⟨some 77, (.pick (.tmp 71) (.tmp 76) (.const (.bool false))), true, some (67, false)⟩,
  ⟨some 78, (.mov (.tmp 77)), true, some (67, false)⟩,
  ⟨some 79, (.fieldAddr 1 (.tmp 8)), false, some (78, true)⟩,
  ⟨some 80, (.load 1 false (.tmp 79)), false, some (78, true)⟩,
  ⟨some 81, (.fieldAddr 1 (.tmp 12)), false, some (78, true)⟩,
  ⟨some 82, (.load 1 false (.tmp 81)), false, some (78, true)⟩,
  ⟨some 83, (.bin .eql .none (.tmp 80) (.tmp 82)), true, some (78, true)⟩,
  ⟨some 84, (.pick (.tmp 78) (.tmp 83) (.const (.bool false))), true, some (67, false)⟩,
  ⟨some 85, (.pick (.tmp 67) (.const (.bool true)) (.tmp 84)), true, none⟩]
def c7_41 : ACode := (.seq (.region o7_40 [5, 6, 7, 8, 35, 36, 37, 57, 58, 59, 85]) (.cond (.tmp 85) c7_39 .skip))
def w7_41 (P : Program) (Q : Exit → Slots → Mem → Prop) (M : Mem) (v5 : V) (v6 : V) (v7 : V) (v8 : V) (v11 : V) (v12 : V) (v35 : V) (v36 : V) (v37 : V) (v57 : V) (v58 : V) (v59 : V) : Prop :=
  @OptVH (loadV 13 true v8 M) ⟨fun t64_1 =>
  @OptVH (loadV 13 true v12 M) ⟨fun t65_2 =>
  @CallH P i_transitref31_Supersedes [t64_1, t65_2] M ⟨fun t66_3 M3 => @OptBH (some t66_3) ⟨fun b66_3 =>
  @BIfH b66_3
  ⟨wpC P c7_39 Q [(5, v5), (6, v6), (7, v7), (8, v8), (35, v35), (36, v36), (37, v37), (57, v57), (58, v58), (59, v59), (85, (.bool true))] M3⟩
  ⟨@OptBH (binV .neq .none v7 v11) ⟨fun b70_8 =>
  @BIfH b70_8
  ⟨@OptVH (moveV 0 v8) ⟨fun t72_10 =>
  @OptVH (loadV 1 false t72_10 M3) ⟨fun t73_11 =>
  @OptVH (moveV 0 v12) ⟨fun t74_12 =>
  @OptVH (loadV 1 false t74_12 M3) ⟨fun t75_13 =>
  @OptBH (binV .eql .none t73_11 t75_13) ⟨fun b76_14 =>
  @BIfH b76_14
  ⟨@OptVH (moveV 1 v8) ⟨fun t79_17 =>
  @OptVH (loadV 1 false t79_17 M3) ⟨fun t80_18 =>
  @OptVH (moveV 1 v12) ⟨fun t81_19 =>
  @OptVH (loadV 1 false t81_19 M3) ⟨fun t82_20 =>
  @OptBH (binV .eql .none t80_18 t82_20) ⟨fun b83_21 =>
  @BIfH b83_21
  ⟨wpC P c7_39 Q [(5, v5), (6, v6), (7, v7), (8, v8), (35, v35), (36, v36), (37, v37), (57, v57), (58, v58), (59, v59), (85, (.bool b83_21))] M3⟩
  ⟨Q .normal [(5, v5), (6, v6), (7, v7), (8, v8), (35, v35), (36, v36), (37, v37), (57, v57), (58, v58), (59, v59), (85, (.bool b83_21))] M3⟩⟩⟩⟩⟩⟩⟩
  ⟨Q .normal [(5, v5), (6, v6), (7, v7), (8, v8), (35, v35), (36, v36), (37, v37), (57, v57), (58, v58), (59, v59), (85, (.bool false))] M3⟩⟩⟩⟩⟩⟩⟩
  ⟨Q .normal [(5, v5), (6, v6), (7, v7), (8, v8), (35, v35), (36, v36), (37, v37), (57, v57), (58, v58), (59, v59), (85, (.bool false))] M3⟩⟩⟩⟩⟩⟩⟩
theorem e7_41 (P : Program) (Q : Exit → Slots → Mem → Prop) (s : Slots) (M : Mem) : wpC P c7_41 Q s M = w7_41 P Q M (sget s 5) (sget s 6) (sget s 7) (sget s 8) (sget s 11) (sget s 12) (sget s 35) (sget s 36) (sget s 37) (sget s 57) (sget s 58) (sget s 59) := by kernel_rfl
def c7_42 : ACode := (.seq c7_36 c7_41)
def c7_43 : ACode := (.block 3 c7_42)
def o7_44 : List AOper := [⟨some 86, (.bin .add .none (.tmp 59) (.const (.int .i64 1))), false, none⟩,
  ⟨some 59, (.mov (.tmp 86)), false, none⟩]
def c7_45 : ACode := (.region o7_44 [5, 6, 7, 8, 35, 36, 37, 57, 58, 59])
def w7_45 (_P : Program) (Q : Exit → Slots → Mem → Prop) (M : Mem) (v5 : V) (v6 : V) (v7 : V) (v8 : V) (v35 : V) (v36 : V) (v37 : V) (v57 : V) (v58 : V) (v59 : V) : Prop :=
  @OptVH (binV .add .none v59 (.int .i64 1)) ⟨fun t86_1 =>
  Q .normal [(5, v5), (6, v6), (7, v7), (8, v8), (35, v35), (36, v36), (37, v37), (57, v57), (58, v58), (59, t86_1)] M⟩
theorem e7_45 (P : Program) (Q : Exit → Slots → Mem → Prop) (s : Slots) (M : Mem) : wpC P c7_45 Q s M = w7_45 P Q M (sget s 5) (sget s 6) (sget s 7) (sget s 8) (sget s 35) (sget s 36) (sget s 37) (sget s 57) (sget s 58) (sget s 59) := by kernel_rfl
def c7_46 : ACode := (.seq c7_43 c7_45)
def c7_47 : ACode := (.seq c7_34 c7_46)
def c7_48 : ACode := (.seq c7_33 c7_47)
def c7_49 : ACode := (.loop [5, 6, 7, 8, 35, 36, 37, 57, 58, 59] c7_48)
def c7_50 : ACode := (.block 2 c7_49)
def c7_51 : ACode := (.seq c7_31 c7_50)
def c7_52 : ACode := (.seq c7_29 c7_51)
def c7_53 : ACode := (.seq c7_24 c7_52)
def c7_54 : ACode := (.seq c7_22 c7_53)
def c7_55 : ACode := (.block 1 c7_54)
def o7_56 : List AOper := [⟨some 87, (.bin .add .none (.tmp 37) (.const (.int .i64 1))), false, none⟩,
  ⟨some 37, (.mov (.tmp 87)), false, none⟩]
def c7_57 : ACode := (.region o7_56 [5, 6, 35, 36, 37])
def w7_57 (_P : Program) (Q : Exit → Slots → Mem → Prop) (M : Mem) (v5 : V) (v6 : V) (v35 : V) (v36 : V) (v37 : V) : Prop :=
  @OptVH (binV .add .none v37 (.int .i64 1)) ⟨fun t87_1 =>
  Q .normal [(5, v5), (6, v6), (35, v35), (36, v36), (37, t87_1)] M⟩
theorem e7_57 (P : Program) (Q : Exit → Slots → Mem → Prop) (s : Slots) (M : Mem) : wpC P c7_57 Q s M = w7_57 P Q M (sget s 5) (sget s 6) (sget s 35) (sget s 36) (sget s 37) := by kernel_rfl
def c7_58 : ACode := (.seq c7_55 c7_57)
def c7_59 : ACode := (.seq c7_20 c7_58)
def c7_60 : ACode := (.seq c7_19 c7_59)
def c7_61 : ACode := (.loop [5, 6, 35, 36, 37] c7_60)
def c7_62 : ACode := (.block 0 c7_61)
def c7_63 : ACode := (.seq c7_17 c7_62)
def o7_64 : List AOper := [⟨some 88, (.call i_transitlaw32_exampleHolds []), true, none⟩,
  ⟨some 4, (.mov (.tmp 88)), true, none⟩]
def c7_65 : ACode := (.region o7_64 [4])
def w7_65 (P : Program) (Q : Exit → Slots → Mem → Prop) (M : Mem) : Prop :=
  @CallH P i_transitlaw32_exampleHolds [] M ⟨fun t88_1 M1 => @OptBH (some t88_1) ⟨fun b88_1 =>
  Q .normal [(4, (.bool b88_1))] M1⟩⟩
theorem e7_65 (P : Program) (Q : Exit → Slots → Mem → Prop) (s : Slots) (M : Mem) : wpC P c7_65 Q s M = w7_65 P Q M := by kernel_rfl
def c7_66 : ACode := (.seq c7_65 .ret)
def c7_67 : ACode := (.seq c7_63 c7_66)
def c7_68 : ACode := (.seq c7_15 c7_67)
def c7_69 : ACode := (.seq c7_10 c7_68)
def c7_70 : ACode := (.seq c7_8 c7_69)
def c7_71 : ACode := (.seq c7_3 c7_70)
def c7_72 : ACode := (.seq c7_1 c7_71)
def fn_transitlaw32_InboxSupersedes : AFn := ⟨89, [(.tmp 4)], c7_72⟩
theorem fn_transitlaw32_InboxSupersedes_ok : resFn PR h_transitlaw32_InboxSupersedes i_transitlaw32_InboxSupersedes = some fn_transitlaw32_InboxSupersedes := by kernel_rfl

def h_transitlaw32_InboxClones : Hints := ⟨[(0, [0, 1, 5]), (1, [1, 5, 7]), (2, [5, 7, 30]), (3, [6]), (4, [5, 7, 8]), (5, [5, 7, 8, 9, 10]), (6, [5, 7, 8, 9, 10, 57]), (7, [6]), (8, [5, 7, 8, 9, 10]), (9, [5, 7, 9, 10]), (10, [6])], [], []⟩
def o8_0 : List AOper := [⟨some 5, (.box 16 (.tmp 2)), false, none⟩,
  ⟨some 6, (.mov (.const (.bool false))), true, none⟩]
def c8_1 : ACode := (.region o8_0 [0, 1, 5])
def w8_1 (_P : Program) (Q : Exit → Slots → Mem → Prop) (M : Mem) (v0 : V) (v1 : V) (v2 : V) : Prop :=
  @OptMH (boxV 16 v2 M) ⟨fun t5_1 M1 =>
  Q .normal [(0, v0), (1, v1), (5, t5_1)] M1⟩
theorem e8_1 (P : Program) (Q : Exit → Slots → Mem → Prop) (s : Slots) (M : Mem) : wpC P c8_1 Q s M = w8_1 P Q M (sget s 0) (sget s 1) (sget s 2) := by kernel_rfl
def o8_2 : List AOper := [⟨some 11, (.mov (.tmp 0)), false, none⟩,
  ⟨some 12, (.mov (.tmp 1)), false, none⟩,
  ⟨some 13, (.mov (.tmp 1)), false, none⟩,
  ⟨some 14, (.lenSl (.tmp 13)), false, none⟩,
  ⟨some 15, (.minmax false (.tmp 14) (.const (.int .i64 40))), false, none⟩,
  ⟨some 16, (.slice 16 (.tmp 12) none (some (.tmp 15)) none), false, none⟩,
  ⟨some 17, (.call i_transitlaw32_played [(.tmp 11), (.tmp 16)]), false, none⟩,
  ⟨some 7, (.mov (.tmp 17)), false, none⟩]
def c8_3 : ACode := (.region o8_2 [1, 5, 7])
def w8_3 (P : Program) (Q : Exit → Slots → Mem → Prop) (M : Mem) (v0 : V) (v1 : V) (v5 : V) : Prop :=
  @OptVH (lenV v1 M) ⟨fun t14_4 =>
  @OptVH (minmaxV false t14_4 (.int .i64 40)) ⟨fun t15_5 =>
  @OptVH (sliceV 16 v1 none (some t15_5) none M) ⟨fun t16_6 =>
  @CallH P i_transitlaw32_played [v0, t16_6] M ⟨fun t17_7 M7 =>
  Q .normal [(1, v1), (5, v5), (7, t17_7)] M7⟩⟩⟩⟩
theorem e8_3 (P : Program) (Q : Exit → Slots → Mem → Prop) (s : Slots) (M : Mem) : wpC P c8_3 Q s M = w8_3 P Q M (sget s 0) (sget s 1) (sget s 5) := by kernel_rfl
def o8_4 : List AOper := [⟨some 31, (.call i_transitlaw32_exampleHolds []), true, none⟩,
  ⟨some 6, (.mov (.tmp 31)), true, none⟩]
def c8_5 : ACode := (.region o8_4 [6])
def w8_5 (P : Program) (Q : Exit → Slots → Mem → Prop) (M : Mem) : Prop :=
  @CallH P i_transitlaw32_exampleHolds [] M ⟨fun t31_1 M1 => @OptBH (some t31_1) ⟨fun b31_1 =>
  Q .normal [(6, (.bool b31_1))] M1⟩⟩
theorem e8_5 (P : Program) (Q : Exit → Slots → Mem → Prop) (s : Slots) (M : Mem) : wpC P c8_5 Q s M = w8_5 P Q M := by kernel_rfl
def c8_6 : ACode := (.seq c8_5 .ret)
def o8_7 : List AOper := [⟨some 18, (.mov (.tmp 1)), false, none⟩,
  ⟨some 19, (.call i_transitlaw32_shorts [(.tmp 18)]), true, none⟩,
  ⟨some 20, (.un .not (.tmp 19)), true, none⟩,
  ⟨some 21, (.mov (.tmp 20)), true, none⟩,
  ⟨some 22, (.fieldAddr 1 (.tmp 5)), false, some (21, false)⟩,
  ⟨some 23, (.load 13 true (.tmp 22)), false, some (21, false)⟩,
  ⟨some 24, (.call i_transitlaw32_small [(.tmp 23)]), true, some (21, false)⟩,
  ⟨some 25, (.un .not (.tmp 24)), true, some (21, false)⟩,
  ⟨some 26, (.pick (.tmp 21) (.const (.bool true)) (.tmp 25)), true, none⟩,
  ⟨some 27, (.mov (.tmp 26)), true, none⟩,
  ⟨some 28, (.mov (.tmp 7)), false, some (27, false)⟩,
  ⟨some 29, (.bin .eql .ptr (.tmp 28) (.const .nilp)), true, some (27, false)⟩,
  ⟨some 30, (.pick (.tmp 27) (.const (.bool true)) (.tmp 29)), true, none⟩]
def c8_8 : ACode := (.seq (.region o8_7 [5, 7, 30]) (.cond (.tmp 30) c8_6 .skip))
def w8_8 (P : Program) (Q : Exit → Slots → Mem → Prop) (M : Mem) (v1 : V) (v5 : V) (v7 : V) : Prop :=
  @CallH P i_transitlaw32_shorts [v1] M ⟨fun t19_2 M2 => @OptBH (some t19_2) ⟨fun b19_2 =>
  @OptBH (unV .not (.bool b19_2)) ⟨fun b20_3 =>
  @BIfH b20_3
  ⟨wpC P c8_6 Q [(5, v5), (7, v7), (30, (.bool true))] M2⟩
  ⟨@OptVH (moveV 1 v5) ⟨fun t22_8 =>
  @OptVH (loadV 13 true t22_8 M2) ⟨fun t23_9 =>
  @CallH P i_transitlaw32_small [t23_9] M2 ⟨fun t24_10 M10 => @OptBH (some t24_10) ⟨fun b24_10 =>
  @OptBH (unV .not (.bool b24_10)) ⟨fun b25_11 =>
  @BIfH b25_11
  ⟨wpC P c8_6 Q [(5, v5), (7, v7), (30, (.bool true))] M10⟩
  ⟨@OptBH (binV .eql .ptr v7 .nilp) ⟨fun b29_16 =>
  @BIfH b29_16
  ⟨wpC P c8_6 Q [(5, v5), (7, v7), (30, (.bool b29_16))] M10⟩
  ⟨Q .normal [(5, v5), (7, v7), (30, (.bool b29_16))] M10⟩⟩⟩⟩⟩⟩⟩⟩⟩⟩⟩⟩
theorem e8_8 (P : Program) (Q : Exit → Slots → Mem → Prop) (s : Slots) (M : Mem) : wpC P c8_8 Q s M = w8_8 P Q M (sget s 1) (sget s 5) (sget s 7) := by kernel_rfl
def o8_9 : List AOper := [⟨some 32, (.mov (.tmp 7)), false, none⟩,
  ⟨some 33, (.call i_inbox_Inbox_Clone [(.tmp 32)]), false, none⟩,
  ⟨some 8, (.mov (.tmp 33)), false, none⟩]
def c8_10 : ACode := (.region o8_9 [5, 7, 8])
def w8_10 (P : Program) (Q : Exit → Slots → Mem → Prop) (M : Mem) (v5 : V) (v7 : V) : Prop :=
  @CallH P i_inbox_Inbox_Clone [v7] M ⟨fun t33_2 M2 =>
  Q .normal [(5, v5), (7, v7), (8, t33_2)] M2⟩
theorem e8_10 (P : Program) (Q : Exit → Slots → Mem → Prop) (s : Slots) (M : Mem) : wpC P c8_10 Q s M = w8_10 P Q M (sget s 5) (sget s 7) := by kernel_rfl
def o8_11 : List AOper := [⟨some 34, (.mov (.tmp 7)), false, none⟩,
  ⟨some 35, (.call i_inbox_Inbox_Messages [(.tmp 34)]), false, none⟩,
  ⟨some 36, (.mov (.tmp 7)), false, none⟩,
  ⟨some 37, (.fieldAddr 15 (.tmp 5)), false, none⟩,
  ⟨some 38, (.load 1 false (.tmp 37)), false, none⟩,
  ⟨some 39, (.call i_inbox_Inbox_Active [(.tmp 36), (.tmp 38)]), false, none⟩,
  ⟨some 9, (.mov (.tmp 35)), false, none⟩,
  ⟨some 10, (.mov (.tmp 39)), false, none⟩]
def c8_12 : ACode := (.mixed o8_11 [true, true, true, true, true, false, true, true] [5, 7, 8, 9, 10])
def w8_12 (P : Program) (Q : Exit → Slots → Mem → Prop) (M : Mem) (v5 : V) (v7 : V) (v8 : V) : Prop :=
  @CallQ P i_inbox_Inbox_Messages [v7] M ⟨fun t35_2 M2 =>
  @OptVH (moveV 15 v5) ⟨fun t37_4 =>
  @OptVH (loadV 1 false t37_4 M2) ⟨fun t38_5 =>
  @CallH P i_inbox_Inbox_Active [v7, t38_5] M2 ⟨fun t39_6 M6 =>
  Q .normal [(5, v5), (7, v7), (8, v8), (9, t35_2), (10, t39_6)] M6⟩⟩⟩⟩
theorem e8_12 (P : Program) (Q : Exit → Slots → Mem → Prop) (s : Slots) (M : Mem) : wpC P c8_12 Q s M = w8_12 P Q M (sget s 5) (sget s 7) (sget s 8) := by kernel_rfl
def o8_13 : List AOper := [⟨some 6, (.mov (.const (.bool false))), true, none⟩]
def c8_14 : ACode := (.region o8_13 [6])
def w8_14 (_P : Program) (Q : Exit → Slots → Mem → Prop) (M : Mem) : Prop :=
  Q .normal [(6, (.bool false))] M
theorem e8_14 (P : Program) (Q : Exit → Slots → Mem → Prop) (s : Slots) (M : Mem) : wpC P c8_14 Q s M = w8_14 P Q M := by kernel_rfl
def c8_15 : ACode := (.seq c8_14 .ret)
def o8_16 : List AOper := [⟨some 40, (.mov (.tmp 8)), false, none⟩,
  ⟨some 41, (.bin .eql .ptr (.tmp 40) (.const .nilp)), true, none⟩,
  ⟨some 42, (.mov (.tmp 41)), true, none⟩,
  ⟨some 43, (.mov (.tmp 8)), false, some (42, false)⟩,
  ⟨some 44, (.call i_inbox_Inbox_Messages [(.tmp 43)]), false, some (42, false)⟩,
  ⟨some 45, (.mov (.tmp 9)), false, some (42, false)⟩,
  ⟨some 46, (.call i_transitref32_Same [(.tmp 44), (.tmp 45)]), true, some (42, false)⟩,
  ⟨some 47, (.un .not (.tmp 46)), true, some (42, false)⟩,
  ⟨some 48, (.pick (.tmp 42) (.const (.bool true)) (.tmp 47)), true, none⟩,
  ⟨some 49, (.mov (.tmp 48)), true, none⟩,
  ⟨some 50, (.mov (.tmp 8)), false, some (49, false)⟩,
  ⟨some 51, (.fieldAddr 15 (.tmp 5)), false, some (49, false)⟩,
  ⟨some 52, (.load 1 false (.tmp 51)), false, some (49, false)⟩,
  ⟨some 53, (.call i_inbox_Inbox_Active [(.tmp 50), (.tmp 52)]), false, some (49, false)⟩,
  ⟨some 54, (.mov (.tmp 10)), false, some (49, false)⟩,
  ⟨some 55, (.call i_transitref32_Same [(.tmp 53), (.tmp 54)]), true, some (49, false)⟩,
  ⟨some 56, (.un .not (.tmp 55)), true, some (49, false)⟩,
  ⟨some 57, (.pick (.tmp 49) (.const (.bool true)) (.tmp 56)), true, none⟩]
def c8_17 : ACode := (.seq (.region o8_16 [5, 7, 8, 9, 10, 57]) (.cond (.tmp 57) c8_15 .skip))
def w8_17 (P : Program) (Q : Exit → Slots → Mem → Prop) (M : Mem) (v5 : V) (v7 : V) (v8 : V) (v9 : V) (v10 : V) : Prop :=
  @OptBH (binV .eql .ptr v8 .nilp) ⟨fun b41_2 =>
  @BIfH b41_2
  ⟨wpC P c8_15 Q [(5, v5), (7, v7), (8, v8), (9, v9), (10, v10), (57, (.bool true))] M⟩
  ⟨@CallH P i_inbox_Inbox_Messages [v8] M ⟨fun t44_8 M8 =>
  @CallH P i_transitref32_Same [t44_8, v9] M8 ⟨fun t46_10 M10 => @OptBH (some t46_10) ⟨fun b46_10 =>
  @OptBH (unV .not (.bool b46_10)) ⟨fun b47_11 =>
  @BIfH b47_11
  ⟨wpC P c8_15 Q [(5, v5), (7, v7), (8, v8), (9, v9), (10, v10), (57, (.bool true))] M10⟩
  ⟨@OptVH (moveV 15 v5) ⟨fun t51_16 =>
  @OptVH (loadV 1 false t51_16 M10) ⟨fun t52_17 =>
  @CallH P i_inbox_Inbox_Active [v8, t52_17] M10 ⟨fun t53_18 M18 =>
  @CallH P i_transitref32_Same [t53_18, v10] M18 ⟨fun t55_20 M20 => @OptBH (some t55_20) ⟨fun b55_20 =>
  @OptBH (unV .not (.bool b55_20)) ⟨fun b56_21 =>
  @BIfH b56_21
  ⟨wpC P c8_15 Q [(5, v5), (7, v7), (8, v8), (9, v9), (10, v10), (57, (.bool b56_21))] M20⟩
  ⟨Q .normal [(5, v5), (7, v7), (8, v8), (9, v9), (10, v10), (57, (.bool b56_21))] M20⟩⟩⟩⟩⟩⟩⟩⟩⟩⟩⟩⟩⟩⟩
theorem e8_17 (P : Program) (Q : Exit → Slots → Mem → Prop) (s : Slots) (M : Mem) : wpC P c8_17 Q s M = w8_17 P Q M (sget s 5) (sget s 7) (sget s 8) (sget s 9) (sget s 10) := by kernel_rfl
def o8_18 : List AOper := [⟨some 58, (.mov (.tmp 8)), false, none⟩,
  ⟨some 59, (.fieldAddr 1 (.tmp 5)), false, none⟩,
  ⟨some 60, (.load 13 true (.tmp 59)), false, none⟩,
  ⟨some 61, (.fieldAddr 15 (.tmp 5)), false, none⟩,
  ⟨some 62, (.load 1 false (.tmp 61)), false, none⟩,
  ⟨some 63, (.call i_inbox_Inbox_Receive [(.tmp 58), (.tmp 60), (.tmp 62)]), false, none⟩]
def c8_19 : ACode := (.region o8_18 [5, 7, 8, 9, 10])
def w8_19 (P : Program) (Q : Exit → Slots → Mem → Prop) (M : Mem) (v5 : V) (v7 : V) (v8 : V) (v9 : V) (v10 : V) : Prop :=
  @OptVH (moveV 1 v5) ⟨fun t59_2 =>
  @OptVH (loadV 13 true t59_2 M) ⟨fun t60_3 =>
  @OptVH (moveV 15 v5) ⟨fun t61_4 =>
  @OptVH (loadV 1 false t61_4 M) ⟨fun t62_5 =>
  @CallH P i_inbox_Inbox_Receive [v8, t60_3, t62_5] M ⟨fun _t63_6 M6 =>
  Q .normal [(5, v5), (7, v7), (8, v8), (9, v9), (10, v10)] M6⟩⟩⟩⟩⟩
theorem e8_19 (P : Program) (Q : Exit → Slots → Mem → Prop) (s : Slots) (M : Mem) : wpC P c8_19 Q s M = w8_19 P Q M (sget s 5) (sget s 7) (sget s 8) (sget s 9) (sget s 10) := by kernel_rfl
def o8_20 : List AOper := [⟨some 64, (.mov (.tmp 8)), false, none⟩,
  ⟨some 65, (.fieldAddr 14 (.tmp 5)), false, none⟩,
  ⟨some 66, (.load 1 false (.tmp 65)), false, none⟩,
  ⟨some 67, (.fieldAddr 15 (.tmp 5)), false, none⟩,
  ⟨some 68, (.load 1 false (.tmp 67)), false, none⟩,
  ⟨some 69, (.call i_inbox_Inbox_Heartbeat [(.tmp 64), (.tmp 66), (.tmp 68)]), false, none⟩]
def c8_21 : ACode := (.region o8_20 [5, 7, 9, 10])
def w8_21 (P : Program) (Q : Exit → Slots → Mem → Prop) (M : Mem) (v5 : V) (v7 : V) (v8 : V) (v9 : V) (v10 : V) : Prop :=
  @OptVH (moveV 14 v5) ⟨fun t65_2 =>
  @OptVH (loadV 1 false t65_2 M) ⟨fun t66_3 =>
  @OptVH (moveV 15 v5) ⟨fun t67_4 =>
  @OptVH (loadV 1 false t67_4 M) ⟨fun t68_5 =>
  @CallH P i_inbox_Inbox_Heartbeat [v8, t66_3, t68_5] M ⟨fun _t69_6 M6 =>
  Q .normal [(5, v5), (7, v7), (9, v9), (10, v10)] M6⟩⟩⟩⟩⟩
theorem e8_21 (P : Program) (Q : Exit → Slots → Mem → Prop) (s : Slots) (M : Mem) : wpC P c8_21 Q s M = w8_21 P Q M (sget s 5) (sget s 7) (sget s 8) (sget s 9) (sget s 10) := by kernel_rfl
def o8_22 : List AOper := [⟨some 70, (.mov (.tmp 7)), false, none⟩,
  ⟨some 71, (.call i_inbox_Inbox_Messages [(.tmp 70)]), false, none⟩,
  ⟨some 72, (.mov (.tmp 9)), false, none⟩,
  ⟨some 73, (.call i_transitref32_Same [(.tmp 71), (.tmp 72)]), true, none⟩,
  ⟨some 74, (.mov (.tmp 73)), true, none⟩,
  ⟨some 75, (.mov (.tmp 7)), false, some (74, true)⟩,
  ⟨some 76, (.fieldAddr 15 (.tmp 5)), false, some (74, true)⟩,
  ⟨some 77, (.load 1 false (.tmp 76)), false, some (74, true)⟩,
  ⟨some 78, (.call i_inbox_Inbox_Active [(.tmp 75), (.tmp 77)]), false, some (74, true)⟩,
  ⟨some 79, (.mov (.tmp 10)), false, some (74, true)⟩,
  ⟨some 80, (.call i_transitref32_Same [(.tmp 78), (.tmp 79)]), true, some (74, true)⟩,
  ⟨some 81, (.pick (.tmp 74) (.tmp 80) (.const (.bool false))), true, none⟩,
  ⟨some 82, (.mov (.tmp 81)), true, none⟩,
  ⟨some 83, (.call i_transitlaw32_exampleHolds []), true, some (82, true)⟩,
  ⟨some 84, (.pick (.tmp 82) (.tmp 83) (.const (.bool false))), true, none⟩,
  ⟨some 6, (.mov (.tmp 84)), true, none⟩]
def c8_23 : ACode := (.region o8_22 [6])
def w8_23 (P : Program) (Q : Exit → Slots → Mem → Prop) (M : Mem) (v5 : V) (v7 : V) (v9 : V) (v10 : V) : Prop :=
  @CallH P i_inbox_Inbox_Messages [v7] M ⟨fun t71_2 M2 =>
  @CallH P i_transitref32_Same [t71_2, v9] M2 ⟨fun t73_4 M4 => @OptBH (some t73_4) ⟨fun b73_4 =>
  @BIfH b73_4
  ⟨@OptVH (moveV 15 v5) ⟨fun t76_7 =>
  @OptVH (loadV 1 false t76_7 M4) ⟨fun t77_8 =>
  @CallH P i_inbox_Inbox_Active [v7, t77_8] M4 ⟨fun t78_9 M9 =>
  @CallH P i_transitref32_Same [t78_9, v10] M9 ⟨fun t80_11 M11 => @OptBH (some t80_11) ⟨fun b80_11 =>
  @BIfH b80_11
  ⟨@CallH P i_transitlaw32_exampleHolds [] M11 ⟨fun t83_14 M14 => @OptBH (some t83_14) ⟨fun b83_14 =>
  Q .normal [(6, (.bool b83_14))] M14⟩⟩⟩
  ⟨Q .normal [(6, (.bool false))] M11⟩⟩⟩⟩⟩⟩⟩
  ⟨Q .normal [(6, (.bool false))] M4⟩⟩⟩⟩
theorem e8_23 (P : Program) (Q : Exit → Slots → Mem → Prop) (s : Slots) (M : Mem) : wpC P c8_23 Q s M = w8_23 P Q M (sget s 5) (sget s 7) (sget s 9) (sget s 10) := by kernel_rfl
def c8_24 : ACode := (.seq c8_23 .ret)
def c8_25 : ACode := (.seq c8_21 c8_24)
def c8_26 : ACode := (.seq c8_19 c8_25)
def c8_27 : ACode := (.seq c8_17 c8_26)
def c8_28 : ACode := (.seq c8_12 c8_27)
def c8_29 : ACode := (.seq c8_10 c8_28)
def c8_30 : ACode := (.seq c8_8 c8_29)
def c8_31 : ACode := (.seq c8_3 c8_30)
def c8_32 : ACode := (.seq c8_1 c8_31)
def fn_transitlaw32_InboxClones : AFn := ⟨85, [(.tmp 6)], c8_32⟩
theorem fn_transitlaw32_InboxClones_ok : resFn PR h_transitlaw32_InboxClones i_transitlaw32_InboxClones = some fn_transitlaw32_InboxClones := by kernel_rfl

def h_transitlaw32_InboxNil : Hints := ⟨[(0, [1]), (1, [1, 9]), (2, [2]), (3, [1, 3]), (4, [1, 3, 4, 5]), (5, [2])], [], []⟩
def o9_0 : List AOper := [⟨some 1, (.box 16 (.tmp 0)), false, none⟩,
  ⟨some 2, (.mov (.const (.bool false))), true, none⟩]
def c9_1 : ACode := (.region o9_0 [1])
def w9_1 (_P : Program) (Q : Exit → Slots → Mem → Prop) (M : Mem) (v0 : V) : Prop :=
  @OptMH (boxV 16 v0 M) ⟨fun t1_1 M1 =>
  Q .normal [(1, t1_1)] M1⟩
theorem e9_1 (P : Program) (Q : Exit → Slots → Mem → Prop) (s : Slots) (M : Mem) : wpC P c9_1 Q s M = w9_1 P Q M (sget s 0) := by kernel_rfl
def o9_2 : List AOper := [⟨some 10, (.call i_transitlaw32_exampleHolds []), true, none⟩,
  ⟨some 2, (.mov (.tmp 10)), true, none⟩]
def c9_3 : ACode := (.region o9_2 [2])
def w9_3 (P : Program) (Q : Exit → Slots → Mem → Prop) (M : Mem) : Prop :=
  @CallH P i_transitlaw32_exampleHolds [] M ⟨fun t10_1 M1 => @OptBH (some t10_1) ⟨fun b10_1 =>
  Q .normal [(2, (.bool b10_1))] M1⟩⟩
theorem e9_3 (P : Program) (Q : Exit → Slots → Mem → Prop) (s : Slots) (M : Mem) : wpC P c9_3 Q s M = w9_3 P Q M := by kernel_rfl
def c9_4 : ACode := (.seq c9_3 .ret)
def o9_5 : List AOper := [⟨some 6, (.fieldAddr 1 (.tmp 1)), false, none⟩,
  ⟨some 7, (.load 13 true (.tmp 6)), false, none⟩,
  ⟨some 8, (.call i_transitlaw32_small [(.tmp 7)]), true, none⟩,
  ⟨some 9, (.un .not (.tmp 8)), true, none⟩]
def c9_6 : ACode := (.seq (.region o9_5 [1, 9]) (.cond (.tmp 9) c9_4 .skip))
def w9_6 (P : Program) (Q : Exit → Slots → Mem → Prop) (M : Mem) (v1 : V) : Prop :=
  @OptVH (moveV 1 v1) ⟨fun t6_1 =>
  @OptVH (loadV 13 true t6_1 M) ⟨fun t7_2 =>
  @CallH P i_transitlaw32_small [t7_2] M ⟨fun t8_3 M3 => @OptBH (some t8_3) ⟨fun b8_3 =>
  @OptBH (unV .not (.bool b8_3)) ⟨fun b9_4 =>
  @BIfH b9_4
  ⟨wpC P c9_4 Q [(1, v1), (9, (.bool b9_4))] M3⟩
  ⟨Q .normal [(1, v1), (9, (.bool b9_4))] M3⟩⟩⟩⟩⟩⟩
theorem e9_6 (P : Program) (Q : Exit → Slots → Mem → Prop) (s : Slots) (M : Mem) : wpC P c9_6 Q s M = w9_6 P Q M (sget s 1) := by kernel_rfl
def o9_7 : List AOper := [⟨some 3, (.mov (.const .nilp)), false, none⟩]
def c9_8 : ACode := (.region o9_7 [1, 3])
def w9_8 (_P : Program) (Q : Exit → Slots → Mem → Prop) (M : Mem) (v1 : V) : Prop :=
  Q .normal [(1, v1), (3, .nilp)] M
theorem e9_8 (P : Program) (Q : Exit → Slots → Mem → Prop) (s : Slots) (M : Mem) : wpC P c9_8 Q s M = w9_8 P Q M (sget s 1) := by kernel_rfl
def o9_9 : List AOper := [⟨some 12, (.mov (.tmp 3)), false, none⟩,
  ⟨some 13, (.fieldAddr 14 (.tmp 1)), false, none⟩,
  ⟨some 14, (.load 1 false (.tmp 13)), false, none⟩,
  ⟨some 15, (.call i_inbox_Inbox_Sequence [(.tmp 12), (.tmp 14)]), false, none⟩,
  ⟨some 11, (.mov (.tmp 15)), false, none⟩,
  ⟨some 16, (.extract (.tmp 11) 0), false, none⟩,
  ⟨some 17, (.extract (.tmp 11) 1), true, none⟩,
  ⟨some 4, (.mov (.tmp 16)), false, none⟩,
  ⟨some 5, (.mov (.tmp 17)), true, none⟩]
def c9_10 : ACode := (.region o9_9 [1, 3, 4, 5])
def w9_10 (P : Program) (Q : Exit → Slots → Mem → Prop) (M : Mem) (v1 : V) (v3 : V) : Prop :=
  @OptVH (moveV 14 v1) ⟨fun t13_2 =>
  @OptVH (loadV 1 false t13_2 M) ⟨fun t14_3 =>
  @CallH P i_inbox_Inbox_Sequence [v3, t14_3] M ⟨fun t15_4 M4 =>
  @OptVH (extractV t15_4 0) ⟨fun t16_6 =>
  @OptBH (extractV t15_4 1) ⟨fun b17_7 =>
  Q .normal [(1, v1), (3, v3), (4, t16_6), (5, (.bool b17_7))] M4⟩⟩⟩⟩⟩
theorem e9_10 (P : Program) (Q : Exit → Slots → Mem → Prop) (s : Slots) (M : Mem) : wpC P c9_10 Q s M = w9_10 P Q M (sget s 1) (sget s 3) := by kernel_rfl
def o9_11 : List AOper := [⟨some 18, (.mov (.tmp 3)), false, none⟩,
  ⟨some 19, (.fieldAddr 1 (.tmp 1)), false, none⟩,
  ⟨some 20, (.load 13 true (.tmp 19)), false, none⟩,
  ⟨some 21, (.fieldAddr 15 (.tmp 1)), false, none⟩,
  ⟨some 22, (.load 1 false (.tmp 21)), false, none⟩,
  ⟨some 23, (.call i_inbox_Inbox_Receive [(.tmp 18), (.tmp 20), (.tmp 22)]), false, none⟩,
  ⟨some 24, (.bin .eql .none (.tmp 23) (.const (.int .i64 40))), true, none⟩,
  ⟨some 25, (.mov (.tmp 24)), true, none⟩,
  ⟨some 26, (.mov (.tmp 3)), false, some (25, true)⟩,
  ⟨some 27, (.fieldAddr 14 (.tmp 1)), false, some (25, true)⟩,
  ⟨some 28, (.load 1 false (.tmp 27)), false, some (25, true)⟩,
  ⟨some 29, (.fieldAddr 15 (.tmp 1)), false, some (25, true)⟩,
  ⟨some 30, (.load 1 false (.tmp 29)), false, some (25, true)⟩,
  ⟨some 31, (.call i_inbox_Inbox_Heartbeat [(.tmp 26), (.tmp 28), (.tmp 30)]), false, some (25, true)⟩,
  ⟨some 32, (.bin .eql .none (.tmp 31) (.const (.int .i64 40))), true, some (25, true)⟩,
  ⟨some 33, (.pick (.tmp 25) (.tmp 32) (.const (.bool false))), true, none⟩,
  ⟨some 34, (.mov (.tmp 33)), true, none⟩,
  ⟨some 35, (.mov (.tmp 3)), false, some (34, true)⟩,
  ⟨some 36, (.fieldAddr 14 (.tmp 1)), false, some (34, true)⟩,
  ⟨some 37, (.load 1 false (.tmp 36)), false, some (34, true)⟩,
  ⟨some 38, (.fieldAddr 15 (.tmp 1)), false, some (34, true)⟩,
  ⟨some 39, (.load 1 false (.tmp 38)), false, some (34, true)⟩,
  ⟨some 40, (.call i_inbox_Inbox_Failed [(.tmp 35), (.tmp 37), (.tmp 39)]), true, some (34, true)⟩,
  ⟨some 41, (.un .not (.tmp 40)), true, some (34, true)⟩,
  ⟨some 42, (.pick (.tmp 34) (.tmp 41) (.const (.bool false))), true, none⟩,
  ⟨some 43, (.mov (.tmp 42)), true, none⟩,
  ⟨some 44, (.mov (.tmp 4)), false, some (43, true)⟩,
  ⟨some 45, (.bin .eql .none (.tmp 44) (.const (.int .i64 0))), true, some (43, true)⟩,
  ⟨some 46, (.pick (.tmp 43) (.tmp 45) (.const (.bool false))), true, none⟩,
  ⟨some 47, (.mov (.tmp 46)), true, none⟩,
  ⟨some 48, (.mov (.tmp 5)), true, some (47, true)⟩,
  ⟨some 49, (.un .not (.tmp 48)), true, some (47, true)⟩,
  ⟨some 50, (.pick (.tmp 47) (.tmp 49) (.const (.bool false))), true, none⟩,
  ⟨some 51, (.mov (.tmp 50)), true, none⟩,
  ⟨some 52, (.mov (.tmp 3)), false, some (51, true)⟩,
  ⟨some 53, (.call i_inbox_Inbox_Messages [(.tmp 52)]), false, some (51, true)⟩,
  ⟨some 54, (.lenSl (.tmp 53)), false, some (51, true)⟩,
  ⟨some 55, (.bin .eql .none (.tmp 54) (.const (.int .i64 0))), true, some (51, true)⟩,
  ⟨some 56, (.pick (.tmp 51) (.tmp 55) (.const (.bool false))), true, none⟩,
  ⟨some 57, (.mov (.tmp 56)), true, none⟩,
  ⟨some 58, (.mov (.tmp 3)), false, some (57, true)⟩,
  ⟨some 59, (.fieldAddr 15 (.tmp 1)), false, some (57, true)⟩,
  ⟨some 60, (.load 1 false (.tmp 59)), false, some (57, true)⟩,
  ⟨some 61, (.call i_inbox_Inbox_Active [(.tmp 58), (.tmp 60)]), false, some (57, true)⟩,
  ⟨some 62, (.lenSl (.tmp 61)), false, some (57, true)⟩,
  ⟨some 63, (.bin .eql .none (.tmp 62) (.const (.int .i64 0))), true, some (57, true)⟩,
  ⟨some 64, (.pick (.tmp 57) (.tmp 63) (.const (.bool false))), true, none⟩,
  ⟨some 65, (.mov (.tmp 64)), true, none⟩,
  ⟨some 66, (.mov (.tmp 3)), false, some (65, true)⟩,
  ⟨some 67, (.call i_inbox_Inbox_Clone [(.tmp 66)]), false, some (65, true)⟩,
  ⟨some 68, (.bin .eql .ptr (.tmp 67) (.const .nilp)), true, some (65, true)⟩,
  ⟨some 69, (.pick (.tmp 65) (.tmp 68) (.const (.bool false))), true, none⟩,
  ⟨some 70, (.mov (.tmp 69)), true, none⟩,
  ⟨some 71, (.call i_transitlaw32_exampleHolds []), true, some (70, true)⟩,
  ⟨some 72, (.pick (.tmp 70) (.tmp 71) (.const (.bool false))), true, none⟩,
  ⟨some 2, (.mov (.tmp 72)), true, none⟩]
def c9_12 : ACode := (.region o9_11 [2])
def w9_12 (P : Program) (Q : Exit → Slots → Mem → Prop) (M : Mem) (v1 : V) (v3 : V) (v4 : V) (v5 : V) : Prop :=
  @OptVH (moveV 1 v1) ⟨fun t19_2 =>
  @OptVH (loadV 13 true t19_2 M) ⟨fun t20_3 =>
  @OptVH (moveV 15 v1) ⟨fun t21_4 =>
  @OptVH (loadV 1 false t21_4 M) ⟨fun t22_5 =>
  @CallH P i_inbox_Inbox_Receive [v3, t20_3, t22_5] M ⟨fun t23_6 M6 =>
  @OptBH (binV .eql .none t23_6 (.int .i64 40)) ⟨fun b24_7 =>
  @BIfH b24_7
  ⟨@OptVH (moveV 14 v1) ⟨fun t27_10 =>
  @OptVH (loadV 1 false t27_10 M6) ⟨fun t28_11 =>
  @OptVH (moveV 15 v1) ⟨fun t29_12 =>
  @OptVH (loadV 1 false t29_12 M6) ⟨fun t30_13 =>
  @CallH P i_inbox_Inbox_Heartbeat [v3, t28_11, t30_13] M6 ⟨fun t31_14 M14 =>
  @OptBH (binV .eql .none t31_14 (.int .i64 40)) ⟨fun b32_15 =>
  @BIfH b32_15
  ⟨@OptVH (moveV 14 v1) ⟨fun t36_19 =>
  @OptVH (loadV 1 false t36_19 M14) ⟨fun t37_20 =>
  @OptVH (moveV 15 v1) ⟨fun t38_21 =>
  @OptVH (loadV 1 false t38_21 M14) ⟨fun t39_22 =>
  @CallH P i_inbox_Inbox_Failed [v3, t37_20, t39_22] M14 ⟨fun t40_23 M23 => @OptBH (some t40_23) ⟨fun b40_23 =>
  @OptBH (unV .not (.bool b40_23)) ⟨fun b41_24 =>
  @BIfH b41_24
  ⟨@OptBH (binV .eql .none v4 (.int .i64 0)) ⟨fun b45_28 =>
  @BIfH b45_28
  ⟨@OptBH (some v5) ⟨fun b48_31 =>
  @OptBH (unV .not (.bool b48_31)) ⟨fun b49_32 =>
  @BIfH b49_32
  ⟨@CallH P i_inbox_Inbox_Messages [v3] M23 ⟨fun t53_36 M36 =>
  @OptVH (lenV t53_36 M36) ⟨fun t54_37 =>
  @OptBH (binV .eql .none t54_37 (.int .i64 0)) ⟨fun b55_38 =>
  @BIfH b55_38
  ⟨@OptVH (moveV 15 v1) ⟨fun t59_42 =>
  @OptVH (loadV 1 false t59_42 M36) ⟨fun t60_43 =>
  @CallH P i_inbox_Inbox_Active [v3, t60_43] M36 ⟨fun t61_44 M44 =>
  @OptVH (lenV t61_44 M44) ⟨fun t62_45 =>
  @OptBH (binV .eql .none t62_45 (.int .i64 0)) ⟨fun b63_46 =>
  @BIfH b63_46
  ⟨@CallH P i_inbox_Inbox_Clone [v3] M44 ⟨fun t67_50 M50 =>
  @OptBH (binV .eql .ptr t67_50 .nilp) ⟨fun b68_51 =>
  @BIfH b68_51
  ⟨@CallH P i_transitlaw32_exampleHolds [] M50 ⟨fun t71_54 M54 => @OptBH (some t71_54) ⟨fun b71_54 =>
  Q .normal [(2, (.bool b71_54))] M54⟩⟩⟩
  ⟨Q .normal [(2, (.bool false))] M50⟩⟩⟩⟩
  ⟨Q .normal [(2, (.bool false))] M44⟩⟩⟩⟩⟩⟩⟩
  ⟨Q .normal [(2, (.bool false))] M36⟩⟩⟩⟩⟩
  ⟨Q .normal [(2, (.bool false))] M23⟩⟩⟩⟩
  ⟨Q .normal [(2, (.bool false))] M23⟩⟩⟩
  ⟨Q .normal [(2, (.bool false))] M23⟩⟩⟩⟩⟩⟩⟩⟩⟩
  ⟨Q .normal [(2, (.bool false))] M14⟩⟩⟩⟩⟩⟩⟩⟩
  ⟨Q .normal [(2, (.bool false))] M6⟩⟩⟩⟩⟩⟩⟩
theorem e9_12 (P : Program) (Q : Exit → Slots → Mem → Prop) (s : Slots) (M : Mem) : wpC P c9_12 Q s M = w9_12 P Q M (sget s 1) (sget s 3) (sget s 4) (sget s 5) := by kernel_rfl
def c9_13 : ACode := (.seq c9_12 .ret)
def c9_14 : ACode := (.seq c9_10 c9_13)
def c9_15 : ACode := (.seq c9_8 c9_14)
def c9_16 : ACode := (.seq c9_6 c9_15)
def c9_17 : ACode := (.seq c9_1 c9_16)
def fn_transitlaw32_InboxNil : AFn := ⟨73, [(.tmp 2)], c9_17⟩
theorem fn_transitlaw32_InboxNil_ok : resFn PR h_transitlaw32_InboxNil i_transitlaw32_InboxNil = some fn_transitlaw32_InboxNil := by kernel_rfl

def h_inbox_New : Hints := ⟨[(0, [0, 1]), (1, [0, 1, 11]), (2, [4, 5]), (3, [0, 1, 17]), (4, [4, 5]), (5, [4, 5])], [], []⟩
def o10_0 : List AOper := [⟨some 4, (.mov (.const .nilp)), false, none⟩,
  ⟨some 5, (.mov (.const (.int .i64 0))), false, none⟩]
def c10_1 : ACode := (.region o10_0 [0, 1])
def w10_1 (_P : Program) (Q : Exit → Slots → Mem → Prop) (M : Mem) (v0 : V) (v1 : V) : Prop :=
  Q .normal [(0, v0), (1, v1)] M
theorem e10_1 (P : Program) (Q : Exit → Slots → Mem → Prop) (s : Slots) (M : Mem) : wpC P c10_1 Q s M = w10_1 P Q M (sget s 0) (sget s 1) := by kernel_rfl
def o10_2 : List AOper := [⟨some 4, (.mov (.const .nilp)), false, none⟩,
  ⟨some 5, (.mov (.const (.int .i64 36))), false, none⟩]
def c10_3 : ACode := (.region o10_2 [4, 5])
def w10_3 (_P : Program) (Q : Exit → Slots → Mem → Prop) (M : Mem) : Prop :=
  Q .normal [(4, .nilp), (5, (.int .i64 36))] M
theorem e10_3 (P : Program) (Q : Exit → Slots → Mem → Prop) (s : Slots) (M : Mem) : wpC P c10_3 Q s M = w10_3 P Q M := by kernel_rfl
def c10_4 : ACode := (.seq c10_3 .ret)
def o10_5 : List AOper := [⟨some 6, (.mov (.tmp 0)), false, none⟩,
  ⟨some 7, (.bin .lss .none (.tmp 6) (.const (.int .i64 1))), true, none⟩,
  ⟨some 8, (.mov (.tmp 7)), true, none⟩,
  ⟨some 9, (.mov (.tmp 0)), false, some (8, false)⟩,
  ⟨some 10, (.bin .gtr .none (.tmp 9) (.const (.int .i64 8))), true, some (8, false)⟩,
  ⟨some 11, (.pick (.tmp 8) (.const (.bool true)) (.tmp 10)), true, none⟩]
def c10_6 : ACode := (.seq (.region o10_5 [0, 1, 11]) (.cond (.tmp 11) c10_4 .skip))
def w10_6 (P : Program) (Q : Exit → Slots → Mem → Prop) (M : Mem) (v0 : V) (v1 : V) : Prop :=
  @OptBH (binV .lss .none v0 (.int .i64 1)) ⟨fun b7_2 =>
  @BIfH b7_2
  ⟨wpC P c10_4 Q [(0, v0), (1, v1), (11, (.bool true))] M⟩
  ⟨@OptBH (binV .gtr .none v0 (.int .i64 8)) ⟨fun b10_6 =>
  @BIfH b10_6
  ⟨wpC P c10_4 Q [(0, v0), (1, v1), (11, (.bool b10_6))] M⟩
  ⟨Q .normal [(0, v0), (1, v1), (11, (.bool b10_6))] M⟩⟩⟩⟩
theorem e10_6 (P : Program) (Q : Exit → Slots → Mem → Prop) (s : Slots) (M : Mem) : wpC P c10_6 Q s M = w10_6 P Q M (sget s 0) (sget s 1) := by kernel_rfl
def o10_7 : List AOper := [⟨some 4, (.mov (.const .nilp)), false, none⟩,
  ⟨some 5, (.mov (.const (.int .i64 2))), false, none⟩]
def c10_8 : ACode := (.region o10_7 [4, 5])
def w10_8 (_P : Program) (Q : Exit → Slots → Mem → Prop) (M : Mem) : Prop :=
  Q .normal [(4, .nilp), (5, (.int .i64 2))] M
theorem e10_8 (P : Program) (Q : Exit → Slots → Mem → Prop) (s : Slots) (M : Mem) : wpC P c10_8 Q s M = w10_8 P Q M := by kernel_rfl
def c10_9 : ACode := (.seq c10_8 .ret)
def o10_10 : List AOper := [⟨some 12, (.mov (.tmp 1)), false, none⟩,
  ⟨some 13, (.bin .lss .none (.tmp 12) (.const (.int .i64 0))), true, none⟩,
  ⟨some 14, (.mov (.tmp 13)), true, none⟩,
  ⟨some 15, (.mov (.tmp 1)), false, some (14, false)⟩,
  ⟨some 16, (.bin .gtr .none (.tmp 15) (.const (.int .i64 86400))), true, some (14, false)⟩,
  ⟨some 17, (.pick (.tmp 14) (.const (.bool true)) (.tmp 16)), true, none⟩]
def c10_11 : ACode := (.seq (.region o10_10 [0, 1, 17]) (.cond (.tmp 17) c10_9 .skip))
def w10_11 (P : Program) (Q : Exit → Slots → Mem → Prop) (M : Mem) (v0 : V) (v1 : V) : Prop :=
  @OptBH (binV .lss .none v1 (.int .i64 0)) ⟨fun b13_2 =>
  @BIfH b13_2
  ⟨wpC P c10_9 Q [(0, v0), (1, v1), (17, (.bool true))] M⟩
  ⟨@OptBH (binV .gtr .none v1 (.int .i64 86400)) ⟨fun b16_6 =>
  @BIfH b16_6
  ⟨wpC P c10_9 Q [(0, v0), (1, v1), (17, (.bool b16_6))] M⟩
  ⟨Q .normal [(0, v0), (1, v1), (17, (.bool b16_6))] M⟩⟩⟩⟩
theorem e10_11 (P : Program) (Q : Exit → Slots → Mem → Prop) (s : Slots) (M : Mem) : wpC P c10_11 Q s M = w10_11 P Q M (sget s 0) (sget s 1) := by kernel_rfl
def o10_12 : List AOper := [⟨some 18, (.mov (.tmp 0)), false, none⟩,
  ⟨some 19, (.makeSlice [(.bool false), (.int .i64 0), (.bool false), (.int .i64 0)] 4 32 (.tmp 18) (.tmp 18)), false, none⟩,
  ⟨some 20, (.mov (.tmp 1)), false, none⟩,
  ⟨some 21, (.build [(.slice [] .nil), (.int .i64 0), (.slice [] .nil)] [(0, (1, (.tmp 19))), (1, (1, (.tmp 20)))]), false, none⟩,
  ⟨some 22, (.box 3 (.tmp 21)), false, none⟩,
  ⟨some 4, (.mov (.tmp 22)), false, none⟩,
  ⟨some 5, (.mov (.const (.int .i64 0))), false, none⟩]
def c10_13 : ACode := (.region o10_12 [4, 5])
def w10_13 (_P : Program) (Q : Exit → Slots → Mem → Prop) (M : Mem) (v0 : V) (v1 : V) : Prop :=
  @OptMH (makeSliceV [(.bool false), (.int .i64 0), (.bool false), (.int .i64 0)] 4 32 v0 v0 M) ⟨fun t19_2 M2 =>
  @OptVH (buildV [(.slice [] .nil), (.int .i64 0), (.slice [] .nil)] [(0, 1, t19_2), (1, 1, v1)]) ⟨fun t21_4 =>
  @OptMH (boxV 3 t21_4 M2) ⟨fun t22_5 M5 =>
  Q .normal [(4, t22_5), (5, (.int .i64 0))] M5⟩⟩⟩
theorem e10_13 (P : Program) (Q : Exit → Slots → Mem → Prop) (s : Slots) (M : Mem) : wpC P c10_13 Q s M = w10_13 P Q M (sget s 0) (sget s 1) := by kernel_rfl
def c10_14 : ACode := (.seq c10_13 .ret)
def c10_15 : ACode := (.seq c10_11 c10_14)
def c10_16 : ACode := (.seq c10_6 c10_15)
def c10_17 : ACode := (.seq c10_1 c10_16)
def fn_inbox_New : AFn := ⟨23, [(.tmp 4), (.tmp 5)], c10_17⟩
theorem fn_inbox_New_ok : resFn PR h_inbox_New i_inbox_New = some fn_inbox_New := by kernel_rfl

def h_transitref32_New : Hints := ⟨[(0, [0, 1, 4]), (1, [0, 1, 4, 13]), (2, [4, 5]), (3, [0, 1, 4, 20]), (4, [4, 5]), (5, [0, 4, 6]), (6, [0, 4, 6, 7]), (7, [0, 4, 6, 7, 26]), (8, [0, 4, 6, 7]), (9, [0, 4, 6, 7]), (10, [4, 5])], [(7, [0, 4, 6, 7])], []⟩
def o11_0 : List AOper := [⟨some 4, (.alloc [(.int .i64 0), (.slice [] .nil), (.slice [] .nil)]), false, none⟩,
  ⟨some 5, (.mov (.const (.int .i64 0))), false, none⟩]
def c11_1 : ACode := (.region o11_0 [0, 1, 4])
def w11_1 (_P : Program) (Q : Exit → Slots → Mem → Prop) (M : Mem) (v0 : V) (v1 : V) : Prop :=
  @OptMH (allocV [(.int .i64 0), (.slice [] .nil), (.slice [] .nil)] M) ⟨fun t4_1 M1 =>
  Q .normal [(0, v0), (1, v1), (4, t4_1)] M1⟩
theorem e11_1 (P : Program) (Q : Exit → Slots → Mem → Prop) (s : Slots) (M : Mem) : wpC P c11_1 Q s M = w11_1 P Q M (sget s 0) (sget s 1) := by kernel_rfl
def o11_2 : List AOper := [⟨some 14, (.build [(.int .i64 0), (.slice [] .nil), (.slice [] .nil)] []), false, none⟩,
  ⟨none, (.store 3 (.tmp 4) (.tmp 14)), false, none⟩,
  ⟨some 5, (.mov (.const (.int .i64 36))), false, none⟩]
def c11_3 : ACode := (.region o11_2 [4, 5])
def w11_3 (_P : Program) (Q : Exit → Slots → Mem → Prop) (M : Mem) (v4 : V) : Prop :=
  @OptVH (buildV [(.int .i64 0), (.slice [] .nil), (.slice [] .nil)] []) ⟨fun t14_1 =>
  @OptMH (storeVM 3 v4 t14_1 M) ⟨fun _tx_2 M2 =>
  Q .normal [(4, v4), (5, (.int .i64 36))] M2⟩⟩
theorem e11_3 (P : Program) (Q : Exit → Slots → Mem → Prop) (s : Slots) (M : Mem) : wpC P c11_3 Q s M = w11_3 P Q M (sget s 4) := by kernel_rfl
def c11_4 : ACode := (.seq c11_3 .ret)
def o11_5 : List AOper := [⟨some 8, (.mov (.tmp 0)), false, none⟩,
  ⟨some 9, (.bin .lss .none (.tmp 8) (.const (.int .i64 1))), true, none⟩,
  ⟨some 10, (.mov (.tmp 9)), true, none⟩,
  ⟨some 11, (.mov (.tmp 0)), false, some (10, false)⟩,
  ⟨some 12, (.bin .gtr .none (.tmp 11) (.const (.int .i64 8))), true, some (10, false)⟩,
  ⟨some 13, (.pick (.tmp 10) (.const (.bool true)) (.tmp 12)), true, none⟩]
def c11_6 : ACode := (.seq (.region o11_5 [0, 1, 4, 13]) (.cond (.tmp 13) c11_4 .skip))
def w11_6 (P : Program) (Q : Exit → Slots → Mem → Prop) (M : Mem) (v0 : V) (v1 : V) (v4 : V) : Prop :=
  @OptBH (binV .lss .none v0 (.int .i64 1)) ⟨fun b9_2 =>
  @BIfH b9_2
  ⟨wpC P c11_4 Q [(0, v0), (1, v1), (4, v4), (13, (.bool true))] M⟩
  ⟨@OptBH (binV .gtr .none v0 (.int .i64 8)) ⟨fun b12_6 =>
  @BIfH b12_6
  ⟨wpC P c11_4 Q [(0, v0), (1, v1), (4, v4), (13, (.bool b12_6))] M⟩
  ⟨Q .normal [(0, v0), (1, v1), (4, v4), (13, (.bool b12_6))] M⟩⟩⟩⟩
theorem e11_6 (P : Program) (Q : Exit → Slots → Mem → Prop) (s : Slots) (M : Mem) : wpC P c11_6 Q s M = w11_6 P Q M (sget s 0) (sget s 1) (sget s 4) := by kernel_rfl
def o11_7 : List AOper := [⟨some 21, (.build [(.int .i64 0), (.slice [] .nil), (.slice [] .nil)] []), false, none⟩,
  ⟨none, (.store 3 (.tmp 4) (.tmp 21)), false, none⟩,
  ⟨some 5, (.mov (.const (.int .i64 2))), false, none⟩]
def c11_8 : ACode := (.region o11_7 [4, 5])
def w11_8 (_P : Program) (Q : Exit → Slots → Mem → Prop) (M : Mem) (v4 : V) : Prop :=
  @OptVH (buildV [(.int .i64 0), (.slice [] .nil), (.slice [] .nil)] []) ⟨fun t21_1 =>
  @OptMH (storeVM 3 v4 t21_1 M) ⟨fun _tx_2 M2 =>
  Q .normal [(4, v4), (5, (.int .i64 2))] M2⟩⟩
theorem e11_8 (P : Program) (Q : Exit → Slots → Mem → Prop) (s : Slots) (M : Mem) : wpC P c11_8 Q s M = w11_8 P Q M (sget s 4) := by kernel_rfl
def c11_9 : ACode := (.seq c11_8 .ret)
def o11_10 : List AOper := [⟨some 15, (.mov (.tmp 1)), false, none⟩,
  ⟨some 16, (.bin .lss .none (.tmp 15) (.const (.int .i64 0))), true, none⟩,
  ⟨some 17, (.mov (.tmp 16)), true, none⟩,
  ⟨some 18, (.mov (.tmp 1)), false, some (17, false)⟩,
  ⟨some 19, (.bin .gtr .none (.tmp 18) (.const (.int .i64 86400))), true, some (17, false)⟩,
  ⟨some 20, (.pick (.tmp 17) (.const (.bool true)) (.tmp 19)), true, none⟩]
def c11_11 : ACode := (.seq (.region o11_10 [0, 1, 4, 20]) (.cond (.tmp 20) c11_9 .skip))
def w11_11 (P : Program) (Q : Exit → Slots → Mem → Prop) (M : Mem) (v0 : V) (v1 : V) (v4 : V) : Prop :=
  @OptBH (binV .lss .none v1 (.int .i64 0)) ⟨fun b16_2 =>
  @BIfH b16_2
  ⟨wpC P c11_9 Q [(0, v0), (1, v1), (4, v4), (20, (.bool true))] M⟩
  ⟨@OptBH (binV .gtr .none v1 (.int .i64 86400)) ⟨fun b19_6 =>
  @BIfH b19_6
  ⟨wpC P c11_9 Q [(0, v0), (1, v1), (4, v4), (20, (.bool b19_6))] M⟩
  ⟨Q .normal [(0, v0), (1, v1), (4, v4), (20, (.bool b19_6))] M⟩⟩⟩⟩
theorem e11_11 (P : Program) (Q : Exit → Slots → Mem → Prop) (s : Slots) (M : Mem) : wpC P c11_11 Q s M = w11_11 P Q M (sget s 0) (sget s 1) (sget s 4) := by kernel_rfl
def o11_12 : List AOper := [⟨some 22, (.mov (.tmp 1)), false, none⟩,
  ⟨some 23, (.build [(.int .i64 0), (.slice [] .nil), (.slice [] .nil)] [(0, (1, (.tmp 22)))]), false, none⟩,
  ⟨some 6, (.alloc [(.int .i64 0), (.slice [] .nil), (.slice [] .nil)]), false, none⟩,
  ⟨none, (.store 3 (.tmp 6) (.tmp 23)), false, none⟩]
def c11_13 : ACode := (.region o11_12 [0, 4, 6])
def w11_13 (_P : Program) (Q : Exit → Slots → Mem → Prop) (M : Mem) (v0 : V) (v1 : V) (v4 : V) : Prop :=
  @OptVH (buildV [(.int .i64 0), (.slice [] .nil), (.slice [] .nil)] [(0, 1, v1)]) ⟨fun t23_2 =>
  @OptMH (allocV [(.int .i64 0), (.slice [] .nil), (.slice [] .nil)] M) ⟨fun t6_3 M3 =>
  @OptMH (storeVM 3 t6_3 t23_2 M3) ⟨fun _tx_4 M4 =>
  Q .normal [(0, v0), (4, v4), (6, t6_3)] M4⟩⟩⟩
theorem e11_13 (P : Program) (Q : Exit → Slots → Mem → Prop) (s : Slots) (M : Mem) : wpC P c11_13 Q s M = w11_13 P Q M (sget s 0) (sget s 1) (sget s 4) := by kernel_rfl
def o11_14 : List AOper := [⟨some 7, (.mov (.const (.int .i64 0))), false, none⟩]
def c11_15 : ACode := (.region o11_14 [0, 4, 6, 7])
def w11_15 (_P : Program) (Q : Exit → Slots → Mem → Prop) (M : Mem) (v0 : V) (v4 : V) (v6 : V) : Prop :=
  Q .normal [(0, v0), (4, v4), (6, v6), (7, (.int .i64 0))] M
theorem e11_15 (P : Program) (Q : Exit → Slots → Mem → Prop) (s : Slots) (M : Mem) : wpC P c11_15 Q s M = w11_15 P Q M (sget s 0) (sget s 4) (sget s 6) := by kernel_rfl
def o11_16 : List AOper := [⟨some 24, (.mov (.tmp 7)), false, none⟩,
  ⟨some 25, (.mov (.tmp 0)), false, none⟩,
  ⟨some 26, (.bin .lss .none (.tmp 24) (.tmp 25)), true, none⟩]
def c11_17 : ACode := (.seq (.region o11_16 [0, 4, 6, 7, 26]) (.cond (.tmp 26) .skip (.exit 0)))
def w11_17 (_P : Program) (Q : Exit → Slots → Mem → Prop) (M : Mem) (v0 : V) (v4 : V) (v6 : V) (v7 : V) : Prop :=
  @OptBH (binV .lss .none v7 v0) ⟨fun b26_3 =>
  @BIfH b26_3
  ⟨Q .normal [(0, v0), (4, v4), (6, v6), (7, v7), (26, (.bool b26_3))] M⟩
  ⟨Q (.exit 0) [(0, v0), (4, v4), (6, v6), (7, v7), (26, (.bool b26_3))] M⟩⟩
theorem e11_17 (P : Program) (Q : Exit → Slots → Mem → Prop) (s : Slots) (M : Mem) : wpC P c11_17 Q s M = w11_17 P Q M (sget s 0) (sget s 4) (sget s 6) (sget s 7) := by kernel_rfl
def o11_18 : List AOper := [⟨some 29, (.fieldAddr 1 (.tmp 6)), false, none⟩,
  ⟨some 30, (.load 1 false (.tmp 29)), false, none⟩,
  ⟨some 31, (.build [(.int .i64 0), (.int .i64 0)] [(0, (1, (.const (.int .i64 (-1)))))]), false, none⟩,
  ⟨some 32, (.buildSlice [(.int .i64 0), (.int .i64 0)] 2 1 [(0, (2, (.tmp 31)))]), false, none⟩,
  ⟨some 33, (.append false 2 16 (.tmp 30) (.tmp 32)), false, none⟩,
  ⟨some 34, (.fieldAddr 1 (.tmp 6)), false, none⟩,
  ⟨none, (.store 1 (.tmp 34) (.tmp 33)), false, none⟩]
def c11_19 : ACode := (.region o11_18 [0, 4, 6, 7])
def w11_19 (_P : Program) (Q : Exit → Slots → Mem → Prop) (M : Mem) (v0 : V) (v4 : V) (v6 : V) (v7 : V) : Prop :=
  @OptVH (moveV 1 v6) ⟨fun t29_1 =>
  @OptVH (loadV 1 false t29_1 M) ⟨fun t30_2 =>
  @OptVH (buildV [(.int .i64 0), (.int .i64 0)] [(0, 1, (.int .i64 (-1)))]) ⟨fun t31_3 =>
  @OptVH (buildSliceV [(.int .i64 0), (.int .i64 0)] 2 1 [(0, 2, t31_3)]) ⟨fun t32_4 =>
  @OptMH (appV false 2 16 t30_2 t32_4 M) ⟨fun t33_5 M5 =>
  @OptVH (moveV 1 v6) ⟨fun t34_6 =>
  @OptMH (storeVM 1 t34_6 t33_5 M5) ⟨fun _tx_7 M7 =>
  Q .normal [(0, v0), (4, v4), (6, v6), (7, v7)] M7⟩⟩⟩⟩⟩⟩⟩
theorem e11_19 (P : Program) (Q : Exit → Slots → Mem → Prop) (s : Slots) (M : Mem) : wpC P c11_19 Q s M = w11_19 P Q M (sget s 0) (sget s 4) (sget s 6) (sget s 7) := by kernel_rfl
def c11_20 : ACode := (.block 1 c11_19)
def o11_21 : List AOper := [⟨some 27, (.mov (.tmp 7)), false, none⟩,
  ⟨some 28, (.bin .add .none (.tmp 27) (.const (.int .i64 1))), false, none⟩,
  ⟨some 7, (.mov (.tmp 28)), false, none⟩]
def c11_22 : ACode := (.region o11_21 [0, 4, 6, 7])
def w11_22 (_P : Program) (Q : Exit → Slots → Mem → Prop) (M : Mem) (v0 : V) (v4 : V) (v6 : V) (v7 : V) : Prop :=
  @OptVH (binV .add .none v7 (.int .i64 1)) ⟨fun t28_2 =>
  Q .normal [(0, v0), (4, v4), (6, v6), (7, t28_2)] M⟩
theorem e11_22 (P : Program) (Q : Exit → Slots → Mem → Prop) (s : Slots) (M : Mem) : wpC P c11_22 Q s M = w11_22 P Q M (sget s 0) (sget s 4) (sget s 6) (sget s 7) := by kernel_rfl
def c11_23 : ACode := (.seq c11_20 c11_22)
def c11_24 : ACode := (.seq c11_17 c11_23)
def c11_25 : ACode := (.loop [0, 4, 6, 7] c11_24)
def c11_26 : ACode := (.block 0 c11_25)
def c11_27 : ACode := (.seq c11_15 c11_26)
def o11_28 : List AOper := [⟨some 35, (.load 3 true (.tmp 6)), false, none⟩,
  ⟨none, (.store 3 (.tmp 4) (.tmp 35)), false, none⟩,
  ⟨some 5, (.mov (.const (.int .i64 0))), false, none⟩]
def c11_29 : ACode := (.region o11_28 [4, 5])
def w11_29 (_P : Program) (Q : Exit → Slots → Mem → Prop) (M : Mem) (v4 : V) (v6 : V) : Prop :=
  @OptVH (loadV 3 true v6 M) ⟨fun t35_1 =>
  @OptMH (storeVM 3 v4 t35_1 M) ⟨fun _tx_2 M2 =>
  Q .normal [(4, v4), (5, (.int .i64 0))] M2⟩⟩
theorem e11_29 (P : Program) (Q : Exit → Slots → Mem → Prop) (s : Slots) (M : Mem) : wpC P c11_29 Q s M = w11_29 P Q M (sget s 4) (sget s 6) := by kernel_rfl
def c11_30 : ACode := (.seq c11_29 .ret)
def c11_31 : ACode := (.seq c11_27 c11_30)
def c11_32 : ACode := (.seq c11_13 c11_31)
def c11_33 : ACode := (.seq c11_11 c11_32)
def c11_34 : ACode := (.seq c11_6 c11_33)
def c11_35 : ACode := (.seq c11_1 c11_34)
def fn_transitref32_New : AFn := ⟨36, [(.cell 4 3 true), (.tmp 5)], c11_35⟩
theorem fn_transitref32_New_ok : resFn PR h_transitref32_New i_transitref32_New = some fn_transitref32_New := by kernel_rfl

def h_transitlaw32_exampleHolds : Hints := ⟨[(0, []), (1, [1, 2]), (2, [1, 17]), (3, [0]), (4, [1, 3]), (5, [1, 3, 4]), (6, [1, 3, 4, 5]), (7, [1, 3, 4, 5, 6, 7]), (8, [0])], [], []⟩
def o12_0 : List AOper := [⟨some 0, (.mov (.const (.bool false))), true, none⟩]
def c12_1 : ACode := (.region o12_0 [])
def w12_1 (_P : Program) (Q : Exit → Slots → Mem → Prop) (M : Mem) : Prop :=
  Q .normal [] M
theorem e12_1 (P : Program) (Q : Exit → Slots → Mem → Prop) (s : Slots) (M : Mem) : wpC P c12_1 Q s M = w12_1 P Q M := by kernel_rfl
def o12_2 : List AOper := [⟨some 9, (.call i_inbox_New [(.const (.int .i64 2)), (.const (.int .i64 300))]), false, none⟩,
  ⟨some 8, (.mov (.tmp 9)), false, none⟩,
  ⟨some 10, (.extract (.tmp 8) 0), false, none⟩,
  ⟨some 11, (.extract (.tmp 8) 1), false, none⟩,
  ⟨some 1, (.mov (.tmp 10)), false, none⟩,
  ⟨some 2, (.mov (.tmp 11)), false, none⟩]
def c12_3 : ACode := (.region o12_2 [1, 2])
def w12_3 (P : Program) (Q : Exit → Slots → Mem → Prop) (M : Mem) : Prop :=
  @CallH P i_inbox_New [(.int .i64 2), (.int .i64 300)] M ⟨fun t9_1 M1 =>
  @OptVH (extractV t9_1 0) ⟨fun t10_3 =>
  @OptVH (extractV t9_1 1) ⟨fun t11_4 =>
  Q .normal [(1, t10_3), (2, t11_4)] M1⟩⟩⟩
theorem e12_3 (P : Program) (Q : Exit → Slots → Mem → Prop) (s : Slots) (M : Mem) : wpC P c12_3 Q s M = w12_3 P Q M := by kernel_rfl
def o12_4 : List AOper := [⟨some 0, (.mov (.const (.bool false))), true, none⟩]
def c12_5 : ACode := (.region o12_4 [0])
def w12_5 (_P : Program) (Q : Exit → Slots → Mem → Prop) (M : Mem) : Prop :=
  Q .normal [(0, (.bool false))] M
theorem e12_5 (P : Program) (Q : Exit → Slots → Mem → Prop) (s : Slots) (M : Mem) : wpC P c12_5 Q s M = w12_5 P Q M := by kernel_rfl
def c12_6 : ACode := (.seq c12_5 .ret)
def o12_7 : List AOper := [⟨some 12, (.mov (.tmp 1)), false, none⟩,
  ⟨some 13, (.bin .eql .ptr (.tmp 12) (.const .nilp)), true, none⟩,
  ⟨some 14, (.mov (.tmp 13)), true, none⟩,
  ⟨some 15, (.mov (.tmp 2)), false, some (14, false)⟩,
  ⟨some 16, (.bin .neq .none (.tmp 15) (.const (.int .i64 0))), true, some (14, false)⟩,
  ⟨some 17, (.pick (.tmp 14) (.const (.bool true)) (.tmp 16)), true, none⟩]
def c12_8 : ACode := (.seq (.region o12_7 [1, 17]) (.cond (.tmp 17) c12_6 .skip))
def w12_8 (P : Program) (Q : Exit → Slots → Mem → Prop) (M : Mem) (v1 : V) (v2 : V) : Prop :=
  @OptBH (binV .eql .ptr v1 .nilp) ⟨fun b13_2 =>
  @BIfH b13_2
  ⟨wpC P c12_6 Q [(1, v1), (17, (.bool true))] M⟩
  ⟨@OptBH (binV .neq .none v2 (.int .i64 0)) ⟨fun b16_6 =>
  @BIfH b16_6
  ⟨wpC P c12_6 Q [(1, v1), (17, (.bool b16_6))] M⟩
  ⟨Q .normal [(1, v1), (17, (.bool b16_6))] M⟩⟩⟩⟩
theorem e12_8 (P : Program) (Q : Exit → Slots → Mem → Prop) (s : Slots) (M : Mem) : wpC P c12_8 Q s M = w12_8 P Q M (sget s 1) (sget s 2) := by kernel_rfl
def o12_9 : List AOper := [⟨some 18, (.mov (.tmp 1)), false, none⟩,
  ⟨some 19, (.call i_transitlaw32_message [(.const (.int .i64 0)), (.const (.int .i64 1)), (.const (.int .i64 900)), (.const (.int .i64 5000))]), false, none⟩,
  ⟨some 20, (.call i_inbox_Inbox_Receive [(.tmp 18), (.tmp 19), (.const (.int .i64 1000))]), false, none⟩,
  ⟨some 3, (.mov (.tmp 20)), false, none⟩]
def c12_10 : ACode := (.region o12_9 [1, 3])
def w12_10 (P : Program) (Q : Exit → Slots → Mem → Prop) (M : Mem) (v1 : V) : Prop :=
  @CallH P i_transitlaw32_message [(.int .i64 0), (.int .i64 1), (.int .i64 900), (.int .i64 5000)] M ⟨fun t19_2 M2 =>
  @CallH P i_inbox_Inbox_Receive [v1, t19_2, (.int .i64 1000)] M2 ⟨fun t20_3 M3 =>
  Q .normal [(1, v1), (3, t20_3)] M3⟩⟩
theorem e12_10 (P : Program) (Q : Exit → Slots → Mem → Prop) (s : Slots) (M : Mem) : wpC P c12_10 Q s M = w12_10 P Q M (sget s 1) := by kernel_rfl
def o12_11 : List AOper := [⟨some 21, (.mov (.tmp 1)), false, none⟩,
  ⟨some 22, (.call i_transitlaw32_message [(.const (.int .i64 0)), (.const (.int .i64 1)), (.const (.int .i64 900)), (.const (.int .i64 5000))]), false, none⟩,
  ⟨some 23, (.call i_inbox_Inbox_Receive [(.tmp 21), (.tmp 22), (.const (.int .i64 1000))]), false, none⟩,
  ⟨some 4, (.mov (.tmp 23)), false, none⟩]
def c12_12 : ACode := (.region o12_11 [1, 3, 4])
def w12_12 (P : Program) (Q : Exit → Slots → Mem → Prop) (M : Mem) (v1 : V) (v3 : V) : Prop :=
  @CallH P i_transitlaw32_message [(.int .i64 0), (.int .i64 1), (.int .i64 900), (.int .i64 5000)] M ⟨fun t22_2 M2 =>
  @CallH P i_inbox_Inbox_Receive [v1, t22_2, (.int .i64 1000)] M2 ⟨fun t23_3 M3 =>
  Q .normal [(1, v1), (3, v3), (4, t23_3)] M3⟩⟩
theorem e12_12 (P : Program) (Q : Exit → Slots → Mem → Prop) (s : Slots) (M : Mem) : wpC P c12_12 Q s M = w12_12 P Q M (sget s 1) (sget s 3) := by kernel_rfl
def o12_13 : List AOper := [⟨some 24, (.mov (.tmp 1)), false, none⟩,
  ⟨some 25, (.call i_transitlaw32_message [(.const (.int .i64 1)), (.const (.int .i64 7)), (.const (.int .i64 900)), (.const (.int .i64 5000))]), false, none⟩,
  ⟨some 26, (.call i_inbox_Inbox_Receive [(.tmp 24), (.tmp 25), (.const (.int .i64 1200))]), false, none⟩,
  ⟨some 5, (.mov (.tmp 26)), false, none⟩]
def c12_14 : ACode := (.region o12_13 [1, 3, 4, 5])
def w12_14 (P : Program) (Q : Exit → Slots → Mem → Prop) (M : Mem) (v1 : V) (v3 : V) (v4 : V) : Prop :=
  @CallH P i_transitlaw32_message [(.int .i64 1), (.int .i64 7), (.int .i64 900), (.int .i64 5000)] M ⟨fun t25_2 M2 =>
  @CallH P i_inbox_Inbox_Receive [v1, t25_2, (.int .i64 1200)] M2 ⟨fun t26_3 M3 =>
  Q .normal [(1, v1), (3, v3), (4, v4), (5, t26_3)] M3⟩⟩
theorem e12_14 (P : Program) (Q : Exit → Slots → Mem → Prop) (s : Slots) (M : Mem) : wpC P c12_14 Q s M = w12_14 P Q M (sget s 1) (sget s 3) (sget s 4) := by kernel_rfl
def o12_15 : List AOper := [⟨some 27, (.mov (.tmp 1)), false, none⟩,
  ⟨some 28, (.call i_inbox_Inbox_Active [(.tmp 27), (.const (.int .i64 1300))]), false, none⟩,
  ⟨some 29, (.mov (.tmp 1)), false, none⟩,
  ⟨some 30, (.call i_inbox_Inbox_Active [(.tmp 29), (.const (.int .i64 1301))]), false, none⟩,
  ⟨some 6, (.mov (.tmp 28)), false, none⟩,
  ⟨some 7, (.mov (.tmp 30)), false, none⟩]
def c12_16 : ACode := (.region o12_15 [1, 3, 4, 5, 6, 7])
def w12_16 (P : Program) (Q : Exit → Slots → Mem → Prop) (M : Mem) (v1 : V) (v3 : V) (v4 : V) (v5 : V) : Prop :=
  @CallH P i_inbox_Inbox_Active [v1, (.int .i64 1300)] M ⟨fun t28_2 M2 =>
  @CallH P i_inbox_Inbox_Active [v1, (.int .i64 1301)] M2 ⟨fun t30_4 M4 =>
  Q .normal [(1, v1), (3, v3), (4, v4), (5, v5), (6, t28_2), (7, t30_4)] M4⟩⟩
theorem e12_16 (P : Program) (Q : Exit → Slots → Mem → Prop) (s : Slots) (M : Mem) : wpC P c12_16 Q s M = w12_16 P Q M (sget s 1) (sget s 3) (sget s 4) (sget s 5) := by kernel_rfl
def o12_17 : List AOper := [⟨some 31, (.mov (.tmp 3)), false, none⟩,
  ⟨some 32, (.bin .eql .none (.tmp 31) (.const (.int .i64 0))), true, none⟩,
  ⟨some 33, (.mov (.tmp 32)), true, none⟩,
  ⟨some 34, (.mov (.tmp 4)), false, some (33, true)⟩,
  ⟨some 35, (.bin .eql .none (.tmp 34) (.const (.int .i64 37))), true, some (33, true)⟩,
  ⟨some 36, (.pick (.tmp 33) (.tmp 35) (.const (.bool false))), true, none⟩,
  ⟨some 37, (.mov (.tmp 36)), true, none⟩,
  ⟨some 38, (.mov (.tmp 5)), false, some (37, true)⟩,
  ⟨some 39, (.bin .eql .none (.tmp 38) (.const (.int .i64 0))), true, some (37, true)⟩,
  ⟨some 40, (.pick (.tmp 37) (.tmp 39) (.const (.bool false))), true, none⟩,
  ⟨some 41, (.mov (.tmp 40)), true, none⟩,
  ⟨some 42, (.mov (.tmp 6)), false, some (41, true)⟩,
  ⟨some 43, (.lenSl (.tmp 42)), false, some (41, true)⟩,
  ⟨some 44, (.bin .eql .none (.tmp 43) (.const (.int .i64 1))), true, some (41, true)⟩,
  ⟨some 45, (.pick (.tmp 41) (.tmp 44) (.const (.bool false))), true, none⟩,
  ⟨some 46, (.mov (.tmp 45)), true, none⟩,
  ⟨some 47, (.mov (.tmp 6)), false, some (46, true)⟩,
  ⟨some 48, (.indexSl 13 (.tmp 47) (.const (.int .i64 0))), false, some (46, true)⟩,
  ⟨some 49, (.fieldAddr 0 (.tmp 48)), false, some (46, true)⟩,
  ⟨some 50, (.load 1 false (.tmp 49)), false, some (46, true)⟩,
  ⟨some 51, (.bin .eql .none (.tmp 50) (.const (.int .i64 0))), true, some (46, true)⟩,
  ⟨some 52, (.pick (.tmp 46) (.tmp 51) (.const (.bool false))), true, none⟩,
  ⟨some 53, (.mov (.tmp 52)), true, none⟩,
  ⟨some 54, (.mov (.tmp 7)), false, some (53, true)⟩,
  ⟨some 55, (.lenSl (.tmp 54)), false, some (53, true)⟩,
  ⟨some 56, (.bin .eql .none (.tmp 55) (.const (.int .i64 1))), true, some (53, true)⟩,
  ⟨some 57, (.pick (.tmp 53) (.tmp 56) (.const (.bool false))), true, none⟩,
  ⟨some 58, (.mov (.tmp 57)), true, none⟩,
  ⟨some 59, (.mov (.tmp 7)), false, some (58, true)⟩,
  ⟨some 60, (.indexSl 13 (.tmp 59) (.const (.int .i64 0))), false, some (58, true)⟩,
  ⟨some 61, (.fieldAddr 0 (.tmp 60)), false, some (58, true)⟩,
  ⟨some 62, (.load 1 false (.tmp 61)), false, some (58, true)⟩,
  ⟨some 63, (.bin .eql .none (.tmp 62) (.const (.int .i64 1))), true, some (58, true)⟩,
  ⟨some 64, (.pick (.tmp 58) (.tmp 63) (.const (.bool false))), true, none⟩,
  ⟨some 65, (.mov (.tmp 64)), true, none⟩,
  ⟨some 66, (.mov (.tmp 1)), false, some (65, true)⟩,
  ⟨some 67, (.call i_inbox_Inbox_Failed [(.tmp 66), (.const (.int .i64 0)), (.const (.int .i64 1301))]), true, some (65, true)⟩,
  ⟨some 68, (.pick (.tmp 65) (.tmp 67) (.const (.bool false))), true, none⟩,
  ⟨some 69, (.mov (.tmp 68)), true, none⟩,
  ⟨some 70, (.mov (.tmp 1)), false, some (69, true)⟩,
  ⟨some 71, (.call i_inbox_Inbox_Failed [(.tmp 70), (.const (.int .i64 0)), (.const (.int .i64 1300))]), true, some (69, true)⟩,
  ⟨some 72, (.un .not (.tmp 71)), true, some (69, true)⟩,
  ⟨some 73, (.pick (.tmp 69) (.tmp 72) (.const (.bool false))), true, none⟩,
  ⟨some 0, (.mov (.tmp 73)), true, none⟩]
def c12_18 : ACode := (.region o12_17 [0])
def w12_18 (P : Program) (Q : Exit → Slots → Mem → Prop) (M : Mem) (v1 : V) (v3 : V) (v4 : V) (v5 : V) (v6 : V) (v7 : V) : Prop :=
  @OptBH (binV .eql .none v3 (.int .i64 0)) ⟨fun b32_2 =>
  @BIfH b32_2
  ⟨@OptBH (binV .eql .none v4 (.int .i64 37)) ⟨fun b35_5 =>
  @BIfH b35_5
  ⟨@OptBH (binV .eql .none v5 (.int .i64 0)) ⟨fun b39_9 =>
  @BIfH b39_9
  ⟨@OptVH (lenV v6 M) ⟨fun t43_13 =>
  @OptBH (binV .eql .none t43_13 (.int .i64 1)) ⟨fun b44_14 =>
  @BIfH b44_14
  ⟨@OptVH (indexSlV 13 v6 (.int .i64 0) M) ⟨fun t48_18 =>
  @OptVH (moveV 0 t48_18) ⟨fun t49_19 =>
  @OptVH (loadV 1 false t49_19 M) ⟨fun t50_20 =>
  @OptBH (binV .eql .none t50_20 (.int .i64 0)) ⟨fun b51_21 =>
  @BIfH b51_21
  ⟨@OptVH (lenV v7 M) ⟨fun t55_25 =>
  @OptBH (binV .eql .none t55_25 (.int .i64 1)) ⟨fun b56_26 =>
  @BIfH b56_26
  ⟨@OptVH (indexSlV 13 v7 (.int .i64 0) M) ⟨fun t60_30 =>
  @OptVH (moveV 0 t60_30) ⟨fun t61_31 =>
  @OptVH (loadV 1 false t61_31 M) ⟨fun t62_32 =>
  @OptBH (binV .eql .none t62_32 (.int .i64 1)) ⟨fun b63_33 =>
  @BIfH b63_33
  ⟨@CallH P i_inbox_Inbox_Failed [v1, (.int .i64 0), (.int .i64 1301)] M ⟨fun t67_37 M37 => @OptBH (some t67_37) ⟨fun b67_37 =>
  @BIfH b67_37
  ⟨@CallH P i_inbox_Inbox_Failed [v1, (.int .i64 0), (.int .i64 1300)] M37 ⟨fun t71_41 M41 => @OptBH (some t71_41) ⟨fun b71_41 =>
  @OptBH (unV .not (.bool b71_41)) ⟨fun b72_42 =>
  Q .normal [(0, (.bool b72_42))] M41⟩⟩⟩⟩
  ⟨Q .normal [(0, (.bool false))] M37⟩⟩⟩⟩
  ⟨Q .normal [(0, (.bool false))] M⟩⟩⟩⟩⟩⟩
  ⟨Q .normal [(0, (.bool false))] M⟩⟩⟩⟩
  ⟨Q .normal [(0, (.bool false))] M⟩⟩⟩⟩⟩⟩
  ⟨Q .normal [(0, (.bool false))] M⟩⟩⟩⟩
  ⟨Q .normal [(0, (.bool false))] M⟩⟩⟩
  ⟨Q .normal [(0, (.bool false))] M⟩⟩⟩
  ⟨Q .normal [(0, (.bool false))] M⟩⟩
theorem e12_18 (P : Program) (Q : Exit → Slots → Mem → Prop) (s : Slots) (M : Mem) : wpC P c12_18 Q s M = w12_18 P Q M (sget s 1) (sget s 3) (sget s 4) (sget s 5) (sget s 6) (sget s 7) := by kernel_rfl
def c12_19 : ACode := (.seq c12_18 .ret)
def c12_20 : ACode := (.seq c12_16 c12_19)
def c12_21 : ACode := (.seq c12_14 c12_20)
def c12_22 : ACode := (.seq c12_12 c12_21)
def c12_23 : ACode := (.seq c12_10 c12_22)
def c12_24 : ACode := (.seq c12_8 c12_23)
def c12_25 : ACode := (.seq c12_3 c12_24)
def c12_26 : ACode := (.seq c12_1 c12_25)
def fn_transitlaw32_exampleHolds : AFn := ⟨74, [(.tmp 0)], c12_26⟩
theorem fn_transitlaw32_exampleHolds_ok : resFn PR h_transitlaw32_exampleHolds i_transitlaw32_exampleHolds = some fn_transitlaw32_exampleHolds := by kernel_rfl

def h_transitlaw32_played : Hints := ⟨[(0, [0, 1]), (1, [1, 5, 6]), (2, [1, 5, 19]), (3, [4]), (4, [5, 20, 21, 22]), (5, [5, 20, 21, 22, 23]), (6, [5, 8, 20, 21, 22]), (7, [5, 8, 20, 21, 22, 28]), (8, [5, 8, 20, 21, 22]), (9, [5, 8, 20, 21, 22, 37]), (10, [5, 20, 21, 22]), (11, [5, 20, 21, 22]), (12, [4])], [(5, [5, 20, 21, 22])], []⟩
def o13_0 : List AOper := [⟨some 4, (.mov (.const .nilp)), false, none⟩]
def c13_1 : ACode := (.region o13_0 [0, 1])
def w13_1 (_P : Program) (Q : Exit → Slots → Mem → Prop) (M : Mem) (v0 : V) (v1 : V) : Prop :=
  Q .normal [(0, v0), (1, v1)] M
theorem e13_1 (P : Program) (Q : Exit → Slots → Mem → Prop) (s : Slots) (M : Mem) : wpC P c13_1 Q s M = w13_1 P Q M (sget s 0) (sget s 1) := by kernel_rfl
def o13_2 : List AOper := [⟨some 10, (.mov (.tmp 0)), false, none⟩,
  ⟨some 11, (.call i_inbox_New [(.const (.int .i64 3)), (.tmp 10)]), false, none⟩,
  ⟨some 9, (.mov (.tmp 11)), false, none⟩,
  ⟨some 12, (.extract (.tmp 9) 0), false, none⟩,
  ⟨some 13, (.extract (.tmp 9) 1), false, none⟩,
  ⟨some 5, (.mov (.tmp 12)), false, none⟩,
  ⟨some 6, (.mov (.tmp 13)), false, none⟩]
def c13_3 : ACode := (.region o13_2 [1, 5, 6])
def w13_3 (P : Program) (Q : Exit → Slots → Mem → Prop) (M : Mem) (v0 : V) (v1 : V) : Prop :=
  @CallH P i_inbox_New [(.int .i64 3), v0] M ⟨fun t11_2 M2 =>
  @OptVH (extractV t11_2 0) ⟨fun t12_4 =>
  @OptVH (extractV t11_2 1) ⟨fun t13_5 =>
  Q .normal [(1, v1), (5, t12_4), (6, t13_5)] M2⟩⟩⟩
theorem e13_3 (P : Program) (Q : Exit → Slots → Mem → Prop) (s : Slots) (M : Mem) : wpC P c13_3 Q s M = w13_3 P Q M (sget s 0) (sget s 1) := by kernel_rfl
def o13_4 : List AOper := [⟨some 4, (.mov (.const .nilp)), false, none⟩]
def c13_5 : ACode := (.region o13_4 [4])
def w13_5 (_P : Program) (Q : Exit → Slots → Mem → Prop) (M : Mem) : Prop :=
  Q .normal [(4, .nilp)] M
theorem e13_5 (P : Program) (Q : Exit → Slots → Mem → Prop) (s : Slots) (M : Mem) : wpC P c13_5 Q s M = w13_5 P Q M := by kernel_rfl
def c13_6 : ACode := (.seq c13_5 .ret)
def o13_7 : List AOper := [⟨some 14, (.mov (.tmp 6)), false, none⟩,
  ⟨some 15, (.bin .neq .none (.tmp 14) (.const (.int .i64 0))), true, none⟩,
  ⟨some 16, (.mov (.tmp 15)), true, none⟩,
  ⟨some 17, (.mov (.tmp 5)), false, some (16, false)⟩,
  ⟨some 18, (.bin .eql .ptr (.tmp 17) (.const .nilp)), true, some (16, false)⟩,
  ⟨some 19, (.pick (.tmp 16) (.const (.bool true)) (.tmp 18)), true, none⟩]
def c13_8 : ACode := (.seq (.region o13_7 [1, 5, 19]) (.cond (.tmp 19) c13_6 .skip))
def w13_8 (P : Program) (Q : Exit → Slots → Mem → Prop) (M : Mem) (v1 : V) (v5 : V) (v6 : V) : Prop :=
  @OptBH (binV .neq .none v6 (.int .i64 0)) ⟨fun b15_2 =>
  @BIfH b15_2
  ⟨wpC P c13_6 Q [(1, v1), (5, v5), (19, (.bool true))] M⟩
  ⟨@OptBH (binV .eql .ptr v5 .nilp) ⟨fun b18_6 =>
  @BIfH b18_6
  ⟨wpC P c13_6 Q [(1, v1), (5, v5), (19, (.bool b18_6))] M⟩
  ⟨Q .normal [(1, v1), (5, v5), (19, (.bool b18_6))] M⟩⟩⟩⟩
theorem e13_8 (P : Program) (Q : Exit → Slots → Mem → Prop) (s : Slots) (M : Mem) : wpC P c13_8 Q s M = w13_8 P Q M (sget s 1) (sget s 5) (sget s 6) := by kernel_rfl
def o13_9 : List AOper := [⟨some 20, (.mov (.tmp 1)), false, none⟩,
  ⟨some 21, (.lenSl (.tmp 20)), false, none⟩,
  ⟨some 22, (.mov (.const (.int .i64 0))), false, none⟩]
def c13_10 : ACode := (.region o13_9 [5, 20, 21, 22])
def w13_10 (_P : Program) (Q : Exit → Slots → Mem → Prop) (M : Mem) (v1 : V) (v5 : V) : Prop :=
  @OptVH (lenV v1 M) ⟨fun t21_2 =>
  Q .normal [(5, v5), (20, v1), (21, t21_2), (22, (.int .i64 0))] M⟩
theorem e13_10 (P : Program) (Q : Exit → Slots → Mem → Prop) (s : Slots) (M : Mem) : wpC P c13_10 Q s M = w13_10 P Q M (sget s 1) (sget s 5) := by kernel_rfl
def o13_11 : List AOper := [⟨some 23, (.bin .lss .none (.tmp 22) (.tmp 21)), false, none⟩]
def c13_12 : ACode := (.region o13_11 [5, 20, 21, 22, 23])
def w13_12 (_P : Program) (Q : Exit → Slots → Mem → Prop) (M : Mem) (v5 : V) (v20 : V) (v21 : V) (v22 : V) : Prop :=
  @OptVH (binV .lss .none v22 v21) ⟨fun t23_1 =>
  Q .normal [(5, v5), (20, v20), (21, v21), (22, v22), (23, t23_1)] M⟩
theorem e13_12 (P : Program) (Q : Exit → Slots → Mem → Prop) (s : Slots) (M : Mem) : wpC P c13_12 Q s M = w13_12 P Q M (sget s 5) (sget s 20) (sget s 21) (sget s 22) := by kernel_rfl
def c13_13 : ACode := (.cond (.tmp 23) .skip (.exit 0))
def o13_14 : List AOper := [⟨some 24, (.indexSl 16 (.tmp 20) (.tmp 22)), false, none⟩,
  ⟨some 25, (.load 16 true (.tmp 24)), false, none⟩,
  ⟨some 8, (.alloc [(.int .i64 0), (.int .i64 0), (.int .i64 0), (.int .i64 0), (.int .i64 0), (.int .i64 0), (.str []), (.int .i64 0), (.int .i64 0), (.int .i64 0), (.int .i64 0), (.int .i64 0), (.bool false), (.slice [] .nil), (.int .i64 0), (.int .i64 0)]), false, none⟩,
  ⟨none, (.store 16 (.tmp 8) (.tmp 25)), false, none⟩]
def c13_15 : ACode := (.region o13_14 [5, 8, 20, 21, 22])
def w13_15 (_P : Program) (Q : Exit → Slots → Mem → Prop) (M : Mem) (v5 : V) (v20 : V) (v21 : V) (v22 : V) : Prop :=
  @OptVH (indexSlV 16 v20 v22 M) ⟨fun t24_1 =>
  @OptVH (loadV 16 true t24_1 M) ⟨fun t25_2 =>
  @OptMH (allocV [(.int .i64 0), (.int .i64 0), (.int .i64 0), (.int .i64 0), (.int .i64 0), (.int .i64 0), (.str []), (.int .i64 0), (.int .i64 0), (.int .i64 0), (.int .i64 0), (.int .i64 0), (.bool false), (.slice [] .nil), (.int .i64 0), (.int .i64 0)] M) ⟨fun t8_3 M3 =>
  @OptMH (storeVM 16 t8_3 t25_2 M3) ⟨fun _tx_4 M4 =>
  Q .normal [(5, v5), (8, t8_3), (20, v20), (21, v21), (22, v22)] M4⟩⟩⟩⟩
theorem e13_15 (P : Program) (Q : Exit → Slots → Mem → Prop) (s : Slots) (M : Mem) : wpC P c13_15 Q s M = w13_15 P Q M (sget s 5) (sget s 20) (sget s 21) (sget s 22) := by kernel_rfl
def o13_16 : List AOper := [⟨some 29, (.mov (.tmp 5)), false, none⟩,
  ⟨some 30, (.fieldAddr 1 (.tmp 8)), false, none⟩,
  ⟨some 31, (.load 13 true (.tmp 30)), false, none⟩,
  ⟨some 32, (.fieldAddr 15 (.tmp 8)), false, none⟩,
  ⟨some 33, (.load 1 false (.tmp 32)), false, none⟩,
  ⟨some 34, (.call i_inbox_Inbox_Receive [(.tmp 29), (.tmp 31), (.tmp 33)]), false, none⟩]
def c13_17 : ACode := (.region o13_16 [5, 8, 20, 21, 22])
def w13_17 (P : Program) (Q : Exit → Slots → Mem → Prop) (M : Mem) (v5 : V) (v8 : V) (v20 : V) (v21 : V) (v22 : V) : Prop :=
  @OptVH (moveV 1 v8) ⟨fun t30_2 =>
  @OptVH (loadV 13 true t30_2 M) ⟨fun t31_3 =>
  @OptVH (moveV 15 v8) ⟨fun t32_4 =>
  @OptVH (loadV 1 false t32_4 M) ⟨fun t33_5 =>
  @CallH P i_inbox_Inbox_Receive [v5, t31_3, t33_5] M ⟨fun _t34_6 M6 =>
  Q .normal [(5, v5), (8, v8), (20, v20), (21, v21), (22, v22)] M6⟩⟩⟩⟩⟩
theorem e13_17 (P : Program) (Q : Exit → Slots → Mem → Prop) (s : Slots) (M : Mem) : wpC P c13_17 Q s M = w13_17 P Q M (sget s 5) (sget s 8) (sget s 20) (sget s 21) (sget s 22) := by kernel_rfl
def o13_18 : List AOper := [⟨some 26, (.fieldAddr 0 (.tmp 8)), false, none⟩,
  ⟨some 27, (.load 1 false (.tmp 26)), false, none⟩,
  ⟨some 28, (.bin .eql .none (.tmp 27) (.const (.int .i64 0))), true, none⟩]
def c13_19 : ACode := (.seq (.region o13_18 [5, 8, 20, 21, 22, 28]) (.cond (.tmp 28) c13_17 .skip))
def w13_19 (P : Program) (Q : Exit → Slots → Mem → Prop) (M : Mem) (v5 : V) (v8 : V) (v20 : V) (v21 : V) (v22 : V) : Prop :=
  @OptVH (moveV 0 v8) ⟨fun t26_1 =>
  @OptVH (loadV 1 false t26_1 M) ⟨fun t27_2 =>
  @OptBH (binV .eql .none t27_2 (.int .i64 0)) ⟨fun b28_3 =>
  @BIfH b28_3
  ⟨wpC P c13_17 Q [(5, v5), (8, v8), (20, v20), (21, v21), (22, v22), (28, (.bool b28_3))] M⟩
  ⟨Q .normal [(5, v5), (8, v8), (20, v20), (21, v21), (22, v22), (28, (.bool b28_3))] M⟩⟩⟩⟩
theorem e13_19 (P : Program) (Q : Exit → Slots → Mem → Prop) (s : Slots) (M : Mem) : wpC P c13_19 Q s M = w13_19 P Q M (sget s 5) (sget s 8) (sget s 20) (sget s 21) (sget s 22) := by kernel_rfl
def o13_20 : List AOper := [⟨some 38, (.mov (.tmp 5)), false, none⟩,
  ⟨some 39, (.fieldAddr 14 (.tmp 8)), false, none⟩,
  ⟨some 40, (.load 1 false (.tmp 39)), false, none⟩,
  ⟨some 41, (.fieldAddr 15 (.tmp 8)), false, none⟩,
  ⟨some 42, (.load 1 false (.tmp 41)), false, none⟩,
  ⟨some 43, (.call i_inbox_Inbox_Heartbeat [(.tmp 38), (.tmp 40), (.tmp 42)]), false, none⟩]
def c13_21 : ACode := (.region o13_20 [5, 20, 21, 22])
def w13_21 (P : Program) (Q : Exit → Slots → Mem → Prop) (M : Mem) (v5 : V) (v8 : V) (v20 : V) (v21 : V) (v22 : V) : Prop :=
  @OptVH (moveV 14 v8) ⟨fun t39_2 =>
  @OptVH (loadV 1 false t39_2 M) ⟨fun t40_3 =>
  @OptVH (moveV 15 v8) ⟨fun t41_4 =>
  @OptVH (loadV 1 false t41_4 M) ⟨fun t42_5 =>
  @CallH P i_inbox_Inbox_Heartbeat [v5, t40_3, t42_5] M ⟨fun _t43_6 M6 =>
  Q .normal [(5, v5), (20, v20), (21, v21), (22, v22)] M6⟩⟩⟩⟩⟩
theorem e13_21 (P : Program) (Q : Exit → Slots → Mem → Prop) (s : Slots) (M : Mem) : wpC P c13_21 Q s M = w13_21 P Q M (sget s 5) (sget s 8) (sget s 20) (sget s 21) (sget s 22) := by kernel_rfl
def o13_22 : List AOper := [⟨some 35, (.fieldAddr 0 (.tmp 8)), false, none⟩,
  ⟨some 36, (.load 1 false (.tmp 35)), false, none⟩,
  ⟨some 37, (.bin .eql .none (.tmp 36) (.const (.int .i64 1))), true, none⟩]
def c13_23 : ACode := (.seq (.region o13_22 [5, 8, 20, 21, 22, 37]) (.cond (.tmp 37) c13_21 .skip))
def w13_23 (P : Program) (Q : Exit → Slots → Mem → Prop) (M : Mem) (v5 : V) (v8 : V) (v20 : V) (v21 : V) (v22 : V) : Prop :=
  @OptVH (moveV 0 v8) ⟨fun t35_1 =>
  @OptVH (loadV 1 false t35_1 M) ⟨fun t36_2 =>
  @OptBH (binV .eql .none t36_2 (.int .i64 1)) ⟨fun b37_3 =>
  @BIfH b37_3
  ⟨wpC P c13_21 Q [(5, v5), (8, v8), (20, v20), (21, v21), (22, v22), (37, (.bool b37_3))] M⟩
  ⟨Q .normal [(5, v5), (8, v8), (20, v20), (21, v21), (22, v22), (37, (.bool b37_3))] M⟩⟩⟩⟩
theorem e13_23 (P : Program) (Q : Exit → Slots → Mem → Prop) (s : Slots) (M : Mem) : wpC P c13_23 Q s M = w13_23 P Q M (sget s 5) (sget s 8) (sget s 20) (sget s 21) (sget s 22) := by kernel_rfl
def c13_24 : ACode := (.seq c13_19 c13_23)
def c13_25 : ACode := (.seq c13_15 c13_24)
def c13_26 : ACode := (.block 1 c13_25)
def o13_27 : List AOper := [⟨some 44, (.bin .add .none (.tmp 22) (.const (.int .i64 1))), false, none⟩,
  ⟨some 22, (.mov (.tmp 44)), false, none⟩]
def c13_28 : ACode := (.region o13_27 [5, 20, 21, 22])
def w13_28 (_P : Program) (Q : Exit → Slots → Mem → Prop) (M : Mem) (v5 : V) (v20 : V) (v21 : V) (v22 : V) : Prop :=
  @OptVH (binV .add .none v22 (.int .i64 1)) ⟨fun t44_1 =>
  Q .normal [(5, v5), (20, v20), (21, v21), (22, t44_1)] M⟩
theorem e13_28 (P : Program) (Q : Exit → Slots → Mem → Prop) (s : Slots) (M : Mem) : wpC P c13_28 Q s M = w13_28 P Q M (sget s 5) (sget s 20) (sget s 21) (sget s 22) := by kernel_rfl
def c13_29 : ACode := (.seq c13_26 c13_28)
def c13_30 : ACode := (.seq c13_13 c13_29)
def c13_31 : ACode := (.seq c13_12 c13_30)
def c13_32 : ACode := (.loop [5, 20, 21, 22] c13_31)
def c13_33 : ACode := (.block 0 c13_32)
def c13_34 : ACode := (.seq c13_10 c13_33)
def o13_35 : List AOper := [⟨some 45, (.mov (.tmp 5)), false, none⟩,
  ⟨some 4, (.mov (.tmp 45)), false, none⟩]
def c13_36 : ACode := (.region o13_35 [4])
def w13_36 (_P : Program) (Q : Exit → Slots → Mem → Prop) (M : Mem) (v5 : V) : Prop :=
  Q .normal [(4, v5)] M
theorem e13_36 (P : Program) (Q : Exit → Slots → Mem → Prop) (s : Slots) (M : Mem) : wpC P c13_36 Q s M = w13_36 P Q M (sget s 5) := by kernel_rfl
def c13_37 : ACode := (.seq c13_36 .ret)
def c13_38 : ACode := (.seq c13_34 c13_37)
def c13_39 : ACode := (.seq c13_8 c13_38)
def c13_40 : ACode := (.seq c13_3 c13_39)
def c13_41 : ACode := (.seq c13_1 c13_40)
def fn_transitlaw32_played : AFn := ⟨46, [(.tmp 4)], c13_41⟩
theorem fn_transitlaw32_played_ok : resFn PR h_transitlaw32_played i_transitlaw32_played = some fn_transitlaw32_played := by kernel_rfl

def h_transitlaw32_shorts : Hints := ⟨[(0, [0]), (1, [0, 7]), (2, [2]), (3, [8, 9, 10]), (4, [8, 9, 10, 11]), (5, [4, 8, 9, 10]), (6, [8, 9, 10, 17]), (7, [2]), (8, [8, 9, 10]), (9, [2])], [(4, [8, 9, 10])], []⟩
def o14_0 : List AOper := [⟨some 2, (.mov (.const (.bool false))), true, none⟩]
def c14_1 : ACode := (.region o14_0 [0])
def w14_1 (_P : Program) (Q : Exit → Slots → Mem → Prop) (M : Mem) (v0 : V) : Prop :=
  Q .normal [(0, v0)] M
theorem e14_1 (P : Program) (Q : Exit → Slots → Mem → Prop) (s : Slots) (M : Mem) : wpC P c14_1 Q s M = w14_1 P Q M (sget s 0) := by kernel_rfl
def o14_2 : List AOper := [⟨some 2, (.mov (.const (.bool false))), true, none⟩]
def c14_3 : ACode := (.region o14_2 [2])
def w14_3 (_P : Program) (Q : Exit → Slots → Mem → Prop) (M : Mem) : Prop :=
  Q .normal [(2, (.bool false))] M
theorem e14_3 (P : Program) (Q : Exit → Slots → Mem → Prop) (s : Slots) (M : Mem) : wpC P c14_3 Q s M = w14_3 P Q M := by kernel_rfl
def c14_4 : ACode := (.seq c14_3 .ret)
def o14_5 : List AOper := [⟨some 5, (.mov (.tmp 0)), false, none⟩,
  ⟨some 6, (.lenSl (.tmp 5)), false, none⟩,
  ⟨some 7, (.bin .gtr .none (.tmp 6) (.const (.int .i64 40))), true, none⟩]
def c14_6 : ACode := (.seq (.region o14_5 [0, 7]) (.cond (.tmp 7) c14_4 .skip))
def w14_6 (P : Program) (Q : Exit → Slots → Mem → Prop) (M : Mem) (v0 : V) : Prop :=
  @OptVH (lenV v0 M) ⟨fun t6_2 =>
  @OptBH (binV .gtr .none t6_2 (.int .i64 40)) ⟨fun b7_3 =>
  @BIfH b7_3
  ⟨wpC P c14_4 Q [(0, v0), (7, (.bool b7_3))] M⟩
  ⟨Q .normal [(0, v0), (7, (.bool b7_3))] M⟩⟩⟩
theorem e14_6 (P : Program) (Q : Exit → Slots → Mem → Prop) (s : Slots) (M : Mem) : wpC P c14_6 Q s M = w14_6 P Q M (sget s 0) := by kernel_rfl
def o14_7 : List AOper := [⟨some 8, (.mov (.tmp 0)), false, none⟩,
  ⟨some 9, (.lenSl (.tmp 8)), false, none⟩,
  ⟨some 10, (.mov (.const (.int .i64 0))), false, none⟩]
def c14_8 : ACode := (.region o14_7 [8, 9, 10])
def w14_8 (_P : Program) (Q : Exit → Slots → Mem → Prop) (M : Mem) (v0 : V) : Prop :=
  @OptVH (lenV v0 M) ⟨fun t9_2 =>
  Q .normal [(8, v0), (9, t9_2), (10, (.int .i64 0))] M⟩
theorem e14_8 (P : Program) (Q : Exit → Slots → Mem → Prop) (s : Slots) (M : Mem) : wpC P c14_8 Q s M = w14_8 P Q M (sget s 0) := by kernel_rfl
def o14_9 : List AOper := [⟨some 11, (.bin .lss .none (.tmp 10) (.tmp 9)), false, none⟩]
def c14_10 : ACode := (.region o14_9 [8, 9, 10, 11])
def w14_10 (_P : Program) (Q : Exit → Slots → Mem → Prop) (M : Mem) (v8 : V) (v9 : V) (v10 : V) : Prop :=
  @OptVH (binV .lss .none v10 v9) ⟨fun t11_1 =>
  Q .normal [(8, v8), (9, v9), (10, v10), (11, t11_1)] M⟩
theorem e14_10 (P : Program) (Q : Exit → Slots → Mem → Prop) (s : Slots) (M : Mem) : wpC P c14_10 Q s M = w14_10 P Q M (sget s 8) (sget s 9) (sget s 10) := by kernel_rfl
def c14_11 : ACode := (.cond (.tmp 11) .skip (.exit 0))
def o14_12 : List AOper := [⟨some 12, (.indexSl 16 (.tmp 8) (.tmp 10)), false, none⟩,
  ⟨some 13, (.load 16 true (.tmp 12)), false, none⟩,
  ⟨some 4, (.alloc [(.int .i64 0), (.int .i64 0), (.int .i64 0), (.int .i64 0), (.int .i64 0), (.int .i64 0), (.str []), (.int .i64 0), (.int .i64 0), (.int .i64 0), (.int .i64 0), (.int .i64 0), (.bool false), (.slice [] .nil), (.int .i64 0), (.int .i64 0)]), false, none⟩,
  ⟨none, (.store 16 (.tmp 4) (.tmp 13)), false, none⟩]
def c14_13 : ACode := (.region o14_12 [4, 8, 9, 10])
def w14_13 (_P : Program) (Q : Exit → Slots → Mem → Prop) (M : Mem) (v8 : V) (v9 : V) (v10 : V) : Prop :=
  @OptVH (indexSlV 16 v8 v10 M) ⟨fun t12_1 =>
  @OptVH (loadV 16 true t12_1 M) ⟨fun t13_2 =>
  @OptMH (allocV [(.int .i64 0), (.int .i64 0), (.int .i64 0), (.int .i64 0), (.int .i64 0), (.int .i64 0), (.str []), (.int .i64 0), (.int .i64 0), (.int .i64 0), (.int .i64 0), (.int .i64 0), (.bool false), (.slice [] .nil), (.int .i64 0), (.int .i64 0)] M) ⟨fun t4_3 M3 =>
  @OptMH (storeVM 16 t4_3 t13_2 M3) ⟨fun _tx_4 M4 =>
  Q .normal [(4, t4_3), (8, v8), (9, v9), (10, v10)] M4⟩⟩⟩⟩
theorem e14_13 (P : Program) (Q : Exit → Slots → Mem → Prop) (s : Slots) (M : Mem) : wpC P c14_13 Q s M = w14_13 P Q M (sget s 8) (sget s 9) (sget s 10) := by kernel_rfl
def o14_14 : List AOper := [⟨some 2, (.mov (.const (.bool false))), true, none⟩]
def c14_15 : ACode := (.region o14_14 [2])
def w14_15 (_P : Program) (Q : Exit → Slots → Mem → Prop) (M : Mem) : Prop :=
  Q .normal [(2, (.bool false))] M
theorem e14_15 (P : Program) (Q : Exit → Slots → Mem → Prop) (s : Slots) (M : Mem) : wpC P c14_15 Q s M = w14_15 P Q M := by kernel_rfl
def c14_16 : ACode := (.seq c14_15 .ret)
def o14_17 : List AOper := [⟨some 14, (.fieldAddr 1 (.tmp 4)), false, none⟩,
  ⟨some 15, (.load 13 true (.tmp 14)), false, none⟩,
  ⟨some 16, (.call i_transitlaw32_small [(.tmp 15)]), true, none⟩,
  ⟨some 17, (.un .not (.tmp 16)), true, none⟩]
def c14_18 : ACode := (.seq (.region o14_17 [8, 9, 10, 17]) (.cond (.tmp 17) c14_16 .skip))
def w14_18 (P : Program) (Q : Exit → Slots → Mem → Prop) (M : Mem) (v4 : V) (v8 : V) (v9 : V) (v10 : V) : Prop :=
  @OptVH (moveV 1 v4) ⟨fun t14_1 =>
  @OptVH (loadV 13 true t14_1 M) ⟨fun t15_2 =>
  @CallH P i_transitlaw32_small [t15_2] M ⟨fun t16_3 M3 => @OptBH (some t16_3) ⟨fun b16_3 =>
  @OptBH (unV .not (.bool b16_3)) ⟨fun b17_4 =>
  @BIfH b17_4
  ⟨wpC P c14_16 Q [(8, v8), (9, v9), (10, v10), (17, (.bool b17_4))] M3⟩
  ⟨Q .normal [(8, v8), (9, v9), (10, v10), (17, (.bool b17_4))] M3⟩⟩⟩⟩⟩⟩
theorem e14_18 (P : Program) (Q : Exit → Slots → Mem → Prop) (s : Slots) (M : Mem) : wpC P c14_18 Q s M = w14_18 P Q M (sget s 4) (sget s 8) (sget s 9) (sget s 10) := by kernel_rfl
def c14_19 : ACode := (.seq c14_13 c14_18)
def c14_20 : ACode := (.block 1 c14_19)
def o14_21 : List AOper := [⟨some 18, (.bin .add .none (.tmp 10) (.const (.int .i64 1))), false, none⟩,
  ⟨some 10, (.mov (.tmp 18)), false, none⟩]
def c14_22 : ACode := (.region o14_21 [8, 9, 10])
def w14_22 (_P : Program) (Q : Exit → Slots → Mem → Prop) (M : Mem) (v8 : V) (v9 : V) (v10 : V) : Prop :=
  @OptVH (binV .add .none v10 (.int .i64 1)) ⟨fun t18_1 =>
  Q .normal [(8, v8), (9, v9), (10, t18_1)] M⟩
theorem e14_22 (P : Program) (Q : Exit → Slots → Mem → Prop) (s : Slots) (M : Mem) : wpC P c14_22 Q s M = w14_22 P Q M (sget s 8) (sget s 9) (sget s 10) := by kernel_rfl
def c14_23 : ACode := (.seq c14_20 c14_22)
def c14_24 : ACode := (.seq c14_11 c14_23)
def c14_25 : ACode := (.seq c14_10 c14_24)
def c14_26 : ACode := (.loop [8, 9, 10] c14_25)
def c14_27 : ACode := (.block 0 c14_26)
def c14_28 : ACode := (.seq c14_8 c14_27)
def o14_29 : List AOper := [⟨some 2, (.mov (.const (.bool true))), true, none⟩]
def c14_30 : ACode := (.region o14_29 [2])
def w14_30 (_P : Program) (Q : Exit → Slots → Mem → Prop) (M : Mem) : Prop :=
  Q .normal [(2, (.bool true))] M
theorem e14_30 (P : Program) (Q : Exit → Slots → Mem → Prop) (s : Slots) (M : Mem) : wpC P c14_30 Q s M = w14_30 P Q M := by kernel_rfl
def c14_31 : ACode := (.seq c14_30 .ret)
def c14_32 : ACode := (.seq c14_28 c14_31)
def c14_33 : ACode := (.seq c14_6 c14_32)
def c14_34 : ACode := (.seq c14_1 c14_33)
def fn_transitlaw32_shorts : AFn := ⟨19, [(.tmp 2)], c14_34⟩
theorem fn_transitlaw32_shorts_ok : resFn PR h_transitlaw32_shorts i_transitlaw32_shorts = some fn_transitlaw32_shorts := by kernel_rfl

def h_transitlaw32_small : Hints := ⟨[(0, [1]), (1, [2])], [], []⟩
def o15_0 : List AOper := [⟨some 1, (.box 13 (.tmp 0)), false, none⟩,
  ⟨some 2, (.mov (.const (.bool false))), true, none⟩]
def c15_1 : ACode := (.region o15_0 [1])
def w15_1 (_P : Program) (Q : Exit → Slots → Mem → Prop) (M : Mem) (v0 : V) : Prop :=
  @OptMH (boxV 13 v0 M) ⟨fun t1_1 M1 =>
  Q .normal [(1, t1_1)] M1⟩
theorem e15_1 (P : Program) (Q : Exit → Slots → Mem → Prop) (s : Slots) (M : Mem) : wpC P c15_1 Q s M = w15_1 P Q M (sget s 0) := by kernel_rfl
def o15_2 : List AOper := [⟨some 3, (.fieldAddr 12 (.tmp 1)), false, none⟩,
  ⟨some 4, (.load 1 false (.tmp 3)), false, none⟩,
  ⟨some 5, (.lenSl (.tmp 4)), false, none⟩,
  ⟨some 6, (.bin .leq .none (.tmp 5) (.const (.int .i64 40))), true, none⟩,
  ⟨some 7, (.mov (.tmp 6)), true, none⟩,
  ⟨some 8, (.fieldAddr 5 (.tmp 1)), false, some (7, true)⟩,
  ⟨some 9, (.load 1 false (.tmp 8)), false, some (7, true)⟩,
  ⟨some 10, (.lenStr (.tmp 9)), false, some (7, true)⟩,
  ⟨some 11, (.bin .leq .none (.tmp 10) (.const (.int .i64 256))), true, some (7, true)⟩,
  ⟨some 12, (.pick (.tmp 7) (.tmp 11) (.const (.bool false))), true, none⟩,
  ⟨some 2, (.mov (.tmp 12)), true, none⟩]
def c15_3 : ACode := (.region o15_2 [2])
def w15_3 (_P : Program) (Q : Exit → Slots → Mem → Prop) (M : Mem) (v1 : V) : Prop :=
  @OptVH (moveV 12 v1) ⟨fun t3_1 =>
  @OptVH (loadV 1 false t3_1 M) ⟨fun t4_2 =>
  @OptVH (lenV t4_2 M) ⟨fun t5_3 =>
  @OptBH (binV .leq .none t5_3 (.int .i64 40)) ⟨fun b6_4 =>
  @BIfH b6_4
  ⟨@OptVH (moveV 5 v1) ⟨fun t8_6 =>
  @OptVH (loadV 1 false t8_6 M) ⟨fun t9_7 =>
  @OptVH (lenStrV t9_7) ⟨fun t10_8 =>
  @OptBH (binV .leq .none t10_8 (.int .i64 256)) ⟨fun b11_9 =>
  Q .normal [(2, (.bool b11_9))] M⟩⟩⟩⟩⟩
  ⟨Q .normal [(2, (.bool false))] M⟩⟩⟩⟩⟩
theorem e15_3 (P : Program) (Q : Exit → Slots → Mem → Prop) (s : Slots) (M : Mem) : wpC P c15_3 Q s M = w15_3 P Q M (sget s 1) := by kernel_rfl
def c15_4 : ACode := (.seq c15_3 .ret)
def c15_5 : ACode := (.seq c15_1 c15_4)
def fn_transitlaw32_small : AFn := ⟨13, [(.tmp 2)], c15_5⟩
theorem fn_transitlaw32_small_ok : resFn PR h_transitlaw32_small i_transitlaw32_small = some fn_transitlaw32_small := by kernel_rfl

def h_inbox_Inbox_Receive : Hints := ⟨[(0, [0, 4, 5]), (1, [0, 4, 5, 11]), (2, [6]), (3, [0, 4, 5, 7]), (4, [0, 4, 5, 7, 17]), (5, [6]), (6, [0, 4, 5, 8]), (7, [0, 4, 5, 8, 27]), (8, [6]), (9, [0, 4, 5]), (10, [4, 5, 9]), (11, [4, 9]), (12, []), (13, [6])], [], []⟩
def o16_0 : List AOper := [⟨some 4, (.box 13 (.tmp 1)), false, none⟩,
  ⟨some 5, (.box 1 (.tmp 2)), false, none⟩,
  ⟨some 6, (.mov (.const (.int .i64 0))), false, none⟩]
def c16_1 : ACode := (.region o16_0 [0, 4, 5])
def w16_1 (_P : Program) (Q : Exit → Slots → Mem → Prop) (M : Mem) (v0 : V) (v1 : V) (v2 : V) : Prop :=
  @OptMH (boxV 13 v1 M) ⟨fun t4_1 M1 =>
  @OptMH (boxV 1 v2 M1) ⟨fun t5_2 M2 =>
  Q .normal [(0, v0), (4, t4_1), (5, t5_2)] M2⟩⟩
theorem e16_1 (P : Program) (Q : Exit → Slots → Mem → Prop) (s : Slots) (M : Mem) : wpC P c16_1 Q s M = w16_1 P Q M (sget s 0) (sget s 1) (sget s 2) := by kernel_rfl
def o16_2 : List AOper := [⟨some 6, (.mov (.const (.int .i64 40))), false, none⟩]
def c16_3 : ACode := (.region o16_2 [6])
def w16_3 (_P : Program) (Q : Exit → Slots → Mem → Prop) (M : Mem) : Prop :=
  Q .normal [(6, (.int .i64 40))] M
theorem e16_3 (P : Program) (Q : Exit → Slots → Mem → Prop) (s : Slots) (M : Mem) : wpC P c16_3 Q s M = w16_3 P Q M := by kernel_rfl
def c16_4 : ACode := (.seq c16_3 .ret)
def o16_5 : List AOper := [⟨some 10, (.mov (.tmp 0)), false, none⟩,
  ⟨some 11, (.bin .eql .ptr (.tmp 10) (.const .nilp)), true, none⟩]
def c16_6 : ACode := (.seq (.region o16_5 [0, 4, 5, 11]) (.cond (.tmp 11) c16_4 .skip))
def w16_6 (P : Program) (Q : Exit → Slots → Mem → Prop) (M : Mem) (v0 : V) (v4 : V) (v5 : V) : Prop :=
  @OptBH (binV .eql .ptr v0 .nilp) ⟨fun b11_2 =>
  @BIfH b11_2
  ⟨wpC P c16_4 Q [(0, v0), (4, v4), (5, v5), (11, (.bool b11_2))] M⟩
  ⟨Q .normal [(0, v0), (4, v4), (5, v5), (11, (.bool b11_2))] M⟩⟩
theorem e16_6 (P : Program) (Q : Exit → Slots → Mem → Prop) (s : Slots) (M : Mem) : wpC P c16_6 Q s M = w16_6 P Q M (sget s 0) (sget s 4) (sget s 5) := by kernel_rfl
def o16_7 : List AOper := [⟨some 12, (.mov (.tmp 0)), false, none⟩,
  ⟨some 13, (.load 13 true (.tmp 4)), false, none⟩,
  ⟨some 14, (.load 1 false (.tmp 5)), false, none⟩,
  ⟨some 15, (.call i_inbox_Inbox_refusal [(.tmp 12), (.tmp 13), (.tmp 14)]), false, none⟩,
  ⟨some 7, (.mov (.tmp 15)), false, none⟩]
def c16_8 : ACode := (.region o16_7 [0, 4, 5, 7])
def w16_8 (P : Program) (Q : Exit → Slots → Mem → Prop) (M : Mem) (v0 : V) (v4 : V) (v5 : V) : Prop :=
  @OptVH (loadV 13 true v4 M) ⟨fun t13_2 =>
  @OptVH (loadV 1 false v5 M) ⟨fun t14_3 =>
  @CallH P i_inbox_Inbox_refusal [v0, t13_2, t14_3] M ⟨fun t15_4 M4 =>
  Q .normal [(0, v0), (4, v4), (5, v5), (7, t15_4)] M4⟩⟩⟩
theorem e16_8 (P : Program) (Q : Exit → Slots → Mem → Prop) (s : Slots) (M : Mem) : wpC P c16_8 Q s M = w16_8 P Q M (sget s 0) (sget s 4) (sget s 5) := by kernel_rfl
def o16_9 : List AOper := [⟨some 18, (.mov (.tmp 7)), false, none⟩,
  ⟨some 6, (.mov (.tmp 18)), false, none⟩]
def c16_10 : ACode := (.region o16_9 [6])
def w16_10 (_P : Program) (Q : Exit → Slots → Mem → Prop) (M : Mem) (v7 : V) : Prop :=
  Q .normal [(6, v7)] M
theorem e16_10 (P : Program) (Q : Exit → Slots → Mem → Prop) (s : Slots) (M : Mem) : wpC P c16_10 Q s M = w16_10 P Q M (sget s 7) := by kernel_rfl
def c16_11 : ACode := (.seq c16_10 .ret)
def o16_12 : List AOper := [⟨some 16, (.mov (.tmp 7)), false, none⟩,
  ⟨some 17, (.bin .neq .none (.tmp 16) (.const (.int .i64 0))), true, none⟩]
def c16_13 : ACode := (.seq (.region o16_12 [0, 4, 5, 7, 17]) (.cond (.tmp 17) c16_11 .skip))
def w16_13 (P : Program) (Q : Exit → Slots → Mem → Prop) (M : Mem) (v0 : V) (v4 : V) (v5 : V) (v7 : V) : Prop :=
  @OptBH (binV .neq .none v7 (.int .i64 0)) ⟨fun b17_2 =>
  @BIfH b17_2
  ⟨wpC P c16_11 Q [(0, v0), (4, v4), (5, v5), (7, v7), (17, (.bool b17_2))] M⟩
  ⟨Q .normal [(0, v0), (4, v4), (5, v5), (7, v7), (17, (.bool b17_2))] M⟩⟩
theorem e16_13 (P : Program) (Q : Exit → Slots → Mem → Prop) (s : Slots) (M : Mem) : wpC P c16_13 Q s M = w16_13 P Q M (sget s 0) (sget s 4) (sget s 5) (sget s 7) := by kernel_rfl
def c16_14 : ACode := (.seq c16_8 c16_13)
def o16_15 : List AOper := [⟨some 19, (.mov (.tmp 0)), false, none⟩,
  ⟨some 20, (.nilCheck (.tmp 19)), false, none⟩,
  ⟨some 21, (.fieldAddr 2 (.tmp 20)), false, none⟩,
  ⟨some 22, (.load 1 false (.tmp 21)), false, none⟩,
  ⟨some 23, (.mkfn i_inbox_Inbox_Receive_1 [(.tmp 4), (.tmp 5)]), false, none⟩,
  ⟨some 24, (.call i_inbox_filtered [(.tmp 22), (.tmp 23)]), false, none⟩,
  ⟨some 8, (.mov (.tmp 24)), false, none⟩]
def c16_16 : ACode := (.region o16_15 [0, 4, 5, 8])
def w16_16 (P : Program) (Q : Exit → Slots → Mem → Prop) (M : Mem) (v0 : V) (v4 : V) (v5 : V) : Prop :=
  @OptVH (nilCheckV v0) ⟨fun t20_2 =>
  @OptVH (moveV 2 t20_2) ⟨fun t21_3 =>
  @OptVH (loadV 1 false t21_3 M) ⟨fun t22_4 =>
  @CallH P i_inbox_filtered [t22_4, (mkfnV i_inbox_Inbox_Receive_1 [v4, v5])] M ⟨fun t24_6 M6 =>
  Q .normal [(0, v0), (4, v4), (5, v5), (8, t24_6)] M6⟩⟩⟩⟩
theorem e16_16 (P : Program) (Q : Exit → Slots → Mem → Prop) (s : Slots) (M : Mem) : wpC P c16_16 Q s M = w16_16 P Q M (sget s 0) (sget s 4) (sget s 5) := by kernel_rfl
def o16_17 : List AOper := [⟨some 6, (.mov (.const (.int .i64 5))), false, none⟩]
def c16_18 : ACode := (.region o16_17 [6])
def w16_18 (_P : Program) (Q : Exit → Slots → Mem → Prop) (M : Mem) : Prop :=
  Q .normal [(6, (.int .i64 5))] M
theorem e16_18 (P : Program) (Q : Exit → Slots → Mem → Prop) (s : Slots) (M : Mem) : wpC P c16_18 Q s M = w16_18 P Q M := by kernel_rfl
def c16_19 : ACode := (.seq c16_18 .ret)
def o16_20 : List AOper := [⟨some 25, (.mov (.tmp 8)), false, none⟩,
  ⟨some 26, (.lenSl (.tmp 25)), false, none⟩,
  ⟨some 27, (.bin .geq .none (.tmp 26) (.const (.int .i64 256))), true, none⟩]
def c16_21 : ACode := (.seq (.region o16_20 [0, 4, 5, 8, 27]) (.cond (.tmp 27) c16_19 .skip))
def w16_21 (P : Program) (Q : Exit → Slots → Mem → Prop) (M : Mem) (v0 : V) (v4 : V) (v5 : V) (v8 : V) : Prop :=
  @OptVH (lenV v8 M) ⟨fun t26_2 =>
  @OptBH (binV .geq .none t26_2 (.int .i64 256)) ⟨fun b27_3 =>
  @BIfH b27_3
  ⟨wpC P c16_19 Q [(0, v0), (4, v4), (5, v5), (8, v8), (27, (.bool b27_3))] M⟩
  ⟨Q .normal [(0, v0), (4, v4), (5, v5), (8, v8), (27, (.bool b27_3))] M⟩⟩⟩
theorem e16_21 (P : Program) (Q : Exit → Slots → Mem → Prop) (s : Slots) (M : Mem) : wpC P c16_21 Q s M = w16_21 P Q M (sget s 0) (sget s 4) (sget s 5) (sget s 8) := by kernel_rfl
def o16_22 : List AOper := [⟨some 28, (.mov (.tmp 0)), false, none⟩,
  ⟨some 29, (.mov (.tmp 8)), false, none⟩,
  ⟨some 30, (.load 13 true (.tmp 4)), false, none⟩,
  ⟨some 31, (.call i_inbox_owned [(.tmp 30)]), false, none⟩,
  ⟨some 32, (.buildSlice [(.int .i64 0), (.int .i64 0), (.int .i64 0), (.int .i64 0), (.int .i64 0), (.str []), (.int .i64 0), (.int .i64 0), (.int .i64 0), (.int .i64 0), (.int .i64 0), (.bool false), (.slice [] .nil)] 13 1 [(0, (13, (.tmp 31)))]), false, none⟩,
  ⟨some 33, (.append false 13 128 (.tmp 29) (.tmp 32)), false, none⟩,
  ⟨some 34, (.nilCheck (.tmp 28)), false, none⟩,
  ⟨some 35, (.fieldAddr 2 (.tmp 34)), false, none⟩,
  ⟨none, (.store 1 (.tmp 35) (.tmp 33)), false, none⟩]
def c16_23 : ACode := (.region o16_22 [0, 4, 5])
def w16_23 (P : Program) (Q : Exit → Slots → Mem → Prop) (M : Mem) (v0 : V) (v4 : V) (v5 : V) (v8 : V) : Prop :=
  @OptVH (loadV 13 true v4 M) ⟨fun t30_3 =>
  @CallH P i_inbox_owned [t30_3] M ⟨fun t31_4 M4 =>
  @OptVH (buildSliceV [(.int .i64 0), (.int .i64 0), (.int .i64 0), (.int .i64 0), (.int .i64 0), (.str []), (.int .i64 0), (.int .i64 0), (.int .i64 0), (.int .i64 0), (.int .i64 0), (.bool false), (.slice [] .nil)] 13 1 [(0, 13, t31_4)]) ⟨fun t32_5 =>
  @OptMH (appV false 13 128 v8 t32_5 M4) ⟨fun t33_6 M6 =>
  @OptVH (nilCheckV v0) ⟨fun t34_7 =>
  @OptVH (moveV 2 t34_7) ⟨fun t35_8 =>
  @OptMH (storeVM 1 t35_8 t33_6 M6) ⟨fun _tx_9 M9 =>
  Q .normal [(0, v0), (4, v4), (5, v5)] M9⟩⟩⟩⟩⟩⟩⟩
theorem e16_23 (P : Program) (Q : Exit → Slots → Mem → Prop) (s : Slots) (M : Mem) : wpC P c16_23 Q s M = w16_23 P Q M (sget s 0) (sget s 4) (sget s 5) (sget s 8) := by kernel_rfl
def o16_24 : List AOper := [⟨some 36, (.mov (.tmp 0)), false, none⟩,
  ⟨some 37, (.nilCheck (.tmp 36)), false, none⟩,
  ⟨some 38, (.fieldAddr 0 (.tmp 37)), false, none⟩,
  ⟨some 39, (.load 1 false (.tmp 38)), false, none⟩,
  ⟨some 40, (.fieldAddr 0 (.tmp 4)), false, none⟩,
  ⟨some 41, (.load 1 false (.tmp 40)), false, none⟩,
  ⟨some 42, (.indexSl 4 (.tmp 39) (.tmp 41)), false, none⟩,
  ⟨some 9, (.mov (.tmp 42)), false, none⟩]
def c16_25 : ACode := (.mixed o16_24 [true, true, true, true, true, true, true, true] [4, 5, 9])
def w16_25 (_P : Program) (Q : Exit → Slots → Mem → Prop) (M : Mem) (v0 : V) (v4 : V) (v5 : V) : Prop :=
  @OptVH (nilCheckV v0) ⟨fun t37_2 =>
  @OptVH (moveV 0 t37_2) ⟨fun t38_3 =>
  @OptVH (loadV 1 false t38_3 M) ⟨fun t39_4 =>
  @OptVH (moveV 0 v4) ⟨fun t40_5 =>
  @OptVH (loadV 1 false t40_5 M) ⟨fun t41_6 =>
  @OptVH (indexSlV 4 t39_4 t41_6 M) ⟨fun t42_7 =>
  Q .normal [(4, v4), (5, v5), (9, t42_7)] M⟩⟩⟩⟩⟩⟩
theorem e16_25 (P : Program) (Q : Exit → Slots → Mem → Prop) (s : Slots) (M : Mem) : wpC P c16_25 Q s M = w16_25 P Q M (sget s 0) (sget s 4) (sget s 5) := by kernel_rfl
def o16_26 : List AOper := [⟨some 43, (.mov (.tmp 9)), false, none⟩,
  ⟨some 44, (.nilCheck (.tmp 43)), false, none⟩,
  ⟨some 45, (.fieldAddr 0 (.tmp 44)), false, none⟩,
  ⟨some 46, (.load 1 false (.tmp 5)), false, none⟩,
  ⟨some 47, (.call i_inbox_heard_hear [(.tmp 45), (.tmp 46)]), false, none⟩]
def c16_27 : ACode := (.mixed o16_26 [true, true, true, true, false] [4, 9])
def w16_27 (P : Program) (Q : Exit → Slots → Mem → Prop) (M : Mem) (v4 : V) (v5 : V) (v9 : V) : Prop :=
  @OptVH (nilCheckV v9) ⟨fun t44_2 =>
  @OptVH (moveV 0 t44_2) ⟨fun t45_3 =>
  @OptVH (loadV 1 false v5 M) ⟨fun t46_4 =>
  @CallH P i_inbox_heard_hear [t45_3, t46_4] M ⟨fun _t47_5 M5 =>
  Q .normal [(4, v4), (9, v9)] M5⟩⟩⟩⟩
theorem e16_27 (P : Program) (Q : Exit → Slots → Mem → Prop) (s : Slots) (M : Mem) : wpC P c16_27 Q s M = w16_27 P Q M (sget s 4) (sget s 5) (sget s 9) := by kernel_rfl
def o16_28 : List AOper := [⟨some 48, (.mov (.tmp 9)), false, none⟩,
  ⟨some 49, (.mov (.tmp 9)), false, none⟩,
  ⟨some 50, (.fieldAddr 1 (.tmp 4)), false, none⟩,
  ⟨some 51, (.load 1 false (.tmp 50)), false, none⟩,
  ⟨some 52, (.nilCheck (.tmp 48)), false, none⟩,
  ⟨some 53, (.fieldAddr 2 (.tmp 52)), false, none⟩,
  ⟨none, (.store 1 (.tmp 53) (.const (.bool true))), false, none⟩,
  ⟨some 54, (.nilCheck (.tmp 49)), false, none⟩,
  ⟨some 55, (.fieldAddr 3 (.tmp 54)), false, none⟩,
  ⟨none, (.store 1 (.tmp 55) (.tmp 51)), false, none⟩]
def c16_29 : ACode := (.float o16_28 [none, none, none, none, none, none, (some [1, 2, 3]), none, none, (some [])] [])
def w16_29 (_P : Program) (Q : Exit → Slots → Mem → Prop) (M : Mem) (v4 : V) (v9 : V) : Prop :=
  @OptVH (moveV 1 v4) ⟨fun t50_3 =>
  @OptVH (loadV 1 false t50_3 M) ⟨fun t51_4 =>
  @OptVH (nilCheckV v9) ⟨fun t52_5 =>
  @OptVH (moveV 2 t52_5) ⟨fun t53_6 =>
  @OptMH (storeVM 1 t53_6 (.bool true) M) ⟨fun _tx_7 M7 =>
  (some v9 = some v9 ∧ moveV 1 v4 = some t50_3 ∧ loadV 1 false t50_3 M7 = some t51_4 ∧ True) ∧ (@OptVH (nilCheckV v9) ⟨fun t54_8 =>
  @OptVH (moveV 3 t54_8) ⟨fun t55_9 =>
  @OptMH (storeVM 1 t55_9 t51_4 M7) ⟨fun _tx_10 M10 =>
  (True) ∧ (Q .normal [] M10)⟩⟩⟩)⟩⟩⟩⟩⟩
theorem e16_29 (P : Program) (Q : Exit → Slots → Mem → Prop) (s : Slots) (M : Mem) : wpC P c16_29 Q s M = w16_29 P Q M (sget s 4) (sget s 9) := by kernel_rfl
def o16_30 : List AOper := [⟨some 6, (.mov (.const (.int .i64 0))), false, none⟩]
def c16_31 : ACode := (.region o16_30 [6])
def w16_31 (_P : Program) (Q : Exit → Slots → Mem → Prop) (M : Mem) : Prop :=
  Q .normal [(6, (.int .i64 0))] M
theorem e16_31 (P : Program) (Q : Exit → Slots → Mem → Prop) (s : Slots) (M : Mem) : wpC P c16_31 Q s M = w16_31 P Q M := by kernel_rfl
def c16_32 : ACode := (.seq c16_31 .ret)
def c16_33 : ACode := (.seq c16_29 c16_32)
def c16_34 : ACode := (.seq c16_27 c16_33)
def c16_35 : ACode := (.seq c16_25 c16_34)
def c16_36 : ACode := (.seq c16_23 c16_35)
def c16_37 : ACode := (.seq c16_21 c16_36)
def c16_38 : ACode := (.seq c16_16 c16_37)
def c16_39 : ACode := (.seq c16_14 c16_38)
def c16_40 : ACode := (.seq c16_6 c16_39)
def c16_41 : ACode := (.seq c16_1 c16_40)
def fn_inbox_Inbox_Receive : AFn := ⟨56, [(.tmp 6)], c16_41⟩
theorem fn_inbox_Inbox_Receive_ok : resFn PR h_inbox_Inbox_Receive i_inbox_Inbox_Receive = some fn_inbox_Inbox_Receive := by kernel_rfl

def h_transitref32_Same : Hints := ⟨[(0, [0, 1]), (1, [0, 1, 10]), (2, [4]), (3, [0, 1, 5]), (4, [0, 1, 5, 14]), (5, [0, 1, 5]), (6, [0, 1, 5, 26]), (7, [4]), (8, [4])], [(4, [0, 1, 5])], []⟩
def o17_0 : List AOper := [⟨some 4, (.mov (.const (.bool false))), true, none⟩]
def c17_1 : ACode := (.region o17_0 [0, 1])
def w17_1 (_P : Program) (Q : Exit → Slots → Mem → Prop) (M : Mem) (v0 : V) (v1 : V) : Prop :=
  Q .normal [(0, v0), (1, v1)] M
theorem e17_1 (P : Program) (Q : Exit → Slots → Mem → Prop) (s : Slots) (M : Mem) : wpC P c17_1 Q s M = w17_1 P Q M (sget s 0) (sget s 1) := by kernel_rfl
def o17_2 : List AOper := [⟨some 4, (.mov (.const (.bool false))), true, none⟩]
def c17_3 : ACode := (.region o17_2 [4])
def w17_3 (_P : Program) (Q : Exit → Slots → Mem → Prop) (M : Mem) : Prop :=
  Q .normal [(4, (.bool false))] M
theorem e17_3 (P : Program) (Q : Exit → Slots → Mem → Prop) (s : Slots) (M : Mem) : wpC P c17_3 Q s M = w17_3 P Q M := by kernel_rfl
def c17_4 : ACode := (.seq c17_3 .ret)
def o17_5 : List AOper := [⟨some 6, (.mov (.tmp 0)), false, none⟩,
  ⟨some 7, (.lenSl (.tmp 6)), false, none⟩,
  ⟨some 8, (.mov (.tmp 1)), false, none⟩,
  ⟨some 9, (.lenSl (.tmp 8)), false, none⟩,
  ⟨some 10, (.bin .neq .none (.tmp 7) (.tmp 9)), true, none⟩]
def c17_6 : ACode := (.seq (.region o17_5 [0, 1, 10]) (.cond (.tmp 10) c17_4 .skip))
def w17_6 (P : Program) (Q : Exit → Slots → Mem → Prop) (M : Mem) (v0 : V) (v1 : V) : Prop :=
  @OptVH (lenV v0 M) ⟨fun t7_2 =>
  @OptVH (lenV v1 M) ⟨fun t9_4 =>
  @OptBH (binV .neq .none t7_2 t9_4) ⟨fun b10_5 =>
  @BIfH b10_5
  ⟨wpC P c17_4 Q [(0, v0), (1, v1), (10, (.bool b10_5))] M⟩
  ⟨Q .normal [(0, v0), (1, v1), (10, (.bool b10_5))] M⟩⟩⟩⟩
theorem e17_6 (P : Program) (Q : Exit → Slots → Mem → Prop) (s : Slots) (M : Mem) : wpC P c17_6 Q s M = w17_6 P Q M (sget s 0) (sget s 1) := by kernel_rfl
def o17_7 : List AOper := [⟨some 5, (.mov (.const (.int .i64 0))), false, none⟩]
def c17_8 : ACode := (.region o17_7 [0, 1, 5])
def w17_8 (_P : Program) (Q : Exit → Slots → Mem → Prop) (M : Mem) (v0 : V) (v1 : V) : Prop :=
  Q .normal [(0, v0), (1, v1), (5, (.int .i64 0))] M
theorem e17_8 (P : Program) (Q : Exit → Slots → Mem → Prop) (s : Slots) (M : Mem) : wpC P c17_8 Q s M = w17_8 P Q M (sget s 0) (sget s 1) := by kernel_rfl
def o17_9 : List AOper := [⟨some 11, (.mov (.tmp 5)), false, none⟩,
  ⟨some 12, (.mov (.tmp 0)), false, none⟩,
  ⟨some 13, (.lenSl (.tmp 12)), false, none⟩,
  ⟨some 14, (.bin .lss .none (.tmp 11) (.tmp 13)), true, none⟩]
def c17_10 : ACode := (.seq (.region o17_9 [0, 1, 5, 14]) (.cond (.tmp 14) .skip (.exit 0)))
def w17_10 (_P : Program) (Q : Exit → Slots → Mem → Prop) (M : Mem) (v0 : V) (v1 : V) (v5 : V) : Prop :=
  @OptVH (lenV v0 M) ⟨fun t13_3 =>
  @OptBH (binV .lss .none v5 t13_3) ⟨fun b14_4 =>
  @BIfH b14_4
  ⟨Q .normal [(0, v0), (1, v1), (5, v5), (14, (.bool b14_4))] M⟩
  ⟨Q (.exit 0) [(0, v0), (1, v1), (5, v5), (14, (.bool b14_4))] M⟩⟩⟩
theorem e17_10 (P : Program) (Q : Exit → Slots → Mem → Prop) (s : Slots) (M : Mem) : wpC P c17_10 Q s M = w17_10 P Q M (sget s 0) (sget s 1) (sget s 5) := by kernel_rfl
def o17_11 : List AOper := [⟨some 4, (.mov (.const (.bool false))), true, none⟩]
def c17_12 : ACode := (.region o17_11 [4])
def w17_12 (_P : Program) (Q : Exit → Slots → Mem → Prop) (M : Mem) : Prop :=
  Q .normal [(4, (.bool false))] M
theorem e17_12 (P : Program) (Q : Exit → Slots → Mem → Prop) (s : Slots) (M : Mem) : wpC P c17_12 Q s M = w17_12 P Q M := by kernel_rfl
def c17_13 : ACode := (.seq c17_12 .ret)
def o17_14 : List AOper := [⟨some 17, (.mov (.tmp 0)), false, none⟩,
  ⟨some 18, (.mov (.tmp 5)), false, none⟩,
  ⟨some 19, (.indexSl 13 (.tmp 17) (.tmp 18)), false, none⟩,
  ⟨some 20, (.load 13 true (.tmp 19)), false, none⟩,
  ⟨some 21, (.mov (.tmp 1)), false, none⟩,
  ⟨some 22, (.mov (.tmp 5)), false, none⟩,
  ⟨some 23, (.indexSl 13 (.tmp 21) (.tmp 22)), false, none⟩,
  ⟨some 24, (.load 13 true (.tmp 23)), false, none⟩,
  ⟨some 25, (.call i_transitref31_Equal [(.tmp 20), (.tmp 24)]), true, none⟩,
  ⟨some 26, (.un .not (.tmp 25)), true, none⟩]
def c17_15 : ACode := (.seq (.mixed o17_14 [true, true, true, true, true, true, true, true, false, true] [0, 1, 5, 26]) (.cond (.tmp 26) c17_13 .skip))
def w17_15 (P : Program) (Q : Exit → Slots → Mem → Prop) (M : Mem) (v0 : V) (v1 : V) (v5 : V) : Prop :=
  @OptVH (indexSlV 13 v0 v5 M) ⟨fun t19_3 =>
  @OptVH (loadV 13 true t19_3 M) ⟨fun t20_4 =>
  @OptVH (indexSlV 13 v1 v5 M) ⟨fun t23_7 =>
  @OptVH (loadV 13 true t23_7 M) ⟨fun t24_8 =>
  @CallH P i_transitref31_Equal [t20_4, t24_8] M ⟨fun t25_9 M9 => @OptBH (some t25_9) ⟨fun b25_9 =>
  @OptBH (unV .not (.bool b25_9)) ⟨fun b26_10 =>
  @BIfH b26_10
  ⟨wpC P c17_13 Q [(0, v0), (1, v1), (5, v5), (26, (.bool b26_10))] M9⟩
  ⟨Q .normal [(0, v0), (1, v1), (5, v5), (26, (.bool b26_10))] M9⟩⟩⟩⟩⟩⟩⟩⟩
theorem e17_15 (P : Program) (Q : Exit → Slots → Mem → Prop) (s : Slots) (M : Mem) : wpC P c17_15 Q s M = w17_15 P Q M (sget s 0) (sget s 1) (sget s 5) := by kernel_rfl
def c17_16 : ACode := (.block 1 c17_15)
def o17_17 : List AOper := [⟨some 15, (.mov (.tmp 5)), false, none⟩,
  ⟨some 16, (.bin .add .none (.tmp 15) (.const (.int .i64 1))), false, none⟩,
  ⟨some 5, (.mov (.tmp 16)), false, none⟩]
def c17_18 : ACode := (.region o17_17 [0, 1, 5])
def w17_18 (_P : Program) (Q : Exit → Slots → Mem → Prop) (M : Mem) (v0 : V) (v1 : V) (v5 : V) : Prop :=
  @OptVH (binV .add .none v5 (.int .i64 1)) ⟨fun t16_2 =>
  Q .normal [(0, v0), (1, v1), (5, t16_2)] M⟩
theorem e17_18 (P : Program) (Q : Exit → Slots → Mem → Prop) (s : Slots) (M : Mem) : wpC P c17_18 Q s M = w17_18 P Q M (sget s 0) (sget s 1) (sget s 5) := by kernel_rfl
def c17_19 : ACode := (.seq c17_16 c17_18)
def c17_20 : ACode := (.seq c17_10 c17_19)
def c17_21 : ACode := (.loop [0, 1, 5] c17_20)
def c17_22 : ACode := (.block 0 c17_21)
def c17_23 : ACode := (.seq c17_8 c17_22)
def o17_24 : List AOper := [⟨some 4, (.mov (.const (.bool true))), true, none⟩]
def c17_25 : ACode := (.region o17_24 [4])
def w17_25 (_P : Program) (Q : Exit → Slots → Mem → Prop) (M : Mem) : Prop :=
  Q .normal [(4, (.bool true))] M
theorem e17_25 (P : Program) (Q : Exit → Slots → Mem → Prop) (s : Slots) (M : Mem) : wpC P c17_25 Q s M = w17_25 P Q M := by kernel_rfl
def c17_26 : ACode := (.seq c17_25 .ret)
def c17_27 : ACode := (.seq c17_23 c17_26)
def c17_28 : ACode := (.seq c17_6 c17_27)
def c17_29 : ACode := (.seq c17_1 c17_28)
def fn_transitref32_Same : AFn := ⟨27, [(.tmp 4)], c17_29⟩
theorem fn_transitref32_Same_ok : resFn PR h_transitref32_Same i_transitref32_Same = some fn_transitref32_Same := by kernel_rfl

def h_inbox_Inbox_Active : Hints := ⟨[(0, [2, 3]), (1, [2, 3, 13]), (2, [4]), (3, [5]), (4, [5, 6]), (5, [5, 6, 20, 21, 22]), (6, [5, 6, 20, 21, 22, 23]), (7, [5, 6, 8, 20, 21, 22]), (8, [5, 6, 8, 9, 20, 21, 22]), (9, [5, 6, 8, 9, 20, 21, 22, 26, 27, 28]), (10, [5, 6, 8, 9, 20, 21, 22, 26, 27, 28, 29]), (11, [5, 6, 8, 9, 11, 20, 21, 22, 26, 27, 28]), (12, [5, 6, 8, 9, 20, 21, 22, 26, 27, 28]), (13, [5, 6, 8, 9, 20, 21, 22, 26, 27, 28]), (14, [5, 6, 8, 20, 21, 22, 47]), (15, [5, 6, 20, 21, 22]), (16, [5, 6, 20, 21, 22]), (17, [4])], [(6, [5, 6, 20, 21, 22]), (10, [5, 6, 8, 9, 20, 21, 22, 26, 27, 28])], []⟩
def o18_0 : List AOper := [⟨some 2, (.box 1 (.tmp 0)), false, none⟩,
  ⟨some 3, (.box 1 (.tmp 1)), false, none⟩,
  ⟨some 4, (.mov (.const (.slice [] .nil))), false, none⟩]
def c18_1 : ACode := (.region o18_0 [2, 3])
def w18_1 (_P : Program) (Q : Exit → Slots → Mem → Prop) (M : Mem) (v0 : V) (v1 : V) : Prop :=
  @OptMH (boxV 1 v0 M) ⟨fun t2_1 M1 =>
  @OptMH (boxV 1 v1 M1) ⟨fun t3_2 M2 =>
  Q .normal [(2, t2_1), (3, t3_2)] M2⟩⟩
theorem e18_1 (P : Program) (Q : Exit → Slots → Mem → Prop) (s : Slots) (M : Mem) : wpC P c18_1 Q s M = w18_1 P Q M (sget s 0) (sget s 1) := by kernel_rfl
def o18_2 : List AOper := [⟨some 4, (.mov (.const (.slice [] .nil))), false, none⟩]
def c18_3 : ACode := (.region o18_2 [4])
def w18_3 (_P : Program) (Q : Exit → Slots → Mem → Prop) (M : Mem) : Prop :=
  Q .normal [(4, (.slice [] .nil))] M
theorem e18_3 (P : Program) (Q : Exit → Slots → Mem → Prop) (s : Slots) (M : Mem) : wpC P c18_3 Q s M = w18_3 P Q M := by kernel_rfl
def c18_4 : ACode := (.seq c18_3 .ret)
def o18_5 : List AOper := [⟨some 12, (.load 1 false (.tmp 2)), false, none⟩,
  ⟨some 13, (.bin .eql .ptr (.tmp 12) (.const .nilp)), true, none⟩]
def c18_6 : ACode := (.seq (.region o18_5 [2, 3, 13]) (.cond (.tmp 13) c18_4 .skip))
def w18_6 (P : Program) (Q : Exit → Slots → Mem → Prop) (M : Mem) (v2 : V) (v3 : V) : Prop :=
  @OptVH (loadV 1 false v2 M) ⟨fun t12_1 =>
  @OptBH (binV .eql .ptr t12_1 .nilp) ⟨fun b13_2 =>
  @BIfH b13_2
  ⟨wpC P c18_4 Q [(2, v2), (3, v3), (13, (.bool b13_2))] M⟩
  ⟨Q .normal [(2, v2), (3, v3), (13, (.bool b13_2))] M⟩⟩⟩
theorem e18_6 (P : Program) (Q : Exit → Slots → Mem → Prop) (s : Slots) (M : Mem) : wpC P c18_6 Q s M = w18_6 P Q M (sget s 2) (sget s 3) := by kernel_rfl
def o18_7 : List AOper := [⟨some 14, (.load 1 false (.tmp 2)), false, none⟩,
  ⟨some 15, (.nilCheck (.tmp 14)), false, none⟩,
  ⟨some 16, (.fieldAddr 2 (.tmp 15)), false, none⟩,
  ⟨some 17, (.load 1 false (.tmp 16)), false, none⟩,
  ⟨some 18, (.mkfn i_inbox_Inbox_Active_1 [(.tmp 3), (.tmp 2)]), false, none⟩,
  ⟨some 19, (.call i_inbox_filtered [(.tmp 17), (.tmp 18)]), false, none⟩,
  ⟨some 5, (.mov (.tmp 19)), false, none⟩]
def c18_8 : ACode := (.region o18_7 [5])
def w18_8 (P : Program) (Q : Exit → Slots → Mem → Prop) (M : Mem) (v2 : V) (v3 : V) : Prop :=
  @OptVH (loadV 1 false v2 M) ⟨fun t14_1 =>
  @OptVH (nilCheckV t14_1) ⟨fun t15_2 =>
  @OptVH (moveV 2 t15_2) ⟨fun t16_3 =>
  @OptVH (loadV 1 false t16_3 M) ⟨fun t17_4 =>
  @CallH P i_inbox_filtered [t17_4, (mkfnV i_inbox_Inbox_Active_1 [v3, v2])] M ⟨fun t19_6 M6 =>
  Q .normal [(5, t19_6)] M6⟩⟩⟩⟩⟩
theorem e18_8 (P : Program) (Q : Exit → Slots → Mem → Prop) (s : Slots) (M : Mem) : wpC P c18_8 Q s M = w18_8 P Q M (sget s 2) (sget s 3) := by kernel_rfl
def o18_9 : List AOper := [⟨some 6, (.mov (.const (.slice [] .nil))), false, none⟩]
def c18_10 : ACode := (.region o18_9 [5, 6])
def w18_10 (_P : Program) (Q : Exit → Slots → Mem → Prop) (M : Mem) (v5 : V) : Prop :=
  Q .normal [(5, v5), (6, (.slice [] .nil))] M
theorem e18_10 (P : Program) (Q : Exit → Slots → Mem → Prop) (s : Slots) (M : Mem) : wpC P c18_10 Q s M = w18_10 P Q M (sget s 5) := by kernel_rfl
def o18_11 : List AOper := [⟨some 20, (.mov (.tmp 5)), false, none⟩,
  ⟨some 21, (.lenSl (.tmp 20)), false, none⟩,
  ⟨some 22, (.mov (.const (.int .i64 0))), false, none⟩]
def c18_12 : ACode := (.region o18_11 [5, 6, 20, 21, 22])
def w18_12 (_P : Program) (Q : Exit → Slots → Mem → Prop) (M : Mem) (v5 : V) (v6 : V) : Prop :=
  @OptVH (lenV v5 M) ⟨fun t21_2 =>
  Q .normal [(5, v5), (6, v6), (20, v5), (21, t21_2), (22, (.int .i64 0))] M⟩
theorem e18_12 (P : Program) (Q : Exit → Slots → Mem → Prop) (s : Slots) (M : Mem) : wpC P c18_12 Q s M = w18_12 P Q M (sget s 5) (sget s 6) := by kernel_rfl
def o18_13 : List AOper := [⟨some 23, (.bin .lss .none (.tmp 22) (.tmp 21)), false, none⟩]
def c18_14 : ACode := (.region o18_13 [5, 6, 20, 21, 22, 23])
def w18_14 (_P : Program) (Q : Exit → Slots → Mem → Prop) (M : Mem) (v5 : V) (v6 : V) (v20 : V) (v21 : V) (v22 : V) : Prop :=
  @OptVH (binV .lss .none v22 v21) ⟨fun t23_1 =>
  Q .normal [(5, v5), (6, v6), (20, v20), (21, v21), (22, v22), (23, t23_1)] M⟩
theorem e18_14 (P : Program) (Q : Exit → Slots → Mem → Prop) (s : Slots) (M : Mem) : wpC P c18_14 Q s M = w18_14 P Q M (sget s 5) (sget s 6) (sget s 20) (sget s 21) (sget s 22) := by kernel_rfl
def c18_15 : ACode := (.cond (.tmp 23) .skip (.exit 0))
def o18_16 : List AOper := [⟨some 24, (.indexSl 13 (.tmp 20) (.tmp 22)), false, none⟩,
  ⟨some 25, (.load 13 true (.tmp 24)), false, none⟩,
  ⟨some 8, (.alloc [(.int .i64 0), (.int .i64 0), (.int .i64 0), (.int .i64 0), (.int .i64 0), (.str []), (.int .i64 0), (.int .i64 0), (.int .i64 0), (.int .i64 0), (.int .i64 0), (.bool false), (.slice [] .nil)]), false, none⟩,
  ⟨none, (.store 13 (.tmp 8) (.tmp 25)), false, none⟩]
def c18_17 : ACode := (.region o18_16 [5, 6, 8, 20, 21, 22])
def w18_17 (_P : Program) (Q : Exit → Slots → Mem → Prop) (M : Mem) (v5 : V) (v6 : V) (v20 : V) (v21 : V) (v22 : V) : Prop :=
  @OptVH (indexSlV 13 v20 v22 M) ⟨fun t24_1 =>
  @OptVH (loadV 13 true t24_1 M) ⟨fun t25_2 =>
  @OptMH (allocV [(.int .i64 0), (.int .i64 0), (.int .i64 0), (.int .i64 0), (.int .i64 0), (.str []), (.int .i64 0), (.int .i64 0), (.int .i64 0), (.int .i64 0), (.int .i64 0), (.bool false), (.slice [] .nil)] M) ⟨fun t8_3 M3 =>
  @OptMH (storeVM 13 t8_3 t25_2 M3) ⟨fun _tx_4 M4 =>
  Q .normal [(5, v5), (6, v6), (8, t8_3), (20, v20), (21, v21), (22, v22)] M4⟩⟩⟩⟩
theorem e18_17 (P : Program) (Q : Exit → Slots → Mem → Prop) (s : Slots) (M : Mem) : wpC P c18_17 Q s M = w18_17 P Q M (sget s 5) (sget s 6) (sget s 20) (sget s 21) (sget s 22) := by kernel_rfl
def o18_18 : List AOper := [⟨some 9, (.mov (.const (.bool false))), true, none⟩]
def c18_19 : ACode := (.region o18_18 [5, 6, 8, 9, 20, 21, 22])
def w18_19 (_P : Program) (Q : Exit → Slots → Mem → Prop) (M : Mem) (v5 : V) (v6 : V) (v8 : V) (v20 : V) (v21 : V) (v22 : V) : Prop :=
  Q .normal [(5, v5), (6, v6), (8, v8), (9, (.bool false)), (20, v20), (21, v21), (22, v22)] M
theorem e18_19 (P : Program) (Q : Exit → Slots → Mem → Prop) (s : Slots) (M : Mem) : wpC P c18_19 Q s M = w18_19 P Q M (sget s 5) (sget s 6) (sget s 8) (sget s 20) (sget s 21) (sget s 22) := by kernel_rfl
def o18_20 : List AOper := [⟨some 26, (.mov (.tmp 5)), false, none⟩,
  ⟨some 27, (.lenSl (.tmp 26)), false, none⟩,
  ⟨some 28, (.mov (.const (.int .i64 0))), false, none⟩]
def c18_21 : ACode := (.region o18_20 [5, 6, 8, 9, 20, 21, 22, 26, 27, 28])
def w18_21 (_P : Program) (Q : Exit → Slots → Mem → Prop) (M : Mem) (v5 : V) (v6 : V) (v8 : V) (v9 : V) (v20 : V) (v21 : V) (v22 : V) : Prop :=
  @OptVH (lenV v5 M) ⟨fun t27_2 =>
  Q .normal [(5, v5), (6, v6), (8, v8), (9, v9), (20, v20), (21, v21), (22, v22), (26, v5), (27, t27_2), (28, (.int .i64 0))] M⟩
theorem e18_21 (P : Program) (Q : Exit → Slots → Mem → Prop) (s : Slots) (M : Mem) : wpC P c18_21 Q s M = w18_21 P Q M (sget s 5) (sget s 6) (sget s 8) (sget s 9) (sget s 20) (sget s 21) (sget s 22) := by kernel_rfl
def o18_22 : List AOper := [⟨some 29, (.bin .lss .none (.tmp 28) (.tmp 27)), false, none⟩]
def c18_23 : ACode := (.region o18_22 [5, 6, 8, 9, 20, 21, 22, 26, 27, 28, 29])
def w18_23 (_P : Program) (Q : Exit → Slots → Mem → Prop) (M : Mem) (v5 : V) (v6 : V) (v8 : V) (v9 : V) (v20 : V) (v21 : V) (v22 : V) (v26 : V) (v27 : V) (v28 : V) : Prop :=
  @OptVH (binV .lss .none v28 v27) ⟨fun t29_1 =>
  Q .normal [(5, v5), (6, v6), (8, v8), (9, v9), (20, v20), (21, v21), (22, v22), (26, v26), (27, v27), (28, v28), (29, t29_1)] M⟩
theorem e18_23 (P : Program) (Q : Exit → Slots → Mem → Prop) (s : Slots) (M : Mem) : wpC P c18_23 Q s M = w18_23 P Q M (sget s 5) (sget s 6) (sget s 8) (sget s 9) (sget s 20) (sget s 21) (sget s 22) (sget s 26) (sget s 27) (sget s 28) := by kernel_rfl
def c18_24 : ACode := (.cond (.tmp 29) .skip (.exit 2))
def o18_25 : List AOper := [⟨some 30, (.indexSl 13 (.tmp 26) (.tmp 28)), false, none⟩,
  ⟨some 31, (.load 13 true (.tmp 30)), false, none⟩,
  ⟨some 11, (.alloc [(.int .i64 0), (.int .i64 0), (.int .i64 0), (.int .i64 0), (.int .i64 0), (.str []), (.int .i64 0), (.int .i64 0), (.int .i64 0), (.int .i64 0), (.int .i64 0), (.bool false), (.slice [] .nil)]), false, none⟩,
  ⟨none, (.store 13 (.tmp 11) (.tmp 31)), false, none⟩]
def c18_26 : ACode := (.region o18_25 [5, 6, 8, 9, 11, 20, 21, 22, 26, 27, 28])
def w18_26 (_P : Program) (Q : Exit → Slots → Mem → Prop) (M : Mem) (v5 : V) (v6 : V) (v8 : V) (v9 : V) (v20 : V) (v21 : V) (v22 : V) (v26 : V) (v27 : V) (v28 : V) : Prop :=
  @OptVH (indexSlV 13 v26 v28 M) ⟨fun t30_1 =>
  @OptVH (loadV 13 true t30_1 M) ⟨fun t31_2 =>
  @OptMH (allocV [(.int .i64 0), (.int .i64 0), (.int .i64 0), (.int .i64 0), (.int .i64 0), (.str []), (.int .i64 0), (.int .i64 0), (.int .i64 0), (.int .i64 0), (.int .i64 0), (.bool false), (.slice [] .nil)] M) ⟨fun t11_3 M3 =>
  @OptMH (storeVM 13 t11_3 t31_2 M3) ⟨fun _tx_4 M4 =>
  Q .normal [(5, v5), (6, v6), (8, v8), (9, v9), (11, t11_3), (20, v20), (21, v21), (22, v22), (26, v26), (27, v27), (28, v28)] M4⟩⟩⟩⟩
theorem e18_26 (P : Program) (Q : Exit → Slots → Mem → Prop) (s : Slots) (M : Mem) : wpC P c18_26 Q s M = w18_26 P Q M (sget s 5) (sget s 6) (sget s 8) (sget s 9) (sget s 20) (sget s 21) (sget s 22) (sget s 26) (sget s 27) (sget s 28) := by kernel_rfl
def o18_27 : List AOper := [⟨some 32, (.mov (.tmp 9)), true, none⟩,
  ⟨some 33, (.mov (.tmp 32)), true, none⟩,
  ⟨some 34, (.fieldAddr 0 (.tmp 11)), false, some (33, false)⟩,
  ⟨some 35, (.load 1 false (.tmp 34)), false, some (33, false)⟩,
  ⟨some 36, (.fieldAddr 0 (.tmp 8)), false, some (33, false)⟩,
  ⟨some 37, (.load 1 false (.tmp 36)), false, some (33, false)⟩,
  ⟨some 38, (.bin .lss .none (.tmp 35) (.tmp 37)), true, some (33, false)⟩,
  ⟨some 39, (.mov (.tmp 38)), true, some (33, false)⟩,
  ⟨some 40, (.load 13 true (.tmp 11)), false, some (39, true)⟩,
  ⟨some 41, (.load 13 true (.tmp 8)), false, some (39, true)⟩,
  ⟨some 42, (.call i_message_SameTarget [(.tmp 40), (.tmp 41)]), true, some (39, true)⟩,
  ⟨some 43, (.pick (.tmp 39) (.tmp 42) (.const (.bool false))), true, some (33, false)⟩,
  ⟨some 44, (.pick (.tmp 33) (.const (.bool true)) (.tmp 43)), true, none⟩,
  ⟨some 9, (.mov (.tmp 44)), true, none⟩]
def c18_28 : ACode := (.region o18_27 [5, 6, 8, 9, 20, 21, 22, 26, 27, 28])
def w18_28 (P : Program) (Q : Exit → Slots → Mem → Prop) (M : Mem) (v5 : V) (v6 : V) (v8 : V) (v9 : V) (v11 : V) (v20 : V) (v21 : V) (v22 : V) (v26 : V) (v27 : V) (v28 : V) : Prop :=
  @OptBH (some v9) ⟨fun b32_1 =>
  @BIfH b32_1
  ⟨Q .normal [(5, v5), (6, v6), (8, v8), (9, (.bool true)), (20, v20), (21, v21), (22, v22), (26, v26), (27, v27), (28, v28)] M⟩
  ⟨@OptVH (moveV 0 v11) ⟨fun t34_5 =>
  @OptVH (loadV 1 false t34_5 M) ⟨fun t35_6 =>
  @OptVH (moveV 0 v8) ⟨fun t36_7 =>
  @OptVH (loadV 1 false t36_7 M) ⟨fun t37_8 =>
  @OptBH (binV .lss .none t35_6 t37_8) ⟨fun b38_9 =>
  @BIfH b38_9
  ⟨@OptVH (loadV 13 true v11 M) ⟨fun t40_11 =>
  @OptVH (loadV 13 true v8 M) ⟨fun t41_12 =>
  @CallH P i_message_SameTarget [t40_11, t41_12] M ⟨fun t42_13 M13 => @OptBH (some t42_13) ⟨fun b42_13 =>
  Q .normal [(5, v5), (6, v6), (8, v8), (9, (.bool b42_13)), (20, v20), (21, v21), (22, v22), (26, v26), (27, v27), (28, v28)] M13⟩⟩⟩⟩⟩
  ⟨Q .normal [(5, v5), (6, v6), (8, v8), (9, (.bool false)), (20, v20), (21, v21), (22, v22), (26, v26), (27, v27), (28, v28)] M⟩⟩⟩⟩⟩⟩⟩⟩
theorem e18_28 (P : Program) (Q : Exit → Slots → Mem → Prop) (s : Slots) (M : Mem) : wpC P c18_28 Q s M = w18_28 P Q M (sget s 5) (sget s 6) (sget s 8) (sget s 9) (sget s 11) (sget s 20) (sget s 21) (sget s 22) (sget s 26) (sget s 27) (sget s 28) := by kernel_rfl
def c18_29 : ACode := (.seq c18_26 c18_28)
def c18_30 : ACode := (.block 3 c18_29)
def o18_31 : List AOper := [⟨some 45, (.bin .add .none (.tmp 28) (.const (.int .i64 1))), false, none⟩,
  ⟨some 28, (.mov (.tmp 45)), false, none⟩]
def c18_32 : ACode := (.region o18_31 [5, 6, 8, 9, 20, 21, 22, 26, 27, 28])
def w18_32 (_P : Program) (Q : Exit → Slots → Mem → Prop) (M : Mem) (v5 : V) (v6 : V) (v8 : V) (v9 : V) (v20 : V) (v21 : V) (v22 : V) (v26 : V) (v27 : V) (v28 : V) : Prop :=
  @OptVH (binV .add .none v28 (.int .i64 1)) ⟨fun t45_1 =>
  Q .normal [(5, v5), (6, v6), (8, v8), (9, v9), (20, v20), (21, v21), (22, v22), (26, v26), (27, v27), (28, t45_1)] M⟩
theorem e18_32 (P : Program) (Q : Exit → Slots → Mem → Prop) (s : Slots) (M : Mem) : wpC P c18_32 Q s M = w18_32 P Q M (sget s 5) (sget s 6) (sget s 8) (sget s 9) (sget s 20) (sget s 21) (sget s 22) (sget s 26) (sget s 27) (sget s 28) := by kernel_rfl
def c18_33 : ACode := (.seq c18_30 c18_32)
def c18_34 : ACode := (.seq c18_24 c18_33)
def c18_35 : ACode := (.seq c18_23 c18_34)
def c18_36 : ACode := (.loop [5, 6, 8, 9, 20, 21, 22, 26, 27, 28] c18_35)
def c18_37 : ACode := (.block 2 c18_36)
def c18_38 : ACode := (.seq c18_21 c18_37)
def o18_39 : List AOper := [⟨some 48, (.mov (.tmp 6)), false, none⟩,
  ⟨some 49, (.load 13 true (.tmp 8)), false, none⟩,
  ⟨some 50, (.call i_inbox_inserted_api_Message [(.tmp 48), (.tmp 49), (.const (.pfn i_inbox_before []))]), false, none⟩,
  ⟨some 6, (.mov (.tmp 50)), false, none⟩]
def c18_40 : ACode := (.region o18_39 [5, 6, 20, 21, 22])
def w18_40 (P : Program) (Q : Exit → Slots → Mem → Prop) (M : Mem) (v5 : V) (v6 : V) (v8 : V) (v20 : V) (v21 : V) (v22 : V) : Prop :=
  @OptVH (loadV 13 true v8 M) ⟨fun t49_2 =>
  @CallH P i_inbox_inserted_api_Message [v6, t49_2, (.pfn i_inbox_before [])] M ⟨fun t50_3 M3 =>
  Q .normal [(5, v5), (6, t50_3), (20, v20), (21, v21), (22, v22)] M3⟩⟩
theorem e18_40 (P : Program) (Q : Exit → Slots → Mem → Prop) (s : Slots) (M : Mem) : wpC P c18_40 Q s M = w18_40 P Q M (sget s 5) (sget s 6) (sget s 8) (sget s 20) (sget s 21) (sget s 22) := by kernel_rfl
def o18_41 : List AOper := [⟨some 46, (.mov (.tmp 9)), true, none⟩,
  ⟨some 47, (.un .not (.tmp 46)), true, none⟩]
def c18_42 : ACode := (.seq (.region o18_41 [5, 6, 8, 20, 21, 22, 47]) (.cond (.tmp 47) c18_40 .skip))
def w18_42 (P : Program) (Q : Exit → Slots → Mem → Prop) (M : Mem) (v5 : V) (v6 : V) (v8 : V) (v9 : V) (v20 : V) (v21 : V) (v22 : V) : Prop :=
  @OptBH (some v9) ⟨fun b46_1 =>
  @OptBH (unV .not (.bool b46_1)) ⟨fun b47_2 =>
  @BIfH b47_2
  ⟨wpC P c18_40 Q [(5, v5), (6, v6), (8, v8), (20, v20), (21, v21), (22, v22), (47, (.bool b47_2))] M⟩
  ⟨Q .normal [(5, v5), (6, v6), (8, v8), (20, v20), (21, v21), (22, v22), (47, (.bool b47_2))] M⟩⟩⟩
theorem e18_42 (P : Program) (Q : Exit → Slots → Mem → Prop) (s : Slots) (M : Mem) : wpC P c18_42 Q s M = w18_42 P Q M (sget s 5) (sget s 6) (sget s 8) (sget s 9) (sget s 20) (sget s 21) (sget s 22) := by kernel_rfl
def c18_43 : ACode := (.seq c18_38 c18_42)
def c18_44 : ACode := (.seq c18_19 c18_43)
def c18_45 : ACode := (.seq c18_17 c18_44)
def c18_46 : ACode := (.block 1 c18_45)
def o18_47 : List AOper := [⟨some 51, (.bin .add .none (.tmp 22) (.const (.int .i64 1))), false, none⟩,
  ⟨some 22, (.mov (.tmp 51)), false, none⟩]
def c18_48 : ACode := (.region o18_47 [5, 6, 20, 21, 22])
def w18_48 (_P : Program) (Q : Exit → Slots → Mem → Prop) (M : Mem) (v5 : V) (v6 : V) (v20 : V) (v21 : V) (v22 : V) : Prop :=
  @OptVH (binV .add .none v22 (.int .i64 1)) ⟨fun t51_1 =>
  Q .normal [(5, v5), (6, v6), (20, v20), (21, v21), (22, t51_1)] M⟩
theorem e18_48 (P : Program) (Q : Exit → Slots → Mem → Prop) (s : Slots) (M : Mem) : wpC P c18_48 Q s M = w18_48 P Q M (sget s 5) (sget s 6) (sget s 20) (sget s 21) (sget s 22) := by kernel_rfl
def c18_49 : ACode := (.seq c18_46 c18_48)
def c18_50 : ACode := (.seq c18_15 c18_49)
def c18_51 : ACode := (.seq c18_14 c18_50)
def c18_52 : ACode := (.loop [5, 6, 20, 21, 22] c18_51)
def c18_53 : ACode := (.block 0 c18_52)
def c18_54 : ACode := (.seq c18_12 c18_53)
def o18_55 : List AOper := [⟨some 52, (.mov (.tmp 6)), false, none⟩,
  ⟨some 4, (.mov (.tmp 52)), false, none⟩]
def c18_56 : ACode := (.region o18_55 [4])
def w18_56 (_P : Program) (Q : Exit → Slots → Mem → Prop) (M : Mem) (v6 : V) : Prop :=
  Q .normal [(4, v6)] M
theorem e18_56 (P : Program) (Q : Exit → Slots → Mem → Prop) (s : Slots) (M : Mem) : wpC P c18_56 Q s M = w18_56 P Q M (sget s 6) := by kernel_rfl
def c18_57 : ACode := (.seq c18_56 .ret)
def c18_58 : ACode := (.seq c18_54 c18_57)
def c18_59 : ACode := (.seq c18_10 c18_58)
def c18_60 : ACode := (.seq c18_8 c18_59)
def c18_61 : ACode := (.seq c18_6 c18_60)
def c18_62 : ACode := (.seq c18_1 c18_61)
def fn_inbox_Inbox_Active : AFn := ⟨53, [(.tmp 4)], c18_62⟩
theorem fn_inbox_Inbox_Active_ok : resFn PR h_inbox_Inbox_Active i_inbox_Inbox_Active = some fn_inbox_Inbox_Active := by kernel_rfl

def h_inbox_Inbox_Messages : Hints := ⟨[(0, [0]), (1, [0, 4]), (2, [2]), (3, [2])], [], []⟩
def o19_0 : List AOper := [⟨some 2, (.mov (.const (.slice [] .nil))), false, none⟩]
def c19_1 : ACode := (.region o19_0 [0])
def w19_1 (_P : Program) (Q : Exit → Slots → Mem → Prop) (M : Mem) (v0 : V) : Prop :=
  Q .normal [(0, v0)] M
theorem e19_1 (P : Program) (Q : Exit → Slots → Mem → Prop) (s : Slots) (M : Mem) : wpC P c19_1 Q s M = w19_1 P Q M (sget s 0) := by kernel_rfl
def o19_2 : List AOper := [⟨some 2, (.mov (.const (.slice [] .nil))), false, none⟩]
def c19_3 : ACode := (.region o19_2 [2])
def w19_3 (_P : Program) (Q : Exit → Slots → Mem → Prop) (M : Mem) : Prop :=
  Q .normal [(2, (.slice [] .nil))] M
theorem e19_3 (P : Program) (Q : Exit → Slots → Mem → Prop) (s : Slots) (M : Mem) : wpC P c19_3 Q s M = w19_3 P Q M := by kernel_rfl
def c19_4 : ACode := (.seq c19_3 .ret)
def o19_5 : List AOper := [⟨some 3, (.mov (.tmp 0)), false, none⟩,
  ⟨some 4, (.bin .eql .ptr (.tmp 3) (.const .nilp)), true, none⟩]
def c19_6 : ACode := (.seq (.region o19_5 [0, 4]) (.cond (.tmp 4) c19_4 .skip))
def w19_6 (P : Program) (Q : Exit → Slots → Mem → Prop) (M : Mem) (v0 : V) : Prop :=
  @OptBH (binV .eql .ptr v0 .nilp) ⟨fun b4_2 =>
  @BIfH b4_2
  ⟨wpC P c19_4 Q [(0, v0), (4, (.bool b4_2))] M⟩
  ⟨Q .normal [(0, v0), (4, (.bool b4_2))] M⟩⟩
theorem e19_6 (P : Program) (Q : Exit → Slots → Mem → Prop) (s : Slots) (M : Mem) : wpC P c19_6 Q s M = w19_6 P Q M (sget s 0) := by kernel_rfl
def o19_7 : List AOper := [⟨some 5, (.mov (.tmp 0)), false, none⟩,
  ⟨some 6, (.nilCheck (.tmp 5)), false, none⟩,
  ⟨some 7, (.fieldAddr 2 (.tmp 6)), false, none⟩,
  ⟨some 8, (.load 1 false (.tmp 7)), false, none⟩,
  ⟨some 9, (.call i_inbox_filtered [(.tmp 8), (.const (.pfn i_inbox_Inbox_Messages_1 []))]), false, none⟩,
  ⟨some 2, (.mov (.tmp 9)), false, none⟩]
def c19_8 : ACode := (.region o19_7 [2])
def w19_8 (P : Program) (Q : Exit → Slots → Mem → Prop) (M : Mem) (v0 : V) : Prop :=
  @OptVH (nilCheckV v0) ⟨fun t6_2 =>
  @OptVH (moveV 2 t6_2) ⟨fun t7_3 =>
  @OptVH (loadV 1 false t7_3 M) ⟨fun t8_4 =>
  @CallH P i_inbox_filtered [t8_4, (.pfn i_inbox_Inbox_Messages_1 [])] M ⟨fun t9_5 M5 =>
  Q .normal [(2, t9_5)] M5⟩⟩⟩⟩
theorem e19_8 (P : Program) (Q : Exit → Slots → Mem → Prop) (s : Slots) (M : Mem) : wpC P c19_8 Q s M = w19_8 P Q M (sget s 0) := by kernel_rfl
def c19_9 : ACode := (.seq c19_8 .ret)
def c19_10 : ACode := (.seq c19_6 c19_9)
def c19_11 : ACode := (.seq c19_1 c19_10)
def fn_inbox_Inbox_Messages : AFn := ⟨10, [(.tmp 2)], c19_11⟩
theorem fn_inbox_Inbox_Messages_ok : resFn PR h_inbox_Inbox_Messages i_inbox_Inbox_Messages = some fn_inbox_Inbox_Messages := by kernel_rfl

def h_inbox_Inbox_Failed : Hints := ⟨[(0, [0, 1, 2]), (1, [6])], [], []⟩
def o20_0 : List AOper := [⟨some 6, (.mov (.const (.bool false))), true, none⟩]
def c20_1 : ACode := (.region o20_0 [0, 1, 2])
def w20_1 (_P : Program) (Q : Exit → Slots → Mem → Prop) (M : Mem) (v0 : V) (v1 : V) (v2 : V) : Prop :=
  Q .normal [(0, v0), (1, v1), (2, v2)] M
theorem e20_1 (P : Program) (Q : Exit → Slots → Mem → Prop) (s : Slots) (M : Mem) : wpC P c20_1 Q s M = w20_1 P Q M (sget s 0) (sget s 1) (sget s 2) := by kernel_rfl
def o20_2 : List AOper := [⟨some 7, (.mov (.tmp 0)), false, none⟩,
  ⟨some 8, (.mov (.tmp 1)), false, none⟩,
  ⟨some 9, (.call i_inbox_Inbox_exists [(.tmp 7), (.tmp 8)]), true, none⟩,
  ⟨some 10, (.mov (.tmp 9)), true, none⟩,
  ⟨some 11, (.mov (.tmp 0)), false, some (10, true)⟩,
  ⟨some 12, (.nilCheck (.tmp 11)), false, some (10, true)⟩,
  ⟨some 13, (.fieldAddr 0 (.tmp 12)), false, some (10, true)⟩,
  ⟨some 14, (.load 1 false (.tmp 13)), false, some (10, true)⟩,
  ⟨some 15, (.mov (.tmp 1)), false, some (10, true)⟩,
  ⟨some 16, (.indexSl 4 (.tmp 14) (.tmp 15)), false, some (10, true)⟩,
  ⟨some 17, (.fieldAddr 0 (.tmp 16)), false, some (10, true)⟩,
  ⟨some 18, (.mov (.tmp 2)), false, some (10, true)⟩,
  ⟨some 19, (.mov (.tmp 0)), false, some (10, true)⟩,
  ⟨some 20, (.nilCheck (.tmp 19)), false, some (10, true)⟩,
  ⟨some 21, (.fieldAddr 1 (.tmp 20)), false, some (10, true)⟩,
  ⟨some 22, (.load 1 false (.tmp 21)), false, some (10, true)⟩,
  ⟨some 23, (.call i_inbox_heard_silent [(.tmp 17), (.tmp 18), (.tmp 22)]), true, some (10, true)⟩,
  ⟨some 24, (.pick (.tmp 10) (.tmp 23) (.const (.bool false))), true, none⟩,
  ⟨some 6, (.mov (.tmp 24)), true, none⟩]
def c20_3 : ACode := (.mixed o20_2 [true, true, false, true, true, true, true, true, true, true, true, true, true, true, true, true, false, true, true] [6])
def w20_3 (P : Program) (Q : Exit → Slots → Mem → Prop) (M : Mem) (v0 : V) (v1 : V) (v2 : V) : Prop :=
  @CallH P i_inbox_Inbox_exists [v0, v1] M ⟨fun t9_3 M3 => @OptBH (some t9_3) ⟨fun b9_3 =>
  @BIfH b9_3
  ⟨@OptVH (nilCheckV v0) ⟨fun t12_6 =>
  @OptVH (moveV 0 t12_6) ⟨fun t13_7 =>
  @OptVH (loadV 1 false t13_7 M3) ⟨fun t14_8 =>
  @OptVH (indexSlV 4 t14_8 v1 M3) ⟨fun t16_10 =>
  @OptVH (moveV 0 t16_10) ⟨fun t17_11 =>
  @OptVH (nilCheckV v0) ⟨fun t20_14 =>
  @OptVH (moveV 1 t20_14) ⟨fun t21_15 =>
  @OptVH (loadV 1 false t21_15 M3) ⟨fun t22_16 =>
  @CallH P i_inbox_heard_silent [t17_11, v2, t22_16] M3 ⟨fun t23_17 M17 => @OptBH (some t23_17) ⟨fun b23_17 =>
  Q .normal [(6, (.bool b23_17))] M17⟩⟩⟩⟩⟩⟩⟩⟩⟩⟩⟩
  ⟨Q .normal [(6, (.bool false))] M3⟩⟩⟩
theorem e20_3 (P : Program) (Q : Exit → Slots → Mem → Prop) (s : Slots) (M : Mem) : wpC P c20_3 Q s M = w20_3 P Q M (sget s 0) (sget s 1) (sget s 2) := by kernel_rfl
def c20_4 : ACode := (.seq c20_3 .ret)
def c20_5 : ACode := (.seq c20_1 c20_4)
def fn_inbox_Inbox_Failed : AFn := ⟨25, [(.tmp 6)], c20_5⟩
theorem fn_inbox_Inbox_Failed_ok : resFn PR h_inbox_Inbox_Failed i_inbox_Inbox_Failed = some fn_inbox_Inbox_Failed := by kernel_rfl

def h_transitlaw32_has : Hints := ⟨[(0, [0, 3]), (1, [3, 7, 8, 9]), (2, [3, 7, 8, 9, 10]), (3, [3, 6, 7, 8, 9]), (4, [3, 7, 8, 9, 15]), (5, [4]), (6, [3, 7, 8, 9]), (7, [4])], [(2, [3, 7, 8, 9])], []⟩
def o21_0 : List AOper := [⟨some 3, (.box 13 (.tmp 1)), false, none⟩,
  ⟨some 4, (.mov (.const (.bool false))), true, none⟩]
def c21_1 : ACode := (.region o21_0 [0, 3])
def w21_1 (_P : Program) (Q : Exit → Slots → Mem → Prop) (M : Mem) (v0 : V) (v1 : V) : Prop :=
  @OptMH (boxV 13 v1 M) ⟨fun t3_1 M1 =>
  Q .normal [(0, v0), (3, t3_1)] M1⟩
theorem e21_1 (P : Program) (Q : Exit → Slots → Mem → Prop) (s : Slots) (M : Mem) : wpC P c21_1 Q s M = w21_1 P Q M (sget s 0) (sget s 1) := by kernel_rfl
def o21_2 : List AOper := [⟨some 7, (.mov (.tmp 0)), false, none⟩,
  ⟨some 8, (.lenSl (.tmp 7)), false, none⟩,
  ⟨some 9, (.mov (.const (.int .i64 0))), false, none⟩]
def c21_3 : ACode := (.region o21_2 [3, 7, 8, 9])
def w21_3 (_P : Program) (Q : Exit → Slots → Mem → Prop) (M : Mem) (v0 : V) (v3 : V) : Prop :=
  @OptVH (lenV v0 M) ⟨fun t8_2 =>
  Q .normal [(3, v3), (7, v0), (8, t8_2), (9, (.int .i64 0))] M⟩
theorem e21_3 (P : Program) (Q : Exit → Slots → Mem → Prop) (s : Slots) (M : Mem) : wpC P c21_3 Q s M = w21_3 P Q M (sget s 0) (sget s 3) := by kernel_rfl
def o21_4 : List AOper := [⟨some 10, (.bin .lss .none (.tmp 9) (.tmp 8)), false, none⟩]
def c21_5 : ACode := (.region o21_4 [3, 7, 8, 9, 10])
def w21_5 (_P : Program) (Q : Exit → Slots → Mem → Prop) (M : Mem) (v3 : V) (v7 : V) (v8 : V) (v9 : V) : Prop :=
  @OptVH (binV .lss .none v9 v8) ⟨fun t10_1 =>
  Q .normal [(3, v3), (7, v7), (8, v8), (9, v9), (10, t10_1)] M⟩
theorem e21_5 (P : Program) (Q : Exit → Slots → Mem → Prop) (s : Slots) (M : Mem) : wpC P c21_5 Q s M = w21_5 P Q M (sget s 3) (sget s 7) (sget s 8) (sget s 9) := by kernel_rfl
def c21_6 : ACode := (.cond (.tmp 10) .skip (.exit 0))
def o21_7 : List AOper := [⟨some 11, (.indexSl 13 (.tmp 7) (.tmp 9)), false, none⟩,
  ⟨some 12, (.load 13 true (.tmp 11)), false, none⟩,
  ⟨some 6, (.alloc [(.int .i64 0), (.int .i64 0), (.int .i64 0), (.int .i64 0), (.int .i64 0), (.str []), (.int .i64 0), (.int .i64 0), (.int .i64 0), (.int .i64 0), (.int .i64 0), (.bool false), (.slice [] .nil)]), false, none⟩,
  ⟨none, (.store 13 (.tmp 6) (.tmp 12)), false, none⟩]
def c21_8 : ACode := (.region o21_7 [3, 6, 7, 8, 9])
def w21_8 (_P : Program) (Q : Exit → Slots → Mem → Prop) (M : Mem) (v3 : V) (v7 : V) (v8 : V) (v9 : V) : Prop :=
  @OptVH (indexSlV 13 v7 v9 M) ⟨fun t11_1 =>
  @OptVH (loadV 13 true t11_1 M) ⟨fun t12_2 =>
  @OptMH (allocV [(.int .i64 0), (.int .i64 0), (.int .i64 0), (.int .i64 0), (.int .i64 0), (.str []), (.int .i64 0), (.int .i64 0), (.int .i64 0), (.int .i64 0), (.int .i64 0), (.bool false), (.slice [] .nil)] M) ⟨fun t6_3 M3 =>
  @OptMH (storeVM 13 t6_3 t12_2 M3) ⟨fun _tx_4 M4 =>
  Q .normal [(3, v3), (6, t6_3), (7, v7), (8, v8), (9, v9)] M4⟩⟩⟩⟩
theorem e21_8 (P : Program) (Q : Exit → Slots → Mem → Prop) (s : Slots) (M : Mem) : wpC P c21_8 Q s M = w21_8 P Q M (sget s 3) (sget s 7) (sget s 8) (sget s 9) := by kernel_rfl
def o21_9 : List AOper := [⟨some 4, (.mov (.const (.bool true))), true, none⟩]
def c21_10 : ACode := (.region o21_9 [4])
def w21_10 (_P : Program) (Q : Exit → Slots → Mem → Prop) (M : Mem) : Prop :=
  Q .normal [(4, (.bool true))] M
theorem e21_10 (P : Program) (Q : Exit → Slots → Mem → Prop) (s : Slots) (M : Mem) : wpC P c21_10 Q s M = w21_10 P Q M := by kernel_rfl
def c21_11 : ACode := (.seq c21_10 .ret)
def o21_12 : List AOper := [⟨some 13, (.load 13 true (.tmp 6)), false, none⟩,
  ⟨some 14, (.load 13 true (.tmp 3)), false, none⟩,
  ⟨some 15, (.call i_transitref31_Equal [(.tmp 13), (.tmp 14)]), true, none⟩]
def c21_13 : ACode := (.seq (.region o21_12 [3, 7, 8, 9, 15]) (.cond (.tmp 15) c21_11 .skip))
def w21_13 (P : Program) (Q : Exit → Slots → Mem → Prop) (M : Mem) (v3 : V) (v6 : V) (v7 : V) (v8 : V) (v9 : V) : Prop :=
  @OptVH (loadV 13 true v6 M) ⟨fun t13_1 =>
  @OptVH (loadV 13 true v3 M) ⟨fun t14_2 =>
  @CallH P i_transitref31_Equal [t13_1, t14_2] M ⟨fun t15_3 M3 => @OptBH (some t15_3) ⟨fun b15_3 =>
  @BIfH b15_3
  ⟨wpC P c21_11 Q [(3, v3), (7, v7), (8, v8), (9, v9), (15, (.bool b15_3))] M3⟩
  ⟨Q .normal [(3, v3), (7, v7), (8, v8), (9, v9), (15, (.bool b15_3))] M3⟩⟩⟩⟩⟩
theorem e21_13 (P : Program) (Q : Exit → Slots → Mem → Prop) (s : Slots) (M : Mem) : wpC P c21_13 Q s M = w21_13 P Q M (sget s 3) (sget s 6) (sget s 7) (sget s 8) (sget s 9) := by kernel_rfl
def c21_14 : ACode := (.seq c21_8 c21_13)
def c21_15 : ACode := (.block 1 c21_14)
def o21_16 : List AOper := [⟨some 16, (.bin .add .none (.tmp 9) (.const (.int .i64 1))), false, none⟩,
  ⟨some 9, (.mov (.tmp 16)), false, none⟩]
def c21_17 : ACode := (.region o21_16 [3, 7, 8, 9])
def w21_17 (_P : Program) (Q : Exit → Slots → Mem → Prop) (M : Mem) (v3 : V) (v7 : V) (v8 : V) (v9 : V) : Prop :=
  @OptVH (binV .add .none v9 (.int .i64 1)) ⟨fun t16_1 =>
  Q .normal [(3, v3), (7, v7), (8, v8), (9, t16_1)] M⟩
theorem e21_17 (P : Program) (Q : Exit → Slots → Mem → Prop) (s : Slots) (M : Mem) : wpC P c21_17 Q s M = w21_17 P Q M (sget s 3) (sget s 7) (sget s 8) (sget s 9) := by kernel_rfl
def c21_18 : ACode := (.seq c21_15 c21_17)
def c21_19 : ACode := (.seq c21_6 c21_18)
def c21_20 : ACode := (.seq c21_5 c21_19)
def c21_21 : ACode := (.loop [3, 7, 8, 9] c21_20)
def c21_22 : ACode := (.block 0 c21_21)
def c21_23 : ACode := (.seq c21_3 c21_22)
def o21_24 : List AOper := [⟨some 4, (.mov (.const (.bool false))), true, none⟩]
def c21_25 : ACode := (.region o21_24 [4])
def w21_25 (_P : Program) (Q : Exit → Slots → Mem → Prop) (M : Mem) : Prop :=
  Q .normal [(4, (.bool false))] M
theorem e21_25 (P : Program) (Q : Exit → Slots → Mem → Prop) (s : Slots) (M : Mem) : wpC P c21_25 Q s M = w21_25 P Q M := by kernel_rfl
def c21_26 : ACode := (.seq c21_25 .ret)
def c21_27 : ACode := (.seq c21_23 c21_26)
def c21_28 : ACode := (.seq c21_1 c21_27)
def fn_transitlaw32_has : AFn := ⟨17, [(.tmp 4)], c21_28⟩
theorem fn_transitlaw32_has_ok : resFn PR h_transitlaw32_has i_transitlaw32_has = some fn_transitlaw32_has := by kernel_rfl

def h_transitref31_SameTarget : Hints := ⟨[(0, [2, 3]), (1, [4])], [], []⟩
def o22_0 : List AOper := [⟨some 2, (.box 13 (.tmp 0)), false, none⟩,
  ⟨some 3, (.box 13 (.tmp 1)), false, none⟩,
  ⟨some 4, (.mov (.const (.bool false))), true, none⟩]
def c22_1 : ACode := (.region o22_0 [2, 3])
def w22_1 (_P : Program) (Q : Exit → Slots → Mem → Prop) (M : Mem) (v0 : V) (v1 : V) : Prop :=
  @OptMH (boxV 13 v0 M) ⟨fun t2_1 M1 =>
  @OptMH (boxV 13 v1 M1) ⟨fun t3_2 M2 =>
  Q .normal [(2, t2_1), (3, t3_2)] M2⟩⟩
theorem e22_1 (P : Program) (Q : Exit → Slots → Mem → Prop) (s : Slots) (M : Mem) : wpC P c22_1 Q s M = w22_1 P Q M (sget s 0) (sget s 1) := by kernel_rfl
def o22_2 : List AOper := [⟨some 5, (.fieldAddr 5 (.tmp 2)), false, none⟩,
  ⟨some 6, (.load 1 false (.tmp 5)), false, none⟩,
  ⟨some 7, (.fieldAddr 5 (.tmp 3)), false, none⟩,
  ⟨some 8, (.load 1 false (.tmp 7)), false, none⟩,
  ⟨some 9, (.bin .eql .none (.tmp 6) (.tmp 8)), true, none⟩,
  ⟨some 10, (.mov (.tmp 9)), true, none⟩,
  ⟨some 11, (.fieldAddr 6 (.tmp 2)), false, some (10, true)⟩,
  ⟨some 12, (.load 1 false (.tmp 11)), false, some (10, true)⟩,
  ⟨some 13, (.fieldAddr 6 (.tmp 3)), false, some (10, true)⟩,
  ⟨some 14, (.load 1 false (.tmp 13)), false, some (10, true)⟩,
  ⟨some 15, (.bin .eql .none (.tmp 12) (.tmp 14)), true, some (10, true)⟩,
  ⟨some 16, (.pick (.tmp 10) (.tmp 15) (.const (.bool false))), true, none⟩,
  ⟨some 17, (.mov (.tmp 16)), true, none⟩,
  ⟨some 18, (.fieldAddr 7 (.tmp 2)), false, some (17, true)⟩,
  ⟨some 19, (.load 1 false (.tmp 18)), false, some (17, true)⟩,
  ⟨some 20, (.fieldAddr 7 (.tmp 3)), false, some (17, true)⟩,
  ⟨some 21, (.load 1 false (.tmp 20)), false, some (17, true)⟩,
  ⟨some 22, (.bin .eql .none (.tmp 19) (.tmp 21)), true, some (17, true)⟩,
  ⟨some 23, (.pick (.tmp 17) (.tmp 22) (.const (.bool false))), true, none⟩,
  ⟨some 4, (.mov (.tmp 23)), true, none⟩]
def c22_3 : ACode := (.region o22_2 [4])
def w22_3 (_P : Program) (Q : Exit → Slots → Mem → Prop) (M : Mem) (v2 : V) (v3 : V) : Prop :=
  @OptVH (moveV 5 v2) ⟨fun t5_1 =>
  @OptVH (loadV 1 false t5_1 M) ⟨fun t6_2 =>
  @OptVH (moveV 5 v3) ⟨fun t7_3 =>
  @OptVH (loadV 1 false t7_3 M) ⟨fun t8_4 =>
  @OptBH (binV .eql .none t6_2 t8_4) ⟨fun b9_5 =>
  @BIfH b9_5
  ⟨@OptVH (moveV 6 v2) ⟨fun t11_7 =>
  @OptVH (loadV 1 false t11_7 M) ⟨fun t12_8 =>
  @OptVH (moveV 6 v3) ⟨fun t13_9 =>
  @OptVH (loadV 1 false t13_9 M) ⟨fun t14_10 =>
  @OptBH (binV .eql .none t12_8 t14_10) ⟨fun b15_11 =>
  @BIfH b15_11
  ⟨@OptVH (moveV 7 v2) ⟨fun t18_14 =>
  @OptVH (loadV 1 false t18_14 M) ⟨fun t19_15 =>
  @OptVH (moveV 7 v3) ⟨fun t20_16 =>
  @OptVH (loadV 1 false t20_16 M) ⟨fun t21_17 =>
  @OptBH (binV .eql .none t19_15 t21_17) ⟨fun b22_18 =>
  Q .normal [(4, (.bool b22_18))] M⟩⟩⟩⟩⟩⟩
  ⟨Q .normal [(4, (.bool false))] M⟩⟩⟩⟩⟩⟩⟩
  ⟨Q .normal [(4, (.bool false))] M⟩⟩⟩⟩⟩⟩
theorem e22_3 (P : Program) (Q : Exit → Slots → Mem → Prop) (s : Slots) (M : Mem) : wpC P c22_3 Q s M = w22_3 P Q M (sget s 2) (sget s 3) := by kernel_rfl
def c22_4 : ACode := (.seq c22_3 .ret)
def c22_5 : ACode := (.seq c22_1 c22_4)
def fn_transitref31_SameTarget : AFn := ⟨24, [(.tmp 4)], c22_5⟩
theorem fn_transitref31_SameTarget_ok : resFn PR h_transitref31_SameTarget i_transitref31_SameTarget = some fn_transitref31_SameTarget := by kernel_rfl

def h_transitlaw32_lower : Hints := ⟨[(0, [0, 3]), (1, [3, 7, 8, 9]), (2, [3, 7, 8, 9, 10]), (3, [3, 6, 7, 8, 9]), (4, [3, 7, 8, 9, 22]), (5, [4]), (6, [3, 7, 8, 9]), (7, [4])], [(2, [3, 7, 8, 9])], []⟩
def o23_0 : List AOper := [⟨some 3, (.box 13 (.tmp 1)), false, none⟩,
  ⟨some 4, (.mov (.const (.bool false))), true, none⟩]
def c23_1 : ACode := (.region o23_0 [0, 3])
def w23_1 (_P : Program) (Q : Exit → Slots → Mem → Prop) (M : Mem) (v0 : V) (v1 : V) : Prop :=
  @OptMH (boxV 13 v1 M) ⟨fun t3_1 M1 =>
  Q .normal [(0, v0), (3, t3_1)] M1⟩
theorem e23_1 (P : Program) (Q : Exit → Slots → Mem → Prop) (s : Slots) (M : Mem) : wpC P c23_1 Q s M = w23_1 P Q M (sget s 0) (sget s 1) := by kernel_rfl
def o23_2 : List AOper := [⟨some 7, (.mov (.tmp 0)), false, none⟩,
  ⟨some 8, (.lenSl (.tmp 7)), false, none⟩,
  ⟨some 9, (.mov (.const (.int .i64 0))), false, none⟩]
def c23_3 : ACode := (.region o23_2 [3, 7, 8, 9])
def w23_3 (_P : Program) (Q : Exit → Slots → Mem → Prop) (M : Mem) (v0 : V) (v3 : V) : Prop :=
  @OptVH (lenV v0 M) ⟨fun t8_2 =>
  Q .normal [(3, v3), (7, v0), (8, t8_2), (9, (.int .i64 0))] M⟩
theorem e23_3 (P : Program) (Q : Exit → Slots → Mem → Prop) (s : Slots) (M : Mem) : wpC P c23_3 Q s M = w23_3 P Q M (sget s 0) (sget s 3) := by kernel_rfl
def o23_4 : List AOper := [⟨some 10, (.bin .lss .none (.tmp 9) (.tmp 8)), false, none⟩]
def c23_5 : ACode := (.region o23_4 [3, 7, 8, 9, 10])
def w23_5 (_P : Program) (Q : Exit → Slots → Mem → Prop) (M : Mem) (v3 : V) (v7 : V) (v8 : V) (v9 : V) : Prop :=
  @OptVH (binV .lss .none v9 v8) ⟨fun t10_1 =>
  Q .normal [(3, v3), (7, v7), (8, v8), (9, v9), (10, t10_1)] M⟩
theorem e23_5 (P : Program) (Q : Exit → Slots → Mem → Prop) (s : Slots) (M : Mem) : wpC P c23_5 Q s M = w23_5 P Q M (sget s 3) (sget s 7) (sget s 8) (sget s 9) := by kernel_rfl
def c23_6 : ACode := (.cond (.tmp 10) .skip (.exit 0))
def o23_7 : List AOper := [⟨some 11, (.indexSl 13 (.tmp 7) (.tmp 9)), false, none⟩,
  ⟨some 12, (.load 13 true (.tmp 11)), false, none⟩,
  ⟨some 6, (.alloc [(.int .i64 0), (.int .i64 0), (.int .i64 0), (.int .i64 0), (.int .i64 0), (.str []), (.int .i64 0), (.int .i64 0), (.int .i64 0), (.int .i64 0), (.int .i64 0), (.bool false), (.slice [] .nil)]), false, none⟩,
  ⟨none, (.store 13 (.tmp 6) (.tmp 12)), false, none⟩]
def c23_8 : ACode := (.region o23_7 [3, 6, 7, 8, 9])
def w23_8 (_P : Program) (Q : Exit → Slots → Mem → Prop) (M : Mem) (v3 : V) (v7 : V) (v8 : V) (v9 : V) : Prop :=
  @OptVH (indexSlV 13 v7 v9 M) ⟨fun t11_1 =>
  @OptVH (loadV 13 true t11_1 M) ⟨fun t12_2 =>
  @OptMH (allocV [(.int .i64 0), (.int .i64 0), (.int .i64 0), (.int .i64 0), (.int .i64 0), (.str []), (.int .i64 0), (.int .i64 0), (.int .i64 0), (.int .i64 0), (.int .i64 0), (.bool false), (.slice [] .nil)] M) ⟨fun t6_3 M3 =>
  @OptMH (storeVM 13 t6_3 t12_2 M3) ⟨fun _tx_4 M4 =>
  Q .normal [(3, v3), (6, t6_3), (7, v7), (8, v8), (9, v9)] M4⟩⟩⟩⟩
theorem e23_8 (P : Program) (Q : Exit → Slots → Mem → Prop) (s : Slots) (M : Mem) : wpC P c23_8 Q s M = w23_8 P Q M (sget s 3) (sget s 7) (sget s 8) (sget s 9) := by kernel_rfl
def o23_9 : List AOper := [⟨some 4, (.mov (.const (.bool true))), true, none⟩]
def c23_10 : ACode := (.region o23_9 [4])
def w23_10 (_P : Program) (Q : Exit → Slots → Mem → Prop) (M : Mem) : Prop :=
  Q .normal [(4, (.bool true))] M
theorem e23_10 (P : Program) (Q : Exit → Slots → Mem → Prop) (s : Slots) (M : Mem) : wpC P c23_10 Q s M = w23_10 P Q M := by kernel_rfl
def c23_11 : ACode := (.seq c23_10 .ret)
def o23_12 : List AOper := [⟨some 13, (.load 13 true (.tmp 6)), false, none⟩,
  ⟨some 14, (.load 13 true (.tmp 3)), false, none⟩,
  ⟨some 15, (.call i_transitref31_SameTarget [(.tmp 13), (.tmp 14)]), true, none⟩,
  ⟨some 16, (.mov (.tmp 15)), true, none⟩,
  ⟨some 17, (.fieldAddr 0 (.tmp 6)), false, some (16, true)⟩,
  ⟨some 18, (.load 1 false (.tmp 17)), false, some (16, true)⟩,
  ⟨some 19, (.fieldAddr 0 (.tmp 3)), false, some (16, true)⟩,
  ⟨some 20, (.load 1 false (.tmp 19)), false, some (16, true)⟩,
  ⟨some 21, (.bin .lss .none (.tmp 18) (.tmp 20)), true, some (16, true)⟩,
  ⟨some 22, (.pick (.tmp 16) (.tmp 21) (.const (.bool false))), true, none⟩]
def c23_13 : ACode := (.seq (.region o23_12 [3, 7, 8, 9, 22]) (.cond (.tmp 22) c23_11 .skip))
def w23_13 (P : Program) (Q : Exit → Slots → Mem → Prop) (M : Mem) (v3 : V) (v6 : V) (v7 : V) (v8 : V) (v9 : V) : Prop :=
  @OptVH (loadV 13 true v6 M) ⟨fun t13_1 =>
  @OptVH (loadV 13 true v3 M) ⟨fun t14_2 =>
  @CallH P i_transitref31_SameTarget [t13_1, t14_2] M ⟨fun t15_3 M3 => @OptBH (some t15_3) ⟨fun b15_3 =>
  @BIfH b15_3
  ⟨@OptVH (moveV 0 v6) ⟨fun t17_5 =>
  @OptVH (loadV 1 false t17_5 M3) ⟨fun t18_6 =>
  @OptVH (moveV 0 v3) ⟨fun t19_7 =>
  @OptVH (loadV 1 false t19_7 M3) ⟨fun t20_8 =>
  @OptBH (binV .lss .none t18_6 t20_8) ⟨fun b21_9 =>
  @BIfH b21_9
  ⟨wpC P c23_11 Q [(3, v3), (7, v7), (8, v8), (9, v9), (22, (.bool b21_9))] M3⟩
  ⟨Q .normal [(3, v3), (7, v7), (8, v8), (9, v9), (22, (.bool b21_9))] M3⟩⟩⟩⟩⟩⟩⟩
  ⟨Q .normal [(3, v3), (7, v7), (8, v8), (9, v9), (22, (.bool false))] M3⟩⟩⟩⟩⟩
theorem e23_13 (P : Program) (Q : Exit → Slots → Mem → Prop) (s : Slots) (M : Mem) : wpC P c23_13 Q s M = w23_13 P Q M (sget s 3) (sget s 6) (sget s 7) (sget s 8) (sget s 9) := by kernel_rfl
def c23_14 : ACode := (.seq c23_8 c23_13)
def c23_15 : ACode := (.block 1 c23_14)
def o23_16 : List AOper := [⟨some 23, (.bin .add .none (.tmp 9) (.const (.int .i64 1))), false, none⟩,
  ⟨some 9, (.mov (.tmp 23)), false, none⟩]
def c23_17 : ACode := (.region o23_16 [3, 7, 8, 9])
def w23_17 (_P : Program) (Q : Exit → Slots → Mem → Prop) (M : Mem) (v3 : V) (v7 : V) (v8 : V) (v9 : V) : Prop :=
  @OptVH (binV .add .none v9 (.int .i64 1)) ⟨fun t23_1 =>
  Q .normal [(3, v3), (7, v7), (8, v8), (9, t23_1)] M⟩
theorem e23_17 (P : Program) (Q : Exit → Slots → Mem → Prop) (s : Slots) (M : Mem) : wpC P c23_17 Q s M = w23_17 P Q M (sget s 3) (sget s 7) (sget s 8) (sget s 9) := by kernel_rfl
def c23_18 : ACode := (.seq c23_15 c23_17)
def c23_19 : ACode := (.seq c23_6 c23_18)
def c23_20 : ACode := (.seq c23_5 c23_19)
def c23_21 : ACode := (.loop [3, 7, 8, 9] c23_20)
def c23_22 : ACode := (.block 0 c23_21)
def c23_23 : ACode := (.seq c23_3 c23_22)
def o23_24 : List AOper := [⟨some 4, (.mov (.const (.bool false))), true, none⟩]
def c23_25 : ACode := (.region o23_24 [4])
def w23_25 (_P : Program) (Q : Exit → Slots → Mem → Prop) (M : Mem) : Prop :=
  Q .normal [(4, (.bool false))] M
theorem e23_25 (P : Program) (Q : Exit → Slots → Mem → Prop) (s : Slots) (M : Mem) : wpC P c23_25 Q s M = w23_25 P Q M := by kernel_rfl
def c23_26 : ACode := (.seq c23_25 .ret)
def c23_27 : ACode := (.seq c23_23 c23_26)
def c23_28 : ACode := (.seq c23_1 c23_27)
def fn_transitlaw32_lower : AFn := ⟨24, [(.tmp 4)], c23_28⟩
theorem fn_transitlaw32_lower_ok : resFn PR h_transitlaw32_lower i_transitlaw32_lower = some fn_transitlaw32_lower := by kernel_rfl

def h_transitref32_Receive : Hints := ⟨[(0, [2, 3, 4, 6]), (1, [2, 3, 4, 6, 13]), (2, [6, 7]), (3, [2, 3, 4, 6, 8]), (4, [2, 3, 4, 6, 8, 18]), (5, [6, 7]), (6, [2, 3, 4, 6, 26]), (7, [6, 7]), (8, [2, 3, 4, 6, 43]), (9, [6, 7]), (10, [2, 3, 4, 6, 9]), (11, [2, 3, 4, 6, 9, 10]), (12, [2, 3, 4, 6, 9, 10, 49]), (13, [2, 3, 4, 6, 9, 10]), (14, [2, 3, 4, 6, 9, 10, 69]), (15, [2, 3, 4, 6, 9, 10]), (16, [2, 3, 4, 6, 9, 80]), (17, [6, 7]), (18, [6, 7])], [(12, [2, 3, 4, 6, 9, 10])], [(10, [0])]⟩
def o24_0 : List AOper := [⟨some 3, (.box 3 (.tmp 0)), false, none⟩,
  ⟨some 4, (.box 13 (.tmp 1)), false, none⟩,
  ⟨some 6, (.alloc [(.int .i64 0), (.slice [] .nil), (.slice [] .nil)]), false, none⟩,
  ⟨some 7, (.mov (.const (.int .i64 0))), false, none⟩]
def c24_1 : ACode := (.region o24_0 [2, 3, 4, 6])
def w24_1 (_P : Program) (Q : Exit → Slots → Mem → Prop) (M : Mem) (v0 : V) (v1 : V) (v2 : V) : Prop :=
  @OptMH (boxV 3 v0 M) ⟨fun t3_1 M1 =>
  @OptMH (boxV 13 v1 M1) ⟨fun t4_2 M2 =>
  @OptMH (allocV [(.int .i64 0), (.slice [] .nil), (.slice [] .nil)] M2) ⟨fun t6_3 M3 =>
  Q .normal [(2, v2), (3, t3_1), (4, t4_2), (6, t6_3)] M3⟩⟩⟩
theorem e24_1 (P : Program) (Q : Exit → Slots → Mem → Prop) (s : Slots) (M : Mem) : wpC P c24_1 Q s M = w24_1 P Q M (sget s 0) (sget s 1) (sget s 2) := by kernel_rfl
def o24_2 : List AOper := [⟨some 14, (.load 3 true (.tmp 3)), false, none⟩,
  ⟨none, (.store 3 (.tmp 6) (.tmp 14)), false, none⟩,
  ⟨some 7, (.mov (.const (.int .i64 10))), false, none⟩]
def c24_3 : ACode := (.region o24_2 [6, 7])
def w24_3 (_P : Program) (Q : Exit → Slots → Mem → Prop) (M : Mem) (v3 : V) (v6 : V) : Prop :=
  @OptVH (loadV 3 true v3 M) ⟨fun t14_1 =>
  @OptMH (storeVM 3 v6 t14_1 M) ⟨fun _tx_2 M2 =>
  Q .normal [(6, v6), (7, (.int .i64 10))] M2⟩⟩
theorem e24_3 (P : Program) (Q : Exit → Slots → Mem → Prop) (s : Slots) (M : Mem) : wpC P c24_3 Q s M = w24_3 P Q M (sget s 3) (sget s 6) := by kernel_rfl
def c24_4 : ACode := (.seq c24_3 .ret)
def o24_5 : List AOper := [⟨some 11, (.mov (.tmp 2)), false, none⟩,
  ⟨some 12, (.call i_transitref32_moment [(.tmp 11)]), true, none⟩,
  ⟨some 13, (.un .not (.tmp 12)), true, none⟩]
def c24_6 : ACode := (.seq (.region o24_5 [2, 3, 4, 6, 13]) (.cond (.tmp 13) c24_4 .skip))
def w24_6 (P : Program) (Q : Exit → Slots → Mem → Prop) (M : Mem) (v2 : V) (v3 : V) (v4 : V) (v6 : V) : Prop :=
  @CallH P i_transitref32_moment [v2] M ⟨fun t12_2 M2 => @OptBH (some t12_2) ⟨fun b12_2 =>
  @OptBH (unV .not (.bool b12_2)) ⟨fun b13_3 =>
  @BIfH b13_3
  ⟨wpC P c24_4 Q [(2, v2), (3, v3), (4, v4), (6, v6), (13, (.bool b13_3))] M2⟩
  ⟨Q .normal [(2, v2), (3, v3), (4, v4), (6, v6), (13, (.bool b13_3))] M2⟩⟩⟩⟩
theorem e24_6 (P : Program) (Q : Exit → Slots → Mem → Prop) (s : Slots) (M : Mem) : wpC P c24_6 Q s M = w24_6 P Q M (sget s 2) (sget s 3) (sget s 4) (sget s 6) := by kernel_rfl
def o24_7 : List AOper := [⟨some 15, (.load 13 true (.tmp 4)), false, none⟩,
  ⟨some 16, (.call i_transitref31_Check [(.tmp 15)]), false, none⟩,
  ⟨some 8, (.mov (.tmp 16)), false, none⟩]
def c24_8 : ACode := (.region o24_7 [2, 3, 4, 6, 8])
def w24_8 (P : Program) (Q : Exit → Slots → Mem → Prop) (M : Mem) (v2 : V) (v3 : V) (v4 : V) (v6 : V) : Prop :=
  @OptVH (loadV 13 true v4 M) ⟨fun t15_1 =>
  @CallH P i_transitref31_Check [t15_1] M ⟨fun t16_2 M2 =>
  Q .normal [(2, v2), (3, v3), (4, v4), (6, v6), (8, t16_2)] M2⟩⟩
theorem e24_8 (P : Program) (Q : Exit → Slots → Mem → Prop) (s : Slots) (M : Mem) : wpC P c24_8 Q s M = w24_8 P Q M (sget s 2) (sget s 3) (sget s 4) (sget s 6) := by kernel_rfl
def o24_9 : List AOper := [⟨some 19, (.load 3 true (.tmp 3)), false, none⟩,
  ⟨some 20, (.mov (.tmp 8)), false, none⟩,
  ⟨none, (.store 3 (.tmp 6) (.tmp 19)), false, none⟩,
  ⟨some 7, (.mov (.tmp 20)), false, none⟩]
def c24_10 : ACode := (.region o24_9 [6, 7])
def w24_10 (_P : Program) (Q : Exit → Slots → Mem → Prop) (M : Mem) (v3 : V) (v6 : V) (v8 : V) : Prop :=
  @OptVH (loadV 3 true v3 M) ⟨fun t19_1 =>
  @OptMH (storeVM 3 v6 t19_1 M) ⟨fun _tx_3 M3 =>
  Q .normal [(6, v6), (7, v8)] M3⟩⟩
theorem e24_10 (P : Program) (Q : Exit → Slots → Mem → Prop) (s : Slots) (M : Mem) : wpC P c24_10 Q s M = w24_10 P Q M (sget s 3) (sget s 6) (sget s 8) := by kernel_rfl
def c24_11 : ACode := (.seq c24_10 .ret)
def o24_12 : List AOper := [⟨some 17, (.mov (.tmp 8)), false, none⟩,
  ⟨some 18, (.bin .neq .none (.tmp 17) (.const (.int .i64 0))), true, none⟩]
def c24_13 : ACode := (.seq (.region o24_12 [2, 3, 4, 6, 8, 18]) (.cond (.tmp 18) c24_11 .skip))
def w24_13 (P : Program) (Q : Exit → Slots → Mem → Prop) (M : Mem) (v2 : V) (v3 : V) (v4 : V) (v6 : V) (v8 : V) : Prop :=
  @OptBH (binV .neq .none v8 (.int .i64 0)) ⟨fun b18_2 =>
  @BIfH b18_2
  ⟨wpC P c24_11 Q [(2, v2), (3, v3), (4, v4), (6, v6), (8, v8), (18, (.bool b18_2))] M⟩
  ⟨Q .normal [(2, v2), (3, v3), (4, v4), (6, v6), (8, v8), (18, (.bool b18_2))] M⟩⟩
theorem e24_13 (P : Program) (Q : Exit → Slots → Mem → Prop) (s : Slots) (M : Mem) : wpC P c24_13 Q s M = w24_13 P Q M (sget s 2) (sget s 3) (sget s 4) (sget s 6) (sget s 8) := by kernel_rfl
def o24_14 : List AOper := [⟨some 27, (.load 3 true (.tmp 3)), false, none⟩,
  ⟨none, (.store 3 (.tmp 6) (.tmp 27)), false, none⟩,
  ⟨some 7, (.mov (.const (.int .i64 36))), false, none⟩]
def c24_15 : ACode := (.region o24_14 [6, 7])
def w24_15 (_P : Program) (Q : Exit → Slots → Mem → Prop) (M : Mem) (v3 : V) (v6 : V) : Prop :=
  @OptVH (loadV 3 true v3 M) ⟨fun t27_1 =>
  @OptMH (storeVM 3 v6 t27_1 M) ⟨fun _tx_2 M2 =>
  Q .normal [(6, v6), (7, (.int .i64 36))] M2⟩⟩
theorem e24_15 (P : Program) (Q : Exit → Slots → Mem → Prop) (s : Slots) (M : Mem) : wpC P c24_15 Q s M = w24_15 P Q M (sget s 3) (sget s 6) := by kernel_rfl
def c24_16 : ACode := (.seq c24_15 .ret)
def o24_17 : List AOper := [⟨some 21, (.fieldAddr 0 (.tmp 4)), false, none⟩,
  ⟨some 22, (.load 1 false (.tmp 21)), false, none⟩,
  ⟨some 23, (.fieldAddr 1 (.tmp 3)), false, none⟩,
  ⟨some 24, (.load 1 false (.tmp 23)), false, none⟩,
  ⟨some 25, (.lenSl (.tmp 24)), false, none⟩,
  ⟨some 26, (.bin .geq .none (.tmp 22) (.tmp 25)), true, none⟩]
def c24_18 : ACode := (.seq (.region o24_17 [2, 3, 4, 6, 26]) (.cond (.tmp 26) c24_16 .skip))
def w24_18 (P : Program) (Q : Exit → Slots → Mem → Prop) (M : Mem) (v2 : V) (v3 : V) (v4 : V) (v6 : V) : Prop :=
  @OptVH (moveV 0 v4) ⟨fun t21_1 =>
  @OptVH (loadV 1 false t21_1 M) ⟨fun t22_2 =>
  @OptVH (moveV 1 v3) ⟨fun t23_3 =>
  @OptVH (loadV 1 false t23_3 M) ⟨fun t24_4 =>
  @OptVH (lenV t24_4 M) ⟨fun t25_5 =>
  @OptBH (binV .geq .none t22_2 t25_5) ⟨fun b26_6 =>
  @BIfH b26_6
  ⟨wpC P c24_16 Q [(2, v2), (3, v3), (4, v4), (6, v6), (26, (.bool b26_6))] M⟩
  ⟨Q .normal [(2, v2), (3, v3), (4, v4), (6, v6), (26, (.bool b26_6))] M⟩⟩⟩⟩⟩⟩⟩
theorem e24_18 (P : Program) (Q : Exit → Slots → Mem → Prop) (s : Slots) (M : Mem) : wpC P c24_18 Q s M = w24_18 P Q M (sget s 2) (sget s 3) (sget s 4) (sget s 6) := by kernel_rfl
def o24_19 : List AOper := [⟨some 44, (.load 3 true (.tmp 3)), false, none⟩,
  ⟨none, (.store 3 (.tmp 6) (.tmp 44)), false, none⟩,
  ⟨some 7, (.mov (.const (.int .i64 37))), false, none⟩]
def c24_20 : ACode := (.region o24_19 [6, 7])
def w24_20 (_P : Program) (Q : Exit → Slots → Mem → Prop) (M : Mem) (v3 : V) (v6 : V) : Prop :=
  @OptVH (loadV 3 true v3 M) ⟨fun t44_1 =>
  @OptMH (storeVM 3 v6 t44_1 M) ⟨fun _tx_2 M2 =>
  Q .normal [(6, v6), (7, (.int .i64 37))] M2⟩⟩
theorem e24_20 (P : Program) (Q : Exit → Slots → Mem → Prop) (s : Slots) (M : Mem) : wpC P c24_20 Q s M = w24_20 P Q M (sget s 3) (sget s 6) := by kernel_rfl
def c24_21 : ACode := (.seq c24_20 .ret)
def o24_22 : List AOper := [⟨some 28, (.fieldAddr 1 (.tmp 4)), false, none⟩,
  ⟨some 29, (.load 1 false (.tmp 28)), false, none⟩,
  ⟨some 30, (.fieldAddr 1 (.tmp 3)), false, none⟩,
  ⟨some 31, (.load 1 false (.tmp 30)), false, none⟩,
  ⟨some 32, (.fieldAddr 0 (.tmp 4)), false, none⟩,
  ⟨some 33, (.load 1 false (.tmp 32)), false, none⟩,
  ⟨some 34, (.indexSl 2 (.tmp 31) (.tmp 33)), false, none⟩,
  ⟨some 35, (.fieldAddr 1 (.tmp 34)), false, none⟩,
  ⟨some 36, (.load 1 false (.tmp 35)), false, none⟩,
  ⟨some 37, (.bin .leq .none (.tmp 29) (.tmp 36)), true, none⟩,
  ⟨some 38, (.mov (.tmp 37)), true, none⟩,
  ⟨some 39, (.fieldAddr 3 (.tmp 4)), false, some (38, false)⟩,
  ⟨some 40, (.load 1 false (.tmp 39)), false, some (38, false)⟩,
  ⟨some 41, (.mov (.tmp 2)), false, some (38, false)⟩,
  ⟨some 42, (.bin .leq .none (.tmp 40) (.tmp 41)), true, some (38, false)⟩,
  ⟨some 43, (.pick (.tmp 38) (.const (.bool true)) (.tmp 42)), true, none⟩]
def c24_23 : ACode := (.seq (.mixed o24_22 [true, true, true, true, true, true, true, true, true, true, true, true, true, true, true, true] [2, 3, 4, 6, 43]) (.cond (.tmp 43) c24_21 .skip))
def w24_23 (P : Program) (Q : Exit → Slots → Mem → Prop) (M : Mem) (v2 : V) (v3 : V) (v4 : V) (v6 : V) : Prop :=
  @OptVH (moveV 1 v4) ⟨fun t28_1 =>
  @OptVH (loadV 1 false t28_1 M) ⟨fun t29_2 =>
  @OptVH (moveV 1 v3) ⟨fun t30_3 =>
  @OptVH (loadV 1 false t30_3 M) ⟨fun t31_4 =>
  @OptVH (moveV 0 v4) ⟨fun t32_5 =>
  @OptVH (loadV 1 false t32_5 M) ⟨fun t33_6 =>
  @OptVH (indexSlV 2 t31_4 t33_6 M) ⟨fun t34_7 =>
  @OptVH (moveV 1 t34_7) ⟨fun t35_8 =>
  @OptVH (loadV 1 false t35_8 M) ⟨fun t36_9 =>
  @OptBH (binV .leq .none t29_2 t36_9) ⟨fun b37_10 =>
  @BIfH b37_10
  ⟨wpC P c24_21 Q [(2, v2), (3, v3), (4, v4), (6, v6), (43, (.bool true))] M⟩
  ⟨@OptVH (moveV 3 v4) ⟨fun t39_13 =>
  @OptVH (loadV 1 false t39_13 M) ⟨fun t40_14 =>
  @OptBH (binV .leq .none t40_14 v2) ⟨fun b42_16 =>
  @BIfH b42_16
  ⟨wpC P c24_21 Q [(2, v2), (3, v3), (4, v4), (6, v6), (43, (.bool b42_16))] M⟩
  ⟨Q .normal [(2, v2), (3, v3), (4, v4), (6, v6), (43, (.bool b42_16))] M⟩⟩⟩⟩⟩⟩⟩⟩⟩⟩⟩⟩⟩⟩⟩
theorem e24_23 (P : Program) (Q : Exit → Slots → Mem → Prop) (s : Slots) (M : Mem) : wpC P c24_23 Q s M = w24_23 P Q M (sget s 2) (sget s 3) (sget s 4) (sget s 6) := by kernel_rfl
def o24_24 : List AOper := [⟨some 9, (.newarr 13), false, none⟩]
def c24_25 : ACode := (.region o24_24 [2, 3, 4, 6, 9])
def w24_25 (_P : Program) (Q : Exit → Slots → Mem → Prop) (M : Mem) (v2 : V) (v3 : V) (v4 : V) (v6 : V) : Prop :=
  @OptMH (newarrV 13 M) ⟨fun t9_1 M1 =>
  Q .normal [(2, v2), (3, v3), (4, v4), (6, v6), (9, t9_1)] M1⟩
theorem e24_25 (P : Program) (Q : Exit → Slots → Mem → Prop) (s : Slots) (M : Mem) : wpC P c24_25 Q s M = w24_25 P Q M (sget s 2) (sget s 3) (sget s 4) (sget s 6) := by kernel_rfl
def o24_26 : List AOper := [⟨some 10, (.mov (.const (.int .i64 0))), false, none⟩]
def c24_27 : ACode := (.region o24_26 [2, 3, 4, 6, 9, 10])
def w24_27 (_P : Program) (Q : Exit → Slots → Mem → Prop) (M : Mem) (v2 : V) (v3 : V) (v4 : V) (v6 : V) (v9 : V) : Prop :=
  Q .normal [(2, v2), (3, v3), (4, v4), (6, v6), (9, v9), (10, (.int .i64 0))] M
theorem e24_27 (P : Program) (Q : Exit → Slots → Mem → Prop) (s : Slots) (M : Mem) : wpC P c24_27 Q s M = w24_27 P Q M (sget s 2) (sget s 3) (sget s 4) (sget s 6) (sget s 9) := by kernel_rfl
def o24_28 : List AOper := [⟨some 45, (.mov (.tmp 10)), false, none⟩,
  ⟨some 46, (.fieldAddr 2 (.tmp 3)), false, none⟩,
  ⟨some 47, (.load 1 false (.tmp 46)), false, none⟩,
  ⟨some 48, (.lenSl (.tmp 47)), false, none⟩,
  ⟨some 49, (.bin .lss .none (.tmp 45) (.tmp 48)), true, none⟩]
def c24_29 : ACode := (.seq (.region o24_28 [2, 3, 4, 6, 9, 10, 49]) (.cond (.tmp 49) .skip (.exit 0)))
def w24_29 (_P : Program) (Q : Exit → Slots → Mem → Prop) (M : Mem) (v2 : V) (v3 : V) (v4 : V) (v6 : V) (v9 : V) (v10 : V) : Prop :=
  @OptVH (moveV 2 v3) ⟨fun t46_2 =>
  @OptVH (loadV 1 false t46_2 M) ⟨fun t47_3 =>
  @OptVH (lenV t47_3 M) ⟨fun t48_4 =>
  @OptBH (binV .lss .none v10 t48_4) ⟨fun b49_5 =>
  @BIfH b49_5
  ⟨Q .normal [(2, v2), (3, v3), (4, v4), (6, v6), (9, v9), (10, v10), (49, (.bool b49_5))] M⟩
  ⟨Q (.exit 0) [(2, v2), (3, v3), (4, v4), (6, v6), (9, v9), (10, v10), (49, (.bool b49_5))] M⟩⟩⟩⟩⟩
theorem e24_29 (P : Program) (Q : Exit → Slots → Mem → Prop) (s : Slots) (M : Mem) : wpC P c24_29 Q s M = w24_29 P Q M (sget s 2) (sget s 3) (sget s 4) (sget s 6) (sget s 9) (sget s 10) := by kernel_rfl
def o24_30 : List AOper := [⟨some 70, (.mov (.tmp 9)), false, none⟩,
  ⟨some 71, (.fieldAddr 2 (.tmp 3)), false, none⟩,
  ⟨some 72, (.load 1 false (.tmp 71)), false, none⟩,
  ⟨some 73, (.mov (.tmp 10)), false, none⟩,
  ⟨some 74, (.indexSl 13 (.tmp 72) (.tmp 73)), false, none⟩,
  ⟨some 75, (.load 13 true (.tmp 74)), false, none⟩,
  ⟨some 76, (.buildSlice [(.int .i64 0), (.int .i64 0), (.int .i64 0), (.int .i64 0), (.int .i64 0), (.str []), (.int .i64 0), (.int .i64 0), (.int .i64 0), (.int .i64 0), (.int .i64 0), (.bool false), (.slice [] .nil)] 13 1 [(0, (13, (.tmp 75)))]), false, none⟩,
  ⟨some 77, (.append false 13 128 (.tmp 70) (.tmp 76)), false, none⟩,
  ⟨some 9, (.mov (.tmp 77)), false, none⟩]
def c24_31 : ACode := (.region o24_30 [2, 3, 4, 6, 9, 10])
def w24_31 (_P : Program) (Q : Exit → Slots → Mem → Prop) (M : Mem) (v2 : V) (v3 : V) (v4 : V) (v6 : V) (v9 : V) (v10 : V) : Prop :=
  @OptVH (moveV 2 v3) ⟨fun t71_2 =>
  @OptVH (loadV 1 false t71_2 M) ⟨fun t72_3 =>
  @OptVH (indexSlV 13 t72_3 v10 M) ⟨fun t74_5 =>
  @OptVH (loadV 13 true t74_5 M) ⟨fun t75_6 =>
  @OptVH (buildSliceV [(.int .i64 0), (.int .i64 0), (.int .i64 0), (.int .i64 0), (.int .i64 0), (.str []), (.int .i64 0), (.int .i64 0), (.int .i64 0), (.int .i64 0), (.int .i64 0), (.bool false), (.slice [] .nil)] 13 1 [(0, 13, t75_6)]) ⟨fun t76_7 =>
  @OptMH (appV false 13 128 v9 t76_7 M) ⟨fun t77_8 M8 =>
  Q .normal [(2, v2), (3, v3), (4, v4), (6, v6), (9, t77_8), (10, v10)] M8⟩⟩⟩⟩⟩⟩
theorem e24_31 (P : Program) (Q : Exit → Slots → Mem → Prop) (s : Slots) (M : Mem) : wpC P c24_31 Q s M = w24_31 P Q M (sget s 2) (sget s 3) (sget s 4) (sget s 6) (sget s 9) (sget s 10) := by kernel_rfl
def o24_32 : List AOper := [⟨some 52, (.load 13 true (.tmp 4)), false, none⟩,
  ⟨some 53, (.fieldAddr 2 (.tmp 3)), false, none⟩,
  ⟨some 54, (.load 1 false (.tmp 53)), false, none⟩,
  ⟨some 55, (.mov (.tmp 10)), false, none⟩,
  ⟨some 56, (.indexSl 13 (.tmp 54) (.tmp 55)), false, none⟩,
  ⟨some 57, (.load 13 true (.tmp 56)), false, none⟩,
  ⟨some 58, (.call i_transitref31_Supersedes [(.tmp 52), (.tmp 57)]), true, none⟩,
  ⟨some 59, (.un .not (.tmp 58)), true, none⟩,
  ⟨some 60, (.mov (.tmp 59)), true, none⟩,
  ⟨some 61, (.fieldAddr 2 (.tmp 3)), false, some (60, true)⟩,
  ⟨some 62, (.load 1 false (.tmp 61)), false, some (60, true)⟩,
  ⟨some 63, (.mov (.tmp 10)), false, some (60, true)⟩,
  ⟨some 64, (.indexSl 13 (.tmp 62) (.tmp 63)), false, some (60, true)⟩,
  ⟨some 65, (.fieldAddr 3 (.tmp 64)), false, some (60, true)⟩,
  ⟨some 66, (.load 1 false (.tmp 65)), false, some (60, true)⟩,
  ⟨some 67, (.mov (.tmp 2)), false, some (60, true)⟩,
  ⟨some 68, (.bin .gtr .none (.tmp 66) (.tmp 67)), true, some (60, true)⟩,
  ⟨some 69, (.pick (.tmp 60) (.tmp 68) (.const (.bool false))), true, none⟩]
def c24_33 : ACode := (.seq (.mixed o24_32 [true, true, true, true, true, true, false, true, true, true, true, true, true, true, true, true, true, true] [2, 3, 4, 6, 9, 10, 69]) (.cond (.tmp 69) c24_31 .skip))
def w24_33 (P : Program) (Q : Exit → Slots → Mem → Prop) (M : Mem) (v2 : V) (v3 : V) (v4 : V) (v6 : V) (v9 : V) (v10 : V) : Prop :=
  @OptVH (loadV 13 true v4 M) ⟨fun t52_1 =>
  @OptVH (moveV 2 v3) ⟨fun t53_2 =>
  @OptVH (loadV 1 false t53_2 M) ⟨fun t54_3 =>
  @OptVH (indexSlV 13 t54_3 v10 M) ⟨fun t56_5 =>
  @OptVH (loadV 13 true t56_5 M) ⟨fun t57_6 =>
  @CallH P i_transitref31_Supersedes [t52_1, t57_6] M ⟨fun t58_7 M7 => @OptBH (some t58_7) ⟨fun b58_7 =>
  @OptBH (unV .not (.bool b58_7)) ⟨fun b59_8 =>
  @BIfH b59_8
  ⟨@OptVH (moveV 2 v3) ⟨fun t61_10 =>
  @OptVH (loadV 1 false t61_10 M7) ⟨fun t62_11 =>
  @OptVH (indexSlV 13 t62_11 v10 M7) ⟨fun t64_13 =>
  @OptVH (moveV 3 t64_13) ⟨fun t65_14 =>
  @OptVH (loadV 1 false t65_14 M7) ⟨fun t66_15 =>
  @OptBH (binV .gtr .none t66_15 v2) ⟨fun b68_17 =>
  @BIfH b68_17
  ⟨wpC P c24_31 Q [(2, v2), (3, v3), (4, v4), (6, v6), (9, v9), (10, v10), (69, (.bool b68_17))] M7⟩
  ⟨Q .normal [(2, v2), (3, v3), (4, v4), (6, v6), (9, v9), (10, v10), (69, (.bool b68_17))] M7⟩⟩⟩⟩⟩⟩⟩⟩
  ⟨Q .normal [(2, v2), (3, v3), (4, v4), (6, v6), (9, v9), (10, v10), (69, (.bool false))] M7⟩⟩⟩⟩⟩⟩⟩⟩⟩
theorem e24_33 (P : Program) (Q : Exit → Slots → Mem → Prop) (s : Slots) (M : Mem) : wpC P c24_33 Q s M = w24_33 P Q M (sget s 2) (sget s 3) (sget s 4) (sget s 6) (sget s 9) (sget s 10) := by kernel_rfl
def c24_34 : ACode := (.block 1 c24_33)
def o24_35 : List AOper := [⟨some 50, (.mov (.tmp 10)), false, none⟩,
  ⟨some 51, (.bin .add .none (.tmp 50) (.const (.int .i64 1))), false, none⟩,
  ⟨some 10, (.mov (.tmp 51)), false, none⟩]
def c24_36 : ACode := (.region o24_35 [2, 3, 4, 6, 9, 10])
def w24_36 (_P : Program) (Q : Exit → Slots → Mem → Prop) (M : Mem) (v2 : V) (v3 : V) (v4 : V) (v6 : V) (v9 : V) (v10 : V) : Prop :=
  @OptVH (binV .add .none v10 (.int .i64 1)) ⟨fun t51_2 =>
  Q .normal [(2, v2), (3, v3), (4, v4), (6, v6), (9, v9), (10, t51_2)] M⟩
theorem e24_36 (P : Program) (Q : Exit → Slots → Mem → Prop) (s : Slots) (M : Mem) : wpC P c24_36 Q s M = w24_36 P Q M (sget s 2) (sget s 3) (sget s 4) (sget s 6) (sget s 9) (sget s 10) := by kernel_rfl
def c24_37 : ACode := (.seq c24_34 c24_36)
def c24_38 : ACode := (.seq c24_29 c24_37)
def c24_39 : ACode := (.loop [2, 3, 4, 6, 9, 10] c24_38)
def c24_40 : ACode := (.block 0 c24_39)
def c24_41 : ACode := (.seq c24_27 c24_40)
def o24_42 : List AOper := [⟨some 81, (.load 3 true (.tmp 3)), false, none⟩,
  ⟨none, (.store 3 (.tmp 6) (.tmp 81)), false, none⟩,
  ⟨some 7, (.mov (.const (.int .i64 5))), false, none⟩]
def c24_43 : ACode := (.region o24_42 [6, 7])
def w24_43 (_P : Program) (Q : Exit → Slots → Mem → Prop) (M : Mem) (v3 : V) (v6 : V) : Prop :=
  @OptVH (loadV 3 true v3 M) ⟨fun t81_1 =>
  @OptMH (storeVM 3 v6 t81_1 M) ⟨fun _tx_2 M2 =>
  Q .normal [(6, v6), (7, (.int .i64 5))] M2⟩⟩
theorem e24_43 (P : Program) (Q : Exit → Slots → Mem → Prop) (s : Slots) (M : Mem) : wpC P c24_43 Q s M = w24_43 P Q M (sget s 3) (sget s 6) := by kernel_rfl
def c24_44 : ACode := (.seq c24_43 .ret)
def o24_45 : List AOper := [⟨some 78, (.mov (.tmp 9)), false, none⟩,
  ⟨some 79, (.lenSl (.tmp 78)), false, none⟩,
  ⟨some 80, (.bin .geq .none (.tmp 79) (.const (.int .i64 256))), true, none⟩]
def c24_46 : ACode := (.seq (.region o24_45 [2, 3, 4, 6, 9, 80]) (.cond (.tmp 80) c24_44 .skip))
def w24_46 (P : Program) (Q : Exit → Slots → Mem → Prop) (M : Mem) (v2 : V) (v3 : V) (v4 : V) (v6 : V) (v9 : V) : Prop :=
  @OptVH (lenV v9 M) ⟨fun t79_2 =>
  @OptBH (binV .geq .none t79_2 (.int .i64 256)) ⟨fun b80_3 =>
  @BIfH b80_3
  ⟨wpC P c24_44 Q [(2, v2), (3, v3), (4, v4), (6, v6), (9, v9), (80, (.bool b80_3))] M⟩
  ⟨Q .normal [(2, v2), (3, v3), (4, v4), (6, v6), (9, v9), (80, (.bool b80_3))] M⟩⟩⟩
theorem e24_46 (P : Program) (Q : Exit → Slots → Mem → Prop) (s : Slots) (M : Mem) : wpC P c24_46 Q s M = w24_46 P Q M (sget s 2) (sget s 3) (sget s 4) (sget s 6) (sget s 9) := by kernel_rfl
def o24_47 : List AOper := [⟨some 82, (.fieldAddr 0 (.tmp 3)), false, none⟩,
  ⟨some 83, (.load 1 false (.tmp 82)), false, none⟩,
  ⟨some 84, (.fieldAddr 1 (.tmp 3)), false, none⟩,
  ⟨some 85, (.load 1 false (.tmp 84)), false, none⟩,
  ⟨some 86, (.fieldAddr 0 (.tmp 4)), false, none⟩,
  ⟨some 87, (.load 1 false (.tmp 86)), false, none⟩,
  ⟨some 88, (.mov (.tmp 2)), false, none⟩,
  ⟨some 89, (.fieldAddr 1 (.tmp 4)), false, none⟩,
  ⟨some 90, (.load 1 false (.tmp 89)), false, none⟩,
  ⟨some 92, (.mov (.tmp 9)), false, none⟩,
  ⟨some 93, (.load 13 true (.tmp 4)), false, none⟩,
  ⟨some 94, (.buildSlice [(.int .i64 0), (.int .i64 0), (.int .i64 0), (.int .i64 0), (.int .i64 0), (.str []), (.int .i64 0), (.int .i64 0), (.int .i64 0), (.int .i64 0), (.int .i64 0), (.bool false), (.slice [] .nil)] 13 1 [(0, (13, (.tmp 93)))]), false, none⟩,
  ⟨some 91, (.call i_transitref32_heard [(.tmp 85), (.tmp 87), (.tmp 88), (.tmp 90)]), false, none⟩,
  ⟨some 95, (.append false 13 128 (.tmp 92) (.tmp 94)), false, none⟩,
  ⟨some 96, (.build [(.int .i64 0), (.slice [] .nil), (.slice [] .nil)] [(0, (1, (.tmp 83))), (1, (1, (.tmp 91))), (2, (1, (.tmp 95)))]), false, none⟩,
  ⟨none, (.store 3 (.tmp 6) (.tmp 96)), false, none⟩,
  ⟨some 7, (.mov (.const (.int .i64 0))), false, none⟩]
def c24_48 : ACode := (.float o24_47 [none, none, none, none, none, none, none, none, none, none, none, none, (some [0, 1, 9, 10, 11]), (some [0, 1]), none, (some []), none] [6, 7])
def w24_48 (P : Program) (Q : Exit → Slots → Mem → Prop) (M : Mem) (v2 : V) (v3 : V) (v4 : V) (v6 : V) (v9 : V) : Prop :=
  @OptVH (moveV 0 v3) ⟨fun t82_1 =>
  @OptVH (loadV 1 false t82_1 M) ⟨fun t83_2 =>
  @OptVH (moveV 1 v3) ⟨fun t84_3 =>
  @OptVH (loadV 1 false t84_3 M) ⟨fun t85_4 =>
  @OptVH (moveV 0 v4) ⟨fun t86_5 =>
  @OptVH (loadV 1 false t86_5 M) ⟨fun t87_6 =>
  @OptVH (moveV 1 v4) ⟨fun t89_8 =>
  @OptVH (loadV 1 false t89_8 M) ⟨fun t90_9 =>
  @OptVH (loadV 13 true v4 M) ⟨fun t93_11 =>
  @OptVH (buildSliceV [(.int .i64 0), (.int .i64 0), (.int .i64 0), (.int .i64 0), (.int .i64 0), (.str []), (.int .i64 0), (.int .i64 0), (.int .i64 0), (.int .i64 0), (.int .i64 0), (.bool false), (.slice [] .nil)] 13 1 [(0, 13, t93_11)]) ⟨fun t94_12 =>
  @CallH P i_transitref32_heard [t85_4, t87_6, v2, t90_9] M ⟨fun t91_13 M13 =>
  (moveV 0 v3 = some t82_1 ∧ loadV 1 false t82_1 M13 = some t83_2 ∧ some v9 = some v9 ∧ loadV 13 true v4 M13 = some t93_11 ∧ buildSliceV [(.int .i64 0), (.int .i64 0), (.int .i64 0), (.int .i64 0), (.int .i64 0), (.str []), (.int .i64 0), (.int .i64 0), (.int .i64 0), (.int .i64 0), (.int .i64 0), (.bool false), (.slice [] .nil)] 13 1 [(0, 13, t93_11)] = some t94_12 ∧ True) ∧ (@OptMH (appV false 13 128 v9 t94_12 M13) ⟨fun t95_14 M14 =>
  (moveV 0 v3 = some t82_1 ∧ loadV 1 false t82_1 M14 = some t83_2 ∧ True) ∧ (@OptVH (buildV [(.int .i64 0), (.slice [] .nil), (.slice [] .nil)] [(0, 1, t83_2), (1, 1, t91_13), (2, 1, t95_14)]) ⟨fun t96_15 =>
  @OptMH (storeVM 3 v6 t96_15 M14) ⟨fun _tx_16 M16 =>
  (True) ∧ (Q .normal [(6, v6), (7, (.int .i64 0))] M16)⟩⟩)⟩)⟩⟩⟩⟩⟩⟩⟩⟩⟩⟩⟩
theorem e24_48 (P : Program) (Q : Exit → Slots → Mem → Prop) (s : Slots) (M : Mem) : wpC P c24_48 Q s M = w24_48 P Q M (sget s 2) (sget s 3) (sget s 4) (sget s 6) (sget s 9) := by kernel_rfl
def c24_49 : ACode := (.seq c24_48 .ret)
def c24_50 : ACode := (.seq c24_46 c24_49)
def c24_51 : ACode := (.seq c24_41 c24_50)
def c24_52 : ACode := (.seq c24_25 c24_51)
def c24_53 : ACode := (.seq c24_23 c24_52)
def c24_54 : ACode := (.seq c24_18 c24_53)
def c24_55 : ACode := (.seq c24_13 c24_54)
def c24_56 : ACode := (.seq c24_8 c24_55)
def c24_57 : ACode := (.seq c24_6 c24_56)
def c24_58 : ACode := (.seq c24_1 c24_57)
def fn_transitref32_Receive : AFn := ⟨97, [(.cell 6 3 true), (.tmp 7)], c24_58⟩
theorem fn_transitref32_Receive_ok : resFn PR h_transitref32_Receive i_transitref32_Receive = some fn_transitref32_Receive := by kernel_rfl

end Go.Vm.C
