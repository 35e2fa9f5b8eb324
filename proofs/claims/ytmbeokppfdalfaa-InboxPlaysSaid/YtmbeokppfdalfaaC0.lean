/- The abstract code of the functions that the statements reach, printed by a program, each with the equation that it is what the loaded program says. Part 0. -/
import Derived.Test.YtmbeokppfdalfaaProg
import Derived.Test.YtmbeokppfdalfaaVm2
import Derived.KernelRfl
namespace Go.Vm.C
open Go.Vm

abbrev i_main_main : Nat := 0
abbrev i_gosem_cut : Nat := 1
abbrev i_gosem_cut_init : Nat := 2
abbrev i_transitlaw32_InboxNews : Nat := 3
abbrev i_transitlaw32_InboxCommutes : Nat := 4
abbrev i_transitlaw32_InboxActive : Nat := 5
abbrev i_transitlaw32_InboxPlays : Nat := 6
abbrev i_transitlaw32_InboxSupersedes : Nat := 7
abbrev i_transitlaw32_InboxClones : Nat := 8
abbrev i_transitlaw32_InboxNil : Nat := 9
abbrev i_inbox_New : Nat := 10
abbrev i_transitref32_New : Nat := 11
abbrev i_transitlaw32_exampleHolds : Nat := 12
abbrev i_transitlaw32_played : Nat := 13
abbrev i_transitlaw32_shorts : Nat := 14
abbrev i_transitlaw32_small : Nat := 15
abbrev i_inbox_Inbox_Receive : Nat := 16
abbrev i_transitref32_Same : Nat := 17
abbrev i_inbox_Inbox_Active : Nat := 18
abbrev i_inbox_Inbox_Messages : Nat := 19
abbrev i_inbox_Inbox_Failed : Nat := 20
abbrev i_transitlaw32_has : Nat := 21
abbrev i_transitref31_SameTarget : Nat := 22
abbrev i_transitlaw32_lower : Nat := 23
abbrev i_transitref32_Receive : Nat := 24
abbrev i_inbox_Inbox_Heartbeat : Nat := 25
abbrev i_transitref32_Heartbeat : Nat := 26
abbrev i_transitlaw32_same : Nat := 27
abbrev i_inbox_Inbox_Sequence : Nat := 28
abbrev i_transitref31_Supersedes : Nat := 29
abbrev i_inbox_Inbox_Clone : Nat := 30
abbrev i_transitlaw32_message : Nat := 31
abbrev i_inbox_Inbox_refusal : Nat := 32
abbrev i_inbox_filtered : Nat := 33
abbrev i_inbox_Inbox_Receive_1 : Nat := 34
abbrev i_message_Supersedes : Nat := 35
abbrev i_inbox_owned : Nat := 36
abbrev i_inbox_heard_hear : Nat := 37
abbrev i_transitref31_Equal : Nat := 38
abbrev i_inbox_Inbox_Active_1 : Nat := 39
abbrev i_message_SameTarget : Nat := 40
abbrev i_inbox_inserted_api_Message : Nat := 41
abbrev i_inbox_before : Nat := 42
abbrev i_inbox_Inbox_Messages_1 : Nat := 43
abbrev i_inbox_Inbox_exists : Nat := 44
abbrev i_inbox_heard_silent : Nat := 45
abbrev i_transitref32_moment : Nat := 46
abbrev i_transitref31_Check : Nat := 47
abbrev i_transitref32_heard : Nat := 48
abbrev i_transitref32_Sequence : Nat := 49
abbrev i_transitref32_Failed : Nat := 50
abbrev i_transitref32_Active : Nat := 51
abbrev i_transitref31_Status : Nat := 52
abbrev i_message_Check : Nat := 53
abbrev i_message_status : Nat := 54
abbrev i_transitref16_Equal : Nat := 55
abbrev i_transitref15_Name : Nat := 56
abbrev i_transitref16_Check : Nat := 57
abbrev i_transitref32_active : Nat := 58
abbrev i_transitref32_before : Nat := 59
abbrev i_message_within : Nat := 60
abbrev i_ident_Valid : Nat := 61
abbrev i_date_Valid : Nat := 62
abbrev i_message_checkKind : Nat := 63
abbrev i_message_used : Nat := 64
abbrev i_transitref32_Current : Nat := 65
abbrev i_call_Check : Nat := 66
abbrev i_call_one : Nat := 67
abbrev i_runtime_boundsError_Error : Nat := 68
abbrev i_runtime_boundsError_RuntimeError : Nat := 69
abbrev i_runtime_errorString_Error : Nat := 70
abbrev i_runtime_errorString_RuntimeError : Nat := 71
abbrev i_runtime_plainError_Error : Nat := 72
abbrev i_runtime_plainError_RuntimeError : Nat := 73
abbrev i_runtime_errorAddressString_Error : Nat := 74
abbrev i_runtime_errorAddressString_RuntimeError : Nat := 75
abbrev i_runtime_TypeAssertionError_Error : Nat := 76
abbrev i_runtime_TypeAssertionError_RuntimeError : Nat := 77
abbrev i_runtime_PanicNilError_Error : Nat := 78
abbrev i_runtime_PanicNilError_RuntimeError : Nat := 79
abbrev i_internal_abi_Type_Align : Nat := 80
abbrev i_internal_runtime_maps_unhashableTypeError_Error : Nat := 81
abbrev i_internal_runtime_maps_unhashableTypeError_RuntimeError : Nat := 82
abbrev i_internal_abi_Kind_String : Nat := 83
noncomputable abbrev PR : Program := Go.Proofs.Try.prog

def h_transitlaw32_InboxPlays : Hints := ⟨[(0, [0, 1, 2]), (1, [0, 1, 2, 7]), (2, [2, 7, 9, 10]), (3, [2, 7, 9, 37]), (4, [6]), (5, [7, 9, 39, 40, 41]), (6, [7, 9, 39, 40, 41, 42]), (7, [7, 9, 12, 39, 40, 41]), (8, [7, 9, 12, 39, 40, 41, 48]), (9, [6]), (10, [7, 9, 12, 13, 14, 39, 40, 41]), (11, [7, 9, 12, 13, 14, 39, 40, 41, 52]), (12, [7, 9, 12, 13, 39, 40, 41]), (13, [7, 9, 12, 13, 14, 39, 40, 41]), (14, [7, 9, 12, 13, 14, 39, 40, 41, 70]), (15, [7, 9, 12, 13, 39, 40, 41]), (16, [7, 9, 12, 13, 14, 39, 40, 41]), (17, [7, 9, 39, 40, 41, 98]), (18, [6]), (19, [7, 9, 39, 40, 41]), (20, [6])], [(6, [7, 9, 39, 40, 41])], []⟩
def o6_0 : List AOper := [⟨some 6, (.mov (.const (.bool false))), true, none⟩]
def c6_1 : ACode := (.region o6_0 [0, 1, 2])
def w6_1 (_P : Program) (Q : Exit → Slots → Mem → Prop) (M : Mem) (v0 : V) (v1 : V) (v2 : V) : Prop :=
  Q .normal [(0, v0), (1, v1), (2, v2)] M
theorem e6_1 (P : Program) (Q : Exit → Slots → Mem → Prop) (s : Slots) (M : Mem) : wpC P c6_1 Q s M = w6_1 P Q M (sget s 0) (sget s 1) (sget s 2) := by kernel_rfl
def o6_2 : List AOper := [⟨some 16, (.mov (.tmp 0)), false, none⟩,
  ⟨some 17, (.mov (.tmp 1)), false, none⟩,
  ⟨some 18, (.call i_inbox_New [(.tmp 16), (.tmp 17)]), false, none⟩,
  ⟨some 15, (.mov (.tmp 18)), false, none⟩,
  ⟨some 19, (.extract (.tmp 15) 0), false, none⟩,
  ⟨some 20, (.extract (.tmp 15) 1), false, none⟩,
  ⟨some 7, (.mov (.tmp 19)), false, none⟩,
  ⟨some 8, (.mov (.tmp 20)), false, none⟩]
def c6_3 : ACode := (.region o6_2 [0, 1, 2, 7])
def w6_3 (P : Program) (Q : Exit → Slots → Mem → Prop) (M : Mem) (v0 : V) (v1 : V) (v2 : V) : Prop :=
  @CallH P i_inbox_New [v0, v1] M ⟨fun t18_3 M3 =>
  @OptVH (extractV t18_3 0) ⟨fun t19_5 =>
  @OptVH (extractV t18_3 1) ⟨fun _t20_6 =>
  Q .normal [(0, v0), (1, v1), (2, v2), (7, t19_5)] M3⟩⟩⟩
theorem e6_3 (P : Program) (Q : Exit → Slots → Mem → Prop) (s : Slots) (M : Mem) : wpC P c6_3 Q s M = w6_3 P Q M (sget s 0) (sget s 1) (sget s 2) := by kernel_rfl
def o6_4 : List AOper := [⟨some 22, (.mov (.tmp 0)), false, none⟩,
  ⟨some 23, (.mov (.tmp 1)), false, none⟩,
  ⟨some 24, (.call i_transitref32_New [(.tmp 22), (.tmp 23)]), false, none⟩,
  ⟨some 21, (.mov (.tmp 24)), false, none⟩,
  ⟨some 25, (.extract (.tmp 21) 0), false, none⟩,
  ⟨some 26, (.extract (.tmp 21) 1), false, none⟩,
  ⟨some 9, (.alloc [(.int .i64 0), (.slice [] .nil), (.slice [] .nil)]), false, none⟩,
  ⟨none, (.store 3 (.tmp 9) (.tmp 25)), false, none⟩,
  ⟨some 10, (.mov (.tmp 26)), false, none⟩]
def c6_5 : ACode := (.region o6_4 [2, 7, 9, 10])
def w6_5 (P : Program) (Q : Exit → Slots → Mem → Prop) (M : Mem) (v0 : V) (v1 : V) (v2 : V) (v7 : V) : Prop :=
  @CallH P i_transitref32_New [v0, v1] M ⟨fun t24_3 M3 =>
  @OptVH (extractV t24_3 0) ⟨fun t25_5 =>
  @OptVH (extractV t24_3 1) ⟨fun t26_6 =>
  @OptMH (allocV [(.int .i64 0), (.slice [] .nil), (.slice [] .nil)] M3) ⟨fun t9_7 M7 =>
  @OptMH (storeVM 3 t9_7 t25_5 M7) ⟨fun _tx_8 M8 =>
  Q .normal [(2, v2), (7, v7), (9, t9_7), (10, t26_6)] M8⟩⟩⟩⟩⟩
theorem e6_5 (P : Program) (Q : Exit → Slots → Mem → Prop) (s : Slots) (M : Mem) : wpC P c6_5 Q s M = w6_5 P Q M (sget s 0) (sget s 1) (sget s 2) (sget s 7) := by kernel_rfl
def o6_6 : List AOper := [⟨some 38, (.call i_transitlaw32_exampleHolds []), true, none⟩,
  ⟨some 6, (.mov (.tmp 38)), true, none⟩]
def c6_7 : ACode := (.region o6_6 [6])
def w6_7 (P : Program) (Q : Exit → Slots → Mem → Prop) (M : Mem) : Prop :=
  @CallH P i_transitlaw32_exampleHolds [] M ⟨fun t38_1 M1 => @OptBH (some t38_1) ⟨fun b38_1 =>
  Q .normal [(6, (.bool b38_1))] M1⟩⟩
theorem e6_7 (P : Program) (Q : Exit → Slots → Mem → Prop) (s : Slots) (M : Mem) : wpC P c6_7 Q s M = w6_7 P Q M := by kernel_rfl
def c6_8 : ACode := (.seq c6_7 .ret)
def o6_9 : List AOper := [⟨some 27, (.mov (.tmp 10)), false, none⟩,
  ⟨some 28, (.bin .neq .none (.tmp 27) (.const (.int .i64 0))), true, none⟩,
  ⟨some 29, (.mov (.tmp 28)), true, none⟩,
  ⟨some 30, (.mov (.tmp 7)), false, some (29, false)⟩,
  ⟨some 31, (.bin .eql .ptr (.tmp 30) (.const .nilp)), true, some (29, false)⟩,
  ⟨some 32, (.pick (.tmp 29) (.const (.bool true)) (.tmp 31)), true, none⟩,
  ⟨some 33, (.mov (.tmp 32)), true, none⟩,
  ⟨some 34, (.mov (.tmp 2)), false, some (33, false)⟩,
  ⟨some 35, (.lenSl (.tmp 34)), false, some (33, false)⟩,
  ⟨some 36, (.bin .gtr .none (.tmp 35) (.const (.int .i64 40))), true, some (33, false)⟩,
  ⟨some 37, (.pick (.tmp 33) (.const (.bool true)) (.tmp 36)), true, none⟩]
def c6_10 : ACode := (.seq (.region o6_9 [2, 7, 9, 37]) (.cond (.tmp 37) c6_8 .skip))
def w6_10 (P : Program) (Q : Exit → Slots → Mem → Prop) (M : Mem) (v2 : V) (v7 : V) (v9 : V) (v10 : V) : Prop :=
  @OptBH (binV .neq .none v10 (.int .i64 0)) ⟨fun b28_2 =>
  @BIfH b28_2
  ⟨wpC P c6_8 Q [(2, v2), (7, v7), (9, v9), (37, (.bool true))] M⟩
  ⟨@OptBH (binV .eql .ptr v7 .nilp) ⟨fun b31_8 =>
  @BIfH b31_8
  ⟨wpC P c6_8 Q [(2, v2), (7, v7), (9, v9), (37, (.bool true))] M⟩
  ⟨@OptVH (lenV v2 M) ⟨fun t35_13 =>
  @OptBH (binV .gtr .none t35_13 (.int .i64 40)) ⟨fun b36_14 =>
  @BIfH b36_14
  ⟨wpC P c6_8 Q [(2, v2), (7, v7), (9, v9), (37, (.bool b36_14))] M⟩
  ⟨Q .normal [(2, v2), (7, v7), (9, v9), (37, (.bool b36_14))] M⟩⟩⟩⟩⟩⟩⟩
theorem e6_10 (P : Program) (Q : Exit → Slots → Mem → Prop) (s : Slots) (M : Mem) : wpC P c6_10 Q s M = w6_10 P Q M (sget s 2) (sget s 7) (sget s 9) (sget s 10) := by kernel_rfl
def o6_11 : List AOper := [⟨some 39, (.mov (.tmp 2)), false, none⟩,
  ⟨some 40, (.lenSl (.tmp 39)), false, none⟩,
  ⟨some 41, (.mov (.const (.int .i64 0))), false, none⟩]
def c6_12 : ACode := (.region o6_11 [7, 9, 39, 40, 41])
def w6_12 (_P : Program) (Q : Exit → Slots → Mem → Prop) (M : Mem) (v2 : V) (v7 : V) (v9 : V) : Prop :=
  @OptVH (lenV v2 M) ⟨fun t40_2 =>
  Q .normal [(7, v7), (9, v9), (39, v2), (40, t40_2), (41, (.int .i64 0))] M⟩
theorem e6_12 (P : Program) (Q : Exit → Slots → Mem → Prop) (s : Slots) (M : Mem) : wpC P c6_12 Q s M = w6_12 P Q M (sget s 2) (sget s 7) (sget s 9) := by kernel_rfl
def o6_13 : List AOper := [⟨some 42, (.bin .lss .none (.tmp 41) (.tmp 40)), false, none⟩]
def c6_14 : ACode := (.region o6_13 [7, 9, 39, 40, 41, 42])
def w6_14 (_P : Program) (Q : Exit → Slots → Mem → Prop) (M : Mem) (v7 : V) (v9 : V) (v39 : V) (v40 : V) (v41 : V) : Prop :=
  @OptVH (binV .lss .none v41 v40) ⟨fun t42_1 =>
  Q .normal [(7, v7), (9, v9), (39, v39), (40, v40), (41, v41), (42, t42_1)] M⟩
theorem e6_14 (P : Program) (Q : Exit → Slots → Mem → Prop) (s : Slots) (M : Mem) : wpC P c6_14 Q s M = w6_14 P Q M (sget s 7) (sget s 9) (sget s 39) (sget s 40) (sget s 41) := by kernel_rfl
def c6_15 : ACode := (.cond (.tmp 42) .skip (.exit 0))
def o6_16 : List AOper := [⟨some 43, (.indexSl 16 (.tmp 39) (.tmp 41)), false, none⟩,
  ⟨some 44, (.load 16 true (.tmp 43)), false, none⟩,
  ⟨some 12, (.alloc [(.int .i64 0), (.int .i64 0), (.int .i64 0), (.int .i64 0), (.int .i64 0), (.int .i64 0), (.str []), (.int .i64 0), (.int .i64 0), (.int .i64 0), (.int .i64 0), (.int .i64 0), (.bool false), (.slice [] .nil), (.int .i64 0), (.int .i64 0)]), false, none⟩,
  ⟨none, (.store 16 (.tmp 12) (.tmp 44)), false, none⟩]
def c6_17 : ACode := (.region o6_16 [7, 9, 12, 39, 40, 41])
def w6_17 (_P : Program) (Q : Exit → Slots → Mem → Prop) (M : Mem) (v7 : V) (v9 : V) (v39 : V) (v40 : V) (v41 : V) : Prop :=
  @OptVH (indexSlV 16 v39 v41 M) ⟨fun t43_1 =>
  @OptVH (loadV 16 true t43_1 M) ⟨fun t44_2 =>
  @OptMH (allocV [(.int .i64 0), (.int .i64 0), (.int .i64 0), (.int .i64 0), (.int .i64 0), (.int .i64 0), (.str []), (.int .i64 0), (.int .i64 0), (.int .i64 0), (.int .i64 0), (.int .i64 0), (.bool false), (.slice [] .nil), (.int .i64 0), (.int .i64 0)] M) ⟨fun t12_3 M3 =>
  @OptMH (storeVM 16 t12_3 t44_2 M3) ⟨fun _tx_4 M4 =>
  Q .normal [(7, v7), (9, v9), (12, t12_3), (39, v39), (40, v40), (41, v41)] M4⟩⟩⟩⟩
theorem e6_17 (P : Program) (Q : Exit → Slots → Mem → Prop) (s : Slots) (M : Mem) : wpC P c6_17 Q s M = w6_17 P Q M (sget s 7) (sget s 9) (sget s 39) (sget s 40) (sget s 41) := by kernel_rfl
def o6_18 : List AOper := [⟨some 49, (.call i_transitlaw32_exampleHolds []), true, none⟩,
  ⟨some 6, (.mov (.tmp 49)), true, none⟩]
def c6_19 : ACode := (.region o6_18 [6])
def w6_19 (P : Program) (Q : Exit → Slots → Mem → Prop) (M : Mem) : Prop :=
  @CallH P i_transitlaw32_exampleHolds [] M ⟨fun t49_1 M1 => @OptBH (some t49_1) ⟨fun b49_1 =>
  Q .normal [(6, (.bool b49_1))] M1⟩⟩
theorem e6_19 (P : Program) (Q : Exit → Slots → Mem → Prop) (s : Slots) (M : Mem) : wpC P c6_19 Q s M = w6_19 P Q M := by kernel_rfl
def c6_20 : ACode := (.seq c6_19 .ret)
def o6_21 : List AOper := [⟨some 45, (.fieldAddr 1 (.tmp 12)), false, none⟩,
  ⟨some 46, (.load 13 true (.tmp 45)), false, none⟩,
  ⟨some 47, (.call i_transitlaw32_small [(.tmp 46)]), true, none⟩,
  ⟨some 48, (.un .not (.tmp 47)), true, none⟩]
def c6_22 : ACode := (.seq (.region o6_21 [7, 9, 12, 39, 40, 41, 48]) (.cond (.tmp 48) c6_20 .skip))
def w6_22 (P : Program) (Q : Exit → Slots → Mem → Prop) (M : Mem) (v7 : V) (v9 : V) (v12 : V) (v39 : V) (v40 : V) (v41 : V) : Prop :=
  @OptVH (moveV 1 v12) ⟨fun t45_1 =>
  @OptVH (loadV 13 true t45_1 M) ⟨fun t46_2 =>
  @CallH P i_transitlaw32_small [t46_2] M ⟨fun t47_3 M3 => @OptBH (some t47_3) ⟨fun b47_3 =>
  @OptBH (unV .not (.bool b47_3)) ⟨fun b48_4 =>
  @BIfH b48_4
  ⟨wpC P c6_20 Q [(7, v7), (9, v9), (12, v12), (39, v39), (40, v40), (41, v41), (48, (.bool b48_4))] M3⟩
  ⟨Q .normal [(7, v7), (9, v9), (12, v12), (39, v39), (40, v40), (41, v41), (48, (.bool b48_4))] M3⟩⟩⟩⟩⟩⟩
theorem e6_22 (P : Program) (Q : Exit → Slots → Mem → Prop) (s : Slots) (M : Mem) : wpC P c6_22 Q s M = w6_22 P Q M (sget s 7) (sget s 9) (sget s 12) (sget s 39) (sget s 40) (sget s 41) := by kernel_rfl
def o6_23 : List AOper := [⟨some 13, (.mov (.const (.int .i64 0))), false, none⟩,
  ⟨some 14, (.mov (.const (.int .i64 0))), false, none⟩]
def c6_24 : ACode := (.region o6_23 [7, 9, 12, 13, 14, 39, 40, 41])
def w6_24 (_P : Program) (Q : Exit → Slots → Mem → Prop) (M : Mem) (v7 : V) (v9 : V) (v12 : V) (v39 : V) (v40 : V) (v41 : V) : Prop :=
  Q .normal [(7, v7), (9, v9), (12, v12), (13, (.int .i64 0)), (14, (.int .i64 0)), (39, v39), (40, v40), (41, v41)] M
theorem e6_24 (P : Program) (Q : Exit → Slots → Mem → Prop) (s : Slots) (M : Mem) : wpC P c6_24 Q s M = w6_24 P Q M (sget s 7) (sget s 9) (sget s 12) (sget s 39) (sget s 40) (sget s 41) := by kernel_rfl
def o6_25 : List AOper := [⟨some 53, (.mov (.tmp 7)), false, none⟩,
  ⟨some 54, (.fieldAddr 1 (.tmp 12)), false, none⟩,
  ⟨some 55, (.load 13 true (.tmp 54)), false, none⟩,
  ⟨some 56, (.fieldAddr 15 (.tmp 12)), false, none⟩,
  ⟨some 57, (.load 1 false (.tmp 56)), false, none⟩,
  ⟨some 58, (.call i_inbox_Inbox_Receive [(.tmp 53), (.tmp 55), (.tmp 57)]), false, none⟩,
  ⟨some 13, (.mov (.tmp 58)), false, none⟩]
def c6_26 : ACode := (.region o6_25 [7, 9, 12, 13, 39, 40, 41])
def w6_26 (P : Program) (Q : Exit → Slots → Mem → Prop) (M : Mem) (v7 : V) (v9 : V) (v12 : V) (v39 : V) (v40 : V) (v41 : V) : Prop :=
  @OptVH (moveV 1 v12) ⟨fun t54_2 =>
  @OptVH (loadV 13 true t54_2 M) ⟨fun t55_3 =>
  @OptVH (moveV 15 v12) ⟨fun t56_4 =>
  @OptVH (loadV 1 false t56_4 M) ⟨fun t57_5 =>
  @CallH P i_inbox_Inbox_Receive [v7, t55_3, t57_5] M ⟨fun t58_6 M6 =>
  Q .normal [(7, v7), (9, v9), (12, v12), (13, t58_6), (39, v39), (40, v40), (41, v41)] M6⟩⟩⟩⟩⟩
theorem e6_26 (P : Program) (Q : Exit → Slots → Mem → Prop) (s : Slots) (M : Mem) : wpC P c6_26 Q s M = w6_26 P Q M (sget s 7) (sget s 9) (sget s 12) (sget s 39) (sget s 40) (sget s 41) := by kernel_rfl
def o6_27 : List AOper := [⟨some 60, (.load 3 true (.tmp 9)), false, none⟩,
  ⟨some 61, (.fieldAddr 1 (.tmp 12)), false, none⟩,
  ⟨some 62, (.load 13 true (.tmp 61)), false, none⟩,
  ⟨some 63, (.fieldAddr 15 (.tmp 12)), false, none⟩,
  ⟨some 64, (.load 1 false (.tmp 63)), false, none⟩,
  ⟨some 65, (.call i_transitref32_Receive [(.tmp 60), (.tmp 62), (.tmp 64)]), false, none⟩,
  ⟨some 59, (.mov (.tmp 65)), false, none⟩,
  ⟨some 66, (.extract (.tmp 59) 0), false, none⟩,
  ⟨some 67, (.extract (.tmp 59) 1), false, none⟩,
  ⟨none, (.store 3 (.tmp 9) (.tmp 66)), false, none⟩,
  ⟨some 14, (.mov (.tmp 67)), false, none⟩]
def c6_28 : ACode := (.region o6_27 [7, 9, 12, 13, 14, 39, 40, 41])
def w6_28 (P : Program) (Q : Exit → Slots → Mem → Prop) (M : Mem) (v7 : V) (v9 : V) (v12 : V) (v13 : V) (v39 : V) (v40 : V) (v41 : V) : Prop :=
  @OptVH (loadV 3 true v9 M) ⟨fun t60_1 =>
  @OptVH (moveV 1 v12) ⟨fun t61_2 =>
  @OptVH (loadV 13 true t61_2 M) ⟨fun t62_3 =>
  @OptVH (moveV 15 v12) ⟨fun t63_4 =>
  @OptVH (loadV 1 false t63_4 M) ⟨fun t64_5 =>
  @CallH P i_transitref32_Receive [t60_1, t62_3, t64_5] M ⟨fun t65_6 M6 =>
  @OptVH (extractV t65_6 0) ⟨fun t66_8 =>
  @OptVH (extractV t65_6 1) ⟨fun t67_9 =>
  @OptMH (storeVM 3 v9 t66_8 M6) ⟨fun _tx_10 M10 =>
  Q .normal [(7, v7), (9, v9), (12, v12), (13, v13), (14, t67_9), (39, v39), (40, v40), (41, v41)] M10⟩⟩⟩⟩⟩⟩⟩⟩⟩
theorem e6_28 (P : Program) (Q : Exit → Slots → Mem → Prop) (s : Slots) (M : Mem) : wpC P c6_28 Q s M = w6_28 P Q M (sget s 7) (sget s 9) (sget s 12) (sget s 13) (sget s 39) (sget s 40) (sget s 41) := by kernel_rfl
def c6_29 : ACode := (.seq c6_26 c6_28)
def o6_30 : List AOper := [⟨some 50, (.fieldAddr 0 (.tmp 12)), false, none⟩,
  ⟨some 51, (.load 1 false (.tmp 50)), false, none⟩,
  ⟨some 52, (.bin .eql .none (.tmp 51) (.const (.int .i64 0))), true, none⟩]
def c6_31 : ACode := (.seq (.region o6_30 [7, 9, 12, 13, 14, 39, 40, 41, 52]) (.cond (.tmp 52) c6_29 .skip))
def w6_31 (P : Program) (Q : Exit → Slots → Mem → Prop) (M : Mem) (v7 : V) (v9 : V) (v12 : V) (v13 : V) (v14 : V) (v39 : V) (v40 : V) (v41 : V) : Prop :=
  @OptVH (moveV 0 v12) ⟨fun t50_1 =>
  @OptVH (loadV 1 false t50_1 M) ⟨fun t51_2 =>
  @OptBH (binV .eql .none t51_2 (.int .i64 0)) ⟨fun b52_3 =>
  @BIfH b52_3
  ⟨wpC P c6_29 Q [(7, v7), (9, v9), (12, v12), (13, v13), (14, v14), (39, v39), (40, v40), (41, v41), (52, (.bool b52_3))] M⟩
  ⟨Q .normal [(7, v7), (9, v9), (12, v12), (13, v13), (14, v14), (39, v39), (40, v40), (41, v41), (52, (.bool b52_3))] M⟩⟩⟩⟩
theorem e6_31 (P : Program) (Q : Exit → Slots → Mem → Prop) (s : Slots) (M : Mem) : wpC P c6_31 Q s M = w6_31 P Q M (sget s 7) (sget s 9) (sget s 12) (sget s 13) (sget s 14) (sget s 39) (sget s 40) (sget s 41) := by kernel_rfl
def o6_32 : List AOper := [⟨some 71, (.mov (.tmp 7)), false, none⟩,
  ⟨some 72, (.fieldAddr 14 (.tmp 12)), false, none⟩,
  ⟨some 73, (.load 1 false (.tmp 72)), false, none⟩,
  ⟨some 74, (.fieldAddr 15 (.tmp 12)), false, none⟩,
  ⟨some 75, (.load 1 false (.tmp 74)), false, none⟩,
  ⟨some 76, (.call i_inbox_Inbox_Heartbeat [(.tmp 71), (.tmp 73), (.tmp 75)]), false, none⟩,
  ⟨some 13, (.mov (.tmp 76)), false, none⟩]
def c6_33 : ACode := (.region o6_32 [7, 9, 12, 13, 39, 40, 41])
def w6_33 (P : Program) (Q : Exit → Slots → Mem → Prop) (M : Mem) (v7 : V) (v9 : V) (v12 : V) (v39 : V) (v40 : V) (v41 : V) : Prop :=
  @OptVH (moveV 14 v12) ⟨fun t72_2 =>
  @OptVH (loadV 1 false t72_2 M) ⟨fun t73_3 =>
  @OptVH (moveV 15 v12) ⟨fun t74_4 =>
  @OptVH (loadV 1 false t74_4 M) ⟨fun t75_5 =>
  @CallH P i_inbox_Inbox_Heartbeat [v7, t73_3, t75_5] M ⟨fun t76_6 M6 =>
  Q .normal [(7, v7), (9, v9), (12, v12), (13, t76_6), (39, v39), (40, v40), (41, v41)] M6⟩⟩⟩⟩⟩
theorem e6_33 (P : Program) (Q : Exit → Slots → Mem → Prop) (s : Slots) (M : Mem) : wpC P c6_33 Q s M = w6_33 P Q M (sget s 7) (sget s 9) (sget s 12) (sget s 39) (sget s 40) (sget s 41) := by kernel_rfl
def o6_34 : List AOper := [⟨some 78, (.load 3 true (.tmp 9)), false, none⟩,
  ⟨some 79, (.fieldAddr 14 (.tmp 12)), false, none⟩,
  ⟨some 80, (.load 1 false (.tmp 79)), false, none⟩,
  ⟨some 81, (.fieldAddr 15 (.tmp 12)), false, none⟩,
  ⟨some 82, (.load 1 false (.tmp 81)), false, none⟩,
  ⟨some 83, (.call i_transitref32_Heartbeat [(.tmp 78), (.tmp 80), (.tmp 82)]), false, none⟩,
  ⟨some 77, (.mov (.tmp 83)), false, none⟩,
  ⟨some 84, (.extract (.tmp 77) 0), false, none⟩,
  ⟨some 85, (.extract (.tmp 77) 1), false, none⟩,
  ⟨none, (.store 3 (.tmp 9) (.tmp 84)), false, none⟩,
  ⟨some 14, (.mov (.tmp 85)), false, none⟩]
def c6_35 : ACode := (.region o6_34 [7, 9, 12, 13, 14, 39, 40, 41])
def w6_35 (P : Program) (Q : Exit → Slots → Mem → Prop) (M : Mem) (v7 : V) (v9 : V) (v12 : V) (v13 : V) (v39 : V) (v40 : V) (v41 : V) : Prop :=
  @OptVH (loadV 3 true v9 M) ⟨fun t78_1 =>
  @OptVH (moveV 14 v12) ⟨fun t79_2 =>
  @OptVH (loadV 1 false t79_2 M) ⟨fun t80_3 =>
  @OptVH (moveV 15 v12) ⟨fun t81_4 =>
  @OptVH (loadV 1 false t81_4 M) ⟨fun t82_5 =>
  @CallH P i_transitref32_Heartbeat [t78_1, t80_3, t82_5] M ⟨fun t83_6 M6 =>
  @OptVH (extractV t83_6 0) ⟨fun t84_8 =>
  @OptVH (extractV t83_6 1) ⟨fun t85_9 =>
  @OptMH (storeVM 3 v9 t84_8 M6) ⟨fun _tx_10 M10 =>
  Q .normal [(7, v7), (9, v9), (12, v12), (13, v13), (14, t85_9), (39, v39), (40, v40), (41, v41)] M10⟩⟩⟩⟩⟩⟩⟩⟩⟩
theorem e6_35 (P : Program) (Q : Exit → Slots → Mem → Prop) (s : Slots) (M : Mem) : wpC P c6_35 Q s M = w6_35 P Q M (sget s 7) (sget s 9) (sget s 12) (sget s 13) (sget s 39) (sget s 40) (sget s 41) := by kernel_rfl
def c6_36 : ACode := (.seq c6_33 c6_35)
def o6_37 : List AOper := [⟨some 68, (.fieldAddr 0 (.tmp 12)), false, none⟩,
  ⟨some 69, (.load 1 false (.tmp 68)), false, none⟩,
  ⟨some 70, (.bin .eql .none (.tmp 69) (.const (.int .i64 1))), true, none⟩]
def c6_38 : ACode := (.seq (.region o6_37 [7, 9, 12, 13, 14, 39, 40, 41, 70]) (.cond (.tmp 70) c6_36 .skip))
def w6_38 (P : Program) (Q : Exit → Slots → Mem → Prop) (M : Mem) (v7 : V) (v9 : V) (v12 : V) (v13 : V) (v14 : V) (v39 : V) (v40 : V) (v41 : V) : Prop :=
  @OptVH (moveV 0 v12) ⟨fun t68_1 =>
  @OptVH (loadV 1 false t68_1 M) ⟨fun t69_2 =>
  @OptBH (binV .eql .none t69_2 (.int .i64 1)) ⟨fun b70_3 =>
  @BIfH b70_3
  ⟨wpC P c6_36 Q [(7, v7), (9, v9), (12, v12), (13, v13), (14, v14), (39, v39), (40, v40), (41, v41), (70, (.bool b70_3))] M⟩
  ⟨Q .normal [(7, v7), (9, v9), (12, v12), (13, v13), (14, v14), (39, v39), (40, v40), (41, v41), (70, (.bool b70_3))] M⟩⟩⟩⟩
theorem e6_38 (P : Program) (Q : Exit → Slots → Mem → Prop) (s : Slots) (M : Mem) : wpC P c6_38 Q s M = w6_38 P Q M (sget s 7) (sget s 9) (sget s 12) (sget s 13) (sget s 14) (sget s 39) (sget s 40) (sget s 41) := by kernel_rfl
def o6_39 : List AOper := [⟨some 6, (.mov (.const (.bool false))), true, none⟩]
def c6_40 : ACode := (.region o6_39 [6])
def w6_40 (_P : Program) (Q : Exit → Slots → Mem → Prop) (M : Mem) : Prop :=
  Q .normal [(6, (.bool false))] M
theorem e6_40 (P : Program) (Q : Exit → Slots → Mem → Prop) (s : Slots) (M : Mem) : wpC P c6_40 Q s M = w6_40 P Q M := by kernel_rfl
def c6_41 : ACode := (.seq c6_40 .ret)
def o6_42 : List AOper := [⟨some 86, (.mov (.tmp 13)), false, none⟩,
  ⟨some 87, (.mov (.tmp 14)), false, none⟩,
  ⟨some 88, (.bin .neq .none (.tmp 86) (.tmp 87)), true, none⟩,
  ⟨some 89, (.mov (.tmp 88)), true, none⟩,
  ⟨some 90, (.mov (.tmp 7)), false, some (89, false)⟩,
  ⟨some 91, (.load 3 true (.tmp 9)), false, some (89, false)⟩,
  ⟨some 92, (.fieldAddr 14 (.tmp 12)), false, some (89, false)⟩,
  ⟨some 93, (.load 1 false (.tmp 92)), false, some (89, false)⟩,
  ⟨some 94, (.fieldAddr 15 (.tmp 12)), false, some (89, false)⟩,
  ⟨some 95, (.load 1 false (.tmp 94)), false, some (89, false)⟩,
  ⟨some 96, (.call i_transitlaw32_same [(.tmp 90), (.tmp 91), (.tmp 93), (.tmp 95)]), true, some (89, false)⟩,
  ⟨some 97, (.un .not (.tmp 96)), true, some (89, false)⟩,
  ⟨some 98, (.pick (.tmp 89) (.const (.bool true)) (.tmp 97)), true, none⟩]
def c6_43 : ACode := (.seq (.region o6_42 [7, 9, 39, 40, 41, 98]) (.cond (.tmp 98) c6_41 .skip))
def w6_43 (P : Program) (Q : Exit → Slots → Mem → Prop) (M : Mem) (v7 : V) (v9 : V) (v12 : V) (v13 : V) (v14 : V) (v39 : V) (v40 : V) (v41 : V) : Prop :=
  @OptBH (binV .neq .none v13 v14) ⟨fun b88_3 =>
  @BIfH b88_3
  ⟨wpC P c6_41 Q [(7, v7), (9, v9), (39, v39), (40, v40), (41, v41), (98, (.bool true))] M⟩
  ⟨@OptVH (loadV 3 true v9 M) ⟨fun t91_7 =>
  @OptVH (moveV 14 v12) ⟨fun t92_8 =>
  @OptVH (loadV 1 false t92_8 M) ⟨fun t93_9 =>
  @OptVH (moveV 15 v12) ⟨fun t94_10 =>
  @OptVH (loadV 1 false t94_10 M) ⟨fun t95_11 =>
  @CallH P i_transitlaw32_same [v7, t91_7, t93_9, t95_11] M ⟨fun t96_12 M12 => @OptBH (some t96_12) ⟨fun b96_12 =>
  @OptBH (unV .not (.bool b96_12)) ⟨fun b97_13 =>
  @BIfH b97_13
  ⟨wpC P c6_41 Q [(7, v7), (9, v9), (39, v39), (40, v40), (41, v41), (98, (.bool b97_13))] M12⟩
  ⟨Q .normal [(7, v7), (9, v9), (39, v39), (40, v40), (41, v41), (98, (.bool b97_13))] M12⟩⟩⟩⟩⟩⟩⟩⟩⟩⟩⟩
theorem e6_43 (P : Program) (Q : Exit → Slots → Mem → Prop) (s : Slots) (M : Mem) : wpC P c6_43 Q s M = w6_43 P Q M (sget s 7) (sget s 9) (sget s 12) (sget s 13) (sget s 14) (sget s 39) (sget s 40) (sget s 41) := by kernel_rfl
def c6_44 : ACode := (.seq c6_38 c6_43)
def c6_45 : ACode := (.seq c6_31 c6_44)
def c6_46 : ACode := (.seq c6_24 c6_45)
def c6_47 : ACode := (.seq c6_22 c6_46)
def c6_48 : ACode := (.seq c6_17 c6_47)
def c6_49 : ACode := (.block 1 c6_48)
def o6_50 : List AOper := [⟨some 99, (.bin .add .none (.tmp 41) (.const (.int .i64 1))), false, none⟩,
  ⟨some 41, (.mov (.tmp 99)), false, none⟩]
def c6_51 : ACode := (.region o6_50 [7, 9, 39, 40, 41])
def w6_51 (_P : Program) (Q : Exit → Slots → Mem → Prop) (M : Mem) (v7 : V) (v9 : V) (v39 : V) (v40 : V) (v41 : V) : Prop :=
  @OptVH (binV .add .none v41 (.int .i64 1)) ⟨fun t99_1 =>
  Q .normal [(7, v7), (9, v9), (39, v39), (40, v40), (41, t99_1)] M⟩
theorem e6_51 (P : Program) (Q : Exit → Slots → Mem → Prop) (s : Slots) (M : Mem) : wpC P c6_51 Q s M = w6_51 P Q M (sget s 7) (sget s 9) (sget s 39) (sget s 40) (sget s 41) := by kernel_rfl
def c6_52 : ACode := (.seq c6_49 c6_51)
def c6_53 : ACode := (.seq c6_15 c6_52)
def c6_54 : ACode := (.seq c6_14 c6_53)
def c6_55 : ACode := (.loop [7, 9, 39, 40, 41] c6_54)
def c6_56 : ACode := (.block 0 c6_55)
def c6_57 : ACode := (.seq c6_12 c6_56)
def o6_58 : List AOper := [⟨some 100, (.call i_transitlaw32_exampleHolds []), true, none⟩,
  ⟨some 6, (.mov (.tmp 100)), true, none⟩]
def c6_59 : ACode := (.region o6_58 [6])
def w6_59 (P : Program) (Q : Exit → Slots → Mem → Prop) (M : Mem) : Prop :=
  @CallH P i_transitlaw32_exampleHolds [] M ⟨fun t100_1 M1 => @OptBH (some t100_1) ⟨fun b100_1 =>
  Q .normal [(6, (.bool b100_1))] M1⟩⟩
theorem e6_59 (P : Program) (Q : Exit → Slots → Mem → Prop) (s : Slots) (M : Mem) : wpC P c6_59 Q s M = w6_59 P Q M := by kernel_rfl
def c6_60 : ACode := (.seq c6_59 .ret)
def c6_61 : ACode := (.seq c6_57 c6_60)
def c6_62 : ACode := (.seq c6_10 c6_61)
def c6_63 : ACode := (.seq c6_5 c6_62)
def c6_64 : ACode := (.seq c6_3 c6_63)
def c6_65 : ACode := (.seq c6_1 c6_64)
def fn_transitlaw32_InboxPlays : AFn := ⟨101, [(.tmp 6)], c6_65⟩
theorem fn_transitlaw32_InboxPlays_ok : resFn PR h_transitlaw32_InboxPlays i_transitlaw32_InboxPlays = some fn_transitlaw32_InboxPlays := by kernel_rfl

def h_inbox_New : Hints := ⟨[(0, [0, 1]), (1, [0, 1, 11]), (2, [4, 5]), (3, [0, 1, 17]), (4, [4, 5]), (5, [4, 5])], [], []⟩
def o10_0 : List AOper := [⟨some 4, (.mov (.const .nilp)), false, none⟩,
  ⟨some 5, (.mov (.const (.int .i64 0))), false, none⟩]
def c10_1 : ACode := (.region o10_0 [0, 1])
def w10_1 (_P : Program) (Q : Exit → Slots → Mem → Prop) (M : Mem) (v0 : V) (v1 : V) : Prop :=
  Q .normal [(0, v0), (1, v1)] M
theorem e10_1 (P : Program) (Q : Exit → Slots → Mem → Prop) (s : Slots) (M : Mem) : wpC P c10_1 Q s M = w10_1 P Q M (sget s 0) (sget s 1) := by kernel_rfl
def o10_2 : List AOper := [⟨some 4, (.mov (.const .nilp)), false, none⟩,
  ⟨some 5, (.mov (.const (.int .i64 36))), false, none⟩]
def c10_3 : ACode := (.region o10_2 [4, 5])
def w10_3 (_P : Program) (Q : Exit → Slots → Mem → Prop) (M : Mem) : Prop :=
  Q .normal [(4, .nilp), (5, (.int .i64 36))] M
theorem e10_3 (P : Program) (Q : Exit → Slots → Mem → Prop) (s : Slots) (M : Mem) : wpC P c10_3 Q s M = w10_3 P Q M := by kernel_rfl
def c10_4 : ACode := (.seq c10_3 .ret)
def o10_5 : List AOper := [⟨some 6, (.mov (.tmp 0)), false, none⟩,
  ⟨some 7, (.bin .lss .none (.tmp 6) (.const (.int .i64 1))), true, none⟩,
  ⟨some 8, (.mov (.tmp 7)), true, none⟩,
  ⟨some 9, (.mov (.tmp 0)), false, some (8, false)⟩,
  ⟨some 10, (.bin .gtr .none (.tmp 9) (.const (.int .i64 8))), true, some (8, false)⟩,
  ⟨some 11, (.pick (.tmp 8) (.const (.bool true)) (.tmp 10)), true, none⟩]
def c10_6 : ACode := (.seq (.region o10_5 [0, 1, 11]) (.cond (.tmp 11) c10_4 .skip))
def w10_6 (P : Program) (Q : Exit → Slots → Mem → Prop) (M : Mem) (v0 : V) (v1 : V) : Prop :=
  @OptBH (binV .lss .none v0 (.int .i64 1)) ⟨fun b7_2 =>
  @BIfH b7_2
  ⟨wpC P c10_4 Q [(0, v0), (1, v1), (11, (.bool true))] M⟩
  ⟨@OptBH (binV .gtr .none v0 (.int .i64 8)) ⟨fun b10_6 =>
  @BIfH b10_6
  ⟨wpC P c10_4 Q [(0, v0), (1, v1), (11, (.bool b10_6))] M⟩
  ⟨Q .normal [(0, v0), (1, v1), (11, (.bool b10_6))] M⟩⟩⟩⟩
theorem e10_6 (P : Program) (Q : Exit → Slots → Mem → Prop) (s : Slots) (M : Mem) : wpC P c10_6 Q s M = w10_6 P Q M (sget s 0) (sget s 1) := by kernel_rfl
def o10_7 : List AOper := [⟨some 4, (.mov (.const .nilp)), false, none⟩,
  ⟨some 5, (.mov (.const (.int .i64 2))), false, none⟩]
def c10_8 : ACode := (.region o10_7 [4, 5])
def w10_8 (_P : Program) (Q : Exit → Slots → Mem → Prop) (M : Mem) : Prop :=
  Q .normal [(4, .nilp), (5, (.int .i64 2))] M
theorem e10_8 (P : Program) (Q : Exit → Slots → Mem → Prop) (s : Slots) (M : Mem) : wpC P c10_8 Q s M = w10_8 P Q M := by kernel_rfl
def c10_9 : ACode := (.seq c10_8 .ret)
def o10_10 : List AOper := [⟨some 12, (.mov (.tmp 1)), false, none⟩,
  ⟨some 13, (.bin .lss .none (.tmp 12) (.const (.int .i64 0))), true, none⟩,
  ⟨some 14, (.mov (.tmp 13)), true, none⟩,
  ⟨some 15, (.mov (.tmp 1)), false, some (14, false)⟩,
  ⟨some 16, (.bin .gtr .none (.tmp 15) (.const (.int .i64 86400))), true, some (14, false)⟩,
  ⟨some 17, (.pick (.tmp 14) (.const (.bool true)) (.tmp 16)), true, none⟩]
def c10_11 : ACode := (.seq (.region o10_10 [0, 1, 17]) (.cond (.tmp 17) c10_9 .skip))
def w10_11 (P : Program) (Q : Exit → Slots → Mem → Prop) (M : Mem) (v0 : V) (v1 : V) : Prop :=
  @OptBH (binV .lss .none v1 (.int .i64 0)) ⟨fun b13_2 =>
  @BIfH b13_2
  ⟨wpC P c10_9 Q [(0, v0), (1, v1), (17, (.bool true))] M⟩
  ⟨@OptBH (binV .gtr .none v1 (.int .i64 86400)) ⟨fun b16_6 =>
  @BIfH b16_6
  ⟨wpC P c10_9 Q [(0, v0), (1, v1), (17, (.bool b16_6))] M⟩
  ⟨Q .normal [(0, v0), (1, v1), (17, (.bool b16_6))] M⟩⟩⟩⟩
theorem e10_11 (P : Program) (Q : Exit → Slots → Mem → Prop) (s : Slots) (M : Mem) : wpC P c10_11 Q s M = w10_11 P Q M (sget s 0) (sget s 1) := by kernel_rfl
def o10_12 : List AOper := [⟨some 18, (.mov (.tmp 0)), false, none⟩,
  ⟨some 19, (.makeSlice [(.bool false), (.int .i64 0), (.bool false), (.int .i64 0)] 4 32 (.tmp 18) (.tmp 18)), false, none⟩,
  ⟨some 20, (.mov (.tmp 1)), false, none⟩,
  ⟨some 21, (.build [(.slice [] .nil), (.int .i64 0), (.slice [] .nil)] [(0, (1, (.tmp 19))), (1, (1, (.tmp 20)))]), false, none⟩,
  ⟨some 22, (.box 3 (.tmp 21)), false, none⟩,
  ⟨some 4, (.mov (.tmp 22)), false, none⟩,
  ⟨some 5, (.mov (.const (.int .i64 0))), false, none⟩]
def c10_13 : ACode := (.region o10_12 [4, 5])
def w10_13 (_P : Program) (Q : Exit → Slots → Mem → Prop) (M : Mem) (v0 : V) (v1 : V) : Prop :=
  @OptMH (makeSliceV [(.bool false), (.int .i64 0), (.bool false), (.int .i64 0)] 4 32 v0 v0 M) ⟨fun t19_2 M2 =>
  @OptVH (buildV [(.slice [] .nil), (.int .i64 0), (.slice [] .nil)] [(0, 1, t19_2), (1, 1, v1)]) ⟨fun t21_4 =>
  @OptMH (boxV 3 t21_4 M2) ⟨fun t22_5 M5 =>
  Q .normal [(4, t22_5), (5, (.int .i64 0))] M5⟩⟩⟩
theorem e10_13 (P : Program) (Q : Exit → Slots → Mem → Prop) (s : Slots) (M : Mem) : wpC P c10_13 Q s M = w10_13 P Q M (sget s 0) (sget s 1) := by kernel_rfl
def c10_14 : ACode := (.seq c10_13 .ret)
def c10_15 : ACode := (.seq c10_11 c10_14)
def c10_16 : ACode := (.seq c10_6 c10_15)
def c10_17 : ACode := (.seq c10_1 c10_16)
def fn_inbox_New : AFn := ⟨23, [(.tmp 4), (.tmp 5)], c10_17⟩
theorem fn_inbox_New_ok : resFn PR h_inbox_New i_inbox_New = some fn_inbox_New := by kernel_rfl

def h_transitref32_New : Hints := ⟨[(0, [0, 1, 4]), (1, [0, 1, 4, 13]), (2, [4, 5]), (3, [0, 1, 4, 20]), (4, [4, 5]), (5, [0, 4, 6]), (6, [0, 4, 6, 7]), (7, [0, 4, 6, 7, 26]), (8, [0, 4, 6, 7]), (9, [0, 4, 6, 7]), (10, [4, 5])], [(7, [0, 4, 6, 7])], []⟩
def o11_0 : List AOper := [⟨some 4, (.alloc [(.int .i64 0), (.slice [] .nil), (.slice [] .nil)]), false, none⟩,
  ⟨some 5, (.mov (.const (.int .i64 0))), false, none⟩]
def c11_1 : ACode := (.region o11_0 [0, 1, 4])
def w11_1 (_P : Program) (Q : Exit → Slots → Mem → Prop) (M : Mem) (v0 : V) (v1 : V) : Prop :=
  @OptMH (allocV [(.int .i64 0), (.slice [] .nil), (.slice [] .nil)] M) ⟨fun t4_1 M1 =>
  Q .normal [(0, v0), (1, v1), (4, t4_1)] M1⟩
theorem e11_1 (P : Program) (Q : Exit → Slots → Mem → Prop) (s : Slots) (M : Mem) : wpC P c11_1 Q s M = w11_1 P Q M (sget s 0) (sget s 1) := by kernel_rfl
def o11_2 : List AOper := [⟨some 14, (.build [(.int .i64 0), (.slice [] .nil), (.slice [] .nil)] []), false, none⟩,
  ⟨none, (.store 3 (.tmp 4) (.tmp 14)), false, none⟩,
  ⟨some 5, (.mov (.const (.int .i64 36))), false, none⟩]
def c11_3 : ACode := (.region o11_2 [4, 5])
def w11_3 (_P : Program) (Q : Exit → Slots → Mem → Prop) (M : Mem) (v4 : V) : Prop :=
  @OptVH (buildV [(.int .i64 0), (.slice [] .nil), (.slice [] .nil)] []) ⟨fun t14_1 =>
  @OptMH (storeVM 3 v4 t14_1 M) ⟨fun _tx_2 M2 =>
  Q .normal [(4, v4), (5, (.int .i64 36))] M2⟩⟩
theorem e11_3 (P : Program) (Q : Exit → Slots → Mem → Prop) (s : Slots) (M : Mem) : wpC P c11_3 Q s M = w11_3 P Q M (sget s 4) := by kernel_rfl
def c11_4 : ACode := (.seq c11_3 .ret)
def o11_5 : List AOper := [⟨some 8, (.mov (.tmp 0)), false, none⟩,
  ⟨some 9, (.bin .lss .none (.tmp 8) (.const (.int .i64 1))), true, none⟩,
  ⟨some 10, (.mov (.tmp 9)), true, none⟩,
  ⟨some 11, (.mov (.tmp 0)), false, some (10, false)⟩,
  ⟨some 12, (.bin .gtr .none (.tmp 11) (.const (.int .i64 8))), true, some (10, false)⟩,
  ⟨some 13, (.pick (.tmp 10) (.const (.bool true)) (.tmp 12)), true, none⟩]
def c11_6 : ACode := (.seq (.region o11_5 [0, 1, 4, 13]) (.cond (.tmp 13) c11_4 .skip))
def w11_6 (P : Program) (Q : Exit → Slots → Mem → Prop) (M : Mem) (v0 : V) (v1 : V) (v4 : V) : Prop :=
  @OptBH (binV .lss .none v0 (.int .i64 1)) ⟨fun b9_2 =>
  @BIfH b9_2
  ⟨wpC P c11_4 Q [(0, v0), (1, v1), (4, v4), (13, (.bool true))] M⟩
  ⟨@OptBH (binV .gtr .none v0 (.int .i64 8)) ⟨fun b12_6 =>
  @BIfH b12_6
  ⟨wpC P c11_4 Q [(0, v0), (1, v1), (4, v4), (13, (.bool b12_6))] M⟩
  ⟨Q .normal [(0, v0), (1, v1), (4, v4), (13, (.bool b12_6))] M⟩⟩⟩⟩
theorem e11_6 (P : Program) (Q : Exit → Slots → Mem → Prop) (s : Slots) (M : Mem) : wpC P c11_6 Q s M = w11_6 P Q M (sget s 0) (sget s 1) (sget s 4) := by kernel_rfl
def o11_7 : List AOper := [⟨some 21, (.build [(.int .i64 0), (.slice [] .nil), (.slice [] .nil)] []), false, none⟩,
  ⟨none, (.store 3 (.tmp 4) (.tmp 21)), false, none⟩,
  ⟨some 5, (.mov (.const (.int .i64 2))), false, none⟩]
def c11_8 : ACode := (.region o11_7 [4, 5])
def w11_8 (_P : Program) (Q : Exit → Slots → Mem → Prop) (M : Mem) (v4 : V) : Prop :=
  @OptVH (buildV [(.int .i64 0), (.slice [] .nil), (.slice [] .nil)] []) ⟨fun t21_1 =>
  @OptMH (storeVM 3 v4 t21_1 M) ⟨fun _tx_2 M2 =>
  Q .normal [(4, v4), (5, (.int .i64 2))] M2⟩⟩
theorem e11_8 (P : Program) (Q : Exit → Slots → Mem → Prop) (s : Slots) (M : Mem) : wpC P c11_8 Q s M = w11_8 P Q M (sget s 4) := by kernel_rfl
def c11_9 : ACode := (.seq c11_8 .ret)
def o11_10 : List AOper := [⟨some 15, (.mov (.tmp 1)), false, none⟩,
  ⟨some 16, (.bin .lss .none (.tmp 15) (.const (.int .i64 0))), true, none⟩,
  ⟨some 17, (.mov (.tmp 16)), true, none⟩,
  ⟨some 18, (.mov (.tmp 1)), false, some (17, false)⟩,
  ⟨some 19, (.bin .gtr .none (.tmp 18) (.const (.int .i64 86400))), true, some (17, false)⟩,
  ⟨some 20, (.pick (.tmp 17) (.const (.bool true)) (.tmp 19)), true, none⟩]
def c11_11 : ACode := (.seq (.region o11_10 [0, 1, 4, 20]) (.cond (.tmp 20) c11_9 .skip))
def w11_11 (P : Program) (Q : Exit → Slots → Mem → Prop) (M : Mem) (v0 : V) (v1 : V) (v4 : V) : Prop :=
  @OptBH (binV .lss .none v1 (.int .i64 0)) ⟨fun b16_2 =>
  @BIfH b16_2
  ⟨wpC P c11_9 Q [(0, v0), (1, v1), (4, v4), (20, (.bool true))] M⟩
  ⟨@OptBH (binV .gtr .none v1 (.int .i64 86400)) ⟨fun b19_6 =>
  @BIfH b19_6
  ⟨wpC P c11_9 Q [(0, v0), (1, v1), (4, v4), (20, (.bool b19_6))] M⟩
  ⟨Q .normal [(0, v0), (1, v1), (4, v4), (20, (.bool b19_6))] M⟩⟩⟩⟩
theorem e11_11 (P : Program) (Q : Exit → Slots → Mem → Prop) (s : Slots) (M : Mem) : wpC P c11_11 Q s M = w11_11 P Q M (sget s 0) (sget s 1) (sget s 4) := by kernel_rfl
def o11_12 : List AOper := [⟨some 22, (.mov (.tmp 1)), false, none⟩,
  ⟨some 23, (.build [(.int .i64 0), (.slice [] .nil), (.slice [] .nil)] [(0, (1, (.tmp 22)))]), false, none⟩,
  ⟨some 6, (.alloc [(.int .i64 0), (.slice [] .nil), (.slice [] .nil)]), false, none⟩,
  ⟨none, (.store 3 (.tmp 6) (.tmp 23)), false, none⟩]
def c11_13 : ACode := (.region o11_12 [0, 4, 6])
def w11_13 (_P : Program) (Q : Exit → Slots → Mem → Prop) (M : Mem) (v0 : V) (v1 : V) (v4 : V) : Prop :=
  @OptVH (buildV [(.int .i64 0), (.slice [] .nil), (.slice [] .nil)] [(0, 1, v1)]) ⟨fun t23_2 =>
  @OptMH (allocV [(.int .i64 0), (.slice [] .nil), (.slice [] .nil)] M) ⟨fun t6_3 M3 =>
  @OptMH (storeVM 3 t6_3 t23_2 M3) ⟨fun _tx_4 M4 =>
  Q .normal [(0, v0), (4, v4), (6, t6_3)] M4⟩⟩⟩
theorem e11_13 (P : Program) (Q : Exit → Slots → Mem → Prop) (s : Slots) (M : Mem) : wpC P c11_13 Q s M = w11_13 P Q M (sget s 0) (sget s 1) (sget s 4) := by kernel_rfl
def o11_14 : List AOper := [⟨some 7, (.mov (.const (.int .i64 0))), false, none⟩]
def c11_15 : ACode := (.region o11_14 [0, 4, 6, 7])
def w11_15 (_P : Program) (Q : Exit → Slots → Mem → Prop) (M : Mem) (v0 : V) (v4 : V) (v6 : V) : Prop :=
  Q .normal [(0, v0), (4, v4), (6, v6), (7, (.int .i64 0))] M
theorem e11_15 (P : Program) (Q : Exit → Slots → Mem → Prop) (s : Slots) (M : Mem) : wpC P c11_15 Q s M = w11_15 P Q M (sget s 0) (sget s 4) (sget s 6) := by kernel_rfl
def o11_16 : List AOper := [⟨some 24, (.mov (.tmp 7)), false, none⟩,
  ⟨some 25, (.mov (.tmp 0)), false, none⟩,
  ⟨some 26, (.bin .lss .none (.tmp 24) (.tmp 25)), true, none⟩]
def c11_17 : ACode := (.seq (.region o11_16 [0, 4, 6, 7, 26]) (.cond (.tmp 26) .skip (.exit 0)))
def w11_17 (_P : Program) (Q : Exit → Slots → Mem → Prop) (M : Mem) (v0 : V) (v4 : V) (v6 : V) (v7 : V) : Prop :=
  @OptBH (binV .lss .none v7 v0) ⟨fun b26_3 =>
  @BIfH b26_3
  ⟨Q .normal [(0, v0), (4, v4), (6, v6), (7, v7), (26, (.bool b26_3))] M⟩
  ⟨Q (.exit 0) [(0, v0), (4, v4), (6, v6), (7, v7), (26, (.bool b26_3))] M⟩⟩
theorem e11_17 (P : Program) (Q : Exit → Slots → Mem → Prop) (s : Slots) (M : Mem) : wpC P c11_17 Q s M = w11_17 P Q M (sget s 0) (sget s 4) (sget s 6) (sget s 7) := by kernel_rfl
def o11_18 : List AOper := [⟨some 29, (.fieldAddr 1 (.tmp 6)), false, none⟩,
  ⟨some 30, (.load 1 false (.tmp 29)), false, none⟩,
  ⟨some 31, (.build [(.int .i64 0), (.int .i64 0)] [(0, (1, (.const (.int .i64 (-1)))))]), false, none⟩,
  ⟨some 32, (.buildSlice [(.int .i64 0), (.int .i64 0)] 2 1 [(0, (2, (.tmp 31)))]), false, none⟩,
  ⟨some 33, (.append false 2 16 (.tmp 30) (.tmp 32)), false, none⟩,
  ⟨some 34, (.fieldAddr 1 (.tmp 6)), false, none⟩,
  ⟨none, (.store 1 (.tmp 34) (.tmp 33)), false, none⟩]
def c11_19 : ACode := (.region o11_18 [0, 4, 6, 7])
def w11_19 (_P : Program) (Q : Exit → Slots → Mem → Prop) (M : Mem) (v0 : V) (v4 : V) (v6 : V) (v7 : V) : Prop :=
  @OptVH (moveV 1 v6) ⟨fun t29_1 =>
  @OptVH (loadV 1 false t29_1 M) ⟨fun t30_2 =>
  @OptVH (buildV [(.int .i64 0), (.int .i64 0)] [(0, 1, (.int .i64 (-1)))]) ⟨fun t31_3 =>
  @OptVH (buildSliceV [(.int .i64 0), (.int .i64 0)] 2 1 [(0, 2, t31_3)]) ⟨fun t32_4 =>
  @OptMH (appV false 2 16 t30_2 t32_4 M) ⟨fun t33_5 M5 =>
  @OptVH (moveV 1 v6) ⟨fun t34_6 =>
  @OptMH (storeVM 1 t34_6 t33_5 M5) ⟨fun _tx_7 M7 =>
  Q .normal [(0, v0), (4, v4), (6, v6), (7, v7)] M7⟩⟩⟩⟩⟩⟩⟩
theorem e11_19 (P : Program) (Q : Exit → Slots → Mem → Prop) (s : Slots) (M : Mem) : wpC P c11_19 Q s M = w11_19 P Q M (sget s 0) (sget s 4) (sget s 6) (sget s 7) := by kernel_rfl
def c11_20 : ACode := (.block 1 c11_19)
def o11_21 : List AOper := [⟨some 27, (.mov (.tmp 7)), false, none⟩,
  ⟨some 28, (.bin .add .none (.tmp 27) (.const (.int .i64 1))), false, none⟩,
  ⟨some 7, (.mov (.tmp 28)), false, none⟩]
def c11_22 : ACode := (.region o11_21 [0, 4, 6, 7])
def w11_22 (_P : Program) (Q : Exit → Slots → Mem → Prop) (M : Mem) (v0 : V) (v4 : V) (v6 : V) (v7 : V) : Prop :=
  @OptVH (binV .add .none v7 (.int .i64 1)) ⟨fun t28_2 =>
  Q .normal [(0, v0), (4, v4), (6, v6), (7, t28_2)] M⟩
theorem e11_22 (P : Program) (Q : Exit → Slots → Mem → Prop) (s : Slots) (M : Mem) : wpC P c11_22 Q s M = w11_22 P Q M (sget s 0) (sget s 4) (sget s 6) (sget s 7) := by kernel_rfl
def c11_23 : ACode := (.seq c11_20 c11_22)
def c11_24 : ACode := (.seq c11_17 c11_23)
def c11_25 : ACode := (.loop [0, 4, 6, 7] c11_24)
def c11_26 : ACode := (.block 0 c11_25)
def c11_27 : ACode := (.seq c11_15 c11_26)
def o11_28 : List AOper := [⟨some 35, (.load 3 true (.tmp 6)), false, none⟩,
  ⟨none, (.store 3 (.tmp 4) (.tmp 35)), false, none⟩,
  ⟨some 5, (.mov (.const (.int .i64 0))), false, none⟩]
def c11_29 : ACode := (.region o11_28 [4, 5])
def w11_29 (_P : Program) (Q : Exit → Slots → Mem → Prop) (M : Mem) (v4 : V) (v6 : V) : Prop :=
  @OptVH (loadV 3 true v6 M) ⟨fun t35_1 =>
  @OptMH (storeVM 3 v4 t35_1 M) ⟨fun _tx_2 M2 =>
  Q .normal [(4, v4), (5, (.int .i64 0))] M2⟩⟩
theorem e11_29 (P : Program) (Q : Exit → Slots → Mem → Prop) (s : Slots) (M : Mem) : wpC P c11_29 Q s M = w11_29 P Q M (sget s 4) (sget s 6) := by kernel_rfl
def c11_30 : ACode := (.seq c11_29 .ret)
def c11_31 : ACode := (.seq c11_27 c11_30)
def c11_32 : ACode := (.seq c11_13 c11_31)
def c11_33 : ACode := (.seq c11_11 c11_32)
def c11_34 : ACode := (.seq c11_6 c11_33)
def c11_35 : ACode := (.seq c11_1 c11_34)
def fn_transitref32_New : AFn := ⟨36, [(.cell 4 3 true), (.tmp 5)], c11_35⟩
theorem fn_transitref32_New_ok : resFn PR h_transitref32_New i_transitref32_New = some fn_transitref32_New := by kernel_rfl

def h_transitlaw32_exampleHolds : Hints := ⟨[(0, []), (1, [1, 2]), (2, [1, 17]), (3, [0]), (4, [1, 3]), (5, [1, 3, 4]), (6, [1, 3, 4, 5]), (7, [1, 3, 4, 5, 6, 7]), (8, [0])], [], []⟩
def o12_0 : List AOper := [⟨some 0, (.mov (.const (.bool false))), true, none⟩]
def c12_1 : ACode := (.region o12_0 [])
def w12_1 (_P : Program) (Q : Exit → Slots → Mem → Prop) (M : Mem) : Prop :=
  Q .normal [] M
theorem e12_1 (P : Program) (Q : Exit → Slots → Mem → Prop) (s : Slots) (M : Mem) : wpC P c12_1 Q s M = w12_1 P Q M := by kernel_rfl
def o12_2 : List AOper := [⟨some 9, (.call i_inbox_New [(.const (.int .i64 2)), (.const (.int .i64 300))]), false, none⟩,
  ⟨some 8, (.mov (.tmp 9)), false, none⟩,
  ⟨some 10, (.extract (.tmp 8) 0), false, none⟩,
  ⟨some 11, (.extract (.tmp 8) 1), false, none⟩,
  ⟨some 1, (.mov (.tmp 10)), false, none⟩,
  ⟨some 2, (.mov (.tmp 11)), false, none⟩]
def c12_3 : ACode := (.region o12_2 [1, 2])
def w12_3 (P : Program) (Q : Exit → Slots → Mem → Prop) (M : Mem) : Prop :=
  @CallH P i_inbox_New [(.int .i64 2), (.int .i64 300)] M ⟨fun t9_1 M1 =>
  @OptVH (extractV t9_1 0) ⟨fun t10_3 =>
  @OptVH (extractV t9_1 1) ⟨fun t11_4 =>
  Q .normal [(1, t10_3), (2, t11_4)] M1⟩⟩⟩
theorem e12_3 (P : Program) (Q : Exit → Slots → Mem → Prop) (s : Slots) (M : Mem) : wpC P c12_3 Q s M = w12_3 P Q M := by kernel_rfl
def o12_4 : List AOper := [⟨some 0, (.mov (.const (.bool false))), true, none⟩]
def c12_5 : ACode := (.region o12_4 [0])
def w12_5 (_P : Program) (Q : Exit → Slots → Mem → Prop) (M : Mem) : Prop :=
  Q .normal [(0, (.bool false))] M
theorem e12_5 (P : Program) (Q : Exit → Slots → Mem → Prop) (s : Slots) (M : Mem) : wpC P c12_5 Q s M = w12_5 P Q M := by kernel_rfl
def c12_6 : ACode := (.seq c12_5 .ret)
def o12_7 : List AOper := [⟨some 12, (.mov (.tmp 1)), false, none⟩,
  ⟨some 13, (.bin .eql .ptr (.tmp 12) (.const .nilp)), true, none⟩,
  ⟨some 14, (.mov (.tmp 13)), true, none⟩,
  ⟨some 15, (.mov (.tmp 2)), false, some (14, false)⟩,
  ⟨some 16, (.bin .neq .none (.tmp 15) (.const (.int .i64 0))), true, some (14, false)⟩,
  ⟨some 17, (.pick (.tmp 14) (.const (.bool true)) (.tmp 16)), true, none⟩]
def c12_8 : ACode := (.seq (.region o12_7 [1, 17]) (.cond (.tmp 17) c12_6 .skip))
def w12_8 (P : Program) (Q : Exit → Slots → Mem → Prop) (M : Mem) (v1 : V) (v2 : V) : Prop :=
  @OptBH (binV .eql .ptr v1 .nilp) ⟨fun b13_2 =>
  @BIfH b13_2
  ⟨wpC P c12_6 Q [(1, v1), (17, (.bool true))] M⟩
  ⟨@OptBH (binV .neq .none v2 (.int .i64 0)) ⟨fun b16_6 =>
  @BIfH b16_6
  ⟨wpC P c12_6 Q [(1, v1), (17, (.bool b16_6))] M⟩
  ⟨Q .normal [(1, v1), (17, (.bool b16_6))] M⟩⟩⟩⟩
theorem e12_8 (P : Program) (Q : Exit → Slots → Mem → Prop) (s : Slots) (M : Mem) : wpC P c12_8 Q s M = w12_8 P Q M (sget s 1) (sget s 2) := by kernel_rfl
def o12_9 : List AOper := [⟨some 18, (.mov (.tmp 1)), false, none⟩,
  ⟨some 19, (.call i_transitlaw32_message [(.const (.int .i64 0)), (.const (.int .i64 1)), (.const (.int .i64 900)), (.const (.int .i64 5000))]), false, none⟩,
  ⟨some 20, (.call i_inbox_Inbox_Receive [(.tmp 18), (.tmp 19), (.const (.int .i64 1000))]), false, none⟩,
  ⟨some 3, (.mov (.tmp 20)), false, none⟩]
def c12_10 : ACode := (.region o12_9 [1, 3])
def w12_10 (P : Program) (Q : Exit → Slots → Mem → Prop) (M : Mem) (v1 : V) : Prop :=
  @CallH P i_transitlaw32_message [(.int .i64 0), (.int .i64 1), (.int .i64 900), (.int .i64 5000)] M ⟨fun t19_2 M2 =>
  @CallH P i_inbox_Inbox_Receive [v1, t19_2, (.int .i64 1000)] M2 ⟨fun t20_3 M3 =>
  Q .normal [(1, v1), (3, t20_3)] M3⟩⟩
theorem e12_10 (P : Program) (Q : Exit → Slots → Mem → Prop) (s : Slots) (M : Mem) : wpC P c12_10 Q s M = w12_10 P Q M (sget s 1) := by kernel_rfl
def o12_11 : List AOper := [⟨some 21, (.mov (.tmp 1)), false, none⟩,
  ⟨some 22, (.call i_transitlaw32_message [(.const (.int .i64 0)), (.const (.int .i64 1)), (.const (.int .i64 900)), (.const (.int .i64 5000))]), false, none⟩,
  ⟨some 23, (.call i_inbox_Inbox_Receive [(.tmp 21), (.tmp 22), (.const (.int .i64 1000))]), false, none⟩,
  ⟨some 4, (.mov (.tmp 23)), false, none⟩]
def c12_12 : ACode := (.region o12_11 [1, 3, 4])
def w12_12 (P : Program) (Q : Exit → Slots → Mem → Prop) (M : Mem) (v1 : V) (v3 : V) : Prop :=
  @CallH P i_transitlaw32_message [(.int .i64 0), (.int .i64 1), (.int .i64 900), (.int .i64 5000)] M ⟨fun t22_2 M2 =>
  @CallH P i_inbox_Inbox_Receive [v1, t22_2, (.int .i64 1000)] M2 ⟨fun t23_3 M3 =>
  Q .normal [(1, v1), (3, v3), (4, t23_3)] M3⟩⟩
theorem e12_12 (P : Program) (Q : Exit → Slots → Mem → Prop) (s : Slots) (M : Mem) : wpC P c12_12 Q s M = w12_12 P Q M (sget s 1) (sget s 3) := by kernel_rfl
def o12_13 : List AOper := [⟨some 24, (.mov (.tmp 1)), false, none⟩,
  ⟨some 25, (.call i_transitlaw32_message [(.const (.int .i64 1)), (.const (.int .i64 7)), (.const (.int .i64 900)), (.const (.int .i64 5000))]), false, none⟩,
  ⟨some 26, (.call i_inbox_Inbox_Receive [(.tmp 24), (.tmp 25), (.const (.int .i64 1200))]), false, none⟩,
  ⟨some 5, (.mov (.tmp 26)), false, none⟩]
def c12_14 : ACode := (.region o12_13 [1, 3, 4, 5])
def w12_14 (P : Program) (Q : Exit → Slots → Mem → Prop) (M : Mem) (v1 : V) (v3 : V) (v4 : V) : Prop :=
  @CallH P i_transitlaw32_message [(.int .i64 1), (.int .i64 7), (.int .i64 900), (.int .i64 5000)] M ⟨fun t25_2 M2 =>
  @CallH P i_inbox_Inbox_Receive [v1, t25_2, (.int .i64 1200)] M2 ⟨fun t26_3 M3 =>
  Q .normal [(1, v1), (3, v3), (4, v4), (5, t26_3)] M3⟩⟩
theorem e12_14 (P : Program) (Q : Exit → Slots → Mem → Prop) (s : Slots) (M : Mem) : wpC P c12_14 Q s M = w12_14 P Q M (sget s 1) (sget s 3) (sget s 4) := by kernel_rfl
def o12_15 : List AOper := [⟨some 27, (.mov (.tmp 1)), false, none⟩,
  ⟨some 28, (.call i_inbox_Inbox_Active [(.tmp 27), (.const (.int .i64 1300))]), false, none⟩,
  ⟨some 29, (.mov (.tmp 1)), false, none⟩,
  ⟨some 30, (.call i_inbox_Inbox_Active [(.tmp 29), (.const (.int .i64 1301))]), false, none⟩,
  ⟨some 6, (.mov (.tmp 28)), false, none⟩,
  ⟨some 7, (.mov (.tmp 30)), false, none⟩]
def c12_16 : ACode := (.region o12_15 [1, 3, 4, 5, 6, 7])
def w12_16 (P : Program) (Q : Exit → Slots → Mem → Prop) (M : Mem) (v1 : V) (v3 : V) (v4 : V) (v5 : V) : Prop :=
  @CallH P i_inbox_Inbox_Active [v1, (.int .i64 1300)] M ⟨fun t28_2 M2 =>
  @CallH P i_inbox_Inbox_Active [v1, (.int .i64 1301)] M2 ⟨fun t30_4 M4 =>
  Q .normal [(1, v1), (3, v3), (4, v4), (5, v5), (6, t28_2), (7, t30_4)] M4⟩⟩
theorem e12_16 (P : Program) (Q : Exit → Slots → Mem → Prop) (s : Slots) (M : Mem) : wpC P c12_16 Q s M = w12_16 P Q M (sget s 1) (sget s 3) (sget s 4) (sget s 5) := by kernel_rfl
def o12_17 : List AOper := [⟨some 31, (.mov (.tmp 3)), false, none⟩,
  ⟨some 32, (.bin .eql .none (.tmp 31) (.const (.int .i64 0))), true, none⟩,
  ⟨some 33, (.mov (.tmp 32)), true, none⟩,
  ⟨some 34, (.mov (.tmp 4)), false, some (33, true)⟩,
  ⟨some 35, (.bin .eql .none (.tmp 34) (.const (.int .i64 37))), true, some (33, true)⟩,
  ⟨some 36, (.pick (.tmp 33) (.tmp 35) (.const (.bool false))), true, none⟩,
  ⟨some 37, (.mov (.tmp 36)), true, none⟩,
  ⟨some 38, (.mov (.tmp 5)), false, some (37, true)⟩,
  ⟨some 39, (.bin .eql .none (.tmp 38) (.const (.int .i64 0))), true, some (37, true)⟩,
  ⟨some 40, (.pick (.tmp 37) (.tmp 39) (.const (.bool false))), true, none⟩,
  ⟨some 41, (.mov (.tmp 40)), true, none⟩,
  ⟨some 42, (.mov (.tmp 6)), false, some (41, true)⟩,
  ⟨some 43, (.lenSl (.tmp 42)), false, some (41, true)⟩,
  ⟨some 44, (.bin .eql .none (.tmp 43) (.const (.int .i64 1))), true, some (41, true)⟩,
  ⟨some 45, (.pick (.tmp 41) (.tmp 44) (.const (.bool false))), true, none⟩,
  ⟨some 46, (.mov (.tmp 45)), true, none⟩,
  ⟨some 47, (.mov (.tmp 6)), false, some (46, true)⟩,
  ⟨some 48, (.indexSl 13 (.tmp 47) (.const (.int .i64 0))), false, some (46, true)⟩,
  ⟨some 49, (.fieldAddr 0 (.tmp 48)), false, some (46, true)⟩,
  ⟨some 50, (.load 1 false (.tmp 49)), false, some (46, true)⟩,
  ⟨some 51, (.bin .eql .none (.tmp 50) (.const (.int .i64 0))), true, some (46, true)⟩,
  ⟨some 52, (.pick (.tmp 46) (.tmp 51) (.const (.bool false))), true, none⟩,
  ⟨some 53, (.mov (.tmp 52)), true, none⟩,
  ⟨some 54, (.mov (.tmp 7)), false, some (53, true)⟩,
  ⟨some 55, (.lenSl (.tmp 54)), false, some (53, true)⟩,
  ⟨some 56, (.bin .eql .none (.tmp 55) (.const (.int .i64 1))), true, some (53, true)⟩,
  ⟨some 57, (.pick (.tmp 53) (.tmp 56) (.const (.bool false))), true, none⟩,
  ⟨some 58, (.mov (.tmp 57)), true, none⟩,
  ⟨some 59, (.mov (.tmp 7)), false, some (58, true)⟩,
  ⟨some 60, (.indexSl 13 (.tmp 59) (.const (.int .i64 0))), false, some (58, true)⟩,
  ⟨some 61, (.fieldAddr 0 (.tmp 60)), false, some (58, true)⟩,
  ⟨some 62, (.load 1 false (.tmp 61)), false, some (58, true)⟩,
  ⟨some 63, (.bin .eql .none (.tmp 62) (.const (.int .i64 1))), true, some (58, true)⟩,
  ⟨some 64, (.pick (.tmp 58) (.tmp 63) (.const (.bool false))), true, none⟩,
  ⟨some 65, (.mov (.tmp 64)), true, none⟩,
  ⟨some 66, (.mov (.tmp 1)), false, some (65, true)⟩,
  ⟨some 67, (.call i_inbox_Inbox_Failed [(.tmp 66), (.const (.int .i64 0)), (.const (.int .i64 1301))]), true, some (65, true)⟩,
  ⟨some 68, (.pick (.tmp 65) (.tmp 67) (.const (.bool false))), true, none⟩,
  ⟨some 69, (.mov (.tmp 68)), true, none⟩,
  ⟨some 70, (.mov (.tmp 1)), false, some (69, true)⟩,
  ⟨some 71, (.call i_inbox_Inbox_Failed [(.tmp 70), (.const (.int .i64 0)), (.const (.int .i64 1300))]), true, some (69, true)⟩,
  ⟨some 72, (.un .not (.tmp 71)), true, some (69, true)⟩,
  ⟨some 73, (.pick (.tmp 69) (.tmp 72) (.const (.bool false))), true, none⟩,
  ⟨some 0, (.mov (.tmp 73)), true, none⟩]
def c12_18 : ACode := (.region o12_17 [0])
def w12_18 (P : Program) (Q : Exit → Slots → Mem → Prop) (M : Mem) (v1 : V) (v3 : V) (v4 : V) (v5 : V) (v6 : V) (v7 : V) : Prop :=
  @OptBH (binV .eql .none v3 (.int .i64 0)) ⟨fun b32_2 =>
  @BIfH b32_2
  ⟨@OptBH (binV .eql .none v4 (.int .i64 37)) ⟨fun b35_5 =>
  @BIfH b35_5
  ⟨@OptBH (binV .eql .none v5 (.int .i64 0)) ⟨fun b39_9 =>
  @BIfH b39_9
  ⟨@OptVH (lenV v6 M) ⟨fun t43_13 =>
  @OptBH (binV .eql .none t43_13 (.int .i64 1)) ⟨fun b44_14 =>
  @BIfH b44_14
  ⟨@OptVH (indexSlV 13 v6 (.int .i64 0) M) ⟨fun t48_18 =>
  @OptVH (moveV 0 t48_18) ⟨fun t49_19 =>
  @OptVH (loadV 1 false t49_19 M) ⟨fun t50_20 =>
  @OptBH (binV .eql .none t50_20 (.int .i64 0)) ⟨fun b51_21 =>
  @BIfH b51_21
  ⟨@OptVH (lenV v7 M) ⟨fun t55_25 =>
  @OptBH (binV .eql .none t55_25 (.int .i64 1)) ⟨fun b56_26 =>
  @BIfH b56_26
  ⟨@OptVH (indexSlV 13 v7 (.int .i64 0) M) ⟨fun t60_30 =>
  @OptVH (moveV 0 t60_30) ⟨fun t61_31 =>
  @OptVH (loadV 1 false t61_31 M) ⟨fun t62_32 =>
  @OptBH (binV .eql .none t62_32 (.int .i64 1)) ⟨fun b63_33 =>
  @BIfH b63_33
  ⟨@CallH P i_inbox_Inbox_Failed [v1, (.int .i64 0), (.int .i64 1301)] M ⟨fun t67_37 M37 => @OptBH (some t67_37) ⟨fun b67_37 =>
  @BIfH b67_37
  ⟨@CallH P i_inbox_Inbox_Failed [v1, (.int .i64 0), (.int .i64 1300)] M37 ⟨fun t71_41 M41 => @OptBH (some t71_41) ⟨fun b71_41 =>
  @OptBH (unV .not (.bool b71_41)) ⟨fun b72_42 =>
  Q .normal [(0, (.bool b72_42))] M41⟩⟩⟩⟩
  ⟨Q .normal [(0, (.bool false))] M37⟩⟩⟩⟩
  ⟨Q .normal [(0, (.bool false))] M⟩⟩⟩⟩⟩⟩
  ⟨Q .normal [(0, (.bool false))] M⟩⟩⟩⟩
  ⟨Q .normal [(0, (.bool false))] M⟩⟩⟩⟩⟩⟩
  ⟨Q .normal [(0, (.bool false))] M⟩⟩⟩⟩
  ⟨Q .normal [(0, (.bool false))] M⟩⟩⟩
  ⟨Q .normal [(0, (.bool false))] M⟩⟩⟩
  ⟨Q .normal [(0, (.bool false))] M⟩⟩
theorem e12_18 (P : Program) (Q : Exit → Slots → Mem → Prop) (s : Slots) (M : Mem) : wpC P c12_18 Q s M = w12_18 P Q M (sget s 1) (sget s 3) (sget s 4) (sget s 5) (sget s 6) (sget s 7) := by kernel_rfl
def c12_19 : ACode := (.seq c12_18 .ret)
def c12_20 : ACode := (.seq c12_16 c12_19)
def c12_21 : ACode := (.seq c12_14 c12_20)
def c12_22 : ACode := (.seq c12_12 c12_21)
def c12_23 : ACode := (.seq c12_10 c12_22)
def c12_24 : ACode := (.seq c12_8 c12_23)
def c12_25 : ACode := (.seq c12_3 c12_24)
def c12_26 : ACode := (.seq c12_1 c12_25)
def fn_transitlaw32_exampleHolds : AFn := ⟨74, [(.tmp 0)], c12_26⟩
theorem fn_transitlaw32_exampleHolds_ok : resFn PR h_transitlaw32_exampleHolds i_transitlaw32_exampleHolds = some fn_transitlaw32_exampleHolds := by kernel_rfl

def h_transitlaw32_played : Hints := ⟨[(0, [0, 1]), (1, [1, 5, 6]), (2, [1, 5, 19]), (3, [4]), (4, [5, 20, 21, 22]), (5, [5, 20, 21, 22, 23]), (6, [5, 8, 20, 21, 22]), (7, [5, 8, 20, 21, 22, 28]), (8, [5, 8, 20, 21, 22]), (9, [5, 8, 20, 21, 22, 37]), (10, [5, 20, 21, 22]), (11, [5, 20, 21, 22]), (12, [4])], [(5, [5, 20, 21, 22])], []⟩
def o13_0 : List AOper := [⟨some 4, (.mov (.const .nilp)), false, none⟩]
def c13_1 : ACode := (.region o13_0 [0, 1])
def w13_1 (_P : Program) (Q : Exit → Slots → Mem → Prop) (M : Mem) (v0 : V) (v1 : V) : Prop :=
  Q .normal [(0, v0), (1, v1)] M
theorem e13_1 (P : Program) (Q : Exit → Slots → Mem → Prop) (s : Slots) (M : Mem) : wpC P c13_1 Q s M = w13_1 P Q M (sget s 0) (sget s 1) := by kernel_rfl
def o13_2 : List AOper := [⟨some 10, (.mov (.tmp 0)), false, none⟩,
  ⟨some 11, (.call i_inbox_New [(.const (.int .i64 3)), (.tmp 10)]), false, none⟩,
  ⟨some 9, (.mov (.tmp 11)), false, none⟩,
  ⟨some 12, (.extract (.tmp 9) 0), false, none⟩,
  ⟨some 13, (.extract (.tmp 9) 1), false, none⟩,
  ⟨some 5, (.mov (.tmp 12)), false, none⟩,
  ⟨some 6, (.mov (.tmp 13)), false, none⟩]
def c13_3 : ACode := (.region o13_2 [1, 5, 6])
def w13_3 (P : Program) (Q : Exit → Slots → Mem → Prop) (M : Mem) (v0 : V) (v1 : V) : Prop :=
  @CallH P i_inbox_New [(.int .i64 3), v0] M ⟨fun t11_2 M2 =>
  @OptVH (extractV t11_2 0) ⟨fun t12_4 =>
  @OptVH (extractV t11_2 1) ⟨fun t13_5 =>
  Q .normal [(1, v1), (5, t12_4), (6, t13_5)] M2⟩⟩⟩
theorem e13_3 (P : Program) (Q : Exit → Slots → Mem → Prop) (s : Slots) (M : Mem) : wpC P c13_3 Q s M = w13_3 P Q M (sget s 0) (sget s 1) := by kernel_rfl
def o13_4 : List AOper := [⟨some 4, (.mov (.const .nilp)), false, none⟩]
def c13_5 : ACode := (.region o13_4 [4])
def w13_5 (_P : Program) (Q : Exit → Slots → Mem → Prop) (M : Mem) : Prop :=
  Q .normal [(4, .nilp)] M
theorem e13_5 (P : Program) (Q : Exit → Slots → Mem → Prop) (s : Slots) (M : Mem) : wpC P c13_5 Q s M = w13_5 P Q M := by kernel_rfl
def c13_6 : ACode := (.seq c13_5 .ret)
def o13_7 : List AOper := [⟨some 14, (.mov (.tmp 6)), false, none⟩,
  ⟨some 15, (.bin .neq .none (.tmp 14) (.const (.int .i64 0))), true, none⟩,
  ⟨some 16, (.mov (.tmp 15)), true, none⟩,
  ⟨some 17, (.mov (.tmp 5)), false, some (16, false)⟩,
  ⟨some 18, (.bin .eql .ptr (.tmp 17) (.const .nilp)), true, some (16, false)⟩,
  ⟨some 19, (.pick (.tmp 16) (.const (.bool true)) (.tmp 18)), true, none⟩]
def c13_8 : ACode := (.seq (.region o13_7 [1, 5, 19]) (.cond (.tmp 19) c13_6 .skip))
def w13_8 (P : Program) (Q : Exit → Slots → Mem → Prop) (M : Mem) (v1 : V) (v5 : V) (v6 : V) : Prop :=
  @OptBH (binV .neq .none v6 (.int .i64 0)) ⟨fun b15_2 =>
  @BIfH b15_2
  ⟨wpC P c13_6 Q [(1, v1), (5, v5), (19, (.bool true))] M⟩
  ⟨@OptBH (binV .eql .ptr v5 .nilp) ⟨fun b18_6 =>
  @BIfH b18_6
  ⟨wpC P c13_6 Q [(1, v1), (5, v5), (19, (.bool b18_6))] M⟩
  ⟨Q .normal [(1, v1), (5, v5), (19, (.bool b18_6))] M⟩⟩⟩⟩
theorem e13_8 (P : Program) (Q : Exit → Slots → Mem → Prop) (s : Slots) (M : Mem) : wpC P c13_8 Q s M = w13_8 P Q M (sget s 1) (sget s 5) (sget s 6) := by kernel_rfl
def o13_9 : List AOper := [⟨some 20, (.mov (.tmp 1)), false, none⟩,
  ⟨some 21, (.lenSl (.tmp 20)), false, none⟩,
  ⟨some 22, (.mov (.const (.int .i64 0))), false, none⟩]
def c13_10 : ACode := (.region o13_9 [5, 20, 21, 22])
def w13_10 (_P : Program) (Q : Exit → Slots → Mem → Prop) (M : Mem) (v1 : V) (v5 : V) : Prop :=
  @OptVH (lenV v1 M) ⟨fun t21_2 =>
  Q .normal [(5, v5), (20, v1), (21, t21_2), (22, (.int .i64 0))] M⟩
theorem e13_10 (P : Program) (Q : Exit → Slots → Mem → Prop) (s : Slots) (M : Mem) : wpC P c13_10 Q s M = w13_10 P Q M (sget s 1) (sget s 5) := by kernel_rfl
def o13_11 : List AOper := [⟨some 23, (.bin .lss .none (.tmp 22) (.tmp 21)), false, none⟩]
def c13_12 : ACode := (.region o13_11 [5, 20, 21, 22, 23])
def w13_12 (_P : Program) (Q : Exit → Slots → Mem → Prop) (M : Mem) (v5 : V) (v20 : V) (v21 : V) (v22 : V) : Prop :=
  @OptVH (binV .lss .none v22 v21) ⟨fun t23_1 =>
  Q .normal [(5, v5), (20, v20), (21, v21), (22, v22), (23, t23_1)] M⟩
theorem e13_12 (P : Program) (Q : Exit → Slots → Mem → Prop) (s : Slots) (M : Mem) : wpC P c13_12 Q s M = w13_12 P Q M (sget s 5) (sget s 20) (sget s 21) (sget s 22) := by kernel_rfl
def c13_13 : ACode := (.cond (.tmp 23) .skip (.exit 0))
def o13_14 : List AOper := [⟨some 24, (.indexSl 16 (.tmp 20) (.tmp 22)), false, none⟩,
  ⟨some 25, (.load 16 true (.tmp 24)), false, none⟩,
  ⟨some 8, (.alloc [(.int .i64 0), (.int .i64 0), (.int .i64 0), (.int .i64 0), (.int .i64 0), (.int .i64 0), (.str []), (.int .i64 0), (.int .i64 0), (.int .i64 0), (.int .i64 0), (.int .i64 0), (.bool false), (.slice [] .nil), (.int .i64 0), (.int .i64 0)]), false, none⟩,
  ⟨none, (.store 16 (.tmp 8) (.tmp 25)), false, none⟩]
def c13_15 : ACode := (.region o13_14 [5, 8, 20, 21, 22])
def w13_15 (_P : Program) (Q : Exit → Slots → Mem → Prop) (M : Mem) (v5 : V) (v20 : V) (v21 : V) (v22 : V) : Prop :=
  @OptVH (indexSlV 16 v20 v22 M) ⟨fun t24_1 =>
  @OptVH (loadV 16 true t24_1 M) ⟨fun t25_2 =>
  @OptMH (allocV [(.int .i64 0), (.int .i64 0), (.int .i64 0), (.int .i64 0), (.int .i64 0), (.int .i64 0), (.str []), (.int .i64 0), (.int .i64 0), (.int .i64 0), (.int .i64 0), (.int .i64 0), (.bool false), (.slice [] .nil), (.int .i64 0), (.int .i64 0)] M) ⟨fun t8_3 M3 =>
  @OptMH (storeVM 16 t8_3 t25_2 M3) ⟨fun _tx_4 M4 =>
  Q .normal [(5, v5), (8, t8_3), (20, v20), (21, v21), (22, v22)] M4⟩⟩⟩⟩
theorem e13_15 (P : Program) (Q : Exit → Slots → Mem → Prop) (s : Slots) (M : Mem) : wpC P c13_15 Q s M = w13_15 P Q M (sget s 5) (sget s 20) (sget s 21) (sget s 22) := by kernel_rfl
def o13_16 : List AOper := [⟨some 29, (.mov (.tmp 5)), false, none⟩,
  ⟨some 30, (.fieldAddr 1 (.tmp 8)), false, none⟩,
  ⟨some 31, (.load 13 true (.tmp 30)), false, none⟩,
  ⟨some 32, (.fieldAddr 15 (.tmp 8)), false, none⟩,
  ⟨some 33, (.load 1 false (.tmp 32)), false, none⟩,
  ⟨some 34, (.call i_inbox_Inbox_Receive [(.tmp 29), (.tmp 31), (.tmp 33)]), false, none⟩]
def c13_17 : ACode := (.region o13_16 [5, 8, 20, 21, 22])
def w13_17 (P : Program) (Q : Exit → Slots → Mem → Prop) (M : Mem) (v5 : V) (v8 : V) (v20 : V) (v21 : V) (v22 : V) : Prop :=
  @OptVH (moveV 1 v8) ⟨fun t30_2 =>
  @OptVH (loadV 13 true t30_2 M) ⟨fun t31_3 =>
  @OptVH (moveV 15 v8) ⟨fun t32_4 =>
  @OptVH (loadV 1 false t32_4 M) ⟨fun t33_5 =>
  @CallH P i_inbox_Inbox_Receive [v5, t31_3, t33_5] M ⟨fun _t34_6 M6 =>
  Q .normal [(5, v5), (8, v8), (20, v20), (21, v21), (22, v22)] M6⟩⟩⟩⟩⟩
theorem e13_17 (P : Program) (Q : Exit → Slots → Mem → Prop) (s : Slots) (M : Mem) : wpC P c13_17 Q s M = w13_17 P Q M (sget s 5) (sget s 8) (sget s 20) (sget s 21) (sget s 22) := by kernel_rfl
def o13_18 : List AOper := [⟨some 26, (.fieldAddr 0 (.tmp 8)), false, none⟩,
  ⟨some 27, (.load 1 false (.tmp 26)), false, none⟩,
  ⟨some 28, (.bin .eql .none (.tmp 27) (.const (.int .i64 0))), true, none⟩]
def c13_19 : ACode := (.seq (.region o13_18 [5, 8, 20, 21, 22, 28]) (.cond (.tmp 28) c13_17 .skip))
def w13_19 (P : Program) (Q : Exit → Slots → Mem → Prop) (M : Mem) (v5 : V) (v8 : V) (v20 : V) (v21 : V) (v22 : V) : Prop :=
  @OptVH (moveV 0 v8) ⟨fun t26_1 =>
  @OptVH (loadV 1 false t26_1 M) ⟨fun t27_2 =>
  @OptBH (binV .eql .none t27_2 (.int .i64 0)) ⟨fun b28_3 =>
  @BIfH b28_3
  ⟨wpC P c13_17 Q [(5, v5), (8, v8), (20, v20), (21, v21), (22, v22), (28, (.bool b28_3))] M⟩
  ⟨Q .normal [(5, v5), (8, v8), (20, v20), (21, v21), (22, v22), (28, (.bool b28_3))] M⟩⟩⟩⟩
theorem e13_19 (P : Program) (Q : Exit → Slots → Mem → Prop) (s : Slots) (M : Mem) : wpC P c13_19 Q s M = w13_19 P Q M (sget s 5) (sget s 8) (sget s 20) (sget s 21) (sget s 22) := by kernel_rfl
def o13_20 : List AOper := [⟨some 38, (.mov (.tmp 5)), false, none⟩,
  ⟨some 39, (.fieldAddr 14 (.tmp 8)), false, none⟩,
  ⟨some 40, (.load 1 false (.tmp 39)), false, none⟩,
  ⟨some 41, (.fieldAddr 15 (.tmp 8)), false, none⟩,
  ⟨some 42, (.load 1 false (.tmp 41)), false, none⟩,
  ⟨some 43, (.call i_inbox_Inbox_Heartbeat [(.tmp 38), (.tmp 40), (.tmp 42)]), false, none⟩]
def c13_21 : ACode := (.region o13_20 [5, 20, 21, 22])
def w13_21 (P : Program) (Q : Exit → Slots → Mem → Prop) (M : Mem) (v5 : V) (v8 : V) (v20 : V) (v21 : V) (v22 : V) : Prop :=
  @OptVH (moveV 14 v8) ⟨fun t39_2 =>
  @OptVH (loadV 1 false t39_2 M) ⟨fun t40_3 =>
  @OptVH (moveV 15 v8) ⟨fun t41_4 =>
  @OptVH (loadV 1 false t41_4 M) ⟨fun t42_5 =>
  @CallH P i_inbox_Inbox_Heartbeat [v5, t40_3, t42_5] M ⟨fun _t43_6 M6 =>
  Q .normal [(5, v5), (20, v20), (21, v21), (22, v22)] M6⟩⟩⟩⟩⟩
theorem e13_21 (P : Program) (Q : Exit → Slots → Mem → Prop) (s : Slots) (M : Mem) : wpC P c13_21 Q s M = w13_21 P Q M (sget s 5) (sget s 8) (sget s 20) (sget s 21) (sget s 22) := by kernel_rfl
def o13_22 : List AOper := [⟨some 35, (.fieldAddr 0 (.tmp 8)), false, none⟩,
  ⟨some 36, (.load 1 false (.tmp 35)), false, none⟩,
  ⟨some 37, (.bin .eql .none (.tmp 36) (.const (.int .i64 1))), true, none⟩]
def c13_23 : ACode := (.seq (.region o13_22 [5, 8, 20, 21, 22, 37]) (.cond (.tmp 37) c13_21 .skip))
def w13_23 (P : Program) (Q : Exit → Slots → Mem → Prop) (M : Mem) (v5 : V) (v8 : V) (v20 : V) (v21 : V) (v22 : V) : Prop :=
  @OptVH (moveV 0 v8) ⟨fun t35_1 =>
  @OptVH (loadV 1 false t35_1 M) ⟨fun t36_2 =>
  @OptBH (binV .eql .none t36_2 (.int .i64 1)) ⟨fun b37_3 =>
  @BIfH b37_3
  ⟨wpC P c13_21 Q [(5, v5), (8, v8), (20, v20), (21, v21), (22, v22), (37, (.bool b37_3))] M⟩
  ⟨Q .normal [(5, v5), (8, v8), (20, v20), (21, v21), (22, v22), (37, (.bool b37_3))] M⟩⟩⟩⟩
theorem e13_23 (P : Program) (Q : Exit → Slots → Mem → Prop) (s : Slots) (M : Mem) : wpC P c13_23 Q s M = w13_23 P Q M (sget s 5) (sget s 8) (sget s 20) (sget s 21) (sget s 22) := by kernel_rfl
def c13_24 : ACode := (.seq c13_19 c13_23)
def c13_25 : ACode := (.seq c13_15 c13_24)
def c13_26 : ACode := (.block 1 c13_25)
def o13_27 : List AOper := [⟨some 44, (.bin .add .none (.tmp 22) (.const (.int .i64 1))), false, none⟩,
  ⟨some 22, (.mov (.tmp 44)), false, none⟩]
def c13_28 : ACode := (.region o13_27 [5, 20, 21, 22])
def w13_28 (_P : Program) (Q : Exit → Slots → Mem → Prop) (M : Mem) (v5 : V) (v20 : V) (v21 : V) (v22 : V) : Prop :=
  @OptVH (binV .add .none v22 (.int .i64 1)) ⟨fun t44_1 =>
  Q .normal [(5, v5), (20, v20), (21, v21), (22, t44_1)] M⟩
theorem e13_28 (P : Program) (Q : Exit → Slots → Mem → Prop) (s : Slots) (M : Mem) : wpC P c13_28 Q s M = w13_28 P Q M (sget s 5) (sget s 20) (sget s 21) (sget s 22) := by kernel_rfl
def c13_29 : ACode := (.seq c13_26 c13_28)
def c13_30 : ACode := (.seq c13_13 c13_29)
def c13_31 : ACode := (.seq c13_12 c13_30)
def c13_32 : ACode := (.loop [5, 20, 21, 22] c13_31)
def c13_33 : ACode := (.block 0 c13_32)
def c13_34 : ACode := (.seq c13_10 c13_33)
def o13_35 : List AOper := [⟨some 45, (.mov (.tmp 5)), false, none⟩,
  ⟨some 4, (.mov (.tmp 45)), false, none⟩]
def c13_36 : ACode := (.region o13_35 [4])
def w13_36 (_P : Program) (Q : Exit → Slots → Mem → Prop) (M : Mem) (v5 : V) : Prop :=
  Q .normal [(4, v5)] M
theorem e13_36 (P : Program) (Q : Exit → Slots → Mem → Prop) (s : Slots) (M : Mem) : wpC P c13_36 Q s M = w13_36 P Q M (sget s 5) := by kernel_rfl
def c13_37 : ACode := (.seq c13_36 .ret)
def c13_38 : ACode := (.seq c13_34 c13_37)
def c13_39 : ACode := (.seq c13_8 c13_38)
def c13_40 : ACode := (.seq c13_3 c13_39)
def c13_41 : ACode := (.seq c13_1 c13_40)
def fn_transitlaw32_played : AFn := ⟨46, [(.tmp 4)], c13_41⟩
theorem fn_transitlaw32_played_ok : resFn PR h_transitlaw32_played i_transitlaw32_played = some fn_transitlaw32_played := by kernel_rfl

def h_transitlaw32_small : Hints := ⟨[(0, [1]), (1, [2])], [], []⟩
def o15_0 : List AOper := [⟨some 1, (.box 13 (.tmp 0)), false, none⟩,
  ⟨some 2, (.mov (.const (.bool false))), true, none⟩]
def c15_1 : ACode := (.region o15_0 [1])
def w15_1 (_P : Program) (Q : Exit → Slots → Mem → Prop) (M : Mem) (v0 : V) : Prop :=
  @OptMH (boxV 13 v0 M) ⟨fun t1_1 M1 =>
  Q .normal [(1, t1_1)] M1⟩
theorem e15_1 (P : Program) (Q : Exit → Slots → Mem → Prop) (s : Slots) (M : Mem) : wpC P c15_1 Q s M = w15_1 P Q M (sget s 0) := by kernel_rfl
def o15_2 : List AOper := [⟨some 3, (.fieldAddr 12 (.tmp 1)), false, none⟩,
  ⟨some 4, (.load 1 false (.tmp 3)), false, none⟩,
  ⟨some 5, (.lenSl (.tmp 4)), false, none⟩,
  ⟨some 6, (.bin .leq .none (.tmp 5) (.const (.int .i64 40))), true, none⟩,
  ⟨some 7, (.mov (.tmp 6)), true, none⟩,
  ⟨some 8, (.fieldAddr 5 (.tmp 1)), false, some (7, true)⟩,
  ⟨some 9, (.load 1 false (.tmp 8)), false, some (7, true)⟩,
  ⟨some 10, (.lenStr (.tmp 9)), false, some (7, true)⟩,
  ⟨some 11, (.bin .leq .none (.tmp 10) (.const (.int .i64 256))), true, some (7, true)⟩,
  ⟨some 12, (.pick (.tmp 7) (.tmp 11) (.const (.bool false))), true, none⟩,
  ⟨some 2, (.mov (.tmp 12)), true, none⟩]
def c15_3 : ACode := (.region o15_2 [2])
def w15_3 (_P : Program) (Q : Exit → Slots → Mem → Prop) (M : Mem) (v1 : V) : Prop :=
  @OptVH (moveV 12 v1) ⟨fun t3_1 =>
  @OptVH (loadV 1 false t3_1 M) ⟨fun t4_2 =>
  @OptVH (lenV t4_2 M) ⟨fun t5_3 =>
  @OptBH (binV .leq .none t5_3 (.int .i64 40)) ⟨fun b6_4 =>
  @BIfH b6_4
  ⟨@OptVH (moveV 5 v1) ⟨fun t8_6 =>
  @OptVH (loadV 1 false t8_6 M) ⟨fun t9_7 =>
  @OptVH (lenStrV t9_7) ⟨fun t10_8 =>
  @OptBH (binV .leq .none t10_8 (.int .i64 256)) ⟨fun b11_9 =>
  Q .normal [(2, (.bool b11_9))] M⟩⟩⟩⟩⟩
  ⟨Q .normal [(2, (.bool false))] M⟩⟩⟩⟩⟩
theorem e15_3 (P : Program) (Q : Exit → Slots → Mem → Prop) (s : Slots) (M : Mem) : wpC P c15_3 Q s M = w15_3 P Q M (sget s 1) := by kernel_rfl
def c15_4 : ACode := (.seq c15_3 .ret)
def c15_5 : ACode := (.seq c15_1 c15_4)
def fn_transitlaw32_small : AFn := ⟨13, [(.tmp 2)], c15_5⟩
theorem fn_transitlaw32_small_ok : resFn PR h_transitlaw32_small i_transitlaw32_small = some fn_transitlaw32_small := by kernel_rfl

def h_inbox_Inbox_Receive : Hints := ⟨[(0, [0, 4, 5]), (1, [0, 4, 5, 11]), (2, [6]), (3, [0, 4, 5, 7]), (4, [0, 4, 5, 7, 17]), (5, [6]), (6, [0, 4, 5, 8]), (7, [0, 4, 5, 8, 27]), (8, [6]), (9, [0, 4, 5]), (10, [4, 5, 9]), (11, [4, 9]), (12, []), (13, [6])], [], []⟩
def o16_0 : List AOper := [⟨some 4, (.box 13 (.tmp 1)), false, none⟩,
  ⟨some 5, (.box 1 (.tmp 2)), false, none⟩,
  ⟨some 6, (.mov (.const (.int .i64 0))), false, none⟩]
def c16_1 : ACode := (.region o16_0 [0, 4, 5])
def w16_1 (_P : Program) (Q : Exit → Slots → Mem → Prop) (M : Mem) (v0 : V) (v1 : V) (v2 : V) : Prop :=
  @OptMH (boxV 13 v1 M) ⟨fun t4_1 M1 =>
  @OptMH (boxV 1 v2 M1) ⟨fun t5_2 M2 =>
  Q .normal [(0, v0), (4, t4_1), (5, t5_2)] M2⟩⟩
theorem e16_1 (P : Program) (Q : Exit → Slots → Mem → Prop) (s : Slots) (M : Mem) : wpC P c16_1 Q s M = w16_1 P Q M (sget s 0) (sget s 1) (sget s 2) := by kernel_rfl
def o16_2 : List AOper := [⟨some 6, (.mov (.const (.int .i64 40))), false, none⟩]
def c16_3 : ACode := (.region o16_2 [6])
def w16_3 (_P : Program) (Q : Exit → Slots → Mem → Prop) (M : Mem) : Prop :=
  Q .normal [(6, (.int .i64 40))] M
theorem e16_3 (P : Program) (Q : Exit → Slots → Mem → Prop) (s : Slots) (M : Mem) : wpC P c16_3 Q s M = w16_3 P Q M := by kernel_rfl
def c16_4 : ACode := (.seq c16_3 .ret)
def o16_5 : List AOper := [⟨some 10, (.mov (.tmp 0)), false, none⟩,
  ⟨some 11, (.bin .eql .ptr (.tmp 10) (.const .nilp)), true, none⟩]
def c16_6 : ACode := (.seq (.region o16_5 [0, 4, 5, 11]) (.cond (.tmp 11) c16_4 .skip))
def w16_6 (P : Program) (Q : Exit → Slots → Mem → Prop) (M : Mem) (v0 : V) (v4 : V) (v5 : V) : Prop :=
  @OptBH (binV .eql .ptr v0 .nilp) ⟨fun b11_2 =>
  @BIfH b11_2
  ⟨wpC P c16_4 Q [(0, v0), (4, v4), (5, v5), (11, (.bool b11_2))] M⟩
  ⟨Q .normal [(0, v0), (4, v4), (5, v5), (11, (.bool b11_2))] M⟩⟩
theorem e16_6 (P : Program) (Q : Exit → Slots → Mem → Prop) (s : Slots) (M : Mem) : wpC P c16_6 Q s M = w16_6 P Q M (sget s 0) (sget s 4) (sget s 5) := by kernel_rfl
def o16_7 : List AOper := [⟨some 12, (.mov (.tmp 0)), false, none⟩,
  ⟨some 13, (.load 13 true (.tmp 4)), false, none⟩,
  ⟨some 14, (.load 1 false (.tmp 5)), false, none⟩,
  ⟨some 15, (.call i_inbox_Inbox_refusal [(.tmp 12), (.tmp 13), (.tmp 14)]), false, none⟩,
  ⟨some 7, (.mov (.tmp 15)), false, none⟩]
def c16_8 : ACode := (.region o16_7 [0, 4, 5, 7])
def w16_8 (P : Program) (Q : Exit → Slots → Mem → Prop) (M : Mem) (v0 : V) (v4 : V) (v5 : V) : Prop :=
  @OptVH (loadV 13 true v4 M) ⟨fun t13_2 =>
  @OptVH (loadV 1 false v5 M) ⟨fun t14_3 =>
  @CallH P i_inbox_Inbox_refusal [v0, t13_2, t14_3] M ⟨fun t15_4 M4 =>
  Q .normal [(0, v0), (4, v4), (5, v5), (7, t15_4)] M4⟩⟩⟩
theorem e16_8 (P : Program) (Q : Exit → Slots → Mem → Prop) (s : Slots) (M : Mem) : wpC P c16_8 Q s M = w16_8 P Q M (sget s 0) (sget s 4) (sget s 5) := by kernel_rfl
def o16_9 : List AOper := [⟨some 18, (.mov (.tmp 7)), false, none⟩,
  ⟨some 6, (.mov (.tmp 18)), false, none⟩]
def c16_10 : ACode := (.region o16_9 [6])
def w16_10 (_P : Program) (Q : Exit → Slots → Mem → Prop) (M : Mem) (v7 : V) : Prop :=
  Q .normal [(6, v7)] M
theorem e16_10 (P : Program) (Q : Exit → Slots → Mem → Prop) (s : Slots) (M : Mem) : wpC P c16_10 Q s M = w16_10 P Q M (sget s 7) := by kernel_rfl
def c16_11 : ACode := (.seq c16_10 .ret)
def o16_12 : List AOper := [⟨some 16, (.mov (.tmp 7)), false, none⟩,
  ⟨some 17, (.bin .neq .none (.tmp 16) (.const (.int .i64 0))), true, none⟩]
def c16_13 : ACode := (.seq (.region o16_12 [0, 4, 5, 7, 17]) (.cond (.tmp 17) c16_11 .skip))
def w16_13 (P : Program) (Q : Exit → Slots → Mem → Prop) (M : Mem) (v0 : V) (v4 : V) (v5 : V) (v7 : V) : Prop :=
  @OptBH (binV .neq .none v7 (.int .i64 0)) ⟨fun b17_2 =>
  @BIfH b17_2
  ⟨wpC P c16_11 Q [(0, v0), (4, v4), (5, v5), (7, v7), (17, (.bool b17_2))] M⟩
  ⟨Q .normal [(0, v0), (4, v4), (5, v5), (7, v7), (17, (.bool b17_2))] M⟩⟩
theorem e16_13 (P : Program) (Q : Exit → Slots → Mem → Prop) (s : Slots) (M : Mem) : wpC P c16_13 Q s M = w16_13 P Q M (sget s 0) (sget s 4) (sget s 5) (sget s 7) := by kernel_rfl
def c16_14 : ACode := (.seq c16_8 c16_13)
def o16_15 : List AOper := [⟨some 19, (.mov (.tmp 0)), false, none⟩,
  ⟨some 20, (.nilCheck (.tmp 19)), false, none⟩,
  ⟨some 21, (.fieldAddr 2 (.tmp 20)), false, none⟩,
  ⟨some 22, (.load 1 false (.tmp 21)), false, none⟩,
  ⟨some 23, (.mkfn i_inbox_Inbox_Receive_1 [(.tmp 4), (.tmp 5)]), false, none⟩,
  ⟨some 24, (.call i_inbox_filtered [(.tmp 22), (.tmp 23)]), false, none⟩,
  ⟨some 8, (.mov (.tmp 24)), false, none⟩]
def c16_16 : ACode := (.region o16_15 [0, 4, 5, 8])
def w16_16 (P : Program) (Q : Exit → Slots → Mem → Prop) (M : Mem) (v0 : V) (v4 : V) (v5 : V) : Prop :=
  @OptVH (nilCheckV v0) ⟨fun t20_2 =>
  @OptVH (moveV 2 t20_2) ⟨fun t21_3 =>
  @OptVH (loadV 1 false t21_3 M) ⟨fun t22_4 =>
  @CallH P i_inbox_filtered [t22_4, (mkfnV i_inbox_Inbox_Receive_1 [v4, v5])] M ⟨fun t24_6 M6 =>
  Q .normal [(0, v0), (4, v4), (5, v5), (8, t24_6)] M6⟩⟩⟩⟩
theorem e16_16 (P : Program) (Q : Exit → Slots → Mem → Prop) (s : Slots) (M : Mem) : wpC P c16_16 Q s M = w16_16 P Q M (sget s 0) (sget s 4) (sget s 5) := by kernel_rfl
def o16_17 : List AOper := [⟨some 6, (.mov (.const (.int .i64 5))), false, none⟩]
def c16_18 : ACode := (.region o16_17 [6])
def w16_18 (_P : Program) (Q : Exit → Slots → Mem → Prop) (M : Mem) : Prop :=
  Q .normal [(6, (.int .i64 5))] M
theorem e16_18 (P : Program) (Q : Exit → Slots → Mem → Prop) (s : Slots) (M : Mem) : wpC P c16_18 Q s M = w16_18 P Q M := by kernel_rfl
def c16_19 : ACode := (.seq c16_18 .ret)
def o16_20 : List AOper := [⟨some 25, (.mov (.tmp 8)), false, none⟩,
  ⟨some 26, (.lenSl (.tmp 25)), false, none⟩,
  ⟨some 27, (.bin .geq .none (.tmp 26) (.const (.int .i64 256))), true, none⟩]
def c16_21 : ACode := (.seq (.region o16_20 [0, 4, 5, 8, 27]) (.cond (.tmp 27) c16_19 .skip))
def w16_21 (P : Program) (Q : Exit → Slots → Mem → Prop) (M : Mem) (v0 : V) (v4 : V) (v5 : V) (v8 : V) : Prop :=
  @OptVH (lenV v8 M) ⟨fun t26_2 =>
  @OptBH (binV .geq .none t26_2 (.int .i64 256)) ⟨fun b27_3 =>
  @BIfH b27_3
  ⟨wpC P c16_19 Q [(0, v0), (4, v4), (5, v5), (8, v8), (27, (.bool b27_3))] M⟩
  ⟨Q .normal [(0, v0), (4, v4), (5, v5), (8, v8), (27, (.bool b27_3))] M⟩⟩⟩
theorem e16_21 (P : Program) (Q : Exit → Slots → Mem → Prop) (s : Slots) (M : Mem) : wpC P c16_21 Q s M = w16_21 P Q M (sget s 0) (sget s 4) (sget s 5) (sget s 8) := by kernel_rfl
def o16_22 : List AOper := [⟨some 28, (.mov (.tmp 0)), false, none⟩,
  ⟨some 29, (.mov (.tmp 8)), false, none⟩,
  ⟨some 30, (.load 13 true (.tmp 4)), false, none⟩,
  ⟨some 31, (.call i_inbox_owned [(.tmp 30)]), false, none⟩,
  ⟨some 32, (.buildSlice [(.int .i64 0), (.int .i64 0), (.int .i64 0), (.int .i64 0), (.int .i64 0), (.str []), (.int .i64 0), (.int .i64 0), (.int .i64 0), (.int .i64 0), (.int .i64 0), (.bool false), (.slice [] .nil)] 13 1 [(0, (13, (.tmp 31)))]), false, none⟩,
  ⟨some 33, (.append false 13 128 (.tmp 29) (.tmp 32)), false, none⟩,
  ⟨some 34, (.nilCheck (.tmp 28)), false, none⟩,
  ⟨some 35, (.fieldAddr 2 (.tmp 34)), false, none⟩,
  ⟨none, (.store 1 (.tmp 35) (.tmp 33)), false, none⟩]
def c16_23 : ACode := (.region o16_22 [0, 4, 5])
def w16_23 (P : Program) (Q : Exit → Slots → Mem → Prop) (M : Mem) (v0 : V) (v4 : V) (v5 : V) (v8 : V) : Prop :=
  @OptVH (loadV 13 true v4 M) ⟨fun t30_3 =>
  @CallH P i_inbox_owned [t30_3] M ⟨fun t31_4 M4 =>
  @OptVH (buildSliceV [(.int .i64 0), (.int .i64 0), (.int .i64 0), (.int .i64 0), (.int .i64 0), (.str []), (.int .i64 0), (.int .i64 0), (.int .i64 0), (.int .i64 0), (.int .i64 0), (.bool false), (.slice [] .nil)] 13 1 [(0, 13, t31_4)]) ⟨fun t32_5 =>
  @OptMH (appV false 13 128 v8 t32_5 M4) ⟨fun t33_6 M6 =>
  @OptVH (nilCheckV v0) ⟨fun t34_7 =>
  @OptVH (moveV 2 t34_7) ⟨fun t35_8 =>
  @OptMH (storeVM 1 t35_8 t33_6 M6) ⟨fun _tx_9 M9 =>
  Q .normal [(0, v0), (4, v4), (5, v5)] M9⟩⟩⟩⟩⟩⟩⟩
theorem e16_23 (P : Program) (Q : Exit → Slots → Mem → Prop) (s : Slots) (M : Mem) : wpC P c16_23 Q s M = w16_23 P Q M (sget s 0) (sget s 4) (sget s 5) (sget s 8) := by kernel_rfl
def o16_24 : List AOper := [⟨some 36, (.mov (.tmp 0)), false, none⟩,
  ⟨some 37, (.nilCheck (.tmp 36)), false, none⟩,
  ⟨some 38, (.fieldAddr 0 (.tmp 37)), false, none⟩,
  ⟨some 39, (.load 1 false (.tmp 38)), false, none⟩,
  ⟨some 40, (.fieldAddr 0 (.tmp 4)), false, none⟩,
  ⟨some 41, (.load 1 false (.tmp 40)), false, none⟩,
  ⟨some 42, (.indexSl 4 (.tmp 39) (.tmp 41)), false, none⟩,
  ⟨some 9, (.mov (.tmp 42)), false, none⟩]
def c16_25 : ACode := (.mixed o16_24 [true, true, true, true, true, true, true, true] [4, 5, 9])
def w16_25 (_P : Program) (Q : Exit → Slots → Mem → Prop) (M : Mem) (v0 : V) (v4 : V) (v5 : V) : Prop :=
  @OptVH (nilCheckV v0) ⟨fun t37_2 =>
  @OptVH (moveV 0 t37_2) ⟨fun t38_3 =>
  @OptVH (loadV 1 false t38_3 M) ⟨fun t39_4 =>
  @OptVH (moveV 0 v4) ⟨fun t40_5 =>
  @OptVH (loadV 1 false t40_5 M) ⟨fun t41_6 =>
  @OptVH (indexSlV 4 t39_4 t41_6 M) ⟨fun t42_7 =>
  Q .normal [(4, v4), (5, v5), (9, t42_7)] M⟩⟩⟩⟩⟩⟩
theorem e16_25 (P : Program) (Q : Exit → Slots → Mem → Prop) (s : Slots) (M : Mem) : wpC P c16_25 Q s M = w16_25 P Q M (sget s 0) (sget s 4) (sget s 5) := by kernel_rfl
def o16_26 : List AOper := [⟨some 43, (.mov (.tmp 9)), false, none⟩,
  ⟨some 44, (.nilCheck (.tmp 43)), false, none⟩,
  ⟨some 45, (.fieldAddr 0 (.tmp 44)), false, none⟩,
  ⟨some 46, (.load 1 false (.tmp 5)), false, none⟩,
  ⟨some 47, (.call i_inbox_heard_hear [(.tmp 45), (.tmp 46)]), false, none⟩]
def c16_27 : ACode := (.mixed o16_26 [true, true, true, true, false] [4, 9])
def w16_27 (P : Program) (Q : Exit → Slots → Mem → Prop) (M : Mem) (v4 : V) (v5 : V) (v9 : V) : Prop :=
  @OptVH (nilCheckV v9) ⟨fun t44_2 =>
  @OptVH (moveV 0 t44_2) ⟨fun t45_3 =>
  @OptVH (loadV 1 false v5 M) ⟨fun t46_4 =>
  @CallH P i_inbox_heard_hear [t45_3, t46_4] M ⟨fun _t47_5 M5 =>
  Q .normal [(4, v4), (9, v9)] M5⟩⟩⟩⟩
theorem e16_27 (P : Program) (Q : Exit → Slots → Mem → Prop) (s : Slots) (M : Mem) : wpC P c16_27 Q s M = w16_27 P Q M (sget s 4) (sget s 5) (sget s 9) := by kernel_rfl
def o16_28 : List AOper := [⟨some 48, (.mov (.tmp 9)), false, none⟩,
  ⟨some 49, (.mov (.tmp 9)), false, none⟩,
  ⟨some 50, (.fieldAddr 1 (.tmp 4)), false, none⟩,
  ⟨some 51, (.load 1 false (.tmp 50)), false, none⟩,
  ⟨some 52, (.nilCheck (.tmp 48)), false, none⟩,
  ⟨some 53, (.fieldAddr 2 (.tmp 52)), false, none⟩,
  ⟨none, (.store 1 (.tmp 53) (.const (.bool true))), false, none⟩,
  ⟨some 54, (.nilCheck (.tmp 49)), false, none⟩,
  ⟨some 55, (.fieldAddr 3 (.tmp 54)), false, none⟩,
  ⟨none, (.store 1 (.tmp 55) (.tmp 51)), false, none⟩]
def c16_29 : ACode := (.float o16_28 [none, none, none, none, none, none, (some [1, 2, 3]), none, none, (some [])] [])
def w16_29 (_P : Program) (Q : Exit → Slots → Mem → Prop) (M : Mem) (v4 : V) (v9 : V) : Prop :=
  @OptVH (moveV 1 v4) ⟨fun t50_3 =>
  @OptVH (loadV 1 false t50_3 M) ⟨fun t51_4 =>
  @OptVH (nilCheckV v9) ⟨fun t52_5 =>
  @OptVH (moveV 2 t52_5) ⟨fun t53_6 =>
  @OptMH (storeVM 1 t53_6 (.bool true) M) ⟨fun _tx_7 M7 =>
  (some v9 = some v9 ∧ moveV 1 v4 = some t50_3 ∧ loadV 1 false t50_3 M7 = some t51_4 ∧ True) ∧ (@OptVH (nilCheckV v9) ⟨fun t54_8 =>
  @OptVH (moveV 3 t54_8) ⟨fun t55_9 =>
  @OptMH (storeVM 1 t55_9 t51_4 M7) ⟨fun _tx_10 M10 =>
  (True) ∧ (Q .normal [] M10)⟩⟩⟩)⟩⟩⟩⟩⟩
theorem e16_29 (P : Program) (Q : Exit → Slots → Mem → Prop) (s : Slots) (M : Mem) : wpC P c16_29 Q s M = w16_29 P Q M (sget s 4) (sget s 9) := by kernel_rfl
def o16_30 : List AOper := [⟨some 6, (.mov (.const (.int .i64 0))), false, none⟩]
def c16_31 : ACode := (.region o16_30 [6])
def w16_31 (_P : Program) (Q : Exit → Slots → Mem → Prop) (M : Mem) : Prop :=
  Q .normal [(6, (.int .i64 0))] M
theorem e16_31 (P : Program) (Q : Exit → Slots → Mem → Prop) (s : Slots) (M : Mem) : wpC P c16_31 Q s M = w16_31 P Q M := by kernel_rfl
def c16_32 : ACode := (.seq c16_31 .ret)
def c16_33 : ACode := (.seq c16_29 c16_32)
def c16_34 : ACode := (.seq c16_27 c16_33)
def c16_35 : ACode := (.seq c16_25 c16_34)
def c16_36 : ACode := (.seq c16_23 c16_35)
def c16_37 : ACode := (.seq c16_21 c16_36)
def c16_38 : ACode := (.seq c16_16 c16_37)
def c16_39 : ACode := (.seq c16_14 c16_38)
def c16_40 : ACode := (.seq c16_6 c16_39)
def c16_41 : ACode := (.seq c16_1 c16_40)
def fn_inbox_Inbox_Receive : AFn := ⟨56, [(.tmp 6)], c16_41⟩
theorem fn_inbox_Inbox_Receive_ok : resFn PR h_inbox_Inbox_Receive i_inbox_Inbox_Receive = some fn_inbox_Inbox_Receive := by kernel_rfl

def h_transitref32_Same : Hints := ⟨[(0, [0, 1]), (1, [0, 1, 10]), (2, [4]), (3, [0, 1, 5]), (4, [0, 1, 5, 14]), (5, [0, 1, 5]), (6, [0, 1, 5, 26]), (7, [4]), (8, [4])], [(4, [0, 1, 5])], []⟩
def o17_0 : List AOper := [⟨some 4, (.mov (.const (.bool false))), true, none⟩]
def c17_1 : ACode := (.region o17_0 [0, 1])
def w17_1 (_P : Program) (Q : Exit → Slots → Mem → Prop) (M : Mem) (v0 : V) (v1 : V) : Prop :=
  Q .normal [(0, v0), (1, v1)] M
theorem e17_1 (P : Program) (Q : Exit → Slots → Mem → Prop) (s : Slots) (M : Mem) : wpC P c17_1 Q s M = w17_1 P Q M (sget s 0) (sget s 1) := by kernel_rfl
def o17_2 : List AOper := [⟨some 4, (.mov (.const (.bool false))), true, none⟩]
def c17_3 : ACode := (.region o17_2 [4])
def w17_3 (_P : Program) (Q : Exit → Slots → Mem → Prop) (M : Mem) : Prop :=
  Q .normal [(4, (.bool false))] M
theorem e17_3 (P : Program) (Q : Exit → Slots → Mem → Prop) (s : Slots) (M : Mem) : wpC P c17_3 Q s M = w17_3 P Q M := by kernel_rfl
def c17_4 : ACode := (.seq c17_3 .ret)
def o17_5 : List AOper := [⟨some 6, (.mov (.tmp 0)), false, none⟩,
  ⟨some 7, (.lenSl (.tmp 6)), false, none⟩,
  ⟨some 8, (.mov (.tmp 1)), false, none⟩,
  ⟨some 9, (.lenSl (.tmp 8)), false, none⟩,
  ⟨some 10, (.bin .neq .none (.tmp 7) (.tmp 9)), true, none⟩]
def c17_6 : ACode := (.seq (.region o17_5 [0, 1, 10]) (.cond (.tmp 10) c17_4 .skip))
def w17_6 (P : Program) (Q : Exit → Slots → Mem → Prop) (M : Mem) (v0 : V) (v1 : V) : Prop :=
  @OptVH (lenV v0 M) ⟨fun t7_2 =>
  @OptVH (lenV v1 M) ⟨fun t9_4 =>
  @OptBH (binV .neq .none t7_2 t9_4) ⟨fun b10_5 =>
  @BIfH b10_5
  ⟨wpC P c17_4 Q [(0, v0), (1, v1), (10, (.bool b10_5))] M⟩
  ⟨Q .normal [(0, v0), (1, v1), (10, (.bool b10_5))] M⟩⟩⟩⟩
theorem e17_6 (P : Program) (Q : Exit → Slots → Mem → Prop) (s : Slots) (M : Mem) : wpC P c17_6 Q s M = w17_6 P Q M (sget s 0) (sget s 1) := by kernel_rfl
def o17_7 : List AOper := [⟨some 5, (.mov (.const (.int .i64 0))), false, none⟩]
def c17_8 : ACode := (.region o17_7 [0, 1, 5])
def w17_8 (_P : Program) (Q : Exit → Slots → Mem → Prop) (M : Mem) (v0 : V) (v1 : V) : Prop :=
  Q .normal [(0, v0), (1, v1), (5, (.int .i64 0))] M
theorem e17_8 (P : Program) (Q : Exit → Slots → Mem → Prop) (s : Slots) (M : Mem) : wpC P c17_8 Q s M = w17_8 P Q M (sget s 0) (sget s 1) := by kernel_rfl
def o17_9 : List AOper := [⟨some 11, (.mov (.tmp 5)), false, none⟩,
  ⟨some 12, (.mov (.tmp 0)), false, none⟩,
  ⟨some 13, (.lenSl (.tmp 12)), false, none⟩,
  ⟨some 14, (.bin .lss .none (.tmp 11) (.tmp 13)), true, none⟩]
def c17_10 : ACode := (.seq (.region o17_9 [0, 1, 5, 14]) (.cond (.tmp 14) .skip (.exit 0)))
def w17_10 (_P : Program) (Q : Exit → Slots → Mem → Prop) (M : Mem) (v0 : V) (v1 : V) (v5 : V) : Prop :=
  @OptVH (lenV v0 M) ⟨fun t13_3 =>
  @OptBH (binV .lss .none v5 t13_3) ⟨fun b14_4 =>
  @BIfH b14_4
  ⟨Q .normal [(0, v0), (1, v1), (5, v5), (14, (.bool b14_4))] M⟩
  ⟨Q (.exit 0) [(0, v0), (1, v1), (5, v5), (14, (.bool b14_4))] M⟩⟩⟩
theorem e17_10 (P : Program) (Q : Exit → Slots → Mem → Prop) (s : Slots) (M : Mem) : wpC P c17_10 Q s M = w17_10 P Q M (sget s 0) (sget s 1) (sget s 5) := by kernel_rfl
def o17_11 : List AOper := [⟨some 4, (.mov (.const (.bool false))), true, none⟩]
def c17_12 : ACode := (.region o17_11 [4])
def w17_12 (_P : Program) (Q : Exit → Slots → Mem → Prop) (M : Mem) : Prop :=
  Q .normal [(4, (.bool false))] M
theorem e17_12 (P : Program) (Q : Exit → Slots → Mem → Prop) (s : Slots) (M : Mem) : wpC P c17_12 Q s M = w17_12 P Q M := by kernel_rfl
def c17_13 : ACode := (.seq c17_12 .ret)
def o17_14 : List AOper := [⟨some 17, (.mov (.tmp 0)), false, none⟩,
  ⟨some 18, (.mov (.tmp 5)), false, none⟩,
  ⟨some 19, (.indexSl 13 (.tmp 17) (.tmp 18)), false, none⟩,
  ⟨some 20, (.load 13 true (.tmp 19)), false, none⟩,
  ⟨some 21, (.mov (.tmp 1)), false, none⟩,
  ⟨some 22, (.mov (.tmp 5)), false, none⟩,
  ⟨some 23, (.indexSl 13 (.tmp 21) (.tmp 22)), false, none⟩,
  ⟨some 24, (.load 13 true (.tmp 23)), false, none⟩,
  ⟨some 25, (.call i_transitref31_Equal [(.tmp 20), (.tmp 24)]), true, none⟩,
  ⟨some 26, (.un .not (.tmp 25)), true, none⟩]
def c17_15 : ACode := (.seq (.mixed o17_14 [true, true, true, true, true, true, true, true, false, true] [0, 1, 5, 26]) (.cond (.tmp 26) c17_13 .skip))
def w17_15 (P : Program) (Q : Exit → Slots → Mem → Prop) (M : Mem) (v0 : V) (v1 : V) (v5 : V) : Prop :=
  @OptVH (indexSlV 13 v0 v5 M) ⟨fun t19_3 =>
  @OptVH (loadV 13 true t19_3 M) ⟨fun t20_4 =>
  @OptVH (indexSlV 13 v1 v5 M) ⟨fun t23_7 =>
  @OptVH (loadV 13 true t23_7 M) ⟨fun t24_8 =>
  @CallH P i_transitref31_Equal [t20_4, t24_8] M ⟨fun t25_9 M9 => @OptBH (some t25_9) ⟨fun b25_9 =>
  @OptBH (unV .not (.bool b25_9)) ⟨fun b26_10 =>
  @BIfH b26_10
  ⟨wpC P c17_13 Q [(0, v0), (1, v1), (5, v5), (26, (.bool b26_10))] M9⟩
  ⟨Q .normal [(0, v0), (1, v1), (5, v5), (26, (.bool b26_10))] M9⟩⟩⟩⟩⟩⟩⟩⟩
theorem e17_15 (P : Program) (Q : Exit → Slots → Mem → Prop) (s : Slots) (M : Mem) : wpC P c17_15 Q s M = w17_15 P Q M (sget s 0) (sget s 1) (sget s 5) := by kernel_rfl
def c17_16 : ACode := (.block 1 c17_15)
def o17_17 : List AOper := [⟨some 15, (.mov (.tmp 5)), false, none⟩,
  ⟨some 16, (.bin .add .none (.tmp 15) (.const (.int .i64 1))), false, none⟩,
  ⟨some 5, (.mov (.tmp 16)), false, none⟩]
def c17_18 : ACode := (.region o17_17 [0, 1, 5])
def w17_18 (_P : Program) (Q : Exit → Slots → Mem → Prop) (M : Mem) (v0 : V) (v1 : V) (v5 : V) : Prop :=
  @OptVH (binV .add .none v5 (.int .i64 1)) ⟨fun t16_2 =>
  Q .normal [(0, v0), (1, v1), (5, t16_2)] M⟩
theorem e17_18 (P : Program) (Q : Exit → Slots → Mem → Prop) (s : Slots) (M : Mem) : wpC P c17_18 Q s M = w17_18 P Q M (sget s 0) (sget s 1) (sget s 5) := by kernel_rfl
def c17_19 : ACode := (.seq c17_16 c17_18)
def c17_20 : ACode := (.seq c17_10 c17_19)
def c17_21 : ACode := (.loop [0, 1, 5] c17_20)
def c17_22 : ACode := (.block 0 c17_21)
def c17_23 : ACode := (.seq c17_8 c17_22)
def o17_24 : List AOper := [⟨some 4, (.mov (.const (.bool true))), true, none⟩]
def c17_25 : ACode := (.region o17_24 [4])
def w17_25 (_P : Program) (Q : Exit → Slots → Mem → Prop) (M : Mem) : Prop :=
  Q .normal [(4, (.bool true))] M
theorem e17_25 (P : Program) (Q : Exit → Slots → Mem → Prop) (s : Slots) (M : Mem) : wpC P c17_25 Q s M = w17_25 P Q M := by kernel_rfl
def c17_26 : ACode := (.seq c17_25 .ret)
def c17_27 : ACode := (.seq c17_23 c17_26)
def c17_28 : ACode := (.seq c17_6 c17_27)
def c17_29 : ACode := (.seq c17_1 c17_28)
def fn_transitref32_Same : AFn := ⟨27, [(.tmp 4)], c17_29⟩
theorem fn_transitref32_Same_ok : resFn PR h_transitref32_Same i_transitref32_Same = some fn_transitref32_Same := by kernel_rfl

def h_inbox_Inbox_Active : Hints := ⟨[(0, [2, 3]), (1, [2, 3, 13]), (2, [4]), (3, [5]), (4, [5, 6]), (5, [5, 6, 20, 21, 22]), (6, [5, 6, 20, 21, 22, 23]), (7, [5, 6, 8, 20, 21, 22]), (8, [5, 6, 8, 9, 20, 21, 22]), (9, [5, 6, 8, 9, 20, 21, 22, 26, 27, 28]), (10, [5, 6, 8, 9, 20, 21, 22, 26, 27, 28, 29]), (11, [5, 6, 8, 9, 11, 20, 21, 22, 26, 27, 28]), (12, [5, 6, 8, 9, 20, 21, 22, 26, 27, 28]), (13, [5, 6, 8, 9, 20, 21, 22, 26, 27, 28]), (14, [5, 6, 8, 20, 21, 22, 47]), (15, [5, 6, 20, 21, 22]), (16, [5, 6, 20, 21, 22]), (17, [4])], [(6, [5, 6, 20, 21, 22]), (10, [5, 6, 8, 9, 20, 21, 22, 26, 27, 28])], []⟩
def o18_0 : List AOper := [⟨some 2, (.box 1 (.tmp 0)), false, none⟩,
  ⟨some 3, (.box 1 (.tmp 1)), false, none⟩,
  ⟨some 4, (.mov (.const (.slice [] .nil))), false, none⟩]
def c18_1 : ACode := (.region o18_0 [2, 3])
def w18_1 (_P : Program) (Q : Exit → Slots → Mem → Prop) (M : Mem) (v0 : V) (v1 : V) : Prop :=
  @OptMH (boxV 1 v0 M) ⟨fun t2_1 M1 =>
  @OptMH (boxV 1 v1 M1) ⟨fun t3_2 M2 =>
  Q .normal [(2, t2_1), (3, t3_2)] M2⟩⟩
theorem e18_1 (P : Program) (Q : Exit → Slots → Mem → Prop) (s : Slots) (M : Mem) : wpC P c18_1 Q s M = w18_1 P Q M (sget s 0) (sget s 1) := by kernel_rfl
def o18_2 : List AOper := [⟨some 4, (.mov (.const (.slice [] .nil))), false, none⟩]
def c18_3 : ACode := (.region o18_2 [4])
def w18_3 (_P : Program) (Q : Exit → Slots → Mem → Prop) (M : Mem) : Prop :=
  Q .normal [(4, (.slice [] .nil))] M
theorem e18_3 (P : Program) (Q : Exit → Slots → Mem → Prop) (s : Slots) (M : Mem) : wpC P c18_3 Q s M = w18_3 P Q M := by kernel_rfl
def c18_4 : ACode := (.seq c18_3 .ret)
def o18_5 : List AOper := [⟨some 12, (.load 1 false (.tmp 2)), false, none⟩,
  ⟨some 13, (.bin .eql .ptr (.tmp 12) (.const .nilp)), true, none⟩]
def c18_6 : ACode := (.seq (.region o18_5 [2, 3, 13]) (.cond (.tmp 13) c18_4 .skip))
def w18_6 (P : Program) (Q : Exit → Slots → Mem → Prop) (M : Mem) (v2 : V) (v3 : V) : Prop :=
  @OptVH (loadV 1 false v2 M) ⟨fun t12_1 =>
  @OptBH (binV .eql .ptr t12_1 .nilp) ⟨fun b13_2 =>
  @BIfH b13_2
  ⟨wpC P c18_4 Q [(2, v2), (3, v3), (13, (.bool b13_2))] M⟩
  ⟨Q .normal [(2, v2), (3, v3), (13, (.bool b13_2))] M⟩⟩⟩
theorem e18_6 (P : Program) (Q : Exit → Slots → Mem → Prop) (s : Slots) (M : Mem) : wpC P c18_6 Q s M = w18_6 P Q M (sget s 2) (sget s 3) := by kernel_rfl
def o18_7 : List AOper := [⟨some 14, (.load 1 false (.tmp 2)), false, none⟩,
  ⟨some 15, (.nilCheck (.tmp 14)), false, none⟩,
  ⟨some 16, (.fieldAddr 2 (.tmp 15)), false, none⟩,
  ⟨some 17, (.load 1 false (.tmp 16)), false, none⟩,
  ⟨some 18, (.mkfn i_inbox_Inbox_Active_1 [(.tmp 3), (.tmp 2)]), false, none⟩,
  ⟨some 19, (.call i_inbox_filtered [(.tmp 17), (.tmp 18)]), false, none⟩,
  ⟨some 5, (.mov (.tmp 19)), false, none⟩]
def c18_8 : ACode := (.region o18_7 [5])
def w18_8 (P : Program) (Q : Exit → Slots → Mem → Prop) (M : Mem) (v2 : V) (v3 : V) : Prop :=
  @OptVH (loadV 1 false v2 M) ⟨fun t14_1 =>
  @OptVH (nilCheckV t14_1) ⟨fun t15_2 =>
  @OptVH (moveV 2 t15_2) ⟨fun t16_3 =>
  @OptVH (loadV 1 false t16_3 M) ⟨fun t17_4 =>
  @CallH P i_inbox_filtered [t17_4, (mkfnV i_inbox_Inbox_Active_1 [v3, v2])] M ⟨fun t19_6 M6 =>
  Q .normal [(5, t19_6)] M6⟩⟩⟩⟩⟩
theorem e18_8 (P : Program) (Q : Exit → Slots → Mem → Prop) (s : Slots) (M : Mem) : wpC P c18_8 Q s M = w18_8 P Q M (sget s 2) (sget s 3) := by kernel_rfl
def o18_9 : List AOper := [⟨some 6, (.mov (.const (.slice [] .nil))), false, none⟩]
def c18_10 : ACode := (.region o18_9 [5, 6])
def w18_10 (_P : Program) (Q : Exit → Slots → Mem → Prop) (M : Mem) (v5 : V) : Prop :=
  Q .normal [(5, v5), (6, (.slice [] .nil))] M
theorem e18_10 (P : Program) (Q : Exit → Slots → Mem → Prop) (s : Slots) (M : Mem) : wpC P c18_10 Q s M = w18_10 P Q M (sget s 5) := by kernel_rfl
def o18_11 : List AOper := [⟨some 20, (.mov (.tmp 5)), false, none⟩,
  ⟨some 21, (.lenSl (.tmp 20)), false, none⟩,
  ⟨some 22, (.mov (.const (.int .i64 0))), false, none⟩]
def c18_12 : ACode := (.region o18_11 [5, 6, 20, 21, 22])
def w18_12 (_P : Program) (Q : Exit → Slots → Mem → Prop) (M : Mem) (v5 : V) (v6 : V) : Prop :=
  @OptVH (lenV v5 M) ⟨fun t21_2 =>
  Q .normal [(5, v5), (6, v6), (20, v5), (21, t21_2), (22, (.int .i64 0))] M⟩
theorem e18_12 (P : Program) (Q : Exit → Slots → Mem → Prop) (s : Slots) (M : Mem) : wpC P c18_12 Q s M = w18_12 P Q M (sget s 5) (sget s 6) := by kernel_rfl
def o18_13 : List AOper := [⟨some 23, (.bin .lss .none (.tmp 22) (.tmp 21)), false, none⟩]
def c18_14 : ACode := (.region o18_13 [5, 6, 20, 21, 22, 23])
def w18_14 (_P : Program) (Q : Exit → Slots → Mem → Prop) (M : Mem) (v5 : V) (v6 : V) (v20 : V) (v21 : V) (v22 : V) : Prop :=
  @OptVH (binV .lss .none v22 v21) ⟨fun t23_1 =>
  Q .normal [(5, v5), (6, v6), (20, v20), (21, v21), (22, v22), (23, t23_1)] M⟩
theorem e18_14 (P : Program) (Q : Exit → Slots → Mem → Prop) (s : Slots) (M : Mem) : wpC P c18_14 Q s M = w18_14 P Q M (sget s 5) (sget s 6) (sget s 20) (sget s 21) (sget s 22) := by kernel_rfl
def c18_15 : ACode := (.cond (.tmp 23) .skip (.exit 0))
def o18_16 : List AOper := [⟨some 24, (.indexSl 13 (.tmp 20) (.tmp 22)), false, none⟩,
  ⟨some 25, (.load 13 true (.tmp 24)), false, none⟩,
  ⟨some 8, (.alloc [(.int .i64 0), (.int .i64 0), (.int .i64 0), (.int .i64 0), (.int .i64 0), (.str []), (.int .i64 0), (.int .i64 0), (.int .i64 0), (.int .i64 0), (.int .i64 0), (.bool false), (.slice [] .nil)]), false, none⟩,
  ⟨none, (.store 13 (.tmp 8) (.tmp 25)), false, none⟩]
def c18_17 : ACode := (.region o18_16 [5, 6, 8, 20, 21, 22])
def w18_17 (_P : Program) (Q : Exit → Slots → Mem → Prop) (M : Mem) (v5 : V) (v6 : V) (v20 : V) (v21 : V) (v22 : V) : Prop :=
  @OptVH (indexSlV 13 v20 v22 M) ⟨fun t24_1 =>
  @OptVH (loadV 13 true t24_1 M) ⟨fun t25_2 =>
  @OptMH (allocV [(.int .i64 0), (.int .i64 0), (.int .i64 0), (.int .i64 0), (.int .i64 0), (.str []), (.int .i64 0), (.int .i64 0), (.int .i64 0), (.int .i64 0), (.int .i64 0), (.bool false), (.slice [] .nil)] M) ⟨fun t8_3 M3 =>
  @OptMH (storeVM 13 t8_3 t25_2 M3) ⟨fun _tx_4 M4 =>
  Q .normal [(5, v5), (6, v6), (8, t8_3), (20, v20), (21, v21), (22, v22)] M4⟩⟩⟩⟩
theorem e18_17 (P : Program) (Q : Exit → Slots → Mem → Prop) (s : Slots) (M : Mem) : wpC P c18_17 Q s M = w18_17 P Q M (sget s 5) (sget s 6) (sget s 20) (sget s 21) (sget s 22) := by kernel_rfl
def o18_18 : List AOper := [⟨some 9, (.mov (.const (.bool false))), true, none⟩]
def c18_19 : ACode := (.region o18_18 [5, 6, 8, 9, 20, 21, 22])
def w18_19 (_P : Program) (Q : Exit → Slots → Mem → Prop) (M : Mem) (v5 : V) (v6 : V) (v8 : V) (v20 : V) (v21 : V) (v22 : V) : Prop :=
  Q .normal [(5, v5), (6, v6), (8, v8), (9, (.bool false)), (20, v20), (21, v21), (22, v22)] M
theorem e18_19 (P : Program) (Q : Exit → Slots → Mem → Prop) (s : Slots) (M : Mem) : wpC P c18_19 Q s M = w18_19 P Q M (sget s 5) (sget s 6) (sget s 8) (sget s 20) (sget s 21) (sget s 22) := by kernel_rfl
def o18_20 : List AOper := [⟨some 26, (.mov (.tmp 5)), false, none⟩,
  ⟨some 27, (.lenSl (.tmp 26)), false, none⟩,
  ⟨some 28, (.mov (.const (.int .i64 0))), false, none⟩]
def c18_21 : ACode := (.region o18_20 [5, 6, 8, 9, 20, 21, 22, 26, 27, 28])
def w18_21 (_P : Program) (Q : Exit → Slots → Mem → Prop) (M : Mem) (v5 : V) (v6 : V) (v8 : V) (v9 : V) (v20 : V) (v21 : V) (v22 : V) : Prop :=
  @OptVH (lenV v5 M) ⟨fun t27_2 =>
  Q .normal [(5, v5), (6, v6), (8, v8), (9, v9), (20, v20), (21, v21), (22, v22), (26, v5), (27, t27_2), (28, (.int .i64 0))] M⟩
theorem e18_21 (P : Program) (Q : Exit → Slots → Mem → Prop) (s : Slots) (M : Mem) : wpC P c18_21 Q s M = w18_21 P Q M (sget s 5) (sget s 6) (sget s 8) (sget s 9) (sget s 20) (sget s 21) (sget s 22) := by kernel_rfl
def o18_22 : List AOper := [⟨some 29, (.bin .lss .none (.tmp 28) (.tmp 27)), false, none⟩]
def c18_23 : ACode := (.region o18_22 [5, 6, 8, 9, 20, 21, 22, 26, 27, 28, 29])
def w18_23 (_P : Program) (Q : Exit → Slots → Mem → Prop) (M : Mem) (v5 : V) (v6 : V) (v8 : V) (v9 : V) (v20 : V) (v21 : V) (v22 : V) (v26 : V) (v27 : V) (v28 : V) : Prop :=
  @OptVH (binV .lss .none v28 v27) ⟨fun t29_1 =>
  Q .normal [(5, v5), (6, v6), (8, v8), (9, v9), (20, v20), (21, v21), (22, v22), (26, v26), (27, v27), (28, v28), (29, t29_1)] M⟩
theorem e18_23 (P : Program) (Q : Exit → Slots → Mem → Prop) (s : Slots) (M : Mem) : wpC P c18_23 Q s M = w18_23 P Q M (sget s 5) (sget s 6) (sget s 8) (sget s 9) (sget s 20) (sget s 21) (sget s 22) (sget s 26) (sget s 27) (sget s 28) := by kernel_rfl
def c18_24 : ACode := (.cond (.tmp 29) .skip (.exit 2))
def o18_25 : List AOper := [⟨some 30, (.indexSl 13 (.tmp 26) (.tmp 28)), false, none⟩,
  ⟨some 31, (.load 13 true (.tmp 30)), false, none⟩,
  ⟨some 11, (.alloc [(.int .i64 0), (.int .i64 0), (.int .i64 0), (.int .i64 0), (.int .i64 0), (.str []), (.int .i64 0), (.int .i64 0), (.int .i64 0), (.int .i64 0), (.int .i64 0), (.bool false), (.slice [] .nil)]), false, none⟩,
  ⟨none, (.store 13 (.tmp 11) (.tmp 31)), false, none⟩]
def c18_26 : ACode := (.region o18_25 [5, 6, 8, 9, 11, 20, 21, 22, 26, 27, 28])
def w18_26 (_P : Program) (Q : Exit → Slots → Mem → Prop) (M : Mem) (v5 : V) (v6 : V) (v8 : V) (v9 : V) (v20 : V) (v21 : V) (v22 : V) (v26 : V) (v27 : V) (v28 : V) : Prop :=
  @OptVH (indexSlV 13 v26 v28 M) ⟨fun t30_1 =>
  @OptVH (loadV 13 true t30_1 M) ⟨fun t31_2 =>
  @OptMH (allocV [(.int .i64 0), (.int .i64 0), (.int .i64 0), (.int .i64 0), (.int .i64 0), (.str []), (.int .i64 0), (.int .i64 0), (.int .i64 0), (.int .i64 0), (.int .i64 0), (.bool false), (.slice [] .nil)] M) ⟨fun t11_3 M3 =>
  @OptMH (storeVM 13 t11_3 t31_2 M3) ⟨fun _tx_4 M4 =>
  Q .normal [(5, v5), (6, v6), (8, v8), (9, v9), (11, t11_3), (20, v20), (21, v21), (22, v22), (26, v26), (27, v27), (28, v28)] M4⟩⟩⟩⟩
theorem e18_26 (P : Program) (Q : Exit → Slots → Mem → Prop) (s : Slots) (M : Mem) : wpC P c18_26 Q s M = w18_26 P Q M (sget s 5) (sget s 6) (sget s 8) (sget s 9) (sget s 20) (sget s 21) (sget s 22) (sget s 26) (sget s 27) (sget s 28) := by kernel_rfl
def o18_27 : List AOper := [⟨some 32, (.mov (.tmp 9)), true, none⟩,
  ⟨some 33, (.mov (.tmp 32)), true, none⟩,
  ⟨some 34, (.fieldAddr 0 (.tmp 11)), false, some (33, false)⟩,
  ⟨some 35, (.load 1 false (.tmp 34)), false, some (33, false)⟩,
  ⟨some 36, (.fieldAddr 0 (.tmp 8)), false, some (33, false)⟩,
  ⟨some 37, (.load 1 false (.tmp 36)), false, some (33, false)⟩,
  ⟨some 38, (.bin .lss .none (.tmp 35) (.tmp 37)), true, some (33, false)⟩,
  ⟨some 39, (.mov (.tmp 38)), true, some (33, false)⟩,
  ⟨some 40, (.load 13 true (.tmp 11)), false, some (39, true)⟩,
  ⟨some 41, (.load 13 true (.tmp 8)), false, some (39, true)⟩,
  ⟨some 42, (.call i_message_SameTarget [(.tmp 40), (.tmp 41)]), true, some (39, true)⟩,
  ⟨some 43, (.pick (.tmp 39) (.tmp 42) (.const (.bool false))), true, some (33, false)⟩,
  ⟨some 44, (.pick (.tmp 33) (.const (.bool true)) (.tmp 43)), true, none⟩,
  ⟨some 9, (.mov (.tmp 44)), true, none⟩]
def c18_28 : ACode := (.region o18_27 [5, 6, 8, 9, 20, 21, 22, 26, 27, 28])
def w18_28 (P : Program) (Q : Exit → Slots → Mem → Prop) (M : Mem) (v5 : V) (v6 : V) (v8 : V) (v9 : V) (v11 : V) (v20 : V) (v21 : V) (v22 : V) (v26 : V) (v27 : V) (v28 : V) : Prop :=
  @OptBH (some v9) ⟨fun b32_1 =>
  @BIfH b32_1
  ⟨Q .normal [(5, v5), (6, v6), (8, v8), (9, (.bool true)), (20, v20), (21, v21), (22, v22), (26, v26), (27, v27), (28, v28)] M⟩
  ⟨@OptVH (moveV 0 v11) ⟨fun t34_5 =>
  @OptVH (loadV 1 false t34_5 M) ⟨fun t35_6 =>
  @OptVH (moveV 0 v8) ⟨fun t36_7 =>
  @OptVH (loadV 1 false t36_7 M) ⟨fun t37_8 =>
  @OptBH (binV .lss .none t35_6 t37_8) ⟨fun b38_9 =>
  @BIfH b38_9
  ⟨@OptVH (loadV 13 true v11 M) ⟨fun t40_11 =>
  @OptVH (loadV 13 true v8 M) ⟨fun t41_12 =>
  @CallH P i_message_SameTarget [t40_11, t41_12] M ⟨fun t42_13 M13 => @OptBH (some t42_13) ⟨fun b42_13 =>
  Q .normal [(5, v5), (6, v6), (8, v8), (9, (.bool b42_13)), (20, v20), (21, v21), (22, v22), (26, v26), (27, v27), (28, v28)] M13⟩⟩⟩⟩⟩
  ⟨Q .normal [(5, v5), (6, v6), (8, v8), (9, (.bool false)), (20, v20), (21, v21), (22, v22), (26, v26), (27, v27), (28, v28)] M⟩⟩⟩⟩⟩⟩⟩⟩
theorem e18_28 (P : Program) (Q : Exit → Slots → Mem → Prop) (s : Slots) (M : Mem) : wpC P c18_28 Q s M = w18_28 P Q M (sget s 5) (sget s 6) (sget s 8) (sget s 9) (sget s 11) (sget s 20) (sget s 21) (sget s 22) (sget s 26) (sget s 27) (sget s 28) := by kernel_rfl
def c18_29 : ACode := (.seq c18_26 c18_28)
def c18_30 : ACode := (.block 3 c18_29)
def o18_31 : List AOper := [⟨some 45, (.bin .add .none (.tmp 28) (.const (.int .i64 1))), false, none⟩,
  ⟨some 28, (.mov (.tmp 45)), false, none⟩]
def c18_32 : ACode := (.region o18_31 [5, 6, 8, 9, 20, 21, 22, 26, 27, 28])
def w18_32 (_P : Program) (Q : Exit → Slots → Mem → Prop) (M : Mem) (v5 : V) (v6 : V) (v8 : V) (v9 : V) (v20 : V) (v21 : V) (v22 : V) (v26 : V) (v27 : V) (v28 : V) : Prop :=
  @OptVH (binV .add .none v28 (.int .i64 1)) ⟨fun t45_1 =>
  Q .normal [(5, v5), (6, v6), (8, v8), (9, v9), (20, v20), (21, v21), (22, v22), (26, v26), (27, v27), (28, t45_1)] M⟩
theorem e18_32 (P : Program) (Q : Exit → Slots → Mem → Prop) (s : Slots) (M : Mem) : wpC P c18_32 Q s M = w18_32 P Q M (sget s 5) (sget s 6) (sget s 8) (sget s 9) (sget s 20) (sget s 21) (sget s 22) (sget s 26) (sget s 27) (sget s 28) := by kernel_rfl
def c18_33 : ACode := (.seq c18_30 c18_32)
def c18_34 : ACode := (.seq c18_24 c18_33)
def c18_35 : ACode := (.seq c18_23 c18_34)
def c18_36 : ACode := (.loop [5, 6, 8, 9, 20, 21, 22, 26, 27, 28] c18_35)
def c18_37 : ACode := (.block 2 c18_36)
def c18_38 : ACode := (.seq c18_21 c18_37)
def o18_39 : List AOper := [⟨some 48, (.mov (.tmp 6)), false, none⟩,
  ⟨some 49, (.load 13 true (.tmp 8)), false, none⟩,
  ⟨some 50, (.call i_inbox_inserted_api_Message [(.tmp 48), (.tmp 49), (.const (.pfn i_inbox_before []))]), false, none⟩,
  ⟨some 6, (.mov (.tmp 50)), false, none⟩]
def c18_40 : ACode := (.region o18_39 [5, 6, 20, 21, 22])
def w18_40 (P : Program) (Q : Exit → Slots → Mem → Prop) (M : Mem) (v5 : V) (v6 : V) (v8 : V) (v20 : V) (v21 : V) (v22 : V) : Prop :=
  @OptVH (loadV 13 true v8 M) ⟨fun t49_2 =>
  @CallH P i_inbox_inserted_api_Message [v6, t49_2, (.pfn i_inbox_before [])] M ⟨fun t50_3 M3 =>
  Q .normal [(5, v5), (6, t50_3), (20, v20), (21, v21), (22, v22)] M3⟩⟩
theorem e18_40 (P : Program) (Q : Exit → Slots → Mem → Prop) (s : Slots) (M : Mem) : wpC P c18_40 Q s M = w18_40 P Q M (sget s 5) (sget s 6) (sget s 8) (sget s 20) (sget s 21) (sget s 22) := by kernel_rfl
def o18_41 : List AOper := [⟨some 46, (.mov (.tmp 9)), true, none⟩,
  ⟨some 47, (.un .not (.tmp 46)), true, none⟩]
def c18_42 : ACode := (.seq (.region o18_41 [5, 6, 8, 20, 21, 22, 47]) (.cond (.tmp 47) c18_40 .skip))
def w18_42 (P : Program) (Q : Exit → Slots → Mem → Prop) (M : Mem) (v5 : V) (v6 : V) (v8 : V) (v9 : V) (v20 : V) (v21 : V) (v22 : V) : Prop :=
  @OptBH (some v9) ⟨fun b46_1 =>
  @OptBH (unV .not (.bool b46_1)) ⟨fun b47_2 =>
  @BIfH b47_2
  ⟨wpC P c18_40 Q [(5, v5), (6, v6), (8, v8), (20, v20), (21, v21), (22, v22), (47, (.bool b47_2))] M⟩
  ⟨Q .normal [(5, v5), (6, v6), (8, v8), (20, v20), (21, v21), (22, v22), (47, (.bool b47_2))] M⟩⟩⟩
theorem e18_42 (P : Program) (Q : Exit → Slots → Mem → Prop) (s : Slots) (M : Mem) : wpC P c18_42 Q s M = w18_42 P Q M (sget s 5) (sget s 6) (sget s 8) (sget s 9) (sget s 20) (sget s 21) (sget s 22) := by kernel_rfl
def c18_43 : ACode := (.seq c18_38 c18_42)
def c18_44 : ACode := (.seq c18_19 c18_43)
def c18_45 : ACode := (.seq c18_17 c18_44)
def c18_46 : ACode := (.block 1 c18_45)
def o18_47 : List AOper := [⟨some 51, (.bin .add .none (.tmp 22) (.const (.int .i64 1))), false, none⟩,
  ⟨some 22, (.mov (.tmp 51)), false, none⟩]
def c18_48 : ACode := (.region o18_47 [5, 6, 20, 21, 22])
def w18_48 (_P : Program) (Q : Exit → Slots → Mem → Prop) (M : Mem) (v5 : V) (v6 : V) (v20 : V) (v21 : V) (v22 : V) : Prop :=
  @OptVH (binV .add .none v22 (.int .i64 1)) ⟨fun t51_1 =>
  Q .normal [(5, v5), (6, v6), (20, v20), (21, v21), (22, t51_1)] M⟩
theorem e18_48 (P : Program) (Q : Exit → Slots → Mem → Prop) (s : Slots) (M : Mem) : wpC P c18_48 Q s M = w18_48 P Q M (sget s 5) (sget s 6) (sget s 20) (sget s 21) (sget s 22) := by kernel_rfl
def c18_49 : ACode := (.seq c18_46 c18_48)
def c18_50 : ACode := (.seq c18_15 c18_49)
def c18_51 : ACode := (.seq c18_14 c18_50)
def c18_52 : ACode := (.loop [5, 6, 20, 21, 22] c18_51)
def c18_53 : ACode := (.block 0 c18_52)
def c18_54 : ACode := (.seq c18_12 c18_53)
def o18_55 : List AOper := [⟨some 52, (.mov (.tmp 6)), false, none⟩,
  ⟨some 4, (.mov (.tmp 52)), false, none⟩]
def c18_56 : ACode := (.region o18_55 [4])
def w18_56 (_P : Program) (Q : Exit → Slots → Mem → Prop) (M : Mem) (v6 : V) : Prop :=
  Q .normal [(4, v6)] M
theorem e18_56 (P : Program) (Q : Exit → Slots → Mem → Prop) (s : Slots) (M : Mem) : wpC P c18_56 Q s M = w18_56 P Q M (sget s 6) := by kernel_rfl
def c18_57 : ACode := (.seq c18_56 .ret)
def c18_58 : ACode := (.seq c18_54 c18_57)
def c18_59 : ACode := (.seq c18_10 c18_58)
def c18_60 : ACode := (.seq c18_8 c18_59)
def c18_61 : ACode := (.seq c18_6 c18_60)
def c18_62 : ACode := (.seq c18_1 c18_61)
def fn_inbox_Inbox_Active : AFn := ⟨53, [(.tmp 4)], c18_62⟩
theorem fn_inbox_Inbox_Active_ok : resFn PR h_inbox_Inbox_Active i_inbox_Inbox_Active = some fn_inbox_Inbox_Active := by kernel_rfl

def h_inbox_Inbox_Messages : Hints := ⟨[(0, [0]), (1, [0, 4]), (2, [2]), (3, [2])], [], []⟩
def o19_0 : List AOper := [⟨some 2, (.mov (.const (.slice [] .nil))), false, none⟩]
def c19_1 : ACode := (.region o19_0 [0])
def w19_1 (_P : Program) (Q : Exit → Slots → Mem → Prop) (M : Mem) (v0 : V) : Prop :=
  Q .normal [(0, v0)] M
theorem e19_1 (P : Program) (Q : Exit → Slots → Mem → Prop) (s : Slots) (M : Mem) : wpC P c19_1 Q s M = w19_1 P Q M (sget s 0) := by kernel_rfl
def o19_2 : List AOper := [⟨some 2, (.mov (.const (.slice [] .nil))), false, none⟩]
def c19_3 : ACode := (.region o19_2 [2])
def w19_3 (_P : Program) (Q : Exit → Slots → Mem → Prop) (M : Mem) : Prop :=
  Q .normal [(2, (.slice [] .nil))] M
theorem e19_3 (P : Program) (Q : Exit → Slots → Mem → Prop) (s : Slots) (M : Mem) : wpC P c19_3 Q s M = w19_3 P Q M := by kernel_rfl
def c19_4 : ACode := (.seq c19_3 .ret)
def o19_5 : List AOper := [⟨some 3, (.mov (.tmp 0)), false, none⟩,
  ⟨some 4, (.bin .eql .ptr (.tmp 3) (.const .nilp)), true, none⟩]
def c19_6 : ACode := (.seq (.region o19_5 [0, 4]) (.cond (.tmp 4) c19_4 .skip))
def w19_6 (P : Program) (Q : Exit → Slots → Mem → Prop) (M : Mem) (v0 : V) : Prop :=
  @OptBH (binV .eql .ptr v0 .nilp) ⟨fun b4_2 =>
  @BIfH b4_2
  ⟨wpC P c19_4 Q [(0, v0), (4, (.bool b4_2))] M⟩
  ⟨Q .normal [(0, v0), (4, (.bool b4_2))] M⟩⟩
theorem e19_6 (P : Program) (Q : Exit → Slots → Mem → Prop) (s : Slots) (M : Mem) : wpC P c19_6 Q s M = w19_6 P Q M (sget s 0) := by kernel_rfl
def o19_7 : List AOper := [⟨some 5, (.mov (.tmp 0)), false, none⟩,
  ⟨some 6, (.nilCheck (.tmp 5)), false, none⟩,
  ⟨some 7, (.fieldAddr 2 (.tmp 6)), false, none⟩,
  ⟨some 8, (.load 1 false (.tmp 7)), false, none⟩,
  ⟨some 9, (.call i_inbox_filtered [(.tmp 8), (.const (.pfn i_inbox_Inbox_Messages_1 []))]), false, none⟩,
  ⟨some 2, (.mov (.tmp 9)), false, none⟩]
def c19_8 : ACode := (.region o19_7 [2])
def w19_8 (P : Program) (Q : Exit → Slots → Mem → Prop) (M : Mem) (v0 : V) : Prop :=
  @OptVH (nilCheckV v0) ⟨fun t6_2 =>
  @OptVH (moveV 2 t6_2) ⟨fun t7_3 =>
  @OptVH (loadV 1 false t7_3 M) ⟨fun t8_4 =>
  @CallH P i_inbox_filtered [t8_4, (.pfn i_inbox_Inbox_Messages_1 [])] M ⟨fun t9_5 M5 =>
  Q .normal [(2, t9_5)] M5⟩⟩⟩⟩
theorem e19_8 (P : Program) (Q : Exit → Slots → Mem → Prop) (s : Slots) (M : Mem) : wpC P c19_8 Q s M = w19_8 P Q M (sget s 0) := by kernel_rfl
def c19_9 : ACode := (.seq c19_8 .ret)
def c19_10 : ACode := (.seq c19_6 c19_9)
def c19_11 : ACode := (.seq c19_1 c19_10)
def fn_inbox_Inbox_Messages : AFn := ⟨10, [(.tmp 2)], c19_11⟩
theorem fn_inbox_Inbox_Messages_ok : resFn PR h_inbox_Inbox_Messages i_inbox_Inbox_Messages = some fn_inbox_Inbox_Messages := by kernel_rfl

def h_inbox_Inbox_Failed : Hints := ⟨[(0, [0, 1, 2]), (1, [6])], [], []⟩
def o20_0 : List AOper := [⟨some 6, (.mov (.const (.bool false))), true, none⟩]
def c20_1 : ACode := (.region o20_0 [0, 1, 2])
def w20_1 (_P : Program) (Q : Exit → Slots → Mem → Prop) (M : Mem) (v0 : V) (v1 : V) (v2 : V) : Prop :=
  Q .normal [(0, v0), (1, v1), (2, v2)] M
theorem e20_1 (P : Program) (Q : Exit → Slots → Mem → Prop) (s : Slots) (M : Mem) : wpC P c20_1 Q s M = w20_1 P Q M (sget s 0) (sget s 1) (sget s 2) := by kernel_rfl
def o20_2 : List AOper := [⟨some 7, (.mov (.tmp 0)), false, none⟩,
  ⟨some 8, (.mov (.tmp 1)), false, none⟩,
  ⟨some 9, (.call i_inbox_Inbox_exists [(.tmp 7), (.tmp 8)]), true, none⟩,
  ⟨some 10, (.mov (.tmp 9)), true, none⟩,
  ⟨some 11, (.mov (.tmp 0)), false, some (10, true)⟩,
  ⟨some 12, (.nilCheck (.tmp 11)), false, some (10, true)⟩,
  ⟨some 13, (.fieldAddr 0 (.tmp 12)), false, some (10, true)⟩,
  ⟨some 14, (.load 1 false (.tmp 13)), false, some (10, true)⟩,
  ⟨some 15, (.mov (.tmp 1)), false, some (10, true)⟩,
  ⟨some 16, (.indexSl 4 (.tmp 14) (.tmp 15)), false, some (10, true)⟩,
  ⟨some 17, (.fieldAddr 0 (.tmp 16)), false, some (10, true)⟩,
  ⟨some 18, (.mov (.tmp 2)), false, some (10, true)⟩,
  ⟨some 19, (.mov (.tmp 0)), false, some (10, true)⟩,
  ⟨some 20, (.nilCheck (.tmp 19)), false, some (10, true)⟩,
  ⟨some 21, (.fieldAddr 1 (.tmp 20)), false, some (10, true)⟩,
  ⟨some 22, (.load 1 false (.tmp 21)), false, some (10, true)⟩,
  ⟨some 23, (.call i_inbox_heard_silent [(.tmp 17), (.tmp 18), (.tmp 22)]), true, some (10, true)⟩,
  ⟨some 24, (.pick (.tmp 10) (.tmp 23) (.const (.bool false))), true, none⟩,
  ⟨some 6, (.mov (.tmp 24)), true, none⟩]
def c20_3 : ACode := (.mixed o20_2 [true, true, false, true, true, true, true, true, true, true, true, true, true, true, true, true, false, true, true] [6])
def w20_3 (P : Program) (Q : Exit → Slots → Mem → Prop) (M : Mem) (v0 : V) (v1 : V) (v2 : V) : Prop :=
  @CallH P i_inbox_Inbox_exists [v0, v1] M ⟨fun t9_3 M3 => @OptBH (some t9_3) ⟨fun b9_3 =>
  @BIfH b9_3
  ⟨@OptVH (nilCheckV v0) ⟨fun t12_6 =>
  @OptVH (moveV 0 t12_6) ⟨fun t13_7 =>
  @OptVH (loadV 1 false t13_7 M3) ⟨fun t14_8 =>
  @OptVH (indexSlV 4 t14_8 v1 M3) ⟨fun t16_10 =>
  @OptVH (moveV 0 t16_10) ⟨fun t17_11 =>
  @OptVH (nilCheckV v0) ⟨fun t20_14 =>
  @OptVH (moveV 1 t20_14) ⟨fun t21_15 =>
  @OptVH (loadV 1 false t21_15 M3) ⟨fun t22_16 =>
  @CallH P i_inbox_heard_silent [t17_11, v2, t22_16] M3 ⟨fun t23_17 M17 => @OptBH (some t23_17) ⟨fun b23_17 =>
  Q .normal [(6, (.bool b23_17))] M17⟩⟩⟩⟩⟩⟩⟩⟩⟩⟩⟩
  ⟨Q .normal [(6, (.bool false))] M3⟩⟩⟩
theorem e20_3 (P : Program) (Q : Exit → Slots → Mem → Prop) (s : Slots) (M : Mem) : wpC P c20_3 Q s M = w20_3 P Q M (sget s 0) (sget s 1) (sget s 2) := by kernel_rfl
def c20_4 : ACode := (.seq c20_3 .ret)
def c20_5 : ACode := (.seq c20_1 c20_4)
def fn_inbox_Inbox_Failed : AFn := ⟨25, [(.tmp 6)], c20_5⟩
theorem fn_inbox_Inbox_Failed_ok : resFn PR h_inbox_Inbox_Failed i_inbox_Inbox_Failed = some fn_inbox_Inbox_Failed := by kernel_rfl

def h_transitref31_SameTarget : Hints := ⟨[(0, [2, 3]), (1, [4])], [], []⟩
def o22_0 : List AOper := [⟨some 2, (.box 13 (.tmp 0)), false, none⟩,
  ⟨some 3, (.box 13 (.tmp 1)), false, none⟩,
  ⟨some 4, (.mov (.const (.bool false))), true, none⟩]
def c22_1 : ACode := (.region o22_0 [2, 3])
def w22_1 (_P : Program) (Q : Exit → Slots → Mem → Prop) (M : Mem) (v0 : V) (v1 : V) : Prop :=
  @OptMH (boxV 13 v0 M) ⟨fun t2_1 M1 =>
  @OptMH (boxV 13 v1 M1) ⟨fun t3_2 M2 =>
  Q .normal [(2, t2_1), (3, t3_2)] M2⟩⟩
theorem e22_1 (P : Program) (Q : Exit → Slots → Mem → Prop) (s : Slots) (M : Mem) : wpC P c22_1 Q s M = w22_1 P Q M (sget s 0) (sget s 1) := by kernel_rfl
def o22_2 : List AOper := [⟨some 5, (.fieldAddr 5 (.tmp 2)), false, none⟩,
  ⟨some 6, (.load 1 false (.tmp 5)), false, none⟩,
  ⟨some 7, (.fieldAddr 5 (.tmp 3)), false, none⟩,
  ⟨some 8, (.load 1 false (.tmp 7)), false, none⟩,
  ⟨some 9, (.bin .eql .none (.tmp 6) (.tmp 8)), true, none⟩,
  ⟨some 10, (.mov (.tmp 9)), true, none⟩,
  ⟨some 11, (.fieldAddr 6 (.tmp 2)), false, some (10, true)⟩,
  ⟨some 12, (.load 1 false (.tmp 11)), false, some (10, true)⟩,
  ⟨some 13, (.fieldAddr 6 (.tmp 3)), false, some (10, true)⟩,
  ⟨some 14, (.load 1 false (.tmp 13)), false, some (10, true)⟩,
  ⟨some 15, (.bin .eql .none (.tmp 12) (.tmp 14)), true, some (10, true)⟩,
  ⟨some 16, (.pick (.tmp 10) (.tmp 15) (.const (.bool false))), true, none⟩,
  ⟨some 17, (.mov (.tmp 16)), true, none⟩,
  ⟨some 18, (.fieldAddr 7 (.tmp 2)), false, some (17, true)⟩,
  ⟨some 19, (.load 1 false (.tmp 18)), false, some (17, true)⟩,
  ⟨some 20, (.fieldAddr 7 (.tmp 3)), false, some (17, true)⟩,
  ⟨some 21, (.load 1 false (.tmp 20)), false, some (17, true)⟩,
  ⟨some 22, (.bin .eql .none (.tmp 19) (.tmp 21)), true, some (17, true)⟩,
  ⟨some 23, (.pick (.tmp 17) (.tmp 22) (.const (.bool false))), true, none⟩,
  ⟨some 4, (.mov (.tmp 23)), true, none⟩]
def c22_3 : ACode := (.region o22_2 [4])
def w22_3 (_P : Program) (Q : Exit → Slots → Mem → Prop) (M : Mem) (v2 : V) (v3 : V) : Prop :=
  @OptVH (moveV 5 v2) ⟨fun t5_1 =>
  @OptVH (loadV 1 false t5_1 M) ⟨fun t6_2 =>
  @OptVH (moveV 5 v3) ⟨fun t7_3 =>
  @OptVH (loadV 1 false t7_3 M) ⟨fun t8_4 =>
  @OptBH (binV .eql .none t6_2 t8_4) ⟨fun b9_5 =>
  @BIfH b9_5
  ⟨@OptVH (moveV 6 v2) ⟨fun t11_7 =>
  @OptVH (loadV 1 false t11_7 M) ⟨fun t12_8 =>
  @OptVH (moveV 6 v3) ⟨fun t13_9 =>
  @OptVH (loadV 1 false t13_9 M) ⟨fun t14_10 =>
  @OptBH (binV .eql .none t12_8 t14_10) ⟨fun b15_11 =>
  @BIfH b15_11
  ⟨@OptVH (moveV 7 v2) ⟨fun t18_14 =>
  @OptVH (loadV 1 false t18_14 M) ⟨fun t19_15 =>
  @OptVH (moveV 7 v3) ⟨fun t20_16 =>
  @OptVH (loadV 1 false t20_16 M) ⟨fun t21_17 =>
  @OptBH (binV .eql .none t19_15 t21_17) ⟨fun b22_18 =>
  Q .normal [(4, (.bool b22_18))] M⟩⟩⟩⟩⟩⟩
  ⟨Q .normal [(4, (.bool false))] M⟩⟩⟩⟩⟩⟩⟩
  ⟨Q .normal [(4, (.bool false))] M⟩⟩⟩⟩⟩⟩
theorem e22_3 (P : Program) (Q : Exit → Slots → Mem → Prop) (s : Slots) (M : Mem) : wpC P c22_3 Q s M = w22_3 P Q M (sget s 2) (sget s 3) := by kernel_rfl
def c22_4 : ACode := (.seq c22_3 .ret)
def c22_5 : ACode := (.seq c22_1 c22_4)
def fn_transitref31_SameTarget : AFn := ⟨24, [(.tmp 4)], c22_5⟩
theorem fn_transitref31_SameTarget_ok : resFn PR h_transitref31_SameTarget i_transitref31_SameTarget = some fn_transitref31_SameTarget := by kernel_rfl

def h_transitref32_Receive : Hints := ⟨[(0, [2, 3, 4, 6]), (1, [2, 3, 4, 6, 13]), (2, [6, 7]), (3, [2, 3, 4, 6, 8]), (4, [2, 3, 4, 6, 8, 18]), (5, [6, 7]), (6, [2, 3, 4, 6, 26]), (7, [6, 7]), (8, [2, 3, 4, 6, 43]), (9, [6, 7]), (10, [2, 3, 4, 6, 9]), (11, [2, 3, 4, 6, 9, 10]), (12, [2, 3, 4, 6, 9, 10, 49]), (13, [2, 3, 4, 6, 9, 10]), (14, [2, 3, 4, 6, 9, 10, 69]), (15, [2, 3, 4, 6, 9, 10]), (16, [2, 3, 4, 6, 9, 80]), (17, [6, 7]), (18, [6, 7])], [(12, [2, 3, 4, 6, 9, 10])], [(10, [0])]⟩
def o24_0 : List AOper := [⟨some 3, (.box 3 (.tmp 0)), false, none⟩,
  ⟨some 4, (.box 13 (.tmp 1)), false, none⟩,
  ⟨some 6, (.alloc [(.int .i64 0), (.slice [] .nil), (.slice [] .nil)]), false, none⟩,
  ⟨some 7, (.mov (.const (.int .i64 0))), false, none⟩]
def c24_1 : ACode := (.region o24_0 [2, 3, 4, 6])
def w24_1 (_P : Program) (Q : Exit → Slots → Mem → Prop) (M : Mem) (v0 : V) (v1 : V) (v2 : V) : Prop :=
  @OptMH (boxV 3 v0 M) ⟨fun t3_1 M1 =>
  @OptMH (boxV 13 v1 M1) ⟨fun t4_2 M2 =>
  @OptMH (allocV [(.int .i64 0), (.slice [] .nil), (.slice [] .nil)] M2) ⟨fun t6_3 M3 =>
  Q .normal [(2, v2), (3, t3_1), (4, t4_2), (6, t6_3)] M3⟩⟩⟩
theorem e24_1 (P : Program) (Q : Exit → Slots → Mem → Prop) (s : Slots) (M : Mem) : wpC P c24_1 Q s M = w24_1 P Q M (sget s 0) (sget s 1) (sget s 2) := by kernel_rfl
def o24_2 : List AOper := [⟨some 14, (.load 3 true (.tmp 3)), false, none⟩,
  ⟨none, (.store 3 (.tmp 6) (.tmp 14)), false, none⟩,
  ⟨some 7, (.mov (.const (.int .i64 10))), false, none⟩]
def c24_3 : ACode := (.region o24_2 [6, 7])
def w24_3 (_P : Program) (Q : Exit → Slots → Mem → Prop) (M : Mem) (v3 : V) (v6 : V) : Prop :=
  @OptVH (loadV 3 true v3 M) ⟨fun t14_1 =>
  @OptMH (storeVM 3 v6 t14_1 M) ⟨fun _tx_2 M2 =>
  Q .normal [(6, v6), (7, (.int .i64 10))] M2⟩⟩
theorem e24_3 (P : Program) (Q : Exit → Slots → Mem → Prop) (s : Slots) (M : Mem) : wpC P c24_3 Q s M = w24_3 P Q M (sget s 3) (sget s 6) := by kernel_rfl
def c24_4 : ACode := (.seq c24_3 .ret)
def o24_5 : List AOper := [⟨some 11, (.mov (.tmp 2)), false, none⟩,
  ⟨some 12, (.call i_transitref32_moment [(.tmp 11)]), true, none⟩,
  ⟨some 13, (.un .not (.tmp 12)), true, none⟩]
def c24_6 : ACode := (.seq (.region o24_5 [2, 3, 4, 6, 13]) (.cond (.tmp 13) c24_4 .skip))
def w24_6 (P : Program) (Q : Exit → Slots → Mem → Prop) (M : Mem) (v2 : V) (v3 : V) (v4 : V) (v6 : V) : Prop :=
  @CallH P i_transitref32_moment [v2] M ⟨fun t12_2 M2 => @OptBH (some t12_2) ⟨fun b12_2 =>
  @OptBH (unV .not (.bool b12_2)) ⟨fun b13_3 =>
  @BIfH b13_3
  ⟨wpC P c24_4 Q [(2, v2), (3, v3), (4, v4), (6, v6), (13, (.bool b13_3))] M2⟩
  ⟨Q .normal [(2, v2), (3, v3), (4, v4), (6, v6), (13, (.bool b13_3))] M2⟩⟩⟩⟩
theorem e24_6 (P : Program) (Q : Exit → Slots → Mem → Prop) (s : Slots) (M : Mem) : wpC P c24_6 Q s M = w24_6 P Q M (sget s 2) (sget s 3) (sget s 4) (sget s 6) := by kernel_rfl
def o24_7 : List AOper := [⟨some 15, (.load 13 true (.tmp 4)), false, none⟩,
  ⟨some 16, (.call i_transitref31_Check [(.tmp 15)]), false, none⟩,
  ⟨some 8, (.mov (.tmp 16)), false, none⟩]
def c24_8 : ACode := (.region o24_7 [2, 3, 4, 6, 8])
def w24_8 (P : Program) (Q : Exit → Slots → Mem → Prop) (M : Mem) (v2 : V) (v3 : V) (v4 : V) (v6 : V) : Prop :=
  @OptVH (loadV 13 true v4 M) ⟨fun t15_1 =>
  @CallH P i_transitref31_Check [t15_1] M ⟨fun t16_2 M2 =>
  Q .normal [(2, v2), (3, v3), (4, v4), (6, v6), (8, t16_2)] M2⟩⟩
theorem e24_8 (P : Program) (Q : Exit → Slots → Mem → Prop) (s : Slots) (M : Mem) : wpC P c24_8 Q s M = w24_8 P Q M (sget s 2) (sget s 3) (sget s 4) (sget s 6) := by kernel_rfl
def o24_9 : List AOper := [⟨some 19, (.load 3 true (.tmp 3)), false, none⟩,
  ⟨some 20, (.mov (.tmp 8)), false, none⟩,
  ⟨none, (.store 3 (.tmp 6) (.tmp 19)), false, none⟩,
  ⟨some 7, (.mov (.tmp 20)), false, none⟩]
def c24_10 : ACode := (.region o24_9 [6, 7])
def w24_10 (_P : Program) (Q : Exit → Slots → Mem → Prop) (M : Mem) (v3 : V) (v6 : V) (v8 : V) : Prop :=
  @OptVH (loadV 3 true v3 M) ⟨fun t19_1 =>
  @OptMH (storeVM 3 v6 t19_1 M) ⟨fun _tx_3 M3 =>
  Q .normal [(6, v6), (7, v8)] M3⟩⟩
theorem e24_10 (P : Program) (Q : Exit → Slots → Mem → Prop) (s : Slots) (M : Mem) : wpC P c24_10 Q s M = w24_10 P Q M (sget s 3) (sget s 6) (sget s 8) := by kernel_rfl
def c24_11 : ACode := (.seq c24_10 .ret)
def o24_12 : List AOper := [⟨some 17, (.mov (.tmp 8)), false, none⟩,
  ⟨some 18, (.bin .neq .none (.tmp 17) (.const (.int .i64 0))), true, none⟩]
def c24_13 : ACode := (.seq (.region o24_12 [2, 3, 4, 6, 8, 18]) (.cond (.tmp 18) c24_11 .skip))
def w24_13 (P : Program) (Q : Exit → Slots → Mem → Prop) (M : Mem) (v2 : V) (v3 : V) (v4 : V) (v6 : V) (v8 : V) : Prop :=
  @OptBH (binV .neq .none v8 (.int .i64 0)) ⟨fun b18_2 =>
  @BIfH b18_2
  ⟨wpC P c24_11 Q [(2, v2), (3, v3), (4, v4), (6, v6), (8, v8), (18, (.bool b18_2))] M⟩
  ⟨Q .normal [(2, v2), (3, v3), (4, v4), (6, v6), (8, v8), (18, (.bool b18_2))] M⟩⟩
theorem e24_13 (P : Program) (Q : Exit → Slots → Mem → Prop) (s : Slots) (M : Mem) : wpC P c24_13 Q s M = w24_13 P Q M (sget s 2) (sget s 3) (sget s 4) (sget s 6) (sget s 8) := by kernel_rfl
def o24_14 : List AOper := [⟨some 27, (.load 3 true (.tmp 3)), false, none⟩,
  ⟨none, (.store 3 (.tmp 6) (.tmp 27)), false, none⟩,
  ⟨some 7, (.mov (.const (.int .i64 36))), false, none⟩]
def c24_15 : ACode := (.region o24_14 [6, 7])
def w24_15 (_P : Program) (Q : Exit → Slots → Mem → Prop) (M : Mem) (v3 : V) (v6 : V) : Prop :=
  @OptVH (loadV 3 true v3 M) ⟨fun t27_1 =>
  @OptMH (storeVM 3 v6 t27_1 M) ⟨fun _tx_2 M2 =>
  Q .normal [(6, v6), (7, (.int .i64 36))] M2⟩⟩
theorem e24_15 (P : Program) (Q : Exit → Slots → Mem → Prop) (s : Slots) (M : Mem) : wpC P c24_15 Q s M = w24_15 P Q M (sget s 3) (sget s 6) := by kernel_rfl
def c24_16 : ACode := (.seq c24_15 .ret)
def o24_17 : List AOper := [⟨some 21, (.fieldAddr 0 (.tmp 4)), false, none⟩,
  ⟨some 22, (.load 1 false (.tmp 21)), false, none⟩,
  ⟨some 23, (.fieldAddr 1 (.tmp 3)), false, none⟩,
  ⟨some 24, (.load 1 false (.tmp 23)), false, none⟩,
  ⟨some 25, (.lenSl (.tmp 24)), false, none⟩,
  ⟨some 26, (.bin .geq .none (.tmp 22) (.tmp 25)), true, none⟩]
def c24_18 : ACode := (.seq (.region o24_17 [2, 3, 4, 6, 26]) (.cond (.tmp 26) c24_16 .skip))
def w24_18 (P : Program) (Q : Exit → Slots → Mem → Prop) (M : Mem) (v2 : V) (v3 : V) (v4 : V) (v6 : V) : Prop :=
  @OptVH (moveV 0 v4) ⟨fun t21_1 =>
  @OptVH (loadV 1 false t21_1 M) ⟨fun t22_2 =>
  @OptVH (moveV 1 v3) ⟨fun t23_3 =>
  @OptVH (loadV 1 false t23_3 M) ⟨fun t24_4 =>
  @OptVH (lenV t24_4 M) ⟨fun t25_5 =>
  @OptBH (binV .geq .none t22_2 t25_5) ⟨fun b26_6 =>
  @BIfH b26_6
  ⟨wpC P c24_16 Q [(2, v2), (3, v3), (4, v4), (6, v6), (26, (.bool b26_6))] M⟩
  ⟨Q .normal [(2, v2), (3, v3), (4, v4), (6, v6), (26, (.bool b26_6))] M⟩⟩⟩⟩⟩⟩⟩
theorem e24_18 (P : Program) (Q : Exit → Slots → Mem → Prop) (s : Slots) (M : Mem) : wpC P c24_18 Q s M = w24_18 P Q M (sget s 2) (sget s 3) (sget s 4) (sget s 6) := by kernel_rfl
def o24_19 : List AOper := [⟨some 44, (.load 3 true (.tmp 3)), false, none⟩,
  ⟨none, (.store 3 (.tmp 6) (.tmp 44)), false, none⟩,
  ⟨some 7, (.mov (.const (.int .i64 37))), false, none⟩]
def c24_20 : ACode := (.region o24_19 [6, 7])
def w24_20 (_P : Program) (Q : Exit → Slots → Mem → Prop) (M : Mem) (v3 : V) (v6 : V) : Prop :=
  @OptVH (loadV 3 true v3 M) ⟨fun t44_1 =>
  @OptMH (storeVM 3 v6 t44_1 M) ⟨fun _tx_2 M2 =>
  Q .normal [(6, v6), (7, (.int .i64 37))] M2⟩⟩
theorem e24_20 (P : Program) (Q : Exit → Slots → Mem → Prop) (s : Slots) (M : Mem) : wpC P c24_20 Q s M = w24_20 P Q M (sget s 3) (sget s 6) := by kernel_rfl
def c24_21 : ACode := (.seq c24_20 .ret)
def o24_22 : List AOper := [⟨some 28, (.fieldAddr 1 (.tmp 4)), false, none⟩,
  ⟨some 29, (.load 1 false (.tmp 28)), false, none⟩,
  ⟨some 30, (.fieldAddr 1 (.tmp 3)), false, none⟩,
  ⟨some 31, (.load 1 false (.tmp 30)), false, none⟩,
  ⟨some 32, (.fieldAddr 0 (.tmp 4)), false, none⟩,
  ⟨some 33, (.load 1 false (.tmp 32)), false, none⟩,
  ⟨some 34, (.indexSl 2 (.tmp 31) (.tmp 33)), false, none⟩,
  ⟨some 35, (.fieldAddr 1 (.tmp 34)), false, none⟩,
  ⟨some 36, (.load 1 false (.tmp 35)), false, none⟩,
  ⟨some 37, (.bin .leq .none (.tmp 29) (.tmp 36)), true, none⟩,
  ⟨some 38, (.mov (.tmp 37)), true, none⟩,
  ⟨some 39, (.fieldAddr 3 (.tmp 4)), false, some (38, false)⟩,
  ⟨some 40, (.load 1 false (.tmp 39)), false, some (38, false)⟩,
  ⟨some 41, (.mov (.tmp 2)), false, some (38, false)⟩,
  ⟨some 42, (.bin .leq .none (.tmp 40) (.tmp 41)), true, some (38, false)⟩,
  ⟨some 43, (.pick (.tmp 38) (.const (.bool true)) (.tmp 42)), true, none⟩]
def c24_23 : ACode := (.seq (.mixed o24_22 [true, true, true, true, true, true, true, true, true, true, true, true, true, true, true, true] [2, 3, 4, 6, 43]) (.cond (.tmp 43) c24_21 .skip))
def w24_23 (P : Program) (Q : Exit → Slots → Mem → Prop) (M : Mem) (v2 : V) (v3 : V) (v4 : V) (v6 : V) : Prop :=
  @OptVH (moveV 1 v4) ⟨fun t28_1 =>
  @OptVH (loadV 1 false t28_1 M) ⟨fun t29_2 =>
  @OptVH (moveV 1 v3) ⟨fun t30_3 =>
  @OptVH (loadV 1 false t30_3 M) ⟨fun t31_4 =>
  @OptVH (moveV 0 v4) ⟨fun t32_5 =>
  @OptVH (loadV 1 false t32_5 M) ⟨fun t33_6 =>
  @OptVH (indexSlV 2 t31_4 t33_6 M) ⟨fun t34_7 =>
  @OptVH (moveV 1 t34_7) ⟨fun t35_8 =>
  @OptVH (loadV 1 false t35_8 M) ⟨fun t36_9 =>
  @OptBH (binV .leq .none t29_2 t36_9) ⟨fun b37_10 =>
  @BIfH b37_10
  ⟨wpC P c24_21 Q [(2, v2), (3, v3), (4, v4), (6, v6), (43, (.bool true))] M⟩
  ⟨@OptVH (moveV 3 v4) ⟨fun t39_13 =>
  @OptVH (loadV 1 false t39_13 M) ⟨fun t40_14 =>
  @OptBH (binV .leq .none t40_14 v2) ⟨fun b42_16 =>
  @BIfH b42_16
  ⟨wpC P c24_21 Q [(2, v2), (3, v3), (4, v4), (6, v6), (43, (.bool b42_16))] M⟩
  ⟨Q .normal [(2, v2), (3, v3), (4, v4), (6, v6), (43, (.bool b42_16))] M⟩⟩⟩⟩⟩⟩⟩⟩⟩⟩⟩⟩⟩⟩⟩
theorem e24_23 (P : Program) (Q : Exit → Slots → Mem → Prop) (s : Slots) (M : Mem) : wpC P c24_23 Q s M = w24_23 P Q M (sget s 2) (sget s 3) (sget s 4) (sget s 6) := by kernel_rfl
def o24_24 : List AOper := [⟨some 9, (.newarr 13), false, none⟩]
def c24_25 : ACode := (.region o24_24 [2, 3, 4, 6, 9])
def w24_25 (_P : Program) (Q : Exit → Slots → Mem → Prop) (M : Mem) (v2 : V) (v3 : V) (v4 : V) (v6 : V) : Prop :=
  @OptMH (newarrV 13 M) ⟨fun t9_1 M1 =>
  Q .normal [(2, v2), (3, v3), (4, v4), (6, v6), (9, t9_1)] M1⟩
theorem e24_25 (P : Program) (Q : Exit → Slots → Mem → Prop) (s : Slots) (M : Mem) : wpC P c24_25 Q s M = w24_25 P Q M (sget s 2) (sget s 3) (sget s 4) (sget s 6) := by kernel_rfl
def o24_26 : List AOper := [⟨some 10, (.mov (.const (.int .i64 0))), false, none⟩]
def c24_27 : ACode := (.region o24_26 [2, 3, 4, 6, 9, 10])
def w24_27 (_P : Program) (Q : Exit → Slots → Mem → Prop) (M : Mem) (v2 : V) (v3 : V) (v4 : V) (v6 : V) (v9 : V) : Prop :=
  Q .normal [(2, v2), (3, v3), (4, v4), (6, v6), (9, v9), (10, (.int .i64 0))] M
theorem e24_27 (P : Program) (Q : Exit → Slots → Mem → Prop) (s : Slots) (M : Mem) : wpC P c24_27 Q s M = w24_27 P Q M (sget s 2) (sget s 3) (sget s 4) (sget s 6) (sget s 9) := by kernel_rfl
def o24_28 : List AOper := [⟨some 45, (.mov (.tmp 10)), false, none⟩,
  ⟨some 46, (.fieldAddr 2 (.tmp 3)), false, none⟩,
  ⟨some 47, (.load 1 false (.tmp 46)), false, none⟩,
  ⟨some 48, (.lenSl (.tmp 47)), false, none⟩,
  ⟨some 49, (.bin .lss .none (.tmp 45) (.tmp 48)), true, none⟩]
def c24_29 : ACode := (.seq (.region o24_28 [2, 3, 4, 6, 9, 10, 49]) (.cond (.tmp 49) .skip (.exit 0)))
def w24_29 (_P : Program) (Q : Exit → Slots → Mem → Prop) (M : Mem) (v2 : V) (v3 : V) (v4 : V) (v6 : V) (v9 : V) (v10 : V) : Prop :=
  @OptVH (moveV 2 v3) ⟨fun t46_2 =>
  @OptVH (loadV 1 false t46_2 M) ⟨fun t47_3 =>
  @OptVH (lenV t47_3 M) ⟨fun t48_4 =>
  @OptBH (binV .lss .none v10 t48_4) ⟨fun b49_5 =>
  @BIfH b49_5
  ⟨Q .normal [(2, v2), (3, v3), (4, v4), (6, v6), (9, v9), (10, v10), (49, (.bool b49_5))] M⟩
  ⟨Q (.exit 0) [(2, v2), (3, v3), (4, v4), (6, v6), (9, v9), (10, v10), (49, (.bool b49_5))] M⟩⟩⟩⟩⟩
theorem e24_29 (P : Program) (Q : Exit → Slots → Mem → Prop) (s : Slots) (M : Mem) : wpC P c24_29 Q s M = w24_29 P Q M (sget s 2) (sget s 3) (sget s 4) (sget s 6) (sget s 9) (sget s 10) := by kernel_rfl
def o24_30 : List AOper := [⟨some 70, (.mov (.tmp 9)), false, none⟩,
  ⟨some 71, (.fieldAddr 2 (.tmp 3)), false, none⟩,
  ⟨some 72, (.load 1 false (.tmp 71)), false, none⟩,
  ⟨some 73, (.mov (.tmp 10)), false, none⟩,
  ⟨some 74, (.indexSl 13 (.tmp 72) (.tmp 73)), false, none⟩,
  ⟨some 75, (.load 13 true (.tmp 74)), false, none⟩,
  ⟨some 76, (.buildSlice [(.int .i64 0), (.int .i64 0), (.int .i64 0), (.int .i64 0), (.int .i64 0), (.str []), (.int .i64 0), (.int .i64 0), (.int .i64 0), (.int .i64 0), (.int .i64 0), (.bool false), (.slice [] .nil)] 13 1 [(0, (13, (.tmp 75)))]), false, none⟩,
  ⟨some 77, (.append false 13 128 (.tmp 70) (.tmp 76)), false, none⟩,
  ⟨some 9, (.mov (.tmp 77)), false, none⟩]
def c24_31 : ACode := (.region o24_30 [2, 3, 4, 6, 9, 10])
def w24_31 (_P : Program) (Q : Exit → Slots → Mem → Prop) (M : Mem) (v2 : V) (v3 : V) (v4 : V) (v6 : V) (v9 : V) (v10 : V) : Prop :=
  @OptVH (moveV 2 v3) ⟨fun t71_2 =>
  @OptVH (loadV 1 false t71_2 M) ⟨fun t72_3 =>
  @OptVH (indexSlV 13 t72_3 v10 M) ⟨fun t74_5 =>
  @OptVH (loadV 13 true t74_5 M) ⟨fun t75_6 =>
  @OptVH (buildSliceV [(.int .i64 0), (.int .i64 0), (.int .i64 0), (.int .i64 0), (.int .i64 0), (.str []), (.int .i64 0), (.int .i64 0), (.int .i64 0), (.int .i64 0), (.int .i64 0), (.bool false), (.slice [] .nil)] 13 1 [(0, 13, t75_6)]) ⟨fun t76_7 =>
  @OptMH (appV false 13 128 v9 t76_7 M) ⟨fun t77_8 M8 =>
  Q .normal [(2, v2), (3, v3), (4, v4), (6, v6), (9, t77_8), (10, v10)] M8⟩⟩⟩⟩⟩⟩
theorem e24_31 (P : Program) (Q : Exit → Slots → Mem → Prop) (s : Slots) (M : Mem) : wpC P c24_31 Q s M = w24_31 P Q M (sget s 2) (sget s 3) (sget s 4) (sget s 6) (sget s 9) (sget s 10) := by kernel_rfl
def o24_32 : List AOper := [⟨some 52, (.load 13 true (.tmp 4)), false, none⟩,
  ⟨some 53, (.fieldAddr 2 (.tmp 3)), false, none⟩,
  ⟨some 54, (.load 1 false (.tmp 53)), false, none⟩,
  ⟨some 55, (.mov (.tmp 10)), false, none⟩,
  ⟨some 56, (.indexSl 13 (.tmp 54) (.tmp 55)), false, none⟩,
  ⟨some 57, (.load 13 true (.tmp 56)), false, none⟩,
  ⟨some 58, (.call i_transitref31_Supersedes [(.tmp 52), (.tmp 57)]), true, none⟩,
  ⟨some 59, (.un .not (.tmp 58)), true, none⟩,
  ⟨some 60, (.mov (.tmp 59)), true, none⟩,
  ⟨some 61, (.fieldAddr 2 (.tmp 3)), false, some (60, true)⟩,
  ⟨some 62, (.load 1 false (.tmp 61)), false, some (60, true)⟩,
  ⟨some 63, (.mov (.tmp 10)), false, some (60, true)⟩,
  ⟨some 64, (.indexSl 13 (.tmp 62) (.tmp 63)), false, some (60, true)⟩,
  ⟨some 65, (.fieldAddr 3 (.tmp 64)), false, some (60, true)⟩,
  ⟨some 66, (.load 1 false (.tmp 65)), false, some (60, true)⟩,
  ⟨some 67, (.mov (.tmp 2)), false, some (60, true)⟩,
  ⟨some 68, (.bin .gtr .none (.tmp 66) (.tmp 67)), true, some (60, true)⟩,
  ⟨some 69, (.pick (.tmp 60) (.tmp 68) (.const (.bool false))), true, none⟩]
def c24_33 : ACode := (.seq (.mixed o24_32 [true, true, true, true, true, true, false, true, true, true, true, true, true, true, true, true, true, true] [2, 3, 4, 6, 9, 10, 69]) (.cond (.tmp 69) c24_31 .skip))
def w24_33 (P : Program) (Q : Exit → Slots → Mem → Prop) (M : Mem) (v2 : V) (v3 : V) (v4 : V) (v6 : V) (v9 : V) (v10 : V) : Prop :=
  @OptVH (loadV 13 true v4 M) ⟨fun t52_1 =>
  @OptVH (moveV 2 v3) ⟨fun t53_2 =>
  @OptVH (loadV 1 false t53_2 M) ⟨fun t54_3 =>
  @OptVH (indexSlV 13 t54_3 v10 M) ⟨fun t56_5 =>
  @OptVH (loadV 13 true t56_5 M) ⟨fun t57_6 =>
  @CallH P i_transitref31_Supersedes [t52_1, t57_6] M ⟨fun t58_7 M7 => @OptBH (some t58_7) ⟨fun b58_7 =>
  @OptBH (unV .not (.bool b58_7)) ⟨fun b59_8 =>
  @BIfH b59_8
  ⟨@OptVH (moveV 2 v3) ⟨fun t61_10 =>
  @OptVH (loadV 1 false t61_10 M7) ⟨fun t62_11 =>
  @OptVH (indexSlV 13 t62_11 v10 M7) ⟨fun t64_13 =>
  @OptVH (moveV 3 t64_13) ⟨fun t65_14 =>
  @OptVH (loadV 1 false t65_14 M7) ⟨fun t66_15 =>
  @OptBH (binV .gtr .none t66_15 v2) ⟨fun b68_17 =>
  @BIfH b68_17
  ⟨wpC P c24_31 Q [(2, v2), (3, v3), (4, v4), (6, v6), (9, v9), (10, v10), (69, (.bool b68_17))] M7⟩
  ⟨Q .normal [(2, v2), (3, v3), (4, v4), (6, v6), (9, v9), (10, v10), (69, (.bool b68_17))] M7⟩⟩⟩⟩⟩⟩⟩⟩
  ⟨Q .normal [(2, v2), (3, v3), (4, v4), (6, v6), (9, v9), (10, v10), (69, (.bool false))] M7⟩⟩⟩⟩⟩⟩⟩⟩⟩
theorem e24_33 (P : Program) (Q : Exit → Slots → Mem → Prop) (s : Slots) (M : Mem) : wpC P c24_33 Q s M = w24_33 P Q M (sget s 2) (sget s 3) (sget s 4) (sget s 6) (sget s 9) (sget s 10) := by kernel_rfl
def c24_34 : ACode := (.block 1 c24_33)
def o24_35 : List AOper := [⟨some 50, (.mov (.tmp 10)), false, none⟩,
  ⟨some 51, (.bin .add .none (.tmp 50) (.const (.int .i64 1))), false, none⟩,
  ⟨some 10, (.mov (.tmp 51)), false, none⟩]
def c24_36 : ACode := (.region o24_35 [2, 3, 4, 6, 9, 10])
def w24_36 (_P : Program) (Q : Exit → Slots → Mem → Prop) (M : Mem) (v2 : V) (v3 : V) (v4 : V) (v6 : V) (v9 : V) (v10 : V) : Prop :=
  @OptVH (binV .add .none v10 (.int .i64 1)) ⟨fun t51_2 =>
  Q .normal [(2, v2), (3, v3), (4, v4), (6, v6), (9, v9), (10, t51_2)] M⟩
theorem e24_36 (P : Program) (Q : Exit → Slots → Mem → Prop) (s : Slots) (M : Mem) : wpC P c24_36 Q s M = w24_36 P Q M (sget s 2) (sget s 3) (sget s 4) (sget s 6) (sget s 9) (sget s 10) := by kernel_rfl
def c24_37 : ACode := (.seq c24_34 c24_36)
def c24_38 : ACode := (.seq c24_29 c24_37)
def c24_39 : ACode := (.loop [2, 3, 4, 6, 9, 10] c24_38)
def c24_40 : ACode := (.block 0 c24_39)
def c24_41 : ACode := (.seq c24_27 c24_40)
def o24_42 : List AOper := [⟨some 81, (.load 3 true (.tmp 3)), false, none⟩,
  ⟨none, (.store 3 (.tmp 6) (.tmp 81)), false, none⟩,
  ⟨some 7, (.mov (.const (.int .i64 5))), false, none⟩]
def c24_43 : ACode := (.region o24_42 [6, 7])
def w24_43 (_P : Program) (Q : Exit → Slots → Mem → Prop) (M : Mem) (v3 : V) (v6 : V) : Prop :=
  @OptVH (loadV 3 true v3 M) ⟨fun t81_1 =>
  @OptMH (storeVM 3 v6 t81_1 M) ⟨fun _tx_2 M2 =>
  Q .normal [(6, v6), (7, (.int .i64 5))] M2⟩⟩
theorem e24_43 (P : Program) (Q : Exit → Slots → Mem → Prop) (s : Slots) (M : Mem) : wpC P c24_43 Q s M = w24_43 P Q M (sget s 3) (sget s 6) := by kernel_rfl
def c24_44 : ACode := (.seq c24_43 .ret)
def o24_45 : List AOper := [⟨some 78, (.mov (.tmp 9)), false, none⟩,
  ⟨some 79, (.lenSl (.tmp 78)), false, none⟩,
  ⟨some 80, (.bin .geq .none (.tmp 79) (.const (.int .i64 256))), true, none⟩]
def c24_46 : ACode := (.seq (.region o24_45 [2, 3, 4, 6, 9, 80]) (.cond (.tmp 80) c24_44 .skip))
def w24_46 (P : Program) (Q : Exit → Slots → Mem → Prop) (M : Mem) (v2 : V) (v3 : V) (v4 : V) (v6 : V) (v9 : V) : Prop :=
  @OptVH (lenV v9 M) ⟨fun t79_2 =>
  @OptBH (binV .geq .none t79_2 (.int .i64 256)) ⟨fun b80_3 =>
  @BIfH b80_3
  ⟨wpC P c24_44 Q [(2, v2), (3, v3), (4, v4), (6, v6), (9, v9), (80, (.bool b80_3))] M⟩
  ⟨Q .normal [(2, v2), (3, v3), (4, v4), (6, v6), (9, v9), (80, (.bool b80_3))] M⟩⟩⟩
theorem e24_46 (P : Program) (Q : Exit → Slots → Mem → Prop) (s : Slots) (M : Mem) : wpC P c24_46 Q s M = w24_46 P Q M (sget s 2) (sget s 3) (sget s 4) (sget s 6) (sget s 9) := by kernel_rfl
def o24_47 : List AOper := [⟨some 82, (.fieldAddr 0 (.tmp 3)), false, none⟩,
  ⟨some 83, (.load 1 false (.tmp 82)), false, none⟩,
  ⟨some 84, (.fieldAddr 1 (.tmp 3)), false, none⟩,
  ⟨some 85, (.load 1 false (.tmp 84)), false, none⟩,
  ⟨some 86, (.fieldAddr 0 (.tmp 4)), false, none⟩,
  ⟨some 87, (.load 1 false (.tmp 86)), false, none⟩,
  ⟨some 88, (.mov (.tmp 2)), false, none⟩,
  ⟨some 89, (.fieldAddr 1 (.tmp 4)), false, none⟩,
  ⟨some 90, (.load 1 false (.tmp 89)), false, none⟩,
  ⟨some 92, (.mov (.tmp 9)), false, none⟩,
  ⟨some 93, (.load 13 true (.tmp 4)), false, none⟩,
  ⟨some 94, (.buildSlice [(.int .i64 0), (.int .i64 0), (.int .i64 0), (.int .i64 0), (.int .i64 0), (.str []), (.int .i64 0), (.int .i64 0), (.int .i64 0), (.int .i64 0), (.int .i64 0), (.bool false), (.slice [] .nil)] 13 1 [(0, (13, (.tmp 93)))]), false, none⟩,
  ⟨some 91, (.call i_transitref32_heard [(.tmp 85), (.tmp 87), (.tmp 88), (.tmp 90)]), false, none⟩,
  ⟨some 95, (.append false 13 128 (.tmp 92) (.tmp 94)), false, none⟩,
  ⟨some 96, (.build [(.int .i64 0), (.slice [] .nil), (.slice [] .nil)] [(0, (1, (.tmp 83))), (1, (1, (.tmp 91))), (2, (1, (.tmp 95)))]), false, none⟩,
  ⟨none, (.store 3 (.tmp 6) (.tmp 96)), false, none⟩,
  ⟨some 7, (.mov (.const (.int .i64 0))), false, none⟩]
def c24_48 : ACode := (.float o24_47 [none, none, none, none, none, none, none, none, none, none, none, none, (some [0, 1, 9, 10, 11]), (some [0, 1]), none, (some []), none] [6, 7])
def w24_48 (P : Program) (Q : Exit → Slots → Mem → Prop) (M : Mem) (v2 : V) (v3 : V) (v4 : V) (v6 : V) (v9 : V) : Prop :=
  @OptVH (moveV 0 v3) ⟨fun t82_1 =>
  @OptVH (loadV 1 false t82_1 M) ⟨fun t83_2 =>
  @OptVH (moveV 1 v3) ⟨fun t84_3 =>
  @OptVH (loadV 1 false t84_3 M) ⟨fun t85_4 =>
  @OptVH (moveV 0 v4) ⟨fun t86_5 =>
  @OptVH (loadV 1 false t86_5 M) ⟨fun t87_6 =>
  @OptVH (moveV 1 v4) ⟨fun t89_8 =>
  @OptVH (loadV 1 false t89_8 M) ⟨fun t90_9 =>
  @OptVH (loadV 13 true v4 M) ⟨fun t93_11 =>
  @OptVH (buildSliceV [(.int .i64 0), (.int .i64 0), (.int .i64 0), (.int .i64 0), (.int .i64 0), (.str []), (.int .i64 0), (.int .i64 0), (.int .i64 0), (.int .i64 0), (.int .i64 0), (.bool false), (.slice [] .nil)] 13 1 [(0, 13, t93_11)]) ⟨fun t94_12 =>
  @CallH P i_transitref32_heard [t85_4, t87_6, v2, t90_9] M ⟨fun t91_13 M13 =>
  (moveV 0 v3 = some t82_1 ∧ loadV 1 false t82_1 M13 = some t83_2 ∧ some v9 = some v9 ∧ loadV 13 true v4 M13 = some t93_11 ∧ buildSliceV [(.int .i64 0), (.int .i64 0), (.int .i64 0), (.int .i64 0), (.int .i64 0), (.str []), (.int .i64 0), (.int .i64 0), (.int .i64 0), (.int .i64 0), (.int .i64 0), (.bool false), (.slice [] .nil)] 13 1 [(0, 13, t93_11)] = some t94_12 ∧ True) ∧ (@OptMH (appV false 13 128 v9 t94_12 M13) ⟨fun t95_14 M14 =>
  (moveV 0 v3 = some t82_1 ∧ loadV 1 false t82_1 M14 = some t83_2 ∧ True) ∧ (@OptVH (buildV [(.int .i64 0), (.slice [] .nil), (.slice [] .nil)] [(0, 1, t83_2), (1, 1, t91_13), (2, 1, t95_14)]) ⟨fun t96_15 =>
  @OptMH (storeVM 3 v6 t96_15 M14) ⟨fun _tx_16 M16 =>
  (True) ∧ (Q .normal [(6, v6), (7, (.int .i64 0))] M16)⟩⟩)⟩)⟩⟩⟩⟩⟩⟩⟩⟩⟩⟩⟩
theorem e24_48 (P : Program) (Q : Exit → Slots → Mem → Prop) (s : Slots) (M : Mem) : wpC P c24_48 Q s M = w24_48 P Q M (sget s 2) (sget s 3) (sget s 4) (sget s 6) (sget s 9) := by kernel_rfl
def c24_49 : ACode := (.seq c24_48 .ret)
def c24_50 : ACode := (.seq c24_46 c24_49)
def c24_51 : ACode := (.seq c24_41 c24_50)
def c24_52 : ACode := (.seq c24_25 c24_51)
def c24_53 : ACode := (.seq c24_23 c24_52)
def c24_54 : ACode := (.seq c24_18 c24_53)
def c24_55 : ACode := (.seq c24_13 c24_54)
def c24_56 : ACode := (.seq c24_8 c24_55)
def c24_57 : ACode := (.seq c24_6 c24_56)
def c24_58 : ACode := (.seq c24_1 c24_57)
def fn_transitref32_Receive : AFn := ⟨97, [(.cell 6 3 true), (.tmp 7)], c24_58⟩
theorem fn_transitref32_Receive_ok : resFn PR h_transitref32_Receive i_transitref32_Receive = some fn_transitref32_Receive := by kernel_rfl

def h_inbox_Inbox_Heartbeat : Hints := ⟨[(0, [0, 1, 2]), (1, [0, 1, 2, 7]), (2, [6]), (3, [0, 1, 2, 10]), (4, [6]), (5, [0, 1, 2, 15]), (6, [6]), (7, []), (8, [6])], [], []⟩
def o25_0 : List AOper := [⟨some 6, (.mov (.const (.int .i64 0))), false, none⟩]
def c25_1 : ACode := (.region o25_0 [0, 1, 2])
def w25_1 (_P : Program) (Q : Exit → Slots → Mem → Prop) (M : Mem) (v0 : V) (v1 : V) (v2 : V) : Prop :=
  Q .normal [(0, v0), (1, v1), (2, v2)] M
theorem e25_1 (P : Program) (Q : Exit → Slots → Mem → Prop) (s : Slots) (M : Mem) : wpC P c25_1 Q s M = w25_1 P Q M (sget s 0) (sget s 1) (sget s 2) := by kernel_rfl
def o25_2 : List AOper := [⟨some 6, (.mov (.const (.int .i64 40))), false, none⟩]
def c25_3 : ACode := (.region o25_2 [6])
def w25_3 (_P : Program) (Q : Exit → Slots → Mem → Prop) (M : Mem) : Prop :=
  Q .normal [(6, (.int .i64 40))] M
theorem e25_3 (P : Program) (Q : Exit → Slots → Mem → Prop) (s : Slots) (M : Mem) : wpC P c25_3 Q s M = w25_3 P Q M := by kernel_rfl
def c25_4 : ACode := (.seq c25_3 .ret)
def o25_5 : List AOper := [⟨some 6, (.mov (.const (.int .i64 36))), false, none⟩]
def c25_6 : ACode := (.region o25_5 [6])
def w25_6 (_P : Program) (Q : Exit → Slots → Mem → Prop) (M : Mem) : Prop :=
  Q .normal [(6, (.int .i64 36))] M
theorem e25_6 (P : Program) (Q : Exit → Slots → Mem → Prop) (s : Slots) (M : Mem) : wpC P c25_6 Q s M = w25_6 P Q M := by kernel_rfl
def c25_7 : ACode := (.seq c25_6 .ret)
def o25_8 : List AOper := [⟨some 6, (.mov (.const (.int .i64 10))), false, none⟩]
def c25_9 : ACode := (.region o25_8 [6])
def w25_9 (_P : Program) (Q : Exit → Slots → Mem → Prop) (M : Mem) : Prop :=
  Q .normal [(6, (.int .i64 10))] M
theorem e25_9 (P : Program) (Q : Exit → Slots → Mem → Prop) (s : Slots) (M : Mem) : wpC P c25_9 Q s M = w25_9 P Q M := by kernel_rfl
def c25_10 : ACode := (.seq c25_9 .ret)
def o25_11 : List AOper := [⟨some 16, (.mov (.tmp 2)), false, none⟩,
  ⟨some 17, (.bin .lss .none (.tmp 16) (.const (.int .i64 0))), true, none⟩,
  ⟨some 18, (.mov (.tmp 17)), true, none⟩,
  ⟨some 19, (.mov (.tmp 2)), false, some (18, false)⟩,
  ⟨some 20, (.bin .gtr .none (.tmp 19) (.const (.int .i64 3155932800))), true, some (18, false)⟩,
  ⟨some 21, (.pick (.tmp 18) (.const (.bool true)) (.tmp 20)), true, none⟩,
  ⟨some 15, (.mov (.tmp 21)), true, none⟩]
def c25_12 : ACode := (.seq (.region o25_11 [0, 1, 2, 15]) (.cond (.tmp 15) c25_10 .skip))
def w25_12 (P : Program) (Q : Exit → Slots → Mem → Prop) (M : Mem) (v0 : V) (v1 : V) (v2 : V) : Prop :=
  @OptBH (binV .lss .none v2 (.int .i64 0)) ⟨fun b17_2 =>
  @BIfH b17_2
  ⟨wpC P c25_10 Q [(0, v0), (1, v1), (2, v2), (15, (.bool true))] M⟩
  ⟨@OptBH (binV .gtr .none v2 (.int .i64 3155932800)) ⟨fun b20_7 =>
  @BIfH b20_7
  ⟨wpC P c25_10 Q [(0, v0), (1, v1), (2, v2), (15, (.bool b20_7))] M⟩
  ⟨Q .normal [(0, v0), (1, v1), (2, v2), (15, (.bool b20_7))] M⟩⟩⟩⟩
theorem e25_12 (P : Program) (Q : Exit → Slots → Mem → Prop) (s : Slots) (M : Mem) : wpC P c25_12 Q s M = w25_12 P Q M (sget s 0) (sget s 1) (sget s 2) := by kernel_rfl
def o25_13 : List AOper := [⟨some 11, (.mov (.tmp 0)), false, none⟩,
  ⟨some 12, (.mov (.tmp 1)), false, none⟩,
  ⟨some 13, (.call i_inbox_Inbox_exists [(.tmp 11), (.tmp 12)]), true, none⟩,
  ⟨some 14, (.un .not (.tmp 13)), true, none⟩,
  ⟨some 10, (.mov (.tmp 14)), true, none⟩]
def c25_14 : ACode := (.seq (.region o25_13 [0, 1, 2, 10]) (.cond (.tmp 10) c25_7 c25_12))
def w25_14 (P : Program) (Q : Exit → Slots → Mem → Prop) (M : Mem) (v0 : V) (v1 : V) (v2 : V) : Prop :=
  @CallH P i_inbox_Inbox_exists [v0, v1] M ⟨fun t13_3 M3 => @OptBH (some t13_3) ⟨fun b13_3 =>
  @OptBH (unV .not (.bool b13_3)) ⟨fun b14_4 =>
  @BIfH b14_4
  ⟨wpC P c25_7 Q [(0, v0), (1, v1), (2, v2), (10, (.bool b14_4))] M3⟩
  ⟨wpC P c25_12 Q [(0, v0), (1, v1), (2, v2), (10, (.bool b14_4))] M3⟩⟩⟩⟩
theorem e25_14 (P : Program) (Q : Exit → Slots → Mem → Prop) (s : Slots) (M : Mem) : wpC P c25_14 Q s M = w25_14 P Q M (sget s 0) (sget s 1) (sget s 2) := by kernel_rfl
def o25_15 : List AOper := [⟨some 8, (.mov (.tmp 0)), false, none⟩,
  ⟨some 9, (.bin .eql .ptr (.tmp 8) (.const .nilp)), true, none⟩,
  ⟨some 7, (.mov (.tmp 9)), true, none⟩]
def c25_16 : ACode := (.seq (.region o25_15 [0, 1, 2, 7]) (.cond (.tmp 7) c25_4 c25_14))
def w25_16 (P : Program) (Q : Exit → Slots → Mem → Prop) (M : Mem) (v0 : V) (v1 : V) (v2 : V) : Prop :=
  @OptBH (binV .eql .ptr v0 .nilp) ⟨fun b9_2 =>
  @BIfH b9_2
  ⟨wpC P c25_4 Q [(0, v0), (1, v1), (2, v2), (7, (.bool b9_2))] M⟩
  ⟨wpC P c25_14 Q [(0, v0), (1, v1), (2, v2), (7, (.bool b9_2))] M⟩⟩
theorem e25_16 (P : Program) (Q : Exit → Slots → Mem → Prop) (s : Slots) (M : Mem) : wpC P c25_16 Q s M = w25_16 P Q M (sget s 0) (sget s 1) (sget s 2) := by kernel_rfl
def c25_17 : ACode := (.block 0 c25_16)
def o25_18 : List AOper := [⟨some 22, (.mov (.tmp 0)), false, none⟩,
  ⟨some 23, (.nilCheck (.tmp 22)), false, none⟩,
  ⟨some 24, (.fieldAddr 0 (.tmp 23)), false, none⟩,
  ⟨some 25, (.load 1 false (.tmp 24)), false, none⟩,
  ⟨some 26, (.mov (.tmp 1)), false, none⟩,
  ⟨some 27, (.indexSl 4 (.tmp 25) (.tmp 26)), false, none⟩,
  ⟨some 28, (.fieldAddr 0 (.tmp 27)), false, none⟩,
  ⟨some 29, (.mov (.tmp 2)), false, none⟩,
  ⟨some 30, (.call i_inbox_heard_hear [(.tmp 28), (.tmp 29)]), false, none⟩]
def c25_19 : ACode := (.region o25_18 [])
def w25_19 (P : Program) (Q : Exit → Slots → Mem → Prop) (M : Mem) (v0 : V) (v1 : V) (v2 : V) : Prop :=
  @OptVH (nilCheckV v0) ⟨fun t23_2 =>
  @OptVH (moveV 0 t23_2) ⟨fun t24_3 =>
  @OptVH (loadV 1 false t24_3 M) ⟨fun t25_4 =>
  @OptVH (indexSlV 4 t25_4 v1 M) ⟨fun t27_6 =>
  @OptVH (moveV 0 t27_6) ⟨fun t28_7 =>
  @CallH P i_inbox_heard_hear [t28_7, v2] M ⟨fun _t30_9 M9 =>
  Q .normal [] M9⟩⟩⟩⟩⟩⟩
theorem e25_19 (P : Program) (Q : Exit → Slots → Mem → Prop) (s : Slots) (M : Mem) : wpC P c25_19 Q s M = w25_19 P Q M (sget s 0) (sget s 1) (sget s 2) := by kernel_rfl
def o25_20 : List AOper := [⟨some 6, (.mov (.const (.int .i64 0))), false, none⟩]
def c25_21 : ACode := (.region o25_20 [6])
def w25_21 (_P : Program) (Q : Exit → Slots → Mem → Prop) (M : Mem) : Prop :=
  Q .normal [(6, (.int .i64 0))] M
theorem e25_21 (P : Program) (Q : Exit → Slots → Mem → Prop) (s : Slots) (M : Mem) : wpC P c25_21 Q s M = w25_21 P Q M := by kernel_rfl
def c25_22 : ACode := (.seq c25_21 .ret)
def c25_23 : ACode := (.seq c25_19 c25_22)
def c25_24 : ACode := (.seq c25_17 c25_23)
def c25_25 : ACode := (.seq c25_1 c25_24)
def fn_inbox_Inbox_Heartbeat : AFn := ⟨31, [(.tmp 6)], c25_25⟩
theorem fn_inbox_Inbox_Heartbeat_ok : resFn PR h_inbox_Inbox_Heartbeat i_inbox_Inbox_Heartbeat = some fn_inbox_Inbox_Heartbeat := by kernel_rfl

def h_transitref32_Heartbeat : Hints := ⟨[(0, [1, 2, 3, 6]), (1, [1, 2, 3, 6, 16]), (2, [6, 7]), (3, [1, 2, 3, 6, 20]), (4, [6, 7]), (5, [6, 7])], [], []⟩
def o26_0 : List AOper := [⟨some 3, (.box 3 (.tmp 0)), false, none⟩,
  ⟨some 6, (.alloc [(.int .i64 0), (.slice [] .nil), (.slice [] .nil)]), false, none⟩,
  ⟨some 7, (.mov (.const (.int .i64 0))), false, none⟩]
def c26_1 : ACode := (.region o26_0 [1, 2, 3, 6])
def w26_1 (_P : Program) (Q : Exit → Slots → Mem → Prop) (M : Mem) (v0 : V) (v1 : V) (v2 : V) : Prop :=
  @OptMH (boxV 3 v0 M) ⟨fun t3_1 M1 =>
  @OptMH (allocV [(.int .i64 0), (.slice [] .nil), (.slice [] .nil)] M1) ⟨fun t6_2 M2 =>
  Q .normal [(1, v1), (2, v2), (3, t3_1), (6, t6_2)] M2⟩⟩
theorem e26_1 (P : Program) (Q : Exit → Slots → Mem → Prop) (s : Slots) (M : Mem) : wpC P c26_1 Q s M = w26_1 P Q M (sget s 0) (sget s 1) (sget s 2) := by kernel_rfl
def o26_2 : List AOper := [⟨some 17, (.load 3 true (.tmp 3)), false, none⟩,
  ⟨none, (.store 3 (.tmp 6) (.tmp 17)), false, none⟩,
  ⟨some 7, (.mov (.const (.int .i64 36))), false, none⟩]
def c26_3 : ACode := (.region o26_2 [6, 7])
def w26_3 (_P : Program) (Q : Exit → Slots → Mem → Prop) (M : Mem) (v3 : V) (v6 : V) : Prop :=
  @OptVH (loadV 3 true v3 M) ⟨fun t17_1 =>
  @OptMH (storeVM 3 v6 t17_1 M) ⟨fun _tx_2 M2 =>
  Q .normal [(6, v6), (7, (.int .i64 36))] M2⟩⟩
theorem e26_3 (P : Program) (Q : Exit → Slots → Mem → Prop) (s : Slots) (M : Mem) : wpC P c26_3 Q s M = w26_3 P Q M (sget s 3) (sget s 6) := by kernel_rfl
def c26_4 : ACode := (.seq c26_3 .ret)
def o26_5 : List AOper := [⟨some 8, (.mov (.tmp 1)), false, none⟩,
  ⟨some 9, (.bin .lss .none (.tmp 8) (.const (.int .i64 0))), true, none⟩,
  ⟨some 10, (.mov (.tmp 9)), true, none⟩,
  ⟨some 11, (.mov (.tmp 1)), false, some (10, false)⟩,
  ⟨some 12, (.fieldAddr 1 (.tmp 3)), false, some (10, false)⟩,
  ⟨some 13, (.load 1 false (.tmp 12)), false, some (10, false)⟩,
  ⟨some 14, (.lenSl (.tmp 13)), false, some (10, false)⟩,
  ⟨some 15, (.bin .geq .none (.tmp 11) (.tmp 14)), true, some (10, false)⟩,
  ⟨some 16, (.pick (.tmp 10) (.const (.bool true)) (.tmp 15)), true, none⟩]
def c26_6 : ACode := (.seq (.region o26_5 [1, 2, 3, 6, 16]) (.cond (.tmp 16) c26_4 .skip))
def w26_6 (P : Program) (Q : Exit → Slots → Mem → Prop) (M : Mem) (v1 : V) (v2 : V) (v3 : V) (v6 : V) : Prop :=
  @OptBH (binV .lss .none v1 (.int .i64 0)) ⟨fun b9_2 =>
  @BIfH b9_2
  ⟨wpC P c26_4 Q [(1, v1), (2, v2), (3, v3), (6, v6), (16, (.bool true))] M⟩
  ⟨@OptVH (moveV 1 v3) ⟨fun t12_6 =>
  @OptVH (loadV 1 false t12_6 M) ⟨fun t13_7 =>
  @OptVH (lenV t13_7 M) ⟨fun t14_8 =>
  @OptBH (binV .geq .none v1 t14_8) ⟨fun b15_9 =>
  @BIfH b15_9
  ⟨wpC P c26_4 Q [(1, v1), (2, v2), (3, v3), (6, v6), (16, (.bool b15_9))] M⟩
  ⟨Q .normal [(1, v1), (2, v2), (3, v3), (6, v6), (16, (.bool b15_9))] M⟩⟩⟩⟩⟩⟩⟩
theorem e26_6 (P : Program) (Q : Exit → Slots → Mem → Prop) (s : Slots) (M : Mem) : wpC P c26_6 Q s M = w26_6 P Q M (sget s 1) (sget s 2) (sget s 3) (sget s 6) := by kernel_rfl
def o26_7 : List AOper := [⟨some 21, (.load 3 true (.tmp 3)), false, none⟩,
  ⟨none, (.store 3 (.tmp 6) (.tmp 21)), false, none⟩,
  ⟨some 7, (.mov (.const (.int .i64 10))), false, none⟩]
def c26_8 : ACode := (.region o26_7 [6, 7])
def w26_8 (_P : Program) (Q : Exit → Slots → Mem → Prop) (M : Mem) (v3 : V) (v6 : V) : Prop :=
  @OptVH (loadV 3 true v3 M) ⟨fun t21_1 =>
  @OptMH (storeVM 3 v6 t21_1 M) ⟨fun _tx_2 M2 =>
  Q .normal [(6, v6), (7, (.int .i64 10))] M2⟩⟩
theorem e26_8 (P : Program) (Q : Exit → Slots → Mem → Prop) (s : Slots) (M : Mem) : wpC P c26_8 Q s M = w26_8 P Q M (sget s 3) (sget s 6) := by kernel_rfl
def c26_9 : ACode := (.seq c26_8 .ret)
def o26_10 : List AOper := [⟨some 18, (.mov (.tmp 2)), false, none⟩,
  ⟨some 19, (.call i_transitref32_moment [(.tmp 18)]), true, none⟩,
  ⟨some 20, (.un .not (.tmp 19)), true, none⟩]
def c26_11 : ACode := (.seq (.region o26_10 [1, 2, 3, 6, 20]) (.cond (.tmp 20) c26_9 .skip))
def w26_11 (P : Program) (Q : Exit → Slots → Mem → Prop) (M : Mem) (v1 : V) (v2 : V) (v3 : V) (v6 : V) : Prop :=
  @CallH P i_transitref32_moment [v2] M ⟨fun t19_2 M2 => @OptBH (some t19_2) ⟨fun b19_2 =>
  @OptBH (unV .not (.bool b19_2)) ⟨fun b20_3 =>
  @BIfH b20_3
  ⟨wpC P c26_9 Q [(1, v1), (2, v2), (3, v3), (6, v6), (20, (.bool b20_3))] M2⟩
  ⟨Q .normal [(1, v1), (2, v2), (3, v3), (6, v6), (20, (.bool b20_3))] M2⟩⟩⟩⟩
theorem e26_11 (P : Program) (Q : Exit → Slots → Mem → Prop) (s : Slots) (M : Mem) : wpC P c26_11 Q s M = w26_11 P Q M (sget s 1) (sget s 2) (sget s 3) (sget s 6) := by kernel_rfl
def o26_12 : List AOper := [⟨some 22, (.fieldAddr 0 (.tmp 3)), false, none⟩,
  ⟨some 23, (.load 1 false (.tmp 22)), false, none⟩,
  ⟨some 24, (.fieldAddr 1 (.tmp 3)), false, none⟩,
  ⟨some 25, (.load 1 false (.tmp 24)), false, none⟩,
  ⟨some 26, (.mov (.tmp 1)), false, none⟩,
  ⟨some 27, (.mov (.tmp 2)), false, none⟩,
  ⟨some 28, (.call i_transitref32_heard [(.tmp 25), (.tmp 26), (.tmp 27), (.const (.int .i64 0))]), false, none⟩,
  ⟨some 29, (.fieldAddr 2 (.tmp 3)), false, none⟩,
  ⟨some 30, (.load 1 false (.tmp 29)), false, none⟩,
  ⟨some 31, (.build [(.int .i64 0), (.slice [] .nil), (.slice [] .nil)] [(0, (1, (.tmp 23))), (1, (1, (.tmp 28))), (2, (1, (.tmp 30)))]), false, none⟩,
  ⟨none, (.store 3 (.tmp 6) (.tmp 31)), false, none⟩,
  ⟨some 7, (.mov (.const (.int .i64 0))), false, none⟩]
def c26_13 : ACode := (.mixed o26_12 [true, true, true, true, true, true, true, true, true, true, false, true] [6, 7])
def w26_13 (P : Program) (Q : Exit → Slots → Mem → Prop) (M : Mem) (v1 : V) (v2 : V) (v3 : V) (v6 : V) : Prop :=
  @OptVH (moveV 0 v3) ⟨fun t22_1 =>
  @OptVH (loadV 1 false t22_1 M) ⟨fun t23_2 =>
  @OptVH (moveV 1 v3) ⟨fun t24_3 =>
  @OptVH (loadV 1 false t24_3 M) ⟨fun t25_4 =>
  @CallQ P i_transitref32_heard [t25_4, v1, v2, (.int .i64 0)] M ⟨fun t28_7 M7 =>
  @OptVH (moveV 2 v3) ⟨fun t29_8 =>
  @OptVH (loadV 1 false t29_8 M7) ⟨fun t30_9 =>
  @OptVH (buildV [(.int .i64 0), (.slice [] .nil), (.slice [] .nil)] [(0, 1, t23_2), (1, 1, t28_7), (2, 1, t30_9)]) ⟨fun t31_10 =>
  @OptMH (storeVM 3 v6 t31_10 M7) ⟨fun _tx_11 M11 =>
  Q .normal [(6, v6), (7, (.int .i64 0))] M11⟩⟩⟩⟩⟩⟩⟩⟩⟩
theorem e26_13 (P : Program) (Q : Exit → Slots → Mem → Prop) (s : Slots) (M : Mem) : wpC P c26_13 Q s M = w26_13 P Q M (sget s 1) (sget s 2) (sget s 3) (sget s 6) := by kernel_rfl
def c26_14 : ACode := (.seq c26_13 .ret)
def c26_15 : ACode := (.seq c26_11 c26_14)
def c26_16 : ACode := (.seq c26_6 c26_15)
def c26_17 : ACode := (.seq c26_1 c26_16)
def fn_transitref32_Heartbeat : AFn := ⟨32, [(.cell 6 3 true), (.tmp 7)], c26_17⟩
theorem fn_transitref32_Heartbeat_ok : resFn PR h_transitref32_Heartbeat i_transitref32_Heartbeat = some fn_transitref32_Heartbeat := by kernel_rfl

def h_transitlaw32_same : Hints := ⟨[(0, [0, 2, 3, 5]), (1, [0, 2, 3, 5, 9]), (2, [0, 2, 3, 5, 9, 19]), (3, [0, 2, 3, 5, 9]), (4, [0, 2, 3, 5, 9, 10, 11]), (5, [0, 2, 3, 5, 9, 10, 11, 12, 13]), (6, [0, 2, 3, 5, 9, 52]), (7, [8]), (8, [0, 2, 3, 5, 14, 15]), (9, [0, 2, 3, 5, 14, 15, 16, 17]), (10, [8])], [(2, [0, 2, 3, 5, 9])], []⟩
def o27_0 : List AOper := [⟨some 5, (.box 3 (.tmp 1)), false, none⟩,
  ⟨some 8, (.mov (.const (.bool false))), true, none⟩]
def c27_1 : ACode := (.region o27_0 [0, 2, 3, 5])
def w27_1 (_P : Program) (Q : Exit → Slots → Mem → Prop) (M : Mem) (v0 : V) (v1 : V) (v2 : V) (v3 : V) : Prop :=
  @OptMH (boxV 3 v1 M) ⟨fun t5_1 M1 =>
  Q .normal [(0, v0), (2, v2), (3, v3), (5, t5_1)] M1⟩
theorem e27_1 (P : Program) (Q : Exit → Slots → Mem → Prop) (s : Slots) (M : Mem) : wpC P c27_1 Q s M = w27_1 P Q M (sget s 0) (sget s 1) (sget s 2) (sget s 3) := by kernel_rfl
def o27_2 : List AOper := [⟨some 9, (.mov (.const (.int .i64 (-1)))), false, none⟩]
def c27_3 : ACode := (.region o27_2 [0, 2, 3, 5, 9])
def w27_3 (_P : Program) (Q : Exit → Slots → Mem → Prop) (M : Mem) (v0 : V) (v2 : V) (v3 : V) (v5 : V) : Prop :=
  Q .normal [(0, v0), (2, v2), (3, v3), (5, v5), (9, (.int .i64 (-1)))] M
theorem e27_3 (P : Program) (Q : Exit → Slots → Mem → Prop) (s : Slots) (M : Mem) : wpC P c27_3 Q s M = w27_3 P Q M (sget s 0) (sget s 2) (sget s 3) (sget s 5) := by kernel_rfl
def o27_4 : List AOper := [⟨some 18, (.mov (.tmp 9)), false, none⟩,
  ⟨some 19, (.bin .lss .none (.tmp 18) (.const (.int .i64 9))), true, none⟩]
def c27_5 : ACode := (.seq (.region o27_4 [0, 2, 3, 5, 9, 19]) (.cond (.tmp 19) .skip (.exit 0)))
def w27_5 (_P : Program) (Q : Exit → Slots → Mem → Prop) (M : Mem) (v0 : V) (v2 : V) (v3 : V) (v5 : V) (v9 : V) : Prop :=
  @OptBH (binV .lss .none v9 (.int .i64 9)) ⟨fun b19_2 =>
  @BIfH b19_2
  ⟨Q .normal [(0, v0), (2, v2), (3, v3), (5, v5), (9, v9), (19, (.bool b19_2))] M⟩
  ⟨Q (.exit 0) [(0, v0), (2, v2), (3, v3), (5, v5), (9, v9), (19, (.bool b19_2))] M⟩⟩
theorem e27_5 (P : Program) (Q : Exit → Slots → Mem → Prop) (s : Slots) (M : Mem) : wpC P c27_5 Q s M = w27_5 P Q M (sget s 0) (sget s 2) (sget s 3) (sget s 5) (sget s 9) := by kernel_rfl
def o27_6 : List AOper := [⟨some 23, (.mov (.tmp 0)), false, none⟩,
  ⟨some 24, (.mov (.tmp 9)), false, none⟩,
  ⟨some 25, (.call i_inbox_Inbox_Sequence [(.tmp 23), (.tmp 24)]), false, none⟩,
  ⟨some 22, (.mov (.tmp 25)), false, none⟩,
  ⟨some 26, (.extract (.tmp 22) 0), false, none⟩,
  ⟨some 27, (.extract (.tmp 22) 1), true, none⟩,
  ⟨some 10, (.mov (.tmp 26)), false, none⟩,
  ⟨some 11, (.mov (.tmp 27)), true, none⟩]
def c27_7 : ACode := (.region o27_6 [0, 2, 3, 5, 9, 10, 11])
def w27_7 (P : Program) (Q : Exit → Slots → Mem → Prop) (M : Mem) (v0 : V) (v2 : V) (v3 : V) (v5 : V) (v9 : V) : Prop :=
  @CallH P i_inbox_Inbox_Sequence [v0, v9] M ⟨fun t25_3 M3 =>
  @OptVH (extractV t25_3 0) ⟨fun t26_5 =>
  @OptBH (extractV t25_3 1) ⟨fun b27_6 =>
  Q .normal [(0, v0), (2, v2), (3, v3), (5, v5), (9, v9), (10, t26_5), (11, (.bool b27_6))] M3⟩⟩⟩
theorem e27_7 (P : Program) (Q : Exit → Slots → Mem → Prop) (s : Slots) (M : Mem) : wpC P c27_7 Q s M = w27_7 P Q M (sget s 0) (sget s 2) (sget s 3) (sget s 5) (sget s 9) := by kernel_rfl
def o27_8 : List AOper := [⟨some 29, (.load 3 true (.tmp 5)), false, none⟩,
  ⟨some 30, (.mov (.tmp 9)), false, none⟩,
  ⟨some 31, (.call i_transitref32_Sequence [(.tmp 29), (.tmp 30)]), false, none⟩,
  ⟨some 28, (.mov (.tmp 31)), false, none⟩,
  ⟨some 32, (.extract (.tmp 28) 0), false, none⟩,
  ⟨some 33, (.extract (.tmp 28) 1), true, none⟩,
  ⟨some 12, (.mov (.tmp 32)), false, none⟩,
  ⟨some 13, (.mov (.tmp 33)), true, none⟩]
def c27_9 : ACode := (.region o27_8 [0, 2, 3, 5, 9, 10, 11, 12, 13])
def w27_9 (P : Program) (Q : Exit → Slots → Mem → Prop) (M : Mem) (v0 : V) (v2 : V) (v3 : V) (v5 : V) (v9 : V) (v10 : V) (v11 : V) : Prop :=
  @OptVH (loadV 3 true v5 M) ⟨fun t29_1 =>
  @CallH P i_transitref32_Sequence [t29_1, v9] M ⟨fun t31_3 M3 =>
  @OptVH (extractV t31_3 0) ⟨fun t32_5 =>
  @OptBH (extractV t31_3 1) ⟨fun b33_6 =>
  Q .normal [(0, v0), (2, v2), (3, v3), (5, v5), (9, v9), (10, v10), (11, v11), (12, t32_5), (13, (.bool b33_6))] M3⟩⟩⟩⟩
theorem e27_9 (P : Program) (Q : Exit → Slots → Mem → Prop) (s : Slots) (M : Mem) : wpC P c27_9 Q s M = w27_9 P Q M (sget s 0) (sget s 2) (sget s 3) (sget s 5) (sget s 9) (sget s 10) (sget s 11) := by kernel_rfl
def o27_10 : List AOper := [⟨some 8, (.mov (.const (.bool false))), true, none⟩]
def c27_11 : ACode := (.region o27_10 [8])
def w27_11 (_P : Program) (Q : Exit → Slots → Mem → Prop) (M : Mem) : Prop :=
  Q .normal [(8, (.bool false))] M
theorem e27_11 (P : Program) (Q : Exit → Slots → Mem → Prop) (s : Slots) (M : Mem) : wpC P c27_11 Q s M = w27_11 P Q M := by kernel_rfl
def c27_12 : ACode := (.seq c27_11 .ret)
def o27_13 : List AOper := [⟨some 34, (.mov (.tmp 10)), false, none⟩,
  ⟨some 35, (.mov (.tmp 12)), false, none⟩,
  ⟨some 36, (.bin .neq .none (.tmp 34) (.tmp 35)), true, none⟩,
  ⟨some 37, (.mov (.tmp 36)), true, none⟩,
  ⟨some 38, (.mov (.tmp 11)), true, some (37, false)⟩,
  ⟨some 39, (.mov (.tmp 13)), true, some (37, false)⟩,
  ⟨some 40, (.bin .neq .bool (.tmp 38) (.tmp 39)), true, some (37, false)⟩,
  ⟨some 41, (.pick (.tmp 37) (.const (.bool true)) (.tmp 40)), true, none⟩,
  ⟨some 42, (.mov (.tmp 41)), true, none⟩,
  ⟨some 43, (.mov (.tmp 0)), false, some (42, false)⟩,
  ⟨some 44, (.mov (.tmp 9)), false, some (42, false)⟩,
  ⟨some 45, (.mov (.tmp 3)), false, some (42, false)⟩,
  ⟨some 46, (.call i_inbox_Inbox_Failed [(.tmp 43), (.tmp 44), (.tmp 45)]), true, some (42, false)⟩,
  ⟨some 47, (.load 3 true (.tmp 5)), false, some (42, false)⟩,
  ⟨some 48, (.mov (.tmp 9)), false, some (42, false)⟩,
  ⟨some 49, (.mov (.tmp 3)), false, some (42, false)⟩,
  ⟨some 50, (.call i_transitref32_Failed [(.tmp 47), (.tmp 48), (.tmp 49)]), true, some (42, false)⟩,
  ⟨some 51, (.bin .neq .bool (.tmp 46) (.tmp 50)), true, some (42, false)⟩,
  ⟨some 52, (.pick (.tmp 42) (.const (.bool true)) (.tmp 51)), true, none⟩]
def c27_14 : ACode := (.seq (.mixed o27_13 [true, true, true, true, true, true, true, true, true, true, true, true, true, true, true, true, false, true, true] [0, 2, 3, 5, 9, 52]) (.cond (.tmp 52) c27_12 .skip))
def w27_14 (P : Program) (Q : Exit → Slots → Mem → Prop) (M : Mem) (v0 : V) (v2 : V) (v3 : V) (v5 : V) (v9 : V) (v10 : V) (v11 : V) (v12 : V) (v13 : V) : Prop :=
  @OptBH (binV .neq .none v10 v12) ⟨fun b36_3 =>
  @BIfH b36_3
  ⟨wpC P c27_12 Q [(0, v0), (2, v2), (3, v3), (5, v5), (9, v9), (52, (.bool true))] M⟩
  ⟨@OptBH (some v11) ⟨fun b38_8 =>
  @OptBH (some v13) ⟨fun b39_9 =>
  @OptBH (binV .neq .bool (.bool b38_8) (.bool b39_9)) ⟨fun b40_10 =>
  @BIfH b40_10
  ⟨wpC P c27_12 Q [(0, v0), (2, v2), (3, v3), (5, v5), (9, v9), (52, (.bool true))] M⟩
  ⟨@CallQ P i_inbox_Inbox_Failed [v0, v9, v3] M ⟨fun t46_17 M17 => @OptBH (some t46_17) ⟨fun b46_17 =>
  @OptVH (loadV 3 true v5 M17) ⟨fun t47_18 =>
  @CallH P i_transitref32_Failed [t47_18, v9, v3] M17 ⟨fun t50_21 M21 => @OptBH (some t50_21) ⟨fun b50_21 =>
  @OptBH (binV .neq .bool (.bool b46_17) (.bool b50_21)) ⟨fun b51_22 =>
  @BIfH b51_22
  ⟨wpC P c27_12 Q [(0, v0), (2, v2), (3, v3), (5, v5), (9, v9), (52, (.bool b51_22))] M21⟩
  ⟨Q .normal [(0, v0), (2, v2), (3, v3), (5, v5), (9, v9), (52, (.bool b51_22))] M21⟩⟩⟩⟩⟩⟩⟩⟩⟩⟩⟩⟩⟩
theorem e27_14 (P : Program) (Q : Exit → Slots → Mem → Prop) (s : Slots) (M : Mem) : wpC P c27_14 Q s M = w27_14 P Q M (sget s 0) (sget s 2) (sget s 3) (sget s 5) (sget s 9) (sget s 10) (sget s 11) (sget s 12) (sget s 13) := by kernel_rfl
def c27_15 : ACode := (.seq c27_9 c27_14)
def c27_16 : ACode := (.seq c27_7 c27_15)
def c27_17 : ACode := (.block 1 c27_16)
def o27_18 : List AOper := [⟨some 20, (.mov (.tmp 9)), false, none⟩,
  ⟨some 21, (.bin .add .none (.tmp 20) (.const (.int .i64 1))), false, none⟩,
  ⟨some 9, (.mov (.tmp 21)), false, none⟩]
def c27_19 : ACode := (.region o27_18 [0, 2, 3, 5, 9])
def w27_19 (_P : Program) (Q : Exit → Slots → Mem → Prop) (M : Mem) (v0 : V) (v2 : V) (v3 : V) (v5 : V) (v9 : V) : Prop :=
  @OptVH (binV .add .none v9 (.int .i64 1)) ⟨fun t21_2 =>
  Q .normal [(0, v0), (2, v2), (3, v3), (5, v5), (9, t21_2)] M⟩
theorem e27_19 (P : Program) (Q : Exit → Slots → Mem → Prop) (s : Slots) (M : Mem) : wpC P c27_19 Q s M = w27_19 P Q M (sget s 0) (sget s 2) (sget s 3) (sget s 5) (sget s 9) := by kernel_rfl
def c27_20 : ACode := (.seq c27_17 c27_19)
def c27_21 : ACode := (.seq c27_5 c27_20)
def c27_22 : ACode := (.loop [0, 2, 3, 5, 9] c27_21)
def c27_23 : ACode := (.block 0 c27_22)
def c27_24 : ACode := (.seq c27_3 c27_23)
def o27_25 : List AOper := [⟨some 54, (.mov (.tmp 0)), false, none⟩,
  ⟨some 55, (.mov (.tmp 2)), false, none⟩,
  ⟨some 56, (.call i_inbox_Inbox_Sequence [(.tmp 54), (.tmp 55)]), false, none⟩,
  ⟨some 53, (.mov (.tmp 56)), false, none⟩,
  ⟨some 57, (.extract (.tmp 53) 0), false, none⟩,
  ⟨some 58, (.extract (.tmp 53) 1), true, none⟩,
  ⟨some 14, (.mov (.tmp 57)), false, none⟩,
  ⟨some 15, (.mov (.tmp 58)), true, none⟩]
def c27_26 : ACode := (.region o27_25 [0, 2, 3, 5, 14, 15])
def w27_26 (P : Program) (Q : Exit → Slots → Mem → Prop) (M : Mem) (v0 : V) (v2 : V) (v3 : V) (v5 : V) : Prop :=
  @CallH P i_inbox_Inbox_Sequence [v0, v2] M ⟨fun t56_3 M3 =>
  @OptVH (extractV t56_3 0) ⟨fun t57_5 =>
  @OptBH (extractV t56_3 1) ⟨fun b58_6 =>
  Q .normal [(0, v0), (2, v2), (3, v3), (5, v5), (14, t57_5), (15, (.bool b58_6))] M3⟩⟩⟩
theorem e27_26 (P : Program) (Q : Exit → Slots → Mem → Prop) (s : Slots) (M : Mem) : wpC P c27_26 Q s M = w27_26 P Q M (sget s 0) (sget s 2) (sget s 3) (sget s 5) := by kernel_rfl
def o27_27 : List AOper := [⟨some 60, (.load 3 true (.tmp 5)), false, none⟩,
  ⟨some 61, (.mov (.tmp 2)), false, none⟩,
  ⟨some 62, (.call i_transitref32_Sequence [(.tmp 60), (.tmp 61)]), false, none⟩,
  ⟨some 59, (.mov (.tmp 62)), false, none⟩,
  ⟨some 63, (.extract (.tmp 59) 0), false, none⟩,
  ⟨some 64, (.extract (.tmp 59) 1), true, none⟩,
  ⟨some 16, (.mov (.tmp 63)), false, none⟩,
  ⟨some 17, (.mov (.tmp 64)), true, none⟩]
def c27_28 : ACode := (.region o27_27 [0, 2, 3, 5, 14, 15, 16, 17])
def w27_28 (P : Program) (Q : Exit → Slots → Mem → Prop) (M : Mem) (v0 : V) (v2 : V) (v3 : V) (v5 : V) (v14 : V) (v15 : V) : Prop :=
  @OptVH (loadV 3 true v5 M) ⟨fun t60_1 =>
  @CallH P i_transitref32_Sequence [t60_1, v2] M ⟨fun t62_3 M3 =>
  @OptVH (extractV t62_3 0) ⟨fun t63_5 =>
  @OptBH (extractV t62_3 1) ⟨fun b64_6 =>
  Q .normal [(0, v0), (2, v2), (3, v3), (5, v5), (14, v14), (15, v15), (16, t63_5), (17, (.bool b64_6))] M3⟩⟩⟩⟩
theorem e27_28 (P : Program) (Q : Exit → Slots → Mem → Prop) (s : Slots) (M : Mem) : wpC P c27_28 Q s M = w27_28 P Q M (sget s 0) (sget s 2) (sget s 3) (sget s 5) (sget s 14) (sget s 15) := by kernel_rfl
def o27_29 : List AOper := [⟨some 65, (.mov (.tmp 14)), false, none⟩,
  ⟨some 66, (.mov (.tmp 16)), false, none⟩,
  ⟨some 67, (.bin .eql .none (.tmp 65) (.tmp 66)), true, none⟩,
  ⟨some 68, (.mov (.tmp 67)), true, none⟩,
  ⟨some 69, (.mov (.tmp 15)), true, some (68, true)⟩,
  ⟨some 70, (.mov (.tmp 17)), true, some (68, true)⟩,
  ⟨some 71, (.bin .eql .bool (.tmp 69) (.tmp 70)), true, some (68, true)⟩,
  ⟨some 72, (.pick (.tmp 68) (.tmp 71) (.const (.bool false))), true, none⟩,
  ⟨some 73, (.mov (.tmp 72)), true, none⟩,
  ⟨some 74, (.mov (.tmp 0)), false, some (73, true)⟩,
  ⟨some 75, (.mov (.tmp 2)), false, some (73, true)⟩,
  ⟨some 76, (.mov (.tmp 3)), false, some (73, true)⟩,
  ⟨some 77, (.call i_inbox_Inbox_Failed [(.tmp 74), (.tmp 75), (.tmp 76)]), true, some (73, true)⟩,
  ⟨some 78, (.load 3 true (.tmp 5)), false, some (73, true)⟩,
  ⟨some 79, (.mov (.tmp 2)), false, some (73, true)⟩,
  ⟨some 80, (.mov (.tmp 3)), false, some (73, true)⟩,
  ⟨some 81, (.call i_transitref32_Failed [(.tmp 78), (.tmp 79), (.tmp 80)]), true, some (73, true)⟩,
  ⟨some 82, (.bin .eql .bool (.tmp 77) (.tmp 81)), true, some (73, true)⟩,
  ⟨some 83, (.pick (.tmp 73) (.tmp 82) (.const (.bool false))), true, none⟩,
  ⟨some 84, (.mov (.tmp 83)), true, none⟩,
  ⟨some 85, (.mov (.tmp 0)), false, some (84, true)⟩,
  ⟨some 86, (.call i_inbox_Inbox_Messages [(.tmp 85)]), false, some (84, true)⟩,
  ⟨some 87, (.fieldAddr 2 (.tmp 5)), false, some (84, true)⟩,
  ⟨some 88, (.load 1 false (.tmp 87)), false, some (84, true)⟩,
  ⟨some 89, (.call i_transitref32_Same [(.tmp 86), (.tmp 88)]), true, some (84, true)⟩,
  ⟨some 90, (.pick (.tmp 84) (.tmp 89) (.const (.bool false))), true, none⟩,
  ⟨some 91, (.mov (.tmp 90)), true, none⟩,
  ⟨some 92, (.mov (.tmp 0)), false, some (91, true)⟩,
  ⟨some 93, (.mov (.tmp 3)), false, some (91, true)⟩,
  ⟨some 94, (.call i_inbox_Inbox_Active [(.tmp 92), (.tmp 93)]), false, some (91, true)⟩,
  ⟨some 95, (.load 3 true (.tmp 5)), false, some (91, true)⟩,
  ⟨some 96, (.mov (.tmp 3)), false, some (91, true)⟩,
  ⟨some 97, (.call i_transitref32_Active [(.tmp 95), (.tmp 96)]), false, some (91, true)⟩,
  ⟨some 98, (.call i_transitref32_Same [(.tmp 94), (.tmp 97)]), true, some (91, true)⟩,
  ⟨some 99, (.pick (.tmp 91) (.tmp 98) (.const (.bool false))), true, none⟩,
  ⟨some 8, (.mov (.tmp 99)), true, none⟩]
def c27_30 : ACode := (.mixed o27_29 [true, true, true, true, true, true, true, true, true, true, true, true, true, true, true, true, false, true, true, true, true, true, true, true, false, true, true, true, true, true, true, true, false, false, true, true] [8])
def w27_30 (P : Program) (Q : Exit → Slots → Mem → Prop) (M : Mem) (v0 : V) (v2 : V) (v3 : V) (v5 : V) (v14 : V) (v15 : V) (v16 : V) (v17 : V) : Prop :=
  @OptBH (binV .eql .none v14 v16) ⟨fun b67_3 =>
  @BIfH b67_3
  ⟨@OptBH (some v15) ⟨fun b69_5 =>
  @OptBH (some v17) ⟨fun b70_6 =>
  @OptBH (binV .eql .bool (.bool b69_5) (.bool b70_6)) ⟨fun b71_7 =>
  @BIfH b71_7
  ⟨@CallQ P i_inbox_Inbox_Failed [v0, v2, v3] M ⟨fun t77_13 M13 => @OptBH (some t77_13) ⟨fun b77_13 =>
  @OptVH (loadV 3 true v5 M13) ⟨fun t78_14 =>
  @CallH P i_transitref32_Failed [t78_14, v2, v3] M13 ⟨fun t81_17 M17 => @OptBH (some t81_17) ⟨fun b81_17 =>
  @OptBH (binV .eql .bool (.bool b77_13) (.bool b81_17)) ⟨fun b82_18 =>
  @BIfH b82_18
  ⟨@CallQ P i_inbox_Inbox_Messages [v0] M17 ⟨fun t86_22 M22 =>
  @OptVH (moveV 2 v5) ⟨fun t87_23 =>
  @OptVH (loadV 1 false t87_23 M22) ⟨fun t88_24 =>
  @CallH P i_transitref32_Same [t86_22, t88_24] M22 ⟨fun t89_25 M25 => @OptBH (some t89_25) ⟨fun b89_25 =>
  @BIfH b89_25
  ⟨@CallQ P i_inbox_Inbox_Active [v0, v3] M25 ⟨fun t94_30 M30 =>
  @OptVH (loadV 3 true v5 M30) ⟨fun t95_31 =>
  @CallH P i_transitref32_Active [t95_31, v3] M30 ⟨fun t97_33 M33 =>
  @CallH P i_transitref32_Same [t94_30, t97_33] M33 ⟨fun t98_34 M34 => @OptBH (some t98_34) ⟨fun b98_34 =>
  Q .normal [(8, (.bool b98_34))] M34⟩⟩⟩⟩⟩⟩
  ⟨Q .normal [(8, (.bool false))] M25⟩⟩⟩⟩⟩⟩⟩
  ⟨Q .normal [(8, (.bool false))] M17⟩⟩⟩⟩⟩⟩⟩⟩
  ⟨Q .normal [(8, (.bool false))] M⟩⟩⟩⟩⟩
  ⟨Q .normal [(8, (.bool false))] M⟩⟩
theorem e27_30 (P : Program) (Q : Exit → Slots → Mem → Prop) (s : Slots) (M : Mem) : wpC P c27_30 Q s M = w27_30 P Q M (sget s 0) (sget s 2) (sget s 3) (sget s 5) (sget s 14) (sget s 15) (sget s 16) (sget s 17) := by kernel_rfl
def c27_31 : ACode := (.seq c27_30 .ret)
def c27_32 : ACode := (.seq c27_28 c27_31)
def c27_33 : ACode := (.seq c27_26 c27_32)
def c27_34 : ACode := (.seq c27_24 c27_33)
def c27_35 : ACode := (.seq c27_1 c27_34)
def fn_transitlaw32_same : AFn := ⟨100, [(.tmp 8)], c27_35⟩
theorem fn_transitlaw32_same_ok : resFn PR h_transitlaw32_same i_transitlaw32_same = some fn_transitlaw32_same := by kernel_rfl

def h_inbox_Inbox_Sequence : Hints := ⟨[(0, [0, 1]), (1, [0, 1, 20]), (2, [4, 5]), (3, [4, 5])], [], []⟩
def o28_0 : List AOper := [⟨some 4, (.mov (.const (.int .i64 0))), false, none⟩,
  ⟨some 5, (.mov (.const (.bool false))), true, none⟩]
def c28_1 : ACode := (.region o28_0 [0, 1])
def w28_1 (_P : Program) (Q : Exit → Slots → Mem → Prop) (M : Mem) (v0 : V) (v1 : V) : Prop :=
  Q .normal [(0, v0), (1, v1)] M
theorem e28_1 (P : Program) (Q : Exit → Slots → Mem → Prop) (s : Slots) (M : Mem) : wpC P c28_1 Q s M = w28_1 P Q M (sget s 0) (sget s 1) := by kernel_rfl
def o28_2 : List AOper := [⟨some 4, (.mov (.const (.int .i64 0))), false, none⟩,
  ⟨some 5, (.mov (.const (.bool false))), true, none⟩]
def c28_3 : ACode := (.region o28_2 [4, 5])
def w28_3 (_P : Program) (Q : Exit → Slots → Mem → Prop) (M : Mem) : Prop :=
  Q .normal [(4, (.int .i64 0)), (5, (.bool false))] M
theorem e28_3 (P : Program) (Q : Exit → Slots → Mem → Prop) (s : Slots) (M : Mem) : wpC P c28_3 Q s M = w28_3 P Q M := by kernel_rfl
def c28_4 : ACode := (.seq c28_3 .ret)
def o28_5 : List AOper := [⟨some 6, (.mov (.tmp 0)), false, none⟩,
  ⟨some 7, (.mov (.tmp 1)), false, none⟩,
  ⟨some 8, (.call i_inbox_Inbox_exists [(.tmp 6), (.tmp 7)]), true, none⟩,
  ⟨some 9, (.un .not (.tmp 8)), true, none⟩,
  ⟨some 10, (.mov (.tmp 9)), true, none⟩,
  ⟨some 11, (.mov (.tmp 0)), false, some (10, false)⟩,
  ⟨some 12, (.nilCheck (.tmp 11)), false, some (10, false)⟩,
  ⟨some 13, (.fieldAddr 0 (.tmp 12)), false, some (10, false)⟩,
  ⟨some 14, (.load 1 false (.tmp 13)), false, some (10, false)⟩,
  ⟨some 15, (.mov (.tmp 1)), false, some (10, false)⟩,
  ⟨some 16, (.indexSl 4 (.tmp 14) (.tmp 15)), false, some (10, false)⟩,
  ⟨some 17, (.fieldAddr 2 (.tmp 16)), false, some (10, false)⟩,
  ⟨some 18, (.load 1 false (.tmp 17)), true, some (10, false)⟩,
  ⟨some 19, (.un .not (.tmp 18)), true, some (10, false)⟩,
  ⟨some 20, (.pick (.tmp 10) (.const (.bool true)) (.tmp 19)), true, none⟩]
def c28_6 : ACode := (.seq (.region o28_5 [0, 1, 20]) (.cond (.tmp 20) c28_4 .skip))
def w28_6 (P : Program) (Q : Exit → Slots → Mem → Prop) (M : Mem) (v0 : V) (v1 : V) : Prop :=
  @CallH P i_inbox_Inbox_exists [v0, v1] M ⟨fun t8_3 M3 => @OptBH (some t8_3) ⟨fun b8_3 =>
  @OptBH (unV .not (.bool b8_3)) ⟨fun b9_4 =>
  @BIfH b9_4
  ⟨wpC P c28_4 Q [(0, v0), (1, v1), (20, (.bool true))] M3⟩
  ⟨@OptVH (nilCheckV v0) ⟨fun t12_8 =>
  @OptVH (moveV 0 t12_8) ⟨fun t13_9 =>
  @OptVH (loadV 1 false t13_9 M3) ⟨fun t14_10 =>
  @OptVH (indexSlV 4 t14_10 v1 M3) ⟨fun t16_12 =>
  @OptVH (moveV 2 t16_12) ⟨fun t17_13 =>
  @OptBH (loadV 1 false t17_13 M3) ⟨fun b18_14 =>
  @OptBH (unV .not (.bool b18_14)) ⟨fun b19_15 =>
  @BIfH b19_15
  ⟨wpC P c28_4 Q [(0, v0), (1, v1), (20, (.bool b19_15))] M3⟩
  ⟨Q .normal [(0, v0), (1, v1), (20, (.bool b19_15))] M3⟩⟩⟩⟩⟩⟩⟩⟩⟩⟩⟩⟩
theorem e28_6 (P : Program) (Q : Exit → Slots → Mem → Prop) (s : Slots) (M : Mem) : wpC P c28_6 Q s M = w28_6 P Q M (sget s 0) (sget s 1) := by kernel_rfl
def o28_7 : List AOper := [⟨some 21, (.mov (.tmp 0)), false, none⟩,
  ⟨some 22, (.nilCheck (.tmp 21)), false, none⟩,
  ⟨some 23, (.fieldAddr 0 (.tmp 22)), false, none⟩,
  ⟨some 24, (.load 1 false (.tmp 23)), false, none⟩,
  ⟨some 25, (.mov (.tmp 1)), false, none⟩,
  ⟨some 26, (.indexSl 4 (.tmp 24) (.tmp 25)), false, none⟩,
  ⟨some 27, (.fieldAddr 3 (.tmp 26)), false, none⟩,
  ⟨some 28, (.load 1 false (.tmp 27)), false, none⟩,
  ⟨some 4, (.mov (.tmp 28)), false, none⟩,
  ⟨some 5, (.mov (.const (.bool true))), true, none⟩]
def c28_8 : ACode := (.region o28_7 [4, 5])
def w28_8 (_P : Program) (Q : Exit → Slots → Mem → Prop) (M : Mem) (v0 : V) (v1 : V) : Prop :=
  @OptVH (nilCheckV v0) ⟨fun t22_2 =>
  @OptVH (moveV 0 t22_2) ⟨fun t23_3 =>
  @OptVH (loadV 1 false t23_3 M) ⟨fun t24_4 =>
  @OptVH (indexSlV 4 t24_4 v1 M) ⟨fun t26_6 =>
  @OptVH (moveV 3 t26_6) ⟨fun t27_7 =>
  @OptVH (loadV 1 false t27_7 M) ⟨fun t28_8 =>
  Q .normal [(4, t28_8), (5, (.bool true))] M⟩⟩⟩⟩⟩⟩
theorem e28_8 (P : Program) (Q : Exit → Slots → Mem → Prop) (s : Slots) (M : Mem) : wpC P c28_8 Q s M = w28_8 P Q M (sget s 0) (sget s 1) := by kernel_rfl
def c28_9 : ACode := (.seq c28_8 .ret)
def c28_10 : ACode := (.seq c28_6 c28_9)
def c28_11 : ACode := (.seq c28_1 c28_10)
def fn_inbox_Inbox_Sequence : AFn := ⟨29, [(.tmp 4), (.tmp 5)], c28_11⟩
theorem fn_inbox_Inbox_Sequence_ok : resFn PR h_inbox_Inbox_Sequence i_inbox_Inbox_Sequence = some fn_inbox_Inbox_Sequence := by kernel_rfl

def h_transitref31_Supersedes : Hints := ⟨[(0, [2, 3]), (1, [4])], [], []⟩
def o29_0 : List AOper := [⟨some 2, (.box 13 (.tmp 0)), false, none⟩,
  ⟨some 3, (.box 13 (.tmp 1)), false, none⟩,
  ⟨some 4, (.mov (.const (.bool false))), true, none⟩]
def c29_1 : ACode := (.region o29_0 [2, 3])
def w29_1 (_P : Program) (Q : Exit → Slots → Mem → Prop) (M : Mem) (v0 : V) (v1 : V) : Prop :=
  @OptMH (boxV 13 v0 M) ⟨fun t2_1 M1 =>
  @OptMH (boxV 13 v1 M1) ⟨fun t3_2 M2 =>
  Q .normal [(2, t2_1), (3, t3_2)] M2⟩⟩
theorem e29_1 (P : Program) (Q : Exit → Slots → Mem → Prop) (s : Slots) (M : Mem) : wpC P c29_1 Q s M = w29_1 P Q M (sget s 0) (sget s 1) := by kernel_rfl
def o29_2 : List AOper := [⟨some 5, (.fieldAddr 0 (.tmp 2)), false, none⟩,
  ⟨some 6, (.load 1 false (.tmp 5)), false, none⟩,
  ⟨some 7, (.fieldAddr 0 (.tmp 3)), false, none⟩,
  ⟨some 8, (.load 1 false (.tmp 7)), false, none⟩,
  ⟨some 9, (.bin .eql .none (.tmp 6) (.tmp 8)), true, none⟩,
  ⟨some 10, (.mov (.tmp 9)), true, none⟩,
  ⟨some 11, (.load 13 true (.tmp 2)), false, some (10, true)⟩,
  ⟨some 12, (.load 13 true (.tmp 3)), false, some (10, true)⟩,
  ⟨some 13, (.call i_transitref31_SameTarget [(.tmp 11), (.tmp 12)]), true, some (10, true)⟩,
  ⟨some 14, (.pick (.tmp 10) (.tmp 13) (.const (.bool false))), true, none⟩,
  ⟨some 15, (.mov (.tmp 14)), true, none⟩,
  ⟨some 16, (.fieldAddr 1 (.tmp 2)), false, some (15, true)⟩,
  ⟨some 17, (.load 1 false (.tmp 16)), false, some (15, true)⟩,
  ⟨some 18, (.fieldAddr 1 (.tmp 3)), false, some (15, true)⟩,
  ⟨some 19, (.load 1 false (.tmp 18)), false, some (15, true)⟩,
  ⟨some 20, (.bin .gtr .none (.tmp 17) (.tmp 19)), true, some (15, true)⟩,
  ⟨some 21, (.pick (.tmp 15) (.tmp 20) (.const (.bool false))), true, none⟩,
  ⟨some 22, (.mov (.tmp 21)), true, none⟩,
  ⟨some 23, (.load 13 true (.tmp 2)), false, some (22, true)⟩,
  ⟨some 24, (.call i_transitref31_Status [(.tmp 23)]), true, some (22, true)⟩,
  ⟨some 25, (.mov (.tmp 24)), true, some (22, true)⟩,
  ⟨some 26, (.fieldAddr 4 (.tmp 2)), false, some (25, false)⟩,
  ⟨some 27, (.load 1 false (.tmp 26)), false, some (25, false)⟩,
  ⟨some 28, (.fieldAddr 4 (.tmp 3)), false, some (25, false)⟩,
  ⟨some 29, (.load 1 false (.tmp 28)), false, some (25, false)⟩,
  ⟨some 30, (.bin .eql .none (.tmp 27) (.tmp 29)), true, some (25, false)⟩,
  ⟨some 31, (.mov (.tmp 30)), true, some (25, false)⟩,
  ⟨some 32, (.fieldAddr 8 (.tmp 2)), false, some (31, true)⟩,
  ⟨some 33, (.load 1 false (.tmp 32)), false, some (31, true)⟩,
  ⟨some 34, (.fieldAddr 8 (.tmp 3)), false, some (31, true)⟩,
  ⟨some 35, (.load 1 false (.tmp 34)), false, some (31, true)⟩,
  ⟨some 36, (.bin .eql .none (.tmp 33) (.tmp 35)), true, some (31, true)⟩,
  ⟨some 37, (.pick (.tmp 31) (.tmp 36) (.const (.bool false))), true, some (25, false)⟩,
  ⟨some 38, (.pick (.tmp 25) (.const (.bool true)) (.tmp 37)), true, some (22, true)⟩,
  ⟨some 39, (.pick (.tmp 22) (.tmp 38) (.const (.bool false))), true, none⟩,
  ⟨some 4, (.mov (.tmp 39)), true, none⟩]
def c29_3 : ACode := (.region o29_2 [4])
def w29_3 (P : Program) (Q : Exit → Slots → Mem → Prop) (M : Mem) (v2 : V) (v3 : V) : Prop :=
  @OptVH (moveV 0 v2) ⟨fun t5_1 =>
  @OptVH (loadV 1 false t5_1 M) ⟨fun t6_2 =>
  @OptVH (moveV 0 v3) ⟨fun t7_3 =>
  @OptVH (loadV 1 false t7_3 M) ⟨fun t8_4 =>
  @OptBH (binV .eql .none t6_2 t8_4) ⟨fun b9_5 =>
  @BIfH b9_5
  ⟨@OptVH (loadV 13 true v2 M) ⟨fun t11_7 =>
  @OptVH (loadV 13 true v3 M) ⟨fun t12_8 =>
  @CallH P i_transitref31_SameTarget [t11_7, t12_8] M ⟨fun t13_9 M9 => @OptBH (some t13_9) ⟨fun b13_9 =>
  @BIfH b13_9
  ⟨@OptVH (moveV 1 v2) ⟨fun t16_12 =>
  @OptVH (loadV 1 false t16_12 M9) ⟨fun t17_13 =>
  @OptVH (moveV 1 v3) ⟨fun t18_14 =>
  @OptVH (loadV 1 false t18_14 M9) ⟨fun t19_15 =>
  @OptBH (binV .gtr .none t17_13 t19_15) ⟨fun b20_16 =>
  @BIfH b20_16
  ⟨@OptVH (loadV 13 true v2 M9) ⟨fun t23_19 =>
  @CallH P i_transitref31_Status [t23_19] M9 ⟨fun t24_20 M20 => @OptBH (some t24_20) ⟨fun b24_20 =>
  @BIfH b24_20
  ⟨Q .normal [(4, (.bool true))] M20⟩
  ⟨@OptVH (moveV 4 v2) ⟨fun t26_25 =>
  @OptVH (loadV 1 false t26_25 M20) ⟨fun t27_26 =>
  @OptVH (moveV 4 v3) ⟨fun t28_27 =>
  @OptVH (loadV 1 false t28_27 M20) ⟨fun t29_28 =>
  @OptBH (binV .eql .none t27_26 t29_28) ⟨fun b30_29 =>
  @BIfH b30_29
  ⟨@OptVH (moveV 8 v2) ⟨fun t32_31 =>
  @OptVH (loadV 1 false t32_31 M20) ⟨fun t33_32 =>
  @OptVH (moveV 8 v3) ⟨fun t34_33 =>
  @OptVH (loadV 1 false t34_33 M20) ⟨fun t35_34 =>
  @OptBH (binV .eql .none t33_32 t35_34) ⟨fun b36_35 =>
  Q .normal [(4, (.bool b36_35))] M20⟩⟩⟩⟩⟩⟩
  ⟨Q .normal [(4, (.bool false))] M20⟩⟩⟩⟩⟩⟩⟩⟩⟩⟩⟩
  ⟨Q .normal [(4, (.bool false))] M9⟩⟩⟩⟩⟩⟩⟩
  ⟨Q .normal [(4, (.bool false))] M9⟩⟩⟩⟩⟩⟩
  ⟨Q .normal [(4, (.bool false))] M⟩⟩⟩⟩⟩⟩
theorem e29_3 (P : Program) (Q : Exit → Slots → Mem → Prop) (s : Slots) (M : Mem) : wpC P c29_3 Q s M = w29_3 P Q M (sget s 2) (sget s 3) := by kernel_rfl
def c29_4 : ACode := (.seq c29_3 .ret)
def c29_5 : ACode := (.seq c29_1 c29_4)
def fn_transitref31_Supersedes : AFn := ⟨40, [(.tmp 4)], c29_5⟩
theorem fn_transitref31_Supersedes_ok : resFn PR h_transitref31_Supersedes i_transitref31_Supersedes = some fn_transitref31_Supersedes := by kernel_rfl

def h_transitlaw32_message : Hints := ⟨[(0, [0, 1, 2, 3, 8]), (1, [8])], [], []⟩
def o31_0 : List AOper := [⟨some 8, (.alloc [(.int .i64 0), (.int .i64 0), (.int .i64 0), (.int .i64 0), (.int .i64 0), (.str []), (.int .i64 0), (.int .i64 0), (.int .i64 0), (.int .i64 0), (.int .i64 0), (.bool false), (.slice [] .nil)]), false, none⟩]
def c31_1 : ACode := (.region o31_0 [0, 1, 2, 3, 8])
def w31_1 (_P : Program) (Q : Exit → Slots → Mem → Prop) (M : Mem) (v0 : V) (v1 : V) (v2 : V) (v3 : V) : Prop :=
  @OptMH (allocV [(.int .i64 0), (.int .i64 0), (.int .i64 0), (.int .i64 0), (.int .i64 0), (.str []), (.int .i64 0), (.int .i64 0), (.int .i64 0), (.int .i64 0), (.int .i64 0), (.bool false), (.slice [] .nil)] M) ⟨fun t8_1 M1 =>
  Q .normal [(0, v0), (1, v1), (2, v2), (3, v3), (8, t8_1)] M1⟩
theorem e31_1 (P : Program) (Q : Exit → Slots → Mem → Prop) (s : Slots) (M : Mem) : wpC P c31_1 Q s M = w31_1 P Q M (sget s 0) (sget s 1) (sget s 2) (sget s 3) := by kernel_rfl
def o31_2 : List AOper := [⟨some 9, (.mov (.tmp 0)), false, none⟩,
  ⟨some 10, (.mov (.tmp 1)), false, none⟩,
  ⟨some 11, (.mov (.tmp 2)), false, none⟩,
  ⟨some 12, (.mov (.tmp 3)), false, none⟩,
  ⟨some 13, (.build [(.int .i64 0), (.int .i64 0), (.int .i64 0), (.int .i64 0), (.int .i64 0), (.str []), (.int .i64 0), (.int .i64 0), (.int .i64 0), (.int .i64 0), (.int .i64 0), (.bool false), (.slice [] .nil)] [(0, (1, (.tmp 9))), (1, (1, (.tmp 10))), (2, (1, (.tmp 11))), (3, (1, (.tmp 12))), (4, (1, (.const (.int .i64 2)))), (5, (1, (.const (.str [84]))))]), false, none⟩,
  ⟨none, (.store 13 (.tmp 8) (.tmp 13)), false, none⟩]
def c31_3 : ACode := (.region o31_2 [8])
def w31_3 (_P : Program) (Q : Exit → Slots → Mem → Prop) (M : Mem) (v0 : V) (v1 : V) (v2 : V) (v3 : V) (v8 : V) : Prop :=
  @OptVH (buildV [(.int .i64 0), (.int .i64 0), (.int .i64 0), (.int .i64 0), (.int .i64 0), (.str []), (.int .i64 0), (.int .i64 0), (.int .i64 0), (.int .i64 0), (.int .i64 0), (.bool false), (.slice [] .nil)] [(0, 1, v0), (1, 1, v1), (2, 1, v2), (3, 1, v3), (4, 1, (.int .i64 2)), (5, 1, (.str [84]))]) ⟨fun t13_5 =>
  @OptMH (storeVM 13 v8 t13_5 M) ⟨fun _tx_6 M6 =>
  Q .normal [(8, v8)] M6⟩⟩
theorem e31_3 (P : Program) (Q : Exit → Slots → Mem → Prop) (s : Slots) (M : Mem) : wpC P c31_3 Q s M = w31_3 P Q M (sget s 0) (sget s 1) (sget s 2) (sget s 3) (sget s 8) := by kernel_rfl
def c31_4 : ACode := (.seq c31_3 .ret)
def c31_5 : ACode := (.seq c31_1 c31_4)
def fn_transitlaw32_message : AFn := ⟨14, [(.cell 8 13 true)], c31_5⟩
theorem fn_transitlaw32_message_ok : resFn PR h_transitlaw32_message i_transitlaw32_message = some fn_transitlaw32_message := by kernel_rfl

def h_inbox_Inbox_refusal : Hints := ⟨[(0, [0, 2, 4]), (1, [0, 2, 4, 14]), (2, [6]), (3, [0, 2, 4, 7]), (4, [0, 2, 4, 7, 18]), (5, [6]), (6, [0, 2, 4, 27]), (7, [6]), (8, [2, 4, 8]), (9, [50]), (10, [6]), (11, [6])], [], []⟩
def o32_0 : List AOper := [⟨some 4, (.box 13 (.tmp 1)), false, none⟩,
  ⟨some 6, (.mov (.const (.int .i64 0))), false, none⟩]
def c32_1 : ACode := (.region o32_0 [0, 2, 4])
def w32_1 (_P : Program) (Q : Exit → Slots → Mem → Prop) (M : Mem) (v0 : V) (v1 : V) (v2 : V) : Prop :=
  @OptMH (boxV 13 v1 M) ⟨fun t4_1 M1 =>
  Q .normal [(0, v0), (2, v2), (4, t4_1)] M1⟩
theorem e32_1 (P : Program) (Q : Exit → Slots → Mem → Prop) (s : Slots) (M : Mem) : wpC P c32_1 Q s M = w32_1 P Q M (sget s 0) (sget s 1) (sget s 2) := by kernel_rfl
def o32_2 : List AOper := [⟨some 6, (.mov (.const (.int .i64 10))), false, none⟩]
def c32_3 : ACode := (.region o32_2 [6])
def w32_3 (_P : Program) (Q : Exit → Slots → Mem → Prop) (M : Mem) : Prop :=
  Q .normal [(6, (.int .i64 10))] M
theorem e32_3 (P : Program) (Q : Exit → Slots → Mem → Prop) (s : Slots) (M : Mem) : wpC P c32_3 Q s M = w32_3 P Q M := by kernel_rfl
def c32_4 : ACode := (.seq c32_3 .ret)
def o32_5 : List AOper := [⟨some 9, (.mov (.tmp 2)), false, none⟩,
  ⟨some 10, (.bin .lss .none (.tmp 9) (.const (.int .i64 0))), true, none⟩,
  ⟨some 11, (.mov (.tmp 10)), true, none⟩,
  ⟨some 12, (.mov (.tmp 2)), false, some (11, false)⟩,
  ⟨some 13, (.bin .gtr .none (.tmp 12) (.const (.int .i64 3155932800))), true, some (11, false)⟩,
  ⟨some 14, (.pick (.tmp 11) (.const (.bool true)) (.tmp 13)), true, none⟩]
def c32_6 : ACode := (.seq (.region o32_5 [0, 2, 4, 14]) (.cond (.tmp 14) c32_4 .skip))
def w32_6 (P : Program) (Q : Exit → Slots → Mem → Prop) (M : Mem) (v0 : V) (v2 : V) (v4 : V) : Prop :=
  @OptBH (binV .lss .none v2 (.int .i64 0)) ⟨fun b10_2 =>
  @BIfH b10_2
  ⟨wpC P c32_4 Q [(0, v0), (2, v2), (4, v4), (14, (.bool true))] M⟩
  ⟨@OptBH (binV .gtr .none v2 (.int .i64 3155932800)) ⟨fun b13_6 =>
  @BIfH b13_6
  ⟨wpC P c32_4 Q [(0, v0), (2, v2), (4, v4), (14, (.bool b13_6))] M⟩
  ⟨Q .normal [(0, v0), (2, v2), (4, v4), (14, (.bool b13_6))] M⟩⟩⟩⟩
theorem e32_6 (P : Program) (Q : Exit → Slots → Mem → Prop) (s : Slots) (M : Mem) : wpC P c32_6 Q s M = w32_6 P Q M (sget s 0) (sget s 2) (sget s 4) := by kernel_rfl
def o32_7 : List AOper := [⟨some 15, (.load 13 true (.tmp 4)), false, none⟩,
  ⟨some 16, (.call i_message_Check [(.tmp 15)]), false, none⟩,
  ⟨some 7, (.mov (.tmp 16)), false, none⟩]
def c32_8 : ACode := (.region o32_7 [0, 2, 4, 7])
def w32_8 (P : Program) (Q : Exit → Slots → Mem → Prop) (M : Mem) (v0 : V) (v2 : V) (v4 : V) : Prop :=
  @OptVH (loadV 13 true v4 M) ⟨fun t15_1 =>
  @CallH P i_message_Check [t15_1] M ⟨fun t16_2 M2 =>
  Q .normal [(0, v0), (2, v2), (4, v4), (7, t16_2)] M2⟩⟩
theorem e32_8 (P : Program) (Q : Exit → Slots → Mem → Prop) (s : Slots) (M : Mem) : wpC P c32_8 Q s M = w32_8 P Q M (sget s 0) (sget s 2) (sget s 4) := by kernel_rfl
def o32_9 : List AOper := [⟨some 19, (.mov (.tmp 7)), false, none⟩,
  ⟨some 6, (.mov (.tmp 19)), false, none⟩]
def c32_10 : ACode := (.region o32_9 [6])
def w32_10 (_P : Program) (Q : Exit → Slots → Mem → Prop) (M : Mem) (v7 : V) : Prop :=
  Q .normal [(6, v7)] M
theorem e32_10 (P : Program) (Q : Exit → Slots → Mem → Prop) (s : Slots) (M : Mem) : wpC P c32_10 Q s M = w32_10 P Q M (sget s 7) := by kernel_rfl
def c32_11 : ACode := (.seq c32_10 .ret)
def o32_12 : List AOper := [⟨some 17, (.mov (.tmp 7)), false, none⟩,
  ⟨some 18, (.bin .neq .none (.tmp 17) (.const (.int .i64 0))), true, none⟩]
def c32_13 : ACode := (.seq (.region o32_12 [0, 2, 4, 7, 18]) (.cond (.tmp 18) c32_11 .skip))
def w32_13 (P : Program) (Q : Exit → Slots → Mem → Prop) (M : Mem) (v0 : V) (v2 : V) (v4 : V) (v7 : V) : Prop :=
  @OptBH (binV .neq .none v7 (.int .i64 0)) ⟨fun b18_2 =>
  @BIfH b18_2
  ⟨wpC P c32_11 Q [(0, v0), (2, v2), (4, v4), (7, v7), (18, (.bool b18_2))] M⟩
  ⟨Q .normal [(0, v0), (2, v2), (4, v4), (7, v7), (18, (.bool b18_2))] M⟩⟩
theorem e32_13 (P : Program) (Q : Exit → Slots → Mem → Prop) (s : Slots) (M : Mem) : wpC P c32_13 Q s M = w32_13 P Q M (sget s 0) (sget s 2) (sget s 4) (sget s 7) := by kernel_rfl
def c32_14 : ACode := (.seq c32_8 c32_13)
def o32_15 : List AOper := [⟨some 6, (.mov (.const (.int .i64 36))), false, none⟩]
def c32_16 : ACode := (.region o32_15 [6])
def w32_16 (_P : Program) (Q : Exit → Slots → Mem → Prop) (M : Mem) : Prop :=
  Q .normal [(6, (.int .i64 36))] M
theorem e32_16 (P : Program) (Q : Exit → Slots → Mem → Prop) (s : Slots) (M : Mem) : wpC P c32_16 Q s M = w32_16 P Q M := by kernel_rfl
def c32_17 : ACode := (.seq c32_16 .ret)
def o32_18 : List AOper := [⟨some 20, (.fieldAddr 0 (.tmp 4)), false, none⟩,
  ⟨some 21, (.load 1 false (.tmp 20)), false, none⟩,
  ⟨some 22, (.mov (.tmp 0)), false, none⟩,
  ⟨some 23, (.nilCheck (.tmp 22)), false, none⟩,
  ⟨some 24, (.fieldAddr 0 (.tmp 23)), false, none⟩,
  ⟨some 25, (.load 1 false (.tmp 24)), false, none⟩,
  ⟨some 26, (.lenSl (.tmp 25)), false, none⟩,
  ⟨some 27, (.bin .geq .none (.tmp 21) (.tmp 26)), true, none⟩]
def c32_19 : ACode := (.seq (.mixed o32_18 [true, true, true, true, true, true, true, true] [0, 2, 4, 27]) (.cond (.tmp 27) c32_17 .skip))
def w32_19 (P : Program) (Q : Exit → Slots → Mem → Prop) (M : Mem) (v0 : V) (v2 : V) (v4 : V) : Prop :=
  @OptVH (moveV 0 v4) ⟨fun t20_1 =>
  @OptVH (loadV 1 false t20_1 M) ⟨fun t21_2 =>
  @OptVH (nilCheckV v0) ⟨fun t23_4 =>
  @OptVH (moveV 0 t23_4) ⟨fun t24_5 =>
  @OptVH (loadV 1 false t24_5 M) ⟨fun t25_6 =>
  @OptVH (lenV t25_6 M) ⟨fun t26_7 =>
  @OptBH (binV .geq .none t21_2 t26_7) ⟨fun b27_8 =>
  @BIfH b27_8
  ⟨wpC P c32_17 Q [(0, v0), (2, v2), (4, v4), (27, (.bool b27_8))] M⟩
  ⟨Q .normal [(0, v0), (2, v2), (4, v4), (27, (.bool b27_8))] M⟩⟩⟩⟩⟩⟩⟩⟩
theorem e32_19 (P : Program) (Q : Exit → Slots → Mem → Prop) (s : Slots) (M : Mem) : wpC P c32_19 Q s M = w32_19 P Q M (sget s 0) (sget s 2) (sget s 4) := by kernel_rfl
def o32_20 : List AOper := [⟨some 28, (.mov (.tmp 0)), false, none⟩,
  ⟨some 29, (.nilCheck (.tmp 28)), false, none⟩,
  ⟨some 30, (.fieldAddr 0 (.tmp 29)), false, none⟩,
  ⟨some 31, (.load 1 false (.tmp 30)), false, none⟩,
  ⟨some 32, (.fieldAddr 0 (.tmp 4)), false, none⟩,
  ⟨some 33, (.load 1 false (.tmp 32)), false, none⟩,
  ⟨some 34, (.indexSl 4 (.tmp 31) (.tmp 33)), false, none⟩,
  ⟨some 35, (.load 4 true (.tmp 34)), false, none⟩,
  ⟨some 8, (.alloc [(.bool false), (.int .i64 0), (.bool false), (.int .i64 0)]), false, none⟩,
  ⟨none, (.store 4 (.tmp 8) (.tmp 35)), false, none⟩]
def c32_21 : ACode := (.float o32_20 [none, none, none, none, none, none, none, none, (some [0, 1, 2, 3, 4, 5, 6, 7]), (some [])] [2, 4, 8])
def w32_21 (_P : Program) (Q : Exit → Slots → Mem → Prop) (M : Mem) (v0 : V) (v2 : V) (v4 : V) : Prop :=
  @OptVH (nilCheckV v0) ⟨fun t29_2 =>
  @OptVH (moveV 0 t29_2) ⟨fun t30_3 =>
  @OptVH (loadV 1 false t30_3 M) ⟨fun t31_4 =>
  @OptVH (moveV 0 v4) ⟨fun t32_5 =>
  @OptVH (loadV 1 false t32_5 M) ⟨fun t33_6 =>
  @OptVH (indexSlV 4 t31_4 t33_6 M) ⟨fun t34_7 =>
  @OptVH (loadV 4 true t34_7 M) ⟨fun t35_8 =>
  @OptMH (allocV [(.bool false), (.int .i64 0), (.bool false), (.int .i64 0)] M) ⟨fun t8_9 M9 =>
  (some v0 = some v0 ∧ nilCheckV v0 = some t29_2 ∧ moveV 0 t29_2 = some t30_3 ∧ loadV 1 false t30_3 M9 = some t31_4 ∧ moveV 0 v4 = some t32_5 ∧ loadV 1 false t32_5 M9 = some t33_6 ∧ indexSlV 4 t31_4 t33_6 M9 = some t34_7 ∧ loadV 4 true t34_7 M9 = some t35_8 ∧ True) ∧ (@OptMH (storeVM 4 t8_9 t35_8 M9) ⟨fun _tx_10 M10 =>
  (True) ∧ (Q .normal [(2, v2), (4, v4), (8, t8_9)] M10)⟩)⟩⟩⟩⟩⟩⟩⟩⟩
theorem e32_21 (P : Program) (Q : Exit → Slots → Mem → Prop) (s : Slots) (M : Mem) : wpC P c32_21 Q s M = w32_21 P Q M (sget s 0) (sget s 2) (sget s 4) := by kernel_rfl
def o32_22 : List AOper := [⟨some 6, (.mov (.const (.int .i64 37))), false, none⟩]
def c32_23 : ACode := (.region o32_22 [6])
def w32_23 (_P : Program) (Q : Exit → Slots → Mem → Prop) (M : Mem) : Prop :=
  Q .normal [(6, (.int .i64 37))] M
theorem e32_23 (P : Program) (Q : Exit → Slots → Mem → Prop) (s : Slots) (M : Mem) : wpC P c32_23 Q s M = w32_23 P Q M := by kernel_rfl
def c32_24 : ACode := (.seq c32_23 .ret)
def o32_25 : List AOper := [⟨some 36, (.fieldAddr 2 (.tmp 8)), false, none⟩,
  ⟨some 37, (.load 1 false (.tmp 36)), true, none⟩,
  ⟨some 38, (.mov (.tmp 37)), true, none⟩,
  ⟨some 39, (.fieldAddr 1 (.tmp 4)), false, some (38, true)⟩,
  ⟨some 40, (.load 1 false (.tmp 39)), false, some (38, true)⟩,
  ⟨some 41, (.fieldAddr 3 (.tmp 8)), false, some (38, true)⟩,
  ⟨some 42, (.load 1 false (.tmp 41)), false, some (38, true)⟩,
  ⟨some 43, (.bin .leq .none (.tmp 40) (.tmp 42)), true, some (38, true)⟩,
  ⟨some 44, (.pick (.tmp 38) (.tmp 43) (.const (.bool false))), true, none⟩,
  ⟨some 45, (.mov (.tmp 44)), true, none⟩,
  ⟨some 46, (.fieldAddr 3 (.tmp 4)), false, some (45, false)⟩,
  ⟨some 47, (.load 1 false (.tmp 46)), false, some (45, false)⟩,
  ⟨some 48, (.mov (.tmp 2)), false, some (45, false)⟩,
  ⟨some 49, (.bin .leq .none (.tmp 47) (.tmp 48)), true, some (45, false)⟩,
  ⟨some 50, (.pick (.tmp 45) (.const (.bool true)) (.tmp 49)), true, none⟩]
def c32_26 : ACode := (.seq (.region o32_25 [50]) (.cond (.tmp 50) c32_24 .skip))
def w32_26 (P : Program) (Q : Exit → Slots → Mem → Prop) (M : Mem) (v2 : V) (v4 : V) (v8 : V) : Prop :=
  @OptVH (moveV 2 v8) ⟨fun t36_1 =>
  @OptBH (loadV 1 false t36_1 M) ⟨fun b37_2 =>
  @BIfH b37_2
  ⟨@OptVH (moveV 1 v4) ⟨fun t39_4 =>
  @OptVH (loadV 1 false t39_4 M) ⟨fun t40_5 =>
  @OptVH (moveV 3 v8) ⟨fun t41_6 =>
  @OptVH (loadV 1 false t41_6 M) ⟨fun t42_7 =>
  @OptBH (binV .leq .none t40_5 t42_7) ⟨fun b43_8 =>
  @BIfH b43_8
  ⟨wpC P c32_24 Q [(50, (.bool true))] M⟩
  ⟨@OptVH (moveV 3 v4) ⟨fun t46_12 =>
  @OptVH (loadV 1 false t46_12 M) ⟨fun t47_13 =>
  @OptBH (binV .leq .none t47_13 v2) ⟨fun b49_15 =>
  @BIfH b49_15
  ⟨wpC P c32_24 Q [(50, (.bool b49_15))] M⟩
  ⟨Q .normal [(50, (.bool b49_15))] M⟩⟩⟩⟩⟩⟩⟩⟩⟩⟩⟩
  ⟨@OptVH (moveV 3 v4) ⟨fun t46_19 =>
  @OptVH (loadV 1 false t46_19 M) ⟨fun t47_20 =>
  @OptBH (binV .leq .none t47_20 v2) ⟨fun b49_22 =>
  @BIfH b49_22
  ⟨wpC P c32_24 Q [(50, (.bool b49_22))] M⟩
  ⟨Q .normal [(50, (.bool b49_22))] M⟩⟩⟩⟩⟩⟩⟩
theorem e32_26 (P : Program) (Q : Exit → Slots → Mem → Prop) (s : Slots) (M : Mem) : wpC P c32_26 Q s M = w32_26 P Q M (sget s 2) (sget s 4) (sget s 8) := by kernel_rfl
def o32_27 : List AOper := [⟨some 6, (.mov (.const (.int .i64 0))), false, none⟩]
def c32_28 : ACode := (.region o32_27 [6])
def w32_28 (_P : Program) (Q : Exit → Slots → Mem → Prop) (M : Mem) : Prop :=
  Q .normal [(6, (.int .i64 0))] M
theorem e32_28 (P : Program) (Q : Exit → Slots → Mem → Prop) (s : Slots) (M : Mem) : wpC P c32_28 Q s M = w32_28 P Q M := by kernel_rfl
def c32_29 : ACode := (.seq c32_28 .ret)
def c32_30 : ACode := (.seq c32_26 c32_29)
def c32_31 : ACode := (.seq c32_21 c32_30)
def c32_32 : ACode := (.seq c32_19 c32_31)
def c32_33 : ACode := (.seq c32_14 c32_32)
def c32_34 : ACode := (.seq c32_6 c32_33)
def c32_35 : ACode := (.seq c32_1 c32_34)
def fn_inbox_Inbox_refusal : AFn := ⟨51, [(.tmp 6)], c32_35⟩
theorem fn_inbox_Inbox_refusal_ok : resFn PR h_inbox_Inbox_refusal i_inbox_Inbox_refusal = some fn_inbox_Inbox_refusal := by kernel_rfl

def h_inbox_filtered : Hints := ⟨[(0, [0, 1]), (1, [0, 1, 5]), (2, [1, 5, 8, 9, 10]), (3, [1, 5, 8, 9, 10, 11]), (4, [1, 5, 7, 8, 9, 10]), (5, [1, 5, 7, 8, 9, 10, 16]), (6, [1, 5, 8, 9, 10]), (7, [1, 5, 8, 9, 10]), (8, [4])], [(3, [1, 5, 8, 9, 10])], [(1, [0])]⟩
def o33_0 : List AOper := [⟨some 4, (.mov (.const (.slice [] .nil))), false, none⟩]
def c33_1 : ACode := (.region o33_0 [0, 1])
def w33_1 (_P : Program) (Q : Exit → Slots → Mem → Prop) (M : Mem) (v0 : V) (v1 : V) : Prop :=
  Q .normal [(0, v0), (1, v1)] M
theorem e33_1 (P : Program) (Q : Exit → Slots → Mem → Prop) (s : Slots) (M : Mem) : wpC P c33_1 Q s M = w33_1 P Q M (sget s 0) (sget s 1) := by kernel_rfl
def o33_2 : List AOper := [⟨some 5, (.newarr 13), false, none⟩]
def c33_3 : ACode := (.region o33_2 [0, 1, 5])
def w33_3 (_P : Program) (Q : Exit → Slots → Mem → Prop) (M : Mem) (v0 : V) (v1 : V) : Prop :=
  @OptMH (newarrV 13 M) ⟨fun t5_1 M1 =>
  Q .normal [(0, v0), (1, v1), (5, t5_1)] M1⟩
theorem e33_3 (P : Program) (Q : Exit → Slots → Mem → Prop) (s : Slots) (M : Mem) : wpC P c33_3 Q s M = w33_3 P Q M (sget s 0) (sget s 1) := by kernel_rfl
def o33_4 : List AOper := [⟨some 8, (.mov (.tmp 0)), false, none⟩,
  ⟨some 9, (.lenSl (.tmp 8)), false, none⟩,
  ⟨some 10, (.mov (.const (.int .i64 0))), false, none⟩]
def c33_5 : ACode := (.region o33_4 [1, 5, 8, 9, 10])
def w33_5 (_P : Program) (Q : Exit → Slots → Mem → Prop) (M : Mem) (v0 : V) (v1 : V) (v5 : V) : Prop :=
  @OptVH (lenV v0 M) ⟨fun t9_2 =>
  Q .normal [(1, v1), (5, v5), (8, v0), (9, t9_2), (10, (.int .i64 0))] M⟩
theorem e33_5 (P : Program) (Q : Exit → Slots → Mem → Prop) (s : Slots) (M : Mem) : wpC P c33_5 Q s M = w33_5 P Q M (sget s 0) (sget s 1) (sget s 5) := by kernel_rfl
def o33_6 : List AOper := [⟨some 11, (.bin .lss .none (.tmp 10) (.tmp 9)), false, none⟩]
def c33_7 : ACode := (.region o33_6 [1, 5, 8, 9, 10, 11])
def w33_7 (_P : Program) (Q : Exit → Slots → Mem → Prop) (M : Mem) (v1 : V) (v5 : V) (v8 : V) (v9 : V) (v10 : V) : Prop :=
  @OptVH (binV .lss .none v10 v9) ⟨fun t11_1 =>
  Q .normal [(1, v1), (5, v5), (8, v8), (9, v9), (10, v10), (11, t11_1)] M⟩
theorem e33_7 (P : Program) (Q : Exit → Slots → Mem → Prop) (s : Slots) (M : Mem) : wpC P c33_7 Q s M = w33_7 P Q M (sget s 1) (sget s 5) (sget s 8) (sget s 9) (sget s 10) := by kernel_rfl
def c33_8 : ACode := (.cond (.tmp 11) .skip (.exit 0))
def o33_9 : List AOper := [⟨some 12, (.indexSl 13 (.tmp 8) (.tmp 10)), false, none⟩,
  ⟨some 13, (.load 13 true (.tmp 12)), false, none⟩,
  ⟨some 7, (.alloc [(.int .i64 0), (.int .i64 0), (.int .i64 0), (.int .i64 0), (.int .i64 0), (.str []), (.int .i64 0), (.int .i64 0), (.int .i64 0), (.int .i64 0), (.int .i64 0), (.bool false), (.slice [] .nil)]), false, none⟩,
  ⟨none, (.store 13 (.tmp 7) (.tmp 13)), false, none⟩]
def c33_10 : ACode := (.region o33_9 [1, 5, 7, 8, 9, 10])
def w33_10 (_P : Program) (Q : Exit → Slots → Mem → Prop) (M : Mem) (v1 : V) (v5 : V) (v8 : V) (v9 : V) (v10 : V) : Prop :=
  @OptVH (indexSlV 13 v8 v10 M) ⟨fun t12_1 =>
  @OptVH (loadV 13 true t12_1 M) ⟨fun t13_2 =>
  @OptMH (allocV [(.int .i64 0), (.int .i64 0), (.int .i64 0), (.int .i64 0), (.int .i64 0), (.str []), (.int .i64 0), (.int .i64 0), (.int .i64 0), (.int .i64 0), (.int .i64 0), (.bool false), (.slice [] .nil)] M) ⟨fun t7_3 M3 =>
  @OptMH (storeVM 13 t7_3 t13_2 M3) ⟨fun _tx_4 M4 =>
  Q .normal [(1, v1), (5, v5), (7, t7_3), (8, v8), (9, v9), (10, v10)] M4⟩⟩⟩⟩
theorem e33_10 (P : Program) (Q : Exit → Slots → Mem → Prop) (s : Slots) (M : Mem) : wpC P c33_10 Q s M = w33_10 P Q M (sget s 1) (sget s 5) (sget s 8) (sget s 9) (sget s 10) := by kernel_rfl
def o33_11 : List AOper := [⟨some 17, (.mov (.tmp 5)), false, none⟩,
  ⟨some 18, (.load 13 true (.tmp 7)), false, none⟩,
  ⟨some 19, (.call i_inbox_owned [(.tmp 18)]), false, none⟩,
  ⟨some 20, (.buildSlice [(.int .i64 0), (.int .i64 0), (.int .i64 0), (.int .i64 0), (.int .i64 0), (.str []), (.int .i64 0), (.int .i64 0), (.int .i64 0), (.int .i64 0), (.int .i64 0), (.bool false), (.slice [] .nil)] 13 1 [(0, (13, (.tmp 19)))]), false, none⟩,
  ⟨some 21, (.append false 13 128 (.tmp 17) (.tmp 20)), false, none⟩,
  ⟨some 5, (.mov (.tmp 21)), false, none⟩]
def c33_12 : ACode := (.region o33_11 [1, 5, 8, 9, 10])
def w33_12 (P : Program) (Q : Exit → Slots → Mem → Prop) (M : Mem) (v1 : V) (v5 : V) (v7 : V) (v8 : V) (v9 : V) (v10 : V) : Prop :=
  @OptVH (loadV 13 true v7 M) ⟨fun t18_2 =>
  @CallH P i_inbox_owned [t18_2] M ⟨fun t19_3 M3 =>
  @OptVH (buildSliceV [(.int .i64 0), (.int .i64 0), (.int .i64 0), (.int .i64 0), (.int .i64 0), (.str []), (.int .i64 0), (.int .i64 0), (.int .i64 0), (.int .i64 0), (.int .i64 0), (.bool false), (.slice [] .nil)] 13 1 [(0, 13, t19_3)]) ⟨fun t20_4 =>
  @OptMH (appV false 13 128 v5 t20_4 M3) ⟨fun t21_5 M5 =>
  Q .normal [(1, v1), (5, t21_5), (8, v8), (9, v9), (10, v10)] M5⟩⟩⟩⟩
theorem e33_12 (P : Program) (Q : Exit → Slots → Mem → Prop) (s : Slots) (M : Mem) : wpC P c33_12 Q s M = w33_12 P Q M (sget s 1) (sget s 5) (sget s 7) (sget s 8) (sget s 9) (sget s 10) := by kernel_rfl
def o33_13 : List AOper := [⟨some 14, (.mov (.tmp 1)), false, none⟩,
  ⟨some 15, (.load 13 true (.tmp 7)), false, none⟩,
  ⟨some 16, (.callv (.tmp 14) [(.tmp 15)]), true, none⟩]
def c33_14 : ACode := (.seq (.region o33_13 [1, 5, 7, 8, 9, 10, 16]) (.cond (.tmp 16) c33_12 .skip))
def w33_14 (P : Program) (Q : Exit → Slots → Mem → Prop) (M : Mem) (v1 : V) (v5 : V) (v7 : V) (v8 : V) (v9 : V) (v10 : V) : Prop :=
  @OptVH (loadV 13 true v7 M) ⟨fun t15_2 =>
  @CallV P false v1 [t15_2] M ⟨fun t16_3 M3 => @OptBH (some t16_3) ⟨fun b16_3 =>
  @BIfH b16_3
  ⟨wpC P c33_12 Q [(1, v1), (5, v5), (7, v7), (8, v8), (9, v9), (10, v10), (16, (.bool b16_3))] M3⟩
  ⟨Q .normal [(1, v1), (5, v5), (7, v7), (8, v8), (9, v9), (10, v10), (16, (.bool b16_3))] M3⟩⟩⟩⟩
theorem e33_14 (P : Program) (Q : Exit → Slots → Mem → Prop) (s : Slots) (M : Mem) : wpC P c33_14 Q s M = w33_14 P Q M (sget s 1) (sget s 5) (sget s 7) (sget s 8) (sget s 9) (sget s 10) := by kernel_rfl
def c33_15 : ACode := (.seq c33_10 c33_14)
def c33_16 : ACode := (.block 1 c33_15)
def o33_17 : List AOper := [⟨some 22, (.bin .add .none (.tmp 10) (.const (.int .i64 1))), false, none⟩,
  ⟨some 10, (.mov (.tmp 22)), false, none⟩]
def c33_18 : ACode := (.region o33_17 [1, 5, 8, 9, 10])
def w33_18 (_P : Program) (Q : Exit → Slots → Mem → Prop) (M : Mem) (v1 : V) (v5 : V) (v8 : V) (v9 : V) (v10 : V) : Prop :=
  @OptVH (binV .add .none v10 (.int .i64 1)) ⟨fun t22_1 =>
  Q .normal [(1, v1), (5, v5), (8, v8), (9, v9), (10, t22_1)] M⟩
theorem e33_18 (P : Program) (Q : Exit → Slots → Mem → Prop) (s : Slots) (M : Mem) : wpC P c33_18 Q s M = w33_18 P Q M (sget s 1) (sget s 5) (sget s 8) (sget s 9) (sget s 10) := by kernel_rfl
def c33_19 : ACode := (.seq c33_16 c33_18)
def c33_20 : ACode := (.seq c33_8 c33_19)
def c33_21 : ACode := (.seq c33_7 c33_20)
def c33_22 : ACode := (.loop [1, 5, 8, 9, 10] c33_21)
def c33_23 : ACode := (.block 0 c33_22)
def c33_24 : ACode := (.seq c33_5 c33_23)
def o33_25 : List AOper := [⟨some 23, (.mov (.tmp 5)), false, none⟩,
  ⟨some 4, (.mov (.tmp 23)), false, none⟩]
def c33_26 : ACode := (.region o33_25 [4])
def w33_26 (_P : Program) (Q : Exit → Slots → Mem → Prop) (M : Mem) (v5 : V) : Prop :=
  Q .normal [(4, v5)] M
theorem e33_26 (P : Program) (Q : Exit → Slots → Mem → Prop) (s : Slots) (M : Mem) : wpC P c33_26 Q s M = w33_26 P Q M (sget s 5) := by kernel_rfl
def c33_27 : ACode := (.seq c33_26 .ret)
def c33_28 : ACode := (.seq c33_24 c33_27)
def c33_29 : ACode := (.seq c33_3 c33_28)
def c33_30 : ACode := (.seq c33_1 c33_29)
def fn_inbox_filtered : AFn := ⟨24, [(.tmp 4)], c33_30⟩
theorem fn_inbox_filtered_ok : resFn PR h_inbox_filtered i_inbox_filtered = some fn_inbox_filtered := by kernel_rfl

def h_inbox_Inbox_Receive_1 : Hints := ⟨[(0, [1, 2, 3]), (1, [4])], [], []⟩
def o34_0 : List AOper := [⟨some 3, (.box 13 (.tmp 0)), false, none⟩,
  ⟨some 4, (.mov (.const (.bool false))), true, none⟩]
def c34_1 : ACode := (.region o34_0 [1, 2, 3])
def w34_1 (_P : Program) (Q : Exit → Slots → Mem → Prop) (M : Mem) (v0 : V) (v1 : V) (v2 : V) : Prop :=
  @OptMH (boxV 13 v0 M) ⟨fun t3_1 M1 =>
  Q .normal [(1, v1), (2, v2), (3, t3_1)] M1⟩
theorem e34_1 (P : Program) (Q : Exit → Slots → Mem → Prop) (s : Slots) (M : Mem) : wpC P c34_1 Q s M = w34_1 P Q M (sget s 0) (sget s 1) (sget s 2) := by kernel_rfl
def o34_2 : List AOper := [⟨some 5, (.load 13 true (.tmp 1)), false, none⟩,
  ⟨some 6, (.load 13 true (.tmp 3)), false, none⟩,
  ⟨some 7, (.call i_message_Supersedes [(.tmp 5), (.tmp 6)]), true, none⟩,
  ⟨some 8, (.un .not (.tmp 7)), true, none⟩,
  ⟨some 9, (.mov (.tmp 8)), true, none⟩,
  ⟨some 10, (.fieldAddr 3 (.tmp 3)), false, some (9, true)⟩,
  ⟨some 11, (.load 1 false (.tmp 10)), false, some (9, true)⟩,
  ⟨some 12, (.load 1 false (.tmp 2)), false, some (9, true)⟩,
  ⟨some 13, (.bin .gtr .none (.tmp 11) (.tmp 12)), true, some (9, true)⟩,
  ⟨some 14, (.pick (.tmp 9) (.tmp 13) (.const (.bool false))), true, none⟩,
  ⟨some 4, (.mov (.tmp 14)), true, none⟩]
def c34_3 : ACode := (.region o34_2 [4])
def w34_3 (P : Program) (Q : Exit → Slots → Mem → Prop) (M : Mem) (v1 : V) (v2 : V) (v3 : V) : Prop :=
  @OptVH (loadV 13 true v1 M) ⟨fun t5_1 =>
  @OptVH (loadV 13 true v3 M) ⟨fun t6_2 =>
  @CallH P i_message_Supersedes [t5_1, t6_2] M ⟨fun t7_3 M3 => @OptBH (some t7_3) ⟨fun b7_3 =>
  @OptBH (unV .not (.bool b7_3)) ⟨fun b8_4 =>
  @BIfH b8_4
  ⟨@OptVH (moveV 3 v3) ⟨fun t10_6 =>
  @OptVH (loadV 1 false t10_6 M3) ⟨fun t11_7 =>
  @OptVH (loadV 1 false v2 M3) ⟨fun t12_8 =>
  @OptBH (binV .gtr .none t11_7 t12_8) ⟨fun b13_9 =>
  Q .normal [(4, (.bool b13_9))] M3⟩⟩⟩⟩⟩
  ⟨Q .normal [(4, (.bool false))] M3⟩⟩⟩⟩⟩⟩
theorem e34_3 (P : Program) (Q : Exit → Slots → Mem → Prop) (s : Slots) (M : Mem) : wpC P c34_3 Q s M = w34_3 P Q M (sget s 1) (sget s 2) (sget s 3) := by kernel_rfl
def c34_4 : ACode := (.seq c34_3 .ret)
def c34_5 : ACode := (.seq c34_1 c34_4)
def fn_inbox_Inbox_Receive_1 : AFn := ⟨15, [(.tmp 4)], c34_5⟩
theorem fn_inbox_Inbox_Receive_1_ok : resFn PR h_inbox_Inbox_Receive_1 i_inbox_Inbox_Receive_1 = some fn_inbox_Inbox_Receive_1 := by kernel_rfl

def h_message_Supersedes : Hints := ⟨[(0, [2, 3]), (1, [4])], [], []⟩
def o35_0 : List AOper := [⟨some 2, (.box 13 (.tmp 0)), false, none⟩,
  ⟨some 3, (.box 13 (.tmp 1)), false, none⟩,
  ⟨some 4, (.mov (.const (.bool false))), true, none⟩]
def c35_1 : ACode := (.region o35_0 [2, 3])
def w35_1 (_P : Program) (Q : Exit → Slots → Mem → Prop) (M : Mem) (v0 : V) (v1 : V) : Prop :=
  @OptMH (boxV 13 v0 M) ⟨fun t2_1 M1 =>
  @OptMH (boxV 13 v1 M1) ⟨fun t3_2 M2 =>
  Q .normal [(2, t2_1), (3, t3_2)] M2⟩⟩
theorem e35_1 (P : Program) (Q : Exit → Slots → Mem → Prop) (s : Slots) (M : Mem) : wpC P c35_1 Q s M = w35_1 P Q M (sget s 0) (sget s 1) := by kernel_rfl
def o35_2 : List AOper := [⟨some 5, (.fieldAddr 0 (.tmp 2)), false, none⟩,
  ⟨some 6, (.load 1 false (.tmp 5)), false, none⟩,
  ⟨some 7, (.fieldAddr 0 (.tmp 3)), false, none⟩,
  ⟨some 8, (.load 1 false (.tmp 7)), false, none⟩,
  ⟨some 9, (.bin .eql .none (.tmp 6) (.tmp 8)), true, none⟩,
  ⟨some 10, (.mov (.tmp 9)), true, none⟩,
  ⟨some 11, (.load 13 true (.tmp 2)), false, some (10, true)⟩,
  ⟨some 12, (.load 13 true (.tmp 3)), false, some (10, true)⟩,
  ⟨some 13, (.call i_message_SameTarget [(.tmp 11), (.tmp 12)]), true, some (10, true)⟩,
  ⟨some 14, (.pick (.tmp 10) (.tmp 13) (.const (.bool false))), true, none⟩,
  ⟨some 15, (.mov (.tmp 14)), true, none⟩,
  ⟨some 16, (.fieldAddr 1 (.tmp 2)), false, some (15, true)⟩,
  ⟨some 17, (.load 1 false (.tmp 16)), false, some (15, true)⟩,
  ⟨some 18, (.fieldAddr 1 (.tmp 3)), false, some (15, true)⟩,
  ⟨some 19, (.load 1 false (.tmp 18)), false, some (15, true)⟩,
  ⟨some 20, (.bin .gtr .none (.tmp 17) (.tmp 19)), true, some (15, true)⟩,
  ⟨some 21, (.pick (.tmp 15) (.tmp 20) (.const (.bool false))), true, none⟩,
  ⟨some 22, (.mov (.tmp 21)), true, none⟩,
  ⟨some 23, (.fieldAddr 4 (.tmp 2)), false, some (22, true)⟩,
  ⟨some 24, (.load 1 false (.tmp 23)), false, some (22, true)⟩,
  ⟨some 25, (.call i_message_status [(.tmp 24)]), true, some (22, true)⟩,
  ⟨some 26, (.mov (.tmp 25)), true, some (22, true)⟩,
  ⟨some 27, (.fieldAddr 4 (.tmp 2)), false, some (26, false)⟩,
  ⟨some 28, (.load 1 false (.tmp 27)), false, some (26, false)⟩,
  ⟨some 29, (.fieldAddr 4 (.tmp 3)), false, some (26, false)⟩,
  ⟨some 30, (.load 1 false (.tmp 29)), false, some (26, false)⟩,
  ⟨some 31, (.bin .eql .none (.tmp 28) (.tmp 30)), true, some (26, false)⟩,
  ⟨some 32, (.mov (.tmp 31)), true, some (26, false)⟩,
  ⟨some 33, (.fieldAddr 8 (.tmp 2)), false, some (32, true)⟩,
  ⟨some 34, (.load 1 false (.tmp 33)), false, some (32, true)⟩,
  ⟨some 35, (.fieldAddr 8 (.tmp 3)), false, some (32, true)⟩,
  ⟨some 36, (.load 1 false (.tmp 35)), false, some (32, true)⟩,
  ⟨some 37, (.bin .eql .none (.tmp 34) (.tmp 36)), true, some (32, true)⟩,
  ⟨some 38, (.pick (.tmp 32) (.tmp 37) (.const (.bool false))), true, some (26, false)⟩,
  ⟨some 39, (.pick (.tmp 26) (.const (.bool true)) (.tmp 38)), true, some (22, true)⟩,
  ⟨some 40, (.pick (.tmp 22) (.tmp 39) (.const (.bool false))), true, none⟩,
  ⟨some 4, (.mov (.tmp 40)), true, none⟩]
def c35_3 : ACode := (.region o35_2 [4])
def w35_3 (P : Program) (Q : Exit → Slots → Mem → Prop) (M : Mem) (v2 : V) (v3 : V) : Prop :=
  @OptVH (moveV 0 v2) ⟨fun t5_1 =>
  @OptVH (loadV 1 false t5_1 M) ⟨fun t6_2 =>
  @OptVH (moveV 0 v3) ⟨fun t7_3 =>
  @OptVH (loadV 1 false t7_3 M) ⟨fun t8_4 =>
  @OptBH (binV .eql .none t6_2 t8_4) ⟨fun b9_5 =>
  @BIfH b9_5
  ⟨@OptVH (loadV 13 true v2 M) ⟨fun t11_7 =>
  @OptVH (loadV 13 true v3 M) ⟨fun t12_8 =>
  @CallH P i_message_SameTarget [t11_7, t12_8] M ⟨fun t13_9 M9 => @OptBH (some t13_9) ⟨fun b13_9 =>
  @BIfH b13_9
  ⟨@OptVH (moveV 1 v2) ⟨fun t16_12 =>
  @OptVH (loadV 1 false t16_12 M9) ⟨fun t17_13 =>
  @OptVH (moveV 1 v3) ⟨fun t18_14 =>
  @OptVH (loadV 1 false t18_14 M9) ⟨fun t19_15 =>
  @OptBH (binV .gtr .none t17_13 t19_15) ⟨fun b20_16 =>
  @BIfH b20_16
  ⟨@OptVH (moveV 4 v2) ⟨fun t23_19 =>
  @OptVH (loadV 1 false t23_19 M9) ⟨fun t24_20 =>
  @CallH P i_message_status [t24_20] M9 ⟨fun t25_21 M21 => @OptBH (some t25_21) ⟨fun b25_21 =>
  @BIfH b25_21
  ⟨Q .normal [(4, (.bool true))] M21⟩
  ⟨@OptVH (moveV 4 v2) ⟨fun t27_26 =>
  @OptVH (loadV 1 false t27_26 M21) ⟨fun t28_27 =>
  @OptVH (moveV 4 v3) ⟨fun t29_28 =>
  @OptVH (loadV 1 false t29_28 M21) ⟨fun t30_29 =>
  @OptBH (binV .eql .none t28_27 t30_29) ⟨fun b31_30 =>
  @BIfH b31_30
  ⟨@OptVH (moveV 8 v2) ⟨fun t33_32 =>
  @OptVH (loadV 1 false t33_32 M21) ⟨fun t34_33 =>
  @OptVH (moveV 8 v3) ⟨fun t35_34 =>
  @OptVH (loadV 1 false t35_34 M21) ⟨fun t36_35 =>
  @OptBH (binV .eql .none t34_33 t36_35) ⟨fun b37_36 =>
  Q .normal [(4, (.bool b37_36))] M21⟩⟩⟩⟩⟩⟩
  ⟨Q .normal [(4, (.bool false))] M21⟩⟩⟩⟩⟩⟩⟩⟩⟩⟩⟩⟩
  ⟨Q .normal [(4, (.bool false))] M9⟩⟩⟩⟩⟩⟩⟩
  ⟨Q .normal [(4, (.bool false))] M9⟩⟩⟩⟩⟩⟩
  ⟨Q .normal [(4, (.bool false))] M⟩⟩⟩⟩⟩⟩
theorem e35_3 (P : Program) (Q : Exit → Slots → Mem → Prop) (s : Slots) (M : Mem) : wpC P c35_3 Q s M = w35_3 P Q M (sget s 2) (sget s 3) := by kernel_rfl
def c35_4 : ACode := (.seq c35_3 .ret)
def c35_5 : ACode := (.seq c35_1 c35_4)
def fn_message_Supersedes : AFn := ⟨41, [(.tmp 4)], c35_5⟩
theorem fn_message_Supersedes_ok : resFn PR h_message_Supersedes i_message_Supersedes = some fn_message_Supersedes := by kernel_rfl

def h_inbox_owned : Hints := ⟨[(0, [1, 2]), (1, [1, 2, 3]), (2, [1, 2]), (3, [2])], [], [(2, [3])]⟩
def o36_0 : List AOper := [⟨some 1, (.box 13 (.tmp 0)), false, none⟩,
  ⟨some 2, (.alloc [(.int .i64 0), (.int .i64 0), (.int .i64 0), (.int .i64 0), (.int .i64 0), (.str []), (.int .i64 0), (.int .i64 0), (.int .i64 0), (.int .i64 0), (.int .i64 0), (.bool false), (.slice [] .nil)]), false, none⟩]
def c36_1 : ACode := (.region o36_0 [1, 2])
def w36_1 (_P : Program) (Q : Exit → Slots → Mem → Prop) (M : Mem) (v0 : V) : Prop :=
  @OptMH (boxV 13 v0 M) ⟨fun t1_1 M1 =>
  @OptMH (allocV [(.int .i64 0), (.int .i64 0), (.int .i64 0), (.int .i64 0), (.int .i64 0), (.str []), (.int .i64 0), (.int .i64 0), (.int .i64 0), (.int .i64 0), (.int .i64 0), (.bool false), (.slice [] .nil)] M1) ⟨fun t2_2 M2 =>
  Q .normal [(1, t1_1), (2, t2_2)] M2⟩⟩
theorem e36_1 (P : Program) (Q : Exit → Slots → Mem → Prop) (s : Slots) (M : Mem) : wpC P c36_1 Q s M = w36_1 P Q M (sget s 0) := by kernel_rfl
def o36_2 : List AOper := [⟨some 3, (.mov (.const (.slice [] .nil))), false, none⟩]
def c36_3 : ACode := (.region o36_2 [1, 2, 3])
def w36_3 (_P : Program) (Q : Exit → Slots → Mem → Prop) (M : Mem) (v1 : V) (v2 : V) : Prop :=
  Q .normal [(1, v1), (2, v2), (3, (.slice [] .nil))] M
theorem e36_3 (P : Program) (Q : Exit → Slots → Mem → Prop) (s : Slots) (M : Mem) : wpC P c36_3 Q s M = w36_3 P Q M (sget s 1) (sget s 2) := by kernel_rfl
def o36_4 : List AOper := [⟨some 4, (.mov (.tmp 3)), false, none⟩,
  ⟨some 5, (.fieldAddr 12 (.tmp 1)), false, none⟩,
  ⟨some 6, (.load 1 false (.tmp 5)), false, none⟩,
  ⟨some 7, (.append true 5 32 (.tmp 4) (.tmp 6)), false, none⟩,
  ⟨some 8, (.fieldAddr 12 (.tmp 1)), false, none⟩,
  ⟨none, (.store 1 (.tmp 8) (.tmp 7)), false, none⟩]
def c36_5 : ACode := (.region o36_4 [1, 2])
def w36_5 (_P : Program) (Q : Exit → Slots → Mem → Prop) (M : Mem) (v1 : V) (v2 : V) (v3 : V) : Prop :=
  @OptVH (moveV 12 v1) ⟨fun t5_2 =>
  @OptVH (loadV 1 false t5_2 M) ⟨fun t6_3 =>
  @OptMH (appV true 5 32 v3 t6_3 M) ⟨fun t7_4 M4 =>
  @OptVH (moveV 12 v1) ⟨fun t8_5 =>
  @OptMH (storeVM 1 t8_5 t7_4 M4) ⟨fun _tx_6 M6 =>
  Q .normal [(1, v1), (2, v2)] M6⟩⟩⟩⟩⟩
theorem e36_5 (P : Program) (Q : Exit → Slots → Mem → Prop) (s : Slots) (M : Mem) : wpC P c36_5 Q s M = w36_5 P Q M (sget s 1) (sget s 2) (sget s 3) := by kernel_rfl
def o36_6 : List AOper := [⟨some 9, (.load 13 true (.tmp 1)), false, none⟩,
  ⟨none, (.store 13 (.tmp 2) (.tmp 9)), false, none⟩]
def c36_7 : ACode := (.region o36_6 [2])
def w36_7 (_P : Program) (Q : Exit → Slots → Mem → Prop) (M : Mem) (v1 : V) (v2 : V) : Prop :=
  @OptVH (loadV 13 true v1 M) ⟨fun t9_1 =>
  @OptMH (storeVM 13 v2 t9_1 M) ⟨fun _tx_2 M2 =>
  Q .normal [(2, v2)] M2⟩⟩
theorem e36_7 (P : Program) (Q : Exit → Slots → Mem → Prop) (s : Slots) (M : Mem) : wpC P c36_7 Q s M = w36_7 P Q M (sget s 1) (sget s 2) := by kernel_rfl
def c36_8 : ACode := (.seq c36_7 .ret)
def c36_9 : ACode := (.seq c36_5 c36_8)
def c36_10 : ACode := (.seq c36_3 c36_9)
def c36_11 : ACode := (.seq c36_1 c36_10)
def fn_inbox_owned : AFn := ⟨10, [(.cell 2 13 true)], c36_11⟩
theorem fn_inbox_owned_ok : resFn PR h_inbox_owned i_inbox_owned = some fn_inbox_owned := by kernel_rfl

def h_inbox_heard_hear : Hints := ⟨[(0, [0, 1, 16]), (1, [])], [], []⟩
def o37_0 : List AOper := [⟨some 17, (.mov (.tmp 0)), false, none⟩,
  ⟨some 18, (.mov (.tmp 0)), false, none⟩,
  ⟨some 19, (.mov (.tmp 1)), false, none⟩,
  ⟨some 20, (.nilCheck (.tmp 17)), false, none⟩,
  ⟨some 21, (.fieldAddr 0 (.tmp 20)), false, none⟩,
  ⟨none, (.store 1 (.tmp 21) (.const (.bool true))), false, none⟩,
  ⟨some 22, (.nilCheck (.tmp 18)), false, none⟩,
  ⟨some 23, (.fieldAddr 1 (.tmp 22)), false, none⟩,
  ⟨none, (.store 1 (.tmp 23) (.tmp 19)), false, none⟩]
def c37_1 : ACode := (.region o37_0 [])
def w37_1 (_P : Program) (Q : Exit → Slots → Mem → Prop) (M : Mem) (v0 : V) (v1 : V) : Prop :=
  @OptVH (nilCheckV v0) ⟨fun t20_4 =>
  @OptVH (moveV 0 t20_4) ⟨fun t21_5 =>
  @OptMH (storeVM 1 t21_5 (.bool true) M) ⟨fun _tx_6 M6 =>
  @OptVH (nilCheckV v0) ⟨fun t22_7 =>
  @OptVH (moveV 1 t22_7) ⟨fun t23_8 =>
  @OptMH (storeVM 1 t23_8 v1 M6) ⟨fun _tx_9 M9 =>
  Q .normal [] M9⟩⟩⟩⟩⟩⟩
theorem e37_1 (P : Program) (Q : Exit → Slots → Mem → Prop) (s : Slots) (M : Mem) : wpC P c37_1 Q s M = w37_1 P Q M (sget s 0) (sget s 1) := by kernel_rfl
def o37_2 : List AOper := [⟨some 4, (.mov (.tmp 0)), false, none⟩,
  ⟨some 5, (.nilCheck (.tmp 4)), false, none⟩,
  ⟨some 6, (.fieldAddr 0 (.tmp 5)), false, none⟩,
  ⟨some 7, (.load 1 false (.tmp 6)), true, none⟩,
  ⟨some 8, (.un .not (.tmp 7)), true, none⟩,
  ⟨some 9, (.mov (.tmp 8)), true, none⟩,
  ⟨some 10, (.mov (.tmp 1)), false, some (9, false)⟩,
  ⟨some 11, (.mov (.tmp 0)), false, some (9, false)⟩,
  ⟨some 12, (.nilCheck (.tmp 11)), false, some (9, false)⟩,
  ⟨some 13, (.fieldAddr 1 (.tmp 12)), false, some (9, false)⟩,
  ⟨some 14, (.load 1 false (.tmp 13)), false, some (9, false)⟩,
  ⟨some 15, (.bin .gtr .none (.tmp 10) (.tmp 14)), true, some (9, false)⟩,
  ⟨some 16, (.pick (.tmp 9) (.const (.bool true)) (.tmp 15)), true, none⟩]
def c37_3 : ACode := (.seq (.region o37_2 [0, 1, 16]) (.cond (.tmp 16) c37_1 .skip))
def w37_3 (P : Program) (Q : Exit → Slots → Mem → Prop) (M : Mem) (v0 : V) (v1 : V) : Prop :=
  @OptVH (nilCheckV v0) ⟨fun t5_2 =>
  @OptVH (moveV 0 t5_2) ⟨fun t6_3 =>
  @OptBH (loadV 1 false t6_3 M) ⟨fun b7_4 =>
  @OptBH (unV .not (.bool b7_4)) ⟨fun b8_5 =>
  @BIfH b8_5
  ⟨wpC P c37_1 Q [(0, v0), (1, v1), (16, (.bool true))] M⟩
  ⟨@OptVH (nilCheckV v0) ⟨fun t12_10 =>
  @OptVH (moveV 1 t12_10) ⟨fun t13_11 =>
  @OptVH (loadV 1 false t13_11 M) ⟨fun t14_12 =>
  @OptBH (binV .gtr .none v1 t14_12) ⟨fun b15_13 =>
  @BIfH b15_13
  ⟨wpC P c37_1 Q [(0, v0), (1, v1), (16, (.bool b15_13))] M⟩
  ⟨Q .normal [(0, v0), (1, v1), (16, (.bool b15_13))] M⟩⟩⟩⟩⟩⟩⟩⟩⟩⟩
theorem e37_3 (P : Program) (Q : Exit → Slots → Mem → Prop) (s : Slots) (M : Mem) : wpC P c37_3 Q s M = w37_3 P Q M (sget s 0) (sget s 1) := by kernel_rfl
def fn_inbox_heard_hear : AFn := ⟨24, [], c37_3⟩
theorem fn_inbox_heard_hear_ok : resFn PR h_inbox_heard_hear i_inbox_heard_hear = some fn_inbox_heard_hear := by kernel_rfl

def h_transitref31_Equal : Hints := ⟨[(0, [2, 3]), (1, [4])], [], []⟩
def o38_0 : List AOper := [⟨some 2, (.box 13 (.tmp 0)), false, none⟩,
  ⟨some 3, (.box 13 (.tmp 1)), false, none⟩,
  ⟨some 4, (.mov (.const (.bool false))), true, none⟩]
def c38_1 : ACode := (.region o38_0 [2, 3])
def w38_1 (_P : Program) (Q : Exit → Slots → Mem → Prop) (M : Mem) (v0 : V) (v1 : V) : Prop :=
  @OptMH (boxV 13 v0 M) ⟨fun t2_1 M1 =>
  @OptMH (boxV 13 v1 M1) ⟨fun t3_2 M2 =>
  Q .normal [(2, t2_1), (3, t3_2)] M2⟩⟩
theorem e38_1 (P : Program) (Q : Exit → Slots → Mem → Prop) (s : Slots) (M : Mem) : wpC P c38_1 Q s M = w38_1 P Q M (sget s 0) (sget s 1) := by kernel_rfl
def o38_2 : List AOper := [⟨some 5, (.fieldAddr 0 (.tmp 2)), false, none⟩,
  ⟨some 6, (.load 1 false (.tmp 5)), false, none⟩,
  ⟨some 7, (.fieldAddr 0 (.tmp 3)), false, none⟩,
  ⟨some 8, (.load 1 false (.tmp 7)), false, none⟩,
  ⟨some 9, (.bin .eql .none (.tmp 6) (.tmp 8)), true, none⟩,
  ⟨some 10, (.mov (.tmp 9)), true, none⟩,
  ⟨some 11, (.fieldAddr 1 (.tmp 2)), false, some (10, true)⟩,
  ⟨some 12, (.load 1 false (.tmp 11)), false, some (10, true)⟩,
  ⟨some 13, (.fieldAddr 1 (.tmp 3)), false, some (10, true)⟩,
  ⟨some 14, (.load 1 false (.tmp 13)), false, some (10, true)⟩,
  ⟨some 15, (.bin .eql .none (.tmp 12) (.tmp 14)), true, some (10, true)⟩,
  ⟨some 16, (.pick (.tmp 10) (.tmp 15) (.const (.bool false))), true, none⟩,
  ⟨some 17, (.mov (.tmp 16)), true, none⟩,
  ⟨some 18, (.fieldAddr 2 (.tmp 2)), false, some (17, true)⟩,
  ⟨some 19, (.load 1 false (.tmp 18)), false, some (17, true)⟩,
  ⟨some 20, (.fieldAddr 2 (.tmp 3)), false, some (17, true)⟩,
  ⟨some 21, (.load 1 false (.tmp 20)), false, some (17, true)⟩,
  ⟨some 22, (.bin .eql .none (.tmp 19) (.tmp 21)), true, some (17, true)⟩,
  ⟨some 23, (.pick (.tmp 17) (.tmp 22) (.const (.bool false))), true, none⟩,
  ⟨some 24, (.mov (.tmp 23)), true, none⟩,
  ⟨some 25, (.fieldAddr 3 (.tmp 2)), false, some (24, true)⟩,
  ⟨some 26, (.load 1 false (.tmp 25)), false, some (24, true)⟩,
  ⟨some 27, (.fieldAddr 3 (.tmp 3)), false, some (24, true)⟩,
  ⟨some 28, (.load 1 false (.tmp 27)), false, some (24, true)⟩,
  ⟨some 29, (.bin .eql .none (.tmp 26) (.tmp 28)), true, some (24, true)⟩,
  ⟨some 30, (.pick (.tmp 24) (.tmp 29) (.const (.bool false))), true, none⟩,
  ⟨some 31, (.mov (.tmp 30)), true, none⟩,
  ⟨some 32, (.fieldAddr 4 (.tmp 2)), false, some (31, true)⟩,
  ⟨some 33, (.load 1 false (.tmp 32)), false, some (31, true)⟩,
  ⟨some 34, (.fieldAddr 4 (.tmp 3)), false, some (31, true)⟩,
  ⟨some 35, (.load 1 false (.tmp 34)), false, some (31, true)⟩,
  ⟨some 36, (.bin .eql .none (.tmp 33) (.tmp 35)), true, some (31, true)⟩,
  ⟨some 37, (.pick (.tmp 31) (.tmp 36) (.const (.bool false))), true, none⟩,
  ⟨some 38, (.mov (.tmp 37)), true, none⟩,
  ⟨some 39, (.load 13 true (.tmp 2)), false, some (38, true)⟩,
  ⟨some 40, (.load 13 true (.tmp 3)), false, some (38, true)⟩,
  ⟨some 41, (.call i_transitref31_SameTarget [(.tmp 39), (.tmp 40)]), true, some (38, true)⟩,
  ⟨some 42, (.pick (.tmp 38) (.tmp 41) (.const (.bool false))), true, none⟩,
  ⟨some 43, (.mov (.tmp 42)), true, none⟩,
  ⟨some 44, (.fieldAddr 8 (.tmp 2)), false, some (43, true)⟩,
  ⟨some 45, (.load 1 false (.tmp 44)), false, some (43, true)⟩,
  ⟨some 46, (.fieldAddr 8 (.tmp 3)), false, some (43, true)⟩,
  ⟨some 47, (.load 1 false (.tmp 46)), false, some (43, true)⟩,
  ⟨some 48, (.bin .eql .none (.tmp 45) (.tmp 47)), true, some (43, true)⟩,
  ⟨some 49, (.pick (.tmp 43) (.tmp 48) (.const (.bool false))), true, none⟩,
  ⟨some 50, (.mov (.tmp 49)), true, none⟩,
  ⟨some 51, (.fieldAddr 9 (.tmp 2)), false, some (50, true)⟩,
  ⟨some 52, (.load 1 false (.tmp 51)), false, some (50, true)⟩,
  ⟨some 53, (.fieldAddr 9 (.tmp 3)), false, some (50, true)⟩,
  ⟨some 54, (.load 1 false (.tmp 53)), false, some (50, true)⟩,
  ⟨some 55, (.bin .eql .none (.tmp 52) (.tmp 54)), true, some (50, true)⟩,
  ⟨some 56, (.pick (.tmp 50) (.tmp 55) (.const (.bool false))), true, none⟩,
  ⟨some 57, (.mov (.tmp 56)), true, none⟩,
  ⟨some 58, (.fieldAddr 10 (.tmp 2)), false, some (57, true)⟩,
  ⟨some 59, (.load 1 false (.tmp 58)), false, some (57, true)⟩,
  ⟨some 60, (.fieldAddr 10 (.tmp 3)), false, some (57, true)⟩,
  ⟨some 61, (.load 1 false (.tmp 60)), false, some (57, true)⟩,
  ⟨some 62, (.bin .eql .none (.tmp 59) (.tmp 61)), true, some (57, true)⟩,
  ⟨some 63, (.pick (.tmp 57) (.tmp 62) (.const (.bool false))), true, none⟩,
  ⟨some 64, (.mov (.tmp 63)), true, none⟩,
  ⟨some 65, (.fieldAddr 11 (.tmp 2)), false, some (64, true)⟩,
  ⟨some 66, (.load 1 false (.tmp 65)), true, some (64, true)⟩,
  ⟨some 67, (.fieldAddr 11 (.tmp 3)), false, some (64, true)⟩,
  ⟨some 68, (.load 1 false (.tmp 67)), true, some (64, true)⟩,
  ⟨some 69, (.bin .eql .bool (.tmp 66) (.tmp 68)), true, some (64, true)⟩,
  ⟨some 70, (.pick (.tmp 64) (.tmp 69) (.const (.bool false))), true, none⟩,
  ⟨some 71, (.mov (.tmp 70)), true, none⟩,
  ⟨some 72, (.fieldAddr 12 (.tmp 2)), false, some (71, true)⟩,
  ⟨some 73, (.load 1 false (.tmp 72)), false, some (71, true)⟩,
  ⟨some 74, (.fieldAddr 12 (.tmp 3)), false, some (71, true)⟩,
  ⟨some 75, (.load 1 false (.tmp 74)), false, some (71, true)⟩,
  ⟨some 76, (.call i_transitref16_Equal [(.tmp 73), (.tmp 75)]), true, some (71, true)⟩,
  ⟨some 77, (.pick (.tmp 71) (.tmp 76) (.const (.bool false))), true, none⟩,
  ⟨some 4, (.mov (.tmp 77)), true, none⟩]
def c38_3 : ACode := (.region o38_2 [4])
def w38_3 (P : Program) (Q : Exit → Slots → Mem → Prop) (M : Mem) (v2 : V) (v3 : V) : Prop :=
  @OptVH (moveV 0 v2) ⟨fun t5_1 =>
  @OptVH (loadV 1 false t5_1 M) ⟨fun t6_2 =>
  @OptVH (moveV 0 v3) ⟨fun t7_3 =>
  @OptVH (loadV 1 false t7_3 M) ⟨fun t8_4 =>
  @OptBH (binV .eql .none t6_2 t8_4) ⟨fun b9_5 =>
  @BIfH b9_5
  ⟨@OptVH (moveV 1 v2) ⟨fun t11_7 =>
  @OptVH (loadV 1 false t11_7 M) ⟨fun t12_8 =>
  @OptVH (moveV 1 v3) ⟨fun t13_9 =>
  @OptVH (loadV 1 false t13_9 M) ⟨fun t14_10 =>
  @OptBH (binV .eql .none t12_8 t14_10) ⟨fun b15_11 =>
  @BIfH b15_11
  ⟨@OptVH (moveV 2 v2) ⟨fun t18_14 =>
  @OptVH (loadV 1 false t18_14 M) ⟨fun t19_15 =>
  @OptVH (moveV 2 v3) ⟨fun t20_16 =>
  @OptVH (loadV 1 false t20_16 M) ⟨fun t21_17 =>
  @OptBH (binV .eql .none t19_15 t21_17) ⟨fun b22_18 =>
  @BIfH b22_18
  ⟨@OptVH (moveV 3 v2) ⟨fun t25_21 =>
  @OptVH (loadV 1 false t25_21 M) ⟨fun t26_22 =>
  @OptVH (moveV 3 v3) ⟨fun t27_23 =>
  @OptVH (loadV 1 false t27_23 M) ⟨fun t28_24 =>
  @OptBH (binV .eql .none t26_22 t28_24) ⟨fun b29_25 =>
  @BIfH b29_25
  ⟨@OptVH (moveV 4 v2) ⟨fun t32_28 =>
  @OptVH (loadV 1 false t32_28 M) ⟨fun t33_29 =>
  @OptVH (moveV 4 v3) ⟨fun t34_30 =>
  @OptVH (loadV 1 false t34_30 M) ⟨fun t35_31 =>
  @OptBH (binV .eql .none t33_29 t35_31) ⟨fun b36_32 =>
  @BIfH b36_32
  ⟨@OptVH (loadV 13 true v2 M) ⟨fun t39_35 =>
  @OptVH (loadV 13 true v3 M) ⟨fun t40_36 =>
  @CallH P i_transitref31_SameTarget [t39_35, t40_36] M ⟨fun t41_37 M37 => @OptBH (some t41_37) ⟨fun b41_37 =>
  @BIfH b41_37
  ⟨@OptVH (moveV 8 v2) ⟨fun t44_40 =>
  @OptVH (loadV 1 false t44_40 M37) ⟨fun t45_41 =>
  @OptVH (moveV 8 v3) ⟨fun t46_42 =>
  @OptVH (loadV 1 false t46_42 M37) ⟨fun t47_43 =>
  @OptBH (binV .eql .none t45_41 t47_43) ⟨fun b48_44 =>
  @BIfH b48_44
  ⟨@OptVH (moveV 9 v2) ⟨fun t51_47 =>
  @OptVH (loadV 1 false t51_47 M37) ⟨fun t52_48 =>
  @OptVH (moveV 9 v3) ⟨fun t53_49 =>
  @OptVH (loadV 1 false t53_49 M37) ⟨fun t54_50 =>
  @OptBH (binV .eql .none t52_48 t54_50) ⟨fun b55_51 =>
  @BIfH b55_51
  ⟨@OptVH (moveV 10 v2) ⟨fun t58_54 =>
  @OptVH (loadV 1 false t58_54 M37) ⟨fun t59_55 =>
  @OptVH (moveV 10 v3) ⟨fun t60_56 =>
  @OptVH (loadV 1 false t60_56 M37) ⟨fun t61_57 =>
  @OptBH (binV .eql .none t59_55 t61_57) ⟨fun b62_58 =>
  @BIfH b62_58
  ⟨@OptVH (moveV 11 v2) ⟨fun t65_61 =>
  @OptBH (loadV 1 false t65_61 M37) ⟨fun b66_62 =>
  @OptVH (moveV 11 v3) ⟨fun t67_63 =>
  @OptBH (loadV 1 false t67_63 M37) ⟨fun b68_64 =>
  @OptBH (binV .eql .bool (.bool b66_62) (.bool b68_64)) ⟨fun b69_65 =>
  @BIfH b69_65
  ⟨@OptVH (moveV 12 v2) ⟨fun t72_68 =>
  @OptVH (loadV 1 false t72_68 M37) ⟨fun t73_69 =>
  @OptVH (moveV 12 v3) ⟨fun t74_70 =>
  @OptVH (loadV 1 false t74_70 M37) ⟨fun t75_71 =>
  @CallH P i_transitref16_Equal [t73_69, t75_71] M37 ⟨fun t76_72 M72 => @OptBH (some t76_72) ⟨fun b76_72 =>
  Q .normal [(4, (.bool b76_72))] M72⟩⟩⟩⟩⟩⟩⟩
  ⟨Q .normal [(4, (.bool false))] M37⟩⟩⟩⟩⟩⟩⟩
  ⟨Q .normal [(4, (.bool false))] M37⟩⟩⟩⟩⟩⟩⟩
  ⟨Q .normal [(4, (.bool false))] M37⟩⟩⟩⟩⟩⟩⟩
  ⟨Q .normal [(4, (.bool false))] M37⟩⟩⟩⟩⟩⟩⟩
  ⟨Q .normal [(4, (.bool false))] M37⟩⟩⟩⟩⟩⟩
  ⟨Q .normal [(4, (.bool false))] M⟩⟩⟩⟩⟩⟩⟩
  ⟨Q .normal [(4, (.bool false))] M⟩⟩⟩⟩⟩⟩⟩
  ⟨Q .normal [(4, (.bool false))] M⟩⟩⟩⟩⟩⟩⟩
  ⟨Q .normal [(4, (.bool false))] M⟩⟩⟩⟩⟩⟩⟩
  ⟨Q .normal [(4, (.bool false))] M⟩⟩⟩⟩⟩⟩
theorem e38_3 (P : Program) (Q : Exit → Slots → Mem → Prop) (s : Slots) (M : Mem) : wpC P c38_3 Q s M = w38_3 P Q M (sget s 2) (sget s 3) := by kernel_rfl
def c38_4 : ACode := (.seq c38_3 .ret)
def c38_5 : ACode := (.seq c38_1 c38_4)
def fn_transitref31_Equal : AFn := ⟨78, [(.tmp 4)], c38_5⟩
theorem fn_transitref31_Equal_ok : resFn PR h_transitref31_Equal i_transitref31_Equal = some fn_transitref31_Equal := by kernel_rfl

def h_inbox_Inbox_Active_1 : Hints := ⟨[(0, [1, 2, 3]), (1, [4])], [], []⟩
def o39_0 : List AOper := [⟨some 3, (.box 13 (.tmp 0)), false, none⟩,
  ⟨some 4, (.mov (.const (.bool false))), true, none⟩]
def c39_1 : ACode := (.region o39_0 [1, 2, 3])
def w39_1 (_P : Program) (Q : Exit → Slots → Mem → Prop) (M : Mem) (v0 : V) (v1 : V) (v2 : V) : Prop :=
  @OptMH (boxV 13 v0 M) ⟨fun t3_1 M1 =>
  Q .normal [(1, v1), (2, v2), (3, t3_1)] M1⟩
theorem e39_1 (P : Program) (Q : Exit → Slots → Mem → Prop) (s : Slots) (M : Mem) : wpC P c39_1 Q s M = w39_1 P Q M (sget s 0) (sget s 1) (sget s 2) := by kernel_rfl
def o39_2 : List AOper := [⟨some 5, (.fieldAddr 2 (.tmp 3)), false, none⟩,
  ⟨some 6, (.load 1 false (.tmp 5)), false, none⟩,
  ⟨some 7, (.load 1 false (.tmp 1)), false, none⟩,
  ⟨some 8, (.bin .leq .none (.tmp 6) (.tmp 7)), true, none⟩,
  ⟨some 9, (.mov (.tmp 8)), true, none⟩,
  ⟨some 10, (.fieldAddr 3 (.tmp 3)), false, some (9, true)⟩,
  ⟨some 11, (.load 1 false (.tmp 10)), false, some (9, true)⟩,
  ⟨some 12, (.load 1 false (.tmp 1)), false, some (9, true)⟩,
  ⟨some 13, (.bin .gtr .none (.tmp 11) (.tmp 12)), true, some (9, true)⟩,
  ⟨some 14, (.pick (.tmp 9) (.tmp 13) (.const (.bool false))), true, none⟩,
  ⟨some 15, (.mov (.tmp 14)), true, none⟩,
  ⟨some 16, (.load 1 false (.tmp 2)), false, some (15, true)⟩,
  ⟨some 17, (.fieldAddr 0 (.tmp 3)), false, some (15, true)⟩,
  ⟨some 18, (.load 1 false (.tmp 17)), false, some (15, true)⟩,
  ⟨some 19, (.load 1 false (.tmp 1)), false, some (15, true)⟩,
  ⟨some 20, (.call i_inbox_Inbox_Failed [(.tmp 16), (.tmp 18), (.tmp 19)]), true, some (15, true)⟩,
  ⟨some 21, (.un .not (.tmp 20)), true, some (15, true)⟩,
  ⟨some 22, (.pick (.tmp 15) (.tmp 21) (.const (.bool false))), true, none⟩,
  ⟨some 4, (.mov (.tmp 22)), true, none⟩]
def c39_3 : ACode := (.region o39_2 [4])
def w39_3 (P : Program) (Q : Exit → Slots → Mem → Prop) (M : Mem) (v1 : V) (v2 : V) (v3 : V) : Prop :=
  @OptVH (moveV 2 v3) ⟨fun t5_1 =>
  @OptVH (loadV 1 false t5_1 M) ⟨fun t6_2 =>
  @OptVH (loadV 1 false v1 M) ⟨fun t7_3 =>
  @OptBH (binV .leq .none t6_2 t7_3) ⟨fun b8_4 =>
  @BIfH b8_4
  ⟨@OptVH (moveV 3 v3) ⟨fun t10_6 =>
  @OptVH (loadV 1 false t10_6 M) ⟨fun t11_7 =>
  @OptVH (loadV 1 false v1 M) ⟨fun t12_8 =>
  @OptBH (binV .gtr .none t11_7 t12_8) ⟨fun b13_9 =>
  @BIfH b13_9
  ⟨@OptVH (loadV 1 false v2 M) ⟨fun t16_12 =>
  @OptVH (moveV 0 v3) ⟨fun t17_13 =>
  @OptVH (loadV 1 false t17_13 M) ⟨fun t18_14 =>
  @OptVH (loadV 1 false v1 M) ⟨fun t19_15 =>
  @CallH P i_inbox_Inbox_Failed [t16_12, t18_14, t19_15] M ⟨fun t20_16 M16 => @OptBH (some t20_16) ⟨fun b20_16 =>
  @OptBH (unV .not (.bool b20_16)) ⟨fun b21_17 =>
  Q .normal [(4, (.bool b21_17))] M16⟩⟩⟩⟩⟩⟩⟩⟩
  ⟨Q .normal [(4, (.bool false))] M⟩⟩⟩⟩⟩⟩
  ⟨Q .normal [(4, (.bool false))] M⟩⟩⟩⟩⟩
theorem e39_3 (P : Program) (Q : Exit → Slots → Mem → Prop) (s : Slots) (M : Mem) : wpC P c39_3 Q s M = w39_3 P Q M (sget s 1) (sget s 2) (sget s 3) := by kernel_rfl
def c39_4 : ACode := (.seq c39_3 .ret)
def c39_5 : ACode := (.seq c39_1 c39_4)
def fn_inbox_Inbox_Active_1 : AFn := ⟨23, [(.tmp 4)], c39_5⟩
theorem fn_inbox_Inbox_Active_1_ok : resFn PR h_inbox_Inbox_Active_1 i_inbox_Inbox_Active_1 = some fn_inbox_Inbox_Active_1 := by kernel_rfl

def h_message_SameTarget : Hints := ⟨[(0, [2, 3]), (1, [4])], [], []⟩
def o40_0 : List AOper := [⟨some 2, (.box 13 (.tmp 0)), false, none⟩,
  ⟨some 3, (.box 13 (.tmp 1)), false, none⟩,
  ⟨some 4, (.mov (.const (.bool false))), true, none⟩]
def c40_1 : ACode := (.region o40_0 [2, 3])
def w40_1 (_P : Program) (Q : Exit → Slots → Mem → Prop) (M : Mem) (v0 : V) (v1 : V) : Prop :=
  @OptMH (boxV 13 v0 M) ⟨fun t2_1 M1 =>
  @OptMH (boxV 13 v1 M1) ⟨fun t3_2 M2 =>
  Q .normal [(2, t2_1), (3, t3_2)] M2⟩⟩
theorem e40_1 (P : Program) (Q : Exit → Slots → Mem → Prop) (s : Slots) (M : Mem) : wpC P c40_1 Q s M = w40_1 P Q M (sget s 0) (sget s 1) := by kernel_rfl
def o40_2 : List AOper := [⟨some 5, (.fieldAddr 5 (.tmp 2)), false, none⟩,
  ⟨some 6, (.load 1 false (.tmp 5)), false, none⟩,
  ⟨some 7, (.fieldAddr 5 (.tmp 3)), false, none⟩,
  ⟨some 8, (.load 1 false (.tmp 7)), false, none⟩,
  ⟨some 9, (.bin .eql .none (.tmp 6) (.tmp 8)), true, none⟩,
  ⟨some 10, (.mov (.tmp 9)), true, none⟩,
  ⟨some 11, (.fieldAddr 6 (.tmp 2)), false, some (10, true)⟩,
  ⟨some 12, (.load 1 false (.tmp 11)), false, some (10, true)⟩,
  ⟨some 13, (.fieldAddr 6 (.tmp 3)), false, some (10, true)⟩,
  ⟨some 14, (.load 1 false (.tmp 13)), false, some (10, true)⟩,
  ⟨some 15, (.bin .eql .none (.tmp 12) (.tmp 14)), true, some (10, true)⟩,
  ⟨some 16, (.pick (.tmp 10) (.tmp 15) (.const (.bool false))), true, none⟩,
  ⟨some 17, (.mov (.tmp 16)), true, none⟩,
  ⟨some 18, (.fieldAddr 7 (.tmp 2)), false, some (17, true)⟩,
  ⟨some 19, (.load 1 false (.tmp 18)), false, some (17, true)⟩,
  ⟨some 20, (.fieldAddr 7 (.tmp 3)), false, some (17, true)⟩,
  ⟨some 21, (.load 1 false (.tmp 20)), false, some (17, true)⟩,
  ⟨some 22, (.bin .eql .none (.tmp 19) (.tmp 21)), true, some (17, true)⟩,
  ⟨some 23, (.pick (.tmp 17) (.tmp 22) (.const (.bool false))), true, none⟩,
  ⟨some 4, (.mov (.tmp 23)), true, none⟩]
def c40_3 : ACode := (.region o40_2 [4])
def w40_3 (_P : Program) (Q : Exit → Slots → Mem → Prop) (M : Mem) (v2 : V) (v3 : V) : Prop :=
  @OptVH (moveV 5 v2) ⟨fun t5_1 =>
  @OptVH (loadV 1 false t5_1 M) ⟨fun t6_2 =>
  @OptVH (moveV 5 v3) ⟨fun t7_3 =>
  @OptVH (loadV 1 false t7_3 M) ⟨fun t8_4 =>
  @OptBH (binV .eql .none t6_2 t8_4) ⟨fun b9_5 =>
  @BIfH b9_5
  ⟨@OptVH (moveV 6 v2) ⟨fun t11_7 =>
  @OptVH (loadV 1 false t11_7 M) ⟨fun t12_8 =>
  @OptVH (moveV 6 v3) ⟨fun t13_9 =>
  @OptVH (loadV 1 false t13_9 M) ⟨fun t14_10 =>
  @OptBH (binV .eql .none t12_8 t14_10) ⟨fun b15_11 =>
  @BIfH b15_11
  ⟨@OptVH (moveV 7 v2) ⟨fun t18_14 =>
  @OptVH (loadV 1 false t18_14 M) ⟨fun t19_15 =>
  @OptVH (moveV 7 v3) ⟨fun t20_16 =>
  @OptVH (loadV 1 false t20_16 M) ⟨fun t21_17 =>
  @OptBH (binV .eql .none t19_15 t21_17) ⟨fun b22_18 =>
  Q .normal [(4, (.bool b22_18))] M⟩⟩⟩⟩⟩⟩
  ⟨Q .normal [(4, (.bool false))] M⟩⟩⟩⟩⟩⟩⟩
  ⟨Q .normal [(4, (.bool false))] M⟩⟩⟩⟩⟩⟩
theorem e40_3 (P : Program) (Q : Exit → Slots → Mem → Prop) (s : Slots) (M : Mem) : wpC P c40_3 Q s M = w40_3 P Q M (sget s 2) (sget s 3) := by kernel_rfl
def c40_4 : ACode := (.seq c40_3 .ret)
def c40_5 : ACode := (.seq c40_1 c40_4)
def fn_message_SameTarget : AFn := ⟨24, [(.tmp 4)], c40_5⟩
theorem fn_message_SameTarget_ok : resFn PR h_message_SameTarget i_message_SameTarget = some fn_message_SameTarget := by kernel_rfl

def h_inbox_inserted_api_Message : Hints := ⟨[(0, [0, 2, 4]), (1, [0, 2, 4, 7]), (2, [0, 2, 4, 7, 22]), (3, [0, 2, 4, 7]), (4, [0, 4, 7, 8]), (5, [0, 4, 7, 8]), (6, [0, 7, 8]), (7, [6])], [(2, [0, 2, 4, 7])], [(4, [0])]⟩
def o41_0 : List AOper := [⟨some 4, (.box 13 (.tmp 1)), false, none⟩,
  ⟨some 6, (.mov (.const (.slice [] .nil))), false, none⟩]
def c41_1 : ACode := (.region o41_0 [0, 2, 4])
def w41_1 (_P : Program) (Q : Exit → Slots → Mem → Prop) (M : Mem) (v0 : V) (v1 : V) (v2 : V) : Prop :=
  @OptMH (boxV 13 v1 M) ⟨fun t4_1 M1 =>
  Q .normal [(0, v0), (2, v2), (4, t4_1)] M1⟩
theorem e41_1 (P : Program) (Q : Exit → Slots → Mem → Prop) (s : Slots) (M : Mem) : wpC P c41_1 Q s M = w41_1 P Q M (sget s 0) (sget s 1) (sget s 2) := by kernel_rfl
def o41_2 : List AOper := [⟨some 9, (.mov (.tmp 0)), false, none⟩,
  ⟨some 10, (.lenSl (.tmp 9)), false, none⟩,
  ⟨some 7, (.mov (.tmp 10)), false, none⟩]
def c41_3 : ACode := (.region o41_2 [0, 2, 4, 7])
def w41_3 (_P : Program) (Q : Exit → Slots → Mem → Prop) (M : Mem) (v0 : V) (v2 : V) (v4 : V) : Prop :=
  @OptVH (lenV v0 M) ⟨fun t10_2 =>
  Q .normal [(0, v0), (2, v2), (4, v4), (7, t10_2)] M⟩
theorem e41_3 (P : Program) (Q : Exit → Slots → Mem → Prop) (s : Slots) (M : Mem) : wpC P c41_3 Q s M = w41_3 P Q M (sget s 0) (sget s 2) (sget s 4) := by kernel_rfl
def o41_4 : List AOper := [⟨some 11, (.mov (.tmp 7)), false, none⟩,
  ⟨some 12, (.bin .gtr .none (.tmp 11) (.const (.int .i64 0))), true, none⟩,
  ⟨some 13, (.mov (.tmp 12)), true, none⟩,
  ⟨some 14, (.mov (.tmp 2)), false, some (13, true)⟩,
  ⟨some 15, (.load 13 true (.tmp 4)), false, some (13, true)⟩,
  ⟨some 16, (.mov (.tmp 0)), false, some (13, true)⟩,
  ⟨some 17, (.mov (.tmp 7)), false, some (13, true)⟩,
  ⟨some 18, (.bin .sub .none (.tmp 17) (.const (.int .i64 1))), false, some (13, true)⟩,
  ⟨some 19, (.indexSl 13 (.tmp 16) (.tmp 18)), false, some (13, true)⟩,
  ⟨some 20, (.load 13 true (.tmp 19)), false, some (13, true)⟩,
  ⟨some 21, (.callv (.tmp 14) [(.tmp 15), (.tmp 20)]), true, some (13, true)⟩,
  ⟨some 22, (.pick (.tmp 13) (.tmp 21) (.const (.bool false))), true, none⟩]
def c41_5 : ACode := (.seq (.mixed o41_4 [true, true, true, true, true, true, true, true, true, true, false, true] [0, 2, 4, 7, 22]) (.cond (.tmp 22) .skip (.exit 0)))
def w41_5 (P : Program) (Q : Exit → Slots → Mem → Prop) (M : Mem) (v0 : V) (v2 : V) (v4 : V) (v7 : V) : Prop :=
  @OptBH (binV .gtr .none v7 (.int .i64 0)) ⟨fun b12_2 =>
  @BIfH b12_2
  ⟨@OptVH (loadV 13 true v4 M) ⟨fun t15_5 =>
  @OptVH (binV .sub .none v7 (.int .i64 1)) ⟨fun t18_8 =>
  @OptVH (indexSlV 13 v0 t18_8 M) ⟨fun t19_9 =>
  @OptVH (loadV 13 true t19_9 M) ⟨fun t20_10 =>
  @CallV P false v2 [t15_5, t20_10] M ⟨fun t21_11 M11 => @OptBH (some t21_11) ⟨fun b21_11 =>
  @BIfH b21_11
  ⟨Q .normal [(0, v0), (2, v2), (4, v4), (7, v7), (22, (.bool b21_11))] M11⟩
  ⟨Q (.exit 0) [(0, v0), (2, v2), (4, v4), (7, v7), (22, (.bool b21_11))] M11⟩⟩⟩⟩⟩⟩⟩⟩
  ⟨Q (.exit 0) [(0, v0), (2, v2), (4, v4), (7, v7), (22, (.bool false))] M⟩⟩
theorem e41_5 (P : Program) (Q : Exit → Slots → Mem → Prop) (s : Slots) (M : Mem) : wpC P c41_5 Q s M = w41_5 P Q M (sget s 0) (sget s 2) (sget s 4) (sget s 7) := by kernel_rfl
def o41_6 : List AOper := [⟨some 23, (.mov (.tmp 7)), false, none⟩,
  ⟨some 24, (.bin .sub .none (.tmp 23) (.const (.int .i64 1))), false, none⟩,
  ⟨some 7, (.mov (.tmp 24)), false, none⟩]
def c41_7 : ACode := (.region o41_6 [0, 2, 4, 7])
def w41_7 (_P : Program) (Q : Exit → Slots → Mem → Prop) (M : Mem) (v0 : V) (v2 : V) (v4 : V) (v7 : V) : Prop :=
  @OptVH (binV .sub .none v7 (.int .i64 1)) ⟨fun t24_2 =>
  Q .normal [(0, v0), (2, v2), (4, v4), (7, t24_2)] M⟩
theorem e41_7 (P : Program) (Q : Exit → Slots → Mem → Prop) (s : Slots) (M : Mem) : wpC P c41_7 Q s M = w41_7 P Q M (sget s 0) (sget s 2) (sget s 4) (sget s 7) := by kernel_rfl
def c41_8 : ACode := (.block 1 c41_7)
def c41_9 : ACode := (.seq c41_5 c41_8)
def c41_10 : ACode := (.loop [0, 2, 4, 7] c41_9)
def c41_11 : ACode := (.block 0 c41_10)
def o41_12 : List AOper := [⟨some 8, (.newarr 13), false, none⟩]
def c41_13 : ACode := (.region o41_12 [0, 4, 7, 8])
def w41_13 (_P : Program) (Q : Exit → Slots → Mem → Prop) (M : Mem) (v0 : V) (v4 : V) (v7 : V) : Prop :=
  @OptMH (newarrV 13 M) ⟨fun t8_1 M1 =>
  Q .normal [(0, v0), (4, v4), (7, v7), (8, t8_1)] M1⟩
theorem e41_13 (P : Program) (Q : Exit → Slots → Mem → Prop) (s : Slots) (M : Mem) : wpC P c41_13 Q s M = w41_13 P Q M (sget s 0) (sget s 4) (sget s 7) := by kernel_rfl
def o41_14 : List AOper := [⟨some 25, (.mov (.tmp 8)), false, none⟩,
  ⟨some 26, (.mov (.tmp 0)), false, none⟩,
  ⟨some 27, (.mov (.tmp 7)), false, none⟩,
  ⟨some 28, (.slice 13 (.tmp 26) none (some (.tmp 27)) none), false, none⟩,
  ⟨some 29, (.append false 13 128 (.tmp 25) (.tmp 28)), false, none⟩,
  ⟨some 8, (.mov (.tmp 29)), false, none⟩]
def c41_15 : ACode := (.region o41_14 [0, 4, 7, 8])
def w41_15 (_P : Program) (Q : Exit → Slots → Mem → Prop) (M : Mem) (v0 : V) (v4 : V) (v7 : V) (v8 : V) : Prop :=
  @OptVH (sliceV 13 v0 none (some v7) none M) ⟨fun t28_4 =>
  @OptMH (appV false 13 128 v8 t28_4 M) ⟨fun t29_5 M5 =>
  Q .normal [(0, v0), (4, v4), (7, v7), (8, t29_5)] M5⟩⟩
theorem e41_15 (P : Program) (Q : Exit → Slots → Mem → Prop) (s : Slots) (M : Mem) : wpC P c41_15 Q s M = w41_15 P Q M (sget s 0) (sget s 4) (sget s 7) (sget s 8) := by kernel_rfl
def o41_16 : List AOper := [⟨some 30, (.mov (.tmp 8)), false, none⟩,
  ⟨some 31, (.load 13 true (.tmp 4)), false, none⟩,
  ⟨some 32, (.buildSlice [(.int .i64 0), (.int .i64 0), (.int .i64 0), (.int .i64 0), (.int .i64 0), (.str []), (.int .i64 0), (.int .i64 0), (.int .i64 0), (.int .i64 0), (.int .i64 0), (.bool false), (.slice [] .nil)] 13 1 [(0, (13, (.tmp 31)))]), false, none⟩,
  ⟨some 33, (.append false 13 128 (.tmp 30) (.tmp 32)), false, none⟩,
  ⟨some 8, (.mov (.tmp 33)), false, none⟩]
def c41_17 : ACode := (.region o41_16 [0, 7, 8])
def w41_17 (_P : Program) (Q : Exit → Slots → Mem → Prop) (M : Mem) (v0 : V) (v4 : V) (v7 : V) (v8 : V) : Prop :=
  @OptVH (loadV 13 true v4 M) ⟨fun t31_2 =>
  @OptVH (buildSliceV [(.int .i64 0), (.int .i64 0), (.int .i64 0), (.int .i64 0), (.int .i64 0), (.str []), (.int .i64 0), (.int .i64 0), (.int .i64 0), (.int .i64 0), (.int .i64 0), (.bool false), (.slice [] .nil)] 13 1 [(0, 13, t31_2)]) ⟨fun t32_3 =>
  @OptMH (appV false 13 128 v8 t32_3 M) ⟨fun t33_4 M4 =>
  Q .normal [(0, v0), (7, v7), (8, t33_4)] M4⟩⟩⟩
theorem e41_17 (P : Program) (Q : Exit → Slots → Mem → Prop) (s : Slots) (M : Mem) : wpC P c41_17 Q s M = w41_17 P Q M (sget s 0) (sget s 4) (sget s 7) (sget s 8) := by kernel_rfl
def o41_18 : List AOper := [⟨some 34, (.mov (.tmp 8)), false, none⟩,
  ⟨some 35, (.mov (.tmp 0)), false, none⟩,
  ⟨some 36, (.mov (.tmp 7)), false, none⟩,
  ⟨some 37, (.slice 13 (.tmp 35) (some (.tmp 36)) none none), false, none⟩,
  ⟨some 38, (.append false 13 128 (.tmp 34) (.tmp 37)), false, none⟩,
  ⟨some 6, (.mov (.tmp 38)), false, none⟩]
def c41_19 : ACode := (.region o41_18 [6])
def w41_19 (_P : Program) (Q : Exit → Slots → Mem → Prop) (M : Mem) (v0 : V) (v7 : V) (v8 : V) : Prop :=
  @OptVH (sliceV 13 v0 (some v7) none none M) ⟨fun t37_4 =>
  @OptMH (appV false 13 128 v8 t37_4 M) ⟨fun t38_5 M5 =>
  Q .normal [(6, t38_5)] M5⟩⟩
theorem e41_19 (P : Program) (Q : Exit → Slots → Mem → Prop) (s : Slots) (M : Mem) : wpC P c41_19 Q s M = w41_19 P Q M (sget s 0) (sget s 7) (sget s 8) := by kernel_rfl
def c41_20 : ACode := (.seq c41_19 .ret)
def c41_21 : ACode := (.seq c41_17 c41_20)
def c41_22 : ACode := (.seq c41_15 c41_21)
def c41_23 : ACode := (.seq c41_13 c41_22)
def c41_24 : ACode := (.seq c41_11 c41_23)
def c41_25 : ACode := (.seq c41_3 c41_24)
def c41_26 : ACode := (.seq c41_1 c41_25)
def fn_inbox_inserted_api_Message : AFn := ⟨39, [(.tmp 6)], c41_26⟩
theorem fn_inbox_inserted_api_Message_ok : resFn PR h_inbox_inserted_api_Message i_inbox_inserted_api_Message = some fn_inbox_inserted_api_Message := by kernel_rfl

def h_inbox_before : Hints := ⟨[(0, [2, 3]), (1, [2, 3, 5]), (2, [4]), (3, [2, 3, 16]), (4, [4]), (5, [2, 3, 27]), (6, [4]), (7, [4])], [], []⟩
def o42_0 : List AOper := [⟨some 2, (.box 13 (.tmp 0)), false, none⟩,
  ⟨some 3, (.box 13 (.tmp 1)), false, none⟩,
  ⟨some 4, (.mov (.const (.bool false))), true, none⟩]
def c42_1 : ACode := (.region o42_0 [2, 3])
def w42_1 (_P : Program) (Q : Exit → Slots → Mem → Prop) (M : Mem) (v0 : V) (v1 : V) : Prop :=
  @OptMH (boxV 13 v0 M) ⟨fun t2_1 M1 =>
  @OptMH (boxV 13 v1 M1) ⟨fun t3_2 M2 =>
  Q .normal [(2, t2_1), (3, t3_2)] M2⟩⟩
theorem e42_1 (P : Program) (Q : Exit → Slots → Mem → Prop) (s : Slots) (M : Mem) : wpC P c42_1 Q s M = w42_1 P Q M (sget s 0) (sget s 1) := by kernel_rfl
def o42_2 : List AOper := [⟨some 11, (.fieldAddr 5 (.tmp 2)), false, none⟩,
  ⟨some 12, (.load 1 false (.tmp 11)), false, none⟩,
  ⟨some 13, (.fieldAddr 5 (.tmp 3)), false, none⟩,
  ⟨some 14, (.load 1 false (.tmp 13)), false, none⟩,
  ⟨some 15, (.bin .lss .none (.tmp 12) (.tmp 14)), true, none⟩,
  ⟨some 4, (.mov (.tmp 15)), true, none⟩]
def c42_3 : ACode := (.region o42_2 [4])
def w42_3 (_P : Program) (Q : Exit → Slots → Mem → Prop) (M : Mem) (v2 : V) (v3 : V) : Prop :=
  @OptVH (moveV 5 v2) ⟨fun t11_1 =>
  @OptVH (loadV 1 false t11_1 M) ⟨fun t12_2 =>
  @OptVH (moveV 5 v3) ⟨fun t13_3 =>
  @OptVH (loadV 1 false t13_3 M) ⟨fun t14_4 =>
  @OptBH (binV .lss .none t12_2 t14_4) ⟨fun b15_5 =>
  Q .normal [(4, (.bool b15_5))] M⟩⟩⟩⟩⟩
theorem e42_3 (P : Program) (Q : Exit → Slots → Mem → Prop) (s : Slots) (M : Mem) : wpC P c42_3 Q s M = w42_3 P Q M (sget s 2) (sget s 3) := by kernel_rfl
def c42_4 : ACode := (.seq c42_3 .ret)
def o42_5 : List AOper := [⟨some 22, (.fieldAddr 6 (.tmp 2)), false, none⟩,
  ⟨some 23, (.load 1 false (.tmp 22)), false, none⟩,
  ⟨some 24, (.fieldAddr 6 (.tmp 3)), false, none⟩,
  ⟨some 25, (.load 1 false (.tmp 24)), false, none⟩,
  ⟨some 26, (.bin .lss .none (.tmp 23) (.tmp 25)), true, none⟩,
  ⟨some 4, (.mov (.tmp 26)), true, none⟩]
def c42_6 : ACode := (.region o42_5 [4])
def w42_6 (_P : Program) (Q : Exit → Slots → Mem → Prop) (M : Mem) (v2 : V) (v3 : V) : Prop :=
  @OptVH (moveV 6 v2) ⟨fun t22_1 =>
  @OptVH (loadV 1 false t22_1 M) ⟨fun t23_2 =>
  @OptVH (moveV 6 v3) ⟨fun t24_3 =>
  @OptVH (loadV 1 false t24_3 M) ⟨fun t25_4 =>
  @OptBH (binV .lss .none t23_2 t25_4) ⟨fun b26_5 =>
  Q .normal [(4, (.bool b26_5))] M⟩⟩⟩⟩⟩
theorem e42_6 (P : Program) (Q : Exit → Slots → Mem → Prop) (s : Slots) (M : Mem) : wpC P c42_6 Q s M = w42_6 P Q M (sget s 2) (sget s 3) := by kernel_rfl
def c42_7 : ACode := (.seq c42_6 .ret)
def o42_8 : List AOper := [⟨some 33, (.fieldAddr 7 (.tmp 2)), false, none⟩,
  ⟨some 34, (.load 1 false (.tmp 33)), false, none⟩,
  ⟨some 35, (.fieldAddr 7 (.tmp 3)), false, none⟩,
  ⟨some 36, (.load 1 false (.tmp 35)), false, none⟩,
  ⟨some 37, (.bin .lss .none (.tmp 34) (.tmp 36)), true, none⟩,
  ⟨some 4, (.mov (.tmp 37)), true, none⟩]
def c42_9 : ACode := (.region o42_8 [4])
def w42_9 (_P : Program) (Q : Exit → Slots → Mem → Prop) (M : Mem) (v2 : V) (v3 : V) : Prop :=
  @OptVH (moveV 7 v2) ⟨fun t33_1 =>
  @OptVH (loadV 1 false t33_1 M) ⟨fun t34_2 =>
  @OptVH (moveV 7 v3) ⟨fun t35_3 =>
  @OptVH (loadV 1 false t35_3 M) ⟨fun t36_4 =>
  @OptBH (binV .lss .none t34_2 t36_4) ⟨fun b37_5 =>
  Q .normal [(4, (.bool b37_5))] M⟩⟩⟩⟩⟩
theorem e42_9 (P : Program) (Q : Exit → Slots → Mem → Prop) (s : Slots) (M : Mem) : wpC P c42_9 Q s M = w42_9 P Q M (sget s 2) (sget s 3) := by kernel_rfl
def c42_10 : ACode := (.seq c42_9 .ret)
def o42_11 : List AOper := [⟨some 28, (.fieldAddr 7 (.tmp 2)), false, none⟩,
  ⟨some 29, (.load 1 false (.tmp 28)), false, none⟩,
  ⟨some 30, (.fieldAddr 7 (.tmp 3)), false, none⟩,
  ⟨some 31, (.load 1 false (.tmp 30)), false, none⟩,
  ⟨some 32, (.bin .neq .none (.tmp 29) (.tmp 31)), true, none⟩,
  ⟨some 27, (.mov (.tmp 32)), true, none⟩]
def c42_12 : ACode := (.seq (.region o42_11 [2, 3, 27]) (.cond (.tmp 27) c42_10 .skip))
def w42_12 (P : Program) (Q : Exit → Slots → Mem → Prop) (M : Mem) (v2 : V) (v3 : V) : Prop :=
  @OptVH (moveV 7 v2) ⟨fun t28_1 =>
  @OptVH (loadV 1 false t28_1 M) ⟨fun t29_2 =>
  @OptVH (moveV 7 v3) ⟨fun t30_3 =>
  @OptVH (loadV 1 false t30_3 M) ⟨fun t31_4 =>
  @OptBH (binV .neq .none t29_2 t31_4) ⟨fun b32_5 =>
  @BIfH b32_5
  ⟨wpC P c42_10 Q [(2, v2), (3, v3), (27, (.bool b32_5))] M⟩
  ⟨Q .normal [(2, v2), (3, v3), (27, (.bool b32_5))] M⟩⟩⟩⟩⟩⟩
theorem e42_12 (P : Program) (Q : Exit → Slots → Mem → Prop) (s : Slots) (M : Mem) : wpC P c42_12 Q s M = w42_12 P Q M (sget s 2) (sget s 3) := by kernel_rfl
def o42_13 : List AOper := [⟨some 17, (.fieldAddr 6 (.tmp 2)), false, none⟩,
  ⟨some 18, (.load 1 false (.tmp 17)), false, none⟩,
  ⟨some 19, (.fieldAddr 6 (.tmp 3)), false, none⟩,
  ⟨some 20, (.load 1 false (.tmp 19)), false, none⟩,
  ⟨some 21, (.bin .neq .none (.tmp 18) (.tmp 20)), true, none⟩,
  ⟨some 16, (.mov (.tmp 21)), true, none⟩]
def c42_14 : ACode := (.seq (.region o42_13 [2, 3, 16]) (.cond (.tmp 16) c42_7 c42_12))
def w42_14 (P : Program) (Q : Exit → Slots → Mem → Prop) (M : Mem) (v2 : V) (v3 : V) : Prop :=
  @OptVH (moveV 6 v2) ⟨fun t17_1 =>
  @OptVH (loadV 1 false t17_1 M) ⟨fun t18_2 =>
  @OptVH (moveV 6 v3) ⟨fun t19_3 =>
  @OptVH (loadV 1 false t19_3 M) ⟨fun t20_4 =>
  @OptBH (binV .neq .none t18_2 t20_4) ⟨fun b21_5 =>
  @BIfH b21_5
  ⟨wpC P c42_7 Q [(2, v2), (3, v3), (16, (.bool b21_5))] M⟩
  ⟨wpC P c42_12 Q [(2, v2), (3, v3), (16, (.bool b21_5))] M⟩⟩⟩⟩⟩⟩
theorem e42_14 (P : Program) (Q : Exit → Slots → Mem → Prop) (s : Slots) (M : Mem) : wpC P c42_14 Q s M = w42_14 P Q M (sget s 2) (sget s 3) := by kernel_rfl
def o42_15 : List AOper := [⟨some 6, (.fieldAddr 5 (.tmp 2)), false, none⟩,
  ⟨some 7, (.load 1 false (.tmp 6)), false, none⟩,
  ⟨some 8, (.fieldAddr 5 (.tmp 3)), false, none⟩,
  ⟨some 9, (.load 1 false (.tmp 8)), false, none⟩,
  ⟨some 10, (.bin .neq .none (.tmp 7) (.tmp 9)), true, none⟩,
  ⟨some 5, (.mov (.tmp 10)), true, none⟩]
def c42_16 : ACode := (.seq (.region o42_15 [2, 3, 5]) (.cond (.tmp 5) c42_4 c42_14))
def w42_16 (P : Program) (Q : Exit → Slots → Mem → Prop) (M : Mem) (v2 : V) (v3 : V) : Prop :=
  @OptVH (moveV 5 v2) ⟨fun t6_1 =>
  @OptVH (loadV 1 false t6_1 M) ⟨fun t7_2 =>
  @OptVH (moveV 5 v3) ⟨fun t8_3 =>
  @OptVH (loadV 1 false t8_3 M) ⟨fun t9_4 =>
  @OptBH (binV .neq .none t7_2 t9_4) ⟨fun b10_5 =>
  @BIfH b10_5
  ⟨wpC P c42_4 Q [(2, v2), (3, v3), (5, (.bool b10_5))] M⟩
  ⟨wpC P c42_14 Q [(2, v2), (3, v3), (5, (.bool b10_5))] M⟩⟩⟩⟩⟩⟩
theorem e42_16 (P : Program) (Q : Exit → Slots → Mem → Prop) (s : Slots) (M : Mem) : wpC P c42_16 Q s M = w42_16 P Q M (sget s 2) (sget s 3) := by kernel_rfl
def c42_17 : ACode := (.block 0 c42_16)
def o42_18 : List AOper := [⟨some 38, (.fieldAddr 1 (.tmp 2)), false, none⟩,
  ⟨some 39, (.load 1 false (.tmp 38)), false, none⟩,
  ⟨some 40, (.fieldAddr 1 (.tmp 3)), false, none⟩,
  ⟨some 41, (.load 1 false (.tmp 40)), false, none⟩,
  ⟨some 42, (.bin .lss .none (.tmp 39) (.tmp 41)), true, none⟩,
  ⟨some 4, (.mov (.tmp 42)), true, none⟩]
def c42_19 : ACode := (.region o42_18 [4])
def w42_19 (_P : Program) (Q : Exit → Slots → Mem → Prop) (M : Mem) (v2 : V) (v3 : V) : Prop :=
  @OptVH (moveV 1 v2) ⟨fun t38_1 =>
  @OptVH (loadV 1 false t38_1 M) ⟨fun t39_2 =>
  @OptVH (moveV 1 v3) ⟨fun t40_3 =>
  @OptVH (loadV 1 false t40_3 M) ⟨fun t41_4 =>
  @OptBH (binV .lss .none t39_2 t41_4) ⟨fun b42_5 =>
  Q .normal [(4, (.bool b42_5))] M⟩⟩⟩⟩⟩
theorem e42_19 (P : Program) (Q : Exit → Slots → Mem → Prop) (s : Slots) (M : Mem) : wpC P c42_19 Q s M = w42_19 P Q M (sget s 2) (sget s 3) := by kernel_rfl
def c42_20 : ACode := (.seq c42_19 .ret)
def c42_21 : ACode := (.seq c42_17 c42_20)
def c42_22 : ACode := (.seq c42_1 c42_21)
def fn_inbox_before : AFn := ⟨43, [(.tmp 4)], c42_22⟩
theorem fn_inbox_before_ok : resFn PR h_inbox_before i_inbox_before = some fn_inbox_before := by kernel_rfl

def h_inbox_Inbox_Messages_1 : Hints := ⟨[(0, []), (1, [2])], [], []⟩
def o43_0 : List AOper := [⟨some 1, (.box 13 (.tmp 0)), false, none⟩,
  ⟨some 2, (.mov (.const (.bool false))), true, none⟩]
def c43_1 : ACode := (.region o43_0 [])
def w43_1 (_P : Program) (Q : Exit → Slots → Mem → Prop) (M : Mem) (v0 : V) : Prop :=
  @OptMH (boxV 13 v0 M) ⟨fun _t1_1 M1 =>
  Q .normal [] M1⟩
theorem e43_1 (P : Program) (Q : Exit → Slots → Mem → Prop) (s : Slots) (M : Mem) : wpC P c43_1 Q s M = w43_1 P Q M (sget s 0) := by kernel_rfl
def o43_2 : List AOper := [⟨some 2, (.mov (.const (.bool true))), true, none⟩]
def c43_3 : ACode := (.region o43_2 [2])
def w43_3 (_P : Program) (Q : Exit → Slots → Mem → Prop) (M : Mem) : Prop :=
  Q .normal [(2, (.bool true))] M
theorem e43_3 (P : Program) (Q : Exit → Slots → Mem → Prop) (s : Slots) (M : Mem) : wpC P c43_3 Q s M = w43_3 P Q M := by kernel_rfl
def c43_4 : ACode := (.seq c43_3 .ret)
def c43_5 : ACode := (.seq c43_1 c43_4)
def fn_inbox_Inbox_Messages_1 : AFn := ⟨3, [(.tmp 2)], c43_5⟩
theorem fn_inbox_Inbox_Messages_1_ok : resFn PR h_inbox_Inbox_Messages_1 i_inbox_Inbox_Messages_1 = some fn_inbox_Inbox_Messages_1 := by kernel_rfl

def h_inbox_Inbox_exists : Hints := ⟨[(0, [0, 1]), (1, [4])], [], []⟩
def o44_0 : List AOper := [⟨some 4, (.mov (.const (.bool false))), true, none⟩]
def c44_1 : ACode := (.region o44_0 [0, 1])
def w44_1 (_P : Program) (Q : Exit → Slots → Mem → Prop) (M : Mem) (v0 : V) (v1 : V) : Prop :=
  Q .normal [(0, v0), (1, v1)] M
theorem e44_1 (P : Program) (Q : Exit → Slots → Mem → Prop) (s : Slots) (M : Mem) : wpC P c44_1 Q s M = w44_1 P Q M (sget s 0) (sget s 1) := by kernel_rfl
def o44_2 : List AOper := [⟨some 5, (.mov (.tmp 0)), false, none⟩,
  ⟨some 6, (.bin .neq .ptr (.tmp 5) (.const .nilp)), true, none⟩,
  ⟨some 7, (.mov (.tmp 6)), true, none⟩,
  ⟨some 8, (.mov (.tmp 1)), false, some (7, true)⟩,
  ⟨some 9, (.bin .geq .none (.tmp 8) (.const (.int .i64 0))), true, some (7, true)⟩,
  ⟨some 10, (.pick (.tmp 7) (.tmp 9) (.const (.bool false))), true, none⟩,
  ⟨some 11, (.mov (.tmp 10)), true, none⟩,
  ⟨some 12, (.mov (.tmp 1)), false, some (11, true)⟩,
  ⟨some 13, (.mov (.tmp 0)), false, some (11, true)⟩,
  ⟨some 14, (.nilCheck (.tmp 13)), false, some (11, true)⟩,
  ⟨some 15, (.fieldAddr 0 (.tmp 14)), false, some (11, true)⟩,
  ⟨some 16, (.load 1 false (.tmp 15)), false, some (11, true)⟩,
  ⟨some 17, (.lenSl (.tmp 16)), false, some (11, true)⟩,
  ⟨some 18, (.bin .lss .none (.tmp 12) (.tmp 17)), true, some (11, true)⟩,
  ⟨some 19, (.pick (.tmp 11) (.tmp 18) (.const (.bool false))), true, none⟩,
  ⟨some 4, (.mov (.tmp 19)), true, none⟩]
def c44_3 : ACode := (.region o44_2 [4])
def w44_3 (_P : Program) (Q : Exit → Slots → Mem → Prop) (M : Mem) (v0 : V) (v1 : V) : Prop :=
  @OptBH (binV .neq .ptr v0 .nilp) ⟨fun b6_2 =>
  @BIfH b6_2
  ⟨@OptBH (binV .geq .none v1 (.int .i64 0)) ⟨fun b9_5 =>
  @BIfH b9_5
  ⟨@OptVH (nilCheckV v0) ⟨fun t14_10 =>
  @OptVH (moveV 0 t14_10) ⟨fun t15_11 =>
  @OptVH (loadV 1 false t15_11 M) ⟨fun t16_12 =>
  @OptVH (lenV t16_12 M) ⟨fun t17_13 =>
  @OptBH (binV .lss .none v1 t17_13) ⟨fun b18_14 =>
  Q .normal [(4, (.bool b18_14))] M⟩⟩⟩⟩⟩⟩
  ⟨Q .normal [(4, (.bool false))] M⟩⟩⟩
  ⟨Q .normal [(4, (.bool false))] M⟩⟩
theorem e44_3 (P : Program) (Q : Exit → Slots → Mem → Prop) (s : Slots) (M : Mem) : wpC P c44_3 Q s M = w44_3 P Q M (sget s 0) (sget s 1) := by kernel_rfl
def c44_4 : ACode := (.seq c44_3 .ret)
def c44_5 : ACode := (.seq c44_1 c44_4)
def fn_inbox_Inbox_exists : AFn := ⟨20, [(.tmp 4)], c44_5⟩
theorem fn_inbox_Inbox_exists_ok : resFn PR h_inbox_Inbox_exists i_inbox_Inbox_exists = some fn_inbox_Inbox_exists := by kernel_rfl

def h_inbox_heard_silent : Hints := ⟨[(0, [0, 1, 2]), (1, [6])], [], []⟩
def o45_0 : List AOper := [⟨some 6, (.mov (.const (.bool false))), true, none⟩]
def c45_1 : ACode := (.region o45_0 [0, 1, 2])
def w45_1 (_P : Program) (Q : Exit → Slots → Mem → Prop) (M : Mem) (v0 : V) (v1 : V) (v2 : V) : Prop :=
  Q .normal [(0, v0), (1, v1), (2, v2)] M
theorem e45_1 (P : Program) (Q : Exit → Slots → Mem → Prop) (s : Slots) (M : Mem) : wpC P c45_1 Q s M = w45_1 P Q M (sget s 0) (sget s 1) (sget s 2) := by kernel_rfl
def o45_2 : List AOper := [⟨some 7, (.mov (.tmp 0)), false, none⟩,
  ⟨some 8, (.nilCheck (.tmp 7)), false, none⟩,
  ⟨some 9, (.fieldAddr 0 (.tmp 8)), false, none⟩,
  ⟨some 10, (.load 1 false (.tmp 9)), true, none⟩,
  ⟨some 11, (.un .not (.tmp 10)), true, none⟩,
  ⟨some 12, (.mov (.tmp 11)), true, none⟩,
  ⟨some 13, (.mov (.tmp 1)), false, some (12, false)⟩,
  ⟨some 14, (.mov (.tmp 0)), false, some (12, false)⟩,
  ⟨some 15, (.nilCheck (.tmp 14)), false, some (12, false)⟩,
  ⟨some 16, (.fieldAddr 1 (.tmp 15)), false, some (12, false)⟩,
  ⟨some 17, (.load 1 false (.tmp 16)), false, some (12, false)⟩,
  ⟨some 18, (.bin .gtr .none (.tmp 13) (.tmp 17)), true, some (12, false)⟩,
  ⟨some 19, (.mov (.tmp 18)), true, some (12, false)⟩,
  ⟨some 20, (.mov (.tmp 1)), false, some (19, true)⟩,
  ⟨some 21, (.conv .u64 (.tmp 20)), false, some (19, true)⟩,
  ⟨some 22, (.mov (.tmp 0)), false, some (19, true)⟩,
  ⟨some 23, (.nilCheck (.tmp 22)), false, some (19, true)⟩,
  ⟨some 24, (.fieldAddr 1 (.tmp 23)), false, some (19, true)⟩,
  ⟨some 25, (.load 1 false (.tmp 24)), false, some (19, true)⟩,
  ⟨some 26, (.conv .u64 (.tmp 25)), false, some (19, true)⟩,
  ⟨some 27, (.bin .sub .none (.tmp 21) (.tmp 26)), false, some (19, true)⟩,
  ⟨some 28, (.mov (.tmp 2)), false, some (19, true)⟩,
  ⟨some 29, (.conv .u64 (.tmp 28)), false, some (19, true)⟩,
  ⟨some 30, (.bin .gtr .none (.tmp 27) (.tmp 29)), true, some (19, true)⟩,
  ⟨some 31, (.pick (.tmp 19) (.tmp 30) (.const (.bool false))), true, some (12, false)⟩,
  ⟨some 32, (.pick (.tmp 12) (.const (.bool true)) (.tmp 31)), true, none⟩,
  ⟨some 6, (.mov (.tmp 32)), true, none⟩]
def c45_3 : ACode := (.region o45_2 [6])
def w45_3 (_P : Program) (Q : Exit → Slots → Mem → Prop) (M : Mem) (v0 : V) (v1 : V) (v2 : V) : Prop :=
  @OptVH (nilCheckV v0) ⟨fun t8_2 =>
  @OptVH (moveV 0 t8_2) ⟨fun t9_3 =>
  @OptBH (loadV 1 false t9_3 M) ⟨fun b10_4 =>
  @OptBH (unV .not (.bool b10_4)) ⟨fun b11_5 =>
  @BIfH b11_5
  ⟨Q .normal [(6, (.bool true))] M⟩
  ⟨@OptVH (nilCheckV v0) ⟨fun t15_11 =>
  @OptVH (moveV 1 t15_11) ⟨fun t16_12 =>
  @OptVH (loadV 1 false t16_12 M) ⟨fun t17_13 =>
  @OptBH (binV .gtr .none v1 t17_13) ⟨fun b18_14 =>
  @BIfH b18_14
  ⟨@OptVH (convV .u64 v1) ⟨fun t21_17 =>
  @OptVH (nilCheckV v0) ⟨fun t23_19 =>
  @OptVH (moveV 1 t23_19) ⟨fun t24_20 =>
  @OptVH (loadV 1 false t24_20 M) ⟨fun t25_21 =>
  @OptVH (convV .u64 t25_21) ⟨fun t26_22 =>
  @OptVH (binV .sub .none t21_17 t26_22) ⟨fun t27_23 =>
  @OptVH (convV .u64 v2) ⟨fun t29_25 =>
  @OptBH (binV .gtr .none t27_23 t29_25) ⟨fun b30_26 =>
  Q .normal [(6, (.bool b30_26))] M⟩⟩⟩⟩⟩⟩⟩⟩⟩
  ⟨Q .normal [(6, (.bool false))] M⟩⟩⟩⟩⟩⟩⟩⟩⟩⟩
theorem e45_3 (P : Program) (Q : Exit → Slots → Mem → Prop) (s : Slots) (M : Mem) : wpC P c45_3 Q s M = w45_3 P Q M (sget s 0) (sget s 1) (sget s 2) := by kernel_rfl
def c45_4 : ACode := (.seq c45_3 .ret)
def c45_5 : ACode := (.seq c45_1 c45_4)
def fn_inbox_heard_silent : AFn := ⟨33, [(.tmp 6)], c45_5⟩
theorem fn_inbox_heard_silent_ok : resFn PR h_inbox_heard_silent i_inbox_heard_silent = some fn_inbox_heard_silent := by kernel_rfl

def h_transitref32_moment : Hints := ⟨[(0, [0]), (1, [2])], [], []⟩
def o46_0 : List AOper := [⟨some 2, (.mov (.const (.bool false))), true, none⟩]
def c46_1 : ACode := (.region o46_0 [0])
def w46_1 (_P : Program) (Q : Exit → Slots → Mem → Prop) (M : Mem) (v0 : V) : Prop :=
  Q .normal [(0, v0)] M
theorem e46_1 (P : Program) (Q : Exit → Slots → Mem → Prop) (s : Slots) (M : Mem) : wpC P c46_1 Q s M = w46_1 P Q M (sget s 0) := by kernel_rfl
def o46_2 : List AOper := [⟨some 3, (.mov (.tmp 0)), false, none⟩,
  ⟨some 4, (.bin .geq .none (.tmp 3) (.const (.int .i64 0))), true, none⟩,
  ⟨some 5, (.mov (.tmp 4)), true, none⟩,
  ⟨some 6, (.mov (.tmp 0)), false, some (5, true)⟩,
  ⟨some 7, (.bin .leq .none (.tmp 6) (.const (.int .i64 3155932800))), true, some (5, true)⟩,
  ⟨some 8, (.pick (.tmp 5) (.tmp 7) (.const (.bool false))), true, none⟩,
  ⟨some 2, (.mov (.tmp 8)), true, none⟩]
def c46_3 : ACode := (.region o46_2 [2])
def w46_3 (_P : Program) (Q : Exit → Slots → Mem → Prop) (M : Mem) (v0 : V) : Prop :=
  @OptBH (binV .geq .none v0 (.int .i64 0)) ⟨fun b4_2 =>
  @BIfH b4_2
  ⟨@OptBH (binV .leq .none v0 (.int .i64 3155932800)) ⟨fun b7_5 =>
  Q .normal [(2, (.bool b7_5))] M⟩⟩
  ⟨Q .normal [(2, (.bool false))] M⟩⟩
theorem e46_3 (P : Program) (Q : Exit → Slots → Mem → Prop) (s : Slots) (M : Mem) : wpC P c46_3 Q s M = w46_3 P Q M (sget s 0) := by kernel_rfl
def c46_4 : ACode := (.seq c46_3 .ret)
def c46_5 : ACode := (.seq c46_1 c46_4)
def fn_transitref32_moment : AFn := ⟨9, [(.tmp 2)], c46_5⟩
theorem fn_transitref32_moment_ok : resFn PR h_transitref32_moment i_transitref32_moment = some fn_transitref32_moment := by kernel_rfl

end Go.Vm.C
