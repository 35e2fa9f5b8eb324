/- The abstract code of the functions that the statements reach, printed by a program, each with the equation that it is what the loaded program says. Part 2. -/
import Derived.Test.YtfjihilnldjbeaaC1
namespace Go.Vm.C
open Go.Vm
def h_transitref35_within : Hints := ⟨[(0, [0, 1, 2]), (1, [0, 1, 2, 9]), (2, [6]), (3, [6])], [], []⟩
def o52_0 : List AOper := [⟨some 6, (.mov (.const (.bool false))), true, none⟩]
def c52_1 : ACode := (.region o52_0 [0, 1, 2])
def w52_1 (_P : Program) (Q : Exit → Slots → Mem → Prop) (M : Mem) (v0 : V) (v1 : V) (v2 : V) : Prop :=
  Q .normal [(0, v0), (1, v1), (2, v2)] M
theorem e52_1 (P : Program) (Q : Exit → Slots → Mem → Prop) (s : Slots) (M : Mem) : wpC P c52_1 Q s M = w52_1 P Q M (sget s 0) (sget s 1) (sget s 2) := by kernel_rfl
def o52_2 : List AOper := [⟨some 6, (.mov (.const (.bool true))), true, none⟩]
def c52_3 : ACode := (.region o52_2 [6])
def w52_3 (_P : Program) (Q : Exit → Slots → Mem → Prop) (M : Mem) : Prop :=
  Q .normal [(6, (.bool true))] M
theorem e52_3 (P : Program) (Q : Exit → Slots → Mem → Prop) (s : Slots) (M : Mem) : wpC P c52_3 Q s M = w52_3 P Q M := by kernel_rfl
def c52_4 : ACode := (.seq c52_3 .ret)
def o52_5 : List AOper := [⟨some 7, (.mov (.tmp 1)), false, none⟩,
  ⟨some 8, (.mov (.tmp 0)), false, none⟩,
  ⟨some 9, (.bin .leq .none (.tmp 7) (.tmp 8)), true, none⟩]
def c52_6 : ACode := (.seq (.region o52_5 [0, 1, 2, 9]) (.cond (.tmp 9) c52_4 .skip))
def w52_6 (P : Program) (Q : Exit → Slots → Mem → Prop) (M : Mem) (v0 : V) (v1 : V) (v2 : V) : Prop :=
  @OptBH (binV .leq .none v1 v0) ⟨fun b9_3 =>
  @BIfH b9_3
  ⟨wpC P c52_4 Q [(0, v0), (1, v1), (2, v2), (9, (.bool b9_3))] M⟩
  ⟨Q .normal [(0, v0), (1, v1), (2, v2), (9, (.bool b9_3))] M⟩⟩
theorem e52_6 (P : Program) (Q : Exit → Slots → Mem → Prop) (s : Slots) (M : Mem) : wpC P c52_6 Q s M = w52_6 P Q M (sget s 0) (sget s 1) (sget s 2) := by kernel_rfl
def o52_7 : List AOper := [⟨some 10, (.mov (.tmp 1)), false, none⟩,
  ⟨some 11, (.conv .u64 (.tmp 10)), false, none⟩,
  ⟨some 12, (.mov (.tmp 0)), false, none⟩,
  ⟨some 13, (.conv .u64 (.tmp 12)), false, none⟩,
  ⟨some 14, (.bin .sub .none (.tmp 11) (.tmp 13)), false, none⟩,
  ⟨some 15, (.mov (.tmp 2)), false, none⟩,
  ⟨some 16, (.conv .u64 (.tmp 15)), false, none⟩,
  ⟨some 17, (.bin .leq .none (.tmp 14) (.tmp 16)), true, none⟩,
  ⟨some 6, (.mov (.tmp 17)), true, none⟩]
def c52_8 : ACode := (.region o52_7 [6])
def w52_8 (_P : Program) (Q : Exit → Slots → Mem → Prop) (M : Mem) (v0 : V) (v1 : V) (v2 : V) : Prop :=
  @OptVH (convV .u64 v1) ⟨fun t11_2 =>
  @OptVH (convV .u64 v0) ⟨fun t13_4 =>
  @OptVH (binV .sub .none t11_2 t13_4) ⟨fun t14_5 =>
  @OptVH (convV .u64 v2) ⟨fun t16_7 =>
  @OptBH (binV .leq .none t14_5 t16_7) ⟨fun b17_8 =>
  Q .normal [(6, (.bool b17_8))] M⟩⟩⟩⟩⟩
theorem e52_8 (P : Program) (Q : Exit → Slots → Mem → Prop) (s : Slots) (M : Mem) : wpC P c52_8 Q s M = w52_8 P Q M (sget s 0) (sget s 1) (sget s 2) := by kernel_rfl
def c52_9 : ACode := (.seq c52_8 .ret)
def c52_10 : ACode := (.seq c52_6 c52_9)
def c52_11 : ACode := (.seq c52_1 c52_10)
def fn_transitref35_within : AFn := ⟨18, [(.tmp 6)], c52_11⟩
theorem fn_transitref35_within_ok : resFn PR h_transitref35_within i_transitref35_within = some fn_transitref35_within := by kernel_rfl

def tabL : List (Nat × AFn × Bool) := [(3, fn_transitlaw36_FarestateStarts, false), (4, fn_transitlaw36_FarestateLimits, false), (5, fn_transitlaw36_FarestateExact, false), (6, fn_transitlaw36_FarestateBranches, false), (7, fn_transitlaw36_FarestateDominates, false), (8, fn_transitlaw36_FarestateEquals, false), (9, fn_transitlaw36_FarestateJoins, false), (10, fn_transitlaw36_small, false), (11, fn_transitlaw36_exampleHolds, false), (12, fn_farestate_Start, false), (13, fn_transitref35_Valid, false), (14, fn_farestate_State_Price, false), (15, fn_farestate_State_Rides, false), (16, fn_farestate_State_Ride, false), (17, fn_transitlaw36_made, false), (18, fn_transitref36_Price, false), (19, fn_farestate_State_Dominates, false), (20, fn_transitref36_Holds, false), (21, fn_transitlaw36_same, false), (22, fn_transitlaw36_example, false), (23, fn_product_Check, false), (24, fn_transitref26_Fares, false), (25, fn_farestate_State_list, false), (26, fn_product_Covers, false), (27, fn_farestate_State_price, false), (28, fn_transitref35_Price, false), (29, fn_farestate_sameFares, false), (30, fn_farestate_closedBetter, false), (31, fn_farestate_State_tickets, false), (32, fn_farestate_open_replaces, false), (33, fn_transitref36_joined, false), (34, fn_product_within, false), (35, fn_ident_Valid, false), (36, fn_transitref26_in, false), (37, fn_transitref26_ValidID, false), (38, fn_product_later, false), (39, fn_product_Covers_1, false), (40, fn_bitset_Set_Union, false), (41, fn_bitset_Set_Len, false), (42, fn_bitset_Set_Within, false), (43, fn_farestate_within, false), (44, fn_transitref35_Best, false), (45, fn_transitref35_Capped, false), (46, fn_transitref35_Sum, false), (47, fn_math_bits_OnesCount64, false), (48, fn_transitref35_Covers, false), (49, fn_transitref35_Ticket, false), (50, fn_transitref35_better, false), (51, fn_transitref35_bits, false), (52, fn_transitref35_within, false)]
theorem tab_ok : TabOK PR (tabOf tabL) := tabOf_cons fn_transitlaw36_FarestateStarts_ok (tabOf_cons fn_transitlaw36_FarestateLimits_ok (tabOf_cons fn_transitlaw36_FarestateExact_ok (tabOf_cons fn_transitlaw36_FarestateBranches_ok (tabOf_cons fn_transitlaw36_FarestateDominates_ok (tabOf_cons fn_transitlaw36_FarestateEquals_ok (tabOf_cons fn_transitlaw36_FarestateJoins_ok (tabOf_cons fn_transitlaw36_small_ok (tabOf_cons fn_transitlaw36_exampleHolds_ok (tabOf_cons fn_farestate_Start_ok (tabOf_cons fn_transitref35_Valid_ok (tabOf_cons fn_farestate_State_Price_ok (tabOf_cons fn_farestate_State_Rides_ok (tabOf_cons fn_farestate_State_Ride_ok (tabOf_cons fn_transitlaw36_made_ok (tabOf_cons fn_transitref36_Price_ok (tabOf_cons fn_farestate_State_Dominates_ok (tabOf_cons fn_transitref36_Holds_ok (tabOf_cons fn_transitlaw36_same_ok (tabOf_cons fn_transitlaw36_example_ok (tabOf_cons fn_product_Check_ok (tabOf_cons fn_transitref26_Fares_ok (tabOf_cons fn_farestate_State_list_ok (tabOf_cons fn_product_Covers_ok (tabOf_cons fn_farestate_State_price_ok (tabOf_cons fn_transitref35_Price_ok (tabOf_cons fn_farestate_sameFares_ok (tabOf_cons fn_farestate_closedBetter_ok (tabOf_cons fn_farestate_State_tickets_ok (tabOf_cons fn_farestate_open_replaces_ok (tabOf_cons fn_transitref36_joined_ok (tabOf_cons fn_product_within_ok (tabOf_cons fn_ident_Valid_ok (tabOf_cons fn_transitref26_in_ok (tabOf_cons fn_transitref26_ValidID_ok (tabOf_cons fn_product_later_ok (tabOf_cons fn_product_Covers_1_ok (tabOf_cons fn_bitset_Set_Union_ok (tabOf_cons fn_bitset_Set_Len_ok (tabOf_cons fn_bitset_Set_Within_ok (tabOf_cons fn_farestate_within_ok (tabOf_cons fn_transitref35_Best_ok (tabOf_cons fn_transitref35_Capped_ok (tabOf_cons fn_transitref35_Sum_ok (tabOf_cons fn_math_bits_OnesCount64_ok (tabOf_cons fn_transitref35_Covers_ok (tabOf_cons fn_transitref35_Ticket_ok (tabOf_cons fn_transitref35_better_ok (tabOf_cons fn_transitref35_bits_ok (tabOf_cons fn_transitref35_within_ok (tabOf_nil))))))))))))))))))))))))))))))))))))))))))))))))))

end Go.Vm.C
