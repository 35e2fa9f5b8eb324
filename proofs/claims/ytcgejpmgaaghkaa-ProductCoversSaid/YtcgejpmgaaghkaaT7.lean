/- The statement ProductCovers. -/
import Derived.Test.YtcgejpmgaaghkaaT6

namespace Go.Vm.C
open Go.Vm
set_option maxHeartbeats 1000000
set_option maxRecDepth 10000
set_option linter.unusedSimpArgs false
set_option linter.unusedVariables false

/-! ### Parts of the rides, and wider products -/
theorem foldBit (g : Ride → Int) (n : Nat) : ∀ (l : List Ride) (a : Nat), (l.foldl (fun a r => a ||| bset (g r)) a).testBit n = (a.testBit n || l.any (fun r => (bset (g r)).testBit n))
  | [], a => by simp
  | r :: l, a => by rw [List.foldl_cons, foldBit g n l, Nat.testBit_or, List.any_cons, Bool.or_assoc]
theorem zones_bit (l : List Ride) (n : Nat) : (zonesOf l).testBit n = l.any (fun r => (bset r.zones).testBit n) := by rw [zonesOf, foldBit (·.zones)]; simp
theorem modes_bit (l : List Ride) (n : Nat) : (modesOf l).testBit n = l.any (fun r => (bset r.modes).testBit n) := by rw [modesOf, foldBit (·.modes)]; simp
theorem any_sub {A B : List Ride} (h : ∀ r ∈ B, r ∈ A) {p : Ride → Bool} (hb : B.any p = true) : A.any p = true := by
  obtain ⟨r, h1, h2⟩ := List.any_eq_true.1 hb
  exact List.any_eq_true.2 ⟨r, h r h1, h2⟩
theorem pop_mono {a b : Nat} (h : ∀ n, a.testBit n = true → b.testBit n = true) : pop 64 a ≤ pop 64 b := by
  rw [pop_eq, pop_eq]
  exact List.countP_mono_left fun n _ => h n
theorem minus_none {a b m : Nat} (h : ∀ n, a.testBit n = true → b.testBit n = true) (hb : minus b m = 0) : minus a m = 0 := by
  apply Nat.eq_of_testBit_eq
  intro n
  have := congrArg (fun x => x.testBit n) hb
  simp only [minus_bit, Nat.zero_testBit] at this ⊢
  cases ha : a.testBit n with
  | false => rfl
  | true => rw [h n ha] at this; exact this

theorem covers_iff {p : Product} {l : List Ride} : covers p l = true ↔ 0 < l.length ∧ (l.length : Int) ≤ p.rides ∧ spanOf l ≤ p.seconds ∧ (pop 64 (zonesOf l) : Int) ≤ p.zones ∧ minus (modesOf l) (bset p.modes) = 0 := by
  simp only [covers, Bool.and_eq_true, decide_eq_true_eq]

/-- Fewer rides are covered too. -/
theorem covers_sub {p : Product} {A B : List Ride} (h : covers p A = true) (h0 : 0 < B.length) (hl : B.length ≤ A.length) (hm : ∀ r ∈ B, r ∈ A) (hs : spanOf B ≤ p.seconds) : covers p B = true := by
  obtain ⟨_, h2, _, h4, h5⟩ := covers_iff.1 h
  have hz : pop 64 (zonesOf B) ≤ pop 64 (zonesOf A) := pop_mono fun n hn => by rw [zones_bit] at hn ⊢; exact any_sub hm hn
  refine covers_iff.2 ⟨h0, by omega, hs, by omega, minus_none (fun n hn => ?_) h5⟩
  rw [modes_bit] at hn ⊢; exact any_sub hm hn

/-- The rides depart in the order of time. -/
def Sorted (l : List Ride) : Prop := ∀ i a b, l[i]? = some a → l[i + 1]? = some b → a.depart ≤ b.depart
theorem Sorted.le {l : List Ride} (h : Sorted l) : ∀ (m i : Nat) (a b : Ride), l[i]? = some a → l[i + m]? = some b → a.depart ≤ b.depart
  | 0, i, a, b, ha, hb => by rw [Nat.add_zero, ha] at hb; simp at hb; subst hb; exact Int.le_refl _
  | m + 1, i, a, b, ha, hb => by
    have hlt : i + m + 1 < l.length := (List.getElem?_eq_some_iff.1 hb).1
    have hx : l[i + m]? = some l[i + m] := by simp
    have h1 := h.le m i a _ ha hx
    have h2 := h (i + m) _ b hx hb
    omega


/-- The rides from i up to k. -/
def sub (l : List Ride) (i k : Nat) : List Ride := (l.drop i).take (k - i)
theorem sub_len {l : List Ride} {i k : Nat} (h : k ≤ l.length) : (sub l i k).length = k - i := by simp [sub]; omega
theorem sub_get {l : List Ride} {i k j : Nat} (h : j < k - i) : (sub l i k)[j]? = l[i + j]? := by rw [sub, List.getElem?_take_of_lt h, List.getElem?_drop]
theorem sub_mem {l : List Ride} {i k : Nat} {r : Ride} (h : r ∈ sub l i k) : r ∈ l := List.mem_of_mem_drop (List.mem_of_mem_take h)
theorem covers_part {p : Product} {l : List Ride} {i k : Nat} (hs : Sorted l) (h : covers p l = true) (hik : i < k) (hk : k ≤ l.length) : covers p (sub l i k) = true := by
  obtain ⟨a, ha⟩ : ∃ a, l[i]? = some a := ⟨l[i], by simp⟩
  obtain ⟨b, hb⟩ : ∃ b, l[k - 1]? = some b := ⟨l[k - 1], by simp⟩
  obtain ⟨a', ha'⟩ : ∃ a, l[0]? = some a := ⟨l[0], by simp⟩
  obtain ⟨b', hb'⟩ : ∃ b, l[l.length - 1]? = some b := ⟨l[l.length - 1], by simp⟩
  have hlen := sub_len (i := i) hk
  have e1 : spanOf (sub l i k) = b.depart - a.depart := by
    have g1 : (sub l i k)[0]? = some a := by rw [sub_get (by omega), Nat.add_zero, ha]
    have g2 : (sub l i k)[(sub l i k).length - 1]? = some b := by rw [hlen, sub_get (by omega), show i + (k - i - 1) = k - 1 from by omega, hb]
    simp only [spanOf, g1, g2]
  have e2 : spanOf l = b'.depart - a'.depart := by simp only [spanOf, ha', hb']
  have e3 := hs.le i 0 a' a ha' (by rw [Nat.zero_add, ha])
  have e4 := hs.le (l.length - k) (k - 1) b b' hb (by rw [show k - 1 + (l.length - k) = l.length - 1 from by omega, hb'])
  have e5 := (covers_iff.1 h).2.2.1
  exact covers_sub h (by omega) (by omega) (fun r hr => sub_mem hr) (by omega)
theorem covers_more {p q : Product} {l : List Ride} (h : covers p l = true) (h1 : p.rides ≤ q.rides) (h2 : p.zones ≤ q.zones) (h3 : p.seconds ≤ q.seconds) (h4 : q.modes = p.modes) : covers q l = true := by
  obtain ⟨k1, k2, k3, k4, k5⟩ := covers_iff.1 h
  exact covers_iff.2 ⟨k1, by omega, by omega, by omega, by rw [h4]; exact k5⟩
theorem slice_sub (l : List Ride) (c : Cap) (i k : Nat) (M : Mem) (h1 : i ≤ k) (h2 : k ≤ l.length) : ∃ c', sliceV 4 (.slice (l.map Ride.row) c) (some (.int .i64 (i : Int))) (some (.int .i64 (k : Int))) none M = some (.slice ((sub l i k).map Ride.row) c') := by
  rw [slice_lh 4 _ c .i64 .i64 i k M (by omega) (by omega) (by simpa using h2) (headLen_map (f := Ride.row) (n := 4) (fun _ => rfl) l)]
  exact ⟨_, by rw [sub, List.map_take, List.map_drop]; rfl⟩

theorem Covers_tail (p q : Product) (l : List Ride) (c : Cap) (hp : p.wf) (hq : q.wf) (hl : ∀ r ∈ l, r.wf) (hlen : l.length ≤ 40) (hs : Sorted l) (hc : covers p l = true) (hcq : ∀ m, covers p m = true → covers q m = true)
    (Q : Exit → Slots → Mem → Prop) (hQ : Q .ret [(6, .bool true)] [.box p.row, .box q.row]) : ∀ s, sget s 1 = .slice (l.map Ride.row) c → sget s 3 = .ptr 0 0 → sget s 8 = .ptr 1 0 → wpC PR c7_68 Q s [.box p.row, .box q.row] := by
  have hm : maxLen = 9223372036854775807 := by rfl
  intro s g1 g3 g8
  obtain ⟨k1, k2, _⟩ := covers_iff.1 hc
  simp -implicitDefEqProofs (disch := omega) only [go_sem, Nat.reduceAdd, Nat.reduceMul, Nat.reduceSub, Nat.reduceBEq, Nat.reduceLeDiff, Nat.reduceLT, fn_transitlaw21_ProductCovers, e7_1, w7_1, e7_3, w7_3, c7_4, e7_6, w7_6, e7_8, w7_8, e7_10, w7_10, e7_12, w7_12, c7_13, e7_15, w7_15, c7_16, e7_18, w7_18, c7_19, c7_20, c7_21, c7_22, c7_23, e7_25, w7_25, e7_27, w7_27, e7_29, w7_29, e7_31, w7_31, c7_32, e7_34, w7_34, e7_36, w7_36, e7_38, w7_38, e7_40, w7_40, e7_42, w7_42, e7_44, w7_44, c7_45, e7_47, w7_47, c7_48, e7_50, w7_50, c7_51, c7_52, c7_53, c7_54, c7_55, c7_56, e7_58, w7_58, c7_59, c7_60, c7_61, c7_62, c7_63, e7_65, w7_65, c7_66, c7_67, c7_68, c7_69, c7_70, c7_71, c7_72, c7_73, g1, g3, g8]
  refine ifD (fun h => ?_) (fun h => ?_)
  · omega
  simp -implicitDefEqProofs (disch := omega) only [go_sem, Nat.reduceAdd, Nat.reduceMul, Nat.reduceSub, Nat.reduceBEq, Nat.reduceLeDiff, Nat.reduceLT, fn_transitlaw21_ProductCovers, e7_1, w7_1, e7_3, w7_3, c7_4, e7_6, w7_6, e7_8, w7_8, e7_10, w7_10, e7_12, w7_12, c7_13, e7_15, w7_15, c7_16, e7_18, w7_18, c7_19, c7_20, c7_21, c7_22, c7_23, e7_25, w7_25, e7_27, w7_27, e7_29, w7_29, e7_31, w7_31, c7_32, e7_34, w7_34, e7_36, w7_36, e7_38, w7_38, e7_40, w7_40, e7_42, w7_42, e7_44, w7_44, c7_45, e7_47, w7_47, c7_48, e7_50, w7_50, c7_51, c7_52, c7_53, c7_54, c7_55, c7_56, e7_58, w7_58, c7_59, c7_60, c7_61, c7_62, c7_63, e7_65, w7_65, c7_66, c7_67, c7_68, c7_69, c7_70, c7_71, c7_72, c7_73, g1, g3, g8, Product.row]
  refine ifD (fun h' => ?_) (fun h' => ?_)
  · omega
  simp -implicitDefEqProofs (disch := omega) only [go_sem, Nat.reduceAdd, Nat.reduceMul, Nat.reduceSub, Nat.reduceBEq, Nat.reduceLeDiff, Nat.reduceLT, fn_transitlaw21_ProductCovers, e7_1, w7_1, e7_3, w7_3, c7_4, e7_6, w7_6, e7_8, w7_8, e7_10, w7_10, e7_12, w7_12, c7_13, e7_15, w7_15, c7_16, e7_18, w7_18, c7_19, c7_20, c7_21, c7_22, c7_23, e7_25, w7_25, e7_27, w7_27, e7_29, w7_29, e7_31, w7_31, c7_32, e7_34, w7_34, e7_36, w7_36, e7_38, w7_38, e7_40, w7_40, e7_42, w7_42, e7_44, w7_44, c7_45, e7_47, w7_47, c7_48, e7_50, w7_50, c7_51, c7_52, c7_53, c7_54, c7_55, c7_56, e7_58, w7_58, c7_59, c7_60, c7_61, c7_62, c7_63, e7_65, w7_65, c7_66, c7_67, c7_68, c7_69, c7_70, c7_71, c7_72, c7_73, g1, g3, g8]
  refine wpC_for l.length (fun i vs M => vs = [.slice (l.map Ride.row) c, .ptr 0 0, .ptr 1 0, .int .i64 i] ∧ M = [.box p.row, .box q.row]) ⟨rfl, rfl⟩ ?_ ?_
  rotate_left
  · rintro vs M ⟨rfl, rfl⟩
    simp -implicitDefEqProofs (disch := omega) only [go_sem, Nat.reduceAdd, Nat.reduceMul, Nat.reduceSub, Nat.reduceBEq, Nat.reduceLeDiff, Nat.reduceLT, fn_transitlaw21_ProductCovers, e7_1, w7_1, e7_3, w7_3, c7_4, e7_6, w7_6, e7_8, w7_8, e7_10, w7_10, e7_12, w7_12, c7_13, e7_15, w7_15, c7_16, e7_18, w7_18, c7_19, c7_20, c7_21, c7_22, c7_23, e7_25, w7_25, e7_27, w7_27, e7_29, w7_29, e7_31, w7_31, c7_32, e7_34, w7_34, e7_36, w7_36, e7_38, w7_38, e7_40, w7_40, e7_42, w7_42, e7_44, w7_44, c7_45, e7_47, w7_47, c7_48, e7_50, w7_50, c7_51, c7_52, c7_53, c7_54, c7_55, c7_56, e7_58, w7_58, c7_59, c7_60, c7_61, c7_62, c7_63, e7_65, w7_65, c7_66, c7_67, c7_68, c7_69, c7_70, c7_71, c7_72, c7_73, dec_irrefl]
    first | refine callD (example_ok) ?_ | refine callQD (example_ok) ?_
    simp -implicitDefEqProofs (disch := omega) only [go_sem, Nat.reduceAdd, Nat.reduceMul, Nat.reduceSub, Nat.reduceBEq, Nat.reduceLeDiff, Nat.reduceLT, fn_transitlaw21_ProductCovers, e7_1, w7_1, e7_3, w7_3, c7_4, e7_6, w7_6, e7_8, w7_8, e7_10, w7_10, e7_12, w7_12, c7_13, e7_15, w7_15, c7_16, e7_18, w7_18, c7_19, c7_20, c7_21, c7_22, c7_23, e7_25, w7_25, e7_27, w7_27, e7_29, w7_29, e7_31, w7_31, c7_32, e7_34, w7_34, e7_36, w7_36, e7_38, w7_38, e7_40, w7_40, e7_42, w7_42, e7_44, w7_44, c7_45, e7_47, w7_47, c7_48, e7_50, w7_50, c7_51, c7_52, c7_53, c7_54, c7_55, c7_56, e7_58, w7_58, c7_59, c7_60, c7_61, c7_62, c7_63, e7_65, w7_65, c7_66, c7_67, c7_68, c7_69, c7_70, c7_71, c7_72, c7_73]
    exact hQ
  rintro i vs M hi hd ⟨rfl, rfl⟩
  simp -implicitDefEqProofs (disch := omega) only [go_sem, Nat.reduceAdd, Nat.reduceMul, Nat.reduceSub, Nat.reduceBEq, Nat.reduceLeDiff, Nat.reduceLT, fn_transitlaw21_ProductCovers, e7_1, w7_1, e7_3, w7_3, c7_4, e7_6, w7_6, e7_8, w7_8, e7_10, w7_10, e7_12, w7_12, c7_13, e7_15, w7_15, c7_16, e7_18, w7_18, c7_19, c7_20, c7_21, c7_22, c7_23, e7_25, w7_25, e7_27, w7_27, e7_29, w7_29, e7_31, w7_31, c7_32, e7_34, w7_34, e7_36, w7_36, e7_38, w7_38, e7_40, w7_40, e7_42, w7_42, e7_44, w7_44, c7_45, e7_47, w7_47, c7_48, e7_50, w7_50, c7_51, c7_52, c7_53, c7_54, c7_55, c7_56, e7_58, w7_58, c7_59, c7_60, c7_61, c7_62, c7_63, e7_65, w7_65, c7_66, c7_67, c7_68, c7_69, c7_70, c7_71, c7_72, c7_73, hd]
  refine wpC_for (l.length - i) (fun j vs M => vs = [.slice (l.map Ride.row) c, .ptr 0 0, .ptr 1 0, .int .i64 i, .int .i64 ((i + 1 + j : Nat) : Int)] ∧ M = [.box p.row, .box q.row]) ⟨rfl, rfl⟩ ?_ ?_
  rotate_left
  · rintro vs M ⟨rfl, rfl⟩
    simp -implicitDefEqProofs (disch := omega) only [go_sem, Nat.reduceAdd, Nat.reduceMul, Nat.reduceSub, Nat.reduceBEq, Nat.reduceLeDiff, Nat.reduceLT, fn_transitlaw21_ProductCovers, e7_1, w7_1, e7_3, w7_3, c7_4, e7_6, w7_6, e7_8, w7_8, e7_10, w7_10, e7_12, w7_12, c7_13, e7_15, w7_15, c7_16, e7_18, w7_18, c7_19, c7_20, c7_21, c7_22, c7_23, e7_25, w7_25, e7_27, w7_27, e7_29, w7_29, e7_31, w7_31, c7_32, e7_34, w7_34, e7_36, w7_36, e7_38, w7_38, e7_40, w7_40, e7_42, w7_42, e7_44, w7_44, c7_45, e7_47, w7_47, c7_48, e7_50, w7_50, c7_51, c7_52, c7_53, c7_54, c7_55, c7_56, e7_58, w7_58, c7_59, c7_60, c7_61, c7_62, c7_63, e7_65, w7_65, c7_66, c7_67, c7_68, c7_69, c7_70, c7_71, c7_72, c7_73]
    refine ifD (fun h => ?_) (fun h => ?_)
    · omega
    simp -implicitDefEqProofs (disch := omega) only [go_sem, Nat.reduceAdd, Nat.reduceMul, Nat.reduceSub, Nat.reduceBEq, Nat.reduceLeDiff, Nat.reduceLT, fn_transitlaw21_ProductCovers, e7_1, w7_1, e7_3, w7_3, c7_4, e7_6, w7_6, e7_8, w7_8, e7_10, w7_10, e7_12, w7_12, c7_13, e7_15, w7_15, c7_16, e7_18, w7_18, c7_19, c7_20, c7_21, c7_22, c7_23, e7_25, w7_25, e7_27, w7_27, e7_29, w7_29, e7_31, w7_31, c7_32, e7_34, w7_34, e7_36, w7_36, e7_38, w7_38, e7_40, w7_40, e7_42, w7_42, e7_44, w7_44, c7_45, e7_47, w7_47, c7_48, e7_50, w7_50, c7_51, c7_52, c7_53, c7_54, c7_55, c7_56, e7_58, w7_58, c7_59, c7_60, c7_61, c7_62, c7_63, e7_65, w7_65, c7_66, c7_67, c7_68, c7_69, c7_70, c7_71, c7_72, c7_73]
    exact next_stay hi ⟨rfl, rfl⟩
  rintro j vs M hj hdj ⟨rfl, rfl⟩
  obtain ⟨k, hk⟩ : ∃ k, k = i + 1 + j := ⟨_, rfl⟩
  rw [← hk]
  have hkl : k ≤ l.length := by omega
  obtain ⟨c', hsl⟩ := slice_sub l c i k [.box p.row, .box q.row] (by omega) hkl
  have hsub := covers_part hs hc (show i < k by omega) hkl
  have hsl2 : (sub l i k).length ≤ maxLen := by rw [sub_len hkl]; omega
  have hwf : ∀ r ∈ sub l i k, r.wf := fun r hr => hl r (sub_mem hr)
  have c1 := product_Covers_ok p (sub l i k) c' hp hwf hsl2
  have c2 := product_Covers_ok q (sub l i k) c' hq hwf hsl2
  rw [hsub] at c1
  rw [hcq _ hsub] at c2
  simp only [Product.row] at c1 c2 hsl
  simp -implicitDefEqProofs (disch := omega) only [go_sem, Nat.reduceAdd, Nat.reduceMul, Nat.reduceSub, Nat.reduceBEq, Nat.reduceLeDiff, Nat.reduceLT, fn_transitlaw21_ProductCovers, e7_1, w7_1, e7_3, w7_3, c7_4, e7_6, w7_6, e7_8, w7_8, e7_10, w7_10, e7_12, w7_12, c7_13, e7_15, w7_15, c7_16, e7_18, w7_18, c7_19, c7_20, c7_21, c7_22, c7_23, e7_25, w7_25, e7_27, w7_27, e7_29, w7_29, e7_31, w7_31, c7_32, e7_34, w7_34, e7_36, w7_36, e7_38, w7_38, e7_40, w7_40, e7_42, w7_42, e7_44, w7_44, c7_45, e7_47, w7_47, c7_48, e7_50, w7_50, c7_51, c7_52, c7_53, c7_54, c7_55, c7_56, e7_58, w7_58, c7_59, c7_60, c7_61, c7_62, c7_63, e7_65, w7_65, c7_66, c7_67, c7_68, c7_69, c7_70, c7_71, c7_72, c7_73, Product.row]
  refine ifD (fun h => ?_) (fun h => ?_)
  rotate_left
  · omega
  simp -implicitDefEqProofs (disch := omega) only [go_sem, Nat.reduceAdd, Nat.reduceMul, Nat.reduceSub, Nat.reduceBEq, Nat.reduceLeDiff, Nat.reduceLT, fn_transitlaw21_ProductCovers, e7_1, w7_1, e7_3, w7_3, c7_4, e7_6, w7_6, e7_8, w7_8, e7_10, w7_10, e7_12, w7_12, c7_13, e7_15, w7_15, c7_16, e7_18, w7_18, c7_19, c7_20, c7_21, c7_22, c7_23, e7_25, w7_25, e7_27, w7_27, e7_29, w7_29, e7_31, w7_31, c7_32, e7_34, w7_34, e7_36, w7_36, e7_38, w7_38, e7_40, w7_40, e7_42, w7_42, e7_44, w7_44, c7_45, e7_47, w7_47, c7_48, e7_50, w7_50, c7_51, c7_52, c7_53, c7_54, c7_55, c7_56, e7_58, w7_58, c7_59, c7_60, c7_61, c7_62, c7_63, e7_65, w7_65, c7_66, c7_67, c7_68, c7_69, c7_70, c7_71, c7_72, c7_73, hsl, Product.row]
  first | refine callD (c1) ?_ | refine callQD (c1) ?_
  simp -implicitDefEqProofs (disch := omega) only [go_sem, Nat.reduceAdd, Nat.reduceMul, Nat.reduceSub, Nat.reduceBEq, Nat.reduceLeDiff, Nat.reduceLT, fn_transitlaw21_ProductCovers, e7_1, w7_1, e7_3, w7_3, c7_4, e7_6, w7_6, e7_8, w7_8, e7_10, w7_10, e7_12, w7_12, c7_13, e7_15, w7_15, c7_16, e7_18, w7_18, c7_19, c7_20, c7_21, c7_22, c7_23, e7_25, w7_25, e7_27, w7_27, e7_29, w7_29, e7_31, w7_31, c7_32, e7_34, w7_34, e7_36, w7_36, e7_38, w7_38, e7_40, w7_40, e7_42, w7_42, e7_44, w7_44, c7_45, e7_47, w7_47, c7_48, e7_50, w7_50, c7_51, c7_52, c7_53, c7_54, c7_55, c7_56, e7_58, w7_58, c7_59, c7_60, c7_61, c7_62, c7_63, e7_65, w7_65, c7_66, c7_67, c7_68, c7_69, c7_70, c7_71, c7_72, c7_73, hsl, Product.row]
  first | refine callD (c2) ?_ | refine callQD (c2) ?_
  simp -implicitDefEqProofs (disch := omega) only [go_sem, Nat.reduceAdd, Nat.reduceMul, Nat.reduceSub, Nat.reduceBEq, Nat.reduceLeDiff, Nat.reduceLT, fn_transitlaw21_ProductCovers, e7_1, w7_1, e7_3, w7_3, c7_4, e7_6, w7_6, e7_8, w7_8, e7_10, w7_10, e7_12, w7_12, c7_13, e7_15, w7_15, c7_16, e7_18, w7_18, c7_19, c7_20, c7_21, c7_22, c7_23, e7_25, w7_25, e7_27, w7_27, e7_29, w7_29, e7_31, w7_31, c7_32, e7_34, w7_34, e7_36, w7_36, e7_38, w7_38, e7_40, w7_40, e7_42, w7_42, e7_44, w7_44, c7_45, e7_47, w7_47, c7_48, e7_50, w7_50, c7_51, c7_52, c7_53, c7_54, c7_55, c7_56, e7_58, w7_58, c7_59, c7_60, c7_61, c7_62, c7_63, e7_65, w7_65, c7_66, c7_67, c7_68, c7_69, c7_70, c7_71, c7_72, c7_73, Product.row]
  exact next_stay hj ⟨by rw [show i + 1 + (j + 1) = k + 1 from by omega]; rfl, rfl⟩

theorem ProductCovers_law (p : Product) (l : List Ride) (c : Cap) (more : Int) (hp : p.wf) (hl : ∀ r ∈ l, r.wf) (hlen : l.length ≤ maxLen) : PCalls PR i_transitlaw21_ProductCovers [.agg p.row, .slice (l.map Ride.row) c, .int .i64 more] (fun v => v = .bool true) := by
  have hm : maxLen = 9223372036854775807 := by rfl
  have hlg := large_ok ⟨[], .nil, 0, 0, 0⟩ l c
  simp only [Fares.row, List.map_nil, List.length_nil] at hlg
  have hr := transitref21_Right_ok p
  have hcv := product_Covers_ok p l c hp hl hlen
  simp only [Product.row] at hr hcv
  refine acalls_pop fn_transitlaw21_ProductCovers_ok (by simp [fn_transitlaw21_ProductCovers]) ?_
  simp -implicitDefEqProofs (disch := omega) only [go_sem, Nat.reduceAdd, Nat.reduceMul, Nat.reduceSub, Nat.reduceBEq, Nat.reduceLeDiff, Nat.reduceLT, fn_transitlaw21_ProductCovers, e7_1, w7_1, e7_3, w7_3, c7_4, e7_6, w7_6, e7_8, w7_8, e7_10, w7_10, e7_12, w7_12, c7_13, e7_15, w7_15, c7_16, e7_18, w7_18, c7_19, c7_20, c7_21, c7_22, c7_23, e7_25, w7_25, e7_27, w7_27, e7_29, w7_29, e7_31, w7_31, c7_32, e7_34, w7_34, e7_36, w7_36, e7_38, w7_38, e7_40, w7_40, e7_42, w7_42, e7_44, w7_44, c7_45, e7_47, w7_47, c7_48, e7_50, w7_50, c7_51, c7_52, c7_53, c7_54, c7_55, c7_56, e7_58, w7_58, c7_59, c7_60, c7_61, c7_62, c7_63, e7_65, w7_65, c7_66, c7_67, c7_69, c7_70, c7_71, c7_72, c7_73, Product.row]
  first | refine callD (hlg) ?_ | refine callQD (hlg) ?_
  simp -implicitDefEqProofs (disch := omega) only [go_sem, Nat.reduceAdd, Nat.reduceMul, Nat.reduceSub, Nat.reduceBEq, Nat.reduceLeDiff, Nat.reduceLT, fn_transitlaw21_ProductCovers, e7_1, w7_1, e7_3, w7_3, c7_4, e7_6, w7_6, e7_8, w7_8, e7_10, w7_10, e7_12, w7_12, c7_13, e7_15, w7_15, c7_16, e7_18, w7_18, c7_19, c7_20, c7_21, c7_22, c7_23, e7_25, w7_25, e7_27, w7_27, e7_29, w7_29, e7_31, w7_31, c7_32, e7_34, w7_34, e7_36, w7_36, e7_38, w7_38, e7_40, w7_40, e7_42, w7_42, e7_44, w7_44, c7_45, e7_47, w7_47, c7_48, e7_50, w7_50, c7_51, c7_52, c7_53, c7_54, c7_55, c7_56, e7_58, w7_58, c7_59, c7_60, c7_61, c7_62, c7_63, e7_65, w7_65, c7_66, c7_67, c7_69, c7_70, c7_71, c7_72, c7_73]
  refine ifD (fun h => ?_) (fun h1 => ?_)
  · simp -implicitDefEqProofs (disch := omega) only [go_sem, Nat.reduceAdd, Nat.reduceMul, Nat.reduceSub, Nat.reduceBEq, Nat.reduceLeDiff, Nat.reduceLT, fn_transitlaw21_ProductCovers, e7_1, w7_1, e7_3, w7_3, c7_4, e7_6, w7_6, e7_8, w7_8, e7_10, w7_10, e7_12, w7_12, c7_13, e7_15, w7_15, c7_16, e7_18, w7_18, c7_19, c7_20, c7_21, c7_22, c7_23, e7_25, w7_25, e7_27, w7_27, e7_29, w7_29, e7_31, w7_31, c7_32, e7_34, w7_34, e7_36, w7_36, e7_38, w7_38, e7_40, w7_40, e7_42, w7_42, e7_44, w7_44, c7_45, e7_47, w7_47, c7_48, e7_50, w7_50, c7_51, c7_52, c7_53, c7_54, c7_55, c7_56, e7_58, w7_58, c7_59, c7_60, c7_61, c7_62, c7_63, e7_65, w7_65, c7_66, c7_67, c7_69, c7_70, c7_71, c7_72, c7_73]
    first | refine callD (example_ok) ?_ | refine callQD (example_ok) ?_
    simp -implicitDefEqProofs (disch := omega) only [go_sem, Nat.reduceAdd, Nat.reduceMul, Nat.reduceSub, Nat.reduceBEq, Nat.reduceLeDiff, Nat.reduceLT, fn_transitlaw21_ProductCovers, e7_1, w7_1, e7_3, w7_3, c7_4, e7_6, w7_6, e7_8, w7_8, e7_10, w7_10, e7_12, w7_12, c7_13, e7_15, w7_15, c7_16, e7_18, w7_18, c7_19, c7_20, c7_21, c7_22, c7_23, e7_25, w7_25, e7_27, w7_27, e7_29, w7_29, e7_31, w7_31, c7_32, e7_34, w7_34, e7_36, w7_36, e7_38, w7_38, e7_40, w7_40, e7_42, w7_42, e7_44, w7_44, c7_45, e7_47, w7_47, c7_48, e7_50, w7_50, c7_51, c7_52, c7_53, c7_54, c7_55, c7_56, e7_58, w7_58, c7_59, c7_60, c7_61, c7_62, c7_63, e7_65, w7_65, c7_66, c7_67, c7_69, c7_70, c7_71, c7_72, c7_73]
  have hsm : l.length ≤ 40 := by omega
  simp -implicitDefEqProofs (disch := omega) only [go_sem, Nat.reduceAdd, Nat.reduceMul, Nat.reduceSub, Nat.reduceBEq, Nat.reduceLeDiff, Nat.reduceLT, fn_transitlaw21_ProductCovers, e7_1, w7_1, e7_3, w7_3, c7_4, e7_6, w7_6, e7_8, w7_8, e7_10, w7_10, e7_12, w7_12, c7_13, e7_15, w7_15, c7_16, e7_18, w7_18, c7_19, c7_20, c7_21, c7_22, c7_23, e7_25, w7_25, e7_27, w7_27, e7_29, w7_29, e7_31, w7_31, c7_32, e7_34, w7_34, e7_36, w7_36, e7_38, w7_38, e7_40, w7_40, e7_42, w7_42, e7_44, w7_44, c7_45, e7_47, w7_47, c7_48, e7_50, w7_50, c7_51, c7_52, c7_53, c7_54, c7_55, c7_56, e7_58, w7_58, c7_59, c7_60, c7_61, c7_62, c7_63, e7_65, w7_65, c7_66, c7_67, c7_69, c7_70, c7_71, c7_72, c7_73]
  first | refine callD (hr) ?_ | refine callQD (hr) ?_
  simp -implicitDefEqProofs (disch := omega) only [go_sem, Nat.reduceAdd, Nat.reduceMul, Nat.reduceSub, Nat.reduceBEq, Nat.reduceLeDiff, Nat.reduceLT, fn_transitlaw21_ProductCovers, e7_1, w7_1, e7_3, w7_3, c7_4, e7_6, w7_6, e7_8, w7_8, e7_10, w7_10, e7_12, w7_12, c7_13, e7_15, w7_15, c7_16, e7_18, w7_18, c7_19, c7_20, c7_21, c7_22, c7_23, e7_25, w7_25, e7_27, w7_27, e7_29, w7_29, e7_31, w7_31, c7_32, e7_34, w7_34, e7_36, w7_36, e7_38, w7_38, e7_40, w7_40, e7_42, w7_42, e7_44, w7_44, c7_45, e7_47, w7_47, c7_48, e7_50, w7_50, c7_51, c7_52, c7_53, c7_54, c7_55, c7_56, e7_58, w7_58, c7_59, c7_60, c7_61, c7_62, c7_63, e7_65, w7_65, c7_66, c7_67, c7_69, c7_70, c7_71, c7_72, c7_73]
  refine ifB (fun h2 => ?_) (fun h2 => ?_)
  rotate_left
  · simp -implicitDefEqProofs (disch := omega) only [go_sem, Nat.reduceAdd, Nat.reduceMul, Nat.reduceSub, Nat.reduceBEq, Nat.reduceLeDiff, Nat.reduceLT, fn_transitlaw21_ProductCovers, e7_1, w7_1, e7_3, w7_3, c7_4, e7_6, w7_6, e7_8, w7_8, e7_10, w7_10, e7_12, w7_12, c7_13, e7_15, w7_15, c7_16, e7_18, w7_18, c7_19, c7_20, c7_21, c7_22, c7_23, e7_25, w7_25, e7_27, w7_27, e7_29, w7_29, e7_31, w7_31, c7_32, e7_34, w7_34, e7_36, w7_36, e7_38, w7_38, e7_40, w7_40, e7_42, w7_42, e7_44, w7_44, c7_45, e7_47, w7_47, c7_48, e7_50, w7_50, c7_51, c7_52, c7_53, c7_54, c7_55, c7_56, e7_58, w7_58, c7_59, c7_60, c7_61, c7_62, c7_63, e7_65, w7_65, c7_66, c7_67, c7_69, c7_70, c7_71, c7_72, c7_73]
    first | refine callD (example_ok) ?_ | refine callQD (example_ok) ?_
    simp -implicitDefEqProofs (disch := omega) only [go_sem, Nat.reduceAdd, Nat.reduceMul, Nat.reduceSub, Nat.reduceBEq, Nat.reduceLeDiff, Nat.reduceLT, fn_transitlaw21_ProductCovers, e7_1, w7_1, e7_3, w7_3, c7_4, e7_6, w7_6, e7_8, w7_8, e7_10, w7_10, e7_12, w7_12, c7_13, e7_15, w7_15, c7_16, e7_18, w7_18, c7_19, c7_20, c7_21, c7_22, c7_23, e7_25, w7_25, e7_27, w7_27, e7_29, w7_29, e7_31, w7_31, c7_32, e7_34, w7_34, e7_36, w7_36, e7_38, w7_38, e7_40, w7_40, e7_42, w7_42, e7_44, w7_44, c7_45, e7_47, w7_47, c7_48, e7_50, w7_50, c7_51, c7_52, c7_53, c7_54, c7_55, c7_56, e7_58, w7_58, c7_59, c7_60, c7_61, c7_62, c7_63, e7_65, w7_65, c7_66, c7_67, c7_69, c7_70, c7_71, c7_72, c7_73]
  simp -implicitDefEqProofs (disch := omega) only [go_sem, Nat.reduceAdd, Nat.reduceMul, Nat.reduceSub, Nat.reduceBEq, Nat.reduceLeDiff, Nat.reduceLT, fn_transitlaw21_ProductCovers, e7_1, w7_1, e7_3, w7_3, c7_4, e7_6, w7_6, e7_8, w7_8, e7_10, w7_10, e7_12, w7_12, c7_13, e7_15, w7_15, c7_16, e7_18, w7_18, c7_19, c7_20, c7_21, c7_22, c7_23, e7_25, w7_25, e7_27, w7_27, e7_29, w7_29, e7_31, w7_31, c7_32, e7_34, w7_34, e7_36, w7_36, e7_38, w7_38, e7_40, w7_40, e7_42, w7_42, e7_44, w7_44, c7_45, e7_47, w7_47, c7_48, e7_50, w7_50, c7_51, c7_52, c7_53, c7_54, c7_55, c7_56, e7_58, w7_58, c7_59, c7_60, c7_61, c7_62, c7_63, e7_65, w7_65, c7_66, c7_67, c7_69, c7_70, c7_71, c7_72, c7_73]
  first | refine callD (hcv) ?_ | refine callQD (hcv) ?_
  simp -implicitDefEqProofs (disch := omega) only [go_sem, Nat.reduceAdd, Nat.reduceMul, Nat.reduceSub, Nat.reduceBEq, Nat.reduceLeDiff, Nat.reduceLT, fn_transitlaw21_ProductCovers, e7_1, w7_1, e7_3, w7_3, c7_4, e7_6, w7_6, e7_8, w7_8, e7_10, w7_10, e7_12, w7_12, c7_13, e7_15, w7_15, c7_16, e7_18, w7_18, c7_19, c7_20, c7_21, c7_22, c7_23, e7_25, w7_25, e7_27, w7_27, e7_29, w7_29, e7_31, w7_31, c7_32, e7_34, w7_34, e7_36, w7_36, e7_38, w7_38, e7_40, w7_40, e7_42, w7_42, e7_44, w7_44, c7_45, e7_47, w7_47, c7_48, e7_50, w7_50, c7_51, c7_52, c7_53, c7_54, c7_55, c7_56, e7_58, w7_58, c7_59, c7_60, c7_61, c7_62, c7_63, e7_65, w7_65, c7_66, c7_67, c7_69, c7_70, c7_71, c7_72, c7_73]
  refine ifB (fun h3 => ?_) (fun h3 => ?_)
  rotate_left
  · simp -implicitDefEqProofs (disch := omega) only [go_sem, Nat.reduceAdd, Nat.reduceMul, Nat.reduceSub, Nat.reduceBEq, Nat.reduceLeDiff, Nat.reduceLT, fn_transitlaw21_ProductCovers, e7_1, w7_1, e7_3, w7_3, c7_4, e7_6, w7_6, e7_8, w7_8, e7_10, w7_10, e7_12, w7_12, c7_13, e7_15, w7_15, c7_16, e7_18, w7_18, c7_19, c7_20, c7_21, c7_22, c7_23, e7_25, w7_25, e7_27, w7_27, e7_29, w7_29, e7_31, w7_31, c7_32, e7_34, w7_34, e7_36, w7_36, e7_38, w7_38, e7_40, w7_40, e7_42, w7_42, e7_44, w7_44, c7_45, e7_47, w7_47, c7_48, e7_50, w7_50, c7_51, c7_52, c7_53, c7_54, c7_55, c7_56, e7_58, w7_58, c7_59, c7_60, c7_61, c7_62, c7_63, e7_65, w7_65, c7_66, c7_67, c7_69, c7_70, c7_71, c7_72, c7_73]
    first | refine callD (example_ok) ?_ | refine callQD (example_ok) ?_
    simp -implicitDefEqProofs (disch := omega) only [go_sem, Nat.reduceAdd, Nat.reduceMul, Nat.reduceSub, Nat.reduceBEq, Nat.reduceLeDiff, Nat.reduceLT, fn_transitlaw21_ProductCovers, e7_1, w7_1, e7_3, w7_3, c7_4, e7_6, w7_6, e7_8, w7_8, e7_10, w7_10, e7_12, w7_12, c7_13, e7_15, w7_15, c7_16, e7_18, w7_18, c7_19, c7_20, c7_21, c7_22, c7_23, e7_25, w7_25, e7_27, w7_27, e7_29, w7_29, e7_31, w7_31, c7_32, e7_34, w7_34, e7_36, w7_36, e7_38, w7_38, e7_40, w7_40, e7_42, w7_42, e7_44, w7_44, c7_45, e7_47, w7_47, c7_48, e7_50, w7_50, c7_51, c7_52, c7_53, c7_54, c7_55, c7_56, e7_58, w7_58, c7_59, c7_60, c7_61, c7_62, c7_63, e7_65, w7_65, c7_66, c7_67, c7_69, c7_70, c7_71, c7_72, c7_73]
  simp -implicitDefEqProofs (disch := omega) only [go_sem, Nat.reduceAdd, Nat.reduceMul, Nat.reduceSub, Nat.reduceBEq, Nat.reduceLeDiff, Nat.reduceLT, fn_transitlaw21_ProductCovers, e7_1, w7_1, e7_3, w7_3, c7_4, e7_6, w7_6, e7_8, w7_8, e7_10, w7_10, e7_12, w7_12, c7_13, e7_15, w7_15, c7_16, e7_18, w7_18, c7_19, c7_20, c7_21, c7_22, c7_23, e7_25, w7_25, e7_27, w7_27, e7_29, w7_29, e7_31, w7_31, c7_32, e7_34, w7_34, e7_36, w7_36, e7_38, w7_38, e7_40, w7_40, e7_42, w7_42, e7_44, w7_44, c7_45, e7_47, w7_47, c7_48, e7_50, w7_50, c7_51, c7_52, c7_53, c7_54, c7_55, c7_56, e7_58, w7_58, c7_59, c7_60, c7_61, c7_62, c7_63, e7_65, w7_65, c7_66, c7_67, c7_69, c7_70, c7_71, c7_72, c7_73]
  obtain ⟨k1, k2, k3, k4, k5⟩ := covers_iff.1 h3
  simp only [Product.right, Bool.and_eq_true, within_iff] at h2
  have hp' := hp
  obtain ⟨w1, w2, w3, w4, w5, w6⟩ := hp'
  refine wpC_for (l.length - 1) (fun i vs M => (∀ j a b, j < i → l[j]? = some a → l[j + 1]? = some b → a.depart ≤ b.depart) ∧ vs = [.slice (l.map Ride.row) c, .int .i64 more, .ptr 0 0, .int .i64 ((i + 1 : Nat) : Int)] ∧ M = [.box p.row]) ⟨fun j a b h => absurd h (Nat.not_lt_zero j), rfl, rfl⟩ ?_ ?_
  · rintro i vs M hi hd ⟨hord, rfl, rfl⟩
    obtain ⟨a, ha⟩ : ∃ a, l[i]? = some a := ⟨l[i], by simp⟩
    obtain ⟨b, hb⟩ : ∃ b, l[i + 1]? = some b := ⟨l[i + 1], by simp⟩
    have e : ((i + 1 : Nat) : Int) - 1 = (i : Int) := by omega
    simp -implicitDefEqProofs (disch := omega) only [go_sem, Nat.reduceAdd, Nat.reduceMul, Nat.reduceSub, Nat.reduceBEq, Nat.reduceLeDiff, Nat.reduceLT, fn_transitlaw21_ProductCovers, e7_1, w7_1, e7_3, w7_3, c7_4, e7_6, w7_6, e7_8, w7_8, e7_10, w7_10, e7_12, w7_12, c7_13, e7_15, w7_15, c7_16, e7_18, w7_18, c7_19, c7_20, c7_21, c7_22, c7_23, e7_25, w7_25, e7_27, w7_27, e7_29, w7_29, e7_31, w7_31, c7_32, e7_34, w7_34, e7_36, w7_36, e7_38, w7_38, e7_40, w7_40, e7_42, w7_42, e7_44, w7_44, c7_45, e7_47, w7_47, c7_48, e7_50, w7_50, c7_51, c7_52, c7_53, c7_54, c7_55, c7_56, e7_58, w7_58, c7_59, c7_60, c7_61, c7_62, c7_63, e7_65, w7_65, c7_66, c7_67, c7_69, c7_70, c7_71, c7_72, c7_73]
    refine ifD (fun g => ?_) (fun g => ?_)
    rotate_left
    · omega
    simp -implicitDefEqProofs (disch := omega) only [go_sem, Nat.reduceAdd, Nat.reduceMul, Nat.reduceSub, Nat.reduceBEq, Nat.reduceLeDiff, Nat.reduceLT, fn_transitlaw21_ProductCovers, e7_1, w7_1, e7_3, w7_3, c7_4, e7_6, w7_6, e7_8, w7_8, e7_10, w7_10, e7_12, w7_12, c7_13, e7_15, w7_15, c7_16, e7_18, w7_18, c7_19, c7_20, c7_21, c7_22, c7_23, e7_25, w7_25, e7_27, w7_27, e7_29, w7_29, e7_31, w7_31, c7_32, e7_34, w7_34, e7_36, w7_36, e7_38, w7_38, e7_40, w7_40, e7_42, w7_42, e7_44, w7_44, c7_45, e7_47, w7_47, c7_48, e7_50, w7_50, c7_51, c7_52, c7_53, c7_54, c7_55, c7_56, e7_58, w7_58, c7_59, c7_60, c7_61, c7_62, c7_63, e7_65, w7_65, c7_66, c7_67, c7_69, c7_70, c7_71, c7_72, c7_73, ha, hb, e, Ride.row]
    refine ifD (fun g2 => ?_) (fun g2 => ?_)
    · simp -implicitDefEqProofs (disch := omega) only [go_sem, Nat.reduceAdd, Nat.reduceMul, Nat.reduceSub, Nat.reduceBEq, Nat.reduceLeDiff, Nat.reduceLT, fn_transitlaw21_ProductCovers, e7_1, w7_1, e7_3, w7_3, c7_4, e7_6, w7_6, e7_8, w7_8, e7_10, w7_10, e7_12, w7_12, c7_13, e7_15, w7_15, c7_16, e7_18, w7_18, c7_19, c7_20, c7_21, c7_22, c7_23, e7_25, w7_25, e7_27, w7_27, e7_29, w7_29, e7_31, w7_31, c7_32, e7_34, w7_34, e7_36, w7_36, e7_38, w7_38, e7_40, w7_40, e7_42, w7_42, e7_44, w7_44, c7_45, e7_47, w7_47, c7_48, e7_50, w7_50, c7_51, c7_52, c7_53, c7_54, c7_55, c7_56, e7_58, w7_58, c7_59, c7_60, c7_61, c7_62, c7_63, e7_65, w7_65, c7_66, c7_67, c7_69, c7_70, c7_71, c7_72, c7_73]
      first | refine callD (example_ok) ?_ | refine callQD (example_ok) ?_
      simp -implicitDefEqProofs (disch := omega) only [go_sem, Nat.reduceAdd, Nat.reduceMul, Nat.reduceSub, Nat.reduceBEq, Nat.reduceLeDiff, Nat.reduceLT, fn_transitlaw21_ProductCovers, e7_1, w7_1, e7_3, w7_3, c7_4, e7_6, w7_6, e7_8, w7_8, e7_10, w7_10, e7_12, w7_12, c7_13, e7_15, w7_15, c7_16, e7_18, w7_18, c7_19, c7_20, c7_21, c7_22, c7_23, e7_25, w7_25, e7_27, w7_27, e7_29, w7_29, e7_31, w7_31, c7_32, e7_34, w7_34, e7_36, w7_36, e7_38, w7_38, e7_40, w7_40, e7_42, w7_42, e7_44, w7_44, c7_45, e7_47, w7_47, c7_48, e7_50, w7_50, c7_51, c7_52, c7_53, c7_54, c7_55, c7_56, e7_58, w7_58, c7_59, c7_60, c7_61, c7_62, c7_63, e7_65, w7_65, c7_66, c7_67, c7_69, c7_70, c7_71, c7_72, c7_73]
    simp -implicitDefEqProofs (disch := omega) only [go_sem, Nat.reduceAdd, Nat.reduceMul, Nat.reduceSub, Nat.reduceBEq, Nat.reduceLeDiff, Nat.reduceLT, fn_transitlaw21_ProductCovers, e7_1, w7_1, e7_3, w7_3, c7_4, e7_6, w7_6, e7_8, w7_8, e7_10, w7_10, e7_12, w7_12, c7_13, e7_15, w7_15, c7_16, e7_18, w7_18, c7_19, c7_20, c7_21, c7_22, c7_23, e7_25, w7_25, e7_27, w7_27, e7_29, w7_29, e7_31, w7_31, c7_32, e7_34, w7_34, e7_36, w7_36, e7_38, w7_38, e7_40, w7_40, e7_42, w7_42, e7_44, w7_44, c7_45, e7_47, w7_47, c7_48, e7_50, w7_50, c7_51, c7_52, c7_53, c7_54, c7_55, c7_56, e7_58, w7_58, c7_59, c7_60, c7_61, c7_62, c7_63, e7_65, w7_65, c7_66, c7_67, c7_69, c7_70, c7_71, c7_72, c7_73]
    refine next_stay hi ⟨fun j x y hj hx hy => ?_, rfl, rfl⟩
    by_cases hji : j = i
    · subst hji
      rw [ha] at hx
      rw [hb] at hy
      simp only [Option.some.injEq] at hx hy
      subst hx; subst hy
      omega
    · exact hord j x y (by omega) hx hy
  · rintro vs M ⟨hord, rfl, rfl⟩
    have hs : Sorted l := fun j a b ha hb => hord j a b (by have := (List.getElem?_eq_some_iff.1 hb).1; omega) ha hb
    simp -implicitDefEqProofs (disch := omega) only [go_sem, Nat.reduceAdd, Nat.reduceMul, Nat.reduceSub, Nat.reduceBEq, Nat.reduceLeDiff, Nat.reduceLT, fn_transitlaw21_ProductCovers, e7_1, w7_1, e7_3, w7_3, c7_4, e7_6, w7_6, e7_8, w7_8, e7_10, w7_10, e7_12, w7_12, c7_13, e7_15, w7_15, c7_16, e7_18, w7_18, c7_19, c7_20, c7_21, c7_22, c7_23, e7_25, w7_25, e7_27, w7_27, e7_29, w7_29, e7_31, w7_31, c7_32, e7_34, w7_34, e7_36, w7_36, e7_38, w7_38, e7_40, w7_40, e7_42, w7_42, e7_44, w7_44, c7_45, e7_47, w7_47, c7_48, e7_50, w7_50, c7_51, c7_52, c7_53, c7_54, c7_55, c7_56, e7_58, w7_58, c7_59, c7_60, c7_61, c7_62, c7_63, e7_65, w7_65, c7_66, c7_67, c7_69, c7_70, c7_71, c7_72, c7_73]
    refine ifD (fun g => ?_) (fun g => ?_)
    · omega
    simp -implicitDefEqProofs (disch := omega) only [go_sem, Nat.reduceAdd, Nat.reduceMul, Nat.reduceSub, Nat.reduceBEq, Nat.reduceLeDiff, Nat.reduceLT, fn_transitlaw21_ProductCovers, e7_1, w7_1, e7_3, w7_3, c7_4, e7_6, w7_6, e7_8, w7_8, e7_10, w7_10, e7_12, w7_12, c7_13, e7_15, w7_15, c7_16, e7_18, w7_18, c7_19, c7_20, c7_21, c7_22, c7_23, e7_25, w7_25, e7_27, w7_27, e7_29, w7_29, e7_31, w7_31, c7_32, e7_34, w7_34, e7_36, w7_36, e7_38, w7_38, e7_40, w7_40, e7_42, w7_42, e7_44, w7_44, c7_45, e7_47, w7_47, c7_48, e7_50, w7_50, c7_51, c7_52, c7_53, c7_54, c7_55, c7_56, e7_58, w7_58, c7_59, c7_60, c7_61, c7_62, c7_63, e7_65, w7_65, c7_66, c7_67, c7_69, c7_70, c7_71, c7_72, c7_73, Product.row]
    refine ifD (fun g2 => ?_) (fun g2 => ?_)
    · simp -implicitDefEqProofs (disch := omega) only [go_sem, Nat.reduceAdd, Nat.reduceMul, Nat.reduceSub, Nat.reduceBEq, Nat.reduceLeDiff, Nat.reduceLT, fn_transitlaw21_ProductCovers, e7_1, w7_1, e7_3, w7_3, c7_4, e7_6, w7_6, e7_8, w7_8, e7_10, w7_10, e7_12, w7_12, c7_13, e7_15, w7_15, c7_16, e7_18, w7_18, c7_19, c7_20, c7_21, c7_22, c7_23, e7_25, w7_25, e7_27, w7_27, e7_29, w7_29, e7_31, w7_31, c7_32, e7_34, w7_34, e7_36, w7_36, e7_38, w7_38, e7_40, w7_40, e7_42, w7_42, e7_44, w7_44, c7_45, e7_47, w7_47, c7_48, e7_50, w7_50, c7_51, c7_52, c7_53, c7_54, c7_55, c7_56, e7_58, w7_58, c7_59, c7_60, c7_61, c7_62, c7_63, e7_65, w7_65, c7_66, c7_67, c7_69, c7_70, c7_71, c7_72, c7_73]
      refine ifD (fun g3 => ?_) (fun g3 => ?_)
      · simp -implicitDefEqProofs (disch := omega) only [go_sem, Nat.reduceAdd, Nat.reduceMul, Nat.reduceSub, Nat.reduceBEq, Nat.reduceLeDiff, Nat.reduceLT, fn_transitlaw21_ProductCovers, e7_1, w7_1, e7_3, w7_3, c7_4, e7_6, w7_6, e7_8, w7_8, e7_10, w7_10, e7_12, w7_12, c7_13, e7_15, w7_15, c7_16, e7_18, w7_18, c7_19, c7_20, c7_21, c7_22, c7_23, e7_25, w7_25, e7_27, w7_27, e7_29, w7_29, e7_31, w7_31, c7_32, e7_34, w7_34, e7_36, w7_36, e7_38, w7_38, e7_40, w7_40, e7_42, w7_42, e7_44, w7_44, c7_45, e7_47, w7_47, c7_48, e7_50, w7_50, c7_51, c7_52, c7_53, c7_54, c7_55, c7_56, e7_58, w7_58, c7_59, c7_60, c7_61, c7_62, c7_63, e7_65, w7_65, c7_66, c7_67, c7_69, c7_70, c7_71, c7_72, c7_73, Product.row]
        have i1 : I64 (p.rides + more) := ⟨by omega, by omega⟩
        have i2 : I64 (p.zones + more) := ⟨by omega, by omega⟩
        have i3 : I64 (p.seconds + more) := ⟨by omega, by omega⟩
        refine Covers_tail p ⟨p.id, p.price, p.rides + more, p.zones + more, p.seconds + more, p.modes⟩ l c hp ⟨w1, w2, i1, i2, i3, w6⟩ hl hsm hs h3 (fun m hcm => covers_more hcm (by simp only; omega) (by simp only; omega) (by simp only; omega) rfl) _ ?_ _ rfl rfl rfl
        simp -implicitDefEqProofs (disch := omega) only [go_sem, Nat.reduceAdd, Nat.reduceMul, Nat.reduceSub, Nat.reduceBEq, Nat.reduceLeDiff, Nat.reduceLT, fn_transitlaw21_ProductCovers, e7_1, w7_1, e7_3, w7_3, c7_4, e7_6, w7_6, e7_8, w7_8, e7_10, w7_10, e7_12, w7_12, c7_13, e7_15, w7_15, c7_16, e7_18, w7_18, c7_19, c7_20, c7_21, c7_22, c7_23, e7_25, w7_25, e7_27, w7_27, e7_29, w7_29, e7_31, w7_31, c7_32, e7_34, w7_34, e7_36, w7_36, e7_38, w7_38, e7_40, w7_40, e7_42, w7_42, e7_44, w7_44, c7_45, e7_47, w7_47, c7_48, e7_50, w7_50, c7_51, c7_52, c7_53, c7_54, c7_55, c7_56, e7_58, w7_58, c7_59, c7_60, c7_61, c7_62, c7_63, e7_65, w7_65, c7_66, c7_67, c7_69, c7_70, c7_71, c7_72, c7_73]
      · simp -implicitDefEqProofs (disch := omega) only [go_sem, Nat.reduceAdd, Nat.reduceMul, Nat.reduceSub, Nat.reduceBEq, Nat.reduceLeDiff, Nat.reduceLT, fn_transitlaw21_ProductCovers, e7_1, w7_1, e7_3, w7_3, c7_4, e7_6, w7_6, e7_8, w7_8, e7_10, w7_10, e7_12, w7_12, c7_13, e7_15, w7_15, c7_16, e7_18, w7_18, c7_19, c7_20, c7_21, c7_22, c7_23, e7_25, w7_25, e7_27, w7_27, e7_29, w7_29, e7_31, w7_31, c7_32, e7_34, w7_34, e7_36, w7_36, e7_38, w7_38, e7_40, w7_40, e7_42, w7_42, e7_44, w7_44, c7_45, e7_47, w7_47, c7_48, e7_50, w7_50, c7_51, c7_52, c7_53, c7_54, c7_55, c7_56, e7_58, w7_58, c7_59, c7_60, c7_61, c7_62, c7_63, e7_65, w7_65, c7_66, c7_67, c7_69, c7_70, c7_71, c7_72, c7_73]
        refine Covers_tail p p l c hp hp hl hsm hs h3 (fun m hcm => hcm) _ ?_ _ rfl rfl rfl
        simp -implicitDefEqProofs (disch := omega) only [go_sem, Nat.reduceAdd, Nat.reduceMul, Nat.reduceSub, Nat.reduceBEq, Nat.reduceLeDiff, Nat.reduceLT, fn_transitlaw21_ProductCovers, e7_1, w7_1, e7_3, w7_3, c7_4, e7_6, w7_6, e7_8, w7_8, e7_10, w7_10, e7_12, w7_12, c7_13, e7_15, w7_15, c7_16, e7_18, w7_18, c7_19, c7_20, c7_21, c7_22, c7_23, e7_25, w7_25, e7_27, w7_27, e7_29, w7_29, e7_31, w7_31, c7_32, e7_34, w7_34, e7_36, w7_36, e7_38, w7_38, e7_40, w7_40, e7_42, w7_42, e7_44, w7_44, c7_45, e7_47, w7_47, c7_48, e7_50, w7_50, c7_51, c7_52, c7_53, c7_54, c7_55, c7_56, e7_58, w7_58, c7_59, c7_60, c7_61, c7_62, c7_63, e7_65, w7_65, c7_66, c7_67, c7_69, c7_70, c7_71, c7_72, c7_73]
    · simp -implicitDefEqProofs (disch := omega) only [go_sem, Nat.reduceAdd, Nat.reduceMul, Nat.reduceSub, Nat.reduceBEq, Nat.reduceLeDiff, Nat.reduceLT, fn_transitlaw21_ProductCovers, e7_1, w7_1, e7_3, w7_3, c7_4, e7_6, w7_6, e7_8, w7_8, e7_10, w7_10, e7_12, w7_12, c7_13, e7_15, w7_15, c7_16, e7_18, w7_18, c7_19, c7_20, c7_21, c7_22, c7_23, e7_25, w7_25, e7_27, w7_27, e7_29, w7_29, e7_31, w7_31, c7_32, e7_34, w7_34, e7_36, w7_36, e7_38, w7_38, e7_40, w7_40, e7_42, w7_42, e7_44, w7_44, c7_45, e7_47, w7_47, c7_48, e7_50, w7_50, c7_51, c7_52, c7_53, c7_54, c7_55, c7_56, e7_58, w7_58, c7_59, c7_60, c7_61, c7_62, c7_63, e7_65, w7_65, c7_66, c7_67, c7_69, c7_70, c7_71, c7_72, c7_73]
      refine Covers_tail p p l c hp hp hl hsm hs h3 (fun m hcm => hcm) _ ?_ _ rfl rfl rfl
      simp -implicitDefEqProofs (disch := omega) only [go_sem, Nat.reduceAdd, Nat.reduceMul, Nat.reduceSub, Nat.reduceBEq, Nat.reduceLeDiff, Nat.reduceLT, fn_transitlaw21_ProductCovers, e7_1, w7_1, e7_3, w7_3, c7_4, e7_6, w7_6, e7_8, w7_8, e7_10, w7_10, e7_12, w7_12, c7_13, e7_15, w7_15, c7_16, e7_18, w7_18, c7_19, c7_20, c7_21, c7_22, c7_23, e7_25, w7_25, e7_27, w7_27, e7_29, w7_29, e7_31, w7_31, c7_32, e7_34, w7_34, e7_36, w7_36, e7_38, w7_38, e7_40, w7_40, e7_42, w7_42, e7_44, w7_44, c7_45, e7_47, w7_47, c7_48, e7_50, w7_50, c7_51, c7_52, c7_53, c7_54, c7_55, c7_56, e7_58, w7_58, c7_59, c7_60, c7_61, c7_62, c7_63, e7_65, w7_65, c7_66, c7_67, c7_69, c7_70, c7_71, c7_72, c7_73]

end Go.Vm.C

