/- The active messages of an inbox. -/
import Derived.Test.YtmbeokppfdalfaaT10

namespace Go.Vm.C
open Go.Vm
set_option maxHeartbeats 1000000
set_option maxRecDepth 10000
set_option linter.unusedSimpArgs false
set_option linter.unusedVariables false

/-! ### The statement InboxActive -/
theorem mem_insM {l : List Msg} {m x : Msg} : x ∈ insM l m ↔ x = m ∨ x ∈ l := by
  rw [insM, List.mem_append, List.mem_cons]
  have := List.take_append_drop (insPos l m l.length) l
  conv => rhs; rw [← this, List.mem_append]
  constructor
  · rintro (h | h | h) <;> simp [h]
  · rintro (h | h | h) <;> simp [h]
theorem mem_fold (cur : List Msg) : ∀ (l out : List Msg) (x : Msg), x ∈ l.foldl (actStep cur) out ↔ x ∈ out ∨ (x ∈ l ∧ overB cur x = false)
  | [], out, x => by simp
  | m :: l, out, x => by
    rw [List.foldl_cons, mem_fold cur l, actStep]
    by_cases h : overB cur m = true
    · rw [if_pos h]
      constructor
      · rintro (h1 | ⟨h1, h2⟩)
        · exact .inl h1
        · exact .inr ⟨by simp [h1], h2⟩
      · rintro (h1 | ⟨h1, h2⟩)
        · exact .inl h1
        · rcases List.mem_cons.1 h1 with rfl | h1
          · rw [h] at h2; cases h2
          · exact .inr ⟨h1, h2⟩
    · have h' : overB cur m = false := by simpa using h
      rw [if_neg h, mem_insM]
      constructor
      · rintro ((rfl | h1) | ⟨h1, h2⟩)
        · exact .inr ⟨by simp, h'⟩
        · exact .inl h1
        · exact .inr ⟨by simp [h1], h2⟩
      · rintro (h1 | ⟨h1, h2⟩)
        · exact .inl (.inr h1)
        · rcases List.mem_cons.1 h1 with rfl | h1
          · exact .inl (.inl rfl)
          · exact .inr ⟨h1, h2⟩
theorem mem_actL {cur : List Msg} {x : Msg} : x ∈ actL cur ↔ x ∈ cur ∧ overB cur x = false := by
  have := mem_fold cur cur [] x
  have e : actL cur = cur.foldl (actStep cur) [] := rfl
  rw [e, this]
  simp
theorem sameT_iff {a b : Msg} : sameT a b = true ↔ a.trip = b.trip ∧ a.day = b.day ∧ a.inst = b.inst := by simp [sameT]
theorem low_ex {cur : List Msg} (h0 : ∀ o ∈ cur, 0 ≤ o.src) : ∀ (n : Nat) (x : Msg), x.src ≤ n → overB cur x = true → ∃ o ∈ cur, o.src < x.src ∧ sameT o x = true ∧ overB cur o = false
  | 0, x, hx, h => by
    obtain ⟨o, ho, h1⟩ := List.any_eq_true.1 h
    simp only [Bool.and_eq_true, decide_eq_true_eq] at h1
    have := h0 o ho
    omega
  | n + 1, x, hx, h => by
    obtain ⟨o, ho, h1⟩ := List.any_eq_true.1 h
    simp only [Bool.and_eq_true, decide_eq_true_eq] at h1
    by_cases h2 : overB cur o = true
    · obtain ⟨p, hp, h3, h4, h5⟩ := low_ex h0 n o (by omega) h2
      refine ⟨p, hp, by omega, ?_, h5⟩
      rw [sameT_iff] at h1 h4 ⊢
      exact ⟨h4.1.trans h1.2.1, h4.2.1.trans h1.2.2.1, h4.2.2.trans h1.2.2.2⟩
    · exact ⟨o, ho, h1.1, h1.2, by simpa using h2⟩
theorem curB_own (b : Ibx) (now : Int) (m : Msg) : curB b now m.own = curB b now m := rfl

end Go.Vm.C

