/- The statement InboxSupersedes. -/
import Derived.Test.YtmbeokppfdalfaaT7

namespace Go.Vm.C
open Go.Vm
set_option maxHeartbeats 1000000
set_option maxRecDepth 10000
set_option linter.unusedSimpArgs false
set_option linter.unusedVariables false

/-! ### The statement InboxSupersedes -/
theorem superB_own (a b : Msg) : superB a.own b.own = superB a b := rfl
def Apart (x y : Msg) : Prop := superB x y = false ∧ superB y x = false ∧ (x.src = y.src → x.seq ≠ y.seq)
structure Sup (b : Ibx) (n : Nat) : Prop where
  len : b.kept.length ≤ n
  last : ∀ x ∈ b.kept, ∃ (k : Nat) (s : Src), x.src = k ∧ b.srcs[k]? = some s ∧ s.recv = true ∧ x.seq ≤ s.seq
  apart : b.kept.Pairwise Apart
theorem keepM_pairwise {p : Msg → Bool} {l : List Msg} (h : l.Pairwise Apart) : (keepM p l).Pairwise Apart := by
  rw [keepM, List.pairwise_map]
  exact h.filter p
theorem hear_recv (s : Src) (now : Int) : (hearS s now).recv = s.recv ∧ (hearS s now).seq = s.seq := by
  unfold hearS
  split <;> exact ⟨rfl, rfl⟩
theorem superB_seq {a b : Msg} (h : a.seq ≤ b.seq) : superB a b = false := by
  have : decide (b.seq < a.seq) = false := decide_eq_false (by omega)
  simp [superB, this]
theorem superB_src {a b : Msg} (h : a.src ≠ b.src) : superB a b = false := by simp [superB, h]
theorem Sup.step {b : Ibx} {n : Nat} (h : Sup b n) (o : Oper) : Sup (stepI b o) (n + 1) := by
  have same : Sup b (n + 1) := ⟨by have := h.len; omega, h.last, h.apart⟩
  unfold stepI
  split
  · rcases recv_cases b o.m o.now with ⟨_, e⟩ | ⟨_, h1, h2, h3, k, s, hk, hkl, hs, hno, e⟩
    · rw [e]; exact same
    rw [e]
    have hkeep := keepM_len (liveM o.m o.now) b.kept
    have hself : (b.srcs.set k (recvS s o.m o.now))[k]? = some (recvS s o.m o.now) := by rw [List.getElem?_set_self hkl]
    have older : ∀ y ∈ b.kept, y.src = k → y.seq < o.m.seq := fun y hy hyk => by
      obtain ⟨k2, s2, e1, e2, e3, e4⟩ := h.last y hy
      have : k2 = k := by omega
      subst this
      rw [hs] at e2
      simp only [Option.some.injEq] at e2
      subst e2
      refine Decidable.byContradiction fun hn => hno (.inl ⟨e3, by omega⟩)
    refine ⟨by simp only [List.length_append, List.length_cons, List.length_nil]; have := h.len; unfold recvK; omega, fun x hx => ?_, ?_⟩
    · rcases List.mem_append.1 hx with hx | hx
      · obtain ⟨y, hy, _, rfl⟩ := mem_keepM hx
        obtain ⟨k2, s2, e1, e2, e3, e4⟩ := h.last y hy
        by_cases hkk : k2 = k
        · subst hkk
          refine ⟨k2, _, e1, hself, rfl, ?_⟩
          have := older y hy e1
          show y.seq ≤ o.m.seq
          omega
        · exact ⟨k2, s2, e1, by rw [List.getElem?_set_ne (Ne.symm hkk)]; exact e2, e3, e4⟩
      · simp at hx
        subst hx
        exact ⟨k, _, hk, hself, rfl, Int.le_refl _⟩
    · refine List.pairwise_append.2 ⟨keepM_pairwise h.apart, by simp, fun x hx y hy => ?_⟩
      simp at hy
      subst hy
      obtain ⟨z, hz, hlive, rfl⟩ := mem_keepM hx
      simp only [liveM, Bool.and_eq_true, Bool.not_eq_true'] at hlive
      refine ⟨?_, hlive.1, fun hsrc => ?_⟩
      · by_cases hq : z.src = k
        · have := older z hz hq
          exact superB_seq (a := z.own) (b := o.m.own) (by show z.seq ≤ o.m.seq; omega)
        · exact superB_src (a := z.own) (b := o.m.own) (by show z.src ≠ o.m.src; omega)
      · have hq : z.src = k := by have : z.src = o.m.src := hsrc; omega
        have := older z hz hq
        show z.seq ≠ o.m.seq
        omega
  split
  · rcases beat_cases b o.src o.now with ⟨_, e⟩ | ⟨_, h2, k, s, hk0, hk, hs, e⟩
    · rw [e]; exact same
    rw [e]
    refine ⟨same.len, fun x hx => ?_, h.apart⟩
    obtain ⟨k2, s2, e1, e2, e3, e4⟩ := h.last x hx
    by_cases hkk : k2 = k
    · subst hkk
      rw [hs] at e2
      simp only [Option.some.injEq] at e2
      subst e2
      obtain ⟨q1, q2⟩ := hear_recv s o.now
      exact ⟨k2, _, e1, by rw [List.getElem?_set_self hk], by rw [q1]; exact e3, by rw [q2]; exact e4⟩
    · exact ⟨k2, s2, e1, by rw [List.getElem?_set_ne (Ne.symm hkk)]; exact e2, e3, e4⟩
  · exact same
theorem Sup.run : ∀ (l : List Oper) {b : Ibx} {n : Nat}, Sup b n → Sup (runI b l) (n + l.length)
  | [], b, n, h => h
  | o :: l, b, n, h => by
    have := Sup.run l (h.step o)
    rw [List.length_cons, show n + (l.length + 1) = n + 1 + l.length from by omega]
    exact this
theorem Sup.start (n : Nat) (pat : Int) : Sup (startI n pat) 0 := ⟨by simp [startI], fun x hx => by simp [startI] at hx, by simp [startI]⟩
theorem pop_own {N L : Mem} {vs : List V} (hU : memUnder N.length N = true) (hv : underL N.length vs = true) : popOK N.length vs (N ++ L) = true :=
  popOK_of (by simp) hv (by rw [show (N ++ L).take N.length = N from List.take_left]; exact hU)
theorem seqB_of {b : Ibx} {k : Nat} {s : Src} (h : b.srcs[k]? = some s) (hr : s.recv = true) : seqB b k = (s.seq, true) := by
  have hk := (List.getElem?_eq_some_iff.1 h).1
  simp only [seqB, Int.toNat_natCast, h]
  rw [if_pos ⟨by simp [isSrc, hk], hr⟩]
theorem slice_opers (l : List Oper) (c : Cap) (M : Mem) : sliceV 16 (.slice (l.map Oper.row) c) none (some (.int .i64 (min (l.length : Int) 40))) none M = some (.slice ((l.take 40).map Oper.row) (capS c (min (l.length : Int) 40).toNat l.length l.length false)) := by
  rw [slice_h 16 _ c .i64 _ M (by omega) (by simp; omega) (headLen_map (f := Oper.row) (n := 16) (fun _ => rfl) l)]
  have e : (min (l.length : Int) 40).toNat = min l.length 40 := by omega
  rw [← List.map_take, e, List.length_map]
  rw [show List.take (min l.length 40) l = List.take 40 l from by rw [Nat.min_comm, ← List.take_take, List.take_length]]

end Go.Vm.C

