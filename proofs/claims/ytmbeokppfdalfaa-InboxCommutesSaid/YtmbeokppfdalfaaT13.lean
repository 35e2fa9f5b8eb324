/- The order in which two messages come. -/
import Derived.Test.YtmbeokppfdalfaaT12

namespace Go.Vm.C
open Go.Vm
set_option maxHeartbeats 1000000
set_option maxRecDepth 10000
set_option linter.unusedSimpArgs false
set_option linter.unusedVariables false

/-! ### The order in which two messages come -/
theorem bl_trans : ∀ (x y z : List UInt8), Op.bytesLess x y = true → Op.bytesLess y z = true → Op.bytesLess x z = true
  | [], [], _, h, _ => by simp [Op.bytesLess] at h
  | [], _ :: _, [], _, h => by simp [Op.bytesLess] at h
  | [], _ :: _, _ :: _, _, _ => by simp [Op.bytesLess]
  | _ :: _, [], _, h, _ => by simp [Op.bytesLess] at h
  | _ :: _, _ :: _, [], _, h => by simp [Op.bytesLess] at h
  | a :: x, b :: y, c :: z, h1, h2 => by
    simp only [Op.bytesLess, Bool.or_eq_true, Bool.and_eq_true, decide_eq_true_eq, beq_iff_eq, UInt8.lt_iff_toNat_lt, ← UInt8.toNat_inj] at *
    rcases h1 with h1 | ⟨h1, h1'⟩ <;> rcases h2 with h2 | ⟨h2, h2'⟩
    · left; omega
    · left; omega
    · left; omega
    · right; exact ⟨by omega, bl_trans x y z h1' h2'⟩
theorem bl_irrefl : ∀ (x : List UInt8), Op.bytesLess x x = false
  | [] => by simp [Op.bytesLess]
  | a :: x => by
    have := bl_irrefl x
    simp [Op.bytesLess, this, UInt8.lt_iff_toNat_lt]
theorem bl_tri : ∀ (x y : List UInt8), x ≠ y → Op.bytesLess x y = false → Op.bytesLess y x = true
  | [], [], h, _ => absurd rfl h
  | [], _ :: _, _, h => by simp [Op.bytesLess] at h
  | _ :: _, [], _, _ => by simp [Op.bytesLess]
  | a :: x, b :: y, h, h1 => by
    by_cases e : a = b
    · subst e
      have hx : x ≠ y := fun e => h (by rw [e])
      have h1' : Op.bytesLess x y = false := by
        rw [Op.bytesLess] at h1
        simpa using (Bool.or_eq_false_iff.1 h1).2
      simp [Op.bytesLess, bl_tri x y hx h1']
    · have h2 : ¬ a < b := by
        rw [Op.bytesLess] at h1
        simpa using (Bool.or_eq_false_iff.1 h1).1
      have e' : a.toNat ≠ b.toNat := fun h => e (UInt8.toNat_inj.1 h)
      have h3 : b < a := by
        rw [UInt8.lt_iff_toNat_lt] at *
        omega
      simp [Op.bytesLess, h3]
theorem bl_asym {x y : List UInt8} (h : Op.bytesLess x y = true) : Op.bytesLess y x = false := by
  cases e : Op.bytesLess y x with
  | false => rfl
  | true =>
    have := bl_trans x y x h e
    rw [bl_irrefl] at this
    cases this
theorem beforeM_iff {a b : Msg} : beforeM a b = true ↔ Op.bytesLess a.trip b.trip = true ∨ (a.trip = b.trip ∧ (a.day < b.day ∨ (a.day = b.day ∧ (a.inst < b.inst ∨ (a.inst = b.inst ∧ a.seq < b.seq))))) := by
  unfold beforeM
  by_cases h1 : a.trip = b.trip
  · rw [if_neg (fun e => e h1), h1, bl_irrefl]
    by_cases h2 : a.day = b.day
    · rw [if_neg (fun e => e h2)]
      by_cases h3 : a.inst = b.inst
      · rw [if_neg (fun e => e h3)]
        simp [h2, h3]
      · rw [if_pos h3]
        simp [h2, h3]
    · rw [if_pos h2]
      simp [h2]
  · rw [if_pos h1]
    simp [h1]
theorem beforeM_trans {a b c : Msg} (h1 : beforeM a b = true) (h2 : beforeM b c = true) : beforeM a c = true := by
  rw [beforeM_iff] at *
  rcases h1 with h1 | ⟨e1, h1⟩ <;> rcases h2 with h2 | ⟨e2, h2⟩
  · exact .inl (bl_trans _ _ _ h1 h2)
  · exact .inl (e2 ▸ h1)
  · exact .inl (e1 ▸ h2)
  · right
    refine ⟨e1.trans e2, ?_⟩
    omega
theorem beforeM_one {a b : Msg} (h : sameT a b = false) (h1 : beforeM a b = false) : beforeM b a = true := by
  rw [beforeM_iff]
  have hn : ¬ (a.trip = b.trip ∧ a.day = b.day ∧ a.inst = b.inst) := fun e => by rw [← sameT_iff, h] at e; cases e
  have h1' : ¬ (beforeM a b = true) := by rw [h1]; decide
  rw [beforeM_iff] at h1'
  by_cases e : a.trip = b.trip
  · right
    rw [e] at h1' hn
    refine ⟨e.symm, ?_⟩
    simp only [true_and, not_or, not_and] at h1' hn
    omega
  · left
    refine bl_tri _ _ e ?_
    cases e2 : Op.bytesLess a.trip b.trip with
    | false => rfl
    | true => exact absurd (.inl e2) h1'
theorem beforeM_asym {a b : Msg} (h : beforeM a b = true) : beforeM b a = false := by
  cases e : beforeM b a with
  | false => rfl
  | true =>
    have := beforeM_trans h e
    rw [beforeM_iff, bl_irrefl] at this
    simp at this
theorem insPos_app (l r : List Msg) (m : Msg) : ∀ k, k ≤ l.length → insPos (l ++ r) m k = insPos l m k
  | 0, _ => rfl
  | k + 1, h => by
    rw [insPos, insPos, List.getElem?_append_left (by omega), insPos_app l r m k (by omega)]
theorem insM_nil (m : Msg) : insM [] m = [m] := rfl
theorem insM_snoc (l : List Msg) (x m : Msg) : insM (l ++ [x]) m = if beforeM m x = true then insM l m ++ [x] else l ++ [x, m] := by
  have hp := insPos_le l m l.length
  rw [insM, List.length_append, List.length_singleton, insPos, List.getElem?_append_right (Nat.le_refl _), Nat.sub_self]
  simp only [List.getElem?_cons_zero]
  split
  · rw [insPos_app l [x] m l.length (Nat.le_refl _), insM, List.take_append_of_le_length hp, List.drop_append_of_le_length hp]
    simp
  · rw [List.take_of_length_le (by simp), List.drop_of_length_le (by simp)]
    simp
theorem snoc_ind {P : List Msg → Prop} (h0 : P []) (h1 : ∀ l x, P l → P (l ++ [x])) (l : List Msg) : P l := by
  have key : ∀ r : List Msg, P r.reverse := fun r => by
    induction r with
    | nil => exact h0
    | cons x r ih => rw [List.reverse_cons]; exact h1 _ _ ih
  have := key l.reverse
  rwa [List.reverse_reverse] at this
theorem insM_comm1 {a b : Msg} (h1 : beforeM a b = true) (h2 : beforeM b a = false) (l : List Msg) : insM (insM l a) b = insM (insM l b) a := by
  refine snoc_ind (P := fun l => insM (insM l a) b = insM (insM l b) a) ?_ ?_ l
  · rw [insM_nil, insM_nil]
    rw [show [a] = ([] : List Msg) ++ [a] from rfl, insM_snoc, h2, show [b] = ([] : List Msg) ++ [b] from rfl, insM_snoc, h1]
    rfl
  · intro l x ih
    have two : ∀ y z : Msg, l ++ [y, z] = (l ++ [y]) ++ [z] := fun y z => by simp
    cases ea : beforeM a x <;> cases eb : beforeM b x
    · rw [insM_snoc l x a, insM_snoc l x b, ea, eb]
      simp only [Bool.false_eq_true, if_false]
      rw [two x a, two x b, insM_snoc (l ++ [x]) a b, insM_snoc (l ++ [x]) b a, h2, h1, if_pos rfl, insM_snoc l x a, ea]
      simp
    · rw [beforeM_trans h1 eb] at ea
      cases ea
    · rw [insM_snoc l x a, insM_snoc l x b, ea, eb]
      simp only [Bool.false_eq_true, if_false, if_true]
      rw [insM_snoc (insM l a) x b, eb, two x b, insM_snoc (l ++ [x]) b a, h1, if_pos rfl, insM_snoc l x a, ea]
      simp
    · rw [insM_snoc l x a, insM_snoc l x b, ea, eb]
      simp only [if_true]
      rw [insM_snoc (insM l a) x b, eb, insM_snoc (insM l b) x a, ea, if_pos rfl, if_pos rfl, ih]
theorem insM_comm {a b : Msg} (h : sameT a b = false) (l : List Msg) : insM (insM l a) b = insM (insM l b) a := by
  cases e : beforeM a b with
  | true => exact insM_comm1 e (beforeM_asym e) l
  | false => exact (insM_comm1 (beforeM_one h e) e l).symm
theorem actL_swap (C : List Msg) {a b : Msg} (h : a.src ≠ b.src) : actL (C ++ [a, b]) = actL (C ++ [b, a]) := by
  have eo : ∀ m, overB (C ++ [b, a]) m = overB (C ++ [a, b]) m := fun m => by
    simp only [overB, List.any_append, List.any_cons, List.any_nil, Bool.or_false]
    rw [Bool.or_comm (decide (b.src < m.src) && sameT b m)]
  have es : actStep (C ++ [b, a]) = actStep (C ++ [a, b]) := by
    funext out m
    rw [actStep, actStep, eo]
  have e1 : ∀ cur, actL cur = cur.foldl (actStep cur) [] := fun _ => rfl
  rw [e1, e1, es, List.foldl_append, List.foldl_append]
  generalize C.foldl (actStep (C ++ [a, b])) [] = X
  simp only [List.foldl_cons, List.foldl_nil, actStep]
  cases ea : overB (C ++ [a, b]) a <;> cases eb : overB (C ++ [a, b]) b <;> simp only [if_true, Bool.false_eq_true, if_false]
  refine insM_comm ?_ X
  cases es : sameT a b with
  | false => rfl
  | true =>
    have es' : sameT b a = true := by
      obtain ⟨x, y, z⟩ := sameT_iff.1 es
      exact sameT_iff.2 ⟨x.symm, y.symm, z.symm⟩
    rcases Int.lt_or_gt_of_ne h with hl | hl
    · simp [overB, hl, es] at eb
    · have hl' : b.src < a.src := hl
      simp [overB, hl', es'] at ea
theorem keepM_app (p : Msg → Bool) (l r : List Msg) : keepM p (l ++ r) = keepM p l ++ keepM p r := by simp [keepM]
theorem keepM_comm (p q : Msg → Bool) (hp : ∀ m, p m.own = p m) (hq : ∀ m, q m.own = q m) (l : List Msg) : keepM p (keepM q l) = keepM q (keepM p l) := by
  have e : ∀ (p q : Msg → Bool), (∀ m, p m.own = p m) → keepM p (keepM q l) = ((l.filter q).filter p).map Msg.own := fun p q hp => by
    rw [show keepM q l = (l.filter q).map Msg.own from rfl, keepM_own p hp]; rfl
  rw [e p q hp, e q p hq, List.filter_filter, List.filter_filter]
  congr 2
  funext m
  rw [Bool.and_comm]
theorem recv_two {b : Ibx} {m o : Msg} {now : Int} (h1 : recvE b m now = 0) (h2 : recvE (recvI b m now) o now = 0) (hs : m.src ≠ o.src) : ∃ (i j : Nat) (s t : Src), m.src = i ∧ o.src = j ∧ b.srcs[i]? = some s ∧ b.srcs[j]? = some t ∧ now < m.exp ∧
    recvI (recvI b m now) o now = ⟨(b.srcs.set i (recvS s m now)).set j (recvS t o now), b.pat, keepM (liveM o now) (keepM (liveM m now) b.kept) ++ [m.own, o.own]⟩ := by
  rcases recv_cases b m now with ⟨hx, _⟩ | ⟨_, _, _, _, i, s, hi, hil, hsi, hnot, e1⟩
  · exact absurd h1 hx
  rcases recv_cases (recvI b m now) o now with ⟨hx, _⟩ | ⟨_, _, _, _, j, t, hj, hjl, htj, hnot2, e2⟩
  · exact absurd h2 hx
  have hij : i ≠ j := fun e => hs (by rw [hi, hj, e])
  rw [e1] at htj
  rw [List.getElem?_set_ne hij] at htj
  have hexp : now < m.exp := by
    rcases Int.lt_or_le now m.exp with h | h
    · exact h
    · exact absurd (.inr h) hnot
  refine ⟨i, j, s, t, hi, hj, hsi, htj, hexp, ?_⟩
  rw [e2, e1]
  have hlive : liveM o now m.own = true := by
    have : superB o m.own = false := superB_src (fun e => hs e.symm)
    have h3 : now < m.own.exp := hexp
    simp [liveM, this, h3]
  have ek : recvK ⟨b.srcs.set i (recvS s m now), b.pat, recvK b m now ++ [m.own]⟩ o now ++ [o.own] = keepM (liveM o now) (keepM (liveM m now) b.kept) ++ [m.own, o.own] := by
    rw [recvK, keepM_app]
    show keepM (liveM o now) (recvK b m now) ++ keepM (liveM o now) [m.own] ++ [o.own] = _
    have e3 : keepM (liveM o now) [m.own] = [m.own] := by simp [keepM, hlive, own_own]
    rw [e3]
    simp [recvK]
  rw [ek]
/-- Two messages of different sources: the order in which they come makes no difference to what is active. -/
theorem recv_comm {b : Ibx} {m o : Msg} {now at' : Int} (h1 : recvE b m now = 0) (h2 : recvE (recvI b m now) o now = 0) (h3 : recvE b o now = 0) (h4 : recvE (recvI b o now) m now = 0) (hs : m.src ≠ o.src) : activeL (recvI (recvI b m now) o now) at' = activeL (recvI (recvI b o now) m now) at' := by
  obtain ⟨i, j, s, t, hi, hj, hsi, htj, _, e1⟩ := recv_two h1 h2 hs
  obtain ⟨j', i', t', s', hj', hi', htj', hsi', _, e2⟩ := recv_two h3 h4 (fun e => hs e.symm)
  obtain rfl : i = i' := by omega
  obtain rfl : j = j' := by omega
  rw [hsi] at hsi'
  rw [htj] at htj'
  cases hsi'
  cases htj'
  have hij : i ≠ j := fun e => hs (by rw [hi, hj, e])
  rw [e1, e2, List.set_comm _ _ hij, keepM_comm (liveM o now) (liveM m now) (fun _ => rfl) (fun _ => rfl)]
  unfold activeL
  generalize keepM (liveM m now) (keepM (liveM o now) b.kept) = K
  generalize (b.srcs.set j (recvS t o now)).set i (recvS s m now) = S
  have ec : ∀ k, curB ⟨S, b.pat, k⟩ at' = curB ⟨S, b.pat, []⟩ at' := fun _ => rfl
  dsimp only
  rw [ec, ec (K ++ [o.own, m.own])]
  generalize curB ⟨S, b.pat, []⟩ at' = p
  rw [keepM_app, keepM_app]
  cases hm : p m.own <;> cases ho : p o.own
  · simp [keepM, hm, ho]
  · simp [keepM, hm, ho]
  · simp [keepM, hm, ho]
  · have ea : keepM p [m.own, o.own] = [m.own, o.own] := by simp [keepM, hm, ho, own_own]
    have eb : keepM p [o.own, m.own] = [o.own, m.own] := by simp [keepM, hm, ho, own_own]
    rw [ea, eb]
    exact actL_swap _ hs

end Go.Vm.C

