/- Copies; what is done to another inbox. -/
import Derived.Test.YtmbeokppfdalfaaT11

namespace Go.Vm.C
open Go.Vm
set_option maxHeartbeats 1000000
set_option maxRecDepth 10000
set_option linter.unusedSimpArgs false
set_option linter.unusedVariables false

/-! ### Copies -/
def Ibx.own (b : Ibx) : Ibx := ⟨b.srcs, b.pat, b.kept.map Msg.own⟩
theorem app_clone {M : Mem} {sid : Nat} {l : List Src} (h : M[sid]? = some (.arr 4 (l.map Src.row) 0 0)) (h1 : 1 ≤ l.length) (h8 : l.length ≤ 8) : appV false 4 32 (.slice [] .nil) (.mslice sid 0 0 l.length) M = some (.mslice M.length 0 0 l.length, M ++ [.arr 4 (l.map Src.row) 0 0]) := by
  have ht : (l.map Src.row).take l.length = l.map Src.row := List.take_of_length_le (by simp)
  cases l with
  | nil => simp at h1
  | cons s r =>
    simp only [appV, rowsV, h, beq_self_eq_true, Bool.and_true, Nat.zero_add, List.length_map, Nat.le_refl, decide_true, cond_true, List.drop_zero, ht]
    simp only [List.map_cons, List.length_cons] at *
    have e : decide ((r.length + 1) * 64 ≤ 281474976710656) = true := decide_eq_true (by omega)
    simp [appendV, headLen]
    rw [e]
    rfl
theorem Ibx.Ok.own {b : Ibx} (h : b.Ok) : b.own.Ok := ⟨h.n1, h.n8, h.pat, h.last, by simpa [Ibx.own] using h.kept, fun m hm => by
  obtain ⟨y, hy, rfl⟩ := List.mem_map.1 hm
  exact h.msg y hy⟩
theorem keepM_own (p : Msg → Bool) (hp : ∀ m, p m.own = p m) (l : List Msg) : keepM p (l.map Msg.own) = keepM p l := by
  rw [keepM, List.filter_map, List.map_map]
  have e : (p ∘ Msg.own) = p := funext hp
  rw [e]; rfl
theorem active_own (b : Ibx) (now : Int) : activeL b.own now = activeL b now := by
  unfold activeL
  have e : curB b.own now = curB b now := rfl
  rw [e]
  exact congrArg actL (keepM_own _ (fun _ => rfl) _)
/-- What is done to another inbox leaves this one. -/
theorem InAt.fr {M L N : Mem} {b : Ibx} {id sid i2 s2 : Nat} (h : InAt M b id sid) (hf : Fr (M ++ L) N i2 s2) (h1 : M.length ≤ i2) (h2 : M.length ≤ s2) (hN : memUnder N.length N = true) : InAt N b id sid := by
  obtain ⟨kv, hb, hk⟩ := h.box
  obtain ⟨q1, q2, _⟩ := h.lt
  have get : ∀ {j : Nat} {B : Blk}, M[j]? = some B → N[j]? = some B := fun {j B} hj => by
    have hlt := (List.getElem?_eq_some_iff.1 hj).1
    rw [hf.2 j (by simp; omega) (by omega) (by omega), List.getElem?_append_left hlt]
    exact hj
  refine ⟨hN, get h.src, kv, get hb, ?_⟩
  rcases hk with ⟨c, rfl⟩ | ⟨kid, ver, rfl, h3⟩
  · exact .inl ⟨c, rfl⟩
  · exact .inr ⟨kid, ver, rfl, get h3⟩
theorem activeL_calls {b : Ibx} (hok : b.Ok) (now : Int) : (activeL b now).length ≤ 256 ∧ ∀ x ∈ activeL b now, x.calls.length ≤ 1000 := by
  refine ⟨?_, fun x hx => ?_⟩
  · have h2 := actUp_len (keepM (curB b now) b.kept) (keepM (curB b now) b.kept).length
    rw [actUp_all] at h2
    exact Nat.le_trans h2 (Nat.le_trans (keepM_len _ _) hok.kept)
  · have hx2 : x ∈ keepM (curB b now) b.kept := (mem_actL.1 hx).1
    obtain ⟨y, hy, _, rfl⟩ := mem_keepM hx2
    have := (hok.msg y hy).2.1
    show y.calls.length ≤ 1000
    omega

/-! ### The statement InboxClones -/
end Go.Vm.C

