/- The statement InboxNil of layer transitlaw32: for every input the law returns true, and each argument reads afterwards as before. No condition. -/
import Derived.Test.YtmbeokppfdalfaaRows
import Derived.Test.YtmbeokppfdalfaaT2
import Derived.ProofKit
namespace Go.Proofs.Ytmbeokppfdalfaa
open Go.Vm Go.Vm.C

theorem Try.ownK : ownKnob Go.Proofs.Try.prog.godebug = none := by kernel_rfl
theorem Try.laidK : laidOutB Go.Proofs.Try.prog = true := by kernel_rfl

theorem law (xs : List V) (h : HasAll [.agg ctOper] xs) : ACalls PR i_transitlaw32_InboxNil xs [] (fun v _ => v = .bool true) := by
    obtain ⟨_, _, rfl, ⟨_, rfl, h1⟩, k1⟩ := hasAll_cons h
    cases hasAll_nil k1
    obtain ⟨o, rfl, _⟩ := read_oper h1
    exact ACalls.mono (InboxNil_law o) fun v _ hv => hv.1

set_option maxRecDepth 100000 in
theorem lifted (os : Os) (started : os.Started) (H : Type) (enc : TypeId × Value → H) :
    ReturnsInHanded {} Try.checked os 9 .any (Rows.inboxNilSpec.pre6 enc Try.prog Try.f9 Rows.inboxNilRow.domain false) (Rows.inboxNilSpec.post enc Try.prog Try.f9 false true false false) := by
  refine lift_law (C := Try.checked) (pts := [.agg ctOper]) (tb := Try.f9.resultTypes[0]!) Try.ownK Try.laidK started (by kernel_rfl) Try.func9 rfl (fun ds hd => ?_) (by kernel_rfl) (by kernel_rfl) (by kernel_rfl) (by kernel_rfl)
    (ChangeSpec.witness6 (enc := enc) (C := Try.checked) false ⟨#[], #[.agg #[.int .i64 0, .int .i64 0, .int .i64 0, .int .i64 0, .int .i64 0, .int .i64 0, .string ⟨#[]⟩, .int .i64 0, .int .i64 0, .int .i64 0, .int .i64 0, .int .i64 0, .bool false, .slice none 0 0, .int .i64 0, .int .i64 0]], []⟩ 8 (by kernel_rfl) (by kernel_rfl) (by kernel_rfl) (by kernel_rfl)) law
  match ds, hd with
  | [d0], _ => rfl

theorem InboxNil_holds : Rows.InboxNilSaid :=
  OpenClaim.holds_of_wide 9 Try.f9 rfl rfl rfl rfl rfl rfl rfl ⟨rfl, rfl, rfl, rfl, rfl⟩ rfl rfl rfl rfl rfl (by kernel_rfl) Try.func9 (by kernel_rfl)
    (of_decide_eq_true (by kernel_rfl)) (by unfold Func.isWrapper; first | (rw [if_pos (by decide +kernel)]; kernel_rfl) | (rw [if_neg (by decide +kernel)]; exact ⟨rfl, rfl⟩))
    (fun os started H enc _ => lifted os started H enc)

end Go.Proofs.Ytmbeokppfdalfaa
