/- The statement CallEquals of layer transitlaw16: for every input the law returns true, and each argument reads afterwards as before. No condition. -/
import Derived.Test.YtnfedenkigckjaaRows
import Derived.Test.YtnfedenkigckjaaT7
import Derived.ProofKit
namespace Go.Proofs.Ytnfedenkigckjaa
open Go.Vm Go.Vm.C

theorem Try.ownK : ownKnob Go.Proofs.Try.prog.godebug = none := by kernel_rfl
theorem Try.laidK : laidOutB Go.Proofs.Try.prog = true := by kernel_rfl

theorem law (xs : List V) (h : HasAll [.cell (.slice ctStay), .cell (.slice ctStay)] xs) : ACalls PR i_transitlaw16_CallEquals xs [] (fun v _ => v = .bool true) := by
    obtain ⟨_, _, rfl, h1, k1⟩ := hasAll_cons h
    obtain ⟨_, _, rfl, h2, k2⟩ := hasAll_cons k1
    cases hasAll_nil k2
    obtain ⟨l, c, rfl, hl, _⟩ := read_stays h1
    obtain ⟨m, d, rfl, _, _⟩ := read_stays h2
    exact ACalls.mono (CallEquals_law l m c d) fun v _ hv => hv.1

set_option maxRecDepth 100000 in
theorem lifted (os : Os) (started : os.Started) (H : Type) (enc : TypeId × Value → H) :
    ReturnsInHanded {} Try.checked os 10 .any (Rows.callEqualsSpec.pre6 enc Try.prog Try.f10 Rows.callEqualsRow.domain false) (Rows.callEqualsSpec.post enc Try.prog Try.f10 false true false false) := by
  refine lift_law (C := Try.checked) (pts := [.cell (.slice ctStay), .cell (.slice ctStay)]) (tb := Try.f10.resultTypes[0]!) Try.ownK Try.laidK started (by kernel_rfl) Try.func10 rfl (fun ds hd => ?_) (by kernel_rfl) (by kernel_rfl) (by kernel_rfl) (by kernel_rfl)
    (ChangeSpec.witness6 (enc := enc) (C := Try.checked) false ⟨#[], #[.slice none 0 0, .slice none 0 0], []⟩ 8 (by kernel_rfl) (by kernel_rfl) (by kernel_rfl) (by kernel_rfl)) law
  match ds, hd with
  | [d0, d1], _ => rfl

theorem CallEquals_holds : Rows.CallEqualsSaid :=
  OpenClaim.holds_of_wide 10 Try.f10 rfl rfl rfl rfl rfl rfl rfl ⟨rfl, rfl, rfl, rfl, rfl⟩ rfl rfl rfl rfl rfl (by kernel_rfl) Try.func10 (by kernel_rfl)
    (of_decide_eq_true (by kernel_rfl)) (by unfold Func.isWrapper; first | (rw [if_pos (by decide +kernel)]; kernel_rfl) | (rw [if_neg (by decide +kernel)]; exact ⟨rfl, rfl⟩))
    (fun os started H enc _ => lifted os started H enc)

end Go.Proofs.Ytnfedenkigckjaa
