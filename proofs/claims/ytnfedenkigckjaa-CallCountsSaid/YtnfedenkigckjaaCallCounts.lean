/- The statement CallCounts of layer transitlaw16: for every input the law returns true, and each argument reads afterwards as before. No condition. -/
import Derived.Test.YtnfedenkigckjaaRows
import Derived.Test.YtnfedenkigckjaaT7
import Derived.ProofKit
namespace Go.Proofs.Ytnfedenkigckjaa
open Go.Vm Go.Vm.C

theorem Try.ownK : ownKnob Go.Proofs.Try.prog.godebug = none := by kernel_rfl
theorem Try.laidK : laidOutB Go.Proofs.Try.prog = true := by kernel_rfl

theorem law (xs : List V) (h : HasAll [.cell (.slice ctStay), .agg ctBounds] xs) : ACalls PR i_transitlaw16_CallCounts xs [] (fun v _ => v = .bool true) := by
    obtain ⟨_, _, rfl, h1, k1⟩ := hasAll_cons h
    obtain ⟨_, _, rfl, ⟨_, rfl, h2⟩, k2⟩ := hasAll_cons k1
    cases hasAll_nil k2
    obtain ⟨l, c, rfl, hl, _⟩ := read_stays h1
    obtain ⟨a, b, d, rfl, _, _, _⟩ := read_bounds h2
    exact ACalls.mono (CallCounts_law l c a b d) fun v _ hv => hv.1

set_option maxRecDepth 100000 in
theorem lifted (os : Os) (started : os.Started) (H : Type) (enc : TypeId × Value → H) :
    ReturnsInHanded {} Try.checked os 7 .any (Rows.callCountsSpec.pre6 enc Try.prog Try.f7 Rows.callCountsRow.domain false) (Rows.callCountsSpec.post enc Try.prog Try.f7 false true false false) := by
  refine lift_law (C := Try.checked) (pts := [.cell (.slice ctStay), .agg ctBounds]) (tb := Try.f7.resultTypes[0]!) Try.ownK Try.laidK started (by kernel_rfl) Try.func7 rfl (fun ds hd => ?_) (by kernel_rfl) (by kernel_rfl) (by kernel_rfl) (by kernel_rfl)
    (ChangeSpec.witness6 (enc := enc) (C := Try.checked) false ⟨#[], #[.slice none 0 0, .agg #[.int .i64 0, .int .i64 0, .int .i64 0]], []⟩ 8 (by kernel_rfl) (by kernel_rfl) (by kernel_rfl) (by kernel_rfl)) law
  match ds, hd with
  | [d0, d1], _ => rfl

theorem CallCounts_holds : Rows.CallCountsSaid :=
  OpenClaim.holds_of_wide 7 Try.f7 rfl rfl rfl rfl rfl rfl rfl ⟨rfl, rfl, rfl, rfl, rfl⟩ rfl rfl rfl rfl rfl (by kernel_rfl) Try.func7 (by kernel_rfl)
    (of_decide_eq_true (by kernel_rfl)) (by unfold Func.isWrapper; first | (rw [if_pos (by decide +kernel)]; kernel_rfl) | (rw [if_neg (by decide +kernel)]; exact ⟨rfl, rfl⟩))
    (fun os started H enc _ => lifted os started H enc)

end Go.Proofs.Ytnfedenkigckjaa
