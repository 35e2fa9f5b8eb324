/- The statement CallMoves of layer transitlaw16: for every input the law returns true, and each argument reads afterwards as before. No condition. -/
import Derived.Test.YtnfedenkigckjaaRows
import Derived.Test.YtnfedenkigckjaaT7
import Derived.ProofKit
namespace Go.Proofs.Ytnfedenkigckjaa
open Go.Vm Go.Vm.C

theorem Try.ownK : ownKnob Go.Proofs.Try.prog.godebug = none := by kernel_rfl
theorem Try.laidK : laidOutB Go.Proofs.Try.prog = true := by kernel_rfl

theorem law (xs : List V) (h : HasAll [.cell (.slice ctStay), .agg ctBounds, .cell (.int .i64)] xs) : ACalls PR i_transitlaw16_CallMoves xs [] (fun v _ => v = .bool true) := by
    obtain ⟨_, _, rfl, h1, k1⟩ := hasAll_cons h
    obtain ⟨_, _, rfl, ⟨_, rfl, h2⟩, k2⟩ := hasAll_cons k1
    obtain ⟨_, _, rfl, h3, k3⟩ := hasAll_cons k2
    cases hasAll_nil k3
    obtain ⟨l, c, rfl, hl, _⟩ := read_stays h1
    obtain ⟨a, b, d, rfl, _, _, _⟩ := read_bounds h2
    obtain ⟨s, rfl, _⟩ := hasC_i64 h3
    exact ACalls.mono (CallMoves_law l c a b d s) fun v _ hv => hv.1

set_option maxRecDepth 100000 in
theorem lifted (os : Os) (started : os.Started) (H : Type) (enc : TypeId × Value → H) :
    ReturnsInHanded {} Try.checked os 9 .any (Rows.callMovesSpec.pre6 enc Try.prog Try.f9 Rows.callMovesRow.domain false) (Rows.callMovesSpec.post enc Try.prog Try.f9 false true false false) := by
  refine lift_law (C := Try.checked) (pts := [.cell (.slice ctStay), .agg ctBounds, .cell (.int .i64)]) (tb := Try.f9.resultTypes[0]!) Try.ownK Try.laidK started (by kernel_rfl) Try.func9 rfl (fun ds hd => ?_) (by kernel_rfl) (by kernel_rfl) (by kernel_rfl) (by kernel_rfl)
    (ChangeSpec.witness6 (enc := enc) (C := Try.checked) false ⟨#[], #[.slice none 0 0, .agg #[.int .i64 0, .int .i64 0, .int .i64 0], .int .i64 0], []⟩ 8 (by kernel_rfl) (by kernel_rfl) (by kernel_rfl) (by kernel_rfl)) law
  match ds, hd with
  | [d0, d1, d2], _ => rfl

theorem CallMoves_holds : Rows.CallMovesSaid :=
  OpenClaim.holds_of_wide 9 Try.f9 rfl rfl rfl rfl rfl rfl rfl ⟨rfl, rfl, rfl, rfl, rfl⟩ rfl rfl rfl rfl rfl (by kernel_rfl) Try.func9 (by kernel_rfl)
    (of_decide_eq_true (by kernel_rfl)) (by unfold Func.isWrapper; first | (rw [if_pos (by decide +kernel)]; kernel_rfl) | (rw [if_neg (by decide +kernel)]; exact ⟨rfl, rfl⟩))
    (fun os started H enc _ => lifted os started H enc)

end Go.Proofs.Ytnfedenkigckjaa
