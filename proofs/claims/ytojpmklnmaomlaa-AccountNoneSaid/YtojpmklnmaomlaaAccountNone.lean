/- The statement AccountNone of layer transitlaw37: for every input the law returns true, and each argument reads afterwards as before. No condition. -/
import Derived.Test.YtojpmklnmaomlaaRows
import Derived.Test.YtojpmklnmaomlaaT12
import Derived.ProofKit
namespace Go.Proofs.Ytojpmklnmaomlaa
open Go.Vm Go.Vm.C

theorem Try.ownK : ownKnob Go.Proofs.Try.prog.godebug = none := by kernel_rfl
theorem Try.laidK : laidOutB Go.Proofs.Try.prog = true := by kernel_rfl

theorem law (xs : List V) (h : HasAll [.cell (.int .i64), .cell (.int .i64)] xs) : ACalls PR i_transitlaw37_AccountNone xs [] (fun v _ => v = .bool true) := by
    obtain ⟨_, _, rfl, h1, k1⟩ := hasAll_cons h
    obtain ⟨_, _, rfl, h2, k2⟩ := hasAll_cons k1
    cases hasAll_nil k2
    obtain ⟨d, rfl, _⟩ := hasC_i64 h1
    obtain ⟨n, rfl, _⟩ := hasC_i64 h2
    exact ACalls.mono (AccountNone_law d n) fun v _ hv => hv.1

set_option maxRecDepth 100000 in
theorem lifted (os : Os) (started : os.Started) (H : Type) (enc : TypeId × Value → H) :
    ReturnsInHanded {} Try.checked os 6 .any (Rows.accountNoneSpec.pre6 enc Try.prog Try.f6 Rows.accountNoneRow.domain false) (Rows.accountNoneSpec.post enc Try.prog Try.f6 false true false false) := by
  refine lift_law (C := Try.checked) (pts := [.cell (.int .i64), .cell (.int .i64)]) (tb := Try.f6.resultTypes[0]!) Try.ownK Try.laidK started (by kernel_rfl) Try.func6 rfl (fun ds hd => ?_) (by kernel_rfl) (by kernel_rfl) (by kernel_rfl) (by kernel_rfl)
    (ChangeSpec.witness6 (enc := enc) (C := Try.checked) false ⟨#[], #[.int .i64 0, .int .i64 0], []⟩ 8 (by kernel_rfl) (by kernel_rfl) (by kernel_rfl) (by kernel_rfl)) law
  match ds, hd with
  | [d0, d1], _ => rfl

theorem AccountNone_holds : Rows.AccountNoneSaid :=
  OpenClaim.holds_of_wide 6 Try.f6 rfl rfl rfl rfl rfl rfl rfl ⟨rfl, rfl, rfl, rfl, rfl⟩ rfl rfl rfl rfl rfl (by kernel_rfl) Try.func6 (by kernel_rfl)
    (of_decide_eq_true (by kernel_rfl)) (by unfold Func.isWrapper; first | (rw [if_pos (by decide +kernel)]; kernel_rfl) | (rw [if_neg (by decide +kernel)]; exact ⟨rfl, rfl⟩))
    (fun os started H enc _ => lifted os started H enc)

end Go.Proofs.Ytojpmklnmaomlaa
