/- The statement AccountRuns of layer transitlaw37: for every input the law returns true, and each argument reads afterwards as before. No condition. -/
import Derived.Test.YtojpmklnmaomlaaRows
import Derived.Test.YtojpmklnmaomlaaT15
import Derived.ProofKit
namespace Go.Proofs.Ytojpmklnmaomlaa
open Go.Vm Go.Vm.C

theorem Try.ownK : ownKnob Go.Proofs.Try.prog.godebug = none := by kernel_rfl
theorem Try.laidK : laidOutB Go.Proofs.Try.prog = true := by kernel_rfl

theorem law (xs : List V) (h : HasAll [.agg ctFares, .cell (.slice ctOper)] xs) : ACalls PR i_transitlaw37_AccountRuns xs [] (fun v _ => v = .bool true) := by
    obtain ⟨_, _, rfl, ⟨_, rfl, h1⟩, k1⟩ := hasAll_cons h
    obtain ⟨_, _, rfl, h2, k2⟩ := hasAll_cons k1
    cases hasAll_nil k2
    obtain ⟨f, rfl, hf, ht⟩ := read_fares2 h1
    obtain ⟨l, c, rfl, hl, _⟩ := read_opers h2
    exact ACalls.mono (AccountRuns_law f l c hf ht hl) fun v _ hv => hv.1

set_option maxRecDepth 100000 in
theorem lifted (os : Os) (started : os.Started) (H : Type) (enc : TypeId × Value → H) :
    ReturnsInHanded {} Try.checked os 5 .any (Rows.accountRunsSpec.pre6 enc Try.prog Try.f5 Rows.accountRunsRow.domain false) (Rows.accountRunsSpec.post enc Try.prog Try.f5 false true false false) := by
  refine lift_law (C := Try.checked) (pts := [.agg ctFares, .cell (.slice ctOper)]) (tb := Try.f5.resultTypes[0]!) Try.ownK Try.laidK started (by kernel_rfl) Try.func5 rfl (fun ds hd => ?_) (by kernel_rfl) (by kernel_rfl) (by kernel_rfl) (by kernel_rfl)
    (ChangeSpec.witness6 (enc := enc) (C := Try.checked) false ⟨#[], #[.agg #[.slice none 0 0, .int .i64 0, .int .i64 0, .int .i64 0], .slice none 0 0], []⟩ 8 (by kernel_rfl) (by kernel_rfl) (by kernel_rfl) (by kernel_rfl)) law
  match ds, hd with
  | [d0, d1], _ => rfl

theorem AccountRuns_holds : Rows.AccountRunsSaid :=
  OpenClaim.holds_of_wide 5 Try.f5 rfl rfl rfl rfl rfl rfl rfl ⟨rfl, rfl, rfl, rfl, rfl⟩ rfl rfl rfl rfl rfl (by kernel_rfl) Try.func5 (by kernel_rfl)
    (of_decide_eq_true (by kernel_rfl)) (by unfold Func.isWrapper; first | (rw [if_pos (by decide +kernel)]; kernel_rfl) | (rw [if_neg (by decide +kernel)]; exact ⟨rfl, rfl⟩))
    (fun os started H enc _ => lifted os started H enc)

end Go.Proofs.Ytojpmklnmaomlaa
