/- The statement IntervalMeasures of layer transitlaw08: for every input the law returns true, and each argument reads afterwards as before. No condition. -/
import Derived.Test.YtoikggblbknapaaRows
import Derived.Test.YtoikggblbknapaaT4
import Derived.ProofKit
namespace Go.Proofs.Ytoikggblbknapaa
open Go.Vm Go.Vm.C

theorem Try.ownK : ownKnob Go.Proofs.Try.prog.godebug = none := by kernel_rfl
theorem Try.laidK : laidOutB Go.Proofs.Try.prog = true := by kernel_rfl

theorem law (xs : List V) (h : HasAll [.cell (.slice ctSpan), .cell (.slice ctSpan)] xs) : ACalls PR i_transitlaw08_IntervalMeasures xs [] (fun v _ => v = .bool true) := by
    obtain ⟨_, _, rfl, h1, k1⟩ := hasAll_cons h
    obtain ⟨_, _, rfl, h2, k2⟩ := hasAll_cons k1
    cases hasAll_nil k2
    obtain ⟨a, c, rfl, ha⟩ := read_spans h1
    obtain ⟨b, d, rfl, hb⟩ := read_spans h2
    exact ACalls.mono (IntervalMeasures_law a b c d) fun v _ hv => hv.1

set_option maxRecDepth 100000 in
theorem lifted (os : Os) (started : os.Started) (H : Type) (enc : TypeId × Value → H) :
    ReturnsInHanded {} Try.checked os 10 .any (Rows.intervalMeasuresSpec.pre6 enc Try.prog Try.f10 Rows.intervalMeasuresRow.domain false) (Rows.intervalMeasuresSpec.post enc Try.prog Try.f10 false true false false) := by
  refine lift_law (C := Try.checked) (pts := [.cell (.slice ctSpan), .cell (.slice ctSpan)]) (tb := Try.f10.resultTypes[0]!) Try.ownK Try.laidK started (by kernel_rfl) Try.func10 rfl (fun ds hd => ?_) (by kernel_rfl) (by kernel_rfl) (by kernel_rfl) (by kernel_rfl)
    (ChangeSpec.witness6 (enc := enc) (C := Try.checked) false ⟨#[], #[.slice none 0 0, .slice none 0 0], []⟩ 8 (by kernel_rfl) (by kernel_rfl) (by kernel_rfl) (by kernel_rfl)) law
  match ds, hd with
  | [d0, d1], _ => rfl

theorem IntervalMeasures_holds : Rows.IntervalMeasuresSaid :=
  OpenClaim.holds_of_wide 10 Try.f10 rfl rfl rfl rfl rfl rfl rfl ⟨rfl, rfl, rfl, rfl, rfl⟩ rfl rfl rfl rfl rfl (by kernel_rfl) Try.func10 (by kernel_rfl)
    (of_decide_eq_true (by kernel_rfl)) (by unfold Func.isWrapper; first | (rw [if_pos (by decide +kernel)]; kernel_rfl) | (rw [if_neg (by decide +kernel)]; exact ⟨rfl, rfl⟩))
    (fun os started H enc _ => lifted os started H enc)

end Go.Proofs.Ytoikggblbknapaa
