/- The statement FarestateDominates of layer transitlaw36: for every input the law returns true, and each argument reads afterwards as before. No condition. -/
import Derived.Test.YtfjihilnldjbeaaRows
import Derived.Test.YtfjihilnldjbeaaD14
import Derived.ProofKit
namespace Go.Proofs.Ytfjihilnldjbeaa
open Go.Vm Go.Vm.C

theorem Try.ownK : ownKnob Go.Proofs.Try.prog.godebug = none := by kernel_rfl
theorem Try.laidK : laidOutB Go.Proofs.Try.prog = true := by kernel_rfl

theorem law (xs : List V) (h : HasAll [.agg ctFares, .agg ctRides] xs) : ACalls PR i_transitlaw36_FarestateDominates xs [] (fun v _ => v = .bool true) := by
    obtain ⟨_, _, rfl, ⟨_, rfl, h1⟩, k1⟩ := hasAll_cons h
    obtain ⟨_, _, rfl, ⟨_, rfl, h2⟩, k2⟩ := hasAll_cons k1
    cases hasAll_nil k2
    obtain ⟨f, rfl, hf⟩ := read_fares h1
    obtain ⟨_, _, rfl, g1, h2⟩ := hasR_cons h2
    obtain ⟨_, _, rfl, g2, h2⟩ := hasR_cons h2
    obtain ⟨_, _, rfl, g3, h2⟩ := hasR_cons h2
    cases hasR_nil h2
    obtain ⟨a, c1, rfl, ha, la⟩ := read_rides g1
    obtain ⟨b, c2, rfl, hb, lb⟩ := read_rides g2
    obtain ⟨m, c3, rfl, hm, lm⟩ := read_rides g3
    exact ACalls.mono (FarestateDominates_law f a b m c1 c2 c3 hf ha hb hm la lb lm) fun v _ hv => hv.1

set_option maxRecDepth 100000 in
theorem lifted (os : Os) (started : os.Started) (H : Type) (enc : TypeId × Value → H) :
    ReturnsInHanded {} Try.checked os 7 .any (Rows.farestateDominatesSpec.pre6 enc Try.prog Try.f7 Rows.farestateDominatesRow.domain false) (Rows.farestateDominatesSpec.post enc Try.prog Try.f7 false true false false) := by
  refine lift_law (C := Try.checked) (pts := [.agg ctFares, .agg ctRides]) (tb := Try.f7.resultTypes[0]!) Try.ownK Try.laidK started (by kernel_rfl) Try.func7 rfl (fun ds hd => ?_) (by kernel_rfl) (by kernel_rfl) (by kernel_rfl) (by kernel_rfl)
    (ChangeSpec.witness6 (enc := enc) (C := Try.checked) false ⟨#[], #[.agg #[.slice none 0 0, .int .i64 0, .int .i64 0, .int .i64 0], .agg #[.slice none 0 0, .slice none 0 0, .slice none 0 0]], []⟩ 8 (by kernel_rfl) (by kernel_rfl) (by kernel_rfl) (by kernel_rfl)) law
  match ds, hd with
  | [d0, d1], _ => rfl

theorem FarestateDominates_holds : Rows.FarestateDominatesSaid :=
  OpenClaim.holds_of_wide 7 Try.f7 rfl rfl rfl rfl rfl rfl rfl ⟨rfl, rfl, rfl, rfl, rfl⟩ rfl rfl rfl rfl rfl (by kernel_rfl) Try.func7 (by kernel_rfl)
    (of_decide_eq_true (by kernel_rfl)) (by unfold Func.isWrapper; first | (rw [if_pos (by decide +kernel)]; kernel_rfl) | (rw [if_neg (by decide +kernel)]; exact ⟨rfl, rfl⟩))
    (fun os started H enc _ => lifted os started H enc)

end Go.Proofs.Ytfjihilnldjbeaa
