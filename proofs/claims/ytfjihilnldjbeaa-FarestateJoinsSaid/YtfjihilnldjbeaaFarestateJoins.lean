/- The statement FarestateJoins of layer transitlaw36: for every input the law returns true, and each argument reads afterwards as before. No condition. -/
import Derived.Test.YtfjihilnldjbeaaRows
import Derived.Test.YtfjihilnldjbeaaT15
import Derived.ProofKit
namespace Go.Proofs.Ytfjihilnldjbeaa
open Go.Vm Go.Vm.C

theorem Try.ownK : ownKnob Go.Proofs.Try.prog.godebug = none := by kernel_rfl
theorem Try.laidK : laidOutB Go.Proofs.Try.prog = true := by kernel_rfl

theorem law (xs : List V) (h : HasAll [.agg ctFares, .cell (.slice ctRide), .agg ctRide] xs) : ACalls PR i_transitlaw36_FarestateJoins xs [] (fun v _ => v = .bool true) := by
    obtain ⟨_, _, rfl, ⟨_, rfl, h1⟩, k1⟩ := hasAll_cons h
    obtain ⟨_, _, rfl, h2, k2⟩ := hasAll_cons k1
    obtain ⟨_, _, rfl, ⟨_, rfl, h3⟩, k3⟩ := hasAll_cons k2
    cases hasAll_nil k3
    obtain ⟨f, rfl, hf⟩ := read_fares h1
    obtain ⟨l, c, rfl, hl, _⟩ := read_rides h2
    obtain ⟨a, rfl, ha⟩ := read_ride h3
    exact ACalls.mono (FarestateJoins_law f l c a hf hl ha) fun v _ hv => hv.1

set_option maxRecDepth 100000 in
theorem lifted (os : Os) (started : os.Started) (H : Type) (enc : TypeId × Value → H) :
    ReturnsInHanded {} Try.checked os 9 .any (Rows.farestateJoinsSpec.pre6 enc Try.prog Try.f9 Rows.farestateJoinsRow.domain false) (Rows.farestateJoinsSpec.post enc Try.prog Try.f9 false true false false) := by
  refine lift_law (C := Try.checked) (pts := [.agg ctFares, .cell (.slice ctRide), .agg ctRide]) (tb := Try.f9.resultTypes[0]!) Try.ownK Try.laidK started (by kernel_rfl) Try.func9 rfl (fun ds hd => ?_) (by kernel_rfl) (by kernel_rfl) (by kernel_rfl) (by kernel_rfl)
    (ChangeSpec.witness6 (enc := enc) (C := Try.checked) false ⟨#[], #[.agg #[.slice none 0 0, .int .i64 0, .int .i64 0, .int .i64 0], .slice none 0 0, .agg #[.int .i64 0, .int .i64 0, .int .i64 0, .int .i64 0]], []⟩ 8 (by kernel_rfl) (by kernel_rfl) (by kernel_rfl) (by kernel_rfl)) law
  match ds, hd with
  | [d0, d1, d2], _ => rfl

theorem FarestateJoins_holds : Rows.FarestateJoinsSaid :=
  OpenClaim.holds_of_wide 9 Try.f9 rfl rfl rfl rfl rfl rfl rfl ⟨rfl, rfl, rfl, rfl, rfl⟩ rfl rfl rfl rfl rfl (by kernel_rfl) Try.func9 (by kernel_rfl)
    (of_decide_eq_true (by kernel_rfl)) (by unfold Func.isWrapper; first | (rw [if_pos (by decide +kernel)]; kernel_rfl) | (rw [if_neg (by decide +kernel)]; exact ⟨rfl, rfl⟩))
    (fun os started H enc _ => lifted os started H enc)

end Go.Proofs.Ytfjihilnldjbeaa
