/- The statement ProductCovers of layer transitlaw21: for every input the law returns true, and each argument reads afterwards as before. No condition. -/
import Derived.Test.YtcgejpmgaaghkaaRows
import Derived.Test.YtcgejpmgaaghkaaT7
import Derived.ProofKit
namespace Go.Proofs.Ytcgejpmgaaghkaa
open Go.Vm Go.Vm.C

theorem Try.ownK : ownKnob Go.Proofs.Try.prog.godebug = none := by kernel_rfl
theorem Try.laidK : laidOutB Go.Proofs.Try.prog = true := by kernel_rfl

theorem law (xs : List V) (h : HasAll [.agg ctProduct, .cell (.slice ctRide), .cell (.int .i64)] xs) : ACalls PR i_transitlaw21_ProductCovers xs [] (fun v _ => v = .bool true) := by
    obtain ⟨_, _, rfl, ⟨_, rfl, h1⟩, k1⟩ := hasAll_cons h
    obtain ⟨_, _, rfl, h2, k2⟩ := hasAll_cons k1
    obtain ⟨_, _, rfl, h3, k3⟩ := hasAll_cons k2
    cases hasAll_nil k3
    obtain ⟨p, rfl, hp⟩ := read_product h1
    obtain ⟨l, c, rfl, hl, hlen⟩ := read_rides h2
    obtain ⟨m, rfl, _⟩ := hasC_i64 h3
    exact ACalls.mono (ProductCovers_law p l c m hp hl hlen) fun v _ hv => hv.1

set_option maxRecDepth 100000 in
theorem lifted (os : Os) (started : os.Started) (H : Type) (enc : TypeId × Value → H) :
    ReturnsInHanded {} Try.checked os 7 .any (Rows.productCoversSpec.pre6 enc Try.prog Try.f7 Rows.productCoversRow.domain false) (Rows.productCoversSpec.post enc Try.prog Try.f7 false true false false) := by
  refine lift_law (C := Try.checked) (pts := [.agg ctProduct, .cell (.slice ctRide), .cell (.int .i64)]) (tb := Try.f7.resultTypes[0]!) Try.ownK Try.laidK started (by kernel_rfl) Try.func7 rfl (fun ds hd => ?_) (by kernel_rfl) (by kernel_rfl) (by kernel_rfl) (by kernel_rfl)
    (ChangeSpec.witness6 (enc := enc) (C := Try.checked) false ⟨#[], #[.agg #[.string ⟨#[]⟩, .int .i64 0, .int .i64 0, .int .i64 0, .int .i64 0, .int .i64 0], .slice none 0 0, .int .i64 0], []⟩ 8 (by kernel_rfl) (by kernel_rfl) (by kernel_rfl) (by kernel_rfl)) law
  match ds, hd with
  | [d0, d1, d2], _ => rfl

theorem ProductCovers_holds : Rows.ProductCoversSaid :=
  OpenClaim.holds_of_wide 7 Try.f7 rfl rfl rfl rfl rfl rfl rfl ⟨rfl, rfl, rfl, rfl, rfl⟩ rfl rfl rfl rfl rfl (by kernel_rfl) Try.func7 (by kernel_rfl)
    (of_decide_eq_true (by kernel_rfl)) (by unfold Func.isWrapper; first | (rw [if_pos (by decide +kernel)]; kernel_rfl) | (rw [if_neg (by decide +kernel)]; exact ⟨rfl, rfl⟩))
    (fun os started H enc _ => lifted os started H enc)

end Go.Proofs.Ytcgejpmgaaghkaa
