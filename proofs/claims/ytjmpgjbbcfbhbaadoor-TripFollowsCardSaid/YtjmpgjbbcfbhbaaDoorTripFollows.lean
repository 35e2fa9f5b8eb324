/- The statement TripFollows of layer transitlaw17: for every input the law returns true, and each argument reads afterwards as before. The card: the tables that the row lists are tied to the program's text. -/
import Derived.Test.YtjmpgjbbcfbhbaaDoorRows
import Derived.Test.YtjmpgjbbcfbhbaaDoorCards
import Derived.Test.YtjmpgjbbcfbhbaaDoorTie
import Derived.Test.YtjmpgjbbcfbhbaaDoorT8
import Derived.ProofKit
import Derived.OpenShut
import Derived.LaidMore
import Derived.Lay
import Derived.SevenTiedAt
import Derived.Stop.Joined
namespace Go.Proofs.YtjmpgjbbcfbhbaaDoor
open Go.Vm Go.Vm.C Go.ChangeShapes Go.WideShapes Go.ChangeAt Go.RowKit

theorem TripFollows.ownK : ownKnob Go.Proofs.Tryd.prog.godebug = none := by kernel_rfl
theorem TripFollows.laidK : laidOutB Go.Proofs.Tryd.prog = true := by kernel_rfl

theorem law (xs : List V) (h : HasAll [.agg ctTrip, .cell (.int .i64)] xs) : ACalls PR i_transitlaw17_TripFollows xs [] (fun v _ => v = .bool true) := by
    obtain ⟨_, _, rfl, ⟨_, rfl, h1⟩, k1⟩ := hasAll_cons h
    obtain ⟨_, _, rfl, h2, k2⟩ := hasAll_cons k1
    cases hasAll_nil k2
    obtain ⟨a, rfl, _⟩ := read_trip h1
    obtain ⟨s, rfl, _⟩ := hasC_i64 h2
    exact ACalls.mono (Follows_law a s) fun v _ hv => hv.1

set_option maxRecDepth 100000 in
theorem lifted (os : Os) (started : os.Started) (H : Type) (enc : TypeId × Value → H) :
    ReturnsInHanded {} Tryd.checked os 10 .any (fun w args => (Rows.tripFollowsSpec.pre enc Tryd.prog Tryd.f10 Rows.tripFollowsRow.domain false w args ∧ laidMetH Tryd.prog [("math/bits.deBruijn32tab", Rows.laid_math_bits_deBruijn32tab), ("math/bits.deBruijn64tab", Rows.laid_math_bits_deBruijn64tab), ("internal/strconv.uint64pow10", Rows.laid_internal_strconv_uint64pow10)] w) ∧ sizedMet enc Tryd.prog Tryd.f10 (OpenSpec.ofChange Rows.tripFollowsSpec) false w args) (Rows.tripFollowsSpec.post enc Tryd.prog Tryd.f10 false true false false) := by
  refine lift_laid (C := Tryd.checked) (pts := [.agg ctTrip, .cell (.int .i64)]) (tb := Tryd.f10.resultTypes[0]!) (laid := [("math/bits.deBruijn32tab", Rows.laid_math_bits_deBruijn32tab), ("math/bits.deBruijn64tab", Rows.laid_math_bits_deBruijn64tab), ("internal/strconv.uint64pow10", Rows.laid_internal_strconv_uint64pow10)]) TripFollows.ownK TripFollows.laidK started (by kernel_rfl) Tryd.func10 rfl (fun ds hd => ?_) (by kernel_rfl) (by kernel_rfl) (by kernel_rfl) (by kernel_rfl) gt_of_laid
    (ChangeSpec.witness_shaped (enc := enc) (C := Tryd.checked) (os := os) (X := fun w _ => laidMetH Tryd.prog [("math/bits.deBruijn32tab", Rows.laid_math_bits_deBruijn32tab), ("math/bits.deBruijn64tab", Rows.laid_math_bits_deBruijn64tab), ("internal/strconv.uint64pow10", Rows.laid_internal_strconv_uint64pow10)] w) false (World.laidAll Tryd.prog os [("math/bits.deBruijn32tab", Rows.laid_math_bits_deBruijn32tab), ("math/bits.deBruijn64tab", Rows.laid_math_bits_deBruijn64tab), ("internal/strconv.uint64pow10", Rows.laid_internal_strconv_uint64pow10)]) #[.agg #[.string ⟨#[]⟩, .int .i64 0, .int .i64 0, .bool false, .slice none 0 0], .int .i64 0] 8 (World.laidAll_os _ _ _)
      (World.shaped_of_ZipB (by kernel_rfl) (by kernel_rfl)) (by kernel_rfl) (by kernel_rfl) (by kernel_rfl)
      (by rw [MakeChecks.laidMetH_plain _ _ _ (by kernel_rfl)]; exact laidMet_laidAll _ (by kernel_rfl) (by kernel_rfl))) law
  match ds, hd with
  | [d0, d1], _ => rfl

theorem TripFollows_holds : Rows.TripFollowsSaid :=
  OpenClaim.holds_of_wide 10 Tryd.f10 rfl rfl rfl rfl rfl rfl rfl ⟨rfl, rfl, rfl, rfl, rfl⟩ rfl rfl rfl rfl rfl (by kernel_rfl) Tryd.func10 (by kernel_rfl)
    (of_decide_eq_true (by kernel_rfl)) (by unfold Func.isWrapper; first | (rw [if_pos (by decide +kernel)]; kernel_rfl) | (rw [if_neg (by decide +kernel)]; exact ⟨rfl, rfl⟩))
    (fun os started H enc _ => lifted os started H enc)

theorem TripFollowsCard_holds : Rows.TripFollowsCardSaid :=
  Claim7.holds_tied_plain_at .later [] [.data, .data, .data] true (true, "f07ea93e949dd8ea32db35bc25b6510ca3c238d111fe4a18def748bb99b5b761") false TripFollows_holds (fun _ h => by cases h) (by kernel_rfl) (fun _ h => by cases h) tripFollows_row_tie rfl ⟨rfl, rfl⟩ (by kernel_rfl) rfl
    (fun f fn hf hfn => by
      obtain rfl : f = 10 := Option.some.inj ((show Tryd.prog.funcNamed Rows.tripFollowsRow.func = some 10 by kernel_rfl).symm.trans hf) |>.symm
      obtain rfl : fn = Tryd.f10 := (Option.some.inj (Tryd.func10.symm.trans hfn)).symm
      exact ⟨by kernel_rfl, fun j t ht => by
        have hm : t ∈ Tryd.f10.params.toList := by simpa using Array.mem_of_getElem? ht
        have hall : (Tryd.f10.params.toList.all fun u => !Tryd.prog.wantsStandIn u) = true := by kernel_rfl
        exact (show Tryd.prog.wantsStandIn t = false by simpa using List.all_eq_true.1 hall t hm)⟩)
    (by kernel_rfl)

end Go.Proofs.YtjmpgjbbcfbhbaaDoor
