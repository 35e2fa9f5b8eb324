/- The statement TripPartition of layer transitlaw17: for every input the law returns true, and each argument reads afterwards as before. The card: the tables that the row lists are tied to the program's text. -/
import Derived.Test.YtjmpgjbbcfbhbaaDoorRows
import Derived.Test.YtjmpgjbbcfbhbaaDoorCards
import Derived.Test.YtjmpgjbbcfbhbaaDoorTie
import Derived.Test.YtjmpgjbbcfbhbaaDoorT8
import Derived.ProofKit
import Derived.OpenShut
import Derived.LaidMore
import Derived.Lay
import Derived.SevenTiedAt
import Derived.Stop.Joined
namespace Go.Proofs.YtjmpgjbbcfbhbaaDoor
open Go.Vm Go.Vm.C Go.ChangeShapes Go.WideShapes Go.ChangeAt Go.RowKit

theorem TripPartition.ownK : ownKnob Go.Proofs.Tryd.prog.godebug = none := by kernel_rfl
theorem TripPartition.laidK : laidOutB Go.Proofs.Tryd.prog = true := by kernel_rfl

theorem law (xs : List V) (h : HasAll [.cell (.slice ctTrip), .cell (.int .i64), .cell (.int .i64)] xs) : ACalls PR i_transitlaw17_TripPartition xs [] (fun v _ => v = .bool true) := by
    obtain ⟨_, _, rfl, h1, k1⟩ := hasAll_cons h
    obtain ⟨_, _, rfl, h2, k2⟩ := hasAll_cons k1
    obtain ⟨_, _, rfl, h3, k3⟩ := hasAll_cons k2
    cases hasAll_nil k3
    obtain ⟨l, c, rfl, hl⟩ := read_trips h1
    obtain ⟨f, rfl, _⟩ := hasC_i64 h2
    obtain ⟨g, rfl, _⟩ := hasC_i64 h3
    exact ACalls.mono (Partition_law l c f g hl) fun v _ hv => hv.1

set_option maxRecDepth 100000 in
theorem lifted (os : Os) (started : os.Started) (H : Type) (enc : TypeId × Value → H) :
    ReturnsInHanded {} Tryd.checked os 9 .any (fun w args => (Rows.tripPartitionSpec.pre enc Tryd.prog Tryd.f9 Rows.tripPartitionRow.domain false w args ∧ laidMetH Tryd.prog [("math/bits.deBruijn32tab", Rows.laid_math_bits_deBruijn32tab), ("math/bits.deBruijn64tab", Rows.laid_math_bits_deBruijn64tab), ("internal/strconv.uint64pow10", Rows.laid_internal_strconv_uint64pow10)] w) ∧ sizedMet enc Tryd.prog Tryd.f9 (OpenSpec.ofChange Rows.tripPartitionSpec) false w args) (Rows.tripPartitionSpec.post enc Tryd.prog Tryd.f9 false true false false) := by
  refine lift_laid (C := Tryd.checked) (pts := [.cell (.slice ctTrip), .cell (.int .i64), .cell (.int .i64)]) (tb := Tryd.f9.resultTypes[0]!) (laid := [("math/bits.deBruijn32tab", Rows.laid_math_bits_deBruijn32tab), ("math/bits.deBruijn64tab", Rows.laid_math_bits_deBruijn64tab), ("internal/strconv.uint64pow10", Rows.laid_internal_strconv_uint64pow10)]) TripPartition.ownK TripPartition.laidK started (by kernel_rfl) Tryd.func9 rfl (fun ds hd => ?_) (by kernel_rfl) (by kernel_rfl) (by kernel_rfl) (by kernel_rfl) gt_of_laid
    (ChangeSpec.witness_shaped (enc := enc) (C := Tryd.checked) (os := os) (X := fun w _ => laidMetH Tryd.prog [("math/bits.deBruijn32tab", Rows.laid_math_bits_deBruijn32tab), ("math/bits.deBruijn64tab", Rows.laid_math_bits_deBruijn64tab), ("internal/strconv.uint64pow10", Rows.laid_internal_strconv_uint64pow10)] w) false (World.laidAll Tryd.prog os [("math/bits.deBruijn32tab", Rows.laid_math_bits_deBruijn32tab), ("math/bits.deBruijn64tab", Rows.laid_math_bits_deBruijn64tab), ("internal/strconv.uint64pow10", Rows.laid_internal_strconv_uint64pow10)]) #[.slice none 0 0, .int .i64 0, .int .i64 0] 8 (World.laidAll_os _ _ _)
      (World.shaped_of_ZipB (by kernel_rfl) (by kernel_rfl)) (by kernel_rfl) (by kernel_rfl) (by kernel_rfl)
      (by rw [MakeChecks.laidMetH_plain _ _ _ (by kernel_rfl)]; exact laidMet_laidAll _ (by kernel_rfl) (by kernel_rfl))) law
  match ds, hd with
  | [d0, d1, d2], _ => rfl

theorem TripPartition_holds : Rows.TripPartitionSaid :=
  OpenClaim.holds_of_wide 9 Tryd.f9 rfl rfl rfl rfl rfl rfl rfl ⟨rfl, rfl, rfl, rfl, rfl⟩ rfl rfl rfl rfl rfl (by kernel_rfl) Tryd.func9 (by kernel_rfl)
    (of_decide_eq_true (by kernel_rfl)) (by unfold Func.isWrapper; first | (rw [if_pos (by decide +kernel)]; kernel_rfl) | (rw [if_neg (by decide +kernel)]; exact ⟨rfl, rfl⟩))
    (fun os started H enc _ => lifted os started H enc)

theorem TripPartitionCard_holds : Rows.TripPartitionCardSaid :=
  Claim7.holds_tied_plain_at .later [] [.data, .data, .data] true (true, "f07ea93e949dd8ea32db35bc25b6510ca3c238d111fe4a18def748bb99b5b761") false TripPartition_holds (fun _ h => by cases h) (by kernel_rfl) (fun _ h => by cases h) tripPartition_row_tie rfl ⟨rfl, rfl⟩ (by kernel_rfl) rfl
    (fun f fn hf hfn => by
      obtain rfl : f = 9 := Option.some.inj ((show Tryd.prog.funcNamed Rows.tripPartitionRow.func = some 9 by kernel_rfl).symm.trans hf) |>.symm
      obtain rfl : fn = Tryd.f9 := (Option.some.inj (Tryd.func9.symm.trans hfn)).symm
      exact ⟨by kernel_rfl, fun j t ht => by
        have hm : t ∈ Tryd.f9.params.toList := by simpa using Array.mem_of_getElem? ht
        have hall : (Tryd.f9.params.toList.all fun u => !Tryd.prog.wantsStandIn u) = true := by kernel_rfl
        exact (show Tryd.prog.wantsStandIn t = false by simpa using List.all_eq_true.1 hall t hm)⟩)
    (by kernel_rfl)

end Go.Proofs.YtjmpgjbbcfbhbaaDoor
