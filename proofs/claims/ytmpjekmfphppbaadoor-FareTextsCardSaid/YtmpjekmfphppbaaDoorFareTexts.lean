/- The statement FareTexts of layer transitlaw35: for every input the law returns true, and each argument reads afterwards as before. The card: the tables that the row lists are tied to the program's text. -/
import Derived.Test.YtmpjekmfphppbaaDoorRows
import Derived.Test.YtmpjekmfphppbaaDoorCards
import Derived.Test.YtmpjekmfphppbaaDoorTie
import Derived.Test.YtmpjekmfphppbaaDoorT7
import Derived.ProofKit
import Derived.OpenShut
import Derived.LaidMore
import Derived.Lay
import Derived.SevenTiedAt
import Derived.Stop.Joined
namespace Go.Proofs.YtmpjekmfphppbaaDoor
open Go.Vm Go.Vm.C Go.ChangeShapes Go.WideShapes Go.ChangeAt Go.RowKit

theorem FareTexts.ownK : ownKnob Go.Proofs.Tryd.prog.godebug = none := by kernel_rfl
theorem FareTexts.laidK : laidOutB Go.Proofs.Tryd.prog = true := by kernel_rfl

theorem law (xs : List V) (h : HasAll [.agg ctFares, .cell (.slice ctTicket)] xs) : ACalls PR i_transitlaw35_FareTexts xs [] (fun v _ => v = .bool true) := by
    obtain ⟨_, _, rfl, ⟨_, rfl, h1⟩, k1⟩ := hasAll_cons h
    obtain ⟨_, _, rfl, h2, k2⟩ := hasAll_cons k1
    cases hasAll_nil k2
    obtain ⟨f, rfl, hf⟩ := read_fares h1
    obtain ⟨l, c, rfl, _, hlen⟩ := read_tickets h2
    exact ACalls.mono (FareTexts_law f l c hf) fun v _ hv => hv.1

set_option maxRecDepth 100000 in
theorem lifted (os : Os) (started : os.Started) (H : Type) (enc : TypeId × Value → H) :
    ReturnsInHanded {} Tryd.checked os 3 .any (fun w args => (Rows.fareTextsSpec.pre enc Tryd.prog Tryd.f3 Rows.fareTextsRow.domain false w args ∧ laidMetH Tryd.prog [("math/bits.deBruijn32tab", Rows.laid_math_bits_deBruijn32tab), ("math/bits.deBruijn64tab", Rows.laid_math_bits_deBruijn64tab), ("internal/strconv.uint64pow10", Rows.laid_internal_strconv_uint64pow10)] w) ∧ sizedMet enc Tryd.prog Tryd.f3 (OpenSpec.ofChange Rows.fareTextsSpec) false w args) (Rows.fareTextsSpec.post enc Tryd.prog Tryd.f3 false true false false) := by
  refine lift_laid (C := Tryd.checked) (pts := [.agg ctFares, .cell (.slice ctTicket)]) (tb := Tryd.f3.resultTypes[0]!) (laid := [("math/bits.deBruijn32tab", Rows.laid_math_bits_deBruijn32tab), ("math/bits.deBruijn64tab", Rows.laid_math_bits_deBruijn64tab), ("internal/strconv.uint64pow10", Rows.laid_internal_strconv_uint64pow10)]) FareTexts.ownK FareTexts.laidK started (by kernel_rfl) Tryd.func3 rfl (fun ds hd => ?_) (by kernel_rfl) (by kernel_rfl) (by kernel_rfl) (by kernel_rfl) gt_of_laid
    (ChangeSpec.witness_shaped (enc := enc) (C := Tryd.checked) (os := os) (X := fun w _ => laidMetH Tryd.prog [("math/bits.deBruijn32tab", Rows.laid_math_bits_deBruijn32tab), ("math/bits.deBruijn64tab", Rows.laid_math_bits_deBruijn64tab), ("internal/strconv.uint64pow10", Rows.laid_internal_strconv_uint64pow10)] w) false (World.laidAll Tryd.prog os [("math/bits.deBruijn32tab", Rows.laid_math_bits_deBruijn32tab), ("math/bits.deBruijn64tab", Rows.laid_math_bits_deBruijn64tab), ("internal/strconv.uint64pow10", Rows.laid_internal_strconv_uint64pow10)]) #[.agg #[.slice none 0 0, .int .i64 0, .int .i64 0, .int .i64 0], .slice none 0 0] 8 (World.laidAll_os _ _ _)
      (World.shaped_of_ZipB (by kernel_rfl) (by kernel_rfl)) (by kernel_rfl) (by kernel_rfl) (by kernel_rfl)
      (by rw [MakeChecks.laidMetH_plain _ _ _ (by kernel_rfl)]; exact laidMet_laidAll _ (by kernel_rfl) (by kernel_rfl))) law
  match ds, hd with
  | [d0, d1], _ => rfl

theorem FareTexts_holds : Rows.FareTextsSaid :=
  OpenClaim.holds_of_wide 3 Tryd.f3 rfl rfl rfl rfl rfl rfl rfl ⟨rfl, rfl, rfl, rfl, rfl⟩ rfl rfl rfl rfl rfl (by kernel_rfl) Tryd.func3 (by kernel_rfl)
    (of_decide_eq_true (by kernel_rfl)) (by unfold Func.isWrapper; first | (rw [if_pos (by decide +kernel)]; kernel_rfl) | (rw [if_neg (by decide +kernel)]; exact ⟨rfl, rfl⟩))
    (fun os started H enc _ => lifted os started H enc)

theorem FareTextsCard_holds : Rows.FareTextsCardSaid :=
  Claim7.holds_tied_plain_at .later [] [.data, .data, .data] true (true, "d7422f3176d0935b550996206bccd5cb0d8367cd8fafeff9f846cf7b8a063e4f") false FareTexts_holds (fun _ h => by cases h) (by kernel_rfl) (fun _ h => by cases h) fareTexts_row_tie rfl ⟨rfl, rfl⟩ (by kernel_rfl) rfl
    (fun f fn hf hfn => by
      obtain rfl : f = 3 := Option.some.inj ((show Tryd.prog.funcNamed Rows.fareTextsRow.func = some 3 by kernel_rfl).symm.trans hf) |>.symm
      obtain rfl : fn = Tryd.f3 := (Option.some.inj (Tryd.func3.symm.trans hfn)).symm
      exact ⟨by kernel_rfl, fun j t ht => by
        have hm : t ∈ Tryd.f3.params.toList := by simpa using Array.mem_of_getElem? ht
        have hall : (Tryd.f3.params.toList.all fun u => !Tryd.prog.wantsStandIn u) = true := by kernel_rfl
        exact (show Tryd.prog.wantsStandIn t = false by simpa using List.all_eq_true.1 hall t hm)⟩)
    (by kernel_rfl)

end Go.Proofs.YtmpjekmfphppbaaDoor
