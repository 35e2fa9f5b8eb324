/- The statement InboxCommutes of layer transitlaw32: for every input the law returns true, and each argument reads afterwards as before. No condition. -/
import Derived.Test.YtmbeokppfdalfaaRows
import Derived.Test.YtmbeokppfdalfaaT14
import Derived.ProofKit
namespace Go.Proofs.Ytmbeokppfdalfaa
open Go.Vm Go.Vm.C

theorem Try.ownK : ownKnob Go.Proofs.Try.prog.godebug = none := by kernel_rfl
theorem Try.laidK : laidOutB Go.Proofs.Try.prog = true := by kernel_rfl

theorem law (xs : List V) (h : HasAll [.cell (.int .i64), .cell (.slice ctOper), .agg (ctMsg ++ (ctMsg ++ [.int .i64, .int .i64]))] xs) : ACalls PR i_transitlaw32_InboxCommutes xs [] (fun v _ => v = .bool true) := by
    obtain ⟨_, _, rfl, h1, k1⟩ := hasAll_cons h
    obtain ⟨_, _, rfl, h2, k2⟩ := hasAll_cons k1
    obtain ⟨_, _, rfl, ⟨_, rfl, h3⟩, k3⟩ := hasAll_cons k2
    cases hasAll_nil k3
    obtain ⟨p, rfl, _⟩ := hasC_i64 h1
    obtain ⟨l, c, rfl, hl, hlen, _⟩ := hasC_slice (fun vs h => read_oper h) h2
    obtain ⟨a, _, rfl, ha, h4⟩ := read_msgs h3
    obtain ⟨b, _, rfl, hb, h5⟩ := read_msgs h4
    obtain ⟨_, _, rfl, g1, h6⟩ := hasR_cons h5
    obtain ⟨_, _, rfl, g2, h7⟩ := hasR_cons h6
    cases hasR_nil h7
    obtain ⟨now, rfl, hn⟩ := hasC_i64 g1
    obtain ⟨at', rfl, hat⟩ := hasC_i64 g2
    exact ACalls.mono (InboxCommutes_law p l c a b now at' hl hlen ha hb hat) fun v _ hv => hv.1

set_option maxRecDepth 100000 in
theorem lifted (os : Os) (started : os.Started) (H : Type) (enc : TypeId × Value → H) :
    ReturnsInHanded {} Try.checked os 4 .any (Rows.inboxCommutesSpec.pre6 enc Try.prog Try.f4 Rows.inboxCommutesRow.domain false) (Rows.inboxCommutesSpec.post enc Try.prog Try.f4 false true false false) := by
  refine lift_law (C := Try.checked) (pts := [.cell (.int .i64), .cell (.slice ctOper), .agg (ctMsg ++ (ctMsg ++ [.int .i64, .int .i64]))]) (tb := Try.f4.resultTypes[0]!) Try.ownK Try.laidK started (by kernel_rfl) Try.func4 rfl (fun ds hd => ?_) (by kernel_rfl) (by kernel_rfl) (by kernel_rfl) (by kernel_rfl)
    (ChangeSpec.witness6 (enc := enc) (C := Try.checked) false ⟨#[], #[.int .i64 0, .slice none 0 0, .agg #[.int .i64 0, .int .i64 0, .int .i64 0, .int .i64 0, .int .i64 0, .string ⟨#[]⟩, .int .i64 0, .int .i64 0, .int .i64 0, .int .i64 0, .int .i64 0, .bool false, .slice none 0 0, .int .i64 0, .int .i64 0, .int .i64 0, .int .i64 0, .int .i64 0, .string ⟨#[]⟩, .int .i64 0, .int .i64 0, .int .i64 0, .int .i64 0, .int .i64 0, .bool false, .slice none 0 0, .int .i64 0, .int .i64 0]], []⟩ 8 (by kernel_rfl) (by kernel_rfl) (by kernel_rfl) (by kernel_rfl)) law
  match ds, hd with
  | [d0, d1, d2], _ => rfl

theorem InboxCommutes_holds : Rows.InboxCommutesSaid :=
  OpenClaim.holds_of_wide 4 Try.f4 rfl rfl rfl rfl rfl rfl rfl ⟨rfl, rfl, rfl, rfl, rfl⟩ rfl rfl rfl rfl rfl (by kernel_rfl) Try.func4 (by kernel_rfl)
    (of_decide_eq_true (by kernel_rfl)) (by unfold Func.isWrapper; first | (rw [if_pos (by decide +kernel)]; kernel_rfl) | (rw [if_neg (by decide +kernel)]; exact ⟨rfl, rfl⟩))
    (fun os started H enc _ => lifted os started H enc)

end Go.Proofs.Ytmbeokppfdalfaa
