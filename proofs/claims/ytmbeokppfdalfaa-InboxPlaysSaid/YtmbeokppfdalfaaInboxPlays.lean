/- The statement InboxPlays of layer transitlaw32: for every input the law returns true, and each argument reads afterwards as before. No condition. -/
import Derived.Test.YtmbeokppfdalfaaRows
import Derived.Test.YtmbeokppfdalfaaT14
import Derived.ProofKit
namespace Go.Proofs.Ytmbeokppfdalfaa
open Go.Vm Go.Vm.C

theorem Try.ownK : ownKnob Go.Proofs.Try.prog.godebug = none := by kernel_rfl
theorem Try.laidK : laidOutB Go.Proofs.Try.prog = true := by kernel_rfl

theorem law (xs : List V) (h : HasAll [.cell (.int .i64), .cell (.int .i64), .cell (.slice ctOper)] xs) : ACalls PR i_transitlaw32_InboxPlays xs [] (fun v _ => v = .bool true) := by
    obtain ⟨_, _, rfl, h1, k1⟩ := hasAll_cons h
    obtain ⟨_, _, rfl, h2, k2⟩ := hasAll_cons k1
    obtain ⟨_, _, rfl, h3, k3⟩ := hasAll_cons k2
    cases hasAll_nil k3
    obtain ⟨n, rfl, _⟩ := hasC_i64 h1
    obtain ⟨p, rfl, _⟩ := hasC_i64 h2
    obtain ⟨l, c, rfl, hl, hlen, _⟩ := hasC_slice (fun vs h => read_oper h) h3
    exact ACalls.mono (InboxPlays_law n p l c hl hlen) fun v _ hv => hv.1

set_option maxRecDepth 100000 in
theorem lifted (os : Os) (started : os.Started) (H : Type) (enc : TypeId × Value → H) :
    ReturnsInHanded {} Try.checked os 6 .any (Rows.inboxPlaysSpec.pre6 enc Try.prog Try.f6 Rows.inboxPlaysRow.domain false) (Rows.inboxPlaysSpec.post enc Try.prog Try.f6 false true false false) := by
  refine lift_law (C := Try.checked) (pts := [.cell (.int .i64), .cell (.int .i64), .cell (.slice ctOper)]) (tb := Try.f6.resultTypes[0]!) Try.ownK Try.laidK started (by kernel_rfl) Try.func6 rfl (fun ds hd => ?_) (by kernel_rfl) (by kernel_rfl) (by kernel_rfl) (by kernel_rfl)
    (ChangeSpec.witness6 (enc := enc) (C := Try.checked) false ⟨#[], #[.int .i64 0, .int .i64 0, .slice none 0 0], []⟩ 8 (by kernel_rfl) (by kernel_rfl) (by kernel_rfl) (by kernel_rfl)) law
  match ds, hd with
  | [d0, d1, d2], _ => rfl

theorem InboxPlays_holds : Rows.InboxPlaysSaid :=
  OpenClaim.holds_of_wide 6 Try.f6 rfl rfl rfl rfl rfl rfl rfl ⟨rfl, rfl, rfl, rfl, rfl⟩ rfl rfl rfl rfl rfl (by kernel_rfl) Try.func6 (by kernel_rfl)
    (of_decide_eq_true (by kernel_rfl)) (by unfold Func.isWrapper; first | (rw [if_pos (by decide +kernel)]; kernel_rfl) | (rw [if_neg (by decide +kernel)]; exact ⟨rfl, rfl⟩))
    (fun os started H enc _ => lifted os started H enc)

end Go.Proofs.Ytmbeokppfdalfaa
