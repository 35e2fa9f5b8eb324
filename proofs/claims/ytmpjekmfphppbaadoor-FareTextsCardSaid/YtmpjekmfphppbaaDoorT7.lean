/- The laid table. -/
import Derived.Test.YtmpjekmfphppbaaDoorT6
import Derived.Test.YtmpjekmfphppbaaDoorRows
import Derived.ProofKit
import Derived.OpenShut
import Derived.LaidMore
import Derived.Lay
import Derived.SevenTiedAt
import Derived.Stop.Joined

namespace Go.Vm.C
open Go.Vm
set_option maxHeartbeats 1000000
set_option maxRecDepth 10000
set_option linter.unusedSimpArgs false
set_option linter.unusedVariables false

/-! ### The laid table -/
theorem gt_of_laid (W : World) (h : laidMetH Go.Proofs.Tryd.prog [("math/bits.deBruijn32tab", Go.Proofs.YtmpjekmfphppbaaDoor.Rows.laid_math_bits_deBruijn32tab), ("math/bits.deBruijn64tab", Go.Proofs.YtmpjekmfphppbaaDoor.Rows.laid_math_bits_deBruijn64tab), ("internal/strconv.uint64pow10", Go.Proofs.YtmpjekmfphppbaaDoor.Rows.laid_internal_strconv_uint64pow10)] W) : ∀ w', Go.RowKit.Below W.heap.size W w' → GT w' := by
  rw [MakeChecks.laidMetH_plain _ _ _ (by kernel_rfl)] at h
  obtain ⟨_, ⟨_, _, _, _, _, _, _, _, _, _, ⟨_, _, _, _, _, _, _, _, _, _, ⟨g, t, cs, fuel, p, q, hg, ht, hv, hd, _⟩, _⟩, _⟩, _⟩ := h
  obtain rfl := Option.some.inj ((show Go.Proofs.Tryd.prog.globalNamed "internal/strconv.uint64pow10" = some 0 by kernel_rfl).symm.trans hg)
  obtain rfl := Option.some.inj ((show (Go.Proofs.Tryd.prog.globals[0]?).map (·.type) = some 89 by kernel_rfl).symm.trans ht)
  have hc := Lib.cells_of_tab (k := .u64) (zs := Lib.pow10Tab) (n := 20) (e := 76) (by kernel_rfl) (by kernel_rfl) (by kernel_rfl) (by kernel_rfl) hd
  have hI : Lib.TabIs Go.Proofs.Tryd.prog W "internal/strconv.uint64pow10" .u64 Lib.pow10Tab := by
    unfold Lib.TabIs
    rw [hv, ← hc]
  intro w' hb
  have hI' := Lib.tabBelow_of_tabIs hI w' hb
  unfold Lib.TabIs World.var? at hI'
  rw [show Go.Proofs.Tryd.prog.globalNamed "internal/strconv.uint64pow10" = some 0 by kernel_rfl, Option.bind_some] at hI'
  unfold GT
  cases ho : w'.heap[0]? with
  | none => rw [ho] at hI'; cases hI'
  | some o =>
    rw [ho] at hI'
    cases o with
    | cells cs T f =>
      simp only [Option.some.injEq] at hI'
      exact ⟨T, f, by rw [hI']; simp [Lib.pow10Tab, Function.comp_def]⟩
    | _ => cases hI'

end Go.Vm.C

