/-
  No cell of these rows narrows 'for every input' (looked for: loops, veiled, ifaces, maps, wideKeys, modest, calm, conditions, laid).
  DERIVED. THE GIVEN ROWS OF THIS SEAT. 7 by the template 'for every input the law returns true; each argument reads behind the call as it read before'; 0 by the template 'total and deterministic' (their statements: YtmpjekmfphppbaaTotals.lean).
  GIVEN WITH THE SEED: the statements are not yours to turn. If you find one false, say at which input.
  Laid BY PROGRAM, IN A SANDBOX (cutbox-rows.mjs): the forced cells as the released guide's own fill.sh prints them over the translation a97a9b098f666ba2… (all of the seat's roots in one cut). By AI agents, Wed Nov 11 2026. No macro, syntax, notation, axiom, sorry.
-/
import Derived.Test.YtmpjekmfphppbaaChecked
import GoSem.Claim
import GoSem.ClaimJoined
import GoSem.ClaimMapViews
import Derived.JoinedTies
import Derived.KernelRfl
namespace Go.Proofs.Ytmpjekmfphppbaa
/- THE CELL 'sum', in the pinned program and in every row, IS THE sha256 OF THE DUMP (.gsa) THAT YtmpjekmfphppbaaProg.lean LOADS. Nothing in Lean hashes anything: it is a label: what it is worth is what the hold of that sum in a sandbox is worth. -/
noncomputable def Try.pinned : Pinned := { name := "ytmpjekmfphppbaa", sum := "a97a9b098f666ba26f457598b1e68601d0de608036560cff711a5ce9c62e2bb3", checked := Try.checked }
namespace Rows
def none {H : Type} : Left H := { results := [], args := [] }

/-- 'transitlaw35.FarePrices': WHATEVER THE INPUT: true; the input reads as it did. -/
def farePricesSpec : ChangeSpec := { name := "farePrices", fn := fun _ => fun
  | [d1, d2] => { results := [.lit (.bool true)], args := [d1, d2] }
  | _ => none }
def farePricesRow : OpenClaim := { program := "ytmpjekmfphppbaa", sum := "a97a9b098f666ba26f457598b1e68601d0de608036560cff711a5ce9c62e2bb3", func := "transit/transitlaw35.FarePrices", spec := "farePrices", unfollowed := true, recurses := true, apart := false }
def FarePricesSaid : Prop := farePricesRow.holds Try.pinned (OpenSpec.ofChange farePricesSpec)

/-- ITS FALSE NEIGHBOUR: 'it returns false'. Refute it at one input. -/
def farePricesWrong : ChangeSpec := { name := "farePrices", fn := fun _ => fun
  | [d1, d2] => { results := [.lit (.bool false)], args := [d1, d2] }
  | _ => none }
def FarePricesWrongFalsely : Prop := farePricesRow.holds Try.pinned (OpenSpec.ofChange farePricesWrong)

/-- 'transitlaw35.FareExists': WHATEVER THE INPUT: true; the input reads as it did. -/
def fareExistsSpec : ChangeSpec := { name := "fareExists", fn := fun _ => fun
  | [d1, d2] => { results := [.lit (.bool true)], args := [d1, d2] }
  | _ => none }
def fareExistsRow : OpenClaim := { program := "ytmpjekmfphppbaa", sum := "a97a9b098f666ba26f457598b1e68601d0de608036560cff711a5ce9c62e2bb3", func := "transit/transitlaw35.FareExists", spec := "fareExists", unfollowed := true, recurses := true, apart := false }
def FareExistsSaid : Prop := fareExistsRow.holds Try.pinned (OpenSpec.ofChange fareExistsSpec)

/-- ITS FALSE NEIGHBOUR: 'it returns false'. Refute it at one input. -/
def fareExistsWrong : ChangeSpec := { name := "fareExists", fn := fun _ => fun
  | [d1, d2] => { results := [.lit (.bool false)], args := [d1, d2] }
  | _ => none }
def FareExistsWrongFalsely : Prop := fareExistsRow.holds Try.pinned (OpenSpec.ofChange fareExistsWrong)

/-- 'transitlaw35.FareGrows': WHATEVER THE INPUT: true; the input reads as it did. -/
def fareGrowsSpec : ChangeSpec := { name := "fareGrows", fn := fun _ => fun
  | [d1, d2, d3] => { results := [.lit (.bool true)], args := [d1, d2, d3] }
  | _ => none }
def fareGrowsRow : OpenClaim := { program := "ytmpjekmfphppbaa", sum := "a97a9b098f666ba26f457598b1e68601d0de608036560cff711a5ce9c62e2bb3", func := "transit/transitlaw35.FareGrows", spec := "fareGrows", unfollowed := true, recurses := true, apart := false }
def FareGrowsSaid : Prop := fareGrowsRow.holds Try.pinned (OpenSpec.ofChange fareGrowsSpec)

/-- ITS FALSE NEIGHBOUR: 'it returns false'. Refute it at one input. -/
def fareGrowsWrong : ChangeSpec := { name := "fareGrows", fn := fun _ => fun
  | [d1, d2, d3] => { results := [.lit (.bool false)], args := [d1, d2, d3] }
  | _ => none }
def FareGrowsWrongFalsely : Prop := fareGrowsRow.holds Try.pinned (OpenSpec.ofChange fareGrowsWrong)

/-- 'transitlaw35.FareJoins': WHATEVER THE INPUT: true; the input reads as it did. -/
def fareJoinsSpec : ChangeSpec := { name := "fareJoins", fn := fun _ => fun
  | [d1, d2, d3] => { results := [.lit (.bool true)], args := [d1, d2, d3] }
  | _ => none }
def fareJoinsRow : OpenClaim := { program := "ytmpjekmfphppbaa", sum := "a97a9b098f666ba26f457598b1e68601d0de608036560cff711a5ce9c62e2bb3", func := "transit/transitlaw35.FareJoins", spec := "fareJoins", unfollowed := true, recurses := true, apart := false }
def FareJoinsSaid : Prop := fareJoinsRow.holds Try.pinned (OpenSpec.ofChange fareJoinsSpec)

/-- ITS FALSE NEIGHBOUR: 'it returns false'. Refute it at one input. -/
def fareJoinsWrong : ChangeSpec := { name := "fareJoins", fn := fun _ => fun
  | [d1, d2, d3] => { results := [.lit (.bool false)], args := [d1, d2, d3] }
  | _ => none }
def FareJoinsWrongFalsely : Prop := fareJoinsRow.holds Try.pinned (OpenSpec.ofChange fareJoinsWrong)

/-- 'transitlaw35.FareTotals': WHATEVER THE INPUT: true; the input reads as it did. -/
def fareTotalsSpec : ChangeSpec := { name := "fareTotals", fn := fun _ => fun
  | [d1, d2] => { results := [.lit (.bool true)], args := [d1, d2] }
  | _ => none }
def fareTotalsRow : OpenClaim := { program := "ytmpjekmfphppbaa", sum := "a97a9b098f666ba26f457598b1e68601d0de608036560cff711a5ce9c62e2bb3", func := "transit/transitlaw35.FareTotals", spec := "fareTotals", unfollowed := true, recurses := true, apart := false }
def FareTotalsSaid : Prop := fareTotalsRow.holds Try.pinned (OpenSpec.ofChange fareTotalsSpec)

/-- ITS FALSE NEIGHBOUR: 'it returns false'. Refute it at one input. -/
def fareTotalsWrong : ChangeSpec := { name := "fareTotals", fn := fun _ => fun
  | [d1, d2] => { results := [.lit (.bool false)], args := [d1, d2] }
  | _ => none }
def FareTotalsWrongFalsely : Prop := fareTotalsRow.holds Try.pinned (OpenSpec.ofChange fareTotalsWrong)

/-- 'transitlaw35.FareVerifies': WHATEVER THE INPUT: true; the input reads as it did. -/
def fareVerifiesSpec : ChangeSpec := { name := "fareVerifies", fn := fun _ => fun
  | [d1, d2, d3] => { results := [.lit (.bool true)], args := [d1, d2, d3] }
  | _ => none }
def fareVerifiesRow : OpenClaim := { program := "ytmpjekmfphppbaa", sum := "a97a9b098f666ba26f457598b1e68601d0de608036560cff711a5ce9c62e2bb3", func := "transit/transitlaw35.FareVerifies", spec := "fareVerifies", unfollowed := true, recurses := true, apart := false }
def FareVerifiesSaid : Prop := fareVerifiesRow.holds Try.pinned (OpenSpec.ofChange fareVerifiesSpec)

/-- ITS FALSE NEIGHBOUR: 'it returns false'. Refute it at one input. -/
def fareVerifiesWrong : ChangeSpec := { name := "fareVerifies", fn := fun _ => fun
  | [d1, d2, d3] => { results := [.lit (.bool false)], args := [d1, d2, d3] }
  | _ => none }
def FareVerifiesWrongFalsely : Prop := fareVerifiesRow.holds Try.pinned (OpenSpec.ofChange fareVerifiesWrong)

/-- 'transitlaw35.FareMinimal': WHATEVER THE INPUT: true; the input reads as it did. -/
def fareMinimalSpec : ChangeSpec := { name := "fareMinimal", fn := fun _ => fun
  | [d1, d2, d3] => { results := [.lit (.bool true)], args := [d1, d2, d3] }
  | _ => none }
def fareMinimalRow : OpenClaim := { program := "ytmpjekmfphppbaa", sum := "a97a9b098f666ba26f457598b1e68601d0de608036560cff711a5ce9c62e2bb3", func := "transit/transitlaw35.FareMinimal", spec := "fareMinimal", unfollowed := true, recurses := true, apart := false }
def FareMinimalSaid : Prop := fareMinimalRow.holds Try.pinned (OpenSpec.ofChange fareMinimalSpec)

/-- ITS FALSE NEIGHBOUR: 'it returns false'. Refute it at one input. -/
def fareMinimalWrong : ChangeSpec := { name := "fareMinimal", fn := fun _ => fun
  | [d1, d2, d3] => { results := [.lit (.bool false)], args := [d1, d2, d3] }
  | _ => none }
def FareMinimalWrongFalsely : Prop := fareMinimalRow.holds Try.pinned (OpenSpec.ofChange fareMinimalWrong)

/- THE SECOND FORM. 'bulk': how many values and letters a reading holds, each counted each time it is reached (what is shared counts as often as it is met; a slice's spare places count too). A statement '..UptoSaid' is the law's where the arguments, and the package variables that the reading takes, are together of bulk at most 1048576: NARROWER than '..Said'. Prove '..Said' where nothing that the law and all that it calls make is longer than what came in: it says more and counts as full. Else prove '..UptoSaid'. A law counts once. -/
mutual
def uptoBulk {H : Type} : DataW H → Nat
  | .lit (.string bytes) => bytes.length + 1
  | .lit _ => 1
  | .nil => 1
  | .ptr d => uptoBulk d + 1
  | .slice elems spare => uptoBulkAll elems + uptoBulkAll spare + 1
  | .agg parts => uptoBulkAll parts + 1
  | .iface _ d => uptoBulk d + 1
  | .map entries => uptoBulkEntries entries + 1
  | .held _ => 1
def uptoBulkAll {H : Type} : List (DataW H) → Nat
  | [] => 0
  | d :: r => uptoBulk d + uptoBulkAll r
def uptoBulkEntries {H : Type} : List (Lit × DataW H) → Nat
  | [] => 0
  | x :: r => uptoBulkEntry x + uptoBulkEntries r
def uptoBulkEntry {H : Type} : Lit × DataW H → Nat
  | (.string bytes, d) => bytes.length + uptoBulk d + 1
  | (_, d) => uptoBulk d + 1
 end
def uptoSmall : (H : Type) → List (DataW H) → Bool := fun _ ds => decide (uptoBulkAll ds ≤ 1048576)
def OpenSpec.upto (s : _root_.Go.ChangeSpec) : _root_.Go.OpenSpec := { _root_.Go.OpenSpec.ofChange s with cond := some uptoSmall }

/-- 'transitlaw35.FarePrices', WHERE WHAT IT READS IS OF BULK AT MOST 1048576: true; the input reads as it did. -/
def farePricesUptoRow : OpenClaim := { program := "ytmpjekmfphppbaa", sum := "a97a9b098f666ba26f457598b1e68601d0de608036560cff711a5ce9c62e2bb3", func := "transit/transitlaw35.FarePrices", spec := "farePrices", unfollowed := true, recurses := true, apart := false, narrowed := true }
def FarePricesUptoSaid : Prop := farePricesUptoRow.holds Try.pinned (OpenSpec.upto farePricesSpec)

/-- 'transitlaw35.FareExists', WHERE WHAT IT READS IS OF BULK AT MOST 1048576: true; the input reads as it did. -/
def fareExistsUptoRow : OpenClaim := { program := "ytmpjekmfphppbaa", sum := "a97a9b098f666ba26f457598b1e68601d0de608036560cff711a5ce9c62e2bb3", func := "transit/transitlaw35.FareExists", spec := "fareExists", unfollowed := true, recurses := true, apart := false, narrowed := true }
def FareExistsUptoSaid : Prop := fareExistsUptoRow.holds Try.pinned (OpenSpec.upto fareExistsSpec)

/-- 'transitlaw35.FareGrows', WHERE WHAT IT READS IS OF BULK AT MOST 1048576: true; the input reads as it did. -/
def fareGrowsUptoRow : OpenClaim := { program := "ytmpjekmfphppbaa", sum := "a97a9b098f666ba26f457598b1e68601d0de608036560cff711a5ce9c62e2bb3", func := "transit/transitlaw35.FareGrows", spec := "fareGrows", unfollowed := true, recurses := true, apart := false, narrowed := true }
def FareGrowsUptoSaid : Prop := fareGrowsUptoRow.holds Try.pinned (OpenSpec.upto fareGrowsSpec)

/-- 'transitlaw35.FareJoins', WHERE WHAT IT READS IS OF BULK AT MOST 1048576: true; the input reads as it did. -/
def fareJoinsUptoRow : OpenClaim := { program := "ytmpjekmfphppbaa", sum := "a97a9b098f666ba26f457598b1e68601d0de608036560cff711a5ce9c62e2bb3", func := "transit/transitlaw35.FareJoins", spec := "fareJoins", unfollowed := true, recurses := true, apart := false, narrowed := true }
def FareJoinsUptoSaid : Prop := fareJoinsUptoRow.holds Try.pinned (OpenSpec.upto fareJoinsSpec)

/-- 'transitlaw35.FareTotals', WHERE WHAT IT READS IS OF BULK AT MOST 1048576: true; the input reads as it did. -/
def fareTotalsUptoRow : OpenClaim := { program := "ytmpjekmfphppbaa", sum := "a97a9b098f666ba26f457598b1e68601d0de608036560cff711a5ce9c62e2bb3", func := "transit/transitlaw35.FareTotals", spec := "fareTotals", unfollowed := true, recurses := true, apart := false, narrowed := true }
def FareTotalsUptoSaid : Prop := fareTotalsUptoRow.holds Try.pinned (OpenSpec.upto fareTotalsSpec)

/-- 'transitlaw35.FareVerifies', WHERE WHAT IT READS IS OF BULK AT MOST 1048576: true; the input reads as it did. -/
def fareVerifiesUptoRow : OpenClaim := { program := "ytmpjekmfphppbaa", sum := "a97a9b098f666ba26f457598b1e68601d0de608036560cff711a5ce9c62e2bb3", func := "transit/transitlaw35.FareVerifies", spec := "fareVerifies", unfollowed := true, recurses := true, apart := false, narrowed := true }
def FareVerifiesUptoSaid : Prop := fareVerifiesUptoRow.holds Try.pinned (OpenSpec.upto fareVerifiesSpec)

/-- 'transitlaw35.FareMinimal', WHERE WHAT IT READS IS OF BULK AT MOST 1048576: true; the input reads as it did. -/
def fareMinimalUptoRow : OpenClaim := { program := "ytmpjekmfphppbaa", sum := "a97a9b098f666ba26f457598b1e68601d0de608036560cff711a5ce9c62e2bb3", func := "transit/transitlaw35.FareMinimal", spec := "fareMinimal", unfollowed := true, recurses := true, apart := false, narrowed := true }
def FareMinimalUptoSaid : Prop := fareMinimalUptoRow.holds Try.pinned (OpenSpec.upto fareMinimalSpec)

end Rows
end Go.Proofs.Ytmpjekmfphppbaa
