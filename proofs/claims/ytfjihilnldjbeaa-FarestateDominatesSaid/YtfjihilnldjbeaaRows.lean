/-
  No cell of these rows narrows 'for every input' (looked for: loops, veiled, ifaces, maps, wideKeys, modest, calm, conditions, laid).
  DERIVED. THE GIVEN ROWS OF THIS SEAT. 7 by the template 'for every input the law returns true; each argument reads behind the call as it read before'; 0 by the template 'total and deterministic' (their statements: YtfjihilnldjbeaaTotals.lean).
  GIVEN WITH THE SEED: the statements are not yours to turn. If you find one false, say at which input.
  Laid BY PROGRAM, IN A SANDBOX (cutbox-rows.mjs): the forced cells as the released guide's own fill.sh prints them over the translation 6977609053e7f073… (all of the seat's roots in one cut). By AI agents, Wed Nov 11 2026. No macro, syntax, notation, axiom, sorry.
-/
import Derived.Test.YtfjihilnldjbeaaChecked
import GoSem.Claim
import GoSem.ClaimJoined
import GoSem.ClaimMapViews
import Derived.JoinedTies
import Derived.KernelRfl
namespace Go.Proofs.Ytfjihilnldjbeaa
/- THE CELL 'sum', in the pinned program and in every row, IS THE sha256 OF THE DUMP (.gsa) THAT YtfjihilnldjbeaaProg.lean LOADS. Nothing in Lean hashes anything: it is a label: what it is worth is what the hold of that sum in a sandbox is worth. -/
noncomputable def Try.pinned : Pinned := { name := "ytfjihilnldjbeaa", sum := "6977609053e7f07339b67c937ea0f74557026b69dab00e1a865bbd6c662ea909", checked := Try.checked }
namespace Rows
def none {H : Type} : Left H := { results := [], args := [] }

/-- 'transitlaw36.FarestateStarts': WHATEVER THE INPUT: true; the input reads as it did. -/
def farestateStartsSpec : ChangeSpec := { name := "farestateStarts", fn := fun _ => fun
  | [d] => { results := [.lit (.bool true)], args := [d] }
  | _ => none }
def farestateStartsRow : OpenClaim := { program := "ytfjihilnldjbeaa", sum := "6977609053e7f07339b67c937ea0f74557026b69dab00e1a865bbd6c662ea909", func := "transit/transitlaw36.FarestateStarts", spec := "farestateStarts", unfollowed := true, recurses := true, apart := false }
def FarestateStartsSaid : Prop := farestateStartsRow.holds Try.pinned (OpenSpec.ofChange farestateStartsSpec)

/-- ITS FALSE NEIGHBOUR: 'it returns false'. Refute it at one input. -/
def farestateStartsWrong : ChangeSpec := { name := "farestateStarts", fn := fun _ => fun
  | [d] => { results := [.lit (.bool false)], args := [d] }
  | _ => none }
def FarestateStartsWrongFalsely : Prop := farestateStartsRow.holds Try.pinned (OpenSpec.ofChange farestateStartsWrong)

/-- 'transitlaw36.FarestateLimits': WHATEVER THE INPUT: true; the input reads as it did. -/
def farestateLimitsSpec : ChangeSpec := { name := "farestateLimits", fn := fun _ => fun
  | [d1, d2] => { results := [.lit (.bool true)], args := [d1, d2] }
  | _ => none }
def farestateLimitsRow : OpenClaim := { program := "ytfjihilnldjbeaa", sum := "6977609053e7f07339b67c937ea0f74557026b69dab00e1a865bbd6c662ea909", func := "transit/transitlaw36.FarestateLimits", spec := "farestateLimits", unfollowed := true, recurses := true, apart := false }
def FarestateLimitsSaid : Prop := farestateLimitsRow.holds Try.pinned (OpenSpec.ofChange farestateLimitsSpec)

/-- ITS FALSE NEIGHBOUR: 'it returns false'. Refute it at one input. -/
def farestateLimitsWrong : ChangeSpec := { name := "farestateLimits", fn := fun _ => fun
  | [d1, d2] => { results := [.lit (.bool false)], args := [d1, d2] }
  | _ => none }
def FarestateLimitsWrongFalsely : Prop := farestateLimitsRow.holds Try.pinned (OpenSpec.ofChange farestateLimitsWrong)

/-- 'transitlaw36.FarestateExact': WHATEVER THE INPUT: true; the input reads as it did. -/
def farestateExactSpec : ChangeSpec := { name := "farestateExact", fn := fun _ => fun
  | [d1, d2] => { results := [.lit (.bool true)], args := [d1, d2] }
  | _ => none }
def farestateExactRow : OpenClaim := { program := "ytfjihilnldjbeaa", sum := "6977609053e7f07339b67c937ea0f74557026b69dab00e1a865bbd6c662ea909", func := "transit/transitlaw36.FarestateExact", spec := "farestateExact", unfollowed := true, recurses := true, apart := false }
def FarestateExactSaid : Prop := farestateExactRow.holds Try.pinned (OpenSpec.ofChange farestateExactSpec)

/-- ITS FALSE NEIGHBOUR: 'it returns false'. Refute it at one input. -/
def farestateExactWrong : ChangeSpec := { name := "farestateExact", fn := fun _ => fun
  | [d1, d2] => { results := [.lit (.bool false)], args := [d1, d2] }
  | _ => none }
def FarestateExactWrongFalsely : Prop := farestateExactRow.holds Try.pinned (OpenSpec.ofChange farestateExactWrong)

/-- 'transitlaw36.FarestateBranches': WHATEVER THE INPUT: true; the input reads as it did. -/
def farestateBranchesSpec : ChangeSpec := { name := "farestateBranches", fn := fun _ => fun
  | [d1, d2, d3] => { results := [.lit (.bool true)], args := [d1, d2, d3] }
  | _ => none }
def farestateBranchesRow : OpenClaim := { program := "ytfjihilnldjbeaa", sum := "6977609053e7f07339b67c937ea0f74557026b69dab00e1a865bbd6c662ea909", func := "transit/transitlaw36.FarestateBranches", spec := "farestateBranches", unfollowed := true, recurses := true, apart := false }
def FarestateBranchesSaid : Prop := farestateBranchesRow.holds Try.pinned (OpenSpec.ofChange farestateBranchesSpec)

/-- ITS FALSE NEIGHBOUR: 'it returns false'. Refute it at one input. -/
def farestateBranchesWrong : ChangeSpec := { name := "farestateBranches", fn := fun _ => fun
  | [d1, d2, d3] => { results := [.lit (.bool false)], args := [d1, d2, d3] }
  | _ => none }
def FarestateBranchesWrongFalsely : Prop := farestateBranchesRow.holds Try.pinned (OpenSpec.ofChange farestateBranchesWrong)

/-- 'transitlaw36.FarestateDominates': WHATEVER THE INPUT: true; the input reads as it did. -/
def farestateDominatesSpec : ChangeSpec := { name := "farestateDominates", fn := fun _ => fun
  | [d1, d2] => { results := [.lit (.bool true)], args := [d1, d2] }
  | _ => none }
def farestateDominatesRow : OpenClaim := { program := "ytfjihilnldjbeaa", sum := "6977609053e7f07339b67c937ea0f74557026b69dab00e1a865bbd6c662ea909", func := "transit/transitlaw36.FarestateDominates", spec := "farestateDominates", unfollowed := true, recurses := true, apart := false }
def FarestateDominatesSaid : Prop := farestateDominatesRow.holds Try.pinned (OpenSpec.ofChange farestateDominatesSpec)

/-- ITS FALSE NEIGHBOUR: 'it returns false'. Refute it at one input. -/
def farestateDominatesWrong : ChangeSpec := { name := "farestateDominates", fn := fun _ => fun
  | [d1, d2] => { results := [.lit (.bool false)], args := [d1, d2] }
  | _ => none }
def FarestateDominatesWrongFalsely : Prop := farestateDominatesRow.holds Try.pinned (OpenSpec.ofChange farestateDominatesWrong)

/-- 'transitlaw36.FarestateEquals': WHATEVER THE INPUT: true; the input reads as it did. -/
def farestateEqualsSpec : ChangeSpec := { name := "farestateEquals", fn := fun _ => fun
  | [d1, d2, d3] => { results := [.lit (.bool true)], args := [d1, d2, d3] }
  | _ => none }
def farestateEqualsRow : OpenClaim := { program := "ytfjihilnldjbeaa", sum := "6977609053e7f07339b67c937ea0f74557026b69dab00e1a865bbd6c662ea909", func := "transit/transitlaw36.FarestateEquals", spec := "farestateEquals", unfollowed := true, recurses := true, apart := false }
def FarestateEqualsSaid : Prop := farestateEqualsRow.holds Try.pinned (OpenSpec.ofChange farestateEqualsSpec)

/-- ITS FALSE NEIGHBOUR: 'it returns false'. Refute it at one input. -/
def farestateEqualsWrong : ChangeSpec := { name := "farestateEquals", fn := fun _ => fun
  | [d1, d2, d3] => { results := [.lit (.bool false)], args := [d1, d2, d3] }
  | _ => none }
def FarestateEqualsWrongFalsely : Prop := farestateEqualsRow.holds Try.pinned (OpenSpec.ofChange farestateEqualsWrong)

/-- 'transitlaw36.FarestateJoins': WHATEVER THE INPUT: true; the input reads as it did. -/
def farestateJoinsSpec : ChangeSpec := { name := "farestateJoins", fn := fun _ => fun
  | [d1, d2, d3] => { results := [.lit (.bool true)], args := [d1, d2, d3] }
  | _ => none }
def farestateJoinsRow : OpenClaim := { program := "ytfjihilnldjbeaa", sum := "6977609053e7f07339b67c937ea0f74557026b69dab00e1a865bbd6c662ea909", func := "transit/transitlaw36.FarestateJoins", spec := "farestateJoins", unfollowed := true, recurses := true, apart := false }
def FarestateJoinsSaid : Prop := farestateJoinsRow.holds Try.pinned (OpenSpec.ofChange farestateJoinsSpec)

/-- ITS FALSE NEIGHBOUR: 'it returns false'. Refute it at one input. -/
def farestateJoinsWrong : ChangeSpec := { name := "farestateJoins", fn := fun _ => fun
  | [d1, d2, d3] => { results := [.lit (.bool false)], args := [d1, d2, d3] }
  | _ => none }
def FarestateJoinsWrongFalsely : Prop := farestateJoinsRow.holds Try.pinned (OpenSpec.ofChange farestateJoinsWrong)

/- THE SECOND FORM. 'bulk': how many values and letters a reading holds, each counted each time it is reached (what is shared counts as often as it is met; a slice's spare places count too). A statement '..UptoSaid' is the law's where the arguments, and the package variables that the reading takes, are together of bulk at most 1048576: NARROWER than '..Said'. Prove '..Said' where nothing that the law and all that it calls make is longer than what came in: it says more and counts as full. Else prove '..UptoSaid'. A law counts once. -/
mutual
def uptoBulk {H : Type} : DataW H → Nat
  | .lit (.string bytes) => bytes.length + 1
  | .lit _ => 1
  | .nil => 1
  | .ptr d => uptoBulk d + 1
  | .slice elems spare => uptoBulkAll elems + uptoBulkAll spare + 1
  | .agg parts => uptoBulkAll parts + 1
  | .iface _ d => uptoBulk d + 1
  | .map entries => uptoBulkEntries entries + 1
  | .held _ => 1
def uptoBulkAll {H : Type} : List (DataW H) → Nat
  | [] => 0
  | d :: r => uptoBulk d + uptoBulkAll r
def uptoBulkEntries {H : Type} : List (Lit × DataW H) → Nat
  | [] => 0
  | x :: r => uptoBulkEntry x + uptoBulkEntries r
def uptoBulkEntry {H : Type} : Lit × DataW H → Nat
  | (.string bytes, d) => bytes.length + uptoBulk d + 1
  | (_, d) => uptoBulk d + 1
 end
def uptoSmall : (H : Type) → List (DataW H) → Bool := fun _ ds => decide (uptoBulkAll ds ≤ 1048576)
def OpenSpec.upto (s : _root_.Go.ChangeSpec) : _root_.Go.OpenSpec := { _root_.Go.OpenSpec.ofChange s with cond := some uptoSmall }

/-- 'transitlaw36.FarestateStarts', WHERE WHAT IT READS IS OF BULK AT MOST 1048576: true; the input reads as it did. -/
def farestateStartsUptoRow : OpenClaim := { program := "ytfjihilnldjbeaa", sum := "6977609053e7f07339b67c937ea0f74557026b69dab00e1a865bbd6c662ea909", func := "transit/transitlaw36.FarestateStarts", spec := "farestateStarts", unfollowed := true, recurses := true, apart := false, narrowed := true }
def FarestateStartsUptoSaid : Prop := farestateStartsUptoRow.holds Try.pinned (OpenSpec.upto farestateStartsSpec)

/-- 'transitlaw36.FarestateLimits', WHERE WHAT IT READS IS OF BULK AT MOST 1048576: true; the input reads as it did. -/
def farestateLimitsUptoRow : OpenClaim := { program := "ytfjihilnldjbeaa", sum := "6977609053e7f07339b67c937ea0f74557026b69dab00e1a865bbd6c662ea909", func := "transit/transitlaw36.FarestateLimits", spec := "farestateLimits", unfollowed := true, recurses := true, apart := false, narrowed := true }
def FarestateLimitsUptoSaid : Prop := farestateLimitsUptoRow.holds Try.pinned (OpenSpec.upto farestateLimitsSpec)

/-- 'transitlaw36.FarestateExact', WHERE WHAT IT READS IS OF BULK AT MOST 1048576: true; the input reads as it did. -/
def farestateExactUptoRow : OpenClaim := { program := "ytfjihilnldjbeaa", sum := "6977609053e7f07339b67c937ea0f74557026b69dab00e1a865bbd6c662ea909", func := "transit/transitlaw36.FarestateExact", spec := "farestateExact", unfollowed := true, recurses := true, apart := false, narrowed := true }
def FarestateExactUptoSaid : Prop := farestateExactUptoRow.holds Try.pinned (OpenSpec.upto farestateExactSpec)

/-- 'transitlaw36.FarestateBranches', WHERE WHAT IT READS IS OF BULK AT MOST 1048576: true; the input reads as it did. -/
def farestateBranchesUptoRow : OpenClaim := { program := "ytfjihilnldjbeaa", sum := "6977609053e7f07339b67c937ea0f74557026b69dab00e1a865bbd6c662ea909", func := "transit/transitlaw36.FarestateBranches", spec := "farestateBranches", unfollowed := true, recurses := true, apart := false, narrowed := true }
def FarestateBranchesUptoSaid : Prop := farestateBranchesUptoRow.holds Try.pinned (OpenSpec.upto farestateBranchesSpec)

/-- 'transitlaw36.FarestateDominates', WHERE WHAT IT READS IS OF BULK AT MOST 1048576: true; the input reads as it did. -/
def farestateDominatesUptoRow : OpenClaim := { program := "ytfjihilnldjbeaa", sum := "6977609053e7f07339b67c937ea0f74557026b69dab00e1a865bbd6c662ea909", func := "transit/transitlaw36.FarestateDominates", spec := "farestateDominates", unfollowed := true, recurses := true, apart := false, narrowed := true }
def FarestateDominatesUptoSaid : Prop := farestateDominatesUptoRow.holds Try.pinned (OpenSpec.upto farestateDominatesSpec)

/-- 'transitlaw36.FarestateEquals', WHERE WHAT IT READS IS OF BULK AT MOST 1048576: true; the input reads as it did. -/
def farestateEqualsUptoRow : OpenClaim := { program := "ytfjihilnldjbeaa", sum := "6977609053e7f07339b67c937ea0f74557026b69dab00e1a865bbd6c662ea909", func := "transit/transitlaw36.FarestateEquals", spec := "farestateEquals", unfollowed := true, recurses := true, apart := false, narrowed := true }
def FarestateEqualsUptoSaid : Prop := farestateEqualsUptoRow.holds Try.pinned (OpenSpec.upto farestateEqualsSpec)

/-- 'transitlaw36.FarestateJoins', WHERE WHAT IT READS IS OF BULK AT MOST 1048576: true; the input reads as it did. -/
def farestateJoinsUptoRow : OpenClaim := { program := "ytfjihilnldjbeaa", sum := "6977609053e7f07339b67c937ea0f74557026b69dab00e1a865bbd6c662ea909", func := "transit/transitlaw36.FarestateJoins", spec := "farestateJoins", unfollowed := true, recurses := true, apart := false, narrowed := true }
def FarestateJoinsUptoSaid : Prop := farestateJoinsUptoRow.holds Try.pinned (OpenSpec.upto farestateJoinsSpec)

end Rows
end Go.Proofs.Ytfjihilnldjbeaa
