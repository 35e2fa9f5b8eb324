/-
  No cell of these rows narrows 'for every input' (looked for: loops, veiled, ifaces, maps, wideKeys, modest, calm, conditions, laid).
  DERIVED. THE GIVEN ROWS OF THIS SEAT. 4 by the template 'for every input the law returns true; each argument reads behind the call as it read before'; 0 by the template 'total and deterministic' (their statements: YtojpmklnmaomlaaTotals.lean).
  GIVEN WITH THE SEED: the statements are not yours to turn. If you find one false, say at which input.
  Laid BY PROGRAM, IN A SANDBOX (cutbox-rows.mjs): the forced cells as the released guide's own fill.sh prints them over the translation a698403aee060375… (all of the seat's roots in one cut). By AI agents, Wed Nov 11 2026. No macro, syntax, notation, axiom, sorry.
-/
import Derived.Test.YtojpmklnmaomlaaChecked
import GoSem.Claim
import GoSem.ClaimJoined
import GoSem.ClaimMapViews
import Derived.JoinedTies
import Derived.KernelRfl
namespace Go.Proofs.Ytojpmklnmaomlaa
/- THE CELL 'sum', in the pinned program and in every row, IS THE sha256 OF THE DUMP (.gsa) THAT YtojpmklnmaomlaaProg.lean LOADS. Nothing in Lean hashes anything: it is a label: what it is worth is what the hold of that sum in a sandbox is worth. -/
noncomputable def Try.pinned : Pinned := { name := "ytojpmklnmaomlaa", sum := "a698403aee06037523b73eaffc35714a920762db716149c23d863992cfd0f1bc", checked := Try.checked }
namespace Rows
def none {H : Type} : Left H := { results := [], args := [] }

/-- 'transitlaw37.AccountCap': WHATEVER THE INPUT: true; the input reads as it did. -/
def accountCapSpec : ChangeSpec := { name := "accountCap", fn := fun _ => fun
  | [d1, d2] => { results := [.lit (.bool true)], args := [d1, d2] }
  | _ => none }
def accountCapRow : OpenClaim := { program := "ytojpmklnmaomlaa", sum := "a698403aee06037523b73eaffc35714a920762db716149c23d863992cfd0f1bc", func := "transit/transitlaw37.AccountCap", spec := "accountCap", unfollowed := true, recurses := true, apart := false }
def AccountCapSaid : Prop := accountCapRow.holds Try.pinned (OpenSpec.ofChange accountCapSpec)

/-- ITS FALSE NEIGHBOUR: 'it returns false'. Refute it at one input. -/
def accountCapWrong : ChangeSpec := { name := "accountCap", fn := fun _ => fun
  | [d1, d2] => { results := [.lit (.bool false)], args := [d1, d2] }
  | _ => none }
def AccountCapWrongFalsely : Prop := accountCapRow.holds Try.pinned (OpenSpec.ofChange accountCapWrong)

/-- 'transitlaw37.AccountSums': WHATEVER THE INPUT: true; the input reads as it did. -/
def accountSumsSpec : ChangeSpec := { name := "accountSums", fn := fun _ => fun
  | [d1, d2] => { results := [.lit (.bool true)], args := [d1, d2] }
  | _ => none }
def accountSumsRow : OpenClaim := { program := "ytojpmklnmaomlaa", sum := "a698403aee06037523b73eaffc35714a920762db716149c23d863992cfd0f1bc", func := "transit/transitlaw37.AccountSums", spec := "accountSums", unfollowed := true, recurses := true, apart := false }
def AccountSumsSaid : Prop := accountSumsRow.holds Try.pinned (OpenSpec.ofChange accountSumsSpec)

/-- ITS FALSE NEIGHBOUR: 'it returns false'. Refute it at one input. -/
def accountSumsWrong : ChangeSpec := { name := "accountSums", fn := fun _ => fun
  | [d1, d2] => { results := [.lit (.bool false)], args := [d1, d2] }
  | _ => none }
def AccountSumsWrongFalsely : Prop := accountSumsRow.holds Try.pinned (OpenSpec.ofChange accountSumsWrong)

/-- 'transitlaw37.AccountRuns': WHATEVER THE INPUT: true; the input reads as it did. -/
def accountRunsSpec : ChangeSpec := { name := "accountRuns", fn := fun _ => fun
  | [d1, d2] => { results := [.lit (.bool true)], args := [d1, d2] }
  | _ => none }
def accountRunsRow : OpenClaim := { program := "ytojpmklnmaomlaa", sum := "a698403aee06037523b73eaffc35714a920762db716149c23d863992cfd0f1bc", func := "transit/transitlaw37.AccountRuns", spec := "accountRuns", unfollowed := true, recurses := true, apart := false }
def AccountRunsSaid : Prop := accountRunsRow.holds Try.pinned (OpenSpec.ofChange accountRunsSpec)

/-- ITS FALSE NEIGHBOUR: 'it returns false'. Refute it at one input. -/
def accountRunsWrong : ChangeSpec := { name := "accountRuns", fn := fun _ => fun
  | [d1, d2] => { results := [.lit (.bool false)], args := [d1, d2] }
  | _ => none }
def AccountRunsWrongFalsely : Prop := accountRunsRow.holds Try.pinned (OpenSpec.ofChange accountRunsWrong)

/-- 'transitlaw37.AccountNone': WHATEVER THE INPUT: true; the input reads as it did. -/
def accountNoneSpec : ChangeSpec := { name := "accountNone", fn := fun _ => fun
  | [d1, d2] => { results := [.lit (.bool true)], args := [d1, d2] }
  | _ => none }
def accountNoneRow : OpenClaim := { program := "ytojpmklnmaomlaa", sum := "a698403aee06037523b73eaffc35714a920762db716149c23d863992cfd0f1bc", func := "transit/transitlaw37.AccountNone", spec := "accountNone", unfollowed := true, recurses := true, apart := false }
def AccountNoneSaid : Prop := accountNoneRow.holds Try.pinned (OpenSpec.ofChange accountNoneSpec)

/-- ITS FALSE NEIGHBOUR: 'it returns false'. Refute it at one input. -/
def accountNoneWrong : ChangeSpec := { name := "accountNone", fn := fun _ => fun
  | [d1, d2] => { results := [.lit (.bool false)], args := [d1, d2] }
  | _ => none }
def AccountNoneWrongFalsely : Prop := accountNoneRow.holds Try.pinned (OpenSpec.ofChange accountNoneWrong)

/- THE SECOND FORM. 'bulk': how many values and letters a reading holds, each counted each time it is reached (what is shared counts as often as it is met; a slice's spare places count too). A statement '..UptoSaid' is the law's where the arguments, and the package variables that the reading takes, are together of bulk at most 1048576: NARROWER than '..Said'. Prove '..Said' where nothing that the law and all that it calls make is longer than what came in: it says more and counts as full. Else prove '..UptoSaid'. A law counts once. -/
mutual
def uptoBulk {H : Type} : DataW H → Nat
  | .lit (.string bytes) => bytes.length + 1
  | .lit _ => 1
  | .nil => 1
  | .ptr d => uptoBulk d + 1
  | .slice elems spare => uptoBulkAll elems + uptoBulkAll spare + 1
  | .agg parts => uptoBulkAll parts + 1
  | .iface _ d => uptoBulk d + 1
  | .map entries => uptoBulkEntries entries + 1
  | .held _ => 1
def uptoBulkAll {H : Type} : List (DataW H) → Nat
  | [] => 0
  | d :: r => uptoBulk d + uptoBulkAll r
def uptoBulkEntries {H : Type} : List (Lit × DataW H) → Nat
  | [] => 0
  | x :: r => uptoBulkEntry x + uptoBulkEntries r
def uptoBulkEntry {H : Type} : Lit × DataW H → Nat
  | (.string bytes, d) => bytes.length + uptoBulk d + 1
  | (_, d) => uptoBulk d + 1
 end
def uptoSmall : (H : Type) → List (DataW H) → Bool := fun _ ds => decide (uptoBulkAll ds ≤ 1048576)
def OpenSpec.upto (s : _root_.Go.ChangeSpec) : _root_.Go.OpenSpec := { _root_.Go.OpenSpec.ofChange s with cond := some uptoSmall }

/-- 'transitlaw37.AccountCap', WHERE WHAT IT READS IS OF BULK AT MOST 1048576: true; the input reads as it did. -/
def accountCapUptoRow : OpenClaim := { program := "ytojpmklnmaomlaa", sum := "a698403aee06037523b73eaffc35714a920762db716149c23d863992cfd0f1bc", func := "transit/transitlaw37.AccountCap", spec := "accountCap", unfollowed := true, recurses := true, apart := false, narrowed := true }
def AccountCapUptoSaid : Prop := accountCapUptoRow.holds Try.pinned (OpenSpec.upto accountCapSpec)

/-- 'transitlaw37.AccountSums', WHERE WHAT IT READS IS OF BULK AT MOST 1048576: true; the input reads as it did. -/
def accountSumsUptoRow : OpenClaim := { program := "ytojpmklnmaomlaa", sum := "a698403aee06037523b73eaffc35714a920762db716149c23d863992cfd0f1bc", func := "transit/transitlaw37.AccountSums", spec := "accountSums", unfollowed := true, recurses := true, apart := false, narrowed := true }
def AccountSumsUptoSaid : Prop := accountSumsUptoRow.holds Try.pinned (OpenSpec.upto accountSumsSpec)

/-- 'transitlaw37.AccountRuns', WHERE WHAT IT READS IS OF BULK AT MOST 1048576: true; the input reads as it did. -/
def accountRunsUptoRow : OpenClaim := { program := "ytojpmklnmaomlaa", sum := "a698403aee06037523b73eaffc35714a920762db716149c23d863992cfd0f1bc", func := "transit/transitlaw37.AccountRuns", spec := "accountRuns", unfollowed := true, recurses := true, apart := false, narrowed := true }
def AccountRunsUptoSaid : Prop := accountRunsUptoRow.holds Try.pinned (OpenSpec.upto accountRunsSpec)

/-- 'transitlaw37.AccountNone', WHERE WHAT IT READS IS OF BULK AT MOST 1048576: true; the input reads as it did. -/
def accountNoneUptoRow : OpenClaim := { program := "ytojpmklnmaomlaa", sum := "a698403aee06037523b73eaffc35714a920762db716149c23d863992cfd0f1bc", func := "transit/transitlaw37.AccountNone", spec := "accountNone", unfollowed := true, recurses := true, apart := false, narrowed := true }
def AccountNoneUptoSaid : Prop := accountNoneUptoRow.holds Try.pinned (OpenSpec.upto accountNoneSpec)

end Rows
end Go.Proofs.Ytojpmklnmaomlaa
