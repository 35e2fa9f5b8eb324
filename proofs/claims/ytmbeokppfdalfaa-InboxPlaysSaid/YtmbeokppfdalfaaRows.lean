/-
  No cell of these rows narrows 'for every input' (looked for: loops, veiled, ifaces, maps, wideKeys, modest, calm, conditions, laid).
  DERIVED. THE GIVEN ROWS OF THIS SEAT. 7 by the template 'for every input the law returns true; each argument reads behind the call as it read before'; 0 by the template 'total and deterministic' (their statements: YtmbeokppfdalfaaTotals.lean).
  GIVEN WITH THE SEED: the statements are not yours to turn. If you find one false, say at which input.
  Laid BY PROGRAM, IN A SANDBOX (cutbox-rows.mjs): the forced cells as the released guide's own fill.sh prints them over the translation 0414fe6ac7adc17f… (all of the seat's roots in one cut). By AI agents, Wed Nov 11 2026. No macro, syntax, notation, axiom, sorry.
-/
import Derived.Test.YtmbeokppfdalfaaChecked
import GoSem.Claim
import GoSem.ClaimJoined
import GoSem.ClaimMapViews
import Derived.JoinedTies
import Derived.KernelRfl
namespace Go.Proofs.Ytmbeokppfdalfaa
/- THE CELL 'sum', in the pinned program and in every row, IS THE sha256 OF THE DUMP (.gsa) THAT YtmbeokppfdalfaaProg.lean LOADS. Nothing in Lean hashes anything: it is a label: what it is worth is what the hold of that sum in a sandbox is worth. -/
noncomputable def Try.pinned : Pinned := { name := "ytmbeokppfdalfaa", sum := "0414fe6ac7adc17f005552f1526a160765c01cd5b07dde1a63766c33a2fdfa95", checked := Try.checked }
namespace Rows
def none {H : Type} : Left H := { results := [], args := [] }

/-- 'transitlaw32.InboxNews': WHATEVER THE INPUT: true; the input reads as it did. -/
def inboxNewsSpec : ChangeSpec := { name := "inboxNews", fn := fun _ => fun
  | [d1, d2] => { results := [.lit (.bool true)], args := [d1, d2] }
  | _ => none }
def inboxNewsRow : OpenClaim := { program := "ytmbeokppfdalfaa", sum := "0414fe6ac7adc17f005552f1526a160765c01cd5b07dde1a63766c33a2fdfa95", func := "transit/transitlaw32.InboxNews", spec := "inboxNews", unfollowed := true, recurses := true, apart := false }
def InboxNewsSaid : Prop := inboxNewsRow.holds Try.pinned (OpenSpec.ofChange inboxNewsSpec)

/-- ITS FALSE NEIGHBOUR: 'it returns false'. Refute it at one input. -/
def inboxNewsWrong : ChangeSpec := { name := "inboxNews", fn := fun _ => fun
  | [d1, d2] => { results := [.lit (.bool false)], args := [d1, d2] }
  | _ => none }
def InboxNewsWrongFalsely : Prop := inboxNewsRow.holds Try.pinned (OpenSpec.ofChange inboxNewsWrong)

/-- 'transitlaw32.InboxCommutes': WHATEVER THE INPUT: true; the input reads as it did. -/
def inboxCommutesSpec : ChangeSpec := { name := "inboxCommutes", fn := fun _ => fun
  | [d1, d2, d3] => { results := [.lit (.bool true)], args := [d1, d2, d3] }
  | _ => none }
def inboxCommutesRow : OpenClaim := { program := "ytmbeokppfdalfaa", sum := "0414fe6ac7adc17f005552f1526a160765c01cd5b07dde1a63766c33a2fdfa95", func := "transit/transitlaw32.InboxCommutes", spec := "inboxCommutes", unfollowed := true, recurses := true, apart := false }
def InboxCommutesSaid : Prop := inboxCommutesRow.holds Try.pinned (OpenSpec.ofChange inboxCommutesSpec)

/-- ITS FALSE NEIGHBOUR: 'it returns false'. Refute it at one input. -/
def inboxCommutesWrong : ChangeSpec := { name := "inboxCommutes", fn := fun _ => fun
  | [d1, d2, d3] => { results := [.lit (.bool false)], args := [d1, d2, d3] }
  | _ => none }
def InboxCommutesWrongFalsely : Prop := inboxCommutesRow.holds Try.pinned (OpenSpec.ofChange inboxCommutesWrong)

/-- 'transitlaw32.InboxActive': WHATEVER THE INPUT: true; the input reads as it did. -/
def inboxActiveSpec : ChangeSpec := { name := "inboxActive", fn := fun _ => fun
  | [d1, d2, d3] => { results := [.lit (.bool true)], args := [d1, d2, d3] }
  | _ => none }
def inboxActiveRow : OpenClaim := { program := "ytmbeokppfdalfaa", sum := "0414fe6ac7adc17f005552f1526a160765c01cd5b07dde1a63766c33a2fdfa95", func := "transit/transitlaw32.InboxActive", spec := "inboxActive", unfollowed := true, recurses := true, apart := false }
def InboxActiveSaid : Prop := inboxActiveRow.holds Try.pinned (OpenSpec.ofChange inboxActiveSpec)

/-- ITS FALSE NEIGHBOUR: 'it returns false'. Refute it at one input. -/
def inboxActiveWrong : ChangeSpec := { name := "inboxActive", fn := fun _ => fun
  | [d1, d2, d3] => { results := [.lit (.bool false)], args := [d1, d2, d3] }
  | _ => none }
def InboxActiveWrongFalsely : Prop := inboxActiveRow.holds Try.pinned (OpenSpec.ofChange inboxActiveWrong)

/-- 'transitlaw32.InboxPlays': WHATEVER THE INPUT: true; the input reads as it did. -/
def inboxPlaysSpec : ChangeSpec := { name := "inboxPlays", fn := fun _ => fun
  | [d1, d2, d3] => { results := [.lit (.bool true)], args := [d1, d2, d3] }
  | _ => none }
def inboxPlaysRow : OpenClaim := { program := "ytmbeokppfdalfaa", sum := "0414fe6ac7adc17f005552f1526a160765c01cd5b07dde1a63766c33a2fdfa95", func := "transit/transitlaw32.InboxPlays", spec := "inboxPlays", unfollowed := true, recurses := true, apart := false }
def InboxPlaysSaid : Prop := inboxPlaysRow.holds Try.pinned (OpenSpec.ofChange inboxPlaysSpec)

/-- ITS FALSE NEIGHBOUR: 'it returns false'. Refute it at one input. -/
def inboxPlaysWrong : ChangeSpec := { name := "inboxPlays", fn := fun _ => fun
  | [d1, d2, d3] => { results := [.lit (.bool false)], args := [d1, d2, d3] }
  | _ => none }
def InboxPlaysWrongFalsely : Prop := inboxPlaysRow.holds Try.pinned (OpenSpec.ofChange inboxPlaysWrong)

/-- 'transitlaw32.InboxSupersedes': WHATEVER THE INPUT: true; the input reads as it did. -/
def inboxSupersedesSpec : ChangeSpec := { name := "inboxSupersedes", fn := fun _ => fun
  | [d1, d2] => { results := [.lit (.bool true)], args := [d1, d2] }
  | _ => none }
def inboxSupersedesRow : OpenClaim := { program := "ytmbeokppfdalfaa", sum := "0414fe6ac7adc17f005552f1526a160765c01cd5b07dde1a63766c33a2fdfa95", func := "transit/transitlaw32.InboxSupersedes", spec := "inboxSupersedes", unfollowed := true, recurses := true, apart := false }
def InboxSupersedesSaid : Prop := inboxSupersedesRow.holds Try.pinned (OpenSpec.ofChange inboxSupersedesSpec)

/-- ITS FALSE NEIGHBOUR: 'it returns false'. Refute it at one input. -/
def inboxSupersedesWrong : ChangeSpec := { name := "inboxSupersedes", fn := fun _ => fun
  | [d1, d2] => { results := [.lit (.bool false)], args := [d1, d2] }
  | _ => none }
def InboxSupersedesWrongFalsely : Prop := inboxSupersedesRow.holds Try.pinned (OpenSpec.ofChange inboxSupersedesWrong)

/-- 'transitlaw32.InboxClones': WHATEVER THE INPUT: true; the input reads as it did. -/
def inboxClonesSpec : ChangeSpec := { name := "inboxClones", fn := fun _ => fun
  | [d1, d2, d3] => { results := [.lit (.bool true)], args := [d1, d2, d3] }
  | _ => none }
def inboxClonesRow : OpenClaim := { program := "ytmbeokppfdalfaa", sum := "0414fe6ac7adc17f005552f1526a160765c01cd5b07dde1a63766c33a2fdfa95", func := "transit/transitlaw32.InboxClones", spec := "inboxClones", unfollowed := true, recurses := true, apart := false }
def InboxClonesSaid : Prop := inboxClonesRow.holds Try.pinned (OpenSpec.ofChange inboxClonesSpec)

/-- ITS FALSE NEIGHBOUR: 'it returns false'. Refute it at one input. -/
def inboxClonesWrong : ChangeSpec := { name := "inboxClones", fn := fun _ => fun
  | [d1, d2, d3] => { results := [.lit (.bool false)], args := [d1, d2, d3] }
  | _ => none }
def InboxClonesWrongFalsely : Prop := inboxClonesRow.holds Try.pinned (OpenSpec.ofChange inboxClonesWrong)

/-- 'transitlaw32.InboxNil': WHATEVER THE INPUT: true; the input reads as it did. -/
def inboxNilSpec : ChangeSpec := { name := "inboxNil", fn := fun _ => fun
  | [d] => { results := [.lit (.bool true)], args := [d] }
  | _ => none }
def inboxNilRow : OpenClaim := { program := "ytmbeokppfdalfaa", sum := "0414fe6ac7adc17f005552f1526a160765c01cd5b07dde1a63766c33a2fdfa95", func := "transit/transitlaw32.InboxNil", spec := "inboxNil", unfollowed := true, recurses := true, apart := false }
def InboxNilSaid : Prop := inboxNilRow.holds Try.pinned (OpenSpec.ofChange inboxNilSpec)

/-- ITS FALSE NEIGHBOUR: 'it returns false'. Refute it at one input. -/
def inboxNilWrong : ChangeSpec := { name := "inboxNil", fn := fun _ => fun
  | [d] => { results := [.lit (.bool false)], args := [d] }
  | _ => none }
def InboxNilWrongFalsely : Prop := inboxNilRow.holds Try.pinned (OpenSpec.ofChange inboxNilWrong)

/- THE SECOND FORM. 'bulk': how many values and letters a reading holds, each counted each time it is reached (what is shared counts as often as it is met; a slice's spare places count too). A statement '..UptoSaid' is the law's where the arguments, and the package variables that the reading takes, are together of bulk at most 1048576: NARROWER than '..Said'. Prove '..Said' where nothing that the law and all that it calls make is longer than what came in: it says more and counts as full. Else prove '..UptoSaid'. A law counts once. -/
mutual
def uptoBulk {H : Type} : DataW H → Nat
  | .lit (.string bytes) => bytes.length + 1
  | .lit _ => 1
  | .nil => 1
  | .ptr d => uptoBulk d + 1
  | .slice elems spare => uptoBulkAll elems + uptoBulkAll spare + 1
  | .agg parts => uptoBulkAll parts + 1
  | .iface _ d => uptoBulk d + 1
  | .map entries => uptoBulkEntries entries + 1
  | .held _ => 1
def uptoBulkAll {H : Type} : List (DataW H) → Nat
  | [] => 0
  | d :: r => uptoBulk d + uptoBulkAll r
def uptoBulkEntries {H : Type} : List (Lit × DataW H) → Nat
  | [] => 0
  | x :: r => uptoBulkEntry x + uptoBulkEntries r
def uptoBulkEntry {H : Type} : Lit × DataW H → Nat
  | (.string bytes, d) => bytes.length + uptoBulk d + 1
  | (_, d) => uptoBulk d + 1
 end
def uptoSmall : (H : Type) → List (DataW H) → Bool := fun _ ds => decide (uptoBulkAll ds ≤ 1048576)
def OpenSpec.upto (s : _root_.Go.ChangeSpec) : _root_.Go.OpenSpec := { _root_.Go.OpenSpec.ofChange s with cond := some uptoSmall }

/-- 'transitlaw32.InboxNews', WHERE WHAT IT READS IS OF BULK AT MOST 1048576: true; the input reads as it did. -/
def inboxNewsUptoRow : OpenClaim := { program := "ytmbeokppfdalfaa", sum := "0414fe6ac7adc17f005552f1526a160765c01cd5b07dde1a63766c33a2fdfa95", func := "transit/transitlaw32.InboxNews", spec := "inboxNews", unfollowed := true, recurses := true, apart := false, narrowed := true }
def InboxNewsUptoSaid : Prop := inboxNewsUptoRow.holds Try.pinned (OpenSpec.upto inboxNewsSpec)

/-- 'transitlaw32.InboxCommutes', WHERE WHAT IT READS IS OF BULK AT MOST 1048576: true; the input reads as it did. -/
def inboxCommutesUptoRow : OpenClaim := { program := "ytmbeokppfdalfaa", sum := "0414fe6ac7adc17f005552f1526a160765c01cd5b07dde1a63766c33a2fdfa95", func := "transit/transitlaw32.InboxCommutes", spec := "inboxCommutes", unfollowed := true, recurses := true, apart := false, narrowed := true }
def InboxCommutesUptoSaid : Prop := inboxCommutesUptoRow.holds Try.pinned (OpenSpec.upto inboxCommutesSpec)

/-- 'transitlaw32.InboxActive', WHERE WHAT IT READS IS OF BULK AT MOST 1048576: true; the input reads as it did. -/
def inboxActiveUptoRow : OpenClaim := { program := "ytmbeokppfdalfaa", sum := "0414fe6ac7adc17f005552f1526a160765c01cd5b07dde1a63766c33a2fdfa95", func := "transit/transitlaw32.InboxActive", spec := "inboxActive", unfollowed := true, recurses := true, apart := false, narrowed := true }
def InboxActiveUptoSaid : Prop := inboxActiveUptoRow.holds Try.pinned (OpenSpec.upto inboxActiveSpec)

/-- 'transitlaw32.InboxPlays', WHERE WHAT IT READS IS OF BULK AT MOST 1048576: true; the input reads as it did. -/
def inboxPlaysUptoRow : OpenClaim := { program := "ytmbeokppfdalfaa", sum := "0414fe6ac7adc17f005552f1526a160765c01cd5b07dde1a63766c33a2fdfa95", func := "transit/transitlaw32.InboxPlays", spec := "inboxPlays", unfollowed := true, recurses := true, apart := false, narrowed := true }
def InboxPlaysUptoSaid : Prop := inboxPlaysUptoRow.holds Try.pinned (OpenSpec.upto inboxPlaysSpec)

/-- 'transitlaw32.InboxSupersedes', WHERE WHAT IT READS IS OF BULK AT MOST 1048576: true; the input reads as it did. -/
def inboxSupersedesUptoRow : OpenClaim := { program := "ytmbeokppfdalfaa", sum := "0414fe6ac7adc17f005552f1526a160765c01cd5b07dde1a63766c33a2fdfa95", func := "transit/transitlaw32.InboxSupersedes", spec := "inboxSupersedes", unfollowed := true, recurses := true, apart := false, narrowed := true }
def InboxSupersedesUptoSaid : Prop := inboxSupersedesUptoRow.holds Try.pinned (OpenSpec.upto inboxSupersedesSpec)

/-- 'transitlaw32.InboxClones', WHERE WHAT IT READS IS OF BULK AT MOST 1048576: true; the input reads as it did. -/
def inboxClonesUptoRow : OpenClaim := { program := "ytmbeokppfdalfaa", sum := "0414fe6ac7adc17f005552f1526a160765c01cd5b07dde1a63766c33a2fdfa95", func := "transit/transitlaw32.InboxClones", spec := "inboxClones", unfollowed := true, recurses := true, apart := false, narrowed := true }
def InboxClonesUptoSaid : Prop := inboxClonesUptoRow.holds Try.pinned (OpenSpec.upto inboxClonesSpec)

/-- 'transitlaw32.InboxNil', WHERE WHAT IT READS IS OF BULK AT MOST 1048576: true; the input reads as it did. -/
def inboxNilUptoRow : OpenClaim := { program := "ytmbeokppfdalfaa", sum := "0414fe6ac7adc17f005552f1526a160765c01cd5b07dde1a63766c33a2fdfa95", func := "transit/transitlaw32.InboxNil", spec := "inboxNil", unfollowed := true, recurses := true, apart := false, narrowed := true }
def InboxNilUptoSaid : Prop := inboxNilUptoRow.holds Try.pinned (OpenSpec.upto inboxNilSpec)

end Rows
end Go.Proofs.Ytmbeokppfdalfaa
