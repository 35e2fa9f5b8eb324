/-
  No cell of these rows narrows 'for every input' (looked for: loops, veiled, ifaces, maps, wideKeys, modest, calm, conditions, laid).
  DERIVED. THE GIVEN ROWS OF THIS SEAT. 8 by the template 'for every input the law returns true; each argument reads behind the call as it read before'; 0 by the template 'total and deterministic' (their statements: YtoikggblbknapaaTotals.lean).
  GIVEN WITH THE SEED: the statements are not yours to turn. If you find one false, say at which input.
  Laid BY PROGRAM, IN A SANDBOX (cutbox-rows.mjs): the forced cells as the released guide's own fill.sh prints them over the translation fa081e3befbb1113… (all of the seat's roots in one cut). By AI agents, Wed Nov 11 2026. No macro, syntax, notation, axiom, sorry.
-/
import Derived.Test.YtoikggblbknapaaChecked
import GoSem.Claim
import GoSem.ClaimJoined
import GoSem.ClaimMapViews
import Derived.JoinedTies
import Derived.KernelRfl
namespace Go.Proofs.Ytoikggblbknapaa
/- THE CELL 'sum', in the pinned program and in every row, IS THE sha256 OF THE DUMP (.gsa) THAT YtoikggblbknapaaProg.lean LOADS. Nothing in Lean hashes anything: it is a label: what it is worth is what the hold of that sum in a sandbox is worth. -/
noncomputable def Try.pinned : Pinned := { name := "ytoikggblbknapaa", sum := "fa081e3befbb1113b1ab3fdfc87a2ff9914980cf5942154432c0328a09e12095", checked := Try.checked }
namespace Rows
def none {H : Type} : Left H := { results := [], args := [] }

/-- 'transitlaw08.IntervalContains': WHATEVER THE INPUT: true; the input reads as it did. -/
def intervalContainsSpec : ChangeSpec := { name := "intervalContains", fn := fun _ => fun
  | [d1, d2, d3] => { results := [.lit (.bool true)], args := [d1, d2, d3] }
  | _ => none }
def intervalContainsRow : OpenClaim := { program := "ytoikggblbknapaa", sum := "fa081e3befbb1113b1ab3fdfc87a2ff9914980cf5942154432c0328a09e12095", func := "transit/transitlaw08.IntervalContains", spec := "intervalContains", unfollowed := true, recurses := true, apart := false }
def IntervalContainsSaid : Prop := intervalContainsRow.holds Try.pinned (OpenSpec.ofChange intervalContainsSpec)

/-- ITS FALSE NEIGHBOUR: 'it returns false'. Refute it at one input. -/
def intervalContainsWrong : ChangeSpec := { name := "intervalContains", fn := fun _ => fun
  | [d1, d2, d3] => { results := [.lit (.bool false)], args := [d1, d2, d3] }
  | _ => none }
def IntervalContainsWrongFalsely : Prop := intervalContainsRow.holds Try.pinned (OpenSpec.ofChange intervalContainsWrong)

/-- 'transitlaw08.IntervalNormalizes': WHATEVER THE INPUT: true; the input reads as it did. -/
def intervalNormalizesSpec : ChangeSpec := { name := "intervalNormalizes", fn := fun _ => fun
  | [d] => { results := [.lit (.bool true)], args := [d] }
  | _ => none }
def intervalNormalizesRow : OpenClaim := { program := "ytoikggblbknapaa", sum := "fa081e3befbb1113b1ab3fdfc87a2ff9914980cf5942154432c0328a09e12095", func := "transit/transitlaw08.IntervalNormalizes", spec := "intervalNormalizes", unfollowed := true, recurses := true, apart := false }
def IntervalNormalizesSaid : Prop := intervalNormalizesRow.holds Try.pinned (OpenSpec.ofChange intervalNormalizesSpec)

/-- ITS FALSE NEIGHBOUR: 'it returns false'. Refute it at one input. -/
def intervalNormalizesWrong : ChangeSpec := { name := "intervalNormalizes", fn := fun _ => fun
  | [d] => { results := [.lit (.bool false)], args := [d] }
  | _ => none }
def IntervalNormalizesWrongFalsely : Prop := intervalNormalizesRow.holds Try.pinned (OpenSpec.ofChange intervalNormalizesWrong)

/-- 'transitlaw08.IntervalCombines': WHATEVER THE INPUT: true; the input reads as it did. -/
def intervalCombinesSpec : ChangeSpec := { name := "intervalCombines", fn := fun _ => fun
  | [d1, d2] => { results := [.lit (.bool true)], args := [d1, d2] }
  | _ => none }
def intervalCombinesRow : OpenClaim := { program := "ytoikggblbknapaa", sum := "fa081e3befbb1113b1ab3fdfc87a2ff9914980cf5942154432c0328a09e12095", func := "transit/transitlaw08.IntervalCombines", spec := "intervalCombines", unfollowed := true, recurses := true, apart := false }
def IntervalCombinesSaid : Prop := intervalCombinesRow.holds Try.pinned (OpenSpec.ofChange intervalCombinesSpec)

/-- ITS FALSE NEIGHBOUR: 'it returns false'. Refute it at one input. -/
def intervalCombinesWrong : ChangeSpec := { name := "intervalCombines", fn := fun _ => fun
  | [d1, d2] => { results := [.lit (.bool false)], args := [d1, d2] }
  | _ => none }
def IntervalCombinesWrongFalsely : Prop := intervalCombinesRow.holds Try.pinned (OpenSpec.ofChange intervalCombinesWrong)

/-- 'transitlaw08.IntervalLengths': WHATEVER THE INPUT: true; the input reads as it did. -/
def intervalLengthsSpec : ChangeSpec := { name := "intervalLengths", fn := fun _ => fun
  | [d] => { results := [.lit (.bool true)], args := [d] }
  | _ => none }
def intervalLengthsRow : OpenClaim := { program := "ytoikggblbknapaa", sum := "fa081e3befbb1113b1ab3fdfc87a2ff9914980cf5942154432c0328a09e12095", func := "transit/transitlaw08.IntervalLengths", spec := "intervalLengths", unfollowed := true, recurses := true, apart := false }
def IntervalLengthsSaid : Prop := intervalLengthsRow.holds Try.pinned (OpenSpec.ofChange intervalLengthsSpec)

/-- ITS FALSE NEIGHBOUR: 'it returns false'. Refute it at one input. -/
def intervalLengthsWrong : ChangeSpec := { name := "intervalLengths", fn := fun _ => fun
  | [d] => { results := [.lit (.bool false)], args := [d] }
  | _ => none }
def IntervalLengthsWrongFalsely : Prop := intervalLengthsRow.holds Try.pinned (OpenSpec.ofChange intervalLengthsWrong)

/-- 'transitlaw08.IntervalGaps': WHATEVER THE INPUT: true; the input reads as it did. -/
def intervalGapsSpec : ChangeSpec := { name := "intervalGaps", fn := fun _ => fun
  | [d1, d2] => { results := [.lit (.bool true)], args := [d1, d2] }
  | _ => none }
def intervalGapsRow : OpenClaim := { program := "ytoikggblbknapaa", sum := "fa081e3befbb1113b1ab3fdfc87a2ff9914980cf5942154432c0328a09e12095", func := "transit/transitlaw08.IntervalGaps", spec := "intervalGaps", unfollowed := true, recurses := true, apart := false }
def IntervalGapsSaid : Prop := intervalGapsRow.holds Try.pinned (OpenSpec.ofChange intervalGapsSpec)

/-- ITS FALSE NEIGHBOUR: 'it returns false'. Refute it at one input. -/
def intervalGapsWrong : ChangeSpec := { name := "intervalGaps", fn := fun _ => fun
  | [d1, d2] => { results := [.lit (.bool false)], args := [d1, d2] }
  | _ => none }
def IntervalGapsWrongFalsely : Prop := intervalGapsRow.holds Try.pinned (OpenSpec.ofChange intervalGapsWrong)

/-- 'transitlaw08.IntervalAlgebra': WHATEVER THE INPUT: true; the input reads as it did. -/
def intervalAlgebraSpec : ChangeSpec := { name := "intervalAlgebra", fn := fun _ => fun
  | [d1, d2, d3] => { results := [.lit (.bool true)], args := [d1, d2, d3] }
  | _ => none }
def intervalAlgebraRow : OpenClaim := { program := "ytoikggblbknapaa", sum := "fa081e3befbb1113b1ab3fdfc87a2ff9914980cf5942154432c0328a09e12095", func := "transit/transitlaw08.IntervalAlgebra", spec := "intervalAlgebra", unfollowed := true, recurses := true, apart := false }
def IntervalAlgebraSaid : Prop := intervalAlgebraRow.holds Try.pinned (OpenSpec.ofChange intervalAlgebraSpec)

/-- ITS FALSE NEIGHBOUR: 'it returns false'. Refute it at one input. -/
def intervalAlgebraWrong : ChangeSpec := { name := "intervalAlgebra", fn := fun _ => fun
  | [d1, d2, d3] => { results := [.lit (.bool false)], args := [d1, d2, d3] }
  | _ => none }
def IntervalAlgebraWrongFalsely : Prop := intervalAlgebraRow.holds Try.pinned (OpenSpec.ofChange intervalAlgebraWrong)

/-- 'transitlaw08.IntervalCanonical': WHATEVER THE INPUT: true; the input reads as it did. -/
def intervalCanonicalSpec : ChangeSpec := { name := "intervalCanonical", fn := fun _ => fun
  | [d1, d2] => { results := [.lit (.bool true)], args := [d1, d2] }
  | _ => none }
def intervalCanonicalRow : OpenClaim := { program := "ytoikggblbknapaa", sum := "fa081e3befbb1113b1ab3fdfc87a2ff9914980cf5942154432c0328a09e12095", func := "transit/transitlaw08.IntervalCanonical", spec := "intervalCanonical", unfollowed := true, recurses := true, apart := false }
def IntervalCanonicalSaid : Prop := intervalCanonicalRow.holds Try.pinned (OpenSpec.ofChange intervalCanonicalSpec)

/-- ITS FALSE NEIGHBOUR: 'it returns false'. Refute it at one input. -/
def intervalCanonicalWrong : ChangeSpec := { name := "intervalCanonical", fn := fun _ => fun
  | [d1, d2] => { results := [.lit (.bool false)], args := [d1, d2] }
  | _ => none }
def IntervalCanonicalWrongFalsely : Prop := intervalCanonicalRow.holds Try.pinned (OpenSpec.ofChange intervalCanonicalWrong)

/-- 'transitlaw08.IntervalMeasures': WHATEVER THE INPUT: true; the input reads as it did. -/
def intervalMeasuresSpec : ChangeSpec := { name := "intervalMeasures", fn := fun _ => fun
  | [d1, d2] => { results := [.lit (.bool true)], args := [d1, d2] }
  | _ => none }
def intervalMeasuresRow : OpenClaim := { program := "ytoikggblbknapaa", sum := "fa081e3befbb1113b1ab3fdfc87a2ff9914980cf5942154432c0328a09e12095", func := "transit/transitlaw08.IntervalMeasures", spec := "intervalMeasures", unfollowed := true, recurses := true, apart := false }
def IntervalMeasuresSaid : Prop := intervalMeasuresRow.holds Try.pinned (OpenSpec.ofChange intervalMeasuresSpec)

/-- ITS FALSE NEIGHBOUR: 'it returns false'. Refute it at one input. -/
def intervalMeasuresWrong : ChangeSpec := { name := "intervalMeasures", fn := fun _ => fun
  | [d1, d2] => { results := [.lit (.bool false)], args := [d1, d2] }
  | _ => none }
def IntervalMeasuresWrongFalsely : Prop := intervalMeasuresRow.holds Try.pinned (OpenSpec.ofChange intervalMeasuresWrong)

/- THE SECOND FORM. 'bulk': how many values and letters a reading holds, each counted each time it is reached (what is shared counts as often as it is met; a slice's spare places count too). A statement '..UptoSaid' is the law's where the arguments, and the package variables that the reading takes, are together of bulk at most 1048576: NARROWER than '..Said'. Prove '..Said' where nothing that the law and all that it calls make is longer than what came in: it says more and counts as full. Else prove '..UptoSaid'. A law counts once. -/
mutual
def uptoBulk {H : Type} : DataW H → Nat
  | .lit (.string bytes) => bytes.length + 1
  | .lit _ => 1
  | .nil => 1
  | .ptr d => uptoBulk d + 1
  | .slice elems spare => uptoBulkAll elems + uptoBulkAll spare + 1
  | .agg parts => uptoBulkAll parts + 1
  | .iface _ d => uptoBulk d + 1
  | .map entries => uptoBulkEntries entries + 1
  | .held _ => 1
def uptoBulkAll {H : Type} : List (DataW H) → Nat
  | [] => 0
  | d :: r => uptoBulk d + uptoBulkAll r
def uptoBulkEntries {H : Type} : List (Lit × DataW H) → Nat
  | [] => 0
  | x :: r => uptoBulkEntry x + uptoBulkEntries r
def uptoBulkEntry {H : Type} : Lit × DataW H → Nat
  | (.string bytes, d) => bytes.length + uptoBulk d + 1
  | (_, d) => uptoBulk d + 1
 end
def uptoSmall : (H : Type) → List (DataW H) → Bool := fun _ ds => decide (uptoBulkAll ds ≤ 1048576)
def OpenSpec.upto (s : _root_.Go.ChangeSpec) : _root_.Go.OpenSpec := { _root_.Go.OpenSpec.ofChange s with cond := some uptoSmall }

/-- 'transitlaw08.IntervalContains', WHERE WHAT IT READS IS OF BULK AT MOST 1048576: true; the input reads as it did. -/
def intervalContainsUptoRow : OpenClaim := { program := "ytoikggblbknapaa", sum := "fa081e3befbb1113b1ab3fdfc87a2ff9914980cf5942154432c0328a09e12095", func := "transit/transitlaw08.IntervalContains", spec := "intervalContains", unfollowed := true, recurses := true, apart := false, narrowed := true }
def IntervalContainsUptoSaid : Prop := intervalContainsUptoRow.holds Try.pinned (OpenSpec.upto intervalContainsSpec)

/-- 'transitlaw08.IntervalNormalizes', WHERE WHAT IT READS IS OF BULK AT MOST 1048576: true; the input reads as it did. -/
def intervalNormalizesUptoRow : OpenClaim := { program := "ytoikggblbknapaa", sum := "fa081e3befbb1113b1ab3fdfc87a2ff9914980cf5942154432c0328a09e12095", func := "transit/transitlaw08.IntervalNormalizes", spec := "intervalNormalizes", unfollowed := true, recurses := true, apart := false, narrowed := true }
def IntervalNormalizesUptoSaid : Prop := intervalNormalizesUptoRow.holds Try.pinned (OpenSpec.upto intervalNormalizesSpec)

/-- 'transitlaw08.IntervalCombines', WHERE WHAT IT READS IS OF BULK AT MOST 1048576: true; the input reads as it did. -/
def intervalCombinesUptoRow : OpenClaim := { program := "ytoikggblbknapaa", sum := "fa081e3befbb1113b1ab3fdfc87a2ff9914980cf5942154432c0328a09e12095", func := "transit/transitlaw08.IntervalCombines", spec := "intervalCombines", unfollowed := true, recurses := true, apart := false, narrowed := true }
def IntervalCombinesUptoSaid : Prop := intervalCombinesUptoRow.holds Try.pinned (OpenSpec.upto intervalCombinesSpec)

/-- 'transitlaw08.IntervalLengths', WHERE WHAT IT READS IS OF BULK AT MOST 1048576: true; the input reads as it did. -/
def intervalLengthsUptoRow : OpenClaim := { program := "ytoikggblbknapaa", sum := "fa081e3befbb1113b1ab3fdfc87a2ff9914980cf5942154432c0328a09e12095", func := "transit/transitlaw08.IntervalLengths", spec := "intervalLengths", unfollowed := true, recurses := true, apart := false, narrowed := true }
def IntervalLengthsUptoSaid : Prop := intervalLengthsUptoRow.holds Try.pinned (OpenSpec.upto intervalLengthsSpec)

/-- 'transitlaw08.IntervalGaps', WHERE WHAT IT READS IS OF BULK AT MOST 1048576: true; the input reads as it did. -/
def intervalGapsUptoRow : OpenClaim := { program := "ytoikggblbknapaa", sum := "fa081e3befbb1113b1ab3fdfc87a2ff9914980cf5942154432c0328a09e12095", func := "transit/transitlaw08.IntervalGaps", spec := "intervalGaps", unfollowed := true, recurses := true, apart := false, narrowed := true }
def IntervalGapsUptoSaid : Prop := intervalGapsUptoRow.holds Try.pinned (OpenSpec.upto intervalGapsSpec)

/-- 'transitlaw08.IntervalAlgebra', WHERE WHAT IT READS IS OF BULK AT MOST 1048576: true; the input reads as it did. -/
def intervalAlgebraUptoRow : OpenClaim := { program := "ytoikggblbknapaa", sum := "fa081e3befbb1113b1ab3fdfc87a2ff9914980cf5942154432c0328a09e12095", func := "transit/transitlaw08.IntervalAlgebra", spec := "intervalAlgebra", unfollowed := true, recurses := true, apart := false, narrowed := true }
def IntervalAlgebraUptoSaid : Prop := intervalAlgebraUptoRow.holds Try.pinned (OpenSpec.upto intervalAlgebraSpec)

/-- 'transitlaw08.IntervalCanonical', WHERE WHAT IT READS IS OF BULK AT MOST 1048576: true; the input reads as it did. -/
def intervalCanonicalUptoRow : OpenClaim := { program := "ytoikggblbknapaa", sum := "fa081e3befbb1113b1ab3fdfc87a2ff9914980cf5942154432c0328a09e12095", func := "transit/transitlaw08.IntervalCanonical", spec := "intervalCanonical", unfollowed := true, recurses := true, apart := false, narrowed := true }
def IntervalCanonicalUptoSaid : Prop := intervalCanonicalUptoRow.holds Try.pinned (OpenSpec.upto intervalCanonicalSpec)

/-- 'transitlaw08.IntervalMeasures', WHERE WHAT IT READS IS OF BULK AT MOST 1048576: true; the input reads as it did. -/
def intervalMeasuresUptoRow : OpenClaim := { program := "ytoikggblbknapaa", sum := "fa081e3befbb1113b1ab3fdfc87a2ff9914980cf5942154432c0328a09e12095", func := "transit/transitlaw08.IntervalMeasures", spec := "intervalMeasures", unfollowed := true, recurses := true, apart := false, narrowed := true }
def IntervalMeasuresUptoSaid : Prop := intervalMeasuresUptoRow.holds Try.pinned (OpenSpec.upto intervalMeasuresSpec)

end Rows
end Go.Proofs.Ytoikggblbknapaa
