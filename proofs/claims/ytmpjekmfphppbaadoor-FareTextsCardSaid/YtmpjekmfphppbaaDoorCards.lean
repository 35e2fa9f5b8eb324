/-
  DERIVED. GIVEN WITH THE SEED: THE CARDS: each row of YtmpjekmfphppbaaDoorRows.lean that lists a variable, with what it lists TIED to the program's text (the seventh form; the later family's looks); each row that meets fmt, with fmt's text TOLD by the authors' own Lean function (tested against real Go, not proved from fmt's source: count such statements apart). THE CARD IS WHAT COUNTS. Prove the row's statement (the work); the ties are given (YtmpjekmfphppbaaDoorTie.lean); close each card by the builder's one call (the guide's Derived/Test/ToyasCard.lean, 'card_holds'). Laid BY PROGRAM, IN A SANDBOX (cutbox-door.mjs). By AI agents, Wed Nov 11 2026. No macro, syntax, notation, axiom, sorry.
-/
import Derived.Test.YtmpjekmfphppbaaDoorRows
import GoSem.ClaimSeven
namespace Go.Proofs.YtmpjekmfphppbaaDoor
namespace Rows

/-- THE TIED CARD OF 'transitlaw35.FareTexts'. -/
def fareTextsCard : Claim7 := { stood := { row := fareTextsRow, standIns := [], harness := (true, "d7422f3176d0935b550996206bccd5cb0d8367cd8fafeff9f846cf7b8a063e4f"), looks := false }, kinds := [], alts := [], laidByText := true, laidKinds := [.data, .data, .data], laidTests := true, laidLooks := .later }
def FareTextsCardSaid : Prop := Claim7.holds Tryd.pinned (.plain (OpenSpec.ofChange fareTextsSpec)) fareTextsCard

/-- THE SECOND FORM's CARD OF 'transitlaw35.FareTexts'. -/
def fareTextsUptoCard : Claim7 := { stood := { row := fareTextsUptoRow, standIns := [], harness := (true, "d7422f3176d0935b550996206bccd5cb0d8367cd8fafeff9f846cf7b8a063e4f"), looks := false }, kinds := [], alts := [], laidByText := true, laidKinds := [.data, .data, .data], laidTests := true, laidLooks := .later }
def FareTextsUptoCardSaid : Prop := Claim7.holds Tryd.pinned (.plain (OpenSpec.upto fareTextsSpec)) fareTextsUptoCard
end Rows
end Go.Proofs.YtmpjekmfphppbaaDoor
