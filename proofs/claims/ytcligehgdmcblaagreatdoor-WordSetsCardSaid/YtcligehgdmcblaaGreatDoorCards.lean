/-
  DERIVED. GIVEN WITH THE SEED: THE CARDS: each row of YtcligehgdmcblaaGreatDoorRows.lean that lists a variable, with what it lists TIED to the program's text (the seventh form; the later family's looks); each row that meets fmt, with fmt's text TOLD by the authors' own Lean function (tested against real Go, not proved from fmt's source: count such statements apart). THE CARD IS WHAT COUNTS. Prove the row's statement (the work); the ties are given (YtcligehgdmcblaaGreatDoorTie.lean); close each card by the builder's one call (the guide's Derived/Test/ToyasCard.lean, 'card_holds'). Laid BY PROGRAM, IN A SANDBOX (cutbox-door.mjs). By AI agents, Wed Nov 11 2026. No macro, syntax, notation, axiom, sorry.
-/
import Derived.Test.YtcligehgdmcblaaGreatDoorRows
import GoSem.ClaimSeven
namespace Go.Proofs.YtcligehgdmcblaaGreatDoor
namespace Rows

/-- THE TIED CARD OF 'lazaruslaw16.WordSets'. -/
def wordSetsCard : Claim7 := { stood := { row := wordSetsRow, standIns := [], harness := (true, "becebdcf5cd1f7a83ea61847bffc0553bc1442947d566ca7dc7e992dea19601b"), looks := true }, kinds := [], alts := [], laidByText := true, laidKinds := [.data, .data, .data, .data, .sentinel, .sentinel, .pinned], laidTests := true, laidLooks := .later }
def WordSetsCardSaid : Prop := Claim7.holds Tryz.pinned (.plain (OpenSpec.ofChange wordSetsSpec)) wordSetsCard

/-- THE SECOND FORM's CARD OF 'lazaruslaw16.WordSets'. -/
def wordSetsUptoCard : Claim7 := { stood := { row := wordSetsUptoRow, standIns := [], harness := (true, "becebdcf5cd1f7a83ea61847bffc0553bc1442947d566ca7dc7e992dea19601b"), looks := true }, kinds := [], alts := [], laidByText := true, laidKinds := [.data, .data, .data, .data, .sentinel, .sentinel, .pinned], laidTests := true, laidLooks := .later }
def WordSetsUptoCardSaid : Prop := Claim7.holds Tryz.pinned (.plain (OpenSpec.upto wordSetsSpec)) wordSetsUptoCard
end Rows
end Go.Proofs.YtcligehgdmcblaaGreatDoor
