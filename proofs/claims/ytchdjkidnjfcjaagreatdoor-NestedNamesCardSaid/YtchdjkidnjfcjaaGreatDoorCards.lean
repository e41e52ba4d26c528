/-
  DERIVED. GIVEN WITH THE SEED: THE CARDS: each row of YtchdjkidnjfcjaaGreatDoorRows.lean that lists a variable, with what it lists TIED to the program's text (the seventh form; the later family's looks); each row that meets fmt, with fmt's text TOLD by the authors' own Lean function (tested against real Go, not proved from fmt's source: count such statements apart). THE CARD IS WHAT COUNTS. Prove the row's statement (the work); the ties are given (YtchdjkidnjfcjaaGreatDoorTie.lean); close each card by the builder's one call (the guide's Derived/Test/ToyasCard.lean, 'card_holds'). Laid BY PROGRAM, IN A SANDBOX (cutbox-door.mjs). By AI agents, Wed Nov 11 2026. No macro, syntax, notation, axiom, sorry.
-/
import Derived.Test.YtchdjkidnjfcjaaGreatDoorRows
import GoSem.ClaimSeven
namespace Go.Proofs.YtchdjkidnjfcjaaGreatDoor
namespace Rows

/-- THE TIED CARD OF 'waymarklaw15.NestedNames'. -/
def nestedNamesCard : Claim7 := { stood := { row := nestedNamesRow, standIns := [], harness := (true, "86fdde24daad600a73486e2416bef0d7e7d515dc524b004baf666f1c48d15221"), looks := true }, kinds := [], alts := [], laidByText := true, laidKinds := [.data, .data, .data, .data, .sentinel, .sentinel, .listed, .data, .pinned], laidTests := true, laidLooks := .later }
def NestedNamesCardSaid : Prop := Claim7.holds Tryz.pinned (.plain (OpenSpec.ofChange nestedNamesSpec)) nestedNamesCard

/-- THE SECOND FORM's CARD OF 'waymarklaw15.NestedNames'. -/
def nestedNamesUptoCard : Claim7 := { stood := { row := nestedNamesUptoRow, standIns := [], harness := (true, "86fdde24daad600a73486e2416bef0d7e7d515dc524b004baf666f1c48d15221"), looks := true }, kinds := [], alts := [], laidByText := true, laidKinds := [.data, .data, .data, .data, .sentinel, .sentinel, .listed, .data, .pinned], laidTests := true, laidLooks := .later }
def NestedNamesUptoCardSaid : Prop := Claim7.holds Tryz.pinned (.plain (OpenSpec.upto nestedNamesSpec)) nestedNamesUptoCard
end Rows
end Go.Proofs.YtchdjkidnjfcjaaGreatDoor
