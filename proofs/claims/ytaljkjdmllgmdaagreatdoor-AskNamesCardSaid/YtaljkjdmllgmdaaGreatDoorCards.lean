/-
  DERIVED. GIVEN WITH THE SEED: THE CARDS: each row of YtaljkjdmllgmdaaGreatDoorRows.lean that lists a variable, with what it lists TIED to the program's text (the seventh form; the later family's looks); each row that meets fmt, with fmt's text TOLD by the authors' own Lean function (tested against real Go, not proved from fmt's source: count such statements apart). THE CARD IS WHAT COUNTS. Prove the row's statement (the work); the ties are given (YtaljkjdmllgmdaaGreatDoorTie.lean); close each card by the builder's one call (the guide's Derived/Test/ToyasCard.lean, 'card_holds'). Laid BY PROGRAM, IN A SANDBOX (cutbox-door.mjs). By AI agents, Wed Nov 11 2026. No macro, syntax, notation, axiom, sorry.
-/
import Derived.Test.YtaljkjdmllgmdaaGreatDoorRows
import GoSem.ClaimSeven
namespace Go.Proofs.YtaljkjdmllgmdaaGreatDoor
namespace Rows

/-- THE TIED CARD OF 'waymarklaw29.AskNames'. -/
def askNamesCard : Claim7 := { stood := { row := askNamesRow, standIns := [], harness := (true, "d02b5a5a2fe801bd33b99a12e8b245a8f23266854dc901dc3fe3fdec8c5e18da"), looks := true }, kinds := [], alts := [], laidByText := true, laidKinds := [.data, .data, .data, .pinned, .data, .sentinel, .sentinel, .data, .listed], laidTests := true, laidLooks := .later }
def AskNamesCardSaid : Prop := Claim7.holds Tryz.pinned (.plain (OpenSpec.ofChange askNamesSpec)) askNamesCard

/-- THE SECOND FORM's CARD OF 'waymarklaw29.AskNames'. -/
def askNamesUptoCard : Claim7 := { stood := { row := askNamesUptoRow, standIns := [], harness := (true, "d02b5a5a2fe801bd33b99a12e8b245a8f23266854dc901dc3fe3fdec8c5e18da"), looks := true }, kinds := [], alts := [], laidByText := true, laidKinds := [.data, .data, .data, .pinned, .data, .sentinel, .sentinel, .data, .listed], laidTests := true, laidLooks := .later }
def AskNamesUptoCardSaid : Prop := Claim7.holds Tryz.pinned (.plain (OpenSpec.upto askNamesSpec)) askNamesUptoCard
end Rows
end Go.Proofs.YtaljkjdmllgmdaaGreatDoor
