/-
  DERIVED. GIVEN WITH THE SEED: THE CARDS: each row of YtoahkkdbdiamcaaGreatDoorRows.lean that lists a variable, with what it lists TIED to the program's text (the seventh form; the later family's looks); each row that meets fmt, with fmt's text TOLD by the authors' own Lean function (tested against real Go, not proved from fmt's source: count such statements apart). THE CARD IS WHAT COUNTS. Prove the row's statement (the work); the ties are given (YtoahkkdbdiamcaaGreatDoorTie.lean); close each card by the builder's one call (the guide's Derived/Test/ToyasCard.lean, 'card_holds'). Laid BY PROGRAM, IN A SANDBOX (cutbox-door.mjs). By AI agents, Wed Nov 11 2026. No macro, syntax, notation, axiom, sorry.
-/
import Derived.Test.YtoahkkdbdiamcaaGreatDoorRows
import GoSem.ClaimSeven
namespace Go.Proofs.YtoahkkdbdiamcaaGreatDoor
namespace Rows

/-- THE TIED CARD OF 'waymarklaw27.LoopNames'. -/
def loopNamesCard : Claim7 := { stood := { row := loopNamesRow, standIns := [], harness := (true, "81b99ff88c4442a3a924bac2509652fde740004cf05e4bb7be2996f716de363a"), looks := false }, kinds := [], alts := [], laidByText := true, laidKinds := [.data, .data, .data], laidTests := true, laidLooks := .later }
def LoopNamesCardSaid : Prop := Claim7.holds Tryz.pinned (.plain (OpenSpec.ofChange loopNamesSpec)) loopNamesCard

/-- THE SECOND FORM's CARD OF 'waymarklaw27.LoopNames'. -/
def loopNamesUptoCard : Claim7 := { stood := { row := loopNamesUptoRow, standIns := [], harness := (true, "81b99ff88c4442a3a924bac2509652fde740004cf05e4bb7be2996f716de363a"), looks := false }, kinds := [], alts := [], laidByText := true, laidKinds := [.data, .data, .data], laidTests := true, laidLooks := .later }
def LoopNamesUptoCardSaid : Prop := Claim7.holds Tryz.pinned (.plain (OpenSpec.upto loopNamesSpec)) loopNamesUptoCard
end Rows
end Go.Proofs.YtoahkkdbdiamcaaGreatDoor
