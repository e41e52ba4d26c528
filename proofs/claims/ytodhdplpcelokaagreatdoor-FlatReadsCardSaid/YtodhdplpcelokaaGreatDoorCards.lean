/-
  DERIVED. GIVEN WITH THE SEED: THE CARDS: each row of YtodhdplpcelokaaGreatDoorRows.lean that lists a variable, with what it lists TIED to the program's text (the seventh form; the later family's looks); each row that meets fmt, with fmt's text TOLD by the authors' own Lean function (tested against real Go, not proved from fmt's source: count such statements apart). THE CARD IS WHAT COUNTS. Prove the row's statement (the work); the ties are given (YtodhdplpcelokaaGreatDoorTie.lean); close each card by the builder's one call (the guide's Derived/Test/ToyasCard.lean, 'card_holds'). Laid BY PROGRAM, IN A SANDBOX (cutbox-door.mjs). By AI agents, Wed Nov 11 2026. No macro, syntax, notation, axiom, sorry.
-/
import Derived.Test.YtodhdplpcelokaaGreatDoorRows
import GoSem.ClaimSeven
namespace Go.Proofs.YtodhdplpcelokaaGreatDoor
namespace Rows

/-- THE TIED CARD OF 'waymarklaw13.FlatReads'. -/
def flatReadsCard : Claim7 := { stood := { row := flatReadsRow, standIns := [], harness := (true, "ca661ca5f94a6d691bb90680f37522a7587ce0cc8f9c0f7e0e11d5315fc12572"), looks := true }, kinds := [], alts := [], laidByText := true, laidKinds := [.data, .data, .data, .data, .sentinel, .sentinel, .pinned], laidTests := true, laidLooks := .later }
def FlatReadsCardSaid : Prop := Claim7.holds Tryz.pinned (.plain (OpenSpec.ofChange flatReadsSpec)) flatReadsCard

/-- THE SECOND FORM's CARD OF 'waymarklaw13.FlatReads'. -/
def flatReadsUptoCard : Claim7 := { stood := { row := flatReadsUptoRow, standIns := [], harness := (true, "ca661ca5f94a6d691bb90680f37522a7587ce0cc8f9c0f7e0e11d5315fc12572"), looks := true }, kinds := [], alts := [], laidByText := true, laidKinds := [.data, .data, .data, .data, .sentinel, .sentinel, .pinned], laidTests := true, laidLooks := .later }
def FlatReadsUptoCardSaid : Prop := Claim7.holds Tryz.pinned (.plain (OpenSpec.upto flatReadsSpec)) flatReadsUptoCard
end Rows
end Go.Proofs.YtodhdplpcelokaaGreatDoor
