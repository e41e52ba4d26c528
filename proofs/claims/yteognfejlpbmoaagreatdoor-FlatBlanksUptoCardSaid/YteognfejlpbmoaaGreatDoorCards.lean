/-
  DERIVED. GIVEN WITH THE SEED: THE CARDS: each row of YteognfejlpbmoaaGreatDoorRows.lean that lists a variable, with what it lists TIED to the program's text (the seventh form; the later family's looks); each row that meets fmt, with fmt's text TOLD by the authors' own Lean function (tested against real Go, not proved from fmt's source: count such statements apart). THE CARD IS WHAT COUNTS. Prove the row's statement (the work); the ties are given (YteognfejlpbmoaaGreatDoorTie.lean); close each card by the builder's one call (the guide's Derived/Test/ToyasCard.lean, 'card_holds'). Laid BY PROGRAM, IN A SANDBOX (cutbox-door.mjs). By AI agents, Wed Nov 11 2026. No macro, syntax, notation, axiom, sorry.
-/
import Derived.Test.YteognfejlpbmoaaGreatDoorRows
import GoSem.ClaimSeven
namespace Go.Proofs.YteognfejlpbmoaaGreatDoor
namespace Rows

/-- THE TIED CARD OF 'waymarklaw13.FlatBlanks'. -/
def flatBlanksCard : Claim7 := { stood := { row := flatBlanksRow, standIns := [], harness := (true, "81a751da8b1e7d0937cffeff06dc69dfa2140a6e68559b5550a3700fc3d381e9"), looks := true }, kinds := [], alts := [], laidByText := true, laidKinds := [.data, .data, .data, .data, .sentinel, .sentinel, .pinned], laidTests := true, laidLooks := .later }
def FlatBlanksCardSaid : Prop := Claim7.holds Tryz.pinned (.plain (OpenSpec.ofChange flatBlanksSpec)) flatBlanksCard

/-- THE SECOND FORM's CARD OF 'waymarklaw13.FlatBlanks'. -/
def flatBlanksUptoCard : Claim7 := { stood := { row := flatBlanksUptoRow, standIns := [], harness := (true, "81a751da8b1e7d0937cffeff06dc69dfa2140a6e68559b5550a3700fc3d381e9"), looks := true }, kinds := [], alts := [], laidByText := true, laidKinds := [.data, .data, .data, .data, .sentinel, .sentinel, .pinned], laidTests := true, laidLooks := .later }
def FlatBlanksUptoCardSaid : Prop := Claim7.holds Tryz.pinned (.plain (OpenSpec.upto flatBlanksSpec)) flatBlanksUptoCard
end Rows
end Go.Proofs.YteognfejlpbmoaaGreatDoor
