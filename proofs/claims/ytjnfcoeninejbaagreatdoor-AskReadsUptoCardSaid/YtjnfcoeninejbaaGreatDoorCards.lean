/-
  DERIVED. GIVEN WITH THE SEED: THE CARDS: each row of YtjnfcoeninejbaaGreatDoorRows.lean that lists a variable, with what it lists TIED to the program's text (the seventh form; the later family's looks); each row that meets fmt, with fmt's text TOLD by the authors' own Lean function (tested against real Go, not proved from fmt's source: count such statements apart). THE CARD IS WHAT COUNTS. Prove the row's statement (the work); the ties are given (YtjnfcoeninejbaaGreatDoorTie.lean); close each card by the builder's one call (the guide's Derived/Test/ToyasCard.lean, 'card_holds'). Laid BY PROGRAM, IN A SANDBOX (cutbox-door.mjs). By AI agents, Wed Nov 11 2026. No macro, syntax, notation, axiom, sorry.
-/
import Derived.Test.YtjnfcoeninejbaaGreatDoorRows
import GoSem.ClaimSeven
namespace Go.Proofs.YtjnfcoeninejbaaGreatDoor
namespace Rows

/-- THE TIED CARD OF 'waymarklaw29.AskReads'. -/
def askReadsCard : Claim7 := { stood := { row := askReadsRow, standIns := [], harness := (true, "a69ed289f2a4f439a918377ca9b6c62bba576d20ed8fb421ab0365f80cf5fe52"), looks := true }, kinds := [], alts := [], laidByText := true, laidKinds := [.data, .data, .data, .data, .sentinel, .sentinel, .listed, .data, .pinned], laidTests := true, laidLooks := .later }
def AskReadsCardSaid : Prop := Claim7.holds Tryz.pinned (.plain (OpenSpec.ofChange askReadsSpec)) askReadsCard

/-- THE SECOND FORM's CARD OF 'waymarklaw29.AskReads'. -/
def askReadsUptoCard : Claim7 := { stood := { row := askReadsUptoRow, standIns := [], harness := (true, "a69ed289f2a4f439a918377ca9b6c62bba576d20ed8fb421ab0365f80cf5fe52"), looks := true }, kinds := [], alts := [], laidByText := true, laidKinds := [.data, .data, .data, .data, .sentinel, .sentinel, .listed, .data, .pinned], laidTests := true, laidLooks := .later }
def AskReadsUptoCardSaid : Prop := Claim7.holds Tryz.pinned (.plain (OpenSpec.upto askReadsSpec)) askReadsUptoCard
end Rows
end Go.Proofs.YtjnfcoeninejbaaGreatDoor
