/-
  DERIVED. GIVEN WITH THE SEED: THE CARDS: each row of YtphmfaooegiohaaGreatDoorRows.lean that lists a variable, with what it lists TIED to the program's text (the seventh form; the later family's looks); each row that meets fmt, with fmt's text TOLD by the authors' own Lean function (tested against real Go, not proved from fmt's source: count such statements apart). THE CARD IS WHAT COUNTS. Prove the row's statement (the work); the ties are given (YtphmfaooegiohaaGreatDoorTie.lean); close each card by the builder's one call (the guide's Derived/Test/ToyasCard.lean, 'card_holds'). Laid BY PROGRAM, IN A SANDBOX (cutbox-door.mjs). By AI agents, Wed Nov 11 2026. No macro, syntax, notation, axiom, sorry.
-/
import Derived.Test.YtphmfaooegiohaaGreatDoorRows
import GoSem.ClaimSeven
namespace Go.Proofs.YtphmfaooegiohaaGreatDoor
namespace Rows

/-- THE TIED CARD OF 'waymarklaw26.ReachNames'. -/
def reachNamesCard : Claim7 := { stood := { row := reachNamesRow, standIns := [], harness := (true, "834d2dd627109f985ab55ae2f5ca1784c75e7a9dc74832b5fc010c3f8db35a25"), looks := false }, kinds := [], alts := [], laidByText := true, laidKinds := [.data, .data, .data], laidTests := true, laidLooks := .later }
def ReachNamesCardSaid : Prop := Claim7.holds Tryz.pinned (.plain (OpenSpec.ofChange reachNamesSpec)) reachNamesCard

/-- THE SECOND FORM's CARD OF 'waymarklaw26.ReachNames'. -/
def reachNamesUptoCard : Claim7 := { stood := { row := reachNamesUptoRow, standIns := [], harness := (true, "834d2dd627109f985ab55ae2f5ca1784c75e7a9dc74832b5fc010c3f8db35a25"), looks := false }, kinds := [], alts := [], laidByText := true, laidKinds := [.data, .data, .data], laidTests := true, laidLooks := .later }
def ReachNamesUptoCardSaid : Prop := Claim7.holds Tryz.pinned (.plain (OpenSpec.upto reachNamesSpec)) reachNamesUptoCard
end Rows
end Go.Proofs.YtphmfaooegiohaaGreatDoor
