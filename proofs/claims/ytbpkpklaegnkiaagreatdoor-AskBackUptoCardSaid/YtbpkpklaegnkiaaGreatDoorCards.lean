/-
  DERIVED. GIVEN WITH THE SEED: THE CARDS: each row of YtbpkpklaegnkiaaGreatDoorRows.lean that lists a variable, with what it lists TIED to the program's text (the seventh form; the later family's looks); each row that meets fmt, with fmt's text TOLD by the authors' own Lean function (tested against real Go, not proved from fmt's source: count such statements apart). THE CARD IS WHAT COUNTS. Prove the row's statement (the work); the ties are given (YtbpkpklaegnkiaaGreatDoorTie.lean); close each card by the builder's one call (the guide's Derived/Test/ToyasCard.lean, 'card_holds'). Laid BY PROGRAM, IN A SANDBOX (cutbox-door.mjs). By AI agents, Wed Nov 11 2026. No macro, syntax, notation, axiom, sorry.
-/
import Derived.Test.YtbpkpklaegnkiaaGreatDoorRows
import GoSem.ClaimSeven
namespace Go.Proofs.YtbpkpklaegnkiaaGreatDoor
namespace Rows

/-- THE TIED CARD OF 'waymarklaw29.AskBack'. -/
def askBackCard : Claim7 := { stood := { row := askBackRow, standIns := [], harness := (true, "b4d251f6ce774b0dafcd43c766d65a5397db05ad883c880525805141d5ef3824"), looks := true }, kinds := [], alts := [], laidByText := true, laidKinds := [.data, .data, .data, .pinned, .data, .sentinel, .sentinel, .data, .listed], laidTests := true, laidLooks := .later }
def AskBackCardSaid : Prop := Claim7.holds Tryz.pinned (.plain (OpenSpec.ofChange askBackSpec)) askBackCard

/-- THE SECOND FORM's CARD OF 'waymarklaw29.AskBack'. -/
def askBackUptoCard : Claim7 := { stood := { row := askBackUptoRow, standIns := [], harness := (true, "b4d251f6ce774b0dafcd43c766d65a5397db05ad883c880525805141d5ef3824"), looks := true }, kinds := [], alts := [], laidByText := true, laidKinds := [.data, .data, .data, .pinned, .data, .sentinel, .sentinel, .data, .listed], laidTests := true, laidLooks := .later }
def AskBackUptoCardSaid : Prop := Claim7.holds Tryz.pinned (.plain (OpenSpec.upto askBackSpec)) askBackUptoCard
end Rows
end Go.Proofs.YtbpkpklaegnkiaaGreatDoor
