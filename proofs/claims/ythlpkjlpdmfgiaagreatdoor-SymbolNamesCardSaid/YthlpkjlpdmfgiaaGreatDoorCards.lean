/-
  DERIVED. GIVEN WITH THE SEED: THE CARDS: each row of YthlpkjlpdmfgiaaGreatDoorRows.lean that lists a variable, with what it lists TIED to the program's text (the seventh form; the later family's looks); each row that meets fmt, with fmt's text TOLD by the authors' own Lean function (tested against real Go, not proved from fmt's source: count such statements apart). THE CARD IS WHAT COUNTS. Prove the row's statement (the work); the ties are given (YthlpkjlpdmfgiaaGreatDoorTie.lean); close each card by the builder's one call (the guide's Derived/Test/ToyasCard.lean, 'card_holds'). Laid BY PROGRAM, IN A SANDBOX (cutbox-door.mjs). By AI agents, Wed Nov 11 2026. No macro, syntax, notation, axiom, sorry.
-/
import Derived.Test.YthlpkjlpdmfgiaaGreatDoorRows
import GoSem.ClaimSeven
namespace Go.Proofs.YthlpkjlpdmfgiaaGreatDoor
namespace Rows

/-- THE TIED CARD OF 'waymarklaw25.SymbolNames'. -/
def symbolNamesCard : Claim7 := { stood := { row := symbolNamesRow, standIns := [], harness := (true, "a015b871c5d34c617622c12a48a2f04892408026f920eaec6d14127c0d84a710"), looks := false }, kinds := [], alts := [], laidByText := true, laidKinds := [.data, .data, .data], laidTests := true, laidLooks := .later }
def SymbolNamesCardSaid : Prop := Claim7.holds Tryz.pinned (.plain (OpenSpec.ofChange symbolNamesSpec)) symbolNamesCard

/-- THE SECOND FORM's CARD OF 'waymarklaw25.SymbolNames'. -/
def symbolNamesUptoCard : Claim7 := { stood := { row := symbolNamesUptoRow, standIns := [], harness := (true, "a015b871c5d34c617622c12a48a2f04892408026f920eaec6d14127c0d84a710"), looks := false }, kinds := [], alts := [], laidByText := true, laidKinds := [.data, .data, .data], laidTests := true, laidLooks := .later }
def SymbolNamesUptoCardSaid : Prop := Claim7.holds Tryz.pinned (.plain (OpenSpec.upto symbolNamesSpec)) symbolNamesUptoCard
end Rows
end Go.Proofs.YthlpkjlpdmfgiaaGreatDoor
