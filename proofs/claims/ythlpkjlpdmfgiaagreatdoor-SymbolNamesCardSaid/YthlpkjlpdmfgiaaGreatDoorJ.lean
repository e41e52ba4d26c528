/-
  Facts of the row about the program. No conditions.
-/
import Derived.Test.YthlpkjlpdmfgiaaGreatDoorRows
import Derived.Test.YthlpkjlpdmfgiaaGreatDoorCards
import Derived.SevenTiedAt
import Derived.ProofKit
namespace Go.Proofs.YthlpkjlpdmfgiaaGreatDoor
set_option maxRecDepth 100000
theorem j_inPlace : Tryz.prog.inPlace 3 = Rows.symbolNamesRow.inPlace := by kernel_rfl
theorem j_named : Tryz.prog.varsNamed 3 = Rows.symbolNamesRow.named := by kernel_rfl
end Go.Proofs.YthlpkjlpdmfgiaaGreatDoor
