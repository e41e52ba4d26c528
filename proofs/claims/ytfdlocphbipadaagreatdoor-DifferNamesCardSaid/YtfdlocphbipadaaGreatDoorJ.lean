/-
  Facts of the row about the program. No conditions.
-/
import Derived.Test.YtfdlocphbipadaaGreatDoorRows
import Derived.Test.YtfdlocphbipadaaGreatDoorCards
import Derived.SevenTiedAt
import Derived.ProofKit
namespace Go.Proofs.YtfdlocphbipadaaGreatDoor
set_option maxRecDepth 100000
theorem j_inPlace : Tryz.prog.inPlace 3 = Rows.differNamesRow.inPlace := by kernel_rfl
theorem j_named : Tryz.prog.varsNamed 3 = Rows.differNamesRow.named := by kernel_rfl
end Go.Proofs.YtfdlocphbipadaaGreatDoor
