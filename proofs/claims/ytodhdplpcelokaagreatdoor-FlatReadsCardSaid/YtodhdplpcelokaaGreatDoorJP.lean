/-
  Facts of the row about the program. No conditions.
-/
import Derived.Test.YtodhdplpcelokaaGreatDoorRows
import Derived.Test.YtodhdplpcelokaaGreatDoorCards
import Derived.SevenTiedAt
import Derived.ProofKit
namespace Go.Proofs.YtodhdplpcelokaaGreatDoor
set_option linter.all false
set_option maxRecDepth 100000
theorem XqX : Tryz.prog.inPlace 3 = Rows.flatReadsRow.inPlace := by kernel_rfl
theorem XrA : Tryz.prog.varsNamed 3 = Rows.flatReadsRow.named := by kernel_rfl
end Go.Proofs.YtodhdplpcelokaaGreatDoor
