/-
  Facts of the row about the program. No conditions.
-/
import Derived.Test.YtodhdplpcelokaaGreatDoorRows
import Derived.Test.YtodhdplpcelokaaGreatDoorCards
import Derived.SevenTiedAt
import Derived.ProofKit
namespace Go.Proofs.YtodhdplpcelokaaGreatDoor
set_option linter.all false
set_option maxRecDepth 100000
theorem XrC : Tryz.prog.unfollowed 3 = Rows.flatReadsRow.unfollowed := by kernel_rfl
theorem XrB : Tryz.prog.recurses 3 = Rows.flatReadsRow.recurses := by kernel_rfl
theorem XqY : laidOutB Tryz.prog = true := by kernel_rfl
theorem XqZ : mapsRowed Tryz.prog = true := by kernel_rfl
end Go.Proofs.YtodhdplpcelokaaGreatDoor
