/-
  Facts of the row about the program. No conditions.
-/
import Derived.Test.YteognfejlpbmoaaGreatDoorRows
import Derived.Test.YteognfejlpbmoaaGreatDoorCards
import Derived.SevenTiedAt
import Derived.ProofKit
set_option linter.unusedSimpArgs false
set_option linter.unusedVariables false
namespace Go.Proofs.YteognfejlpbmoaaGreatDoor
set_option maxRecDepth 100000
theorem j_unf : Tryz.prog.unfollowed 3 = Rows.flatBlanksUptoRow.unfollowed := by kernel_rfl
theorem j_rec : Tryz.prog.recurses 3 = Rows.flatBlanksUptoRow.recurses := by kernel_rfl
theorem j_laid : laidOutB Tryz.prog = true := by kernel_rfl
theorem j_maps : mapsRowed Tryz.prog = true := by kernel_rfl
end Go.Proofs.YteognfejlpbmoaaGreatDoor
