/-
  Facts of the row about the program. No conditions.
-/
import Derived.Test.YtoahkkdbdiamcaaGreatDoorRows
import Derived.Test.YtoahkkdbdiamcaaGreatDoorCards
import Derived.SevenTiedAt
import Derived.ProofKit
namespace Go.Proofs.YtoahkkdbdiamcaaGreatDoor
set_option maxRecDepth 100000
theorem j_unf : Tryz.prog.unfollowed 3 = Rows.loopNamesRow.unfollowed := by kernel_rfl
theorem j_rec : Tryz.prog.recurses 3 = Rows.loopNamesRow.recurses := by kernel_rfl
theorem j_laid : laidOutB Tryz.prog = true := by kernel_rfl
theorem j_maps : mapsRowed Tryz.prog = true := by kernel_rfl
end Go.Proofs.YtoahkkdbdiamcaaGreatDoor
