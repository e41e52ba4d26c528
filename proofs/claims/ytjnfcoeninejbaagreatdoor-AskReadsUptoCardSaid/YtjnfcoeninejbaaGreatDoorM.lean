/-
  Facts of the row about the program. No conditions.
-/
import Derived.Test.YtjnfcoeninejbaaGreatDoorRows
import Derived.Test.YtjnfcoeninejbaaGreatDoorCards
import Derived.SevenTiedAt
import Derived.ProofKit
namespace Go.Proofs.YtjnfcoeninejbaaGreatDoor
set_option maxRecDepth 100000
theorem j_unf : Tryz.prog.unfollowed 3 = Rows.askReadsUptoRow.unfollowed := by kernel_rfl
theorem j_rec : Tryz.prog.recurses 3 = Rows.askReadsUptoRow.recurses := by kernel_rfl
theorem j_laid : laidOutB Tryz.prog = true := by kernel_rfl
theorem j_maps : mapsRowed Tryz.prog = true := by kernel_rfl
end Go.Proofs.YtjnfcoeninejbaaGreatDoor
