/-
  Facts of the row about the program. No conditions.
-/
import Derived.Test.YtfdlocphbipadaaGreatDoorRows
import Derived.Test.YtfdlocphbipadaaGreatDoorCards
import Derived.SevenTiedAt
import Derived.ProofKit
namespace Go.Proofs.YtfdlocphbipadaaGreatDoor
set_option maxRecDepth 100000
theorem j_unf : Tryz.prog.unfollowed 3 = Rows.differNamesRow.unfollowed := by kernel_rfl
theorem j_rec : Tryz.prog.recurses 3 = Rows.differNamesRow.recurses := by kernel_rfl
theorem j_laid : laidOutB Tryz.prog = true := by kernel_rfl
theorem j_maps : mapsRowed Tryz.prog = true := by kernel_rfl
end Go.Proofs.YtfdlocphbipadaaGreatDoor
