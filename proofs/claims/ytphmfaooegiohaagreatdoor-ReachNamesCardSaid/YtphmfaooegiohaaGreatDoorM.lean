/-
  Facts of the row about the program. No conditions.
-/
import Derived.Test.YtphmfaooegiohaaGreatDoorRows
import Derived.Test.YtphmfaooegiohaaGreatDoorCards
import Derived.SevenTiedAt
import Derived.ProofKit
namespace Go.Proofs.YtphmfaooegiohaaGreatDoor
set_option maxRecDepth 100000
theorem j_unf : Tryz.prog.unfollowed 3 = Rows.reachNamesRow.unfollowed := by kernel_rfl
theorem j_rec : Tryz.prog.recurses 3 = Rows.reachNamesRow.recurses := by kernel_rfl
theorem j_laid : laidOutB Tryz.prog = true := by kernel_rfl
theorem j_maps : mapsRowed Tryz.prog = true := by kernel_rfl
end Go.Proofs.YtphmfaooegiohaaGreatDoor
