/-
  Facts of the row about the program. No conditions.
-/
import Derived.Test.YthlpkjlpdmfgiaaGreatDoorRows
import Derived.Test.YthlpkjlpdmfgiaaGreatDoorCards
import Derived.SevenTiedAt
import Derived.ProofKit
namespace Go.Proofs.YthlpkjlpdmfgiaaGreatDoor
set_option maxRecDepth 100000
theorem j_unf : Tryz.prog.unfollowed 3 = Rows.symbolNamesRow.unfollowed := by kernel_rfl
theorem j_rec : Tryz.prog.recurses 3 = Rows.symbolNamesRow.recurses := by kernel_rfl
theorem j_laid : laidOutB Tryz.prog = true := by kernel_rfl
theorem j_maps : mapsRowed Tryz.prog = true := by kernel_rfl
end Go.Proofs.YthlpkjlpdmfgiaaGreatDoor
