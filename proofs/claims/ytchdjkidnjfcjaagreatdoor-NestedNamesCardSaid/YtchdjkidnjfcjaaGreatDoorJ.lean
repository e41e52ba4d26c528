/-
  Facts of the row about the program. No conditions.
-/
import Derived.Test.YtchdjkidnjfcjaaGreatDoorRows
import Derived.Test.YtchdjkidnjfcjaaGreatDoorCards
import Derived.SevenTiedAt
import Derived.ProofKit
namespace Go.Proofs.YtchdjkidnjfcjaaGreatDoor
set_option maxRecDepth 100000
theorem j_inPlace : Tryz.prog.inPlace 3 = Rows.nestedNamesRow.inPlace := by kernel_rfl
theorem j_named : Tryz.prog.varsNamed 3 = Rows.nestedNamesRow.named := by kernel_rfl
theorem j_unf : Tryz.prog.unfollowed 3 = Rows.nestedNamesRow.unfollowed := by kernel_rfl
theorem j_rec : Tryz.prog.recurses 3 = Rows.nestedNamesRow.recurses := by kernel_rfl
theorem j_laid : laidOutB Tryz.prog = true := by kernel_rfl
theorem j_maps : mapsRowed Tryz.prog = true := by kernel_rfl
theorem joined : joinedFacts Tryz.prog 3 Tryz.f3 Rows.nestedNamesSpec Rows.nestedNamesRow = true := by
  unfold joinedFacts
  rw [j_inPlace, j_named, j_unf, j_rec, j_laid, j_maps]
  kernel_rfl
theorem c_wf : Rows.nestedNamesRow.wfByText (OpenSpec.ofChange Rows.nestedNamesSpec) = true := by kernel_rfl
theorem c_main : Tryz.prog.mainIs = some (true, "86fdde24daad600a73486e2416bef0d7e7d515dc524b004baf666f1c48d15221".toList) := by kernel_rfl
theorem c_looks : true = Tryz.prog.looks [] := by kernel_rfl
theorem c_goes : false = Rows.nestedNamesRow.goesBy Tryz.prog := by kernel_rfl
end Go.Proofs.YtchdjkidnjfcjaaGreatDoor
