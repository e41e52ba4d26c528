/-
  Facts of the row about the program. No conditions.
-/
import Derived.Test.YtfdlocphbipadaaGreatDoorRows
import Derived.Test.YtfdlocphbipadaaGreatDoorCards
import Derived.Test.YtfdlocphbipadaaGreatDoorJ
import Derived.Test.YtfdlocphbipadaaGreatDoorM
import Derived.SevenTiedAt
import Derived.ProofKit
namespace Go.Proofs.YtfdlocphbipadaaGreatDoor
set_option maxRecDepth 100000
theorem joined : joinedFacts Tryz.prog 3 Tryz.f3 Rows.differNamesSpec Rows.differNamesRow = true := by
  unfold joinedFacts
  rw [j_inPlace, j_named, j_unf, j_rec, j_laid, j_maps]
  kernel_rfl
theorem c_wf : Rows.differNamesRow.wfByText (OpenSpec.ofChange Rows.differNamesSpec) = true := by kernel_rfl
theorem c_main : Tryz.prog.mainIs = some (true, "245f4af06b5aa8d225a251d3c47f64f872df7bbbf899f545e7ff6bc2ad53ec7e".toList) := by kernel_rfl
theorem c_looks : false = Tryz.prog.looks [] := by kernel_rfl
end Go.Proofs.YtfdlocphbipadaaGreatDoor
