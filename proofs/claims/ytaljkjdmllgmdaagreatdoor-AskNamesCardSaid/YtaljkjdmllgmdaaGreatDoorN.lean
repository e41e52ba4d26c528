/-
  Facts of the row about the program. No conditions.
-/
import Derived.Test.YtaljkjdmllgmdaaGreatDoorRows
import Derived.Test.YtaljkjdmllgmdaaGreatDoorCards
import Derived.Test.YtaljkjdmllgmdaaGreatDoorJ
import Derived.Test.YtaljkjdmllgmdaaGreatDoorM
import Derived.SevenTiedAt
import Derived.ProofKit
set_option linter.unusedSimpArgs false
set_option linter.unusedVariables false
namespace Go.Proofs.YtaljkjdmllgmdaaGreatDoor
set_option maxRecDepth 100000
theorem joined : joinedFacts Tryz.prog 3 Tryz.f3 Rows.askNamesSpec Rows.askNamesRow = true := by
  unfold joinedFacts
  rw [j_inPlace, j_named, j_unf, j_rec, j_laid, j_maps]
  kernel_rfl
theorem c_wf : Rows.askNamesRow.wfByText (OpenSpec.ofChange Rows.askNamesSpec) = true := by kernel_rfl
theorem c_main : Tryz.prog.mainIs = some (true, "d02b5a5a2fe801bd33b99a12e8b245a8f23266854dc901dc3fe3fdec8c5e18da".toList) := by kernel_rfl
theorem c_looks : true = Tryz.prog.looks [] := by kernel_rfl
end Go.Proofs.YtaljkjdmllgmdaaGreatDoor
