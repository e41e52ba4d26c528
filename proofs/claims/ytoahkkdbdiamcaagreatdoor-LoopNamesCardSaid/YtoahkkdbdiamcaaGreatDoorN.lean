/-
  Facts of the row about the program. No conditions.
-/
import Derived.Test.YtoahkkdbdiamcaaGreatDoorRows
import Derived.Test.YtoahkkdbdiamcaaGreatDoorCards
import Derived.Test.YtoahkkdbdiamcaaGreatDoorJ
import Derived.Test.YtoahkkdbdiamcaaGreatDoorM
import Derived.SevenTiedAt
import Derived.ProofKit
namespace Go.Proofs.YtoahkkdbdiamcaaGreatDoor
set_option maxRecDepth 100000
theorem joined : joinedFacts Tryz.prog 3 Tryz.f3 Rows.loopNamesSpec Rows.loopNamesRow = true := by
  unfold joinedFacts
  rw [j_inPlace, j_named, j_unf, j_rec, j_laid, j_maps]
  kernel_rfl
theorem c_wf : Rows.loopNamesRow.wfByText (OpenSpec.ofChange Rows.loopNamesSpec) = true := by kernel_rfl
theorem c_main : Tryz.prog.mainIs = some (true, "81b99ff88c4442a3a924bac2509652fde740004cf05e4bb7be2996f716de363a".toList) := by kernel_rfl
theorem c_looks : false = Tryz.prog.looks [] := by kernel_rfl
end Go.Proofs.YtoahkkdbdiamcaaGreatDoor
