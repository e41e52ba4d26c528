/-
  Facts of the row about the program. No conditions.
-/
import Derived.Test.YtdmfclgfkgmbdaaGreatDoorRows
import Derived.Test.YtdmfclgfkgmbdaaGreatDoorCards
import Derived.Test.YtdmfclgfkgmbdaaGreatDoorJ
import Derived.Test.YtdmfclgfkgmbdaaGreatDoorM
import Derived.SevenTiedAt
import Derived.ProofKit
set_option linter.unusedSimpArgs false
set_option linter.unusedVariables false
namespace Go.Proofs.YtdmfclgfkgmbdaaGreatDoor
set_option maxRecDepth 100000
theorem joined : joinedFacts Tryz.prog 3 Tryz.f3 (Rows.OpenSpec.upto Rows.flatWhereSpec).bare Rows.flatWhereUptoRow = true := by
  unfold joinedFacts
  rw [j_inPlace, j_named, j_unf, j_rec, j_laid, j_maps]
  kernel_rfl
theorem c_wf : Rows.flatWhereUptoRow.wfByText (Rows.OpenSpec.upto Rows.flatWhereSpec) = true := by kernel_rfl
theorem c_main : Tryz.prog.mainIs = some (true, "ea2d96ed2de2447ea7d079e05fb665d7d9c4f85d5c5632150a3f0d16a4ae397f".toList) := by kernel_rfl
theorem c_looks : true = Tryz.prog.looks [] := by kernel_rfl
end Go.Proofs.YtdmfclgfkgmbdaaGreatDoor
