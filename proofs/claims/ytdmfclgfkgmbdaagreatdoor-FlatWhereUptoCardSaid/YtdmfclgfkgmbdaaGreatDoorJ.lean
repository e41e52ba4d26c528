/-
  Facts of the row about the program. No conditions.
-/
import Derived.Test.YtdmfclgfkgmbdaaGreatDoorRows
import Derived.Test.YtdmfclgfkgmbdaaGreatDoorCards
import Derived.SevenTiedAt
import Derived.ProofKit
set_option linter.unusedSimpArgs false
set_option linter.unusedVariables false
namespace Go.Proofs.YtdmfclgfkgmbdaaGreatDoor
set_option maxRecDepth 100000
theorem j_inPlace : Tryz.prog.inPlace 3 = Rows.flatWhereUptoRow.inPlace := by kernel_rfl
theorem j_named : Tryz.prog.varsNamed 3 = Rows.flatWhereUptoRow.named := by kernel_rfl
end Go.Proofs.YtdmfclgfkgmbdaaGreatDoor
