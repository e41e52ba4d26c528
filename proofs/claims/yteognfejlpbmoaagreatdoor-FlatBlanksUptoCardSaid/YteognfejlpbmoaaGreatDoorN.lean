/-
  Facts of the row about the program. No conditions.
-/
import Derived.Test.YteognfejlpbmoaaGreatDoorRows
import Derived.Test.YteognfejlpbmoaaGreatDoorCards
import Derived.Test.YteognfejlpbmoaaGreatDoorJ
import Derived.Test.YteognfejlpbmoaaGreatDoorM
import Derived.SevenTiedAt
import Derived.ProofKit
set_option linter.unusedSimpArgs false
set_option linter.unusedVariables false
namespace Go.Proofs.YteognfejlpbmoaaGreatDoor
set_option maxRecDepth 100000
theorem joined : joinedFacts Tryz.prog 3 Tryz.f3 (Rows.OpenSpec.upto Rows.flatBlanksSpec).bare Rows.flatBlanksUptoRow = true := by
  unfold joinedFacts
  rw [j_inPlace, j_named, j_unf, j_rec, j_laid, j_maps]
  kernel_rfl
theorem c_wf : Rows.flatBlanksUptoRow.wfByText (Rows.OpenSpec.upto Rows.flatBlanksSpec) = true := by kernel_rfl
theorem c_main : Tryz.prog.mainIs = some (true, "81a751da8b1e7d0937cffeff06dc69dfa2140a6e68559b5550a3700fc3d381e9".toList) := by kernel_rfl
theorem c_looks : true = Tryz.prog.looks [] := by kernel_rfl
end Go.Proofs.YteognfejlpbmoaaGreatDoor
