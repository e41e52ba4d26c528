/-
  Facts of the row about the program. No conditions.
-/
import Derived.Test.YteognfejlpbmoaaGreatDoorRows
import Derived.Test.YteognfejlpbmoaaGreatDoorCards
import Derived.SevenTiedAt
import Derived.ProofKit
set_option linter.unusedSimpArgs false
set_option linter.unusedVariables false
namespace Go.Proofs.YteognfejlpbmoaaGreatDoor
set_option maxRecDepth 100000
theorem j_inPlace : Tryz.prog.inPlace 3 = Rows.flatBlanksUptoRow.inPlace := by kernel_rfl
theorem j_named : Tryz.prog.varsNamed 3 = Rows.flatBlanksUptoRow.named := by kernel_rfl
end Go.Proofs.YteognfejlpbmoaaGreatDoor
