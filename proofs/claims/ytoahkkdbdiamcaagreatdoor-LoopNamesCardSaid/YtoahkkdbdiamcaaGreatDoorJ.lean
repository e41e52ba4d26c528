/-
  Facts of the row about the program. No conditions.
-/
import Derived.Test.YtoahkkdbdiamcaaGreatDoorRows
import Derived.Test.YtoahkkdbdiamcaaGreatDoorCards
import Derived.SevenTiedAt
import Derived.ProofKit
namespace Go.Proofs.YtoahkkdbdiamcaaGreatDoor
set_option maxRecDepth 100000
theorem j_inPlace : Tryz.prog.inPlace 3 = Rows.loopNamesRow.inPlace := by kernel_rfl
theorem j_named : Tryz.prog.varsNamed 3 = Rows.loopNamesRow.named := by kernel_rfl
end Go.Proofs.YtoahkkdbdiamcaaGreatDoor
