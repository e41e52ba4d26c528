/-
  Facts of the row about the program. No conditions.
-/
import Derived.Test.YtjnfcoeninejbaaGreatDoorRows
import Derived.Test.YtjnfcoeninejbaaGreatDoorCards
import Derived.SevenTiedAt
import Derived.ProofKit
namespace Go.Proofs.YtjnfcoeninejbaaGreatDoor
set_option maxRecDepth 100000
theorem j_inPlace : Tryz.prog.inPlace 3 = Rows.askReadsUptoRow.inPlace := by kernel_rfl
theorem j_named : Tryz.prog.varsNamed 3 = Rows.askReadsUptoRow.named := by kernel_rfl
end Go.Proofs.YtjnfcoeninejbaaGreatDoor
