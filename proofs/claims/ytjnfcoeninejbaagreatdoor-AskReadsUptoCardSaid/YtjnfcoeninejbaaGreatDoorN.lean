/-
  Facts of the row about the program. No conditions.
-/
import Derived.Test.YtjnfcoeninejbaaGreatDoorRows
import Derived.Test.YtjnfcoeninejbaaGreatDoorCards
import Derived.Test.YtjnfcoeninejbaaGreatDoorJ
import Derived.Test.YtjnfcoeninejbaaGreatDoorM
import Derived.SevenTiedAt
import Derived.ProofKit
namespace Go.Proofs.YtjnfcoeninejbaaGreatDoor
set_option maxRecDepth 100000
theorem joined : joinedFacts Tryz.prog 3 Tryz.f3 (Rows.OpenSpec.upto Rows.askReadsSpec).bare Rows.askReadsUptoRow = true := by
  unfold joinedFacts
  rw [j_inPlace, j_named, j_unf, j_rec, j_laid, j_maps]
  kernel_rfl
theorem c_wf : Rows.askReadsUptoRow.wfByText (Rows.OpenSpec.upto Rows.askReadsSpec) = true := by kernel_rfl
theorem c_main : Tryz.prog.mainIs = some (true, "a69ed289f2a4f439a918377ca9b6c62bba576d20ed8fb421ab0365f80cf5fe52".toList) := by kernel_rfl
theorem c_looks : true = Tryz.prog.looks [] := by kernel_rfl
end Go.Proofs.YtjnfcoeninejbaaGreatDoor
