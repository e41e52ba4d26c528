/-
  Facts of the row about the program. No conditions.
-/
import Derived.Test.YtbpkpklaegnkiaaGreatDoorRows
import Derived.Test.YtbpkpklaegnkiaaGreatDoorCards
import Derived.Test.YtbpkpklaegnkiaaGreatDoorJ
import Derived.Test.YtbpkpklaegnkiaaGreatDoorM
import Derived.SevenTiedAt
import Derived.ProofKit
set_option linter.unusedSimpArgs false
set_option linter.unusedVariables false
namespace Go.Proofs.YtbpkpklaegnkiaaGreatDoor
set_option maxRecDepth 100000
theorem joined : joinedFacts Tryz.prog 3 Tryz.f3 (Rows.OpenSpec.upto Rows.askBackSpec).bare Rows.askBackUptoRow = true := by
  unfold joinedFacts
  rw [j_inPlace, j_named, j_unf, j_rec, j_laid, j_maps]
  kernel_rfl
theorem c_wf : Rows.askBackUptoRow.wfByText (Rows.OpenSpec.upto Rows.askBackSpec) = true := by kernel_rfl
theorem c_main : Tryz.prog.mainIs = some (true, "b4d251f6ce774b0dafcd43c766d65a5397db05ad883c880525805141d5ef3824".toList) := by kernel_rfl
theorem c_looks : true = Tryz.prog.looks [] := by kernel_rfl
end Go.Proofs.YtbpkpklaegnkiaaGreatDoor
