/-
  Facts of the row about the program. No conditions.
-/
import Derived.Test.YthlpkjlpdmfgiaaGreatDoorRows
import Derived.Test.YthlpkjlpdmfgiaaGreatDoorCards
import Derived.Test.YthlpkjlpdmfgiaaGreatDoorJ
import Derived.Test.YthlpkjlpdmfgiaaGreatDoorM
import Derived.SevenTiedAt
import Derived.ProofKit
namespace Go.Proofs.YthlpkjlpdmfgiaaGreatDoor
set_option maxRecDepth 100000
theorem joined : joinedFacts Tryz.prog 3 Tryz.f3 Rows.symbolNamesSpec Rows.symbolNamesRow = true := by
  unfold joinedFacts
  rw [j_inPlace, j_named, j_unf, j_rec, j_laid, j_maps]
  kernel_rfl
theorem c_wf : Rows.symbolNamesRow.wfByText (OpenSpec.ofChange Rows.symbolNamesSpec) = true := by kernel_rfl
theorem c_main : Tryz.prog.mainIs = some (true, "a015b871c5d34c617622c12a48a2f04892408026f920eaec6d14127c0d84a710".toList) := by kernel_rfl
theorem c_looks : false = Tryz.prog.looks [] := by kernel_rfl
end Go.Proofs.YthlpkjlpdmfgiaaGreatDoor
