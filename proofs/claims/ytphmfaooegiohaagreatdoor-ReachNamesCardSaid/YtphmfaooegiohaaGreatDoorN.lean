/-
  Facts of the row about the program. No conditions.
-/
import Derived.Test.YtphmfaooegiohaaGreatDoorRows
import Derived.Test.YtphmfaooegiohaaGreatDoorCards
import Derived.Test.YtphmfaooegiohaaGreatDoorJ
import Derived.Test.YtphmfaooegiohaaGreatDoorM
import Derived.SevenTiedAt
import Derived.ProofKit
namespace Go.Proofs.YtphmfaooegiohaaGreatDoor
set_option maxRecDepth 100000
theorem joined : joinedFacts Tryz.prog 3 Tryz.f3 Rows.reachNamesSpec Rows.reachNamesRow = true := by
  unfold joinedFacts
  rw [j_inPlace, j_named, j_unf, j_rec, j_laid, j_maps]
  kernel_rfl
theorem c_wf : Rows.reachNamesRow.wfByText (OpenSpec.ofChange Rows.reachNamesSpec) = true := by kernel_rfl
theorem c_main : Tryz.prog.mainIs = some (true, "834d2dd627109f985ab55ae2f5ca1784c75e7a9dc74832b5fc010c3f8db35a25".toList) := by kernel_rfl
theorem c_looks : false = Tryz.prog.looks [] := by kernel_rfl
end Go.Proofs.YtphmfaooegiohaaGreatDoor
