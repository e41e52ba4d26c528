/-
  Facts of the row about the program. No conditions.
-/
import Derived.Test.YtodhdplpcelokaaGreatDoorRows
import Derived.Test.YtodhdplpcelokaaGreatDoorCards
import Derived.Test.YtodhdplpcelokaaGreatDoorJP
import Derived.Test.YtodhdplpcelokaaGreatDoorMP
import Derived.SevenTiedAt
import Derived.ProofKit
namespace Go.Proofs.YtodhdplpcelokaaGreatDoor
set_option linter.all false
set_option maxRecDepth 100000
theorem XrD : joinedFacts Tryz.prog 3 Tryz.f3 (OpenSpec.ofChange Rows.flatReadsSpec).bare Rows.flatReadsRow = true := by
  unfold joinedFacts
  rw[XqX,XrA,XrC,XrB,XqY,XqZ]
  kernel_rfl
theorem XqM : Rows.flatReadsRow.wfByText (OpenSpec.ofChange Rows.flatReadsSpec) = true := by kernel_rfl
theorem XpW : Tryz.prog.mainIs = some (true,"ca661ca5f94a6d691bb90680f37522a7587ce0cc8f9c0f7e0e11d5315fc12572".toList) := by kernel_rfl
theorem XpU : true = Tryz.prog.looks [] := by kernel_rfl
end Go.Proofs.YtodhdplpcelokaaGreatDoor
