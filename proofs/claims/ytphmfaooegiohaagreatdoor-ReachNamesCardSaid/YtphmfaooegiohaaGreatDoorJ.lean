/-
  Facts of the row about the program. No conditions.
-/
import Derived.Test.YtphmfaooegiohaaGreatDoorRows
import Derived.Test.YtphmfaooegiohaaGreatDoorCards
import Derived.SevenTiedAt
import Derived.ProofKit
namespace Go.Proofs.YtphmfaooegiohaaGreatDoor
set_option maxRecDepth 100000
theorem j_inPlace : Tryz.prog.inPlace 3 = Rows.reachNamesRow.inPlace := by kernel_rfl
theorem j_named : Tryz.prog.varsNamed 3 = Rows.reachNamesRow.named := by kernel_rfl
end Go.Proofs.YtphmfaooegiohaaGreatDoor
