/-
  That the whole answers true over the table. No conditions.
-/
import Derived.Test.YtoahkkdbdiamcaaGreatDoorK0
import Derived.Test.YtoahkkdbdiamcaaGreatDoorD
set_option maxRecDepth 1000000
namespace Go.Ab.Sh
open Go Go.Ab
theorem top : ∃ m, T1 1000 Qlh [] mem0 = some (.bool true, m) := by
  have h : (match T1 1000 Qlh [] mem0 with | some (.bool true, _) => true | _ => false) = true := by kernel_rfl
  split at h
  · rename_i m hm; exact ⟨m, hm⟩
  · cases h
end Go.Ab.Sh
