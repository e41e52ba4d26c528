/-
  That the whole answers true over the table. No conditions.
-/
import Derived.Test.YthlpkjlpdmfgiaaGreatDoorK0
import Derived.Test.YthlpkjlpdmfgiaaGreatDoorD
set_option maxRecDepth 1000000
namespace Go.Ab.Sh
open Go Go.Ab
theorem top : ∃ m, T2 1000 Qfg [] mem0 = some (.bool true, m) := by
  have h : (match T2 1000 Qfg [] mem0 with | some (.bool true, _) => true | _ => false) = true := by kernel_rfl
  split at h
  · rename_i m hm; exact ⟨m, hm⟩
  · cases h
end Go.Ab.Sh
