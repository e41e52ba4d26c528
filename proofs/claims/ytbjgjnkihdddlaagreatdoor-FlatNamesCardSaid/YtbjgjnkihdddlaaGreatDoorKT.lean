/-
  That the whole answers true over the table. No conditions.
-/
import Derived.Test.YtbjgjnkihdddlaaGreatDoorK0
import Derived.Test.YtbjgjnkihdddlaaGreatDoorK1
import Derived.Test.YtbjgjnkihdddlaaGreatDoorK2
import Derived.Test.YtbjgjnkihdddlaaGreatDoorK3
import Derived.Test.YtbjgjnkihdddlaaGreatDoorK4
import Derived.Test.YtbjgjnkihdddlaaGreatDoorK5
import Derived.Test.YtbjgjnkihdddlaaGreatDoorK6
import Derived.Test.YtbjgjnkihdddlaaGreatDoorK7
import Derived.Test.YtbjgjnkihdddlaaGreatDoorK8
import Derived.Test.YtbjgjnkihdddlaaGreatDoorK9
import Derived.Test.YtbjgjnkihdddlaaGreatDoorK10
import Derived.Test.YtbjgjnkihdddlaaGreatDoorD
set_option maxRecDepth 1000000
namespace Go.Ab.Sh
open Go Go.Ab
theorem top : ∃ m, T2 40 Q8h [] mem0 = some (.bool true, m) := by
  have h : (match T2 40 Q8h [] mem0 with | some (.bool true, _) => true | _ => false) = true := by kernel_rfl
  split at h
  · rename_i m hm; exact ⟨m, hm⟩
  · cases h
end Go.Ab.Sh
