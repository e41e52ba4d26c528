/-
  That the whole answers true over the table. No conditions.
-/
import Derived.Test.YtchdjkidnjfcjaaGreatDoorK0
import Derived.Test.YtchdjkidnjfcjaaGreatDoorK1
import Derived.Test.YtchdjkidnjfcjaaGreatDoorK2
import Derived.Test.YtchdjkidnjfcjaaGreatDoorK3
import Derived.Test.YtchdjkidnjfcjaaGreatDoorK4
import Derived.Test.YtchdjkidnjfcjaaGreatDoorK5
import Derived.Test.YtchdjkidnjfcjaaGreatDoorK6
import Derived.Test.YtchdjkidnjfcjaaGreatDoorK7
import Derived.Test.YtchdjkidnjfcjaaGreatDoorK8
import Derived.Test.YtchdjkidnjfcjaaGreatDoorK9
import Derived.Test.YtchdjkidnjfcjaaGreatDoorK10
import Derived.Test.YtchdjkidnjfcjaaGreatDoorK11
import Derived.Test.YtchdjkidnjfcjaaGreatDoorD
set_option maxRecDepth 1000000
namespace Go.Ab.Sh
open Go Go.Ab
theorem top : ∃ m, T3 40 Q8f [] mem0 = some (.bool true, m) := by
  have h : (match T3 40 Q8f [] mem0 with | some (.bool true, _) => true | _ => false) = true := by kernel_rfl
  split at h
  · rename_i m hm; exact ⟨m, hm⟩
  · cases h
end Go.Ab.Sh
