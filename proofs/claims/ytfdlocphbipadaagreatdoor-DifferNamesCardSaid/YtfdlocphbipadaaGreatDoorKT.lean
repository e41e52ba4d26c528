/-
  That the whole answers true over the table. No conditions.
-/
import Derived.Test.YtfdlocphbipadaaGreatDoorD
import Derived.Test.YtfdlocphbipadaaGreatDoorK0
import Derived.Test.YtfdlocphbipadaaGreatDoorK1
import Derived.Test.YtfdlocphbipadaaGreatDoorK2
import Derived.Test.YtfdlocphbipadaaGreatDoorK3
import Derived.Test.YtfdlocphbipadaaGreatDoorK4
import Derived.Test.YtfdlocphbipadaaGreatDoorK5
import Derived.Test.YtfdlocphbipadaaGreatDoorK6
import Derived.Test.YtfdlocphbipadaaGreatDoorK7
import Derived.Test.YtfdlocphbipadaaGreatDoorK8
import Derived.Test.YtfdlocphbipadaaGreatDoorK9
set_option maxRecDepth 1000000
set_option maxHeartbeats 400000000
set_option linter.unusedVariables false
namespace Go.Ab.Sh
open Go Go.Ab
noncomputable def o5:Tr Over:=(.node none (.node none (.node none (.node none (.node none (.node none (.node (some Qc5) .nil .nil) .nil) (.node none .nil (.node (some Qdv) .nil .nil))) .nil) (.node (some (X2q [M3,M8,M9])) (.node none (.node none (.node none .nil (.node (some Qc6) .nil .nil)) .nil) .nil) (.node none (.node none (.node none (.node none .nil (.node (some Q16) .nil .nil)) (.node (some Qc7) .nil .nil)) .nil) .nil))) (.node none (.node (some (X2q [M1,M29])) (.node none (.node (some Qc8) .nil .nil) .nil) .nil) (.node none (.node none (.node (some Qz5) .nil .nil) .nil) (.node none .nil (.node (some Q7m) .nil .nil))))) (.node none (.node none .nil (.node none .nil (.node none (.node none .nil (.node (some Q95) .nil .nil)) .nil))) (.node (some (X2q [M0,M19])) (.node (some (X2q [M2,M4,M5,M7,M18])) (.node none (.node (some Qdw) .nil .nil) .nil) .nil) (.node none (.node none .nil (.node none .nil (.node none (.node none (.node (some Qdx) .nil .nil) .nil) .nil))) (.node none .nil (.node (some Q96) .nil (.node none (.node (some Qc9) .nil .nil) .nil)))))))
noncomputable def T5:Nat→Tab:=shT fns (ovTr o5) 18446744073709551616
theorem top:∃ m,T5 1000 Qiw [] mem0=some (.bool true,m):=by
  have h:(match T5 1000 Qiw [] mem0 with | some (.bool true,_)=>true | _=>false)=true:=by kernel_rfl
  split at h
  . rename_i m hm; exact ⟨m,hm⟩
  . cases h
end Go.Ab.Sh
