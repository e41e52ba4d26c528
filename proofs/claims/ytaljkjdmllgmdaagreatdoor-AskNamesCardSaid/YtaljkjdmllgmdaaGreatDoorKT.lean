/-
  That the whole answers true over the table. No conditions.
-/
import Derived.Test.YtaljkjdmllgmdaaGreatDoorD
import Derived.Test.YtaljkjdmllgmdaaGreatDoorK0
import Derived.Test.YtaljkjdmllgmdaaGreatDoorK1
import Derived.Test.YtaljkjdmllgmdaaGreatDoorK2
import Derived.Test.YtaljkjdmllgmdaaGreatDoorK3
import Derived.Test.YtaljkjdmllgmdaaGreatDoorK4
import Derived.Test.YtaljkjdmllgmdaaGreatDoorK5
import Derived.Test.YtaljkjdmllgmdaaGreatDoorK6
import Derived.Test.YtaljkjdmllgmdaaGreatDoorK7
import Derived.Test.YtaljkjdmllgmdaaGreatDoorK8
import Derived.Test.YtaljkjdmllgmdaaGreatDoorK9
import Derived.Test.YtaljkjdmllgmdaaGreatDoorK10
import Derived.Test.YtaljkjdmllgmdaaGreatDoorK11
import Derived.Test.YtaljkjdmllgmdaaGreatDoorK12
import Derived.Test.YtaljkjdmllgmdaaGreatDoorK13
import Derived.Test.YtaljkjdmllgmdaaGreatDoorK14
import Derived.Test.YtaljkjdmllgmdaaGreatDoorK15
import Derived.Test.YtaljkjdmllgmdaaGreatDoorK16
import Derived.Test.YtaljkjdmllgmdaaGreatDoorK17
import Derived.Test.YtaljkjdmllgmdaaGreatDoorK18
import Derived.Test.YtaljkjdmllgmdaaGreatDoorK19
import Derived.Test.YtaljkjdmllgmdaaGreatDoorK20
import Derived.Test.YtaljkjdmllgmdaaGreatDoorK21
set_option linter.unusedSimpArgs false
set_option linter.unusedVariables false
set_option maxRecDepth 1000000
set_option maxHeartbeats 400000000
namespace Go.Ab.Sh
open Go Go.Ab
noncomputable def o14:Tr Over:=(.node none (.node none (.node none (.node (some (X10 [M64])) (.node none (.node none .nil (.node none (.node none .nil (.node (some Q15) .nil .nil)) .nil)) (.node none .nil (.node none (.node none (.node (some Q1h) .nil .nil) .nil) .nil))) .nil) (.node none (.node none (.node none (.node (some Q16) .nil (.node (some Q10) .nil .nil)) .nil) .nil) .nil)) (.node (some (X10 [M0])) (.node none (.node none (.node none (.node none .nil (.node (some Q17) .nil .nil)) .nil) .nil) (.node none (.node none .nil (.node none (.node none (.node (some Q1i) .nil .nil) .nil) .nil)) (.node none .nil (.node none .nil (.node (some Q4) .nil .nil))))) (.node none (.node none (.node none (.node (some Q1s) .nil (.node (some Q18) .nil .nil)) .nil) (.node none (.node none (.node (some Q1b) .nil .nil) .nil) (.node none (.node none (.node (some Q12) .nil .nil) .nil) .nil))) .nil))) (.node none (.node (some (X10 [M23])) (.node none .nil (.node none (.node none (.node none .nil (.node (some Q4o) .nil .nil)) (.node (some Q19) .nil .nil)) .nil)) (.node none (.node none (.node none (.node (some Q1t) (.node none (.node (some Qj) .nil .nil) .nil) (.node (some Q13) .nil .nil)) .nil) .nil) .nil)) (.node (some (X10 [M24,M27,M28,M29,M30,M31,M32,M65,M66])) (.node (some (X10 [M67,M68,M69,M105])) (.node none (.node none .nil (.node none (.node none .nil (.node (some Q1a) .nil .nil)) .nil)) .nil) (.node none (.node none .nil (.node none .nil (.node none (.node none (.node (some Q1j) .nil .nil) .nil) .nil))) (.node none .nil (.node none .nil (.node none .nil (.node (some Q2) .nil .nil)))))) (.node none (.node none (.node none (.node (some Qw) .nil .nil) .nil) .nil) (.node (some Q1u) .nil (.node none (.node (some (X10 [M70])) .nil .nil) .nil))))))
noncomputable def T14:Nat→Tab:=shT fns (ovTr o14) 18446744073709551616
theorem top:∃ m,T14 1000 Qgo [] mem0=some (.bool true,m):=by
 have h:(match T14 1000 Qgo [] mem0 with | some (.bool true,_)=>true | _=>false)=true:=by kernel_rfl
 split at h
 ·rename_i m hm; exact ⟨m,hm⟩
 ·cases h
end Go.Ab.Sh
