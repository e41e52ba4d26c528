/-
  That the whole answers true over the table. No conditions.
-/
import Derived.Test.YtphmfaooegiohaaGreatDoorD
import Derived.Test.YtphmfaooegiohaaGreatDoorK0
import Derived.Test.YtphmfaooegiohaaGreatDoorK1
import Derived.Test.YtphmfaooegiohaaGreatDoorK2
set_option maxRecDepth 1000000
set_option maxHeartbeats 400000000
set_option linter.unusedVariables false
namespace Go.Ab.Sh
open Go Go.Ab
noncomputable def o2 : Tr Over := (.node none (.node none (.node none (.node none .nil (.node none (.node (some Q1nq) .nil .nil) (.node none .nil (.node (some Qsc) .nil .nil)))) (.node none (.node none .nil (.node (some Qwn) .nil .nil)) (.node none .nil (.node none .nil (.node none (.node (some Qwl) .nil .nil) .nil))))) (.node none (.node none (.node none .nil (.node none (.node (some Qsd) .nil .nil) .nil)) .nil) (.node none .nil (.node none (.node (some (X6s [M1])) (.node (some Qpb) .nil .nil) .nil) .nil)))) (.node none (.node (some (X6s [M0, M4])) (.node none (.node none .nil (.node none .nil (.node none .nil (.node none (.node (some Q30) .nil .nil) .nil)))) (.node none .nil (.node (some Qn8) .nil .nil))) (.node none (.node none (.node none .nil (.node none (.node none (.node (some Qse) .nil .nil) .nil) .nil)) (.node (some Qsg) .nil (.node (some Qsf) .nil .nil))) .nil)) (.node none (.node none (.node none (.node none (.node none .nil (.node (some Qwm) .nil .nil)) .nil) .nil) .nil) (.node none (.node none .nil (.node none .nil (.node (some Qpc) .nil .nil))) .nil))))
noncomputable def T2 : Nat → Tab := shT fns (ovTr o2) 18446744073709551616
theorem top : ∃ m, T2 1000 Qji [] mem0 = some (.bool true, m) := by
  have h : (match T2 1000 Qji [] mem0 with | some (.bool true, _) => true | _ => false) = true := by kernel_rfl
  split at h
  . rename_i m hm; exact ⟨m, hm⟩
  . cases h
end Go.Ab.Sh
