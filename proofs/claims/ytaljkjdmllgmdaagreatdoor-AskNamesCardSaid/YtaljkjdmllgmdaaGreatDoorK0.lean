/-
  That calls answer what was found. No conditions.
-/
import Derived.Test.YtaljkjdmllgmdaaGreatDoorD
set_option linter.unusedSimpArgs false
set_option linter.unusedVariables false
set_option maxRecDepth 1000000
set_option maxHeartbeats 400000000
namespace Go.Ab.Sh
open Go Go.Ab
noncomputable def o0:Tr Over:=(.node none (.node none (.node none (.node none (.node none (.node none .nil (.node none (.node none .nil (.node (some Q15) .nil .nil)) .nil)) (.node none .nil (.node none (.node none (.node (some Q1h) .nil .nil) .nil) .nil))) .nil) (.node none (.node none (.node none (.node (some Q16) .nil (.node (some Q10) .nil .nil)) .nil) .nil) .nil)) (.node none (.node none (.node none (.node none (.node none .nil (.node (some Q17) .nil .nil)) .nil) .nil) (.node none (.node none .nil (.node none (.node none (.node (some Q1i) .nil .nil) .nil) .nil)) (.node none .nil (.node none .nil (.node (some Q4) .nil .nil))))) (.node none (.node none (.node none (.node (some Q1s) .nil (.node (some Q18) .nil .nil)) .nil) (.node none (.node none (.node (some Q1b) .nil .nil) .nil) (.node none (.node none (.node (some Q12) .nil .nil) .nil) .nil))) .nil))) (.node none (.node none (.node none .nil (.node none (.node none (.node none .nil (.node (some Q4o) .nil .nil)) (.node (some Q19) .nil .nil)) .nil)) (.node none (.node none (.node none (.node (some Q1t) (.node none (.node (some Qj) .nil .nil) .nil) (.node (some Q13) .nil .nil)) .nil) .nil) .nil)) (.node none (.node none (.node none (.node none .nil (.node none (.node none .nil (.node (some Q1a) .nil .nil)) .nil)) .nil) (.node none (.node none .nil (.node none .nil (.node none (.node none (.node (some Q1j) .nil .nil) .nil) .nil))) (.node none .nil (.node none .nil (.node none .nil (.node (some Q2) .nil .nil)))))) (.node none (.node none (.node none (.node (some Qw) .nil .nil) .nil) .nil) (.node (some Q1u) .nil .nil)))))
noncomputable def T0:Nat→Tab:=shT fns (ovTr o0) 18446744073709551616
noncomputable def P0:Pre:=⟨Qm5,[],[],0⟩
noncomputable def C0:Cell (runC P0 (P0.run (T0 1000)) [345,340,342,298,288,291,266,257,247,250,222,220,209,211,223,333,322,324,161,183,182,160,158,147,149,162,347]):=⟨_,by go_invoke; rfl⟩
noncomputable def M0:MemoX:=P0.memo C0.1
theorem n0:Xf C0.1=true:=by kernel_rfl
theorem g0:M0.good=true:=by kernel_rfl
end Go.Ab.Sh
