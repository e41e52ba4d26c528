/-
  That calls answer what was found. No conditions.
-/
import Derived.Test.YtbpkpklaegnkiaaGreatDoorD
set_option linter.unusedSimpArgs false
set_option linter.unusedVariables false
set_option maxRecDepth 1000000
set_option maxHeartbeats 400000000
namespace Go.Ab.Sh
open Go Go.Ab
noncomputable def o0:Tr Over:=(.node none (.node none (.node none (.node none (.node none (.node none (.node none .nil (.node none .nil (.node (some Qek) .nil .nil))) (.node none (.node none .nil (.node (some Q17) .nil .nil)) .nil)) .nil) (.node none .nil (.node none (.node none (.node none (.node none (.node (some Qej) .nil .nil) .nil) .nil) .nil) .nil))) (.node none .nil (.node (some Qid) .nil .nil))) (.node none (.node none (.node none .nil (.node none (.node none (.node (some Q1i) .nil .nil) .nil) .nil)) (.node (some Qei) (.node (some Qie) .nil .nil) .nil)) (.node none (.node (some Qif) (.node none (.node none (.node none (.node none (.node (some Qen) .nil .nil) .nil) .nil) (.node none (.node none (.node (some Qh9) .nil .nil) .nil) .nil)) .nil) .nil) .nil))) (.node none (.node none (.node none .nil (.node none (.node none (.node (some Qay) .nil (.node none .nil (.node (some Qcq) .nil .nil))) .nil) (.node none (.node none .nil (.node none (.node (some Qw4) .nil .nil) .nil)) .nil))) (.node none (.node none (.node (some Qaa) .nil .nil) (.node none (.node none .nil (.node none (.node (some Qem) .nil .nil) .nil)) .nil)) .nil)) (.node none (.node none (.node none (.node none (.node none (.node none (.node none (.node (some Qel) .nil .nil) .nil) .nil) (.node none .nil (.node (some Qaz) .nil .nil))) .nil) (.node none (.node none (.node (some Q2o) .nil .nil) .nil) .nil)) (.node none (.node (some Qab) (.node none (.node none .nil (.node none (.node (some Qha) .nil .nil) .nil)) .nil) .nil) (.node none (.node none (.node (some Q5y) .nil .nil) .nil) .nil))) (.node none (.node none .nil (.node none (.node none (.node none (.node none (.node (some Qcr) .nil .nil) .nil) .nil) .nil) .nil)) (.node none .nil (.node none .nil (.node none (.node none .nil (.node (some Qhb) .nil .nil)) .nil)))))))
noncomputable def T0:Nat→Tab:=shT fns (ovTr o0) 18446744073709551616
noncomputable def P0:Pre:=⟨Qn0,[],[],0⟩
noncomputable def C0:Cell (runC P0 (P0.run (T0 1000)) [345,340,342,298,288,291,266,257,247,250,222,220,209,211,223,333,322,324,161,183,182,160,158,147,149,162,347]):=⟨_,by go_invoke; rfl⟩
noncomputable def M0:MemoX:=P0.memo C0.1
theorem n0:X2m C0.1=true:=by kernel_rfl
theorem g0:M0.good=true:=by kernel_rfl
end Go.Ab.Sh
