/-
  That the whole answers true over the table. No conditions.
-/
import Derived.Test.YtbpkpklaegnkiaaGreatDoorD
import Derived.Test.YtbpkpklaegnkiaaGreatDoorK0
import Derived.Test.YtbpkpklaegnkiaaGreatDoorK1
import Derived.Test.YtbpkpklaegnkiaaGreatDoorK2
import Derived.Test.YtbpkpklaegnkiaaGreatDoorK3
import Derived.Test.YtbpkpklaegnkiaaGreatDoorK4
import Derived.Test.YtbpkpklaegnkiaaGreatDoorK5
import Derived.Test.YtbpkpklaegnkiaaGreatDoorK6
set_option linter.unusedSimpArgs false
set_option linter.unusedVariables false
set_option maxRecDepth 1000000
set_option maxHeartbeats 400000000
namespace Go.Ab.Sh
open Go Go.Ab
noncomputable def o2:Tr Over:=(.node none (.node none (.node none (.node (some (X9e [M0])) (.node none (.node none (.node none .nil (.node none .nil (.node (some Qek) .nil .nil))) (.node none (.node none .nil (.node (some Q17) .nil .nil)) .nil)) (.node none (.node none .nil (.node (some (X9e [M1])) .nil .nil)) .nil)) (.node none .nil (.node none (.node none (.node none (.node none (.node (some Qej) .nil .nil) .nil) .nil) .nil) .nil))) (.node none .nil (.node (some Qid) .nil .nil))) (.node none (.node none (.node none .nil (.node none (.node none (.node (some Q1i) .nil .nil) .nil) .nil)) (.node (some Qei) (.node (some Qie) .nil .nil) .nil)) (.node none (.node (some Qif) (.node none (.node none (.node none (.node none (.node (some Qen) .nil .nil) .nil) .nil) (.node none (.node none (.node (some Qh9) .nil .nil) .nil) .nil)) .nil) (.node none (.node none .nil (.node (some (X9e [M17,M18])) .nil .nil)) .nil)) .nil))) (.node none (.node none (.node none .nil (.node none (.node none (.node (some Qay) .nil (.node none .nil (.node (some Qcq) .nil .nil))) .nil) (.node none (.node none .nil (.node none (.node (some Qw4) .nil .nil) .nil)) .nil))) (.node none (.node none (.node (some Qaa) .nil .nil) (.node none (.node none .nil (.node none (.node (some Qem) .nil .nil) .nil)) .nil)) .nil)) (.node none (.node none (.node none (.node none (.node none (.node none (.node none (.node (some Qel) .nil .nil) .nil) .nil) (.node none .nil (.node (some Qaz) .nil .nil))) .nil) (.node none (.node none (.node (some Q2o) .nil .nil) (.node (some (X9e [M16])) .nil .nil)) .nil)) (.node none (.node (some Qab) (.node none (.node none .nil (.node none (.node (some Qha) .nil .nil) .nil)) .nil) .nil) (.node none (.node none (.node (some Q5y) .nil .nil) .nil) .nil))) (.node none (.node none .nil (.node none (.node none (.node none (.node none (.node (some Qcr) .nil .nil) .nil) .nil) .nil) .nil)) (.node none .nil (.node none .nil (.node none (.node none .nil (.node (some Qhb) .nil .nil)) .nil)))))))
noncomputable def T2:Nat→Tab:=shT fns (ovTr o2) 18446744073709551616
noncomputable def Mw:Memo:=⟨Q1o,[],[],0,(.bool true),[],0⟩
noncomputable def Q1ap:Over:=Mw.ov
theorem gw:Mw.good=true:=by kernel_rfl
theorem rwk:Mw.so (T2 1000 Mw.f Mw.args Mw.mem)=true:=by kernel_rfl
end Go.Ab.Sh
