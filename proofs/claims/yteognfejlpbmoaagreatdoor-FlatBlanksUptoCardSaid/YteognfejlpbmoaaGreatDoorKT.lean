/-
  That the whole answers true over the table. No conditions.
-/
import Derived.Test.YteognfejlpbmoaaGreatDoorD
set_option linter.unusedSimpArgs false
set_option linter.unusedVariables false
set_option maxRecDepth 1000000
set_option maxHeartbeats 400000000
namespace Go.Ab.Sh
open Go Go.Ab
noncomputable def o0:Tr Over:=(.node none (.node none (.node none (.node none .nil (.node none .nil (.node none (.node (some Qid) .nil .nil) (.node (some Qb7) .nil .nil)))) (.node none .nil (.node none (.node none .nil (.node (some Qmr) .nil .nil)) .nil))) (.node none (.node none (.node none .nil (.node (some Qms) .nil .nil)) (.node none (.node none .nil (.node (some Qmq) .nil .nil)) .nil)) (.node none .nil (.node none .nil (.node none (.node (some Qj1) .nil .nil) .nil))))) (.node none (.node none .nil (.node none .nil (.node none .nil (.node none (.node (some Q4z) .nil .nil) .nil)))) (.node none (.node none (.node none (.node none (.node none (.node (some Qj0) .nil .nil) .nil) .nil) .nil) .nil) .nil)))
noncomputable def T0:Nat->Tab:=shT fns (ovTr o0) 18446744073709551616
noncomputable def Mw:Memo:=⟨Q2i,[],[],0,(.bool true),[],0⟩
noncomputable def Qpz:Over:=Mw.ov
theorem gmw:Mw.good=true:=by kernel_rfl
theorem rwk:Mw.so (T0 1000 Mw.f Mw.args Mw.mem)=true:=by kernel_rfl
end Go.Ab.Sh
