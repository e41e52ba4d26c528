/-
  That calls answer what was found. No conditions.
-/
import Derived.Test.YtphmfaooegiohaaGreatDoorD
import Derived.Test.YtphmfaooegiohaaGreatDoorK0
import Derived.Test.YtphmfaooegiohaaGreatDoorK1
set_option maxRecDepth 1000000
set_option maxHeartbeats 400000000
set_option linter.unusedVariables false
namespace Go.Ab.Sh
open Go Go.Ab
noncomputable def o1 : Tr Over := (.node none (.node none (.node none (.node none .nil (.node none (.node (some Q1nq) .nil .nil) (.node none .nil (.node (some Qsc) .nil .nil)))) (.node (some (X6s [M2, M3])) (.node none .nil (.node (some Qwn) .nil .nil)) (.node none .nil (.node none .nil (.node none (.node (some Qwl) .nil .nil) .nil))))) (.node none (.node none (.node none .nil (.node none (.node (some Qsd) .nil .nil) .nil)) .nil) (.node none .nil (.node none (.node none (.node (some Qpb) .nil .nil) .nil) .nil)))) (.node none (.node none (.node none (.node none .nil (.node none .nil (.node none .nil (.node none (.node (some Q30) .nil .nil) .nil)))) (.node none .nil (.node (some Qn8) .nil .nil))) (.node none (.node none (.node none .nil (.node none (.node none (.node (some Qse) .nil .nil) .nil) .nil)) (.node (some Qsg) .nil (.node (some Qsf) .nil .nil))) .nil)) (.node none (.node none (.node none (.node none (.node none .nil (.node (some Qwm) .nil .nil)) .nil) .nil) .nil) (.node none (.node none .nil (.node none .nil (.node (some Qpc) .nil .nil))) .nil))))
noncomputable def T1 : Nat → Tab := shT fns (ovTr o1) 18446744073709551616
noncomputable def P4 : Pre := ⟨Q15h, [(.pointer (some ⟨463,0,some 0⟩))], List.append (sel M3.fin [1993, 1995, 1872, 1874, 1373, 1381, 1209, 1217, 451, 455, 314, 463]) (List.append (sel M1.fin [313, 311, 310, 309, 308, 346, 312]) ([])), 1996⟩
noncomputable def C4 : Cell (runC P4 (P4.run (T1 1000)) [1998,1997,1993,1995,1872,1874,1373,1381,1209,1217,451,455,313,311,310,309,308,346,312,314,463,1999]) := ⟨_, by go_invoke; rfl⟩
noncomputable def M4 : MemoX := P4.memo C4.1
theorem n4 : X5y C4.1 = true := by kernel_rfl
theorem g4 : M4.good = true := by kernel_rfl
end Go.Ab.Sh
