/-
  That calls answer what was found. No conditions.
-/
import Derived.Test.YtfdlocphbipadaaGreatDoorD
import Derived.Test.YtfdlocphbipadaaGreatDoorK1
import Derived.Test.YtfdlocphbipadaaGreatDoorK3
import Derived.Test.YtfdlocphbipadaaGreatDoorK4
import Derived.Test.YtfdlocphbipadaaGreatDoorK5
set_option maxRecDepth 1000000
set_option maxHeartbeats 400000000
set_option linter.unusedVariables false
namespace Go.Ab.Sh
open Go Go.Ab
noncomputable def o3:Tr Over:=(.node none (.node none (.node none (.node none (.node none (.node none (.node (some Qc5) .nil .nil) .nil) (.node none .nil (.node (some Qdv) .nil .nil))) .nil) (.node none (.node none (.node none (.node none .nil (.node (some Qc6) .nil .nil)) .nil) .nil) (.node none (.node none (.node none (.node none .nil (.node (some Q16) .nil .nil)) (.node (some Qc7) .nil .nil)) .nil) .nil))) (.node none (.node none (.node none (.node (some Qc8) .nil .nil) .nil) (.node none (.node (some (X2q [M13,M16])) .nil .nil) .nil)) (.node none (.node none (.node (some Qz5) .nil .nil) .nil) (.node none .nil (.node (some Q7m) .nil .nil))))) (.node none (.node none (.node none .nil (.node none (.node (some (X2q [M10,M15])) .nil .nil) .nil)) (.node none .nil (.node none (.node none .nil (.node (some Q95) .nil .nil)) .nil))) (.node none (.node none (.node none (.node (some Qdw) .nil .nil) .nil) (.node none (.node (some (X2q [M14,M17])) .nil .nil) .nil)) (.node none (.node none .nil (.node none .nil (.node none (.node none (.node (some Qdx) .nil .nil) .nil) .nil))) (.node none .nil (.node (some Q96) .nil (.node none (.node (some Qc9) .nil .nil) .nil)))))))
noncomputable def T3:Nat→Tab:=shT fns (ovTr o3) 18446744073709551616
noncomputable def P18:Pre:=⟨Q7n,[(.pointer (some ⟨250,0,some 0⟩)),(.pointer (some ⟨557,0,some 0⟩)),(.int .i64 4194304)],List.append (sel M15.fin [619,609,612,587,577,580,556,554,543,545,474,496,495,473,471,460,462,475,557]) (List.append (sel M10.fin [349,339,342,317,284,274,277,249,247,236,238,167,189,188,166,164,153,155,168,250]) ([])),684⟩
noncomputable def C18:Cell (runC P18 (P18.run (T3 1000)) [250,168,155,153,164,166,188,189,167,238,236,247,249,277,274,284,317,342,339,349,557,475,462,460,471,473,495,496,474,545,543,554,556,580,577,587,612,609,619,10487,10486,10485,10477,6794,6793,6792,6784,690,688,687,686,685,727,689,691,692]):=⟨_,by go_invoke; rfl⟩
noncomputable def M18:MemoX:=P18.memo C18.1
theorem n18:X16 C18.1=true:=by kernel_rfl
theorem g18:M18.good=true:=by kernel_rfl
end Go.Ab.Sh
