/-
  That calls answer what was found. No conditions.
-/
import Derived.Test.YtfdlocphbipadaaGreatDoorD
import Derived.Test.YtfdlocphbipadaaGreatDoorK1
import Derived.Test.YtfdlocphbipadaaGreatDoorK2
set_option maxRecDepth 1000000
set_option maxHeartbeats 400000000
set_option linter.unusedVariables false
namespace Go.Ab.Sh
open Go Go.Ab
noncomputable def o2:Tr Over:=(.node none (.node none (.node none (.node none (.node none (.node none (.node (some Qc5) .nil .nil) .nil) (.node none .nil (.node (some Qdv) .nil .nil))) (.node none (.node none (.node (some (X2q [M11,M12])) .nil .nil) .nil) .nil)) (.node none (.node none (.node none (.node none .nil (.node (some Qc6) .nil .nil)) .nil) .nil) (.node none (.node none (.node none (.node none .nil (.node (some Q16) .nil .nil)) (.node (some Qc7) .nil .nil)) .nil) .nil))) (.node none (.node none (.node none (.node (some Qc8) .nil .nil) .nil) .nil) (.node none (.node none (.node (some Qz5) .nil .nil) .nil) (.node none .nil (.node (some Q7m) .nil .nil))))) (.node none (.node none .nil (.node none .nil (.node none (.node none .nil (.node (some Q95) .nil .nil)) .nil))) (.node none (.node none (.node none (.node (some Qdw) .nil .nil) .nil) .nil) (.node none (.node none .nil (.node none .nil (.node none (.node none (.node (some Qdx) .nil .nil) .nil) .nil))) (.node none .nil (.node (some Q96) .nil (.node none (.node (some Qc9) .nil .nil) .nil)))))))
noncomputable def T2:Nat→Tab:=shT fns (ovTr o2) 18446744073709551616
noncomputable def P13:Pre:=⟨Q1jv,[(.pointer (some ⟨844,0,some 0⟩))],List.append (sel M12.fin [2374,2376,2253,2255,1754,1762,1590,1598,832,836,691,844]) (List.append (sel M10.fin [690,688,687,686,685,727,689]) ([])),2377⟩
noncomputable def C13:Cell (runC P13 (P13.run (T2 1000)) [2379,2378,2374,2376,2253,2255,1754,1762,1590,1598,832,836,690,688,687,686,685,727,689,691,844,2380]):=⟨_,by go_invoke; rfl⟩
noncomputable def M13:MemoX:=P13.memo C13.1
theorem n13:X16 C13.1=true:=by kernel_rfl
theorem g13:M13.good=true:=by kernel_rfl
end Go.Ab.Sh
