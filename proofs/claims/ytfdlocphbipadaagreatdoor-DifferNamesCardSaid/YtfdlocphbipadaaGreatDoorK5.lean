/-
  That calls answer what was found. No conditions.
-/
import Derived.Test.YtfdlocphbipadaaGreatDoorD
import Derived.Test.YtfdlocphbipadaaGreatDoorK0
import Derived.Test.YtfdlocphbipadaaGreatDoorK4
set_option maxRecDepth 1000000
set_option maxHeartbeats 400000000
set_option linter.unusedVariables false
namespace Go.Ab.Sh
open Go Go.Ab
noncomputable def P16:Pre:=⟨Q1jv,[(.pointer (some ⟨6986,0,some 0⟩))],List.append (sel M15.fin [7468,7470,7347,7349,7226,7228,7105,7107,6974,6978,690,688,687,686,685,727,689,691,6986]) ([]),7471⟩
noncomputable def C16:Cell (runC P16 (P16.run (T0 1000)) [7473,7472,7468,7470,7347,7349,7226,7228,7105,7107,6974,6978,690,688,687,686,685,727,689,691,6986,7474]):=⟨_,by go_invoke; rfl⟩
noncomputable def M16:MemoX:=P16.memo C16.1
theorem n16:X16 C16.1=true:=by kernel_rfl
theorem g16:M16.good=true:=by kernel_rfl
noncomputable def P17:Pre:=⟨Q1nr,[(.pointer (some ⟨6986,0,some 0⟩))],List.append (sel M16.fin [7468,7470,7347,7349,7226,7228,7105,7107,6974,6978,690,688,687,686,685,727,689,691,6986]) ([]),10126⟩
noncomputable def C17:Cell (runC P17 (P17.run (T0 1000)) [6986,6978,6974,7107,7105,7228,7226,7349,7347,7470,7468,10128,10127,690,688,687,686,685,727,689,691,10129]):=⟨_,by go_invoke; rfl⟩
noncomputable def M17:MemoX:=P17.memo C17.1
theorem n17:X16 C17.1=true:=by kernel_rfl
theorem g17:M17.good=true:=by kernel_rfl
end Go.Ab.Sh
