/-
  That calls answer what was found. No conditions.
-/
import Derived.Test.YtfdlocphbipadaaGreatDoorD
import Derived.Test.YtfdlocphbipadaaGreatDoorK0
import Derived.Test.YtfdlocphbipadaaGreatDoorK6
set_option maxRecDepth 1000000
set_option maxHeartbeats 400000000
set_option linter.unusedVariables false
namespace Go.Ab.Sh
open Go Go.Ab
noncomputable def P19:Pre:=⟨Q5x,[(.pointer (some ⟨692,0,some 0⟩)),(.agg ⟨[(.int .i64 0),(.int .i64 1)]⟩),(.int .u8 4)],List.append (sel M18.fin [10487,10486,10485,10477,6794,6793,6792,6784,690,688,687,686,685,727,689,691,692]) ([]),10533⟩
noncomputable def C19:Cell (runC P19 (P19.run (T0 1000)) [692,691,689,727,685,686,687,688,690,6784,6792,6793,6794,10477,10485,10486,10487]):=⟨_,by go_invoke; rfl⟩
noncomputable def M19:MemoX:=P19.memo C19.1
theorem n19:X16 C19.1=true:=by kernel_rfl
theorem g19:M19.good=true:=by kernel_rfl
end Go.Ab.Sh
