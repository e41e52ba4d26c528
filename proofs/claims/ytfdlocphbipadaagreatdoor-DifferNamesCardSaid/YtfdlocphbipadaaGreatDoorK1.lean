/-
  That calls answer what was found. No conditions.
-/
import Derived.Test.YtfdlocphbipadaaGreatDoorD
import Derived.Test.YtfdlocphbipadaaGreatDoorK0
set_option maxRecDepth 1000000
set_option maxHeartbeats 400000000
set_option linter.unusedVariables false
namespace Go.Ab.Sh
open Go Go.Ab
noncomputable def P10:Pre:=⟨Q16u,[(.pointer (some ⟨691,0,some 0⟩)),(.pointer (some ⟨250,0,some 0⟩))],List.append (sel M8.fin [349,339,342,317,284,274,277,249,247,236,238,167,189,188,166,164,153,155,168,250]) ([(690,.plain (.map [] 0)),(688,.plain (.map [] 0)),(687,.plain (.map [((.int .i64 0),(.bool true),0),((.int .i64 1),(.bool true),1)] 2)),(686,.plain (.map [] 0)),(685,.plain (.map [] 0)),(684,.plain (.cells [(.int .i32 256),(.int .i32 0),(.int .i32 0),(.int .i32 256),(.int .i32 0),(.int .i32 0)] 0 0 false (some 388))),(689,.plain (.cells [(.int .i64 208),(.int .i64 4194304),(.slice (some ⟨684,0,some 3⟩) 2 1),(.map (some 685)),(.map (some 686)),(.map (some 687)),(.map (some 688))] 0 0 false (some 385))),(691,.plain (.cells [(.pointer (some ⟨689,0,some 0⟩)),(.map (some 690))] 0 0 false (some 229)))]),696⟩
noncomputable def C10:Cell (runC P10 (P10.run (T0 1000)) [684,250,168,155,153,164,166,188,189,167,238,236,247,249,277,274,284,317,342,339,349,2374,2376,2253,2255,1754,1762,1590,1598,832,836,690,688,687,686,685,727,689,691,844]):=⟨_,by go_invoke; rfl⟩
noncomputable def M10:MemoX:=P10.memo C10.1
theorem n10:X16 C10.1=true:=by kernel_rfl
theorem g10:M10.good=true:=by kernel_rfl
end Go.Ab.Sh
