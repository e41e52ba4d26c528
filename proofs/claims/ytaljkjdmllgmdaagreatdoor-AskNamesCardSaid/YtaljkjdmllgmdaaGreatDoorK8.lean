/-
  That calls answer what was found. No conditions.
-/
import Derived.Test.YtaljkjdmllgmdaaGreatDoorD
import Derived.Test.YtaljkjdmllgmdaaGreatDoorK0
import Derived.Test.YtaljkjdmllgmdaaGreatDoorK7
set_option linter.unusedSimpArgs false
set_option linter.unusedVariables false
set_option maxRecDepth 1000000
set_option maxHeartbeats 400000000
namespace Go.Ab.Sh
open Go Go.Ab
noncomputable def P35:Pre:=⟨Qe3,[(.pointer (some ⟨900,0,some 0⟩)),(.pointer (some ⟨741,0,some 0⟩))],List.append (sel M34.fin [836,826,829,804,795,786,772,779,740,738,727,729,509,531,530,508,506,495,497,510,741]) ([(899,.plain (.map [] 0)),(897,.plain (.map [] 0)),(896,.plain (.map [((.int .i64 0),(.bool true),0),((.int .i64 1),(.bool true),1)] 2)),(895,.plain (.map [] 0)),(894,.plain (.map [] 0)),(893,.plain (.cells [(.int .i32 256),(.int .i32 0),(.int .i32 0),(.int .i32 256),(.int .i32 0),(.int .i32 0)] 0 0 false (some 658))),(898,.plain (.cells [(.int .i64 208),(.int .i64 4194304),(.slice (some ⟨893,0,some 3⟩) 2 1),(.map (some 894)),(.map (some 895)),(.map (some 896)),(.map (some 897))] 0 0 false (some 673))),(900,.plain (.cells [(.pointer (some ⟨898,0,some 0⟩)),(.map (some 899))] 0 0 false (some 447)))]),903⟩
noncomputable def C35:Cell (runC P35 (P35.run (T0 1000)) [893,741,510,497,495,506,508,530,531,509,729,727,738,740,779,772,786,795,804,829,826,836,2774,2776,2653,2655,2148,2162,1917,1931,1039,1043,899,897,896,895,894,934,898,900,1051]):=⟨_,by go_invoke; rfl⟩
noncomputable def M35:MemoX:=P35.memo C35.1
theorem n35:Xf C35.1=true:=by kernel_rfl
theorem g35:M35.good=true:=by kernel_rfl
end Go.Ab.Sh
