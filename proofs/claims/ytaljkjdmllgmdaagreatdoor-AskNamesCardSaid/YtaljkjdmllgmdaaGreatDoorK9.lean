/-
  That calls answer what was found. No conditions.
-/
import Derived.Test.YtaljkjdmllgmdaaGreatDoorD
import Derived.Test.YtaljkjdmllgmdaaGreatDoorK0
import Derived.Test.YtaljkjdmllgmdaaGreatDoorK8
set_option linter.unusedSimpArgs false
set_option linter.unusedVariables false
set_option maxRecDepth 1000000
set_option maxHeartbeats 400000000
namespace Go.Ab.Sh
open Go Go.Ab
noncomputable def P36:Pre:=⟨Q0,[(.pointer (some ⟨2780,0,some 0⟩)),(.func (.func 183) ⟨[]⟩ ⟨[]⟩),(.func (.func 184) ⟨[]⟩ ⟨[(.pointer (some ⟨2777,0,some 0⟩)),(.pointer (some ⟨2782,0,some 0⟩)),(.pointer (some ⟨2781,0,some 0⟩))]⟩)],List.append (sel M35.fin [2774,2776,2653,2655,2148,2162,1917,1931,1039,1043,899,897,896,895,894,934,898,900,1051]) ([(2781,.plain (.cells [(.pointer (some ⟨2780,0,some 0⟩))] 0 0 false (some 463))),(2782,.plain (.cells [(.int .u8 1)] 0 0 false (some 11))),(2777,.plain (.cells [(.pointer (some ⟨1051,0,some 0⟩))] 0 0 false (some 449))),(2779,.plain (.map [] 0)),(2778,.plain (.map [] 0)),(2780,.plain (.cells [(.pointer (some ⟨1051,0,some 0⟩)),(.map (some 2778)),(.map (some 2779))] 0 0 false (some 717)))]),2783⟩
noncomputable def C36:Cell (runC P36 (P36.run (T0 1000)) [2777,2782,2779,2778,2774,2776,2653,2655,2148,2162,1917,1931,1039,1043,899,897,896,895,894,934,898,900,1051,2780,2781,2783]):=⟨_,by go_invoke; rfl⟩
noncomputable def M36:MemoX:=P36.memo C36.1
theorem n36:Xf C36.1=true:=by kernel_rfl
theorem g36:M36.good=true:=by kernel_rfl
noncomputable def P37:Pre:=⟨Q0,[(.pointer (some ⟨2780,0,some 0⟩)),(.func (.func 187) ⟨[]⟩ ⟨[]⟩),(.func (.func 188) ⟨[]⟩ ⟨[(.pointer (some ⟨2781,0,some 0⟩)),(.pointer (some ⟨2782,0,some 0⟩))]⟩)],List.append (sel M36.fin [2782,2781,2779,2778,2774,2776,2653,2655,2148,2162,1917,1931,1039,1043,899,897,896,895,894,934,898,900,1051,2780]) ([]),3236⟩
noncomputable def C37:Cell (runC P37 (P37.run (T0 1000)) [2779,2778,2774,2776,2653,2655,2148,2162,1917,1931,1039,1043,899,897,896,895,894,934,898,900,1051,2780,2781,2782,3236]):=⟨_,by go_invoke; rfl⟩
noncomputable def M37:MemoX:=P37.memo C37.1
theorem n37:Xf C37.1=true:=by kernel_rfl
theorem g37:M37.good=true:=by kernel_rfl
noncomputable def P38:Pre:=⟨Q0,[(.pointer (some ⟨2780,0,some 0⟩)),(.func (.func 183) ⟨[]⟩ ⟨[]⟩),(.func (.func 184) ⟨[]⟩ ⟨[(.pointer (some ⟨2777,0,some 0⟩)),(.pointer (some ⟨4175,0,some 0⟩)),(.pointer (some ⟨2781,0,some 0⟩))]⟩)],List.append (sel M37.fin [2781,2774,2776,2653,2655,2148,2162,1917,1931,1039,1043,899,897,896,895,894,934,898,900,1051,2780]) (List.append (sel M36.fin [2777]) ([(4175,.plain (.cells [(.int .u8 2)] 0 0 false (some 11))),(2779,.plain (.map [((.agg ⟨[(.int .i64 0),(.int .i64 0)]⟩),(.agg ⟨[(.int .i64 0),(.int .i64 1362),(.int .i64 0),(.int .i64 0),(.int .i64 0),(.int .i64 0),(.int .i64 0),(.int .i64 0)]⟩),0),((.agg ⟨[(.int .i64 0),(.int .i64 1)]⟩),(.agg ⟨[(.int .i64 0),(.int .i64 1362),(.int .i64 0),(.int .i64 0),(.int .i64 0),(.int .i64 0),(.int .i64 0),(.int .i64 0)]⟩),1),((.agg ⟨[(.int .i64 1),(.int .i64 0)]⟩),(.agg ⟨[(.int .i64 0),(.int .i64 1339),(.int .i64 0),(.int .i64 0),(.int .i64 0),(.int .i64 0),(.int .i64 0),(.int .i64 0)]⟩),2),((.agg ⟨[(.int .i64 1),(.int .i64 1)]⟩),(.agg ⟨[(.int .i64 0),(.int .i64 1339),(.int .i64 0),(.int .i64 0),(.int .i64 0),(.int .i64 0),(.int .i64 0),(.int .i64 0)]⟩),3)] 4)),(2778,.plain (.map [((.agg ⟨[(.int .i64 0),(.int .i64 0)]⟩),(.agg ⟨[(.int .i64 0),(.int .i64 1362),(.int .i64 0),(.int .i64 0),(.int .i64 0),(.int .i64 0),(.int .i64 0),(.int .i64 0)]⟩),0),((.agg ⟨[(.int .i64 0),(.int .i64 1)]⟩),(.agg ⟨[(.int .i64 0),(.int .i64 1362),(.int .i64 0),(.int .i64 0),(.int .i64 0),(.int .i64 0),(.int .i64 0),(.int .i64 0)]⟩),1),((.agg ⟨[(.int .i64 1),(.int .i64 0)]⟩),(.agg ⟨[(.int .i64 0),(.int .i64 1339),(.int .i64 0),(.int .i64 0),(.int .i64 0),(.int .i64 0),(.int .i64 0),(.int .i64 0)]⟩),2),((.agg ⟨[(.int .i64 1),(.int .i64 1)]⟩),(.agg ⟨[(.int .i64 0),(.int .i64 1339),(.int .i64 0),(.int .i64 0),(.int .i64 0),(.int .i64 0),(.int .i64 0),(.int .i64 0)]⟩),3)] 4))])),4176⟩
noncomputable def C38:Cell (runC P38 (P38.run (T0 1000)) [2777,4175,2779,2778,2774,2776,2653,2655,2148,2162,1917,1931,1039,1043,899,897,896,895,894,934,898,900,1051,2780,2781,4176]):=⟨_,by go_invoke; rfl⟩
noncomputable def M38:MemoX:=P38.memo C38.1
theorem n38:Xf C38.1=true:=by kernel_rfl
theorem g38:M38.good=true:=by kernel_rfl
noncomputable def P39:Pre:=⟨Q0,[(.pointer (some ⟨2780,0,some 0⟩)),(.func (.func 187) ⟨[]⟩ ⟨[]⟩),(.func (.func 188) ⟨[]⟩ ⟨[(.pointer (some ⟨2781,0,some 0⟩)),(.pointer (some ⟨4175,0,some 0⟩))]⟩)],List.append (sel M38.fin [4175,2781,2779,2778,2774,2776,2653,2655,2148,2162,1917,1931,1039,1043,899,897,896,895,894,934,898,900,1051,2780]) ([]),4294⟩
noncomputable def C39:Cell (runC P39 (P39.run (T0 1000)) [2779,2778,2774,2776,2653,2655,2148,2162,1917,1931,1039,1043,899,897,896,895,894,934,898,900,1051,2780,2781,4175,4294]):=⟨_,by go_invoke; rfl⟩
noncomputable def M39:MemoX:=P39.memo C39.1
theorem n39:Xf C39.1=true:=by kernel_rfl
theorem g39:M39.good=true:=by kernel_rfl
end Go.Ab.Sh
