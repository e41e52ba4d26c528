/-
  That calls answer what was found. No conditions.
-/
import Derived.Test.YtaljkjdmllgmdaaGreatDoorD
import Derived.Test.YtaljkjdmllgmdaaGreatDoorK0
import Derived.Test.YtaljkjdmllgmdaaGreatDoorK9
set_option linter.unusedSimpArgs false
set_option linter.unusedVariables false
set_option maxRecDepth 1000000
set_option maxHeartbeats 400000000
namespace Go.Ab.Sh
open Go Go.Ab
noncomputable def P40:Pre:=⟨Q0,[(.pointer (some ⟨2780,0,some 0⟩)),(.func (.func 183) ⟨[]⟩ ⟨[]⟩),(.func (.func 184) ⟨[]⟩ ⟨[(.pointer (some ⟨2777,0,some 0⟩)),(.pointer (some ⟨4668,0,some 0⟩)),(.pointer (some ⟨2781,0,some 0⟩))]⟩)],List.append (sel M39.fin [2781,2779,2778,2774,2776,2653,2655,2148,2162,1917,1931,1039,1043,899,897,896,895,894,934,898,900,1051,2780]) (List.append (sel M38.fin [2777]) ([(4668,.plain (.cells [(.int .u8 3)] 0 0 false (some 11)))])),4669⟩
noncomputable def C40:Cell (runC P40 (P40.run (T0 1000)) [2777,4668,2779,2778,2774,2776,2653,2655,2148,2162,1917,1931,1039,1043,899,897,896,895,894,934,898,900,1051,2780,2781,4669]):=⟨_,by go_invoke; rfl⟩
noncomputable def M40:MemoX:=P40.memo C40.1
theorem n40:Xf C40.1=true:=by kernel_rfl
theorem g40:M40.good=true:=by kernel_rfl
noncomputable def P41:Pre:=⟨Q0,[(.pointer (some ⟨2780,0,some 0⟩)),(.func (.func 187) ⟨[]⟩ ⟨[]⟩),(.func (.func 188) ⟨[]⟩ ⟨[(.pointer (some ⟨2781,0,some 0⟩)),(.pointer (some ⟨4668,0,some 0⟩))]⟩)],List.append (sel M40.fin [4668,2781,2779,2778,2774,2776,2653,2655,2148,2162,1917,1931,1039,1043,899,897,896,895,894,934,898,900,1051,2780]) ([]),4787⟩
noncomputable def C41:Cell (runC P41 (P41.run (T0 1000)) [2779,2778,2774,2776,2653,2655,2148,2162,1917,1931,1039,1043,899,897,896,895,894,934,898,900,1051,2780,2781,4668,4787]):=⟨_,by go_invoke; rfl⟩
noncomputable def M41:MemoX:=P41.memo C41.1
theorem n41:Xf C41.1=true:=by kernel_rfl
theorem g41:M41.good=true:=by kernel_rfl
noncomputable def P42:Pre:=⟨Q0,[(.pointer (some ⟨2780,0,some 0⟩)),(.func (.func 183) ⟨[]⟩ ⟨[]⟩),(.func (.func 184) ⟨[]⟩ ⟨[(.pointer (some ⟨2777,0,some 0⟩)),(.pointer (some ⟨4951,0,some 0⟩)),(.pointer (some ⟨2781,0,some 0⟩))]⟩)],List.append (sel M41.fin [2781,2779,2778,2774,2776,2653,2655,2148,2162,1917,1931,1039,1043,899,897,896,895,894,934,898,900,1051,2780]) (List.append (sel M40.fin [2777]) ([(4951,.plain (.cells [(.int .u8 4)] 0 0 false (some 11)))])),4952⟩
noncomputable def C42:Cell (runC P42 (P42.run (T0 1000)) [2777,4951,2779,2778,2774,2776,2653,2655,2148,2162,1917,1931,1039,1043,899,897,896,895,894,934,898,900,1051,2780,2781,4952]):=⟨_,by go_invoke; rfl⟩
noncomputable def M42:MemoX:=P42.memo C42.1
theorem n42:Xf C42.1=true:=by kernel_rfl
theorem g42:M42.good=true:=by kernel_rfl
noncomputable def P43:Pre:=⟨Q0,[(.pointer (some ⟨2780,0,some 0⟩)),(.func (.func 187) ⟨[]⟩ ⟨[]⟩),(.func (.func 188) ⟨[]⟩ ⟨[(.pointer (some ⟨2781,0,some 0⟩)),(.pointer (some ⟨4951,0,some 0⟩))]⟩)],List.append (sel M42.fin [4951,2781,2779,2778,2774,2776,2653,2655,2148,2162,1917,1931,1039,1043,899,897,896,895,894,934,898,900,1051,2780]) ([]),5290⟩
noncomputable def C43:Cell (runC P43 (P43.run (T0 1000)) [2779,2778,2774,2776,2653,2655,2148,2162,1917,1931,1039,1043,899,897,896,895,894,934,898,900,1051,2780,2781,4951,5290]):=⟨_,by go_invoke; rfl⟩
noncomputable def M43:MemoX:=P43.memo C43.1
theorem n43:Xf C43.1=true:=by kernel_rfl
theorem g43:M43.good=true:=by kernel_rfl
noncomputable def P44:Pre:=⟨Q0,[(.pointer (some ⟨2780,0,some 0⟩)),(.func (.func 183) ⟨[]⟩ ⟨[]⟩),(.func (.func 184) ⟨[]⟩ ⟨[(.pointer (some ⟨2777,0,some 0⟩)),(.pointer (some ⟨5831,0,some 0⟩)),(.pointer (some ⟨2781,0,some 0⟩))]⟩)],List.append (sel M43.fin [2781,2774,2776,2653,2655,2148,2162,1917,1931,1039,1043,899,897,896,895,894,934,898,900,1051,2780]) (List.append (sel M42.fin [2777]) ([(5831,.plain (.cells [(.int .u8 5)] 0 0 false (some 11))),(2779,.plain (.map [((.agg ⟨[(.int .i64 0),(.int .i64 0)]⟩),(.agg ⟨[(.int .i64 0),(.int .i64 1362),(.int .i64 0),(.int .i64 0),(.int .i64 1129),(.int .i64 0),(.int .i64 0),(.int .i64 0)]⟩),0),((.agg ⟨[(.int .i64 0),(.int .i64 1)]⟩),(.agg ⟨[(.int .i64 0),(.int .i64 1362),(.int .i64 0),(.int .i64 0),(.int .i64 1129),(.int .i64 0),(.int .i64 0),(.int .i64 0)]⟩),1),((.agg ⟨[(.int .i64 1),(.int .i64 0)]⟩),(.agg ⟨[(.int .i64 0),(.int .i64 1339),(.int .i64 0),(.int .i64 0),(.int .i64 1293),(.int .i64 0),(.int .i64 0),(.int .i64 0)]⟩),2),((.agg ⟨[(.int .i64 1),(.int .i64 1)]⟩),(.agg ⟨[(.int .i64 0),(.int .i64 1339),(.int .i64 0),(.int .i64 0),(.int .i64 1293),(.int .i64 0),(.int .i64 0),(.int .i64 0)]⟩),3)] 4)),(2778,.plain (.map [((.agg ⟨[(.int .i64 0),(.int .i64 0)]⟩),(.agg ⟨[(.int .i64 0),(.int .i64 1362),(.int .i64 0),(.int .i64 0),(.int .i64 1114),(.int .i64 0),(.int .i64 0),(.int .i64 0)]⟩),0),((.agg ⟨[(.int .i64 0),(.int .i64 1)]⟩),(.agg ⟨[(.int .i64 0),(.int .i64 1362),(.int .i64 0),(.int .i64 0),(.int .i64 1114),(.int .i64 0),(.int .i64 0),(.int .i64 0)]⟩),1),((.agg ⟨[(.int .i64 1),(.int .i64 0)]⟩),(.agg ⟨[(.int .i64 0),(.int .i64 1339),(.int .i64 0),(.int .i64 0),(.int .i64 1293),(.int .i64 0),(.int .i64 0),(.int .i64 0)]⟩),2),((.agg ⟨[(.int .i64 1),(.int .i64 1)]⟩),(.agg ⟨[(.int .i64 0),(.int .i64 1339),(.int .i64 0),(.int .i64 0),(.int .i64 1293),(.int .i64 0),(.int .i64 0),(.int .i64 0)]⟩),3)] 4))])),5832⟩
noncomputable def C44:Cell (runC P44 (P44.run (T0 1000)) [2777,5831,2779,2778,2774,2776,2653,2655,2148,2162,1917,1931,1039,1043,899,897,896,895,894,934,898,900,1051,2780,2781,5832]):=⟨_,by go_invoke; rfl⟩
noncomputable def M44:MemoX:=P44.memo C44.1
theorem n44:Xf C44.1=true:=by kernel_rfl
theorem g44:M44.good=true:=by kernel_rfl
noncomputable def P45:Pre:=⟨Q0,[(.pointer (some ⟨2780,0,some 0⟩)),(.func (.func 187) ⟨[]⟩ ⟨[]⟩),(.func (.func 188) ⟨[]⟩ ⟨[(.pointer (some ⟨2781,0,some 0⟩)),(.pointer (some ⟨5831,0,some 0⟩))]⟩)],List.append (sel M44.fin [5831,2781,2779,2778,2774,2776,2653,2655,2148,2162,1917,1931,1039,1043,899,897,896,895,894,934,898,900,1051,2780]) ([]),5950⟩
noncomputable def C45:Cell (runC P45 (P45.run (T0 1000)) [2779,2778,2774,2776,2653,2655,2148,2162,1917,1931,1039,1043,899,897,896,895,894,934,898,900,1051,2780,2781,5831,5950]):=⟨_,by go_invoke; rfl⟩
noncomputable def M45:MemoX:=P45.memo C45.1
theorem n45:Xf C45.1=true:=by kernel_rfl
theorem g45:M45.good=true:=by kernel_rfl
noncomputable def P46:Pre:=⟨Q0,[(.pointer (some ⟨2780,0,some 0⟩)),(.func (.func 183) ⟨[]⟩ ⟨[]⟩),(.func (.func 184) ⟨[]⟩ ⟨[(.pointer (some ⟨2777,0,some 0⟩)),(.pointer (some ⟨6114,0,some 0⟩)),(.pointer (some ⟨2781,0,some 0⟩))]⟩)],List.append (sel M45.fin [2781,2779,2778,2774,2776,2653,2655,2148,2162,1917,1931,1039,1043,899,897,896,895,894,934,898,900,1051,2780]) (List.append (sel M44.fin [2777]) ([(6114,.plain (.cells [(.int .u8 6)] 0 0 false (some 11)))])),6115⟩
noncomputable def C46:Cell (runC P46 (P46.run (T0 1000)) [2777,6114,2779,2778,2774,2776,2653,2655,2148,2162,1917,1931,1039,1043,899,897,896,895,894,934,898,900,1051,2780,2781,6115]):=⟨_,by go_invoke; rfl⟩
noncomputable def M46:MemoX:=P46.memo C46.1
theorem n46:Xf C46.1=true:=by kernel_rfl
theorem g46:M46.good=true:=by kernel_rfl
noncomputable def P47:Pre:=⟨Q0,[(.pointer (some ⟨2780,0,some 0⟩)),(.func (.func 187) ⟨[]⟩ ⟨[]⟩),(.func (.func 188) ⟨[]⟩ ⟨[(.pointer (some ⟨2781,0,some 0⟩)),(.pointer (some ⟨6114,0,some 0⟩))]⟩)],List.append (sel M46.fin [6114,2781,2779,2778,2774,2776,2653,2655,2148,2162,1917,1931,1039,1043,899,897,896,895,894,934,898,900,1051,2780]) ([]),6510⟩
noncomputable def C47:Cell (runC P47 (P47.run (T0 1000)) [2779,2778,2774,2776,2653,2655,2148,2162,1917,1931,1039,1043,899,897,896,895,894,934,898,900,1051,2780,2781,6114,6510]):=⟨_,by go_invoke; rfl⟩
noncomputable def M47:MemoX:=P47.memo C47.1
theorem n47:Xf C47.1=true:=by kernel_rfl
theorem g47:M47.good=true:=by kernel_rfl
noncomputable def P48:Pre:=⟨Q0,[(.pointer (some ⟨2780,0,some 0⟩)),(.func (.func 183) ⟨[]⟩ ⟨[]⟩),(.func (.func 184) ⟨[]⟩ ⟨[(.pointer (some ⟨2777,0,some 0⟩)),(.pointer (some ⟨7240,0,some 0⟩)),(.pointer (some ⟨2781,0,some 0⟩))]⟩)],List.append (sel M47.fin [2781,2774,2776,2653,2655,2148,2162,1917,1931,1039,1043,899,897,896,895,894,934,898,900,1051,2780]) (List.append (sel M46.fin [2777]) ([(7240,.plain (.cells [(.int .u8 7)] 0 0 false (some 11))),(2779,.plain (.map [((.agg ⟨[(.int .i64 0),(.int .i64 0)]⟩),(.agg ⟨[(.int .i64 0),(.int .i64 1362),(.int .i64 0),(.int .i64 0),(.int .i64 1129),(.int .i64 0),(.int .i64 1652),(.int .i64 0)]⟩),0),((.agg ⟨[(.int .i64 0),(.int .i64 1)]⟩),(.agg ⟨[(.int .i64 0),(.int .i64 1362),(.int .i64 0),(.int .i64 0),(.int .i64 1129),(.int .i64 0),(.int .i64 1652),(.int .i64 0)]⟩),1),((.agg ⟨[(.int .i64 1),(.int .i64 0)]⟩),(.agg ⟨[(.int .i64 0),(.int .i64 1339),(.int .i64 0),(.int .i64 0),(.int .i64 1293),(.int .i64 0),(.int .i64 1308),(.int .i64 0)]⟩),2),((.agg ⟨[(.int .i64 1),(.int .i64 1)]⟩),(.agg ⟨[(.int .i64 0),(.int .i64 1339),(.int .i64 0),(.int .i64 0),(.int .i64 1293),(.int .i64 0),(.int .i64 1308),(.int .i64 0)]⟩),3)] 4)),(2778,.plain (.map [((.agg ⟨[(.int .i64 0),(.int .i64 0)]⟩),(.agg ⟨[(.int .i64 0),(.int .i64 1362),(.int .i64 0),(.int .i64 0),(.int .i64 1114),(.int .i64 0),(.int .i64 1652),(.int .i64 0)]⟩),0),((.agg ⟨[(.int .i64 0),(.int .i64 1)]⟩),(.agg ⟨[(.int .i64 0),(.int .i64 1362),(.int .i64 0),(.int .i64 0),(.int .i64 1114),(.int .i64 0),(.int .i64 1652),(.int .i64 0)]⟩),1),((.agg ⟨[(.int .i64 1),(.int .i64 0)]⟩),(.agg ⟨[(.int .i64 0),(.int .i64 1339),(.int .i64 0),(.int .i64 0),(.int .i64 1293),(.int .i64 0),(.int .i64 1308),(.int .i64 0)]⟩),2),((.agg ⟨[(.int .i64 1),(.int .i64 1)]⟩),(.agg ⟨[(.int .i64 0),(.int .i64 1339),(.int .i64 0),(.int .i64 0),(.int .i64 1293),(.int .i64 0),(.int .i64 1308),(.int .i64 0)]⟩),3)] 4))])),7241⟩
noncomputable def C48:Cell (runC P48 (P48.run (T0 1000)) [2777,7240,2779,2778,2774,2776,2653,2655,2148,2162,1917,1931,1039,1043,899,897,896,895,894,934,898,900,1051,2780,2781,7241]):=⟨_,by go_invoke; rfl⟩
noncomputable def M48:MemoX:=P48.memo C48.1
theorem n48:Xf C48.1=true:=by kernel_rfl
theorem g48:M48.good=true:=by kernel_rfl
noncomputable def P49:Pre:=⟨Q0,[(.pointer (some ⟨2780,0,some 0⟩)),(.func (.func 187) ⟨[]⟩ ⟨[]⟩),(.func (.func 188) ⟨[]⟩ ⟨[(.pointer (some ⟨2781,0,some 0⟩)),(.pointer (some ⟨7240,0,some 0⟩))]⟩)],List.append (sel M48.fin [7240,2781,2779,2778,2774,2776,2653,2655,2148,2162,1917,1931,1039,1043,899,897,896,895,894,934,898,900,1051,2780]) ([]),7469⟩
noncomputable def C49:Cell (runC P49 (P49.run (T0 1000)) [2779,2778,2774,2776,2653,2655,2148,2162,1917,1931,1039,1043,899,897,896,895,894,934,898,900,1051,2780,2781,7240,7469]):=⟨_,by go_invoke; rfl⟩
noncomputable def M49:MemoX:=P49.memo C49.1
theorem n49:Xf C49.1=true:=by kernel_rfl
theorem g49:M49.good=true:=by kernel_rfl
end Go.Ab.Sh
