/-
  That calls answer what was found. No conditions.
-/
import Derived.Test.YtbpkpklaegnkiaaGreatDoorD
import Derived.Test.YtbpkpklaegnkiaaGreatDoorK0
import Derived.Test.YtbpkpklaegnkiaaGreatDoorK2
set_option linter.unusedSimpArgs false
set_option linter.unusedVariables false
set_option maxRecDepth 1000000
set_option maxHeartbeats 400000000
namespace Go.Ab.Sh
open Go Go.Ab
noncomputable def P6:Pre:=⟨Qe,[(.pointer (some ⟨2047,0,some 0⟩)),(.func (.func 329) ⟨[]⟩ ⟨[]⟩),(.func (.func 330) ⟨[]⟩ ⟨[(.pointer (some ⟨2044,0,some 0⟩)),(.pointer (some ⟨3635,0,some 0⟩)),(.pointer (some ⟨2048,0,some 0⟩))]⟩)],List.append (sel M5.fin [2048,2046,2045,2041,2043,1920,1922,1421,1429,1257,1265,499,503,359,357,356,355,354,394,358,360,511,2047]) (List.append (sel M4.fin [2044]) ([(3635,.plain (.cells [(.int .u8 3)] 0 0 false (some 11)))])),3636⟩
noncomputable def C6:Cell (runC P6 (P6.run (T0 1000)) [2044,3635,2046,2045,2041,2043,1920,1922,1421,1429,1257,1265,499,503,359,357,356,355,354,394,358,360,511,2047,2048,3636]):=⟨_,by go_invoke; rfl⟩
noncomputable def M6:MemoX:=P6.memo C6.1
theorem n6:X2m C6.1=true:=by kernel_rfl
theorem g6:M6.good=true:=by kernel_rfl
noncomputable def P7:Pre:=⟨Qe,[(.pointer (some ⟨2047,0,some 0⟩)),(.func (.func 333) ⟨[]⟩ ⟨[]⟩),(.func (.func 334) ⟨[]⟩ ⟨[(.pointer (some ⟨2048,0,some 0⟩)),(.pointer (some ⟨3635,0,some 0⟩))]⟩)],List.append (sel M6.fin [3635,2048,2046,2045,2041,2043,1920,1922,1421,1429,1257,1265,499,503,359,357,356,355,354,394,358,360,511,2047]) ([]),3742⟩
noncomputable def C7:Cell (runC P7 (P7.run (T0 1000)) [2046,2045,2041,2043,1920,1922,1421,1429,1257,1265,499,503,359,357,356,355,354,394,358,360,511,2047,2048,3635,3742]):=⟨_,by go_invoke; rfl⟩
noncomputable def M7:MemoX:=P7.memo C7.1
theorem n7:X2m C7.1=true:=by kernel_rfl
theorem g7:M7.good=true:=by kernel_rfl
noncomputable def P8:Pre:=⟨Qe,[(.pointer (some ⟨2047,0,some 0⟩)),(.func (.func 329) ⟨[]⟩ ⟨[]⟩),(.func (.func 330) ⟨[]⟩ ⟨[(.pointer (some ⟨2044,0,some 0⟩)),(.pointer (some ⟨3894,0,some 0⟩)),(.pointer (some ⟨2048,0,some 0⟩))]⟩)],List.append (sel M7.fin [2048,2046,2045,2041,2043,1920,1922,1421,1429,1257,1265,499,503,359,357,356,355,354,394,358,360,511,2047]) (List.append (sel M6.fin [2044]) ([(3894,.plain (.cells [(.int .u8 4)] 0 0 false (some 11)))])),3895⟩
noncomputable def C8:Cell (runC P8 (P8.run (T0 1000)) [2044,3894,2046,2045,2041,2043,1920,1922,1421,1429,1257,1265,499,503,359,357,356,355,354,394,358,360,511,2047,2048,3895]):=⟨_,by go_invoke; rfl⟩
noncomputable def M8:MemoX:=P8.memo C8.1
theorem n8:X2m C8.1=true:=by kernel_rfl
theorem g8:M8.good=true:=by kernel_rfl
noncomputable def P9:Pre:=⟨Qe,[(.pointer (some ⟨2047,0,some 0⟩)),(.func (.func 333) ⟨[]⟩ ⟨[]⟩),(.func (.func 334) ⟨[]⟩ ⟨[(.pointer (some ⟨2048,0,some 0⟩)),(.pointer (some ⟨3894,0,some 0⟩))]⟩)],List.append (sel M8.fin [3894,2048,2046,2045,2041,2043,1920,1922,1421,1429,1257,1265,499,503,359,357,356,355,354,394,358,360,511,2047]) ([]),4099⟩
noncomputable def C9:Cell (runC P9 (P9.run (T0 1000)) [2046,2045,2041,2043,1920,1922,1421,1429,1257,1265,499,503,359,357,356,355,354,394,358,360,511,2047,2048,3894,4099]):=⟨_,by go_invoke; rfl⟩
noncomputable def M9:MemoX:=P9.memo C9.1
theorem n9:X2m C9.1=true:=by kernel_rfl
theorem g9:M9.good=true:=by kernel_rfl
noncomputable def P10:Pre:=⟨Qe,[(.pointer (some ⟨2047,0,some 0⟩)),(.func (.func 329) ⟨[]⟩ ⟨[]⟩),(.func (.func 330) ⟨[]⟩ ⟨[(.pointer (some ⟨2044,0,some 0⟩)),(.pointer (some ⟨4564,0,some 0⟩)),(.pointer (some ⟨2048,0,some 0⟩))]⟩)],List.append (sel M9.fin [2048,2041,2043,1920,1922,1421,1429,1257,1265,499,503,359,357,356,355,354,394,358,360,511,2047]) (List.append (sel M8.fin [2044]) ([(4564,.plain (.cells [(.int .u8 5)] 0 0 false (some 11))),(2046,.plain (.map [((.agg ⟨[(.int .i64 0),(.int .i64 0)]⟩),(.agg ⟨[(.int .i64 0),(.int .i64 1347),(.int .i64 0),(.int .i64 0),(.int .i64 1114),(.int .i64 0),(.int .i64 0),(.int .i64 0)]⟩),0),((.agg ⟨[(.int .i64 0),(.int .i64 1)]⟩),(.agg ⟨[(.int .i64 0),(.int .i64 1347),(.int .i64 0),(.int .i64 0),(.int .i64 1114),(.int .i64 0),(.int .i64 0),(.int .i64 0)]⟩),1),((.agg ⟨[(.int .i64 1),(.int .i64 0)]⟩),(.agg ⟨[(.int .i64 0),(.int .i64 1324),(.int .i64 0),(.int .i64 0),(.int .i64 1278),(.int .i64 0),(.int .i64 0),(.int .i64 0)]⟩),2),((.agg ⟨[(.int .i64 1),(.int .i64 1)]⟩),(.agg ⟨[(.int .i64 0),(.int .i64 1324),(.int .i64 0),(.int .i64 0),(.int .i64 1278),(.int .i64 0),(.int .i64 0),(.int .i64 0)]⟩),3)] 4)),(2045,.plain (.map [((.agg ⟨[(.int .i64 0),(.int .i64 0)]⟩),(.agg ⟨[(.int .i64 0),(.int .i64 1347),(.int .i64 0),(.int .i64 0),(.int .i64 1114),(.int .i64 0),(.int .i64 0),(.int .i64 0)]⟩),0),((.agg ⟨[(.int .i64 0),(.int .i64 1)]⟩),(.agg ⟨[(.int .i64 0),(.int .i64 1347),(.int .i64 0),(.int .i64 0),(.int .i64 1114),(.int .i64 0),(.int .i64 0),(.int .i64 0)]⟩),1),((.agg ⟨[(.int .i64 1),(.int .i64 0)]⟩),(.agg ⟨[(.int .i64 0),(.int .i64 1324),(.int .i64 0),(.int .i64 0),(.int .i64 1278),(.int .i64 0),(.int .i64 0),(.int .i64 0)]⟩),2),((.agg ⟨[(.int .i64 1),(.int .i64 1)]⟩),(.agg ⟨[(.int .i64 0),(.int .i64 1324),(.int .i64 0),(.int .i64 0),(.int .i64 1278),(.int .i64 0),(.int .i64 0),(.int .i64 0)]⟩),3)] 4))])),4565⟩
noncomputable def C10:Cell (runC P10 (P10.run (T0 1000)) [2044,4564,2046,2045,2041,2043,1920,1922,1421,1429,1257,1265,499,503,359,357,356,355,354,394,358,360,511,2047,2048,4565]):=⟨_,by go_invoke; rfl⟩
noncomputable def M10:MemoX:=P10.memo C10.1
theorem n10:X2m C10.1=true:=by kernel_rfl
theorem g10:M10.good=true:=by kernel_rfl
end Go.Ab.Sh
