/-
  That calls answer what was found. No conditions.
-/
import Derived.Test.YtbpkpklaegnkiaaGreatDoorD
import Derived.Test.YtbpkpklaegnkiaaGreatDoorK0
import Derived.Test.YtbpkpklaegnkiaaGreatDoorK1
set_option linter.unusedSimpArgs false
set_option linter.unusedVariables false
set_option maxRecDepth 1000000
set_option maxHeartbeats 400000000
namespace Go.Ab.Sh
open Go Go.Ab
noncomputable def P2:Pre:=⟨Qe,[(.pointer (some ⟨2047,0,some 0⟩)),(.func (.func 329) ⟨[]⟩ ⟨[]⟩),(.func (.func 330) ⟨[]⟩ ⟨[(.pointer (some ⟨2044,0,some 0⟩)),(.pointer (some ⟨2049,0,some 0⟩)),(.pointer (some ⟨2048,0,some 0⟩))]⟩)],List.append (sel M1.fin [2041,2043,1920,1922,1421,1429,1257,1265,499,503,359,357,356,355,354,394,358,360,511]) ([(2048,.plain (.cells [(.pointer (some ⟨2047,0,some 0⟩))] 0 0 false (some 741))),(2049,.plain (.cells [(.int .u8 1)] 0 0 false (some 11))),(2044,.plain (.cells [(.pointer (some ⟨511,0,some 0⟩))] 0 0 false (some 727))),(2046,.plain (.map [] 0)),(2045,.plain (.map [] 0)),(2047,.plain (.cells [(.pointer (some ⟨511,0,some 0⟩)),(.map (some 2045)),(.map (some 2046))] 0 0 false (some 1021)))]),2050⟩
noncomputable def C2:Cell (runC P2 (P2.run (T0 1000)) [2044,2049,2046,2045,2041,2043,1920,1922,1421,1429,1257,1265,499,503,359,357,356,355,354,394,358,360,511,2047,2048,2050]):=⟨_,by go_invoke; rfl⟩
noncomputable def M2:MemoX:=P2.memo C2.1
theorem n2:X2m C2.1=true:=by kernel_rfl
theorem g2:M2.good=true:=by kernel_rfl
noncomputable def P3:Pre:=⟨Qe,[(.pointer (some ⟨2047,0,some 0⟩)),(.func (.func 333) ⟨[]⟩ ⟨[]⟩),(.func (.func 334) ⟨[]⟩ ⟨[(.pointer (some ⟨2048,0,some 0⟩)),(.pointer (some ⟨2049,0,some 0⟩))]⟩)],List.append (sel M2.fin [2049,2048,2046,2045,2041,2043,1920,1922,1421,1429,1257,1265,499,503,359,357,356,355,354,394,358,360,511,2047]) ([]),2467⟩
noncomputable def C3:Cell (runC P3 (P3.run (T0 1000)) [2046,2045,2041,2043,1920,1922,1421,1429,1257,1265,499,503,359,357,356,355,354,394,358,360,511,2047,2048,2049,2467]):=⟨_,by go_invoke; rfl⟩
noncomputable def M3:MemoX:=P3.memo C3.1
theorem n3:X2m C3.1=true:=by kernel_rfl
theorem g3:M3.good=true:=by kernel_rfl
noncomputable def P4:Pre:=⟨Qe,[(.pointer (some ⟨2047,0,some 0⟩)),(.func (.func 329) ⟨[]⟩ ⟨[]⟩),(.func (.func 330) ⟨[]⟩ ⟨[(.pointer (some ⟨2044,0,some 0⟩)),(.pointer (some ⟨3218,0,some 0⟩)),(.pointer (some ⟨2048,0,some 0⟩))]⟩)],List.append (sel M3.fin [2048,2041,2043,1920,1922,1421,1429,1257,1265,499,503,359,357,356,355,354,394,358,360,511,2047]) (List.append (sel M2.fin [2044]) ([(3218,.plain (.cells [(.int .u8 2)] 0 0 false (some 11))),(2046,.plain (.map [((.agg ⟨[(.int .i64 0),(.int .i64 0)]⟩),(.agg ⟨[(.int .i64 0),(.int .i64 1347),(.int .i64 0),(.int .i64 0),(.int .i64 0),(.int .i64 0),(.int .i64 0),(.int .i64 0)]⟩),0),((.agg ⟨[(.int .i64 0),(.int .i64 1)]⟩),(.agg ⟨[(.int .i64 0),(.int .i64 1347),(.int .i64 0),(.int .i64 0),(.int .i64 0),(.int .i64 0),(.int .i64 0),(.int .i64 0)]⟩),1),((.agg ⟨[(.int .i64 1),(.int .i64 0)]⟩),(.agg ⟨[(.int .i64 0),(.int .i64 1324),(.int .i64 0),(.int .i64 0),(.int .i64 0),(.int .i64 0),(.int .i64 0),(.int .i64 0)]⟩),2),((.agg ⟨[(.int .i64 1),(.int .i64 1)]⟩),(.agg ⟨[(.int .i64 0),(.int .i64 1324),(.int .i64 0),(.int .i64 0),(.int .i64 0),(.int .i64 0),(.int .i64 0),(.int .i64 0)]⟩),3)] 4)),(2045,.plain (.map [((.agg ⟨[(.int .i64 0),(.int .i64 0)]⟩),(.agg ⟨[(.int .i64 0),(.int .i64 1347),(.int .i64 0),(.int .i64 0),(.int .i64 0),(.int .i64 0),(.int .i64 0),(.int .i64 0)]⟩),0),((.agg ⟨[(.int .i64 0),(.int .i64 1)]⟩),(.agg ⟨[(.int .i64 0),(.int .i64 1347),(.int .i64 0),(.int .i64 0),(.int .i64 0),(.int .i64 0),(.int .i64 0),(.int .i64 0)]⟩),1),((.agg ⟨[(.int .i64 1),(.int .i64 0)]⟩),(.agg ⟨[(.int .i64 0),(.int .i64 1324),(.int .i64 0),(.int .i64 0),(.int .i64 0),(.int .i64 0),(.int .i64 0),(.int .i64 0)]⟩),2),((.agg ⟨[(.int .i64 1),(.int .i64 1)]⟩),(.agg ⟨[(.int .i64 0),(.int .i64 1324),(.int .i64 0),(.int .i64 0),(.int .i64 0),(.int .i64 0),(.int .i64 0),(.int .i64 0)]⟩),3)] 4))])),3219⟩
noncomputable def C4:Cell (runC P4 (P4.run (T0 1000)) [2044,3218,2046,2045,2041,2043,1920,1922,1421,1429,1257,1265,499,503,359,357,356,355,354,394,358,360,511,2047,2048,3219]):=⟨_,by go_invoke; rfl⟩
noncomputable def M4:MemoX:=P4.memo C4.1
theorem n4:X2m C4.1=true:=by kernel_rfl
theorem g4:M4.good=true:=by kernel_rfl
noncomputable def P5:Pre:=⟨Qe,[(.pointer (some ⟨2047,0,some 0⟩)),(.func (.func 333) ⟨[]⟩ ⟨[]⟩),(.func (.func 334) ⟨[]⟩ ⟨[(.pointer (some ⟨2048,0,some 0⟩)),(.pointer (some ⟨3218,0,some 0⟩))]⟩)],List.append (sel M4.fin [3218,2048,2046,2045,2041,2043,1920,1922,1421,1429,1257,1265,499,503,359,357,356,355,354,394,358,360,511,2047]) ([]),3325⟩
noncomputable def C5:Cell (runC P5 (P5.run (T0 1000)) [2046,2045,2041,2043,1920,1922,1421,1429,1257,1265,499,503,359,357,356,355,354,394,358,360,511,2047,2048,3218,3325]):=⟨_,by go_invoke; rfl⟩
noncomputable def M5:MemoX:=P5.memo C5.1
theorem n5:X2m C5.1=true:=by kernel_rfl
theorem g5:M5.good=true:=by kernel_rfl
end Go.Ab.Sh
