/-
  That calls answer what was found. No conditions.
-/
import Derived.Test.YtbpkpklaegnkiaaGreatDoorD
import Derived.Test.YtbpkpklaegnkiaaGreatDoorK0
import Derived.Test.YtbpkpklaegnkiaaGreatDoorK3
set_option linter.unusedSimpArgs false
set_option linter.unusedVariables false
set_option maxRecDepth 1000000
set_option maxHeartbeats 400000000
namespace Go.Ab.Sh
open Go Go.Ab
noncomputable def P11:Pre:=⟨Qe,[(.pointer (some ⟨2047,0,some 0⟩)),(.func (.func 333) ⟨[]⟩ ⟨[]⟩),(.func (.func 334) ⟨[]⟩ ⟨[(.pointer (some ⟨2048,0,some 0⟩)),(.pointer (some ⟨4564,0,some 0⟩))]⟩)],List.append (sel M10.fin [4564,2048,2046,2045,2041,2043,1920,1922,1421,1429,1257,1265,499,503,359,357,356,355,354,394,358,360,511,2047]) ([]),4671⟩
noncomputable def C11:Cell (runC P11 (P11.run (T0 1000)) [2046,2045,2041,2043,1920,1922,1421,1429,1257,1265,499,503,359,357,356,355,354,394,358,360,511,2047,2048,4564,4671]):=⟨_,by go_invoke; rfl⟩
noncomputable def M11:MemoX:=P11.memo C11.1
theorem n11:X2m C11.1=true:=by kernel_rfl
theorem g11:M11.good=true:=by kernel_rfl
noncomputable def P12:Pre:=⟨Qe,[(.pointer (some ⟨2047,0,some 0⟩)),(.func (.func 329) ⟨[]⟩ ⟨[]⟩),(.func (.func 330) ⟨[]⟩ ⟨[(.pointer (some ⟨2044,0,some 0⟩)),(.pointer (some ⟨4823,0,some 0⟩)),(.pointer (some ⟨2048,0,some 0⟩))]⟩)],List.append (sel M11.fin [2048,2046,2045,2041,2043,1920,1922,1421,1429,1257,1265,499,503,359,357,356,355,354,394,358,360,511,2047]) (List.append (sel M10.fin [2044]) ([(4823,.plain (.cells [(.int .u8 6)] 0 0 false (some 11)))])),4824⟩
noncomputable def C12:Cell (runC P12 (P12.run (T0 1000)) [2044,4823,2046,2045,2041,2043,1920,1922,1421,1429,1257,1265,499,503,359,357,356,355,354,394,358,360,511,2047,2048,4824]):=⟨_,by go_invoke; rfl⟩
noncomputable def M12:MemoX:=P12.memo C12.1
theorem n12:X2m C12.1=true:=by kernel_rfl
theorem g12:M12.good=true:=by kernel_rfl
noncomputable def P13:Pre:=⟨Qe,[(.pointer (some ⟨2047,0,some 0⟩)),(.func (.func 333) ⟨[]⟩ ⟨[]⟩),(.func (.func 334) ⟨[]⟩ ⟨[(.pointer (some ⟨2048,0,some 0⟩)),(.pointer (some ⟨4823,0,some 0⟩))]⟩)],List.append (sel M12.fin [4823,2048,2046,2045,2041,2043,1920,1922,1421,1429,1257,1265,499,503,359,357,356,355,354,394,358,360,511,2047]) ([]),5183⟩
noncomputable def C13:Cell (runC P13 (P13.run (T0 1000)) [2046,2045,2041,2043,1920,1922,1421,1429,1257,1265,499,503,359,357,356,355,354,394,358,360,511,2047,2048,4823,5183]):=⟨_,by go_invoke; rfl⟩
noncomputable def M13:MemoX:=P13.memo C13.1
theorem n13:X2m C13.1=true:=by kernel_rfl
theorem g13:M13.good=true:=by kernel_rfl
noncomputable def P14:Pre:=⟨Qe,[(.pointer (some ⟨2047,0,some 0⟩)),(.func (.func 329) ⟨[]⟩ ⟨[]⟩),(.func (.func 330) ⟨[]⟩ ⟨[(.pointer (some ⟨2044,0,some 0⟩)),(.pointer (some ⟨5768,0,some 0⟩)),(.pointer (some ⟨2048,0,some 0⟩))]⟩)],List.append (sel M13.fin [2048,2041,2043,1920,1922,1421,1429,1257,1265,499,503,359,357,356,355,354,394,358,360,511,2047]) (List.append (sel M12.fin [2044]) ([(5768,.plain (.cells [(.int .u8 7)] 0 0 false (some 11))),(2046,.plain (.map [((.agg ⟨[(.int .i64 0),(.int .i64 0)]⟩),(.agg ⟨[(.int .i64 0),(.int .i64 1347),(.int .i64 0),(.int .i64 0),(.int .i64 1114),(.int .i64 0),(.int .i64 1602),(.int .i64 0)]⟩),0),((.agg ⟨[(.int .i64 0),(.int .i64 1)]⟩),(.agg ⟨[(.int .i64 0),(.int .i64 1347),(.int .i64 0),(.int .i64 0),(.int .i64 1114),(.int .i64 0),(.int .i64 1602),(.int .i64 0)]⟩),1),((.agg ⟨[(.int .i64 1),(.int .i64 0)]⟩),(.agg ⟨[(.int .i64 0),(.int .i64 1324),(.int .i64 0),(.int .i64 0),(.int .i64 1278),(.int .i64 0),(.int .i64 1293),(.int .i64 0)]⟩),2),((.agg ⟨[(.int .i64 1),(.int .i64 1)]⟩),(.agg ⟨[(.int .i64 0),(.int .i64 1324),(.int .i64 0),(.int .i64 0),(.int .i64 1278),(.int .i64 0),(.int .i64 1293),(.int .i64 0)]⟩),3)] 4)),(2045,.plain (.map [((.agg ⟨[(.int .i64 0),(.int .i64 0)]⟩),(.agg ⟨[(.int .i64 0),(.int .i64 1347),(.int .i64 0),(.int .i64 0),(.int .i64 1114),(.int .i64 0),(.int .i64 1602),(.int .i64 0)]⟩),0),((.agg ⟨[(.int .i64 0),(.int .i64 1)]⟩),(.agg ⟨[(.int .i64 0),(.int .i64 1347),(.int .i64 0),(.int .i64 0),(.int .i64 1114),(.int .i64 0),(.int .i64 1602),(.int .i64 0)]⟩),1),((.agg ⟨[(.int .i64 1),(.int .i64 0)]⟩),(.agg ⟨[(.int .i64 0),(.int .i64 1324),(.int .i64 0),(.int .i64 0),(.int .i64 1278),(.int .i64 0),(.int .i64 1293),(.int .i64 0)]⟩),2),((.agg ⟨[(.int .i64 1),(.int .i64 1)]⟩),(.agg ⟨[(.int .i64 0),(.int .i64 1324),(.int .i64 0),(.int .i64 0),(.int .i64 1278),(.int .i64 0),(.int .i64 1293),(.int .i64 0)]⟩),3)] 4))])),5769⟩
noncomputable def C14:Cell (runC P14 (P14.run (T0 1000)) [2044,5768,2046,2045,2041,2043,1920,1922,1421,1429,1257,1265,499,503,359,357,356,355,354,394,358,360,511,2047,2048,5769]):=⟨_,by go_invoke; rfl⟩
noncomputable def M14:MemoX:=P14.memo C14.1
theorem n14:X2m C14.1=true:=by kernel_rfl
theorem g14:M14.good=true:=by kernel_rfl
noncomputable def P15:Pre:=⟨Qe,[(.pointer (some ⟨2047,0,some 0⟩)),(.func (.func 333) ⟨[]⟩ ⟨[]⟩),(.func (.func 334) ⟨[]⟩ ⟨[(.pointer (some ⟨2048,0,some 0⟩)),(.pointer (some ⟨5768,0,some 0⟩))]⟩)],List.append (sel M14.fin [5768,2048,2046,2045,2041,2043,1920,1922,1421,1429,1257,1265,499,503,359,357,356,355,354,394,358,360,511,2047]) ([]),5875⟩
noncomputable def C15:Cell (runC P15 (P15.run (T0 1000)) [2046,2045,2041,2043,1920,1922,1421,1429,1257,1265,499,503,359,357,356,355,354,394,358,360,511,2047,2048,5768,5875]):=⟨_,by go_invoke; rfl⟩
noncomputable def M15:MemoX:=P15.memo C15.1
theorem n15:X2m C15.1=true:=by kernel_rfl
theorem g15:M15.good=true:=by kernel_rfl
end Go.Ab.Sh
