/-
  That calls answer what was found. No conditions.
-/
import Derived.Test.YtfdlocphbipadaaGreatDoorD
import Derived.Test.YtfdlocphbipadaaGreatDoorK0
import Derived.Test.YtfdlocphbipadaaGreatDoorK7
set_option maxRecDepth 1000000
set_option maxHeartbeats 400000000
set_option linter.unusedVariables false
namespace Go.Ab.Sh
open Go Go.Ab
noncomputable def P20:Pre:=⟨Q37,[(.pointer (some ⟨691,0,some 0⟩)),(.int .i64 1347),(.agg ⟨[(.int .u32 0),(.int .u32 167903497),(.int .u8 0),(.int .u16 0),(.int .u16 0)]⟩)],List.append (sel M19.fin [690,688,687,686,685,727,689,691]) ([]),10543⟩
noncomputable def C20:Cell (runC P20 (P20.run (T0 1000)) [691,689,727,685,686,687,688,690]):=⟨_,by go_invoke; rfl⟩
noncomputable def M20:MemoX:=P20.memo C20.1
theorem n20:X16 C20.1=true:=by kernel_rfl
theorem g20:M20.good=true:=by kernel_rfl
noncomputable def P21:Pre:=⟨Q37,[(.pointer (some ⟨691,0,some 0⟩)),(.int .i64 1679),(.agg ⟨[(.int .u32 0),(.int .u32 167903497),(.int .u8 0),(.int .u16 0),(.int .u16 0)]⟩)],List.append (sel M20.fin [690,688,687,686,685,727,689,691]) ([]),10543⟩
noncomputable def C21:Cell (runC P21 (P21.run (T0 1000)) [691,689,727,685,686,687,688,690]):=⟨_,by go_invoke; rfl⟩
noncomputable def M21:MemoX:=P21.memo C21.1
theorem n21:X16 C21.1=true:=by kernel_rfl
theorem g21:M21.good=true:=by kernel_rfl
noncomputable def P22:Pre:=⟨Q37,[(.pointer (some ⟨691,0,some 0⟩)),(.int .i64 0),(.agg ⟨[(.int .u32 0),(.int .u32 167903497),(.int .u8 0),(.int .u16 0),(.int .u16 0)]⟩)],List.append (sel M21.fin [690,688,687,686,685,727,689,691]) ([]),10543⟩
noncomputable def C22:Cell (runC P22 (P22.run (T0 1000)) [691,689,727,685,686,687,688,690]):=⟨_,by go_invoke; rfl⟩
noncomputable def M22:MemoX:=P22.memo C22.1
theorem n22:X16 C22.1=true:=by kernel_rfl
theorem g22:M22.good=true:=by kernel_rfl
noncomputable def P23:Pre:=⟨Q37,[(.pointer (some ⟨691,0,some 0⟩)),(.int .i64 1114),(.agg ⟨[(.int .u32 0),(.int .u32 167903497),(.int .u8 0),(.int .u16 0),(.int .u16 0)]⟩)],List.append (sel M22.fin [690,688,687,686,685,727,689,691]) ([]),10543⟩
noncomputable def C23:Cell (runC P23 (P23.run (T0 1000)) [691,689,727,685,686,687,688,690]):=⟨_,by go_invoke; rfl⟩
noncomputable def M23:MemoX:=P23.memo C23.1
theorem n23:X16 C23.1=true:=by kernel_rfl
theorem g23:M23.good=true:=by kernel_rfl
noncomputable def P24:Pre:=⟨Q37,[(.pointer (some ⟨691,0,some 0⟩)),(.int .i64 1054),(.agg ⟨[(.int .u32 0),(.int .u32 167903497),(.int .u8 0),(.int .u16 0),(.int .u16 0)]⟩)],List.append (sel M23.fin [690,688,687,686,685,727,689,691]) ([]),10543⟩
noncomputable def C24:Cell (runC P24 (P24.run (T0 1000)) [691,689,727,685,686,687,688,690]):=⟨_,by go_invoke; rfl⟩
noncomputable def M24:MemoX:=P24.memo C24.1
theorem n24:X16 C24.1=true:=by kernel_rfl
theorem g24:M24.good=true:=by kernel_rfl
end Go.Ab.Sh
