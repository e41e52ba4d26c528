/-
  That calls answer what was found. No conditions.
-/
import Derived.Test.YtfdlocphbipadaaGreatDoorD
import Derived.Test.YtfdlocphbipadaaGreatDoorK0
import Derived.Test.YtfdlocphbipadaaGreatDoorK7
import Derived.Test.YtfdlocphbipadaaGreatDoorK8
set_option maxRecDepth 1000000
set_option maxHeartbeats 400000000
set_option linter.unusedVariables false
namespace Go.Ab.Sh
open Go Go.Ab
noncomputable def P25:Pre:=⟨Q37,[(.pointer (some ⟨691,0,some 0⟩)),(.int .i64 0),(.agg ⟨[(.int .u32 0),(.int .u32 167903497),(.int .u8 0),(.int .u16 0),(.int .u16 0)]⟩)],List.append (sel M24.fin [690,688,687,686,685,727,689,691]) ([]),10545⟩
noncomputable def C25:Cell (runC P25 (P25.run (T0 1000)) [691,689,727,685,686,687,688,690]):=⟨_,by go_invoke; rfl⟩
noncomputable def M25:MemoX:=P25.memo C25.1
theorem n25:X16 C25.1=true:=by kernel_rfl
theorem g25:M25.good=true:=by kernel_rfl
noncomputable def P26:Pre:=⟨Q37,[(.pointer (some ⟨691,0,some 0⟩)),(.int .i64 1602),(.agg ⟨[(.int .u32 0),(.int .u32 167903497),(.int .u8 0),(.int .u16 0),(.int .u16 0)]⟩)],List.append (sel M25.fin [690,688,687,686,685,727,689,691]) ([]),10545⟩
noncomputable def C26:Cell (runC P26 (P26.run (T0 1000)) [691,689,727,685,686,687,688,690]):=⟨_,by go_invoke; rfl⟩
noncomputable def M26:MemoX:=P26.memo C26.1
theorem n26:X16 C26.1=true:=by kernel_rfl
theorem g26:M26.good=true:=by kernel_rfl
noncomputable def P27:Pre:=⟨Q37,[(.pointer (some ⟨691,0,some 0⟩)),(.int .i64 1069),(.agg ⟨[(.int .u32 0),(.int .u32 167903497),(.int .u8 0),(.int .u16 0),(.int .u16 0)]⟩)],List.append (sel M26.fin [690,688,687,686,685,727,689,691]) ([]),10545⟩
noncomputable def C27:Cell (runC P27 (P27.run (T0 1000)) [691,689,727,685,686,687,688,690]):=⟨_,by go_invoke; rfl⟩
noncomputable def M27:MemoX:=P27.memo C27.1
theorem n27:X16 C27.1=true:=by kernel_rfl
theorem g27:M27.good=true:=by kernel_rfl
noncomputable def P28:Pre:=⟨Q37,[(.pointer (some ⟨691,0,some 0⟩)),(.int .i64 0),(.agg ⟨[(.int .u32 0),(.int .u32 167903497),(.int .u8 0),(.int .u16 0),(.int .u16 0)]⟩)],List.append (sel M27.fin [690,688,687,686,685,727,689,691]) ([]),10547⟩
noncomputable def C28:Cell (runC P28 (P28.run (T0 1000)) [691,689,727,685,686,687,688,690]):=⟨_,by go_invoke; rfl⟩
noncomputable def M28:MemoX:=P28.memo C28.1
theorem n28:X16 C28.1=true:=by kernel_rfl
theorem g28:M28.good=true:=by kernel_rfl
noncomputable def o4:Tr Over:=(.node none (.node none (.node none (.node none (.node none (.node none (.node (some Qc5) .nil .nil) .nil) (.node none .nil (.node (some Qdv) .nil .nil))) .nil) (.node none (.node none (.node none (.node none .nil (.node (some Qc6) .nil .nil)) .nil) .nil) (.node none (.node none (.node none (.node none .nil (.node (some Q16) .nil .nil)) (.node (some Qc7) .nil .nil)) .nil) .nil))) (.node none (.node none (.node none (.node (some Qc8) .nil .nil) .nil) .nil) (.node none (.node none (.node (some Qz5) .nil .nil) .nil) (.node none .nil (.node (some Q7m) .nil .nil))))) (.node none (.node none .nil (.node none .nil (.node none (.node none .nil (.node (some Q95) .nil .nil)) .nil))) (.node none (.node none (.node none (.node (some Qdw) .nil .nil) .nil) .nil) (.node none (.node (some (X2q [M20,M21,M22,M23,M24,M25,M26,M27,M28])) .nil (.node none .nil (.node none (.node none (.node (some Qdx) .nil .nil) .nil) .nil))) (.node none .nil (.node (some Q96) .nil (.node none (.node (some Qc9) .nil .nil) .nil)))))))
noncomputable def T4:Nat→Tab:=shT fns (ovTr o4) 18446744073709551616
noncomputable def P29:Pre:=⟨Qa2,[(.pointer (some ⟨692,0,some 0⟩)),(.agg ⟨[(.int .i64 0),(.int .i64 1)]⟩),(.agg ⟨[(.int .u32 0),(.int .u32 167903497),(.int .u8 0),(.int .u16 0),(.int .u16 0)]⟩)],List.append (sel M28.fin [690,688,687,686,685,727,689,691]) (List.append (sel M19.fin [10487,10486,10485,10477,6794,6793,6792,6784,692]) ([])),10540⟩
noncomputable def C29:Cell (runC P29 (P29.run (T4 1000)) [692,691,689,727,685,686,687,688,690,6784,6792,6793,6794,10477,10485,10486,10487,10546,10544]):=⟨_,by go_invoke; rfl⟩
noncomputable def M29:MemoX:=P29.memo C29.1
theorem n29:X16 C29.1=true:=by kernel_rfl
theorem g29:M29.good=true:=by kernel_rfl
end Go.Ab.Sh
