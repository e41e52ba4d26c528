/-
  That calls answer what was found. No conditions.
-/
import Derived.Test.YtfdlocphbipadaaGreatDoorD
import Derived.Test.YtfdlocphbipadaaGreatDoorK0
import Derived.Test.YtfdlocphbipadaaGreatDoorK1
set_option maxRecDepth 1000000
set_option maxHeartbeats 400000000
set_option linter.unusedVariables false
namespace Go.Ab.Sh
open Go Go.Ab
noncomputable def P11:Pre:=⟨Qfg,[(.pointer (some ⟨2380,0,some 0⟩)),(.func (.func 72) ⟨[]⟩ ⟨[]⟩),(.func (.func 73) ⟨[]⟩ ⟨[(.pointer (some ⟨2377,0,some 0⟩)),(.pointer (some ⟨2382,0,some 0⟩)),(.pointer (some ⟨2381,0,some 0⟩))]⟩)],List.append (sel M10.fin [2374,2376,2253,2255,1754,1762,1590,1598,832,836,690,688,687,686,685,727,689,691,844]) ([(2381,.plain (.cells [(.pointer (some ⟨2380,0,some 0⟩))] 0 0 false (some 255))),(2382,.plain (.cells [(.int .u8 1)] 0 0 false (some 11))),(2377,.plain (.cells [(.pointer (some ⟨844,0,some 0⟩))] 0 0 false (some 249))),(2379,.plain (.map [] 0)),(2378,.plain (.map [] 0)),(2380,.plain (.cells [(.pointer (some ⟨844,0,some 0⟩)),(.map (some 2378)),(.map (some 2379))] 0 0 false (some 423)))]),2383⟩
noncomputable def C11:Cell (runC P11 (P11.run (T0 1000)) [2377,2382,2379,2378,2374,2376,2253,2255,1754,1762,1590,1598,832,836,690,688,687,686,685,727,689,691,844,2380,2381,2383]):=⟨_,by go_invoke; rfl⟩
noncomputable def M11:MemoX:=P11.memo C11.1
theorem n11:X16 C11.1=true:=by kernel_rfl
theorem g11:M11.good=true:=by kernel_rfl
noncomputable def P12:Pre:=⟨Qfg,[(.pointer (some ⟨2380,0,some 0⟩)),(.func (.func 76) ⟨[]⟩ ⟨[]⟩),(.func (.func 77) ⟨[]⟩ ⟨[(.pointer (some ⟨2381,0,some 0⟩)),(.pointer (some ⟨2382,0,some 0⟩))]⟩)],List.append (sel M11.fin [2382,2381,2379,2378,2374,2376,2253,2255,1754,1762,1590,1598,832,836,690,688,687,686,685,727,689,691,844,2380]) ([]),2800⟩
noncomputable def C12:Cell (runC P12 (P12.run (T0 1000)) [2379,2378,2374,2376,2253,2255,1754,1762,1590,1598,832,836,690,688,687,686,685,727,689,691,844,2380,2381,2382,2800]):=⟨_,by go_invoke; rfl⟩
noncomputable def M12:MemoX:=P12.memo C12.1
theorem n12:X16 C12.1=true:=by kernel_rfl
theorem g12:M12.good=true:=by kernel_rfl
end Go.Ab.Sh
