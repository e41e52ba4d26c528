/-
  That calls answer what was found. No conditions.
-/
import Derived.Test.YtaljkjdmllgmdaaGreatDoorD
import Derived.Test.YtaljkjdmllgmdaaGreatDoorK0
import Derived.Test.YtaljkjdmllgmdaaGreatDoorK14
set_option linter.unusedSimpArgs false
set_option linter.unusedVariables false
set_option maxRecDepth 1000000
set_option maxHeartbeats 400000000
namespace Go.Ab.Sh
open Go Go.Ab
noncomputable def P71:Pre:=⟨Qe3,[(.pointer (some ⟨550,0,some 0⟩)),(.pointer (some ⟨223,0,some 0⟩))],List.append (sel M70.fin [161,183,182,160,158,147,149,162,549,543,550]) (List.append (sel M69.fin [298,288,291,266,257,247,250,222,220,209,211,223]) ([(547,.plain (.map [] 0)),(546,.plain (.map [((.int .i64 0),(.bool true),0),((.int .i64 1),(.bool true),1)] 2)),(545,.plain (.map [] 0)),(544,.plain (.map [] 0)),(548,.plain (.cells [(.int .i64 208),(.int .i64 4194304),(.slice (some ⟨543,0,some 3⟩) 2 1),(.map (some 544)),(.map (some 545)),(.map (some 546)),(.map (some 547))] 0 0 false (some 673)))])),553⟩
noncomputable def C71:Cell (runC P71 (P71.run (T0 1000)) [543,223,162,149,147,158,160,182,183,161,211,209,220,222,250,247,257,266,291,288,298,2231,2233,2110,2112,1611,1619,1447,1455,689,693,549,547,546,545,544,584,548,550,701]):=⟨_,by go_invoke; rfl⟩
noncomputable def M71:MemoX:=P71.memo C71.1
theorem n71:Xf C71.1=true:=by kernel_rfl
theorem g71:M71.good=true:=by kernel_rfl
end Go.Ab.Sh
