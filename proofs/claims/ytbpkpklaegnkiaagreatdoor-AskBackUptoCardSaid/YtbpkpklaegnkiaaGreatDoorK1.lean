/-
  That calls answer what was found. No conditions.
-/
import Derived.Test.YtbpkpklaegnkiaaGreatDoorD
import Derived.Test.YtbpkpklaegnkiaaGreatDoorK0
set_option linter.unusedSimpArgs false
set_option linter.unusedVariables false
set_option maxRecDepth 1000000
set_option maxHeartbeats 400000000
namespace Go.Ab.Sh
open Go Go.Ab
noncomputable def P1:Pre:=⟨Q15w,[(.pointer (some ⟨360,0,some 0⟩)),(.pointer (some ⟨223,0,some 0⟩))],List.append (sel M0.fin [298,288,291,266,257,247,250,222,220,209,211,161,183,182,160,158,147,149,162,223]) ([(359,.plain (.map [] 0)),(357,.plain (.map [] 0)),(356,.plain (.map [((.int .i64 0),(.bool true),0),((.int .i64 1),(.bool true),1)] 2)),(355,.plain (.map [] 0)),(354,.plain (.map [] 0)),(353,.plain (.cells [(.int .i32 256),(.int .i32 0),(.int .i32 0),(.int .i32 256),(.int .i32 0),(.int .i32 0)] 0 0 false (some 962))),(358,.plain (.cells [(.int .i64 208),(.int .i64 4194304),(.slice (some ⟨353,0,some 3⟩) 2 1),(.map (some 354)),(.map (some 355)),(.map (some 356)),(.map (some 357))] 0 0 false (some 977))),(360,.plain (.cells [(.pointer (some ⟨358,0,some 0⟩)),(.map (some 359))] 0 0 false (some 725)))]),363⟩
noncomputable def C1:Cell (runC P1 (P1.run (T0 1000)) [353,223,162,149,147,158,160,182,183,161,211,209,220,222,250,247,257,266,291,288,298,2041,2043,1920,1922,1421,1429,1257,1265,499,503,359,357,356,355,354,394,358,360,511]):=⟨_,by go_invoke; rfl⟩
noncomputable def M1:MemoX:=P1.memo C1.1
theorem n1:X2m C1.1=true:=by kernel_rfl
theorem g1:M1.good=true:=by kernel_rfl
end Go.Ab.Sh
