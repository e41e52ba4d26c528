/-
  That calls answer what was found. No conditions.
-/
import Derived.Test.YtbpkpklaegnkiaaGreatDoorD
import Derived.Test.YtbpkpklaegnkiaaGreatDoorK0
import Derived.Test.YtbpkpklaegnkiaaGreatDoorK5
set_option linter.unusedSimpArgs false
set_option linter.unusedVariables false
set_option maxRecDepth 1000000
set_option maxHeartbeats 400000000
namespace Go.Ab.Sh
open Go Go.Ab
noncomputable def P17:Pre:=⟨Qu4,[(.pointer (some ⟨360,0,some 0⟩)),(.agg ⟨[(.string ⟨#[]⟩),(.slice (some ⟨6028,0,some 10⟩) 1 1)]⟩)],List.append (sel M16.fin [359,357,356,355,354,394,358,360]) ([(6028,.plain (.cells [(.bool true),(.int .i64 6),(.int .u32 0),(.int .i64 0),(.int .u32 167903488),(.int .i64 24),(.int .u32 0),(.int .u32 65535),(.int .u32 80),(.int .u32 80)] 0 0 false (some 58)))]),6029⟩
noncomputable def C17:Cell (runC P17 (P17.run (T0 1000)) [360,358,394,354,355,356,357,359,6028]):=⟨_,by go_invoke; rfl⟩
noncomputable def M17:MemoX:=P17.memo C17.1
theorem n17:X2m C17.1=true:=by kernel_rfl
theorem g17:M17.good=true:=by kernel_rfl
noncomputable def P18:Pre:=⟨Qu4,[(.pointer (some ⟨360,0,some 0⟩)),(.agg ⟨[(.string ⟨#[]⟩),(.slice (some ⟨6028,0,some 10⟩) 1 1)]⟩)],List.append (sel M17.fin [360]) (List.append (sel M16.fin [359,357,356,355,354,394,358]) ([(6028,.plain (.cells [(.bool true),(.int .i64 (-1)),(.int .u32 0),(.int .i64 0),(.int .u32 0),(.int .i64 0),(.int .u32 0),(.int .u32 65535),(.int .u32 0),(.int .u32 65535)] 0 0 false (some 58)))])),6029⟩
noncomputable def C18:Cell (runC P18 (P18.run (T0 1000)) [360,358,394,354,355,356,357,359,6028]):=⟨_,by go_invoke; rfl⟩
noncomputable def M18:MemoX:=P18.memo C18.1
theorem n18:X2m C18.1=true:=by kernel_rfl
theorem g18:M18.good=true:=by kernel_rfl
end Go.Ab.Sh
