/-
  That calls answer what was found. No conditions.
-/
import Derived.Test.YtaljkjdmllgmdaaGreatDoorD
import Derived.Test.YtaljkjdmllgmdaaGreatDoorK0
import Derived.Test.YtaljkjdmllgmdaaGreatDoorK1
import Derived.Test.YtaljkjdmllgmdaaGreatDoorK4
import Derived.Test.YtaljkjdmllgmdaaGreatDoorK5
set_option linter.unusedSimpArgs false
set_option linter.unusedVariables false
set_option maxRecDepth 1000000
set_option maxHeartbeats 400000000
namespace Go.Ab.Sh
open Go Go.Ab
noncomputable def P25:Pre:=⟨Q1jg,[(.pointer (some ⟨511,0,some 0⟩))],List.append (sel M21.fin [360]) (List.append (sel M16.fin [2041,2043,1920,1922,1421,1429,1257,1265,499,503,511]) (List.append (sel M1.fin [359,357,356,355,354,394,358]) ([]))),2044⟩
noncomputable def C25:Cell (runC P25 (P25.run (T0 1000)) [511,503,499,1265,1257,1429,1421,1922,1920,2043,2041,2046,2045,359,357,356,355,354,394,358,360,2047]):=⟨_,by go_invoke; rfl⟩
noncomputable def M25:MemoX:=P25.memo C25.1
theorem n25:Xf C25.1=true:=by kernel_rfl
theorem g25:M25.good=true:=by kernel_rfl
noncomputable def P26:Pre:=⟨Q5b,[(.pointer (some ⟨360,0,some 0⟩)),(.agg ⟨[(.string ⟨#[]⟩),(.slice (some ⟨2514,0,some 10⟩) 1 1)]⟩)],List.append (sel M25.fin [359,357,356,355,354,394,358,360]) ([(2514,.plain (.cells [(.bool true),(.int .i64 (-1)),(.int .u32 0),(.int .i64 0),(.int .u32 0),(.int .i64 0),(.int .u32 0),(.int .u32 65535),(.int .u32 0),(.int .u32 65535)] 0 0 false (some 68)))]),2515⟩
noncomputable def C26:Cell (runC P26 (P26.run (T0 1000)) [360,358,394,354,355,356,357,359,2514]):=⟨_,by go_invoke; rfl⟩
noncomputable def M26:MemoX:=P26.memo C26.1
theorem n26:Xf C26.1=true:=by kernel_rfl
theorem g26:M26.good=true:=by kernel_rfl
noncomputable def o5:Tr Over:=(.node none (.node none (.node none (.node none (.node none (.node none .nil (.node (some (X10 [M25])) (.node none .nil (.node (some Q15) .nil .nil)) .nil)) (.node none .nil (.node none (.node none (.node (some Q1h) .nil .nil) .nil) .nil))) .nil) (.node none (.node none (.node none (.node (some Q16) .nil (.node (some Q10) .nil .nil)) .nil) .nil) .nil)) (.node none (.node none (.node none (.node none (.node none .nil (.node (some Q17) .nil .nil)) .nil) .nil) (.node none (.node none .nil (.node none (.node none (.node (some Q1i) .nil .nil) .nil) .nil)) (.node none .nil (.node none .nil (.node (some Q4) .nil .nil))))) (.node none (.node none (.node none (.node (some Q1s) .nil (.node (some Q18) .nil .nil)) .nil) (.node none (.node none (.node (some Q1b) .nil .nil) .nil) (.node none (.node none (.node (some Q12) .nil .nil) .nil) .nil))) .nil))) (.node none (.node none (.node none .nil (.node none (.node none (.node none .nil (.node (some Q4o) .nil .nil)) (.node (some Q19) .nil .nil)) .nil)) (.node none (.node none (.node none (.node (some Q1t) (.node none (.node (some Qj) .nil .nil) .nil) (.node (some Q13) .nil .nil)) (.node (some (X10 [M26])) .nil .nil)) .nil) .nil)) (.node none (.node none (.node none (.node none .nil (.node none (.node none .nil (.node (some Q1a) .nil .nil)) .nil)) .nil) (.node none (.node none .nil (.node none .nil (.node none (.node none (.node (some Q1j) .nil .nil) .nil) .nil))) (.node none .nil (.node none .nil (.node none .nil (.node (some Q2) .nil .nil)))))) (.node none (.node none (.node none (.node (some Qw) .nil .nil) .nil) .nil) (.node (some Q1u) .nil (.node none (.node (some (X10 [M1])) .nil .nil) .nil))))))
noncomputable def T5:Nat→Tab:=shT fns (ovTr o5) 18446744073709551616
noncomputable def P27:Pre:=⟨Q9,[(.pointer (some ⟨347,0,some 0⟩)),(.string ⟨#[108,111,111,112,32,97,32,108,97,110]⟩)],List.append (sel M24.fin [345,340,342,298,288,291,266,257,247,250,222,220,209,211,223,333,322,324,161,183,182,160,158,147,149,162,347]) ([]),348⟩
noncomputable def C27:Cell (runC P27 (P27.run (T5 1000)) [347,324,322,333,161,183,182,160,158,147,149,162,223,211,209,220,222,250,247,257,266,291,288,298,342,340,345]):=⟨_,by go_invoke; rfl⟩
noncomputable def M27:MemoX:=P27.memo C27.1
theorem n27:Xf C27.1=true:=by kernel_rfl
theorem g27:M27.good=true:=by kernel_rfl
end Go.Ab.Sh
