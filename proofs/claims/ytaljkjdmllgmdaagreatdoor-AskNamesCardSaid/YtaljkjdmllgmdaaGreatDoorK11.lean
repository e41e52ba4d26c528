/-
  That calls answer what was found. No conditions.
-/
import Derived.Test.YtaljkjdmllgmdaaGreatDoorD
import Derived.Test.YtaljkjdmllgmdaaGreatDoorK8
import Derived.Test.YtaljkjdmllgmdaaGreatDoorK9
import Derived.Test.YtaljkjdmllgmdaaGreatDoorK10
set_option linter.unusedSimpArgs false
set_option linter.unusedVariables false
set_option maxRecDepth 1000000
set_option maxHeartbeats 400000000
namespace Go.Ab.Sh
open Go Go.Ab
noncomputable def o6:Tr Over:=(.node none (.node none (.node none (.node none (.node none (.node none .nil (.node none (.node none .nil (.node (some Q15) .nil .nil)) .nil)) (.node none .nil (.node none (.node none (.node (some Q1h) .nil .nil) .nil) .nil))) .nil) (.node none (.node none (.node none (.node (some Q16) .nil (.node (some Q10) .nil .nil)) .nil) .nil) .nil)) (.node none (.node none (.node none (.node none (.node none .nil (.node (some Q17) .nil .nil)) .nil) .nil) (.node none (.node none .nil (.node none (.node none (.node (some Q1i) .nil .nil) .nil) .nil)) (.node none .nil (.node none .nil (.node (some Q4) .nil .nil))))) (.node none (.node none (.node none (.node (some Q1s) .nil (.node (some Q18) .nil .nil)) .nil) (.node none (.node none (.node (some Q1b) .nil .nil) .nil) (.node none (.node none (.node (some Q12) .nil .nil) .nil) .nil))) .nil))) (.node none (.node none (.node none .nil (.node none (.node none (.node none .nil (.node (some Q4o) .nil .nil)) (.node (some Q19) .nil .nil)) .nil)) (.node none (.node none (.node none (.node (some Q1t) (.node none (.node (some Qj) .nil .nil) .nil) (.node (some Q13) .nil .nil)) .nil) .nil) .nil)) (.node none (.node none (.node none (.node none .nil (.node none (.node none .nil (.node (some Q1a) .nil .nil)) .nil)) .nil) (.node none (.node none .nil (.node none .nil (.node none (.node none (.node (some Q1j) .nil .nil) .nil) .nil))) (.node none .nil (.node none .nil (.node none .nil (.node (some Q2) .nil .nil)))))) (.node none (.node none (.node none (.node (some Qw) .nil .nil) .nil) (.node none .nil (.node none (.node (some (X10 [M36,M37,M38,M39,M40,M41,M42,M43,M44,M45,M46,M47,M48,M49])) .nil .nil) .nil))) (.node (some Q1u) .nil .nil)))))
noncomputable def T6:Nat→Tab:=shT fns (ovTr o6) 18446744073709551616
noncomputable def P50:Pre:=⟨Qht,[(.pointer (some ⟨1051,0,some 0⟩))],List.append (sel M49.fin [2774,2776,2653,2655,2148,2162,1917,1931,1039,1043,900,1051]) (List.append (sel M35.fin [899,897,896,895,894,934,898]) ([])),2777⟩
noncomputable def C50:Cell (runC P50 (P50.run (T6 1000)) [2779,2778,2774,2776,2653,2655,2148,2162,1917,1931,1039,1043,899,897,896,895,894,934,898,900,1051,2780]):=⟨_,by go_invoke; rfl⟩
noncomputable def M50:MemoX:=P50.memo C50.1
theorem n50:Xf C50.1=true:=by kernel_rfl
theorem g50:M50.good=true:=by kernel_rfl
end Go.Ab.Sh
