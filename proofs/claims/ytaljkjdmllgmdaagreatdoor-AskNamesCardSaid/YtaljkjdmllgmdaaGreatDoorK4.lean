/-
  That calls answer what was found. No conditions.
-/
import Derived.Test.YtaljkjdmllgmdaaGreatDoorD
import Derived.Test.YtaljkjdmllgmdaaGreatDoorK1
import Derived.Test.YtaljkjdmllgmdaaGreatDoorK2
import Derived.Test.YtaljkjdmllgmdaaGreatDoorK3
set_option linter.unusedSimpArgs false
set_option linter.unusedVariables false
set_option maxRecDepth 1000000
set_option maxHeartbeats 400000000
namespace Go.Ab.Sh
open Go Go.Ab
noncomputable def o1:Tr Over:=(.node none (.node none (.node none (.node none (.node none (.node none .nil (.node none (.node none .nil (.node (some Q15) .nil .nil)) .nil)) (.node none .nil (.node none (.node none (.node (some Q1h) .nil .nil) .nil) .nil))) .nil) (.node none (.node none (.node none (.node (some Q16) .nil (.node (some Q10) .nil .nil)) .nil) .nil) .nil)) (.node none (.node none (.node none (.node none (.node none .nil (.node (some Q17) .nil .nil)) .nil) .nil) (.node none (.node none .nil (.node none (.node none (.node (some Q1i) .nil .nil) .nil) .nil)) (.node none .nil (.node none .nil (.node (some Q4) .nil .nil))))) (.node none (.node none (.node none (.node (some Q1s) .nil (.node (some Q18) .nil .nil)) .nil) (.node none (.node none (.node (some Q1b) .nil .nil) .nil) (.node none (.node none (.node (some Q12) .nil .nil) .nil) .nil))) .nil))) (.node none (.node none (.node none .nil (.node none (.node none (.node none .nil (.node (some Q4o) .nil .nil)) (.node (some Q19) .nil .nil)) .nil)) (.node none (.node none (.node none (.node (some Q1t) (.node none (.node (some Qj) .nil .nil) .nil) (.node (some Q13) .nil .nil)) .nil) .nil) .nil)) (.node none (.node none (.node none (.node none .nil (.node none (.node none .nil (.node (some Q1a) .nil .nil)) .nil)) .nil) (.node none (.node none .nil (.node none .nil (.node none (.node none (.node (some Q1j) .nil .nil) .nil) .nil))) (.node none .nil (.node none .nil (.node none .nil (.node (some Q2) .nil .nil)))))) (.node none (.node none (.node none (.node (some Qw) .nil .nil) .nil) (.node none .nil (.node none (.node (some (X10 [M2,M3,M4,M5,M6,M7,M8,M9,M10,M11,M12,M13,M14,M15])) .nil .nil) .nil))) (.node (some Q1u) .nil .nil)))))
noncomputable def T1:Nat→Tab:=shT fns (ovTr o1) 18446744073709551616
noncomputable def P16:Pre:=⟨Qht,[(.pointer (some ⟨511,0,some 0⟩))],List.append (sel M15.fin [2041,2043,1920,1922,1421,1429,1257,1265,499,503,360,511]) (List.append (sel M1.fin [359,357,356,355,354,394,358]) ([])),2044⟩
noncomputable def C16:Cell (runC P16 (P16.run (T1 1000)) [2046,2045,2041,2043,1920,1922,1421,1429,1257,1265,499,503,359,357,356,355,354,394,358,360,511,2047]):=⟨_,by go_invoke; rfl⟩
noncomputable def M16:MemoX:=P16.memo C16.1
theorem n16:Xf C16.1=true:=by kernel_rfl
theorem g16:M16.good=true:=by kernel_rfl
end Go.Ab.Sh
