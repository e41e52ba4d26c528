/-
  That calls answer what was found. No conditions.
-/
import Derived.Test.YtbpkpklaegnkiaaGreatDoorD
import Derived.Test.YtbpkpklaegnkiaaGreatDoorK1
import Derived.Test.YtbpkpklaegnkiaaGreatDoorK2
import Derived.Test.YtbpkpklaegnkiaaGreatDoorK3
import Derived.Test.YtbpkpklaegnkiaaGreatDoorK4
set_option linter.unusedSimpArgs false
set_option linter.unusedVariables false
set_option maxRecDepth 1000000
set_option maxHeartbeats 400000000
namespace Go.Ab.Sh
open Go Go.Ab
noncomputable def o1:Tr Over:=(.node none (.node none (.node none (.node none (.node none (.node none (.node none .nil (.node none .nil (.node (some Qek) .nil .nil))) (.node none (.node none .nil (.node (some Q17) .nil .nil)) .nil)) .nil) (.node none .nil (.node none (.node none (.node none (.node none (.node (some Qej) .nil .nil) .nil) .nil) .nil) .nil))) (.node none .nil (.node (some Qid) .nil .nil))) (.node none (.node none (.node none .nil (.node none (.node none (.node (some Q1i) .nil .nil) .nil) .nil)) (.node (some Qei) (.node (some Qie) .nil .nil) .nil)) (.node none (.node (some Qif) (.node none (.node none (.node none (.node none (.node (some Qen) .nil .nil) .nil) .nil) (.node none (.node none (.node (some Qh9) .nil .nil) .nil) .nil)) .nil) .nil) .nil))) (.node none (.node none (.node none .nil (.node none (.node none (.node (some Qay) .nil (.node none (.node (some (X9e [M2,M3,M4,M5,M6,M7,M8,M9,M10,M11,M12,M13,M14,M15])) .nil .nil) (.node (some Qcq) .nil .nil))) .nil) (.node none (.node none .nil (.node none (.node (some Qw4) .nil .nil) .nil)) .nil))) (.node none (.node none (.node (some Qaa) .nil .nil) (.node none (.node none .nil (.node none (.node (some Qem) .nil .nil) .nil)) .nil)) .nil)) (.node none (.node none (.node none (.node none (.node none (.node none (.node none (.node (some Qel) .nil .nil) .nil) .nil) (.node none .nil (.node (some Qaz) .nil .nil))) .nil) (.node none (.node none (.node (some Q2o) .nil .nil) .nil) .nil)) (.node none (.node (some Qab) (.node none (.node none .nil (.node none (.node (some Qha) .nil .nil) .nil)) .nil) .nil) (.node none (.node none (.node (some Q5y) .nil .nil) .nil) .nil))) (.node none (.node none .nil (.node none (.node none (.node none (.node none (.node (some Qcr) .nil .nil) .nil) .nil) .nil) .nil)) (.node none .nil (.node none .nil (.node none (.node none .nil (.node (some Qhb) .nil .nil)) .nil)))))))
noncomputable def T1:Nat→Tab:=shT fns (ovTr o1) 18446744073709551616
noncomputable def P16:Pre:=⟨Q15x,[(.pointer (some ⟨511,0,some 0⟩))],List.append (sel M15.fin [2041,2043,1920,1922,1421,1429,1257,1265,499,503,360,511]) (List.append (sel M1.fin [359,357,356,355,354,394,358]) ([])),2044⟩
noncomputable def C16:Cell (runC P16 (P16.run (T1 1000)) [2046,2045,2041,2043,1920,1922,1421,1429,1257,1265,499,503,359,357,356,355,354,394,358,360,511,2047]):=⟨_,by go_invoke; rfl⟩
noncomputable def M16:MemoX:=P16.memo C16.1
theorem n16:X2m C16.1=true:=by kernel_rfl
theorem g16:M16.good=true:=by kernel_rfl
end Go.Ab.Sh
