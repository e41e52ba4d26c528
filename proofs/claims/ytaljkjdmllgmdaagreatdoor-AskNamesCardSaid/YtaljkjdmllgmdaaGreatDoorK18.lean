/-
  That calls answer what was found. No conditions.
-/
import Derived.Test.YtaljkjdmllgmdaaGreatDoorD
import Derived.Test.YtaljkjdmllgmdaaGreatDoorK15
import Derived.Test.YtaljkjdmllgmdaaGreatDoorK16
import Derived.Test.YtaljkjdmllgmdaaGreatDoorK17
set_option linter.unusedSimpArgs false
set_option linter.unusedVariables false
set_option maxRecDepth 1000000
set_option maxHeartbeats 400000000
namespace Go.Ab.Sh
open Go Go.Ab
noncomputable def o11:Tr Over:=(.node none (.node none (.node none (.node none (.node none (.node none .nil (.node none (.node none .nil (.node (some Q15) .nil .nil)) .nil)) (.node none .nil (.node none (.node none (.node (some Q1h) .nil .nil) .nil) .nil))) .nil) (.node none (.node none (.node none (.node (some Q16) .nil (.node (some Q10) .nil .nil)) .nil) .nil) .nil)) (.node none (.node none (.node none (.node none (.node none .nil (.node (some Q17) .nil .nil)) .nil) .nil) (.node none (.node none .nil (.node none (.node none (.node (some Q1i) .nil .nil) .nil) .nil)) (.node none .nil (.node none .nil (.node (some Q4) .nil .nil))))) (.node none (.node none (.node none (.node (some Q1s) .nil (.node (some Q18) .nil .nil)) .nil) (.node none (.node none (.node (some Q1b) .nil .nil) .nil) (.node none (.node none (.node (some Q12) .nil .nil) .nil) .nil))) .nil))) (.node none (.node none (.node none .nil (.node none (.node none (.node none .nil (.node (some Q4o) .nil .nil)) (.node (some Q19) .nil .nil)) .nil)) (.node none (.node none (.node none (.node (some Q1t) (.node none (.node (some Qj) .nil .nil) .nil) (.node (some Q13) .nil .nil)) .nil) .nil) .nil)) (.node none (.node none (.node none (.node none .nil (.node none (.node none .nil (.node (some Q1a) .nil .nil)) .nil)) .nil) (.node none (.node none .nil (.node none .nil (.node none (.node none (.node (some Q1j) .nil .nil) .nil) .nil))) (.node none .nil (.node none .nil (.node none .nil (.node (some Q2) .nil .nil)))))) (.node none (.node none (.node none (.node (some Qw) .nil .nil) .nil) (.node none .nil (.node none (.node (some (X10 [M72,M73,M74,M75,M76,M77,M78,M79,M80,M81,M82,M83,M84,M85])) .nil .nil) .nil))) (.node (some Q1u) .nil .nil)))))
noncomputable def T11:Nat→Tab:=shT fns (ovTr o11) 18446744073709551616
noncomputable def P86:Pre:=⟨Qht,[(.pointer (some ⟨701,0,some 0⟩))],List.append (sel M85.fin [2231,2233,2110,2112,1611,1619,1447,1455,689,693,550,701]) (List.append (sel M71.fin [549,547,546,545,544,584,548]) ([])),2234⟩
noncomputable def C86:Cell (runC P86 (P86.run (T11 1000)) [2236,2235,2231,2233,2110,2112,1611,1619,1447,1455,689,693,549,547,546,545,544,584,548,550,701,2237]):=⟨_,by go_invoke; rfl⟩
noncomputable def M86:MemoX:=P86.memo C86.1
theorem n86:Xf C86.1=true:=by kernel_rfl
theorem g86:M86.good=true:=by kernel_rfl
end Go.Ab.Sh
