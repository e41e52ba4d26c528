/-
  The table of the functions. No conditions.
-/
import Derived.Test.YtjnfcoeninejbaaGreatDoorS0
import Derived.Test.YtjnfcoeninejbaaGreatDoorS1
import Derived.Test.YtjnfcoeninejbaaGreatDoorS2
import Derived.Test.YtjnfcoeninejbaaGreatDoorS3
import Derived.Test.YtjnfcoeninejbaaGreatDoorS4
import Derived.KernelRfl
import Derived.Test.YtjnfcoeninejbaaGreatDoorProg
set_option linter.unusedVariables false
set_option maxRecDepth 100000
namespace Go.Ab.Sh
open Go Go.Ab
/-! TREE -/
noncomputable def fns:Tr (Entry Go.Proofs.Tryz.prog):=
  (.node none (.node none (.node (some Q81) (.node (some Qd6) (.node (some Qhh) (.node (some Qbz) (.node (some Qct) .nil .nil) .nil) (.node (some Qc2) (.node (some Q6w) .nil .nil) .nil)) (.node (some Qew) (.node none (.node (some Qc5) .nil .nil) .nil) .nil)) (.node (some Qax) (.node (some Qgw) (.node (some Qg4) (.node (some Qef) .nil .nil) .nil) (.node (some Qfp) .nil .nil)) (.node (some Qd8) (.node (some Qd4) (.node (some Qbx) .nil .nil) .nil) .nil))) (.node (some Qaw) (.node (some Q8i) (.node (some Qfn) (.node (some Qc3) .nil .nil) (.node (some Qcr) .nil .nil)) (.node (some Qg3) (.node (some Qfo) .nil .nil) (.node none (.node (some Qd5) .nil .nil) .nil))) (.node (some Qfk) (.node (some Qg7) (.node none (.node (some Qa6) .nil .nil) .nil) (.node (some Qg2) .nil .nil)) (.node (some Q8j) (.node (some Qa5) .nil .nil) (.node (some Qaz) .nil .nil))))) (.node none (.node (some Qgu) (.node (some Qfj) (.node (some Qfm) (.node (some Qau) .nil .nil) (.node (some Qc0) (.node (some Qfh) .nil .nil) .nil)) (.node none (.node (some Qd3) .nil (.node (some Qc1) .nil .nil)) .nil)) (.node (some Qeh) (.node (some Qgv) (.node (some Qg5) (.node (some Q6x) .nil .nil) .nil) (.node (some Qfi) .nil .nil)) (.node (some Qav) (.node (some Q5c) (.node (some Q7q) .nil .nil) .nil) (.node (some Q6y) .nil .nil)))) (.node (some Qhg) (.node (some Qd7) (.node (some Qcq) (.node (some Qat) .nil .nil) (.node (some Qby) .nil .nil)) (.node (some Qb0) (.node (some Qgt) (.node (some Qeg) .nil .nil) .nil) .nil)) (.node (some Qfl) (.node (some Qgx) (.node (some Qg6) (.node (some Q74) .nil .nil) .nil) (.node (some Q4p) (.node (some Qas) .nil .nil) .nil)) (.node (some Qc4) (.node (some Qay) .nil .nil) (.node (some Qcs) .nil .nil))))))
end Go.Ab.Sh
