/-
  The table of the functions. No conditions.
-/
import Derived.Test.YtdmfclgfkgmbdaaGreatDoorS0
import Derived.Test.YtdmfclgfkgmbdaaGreatDoorS1
import Derived.Test.YtdmfclgfkgmbdaaGreatDoorS2
import Derived.KernelRfl
import Derived.Test.YtdmfclgfkgmbdaaGreatDoorProg
set_option linter.unusedSimpArgs false
set_option linter.unusedVariables false
set_option maxRecDepth 100000
namespace Go.Ab.Sh
open Go Go.Ab
/-! TREE -/
noncomputable def fns:Tr (Entry Go.Proofs.Tryz.prog):=
 (.node none (.node none (.node (some Q8g) (.node (some Qii) (.node (some Qfc) (.node none (.node (some Qdv) (.node (some Q2y) .nil .nil) .nil) (.node (some Qg2) .nil .nil)) (.node (some Qd9) .nil .nil)) (.node (some Qee) .nil (.node (some Q5r) (.node (some Qij) .nil .nil) .nil))) (.node none (.node (some Qda) (.node (some Q8v) .nil (.node (some Q8w) .nil .nil)) (.node (some Qc2) .nil .nil)) (.node (some Qaj) (.node (some Qdw) .nil .nil) (.node (some Qik) (.node (some Qdx) .nil .nil) (.node (some Q8h) .nil .nil))))) (.node (some Qhs) (.node (some Qdb) (.node (some Qh0) (.node (some Q9k) .nil (.node (some Qak) .nil .nil)) (.node (some Q1o) .nil (.node (some Q8i) .nil .nil))) (.node (some Qal) (.node (some Qdc) (.node (some Qef) .nil .nil) .nil) (.node (some Q8x) (.node (some Qdd) .nil .nil) .nil))) (.node none (.node (some Qde) (.node (some Q7l) .nil .nil) (.node (some Qdf) .nil (.node (some Q7m) .nil .nil))) (.node none (.node (some Qeg) (.node (some Qfd) .nil .nil) .nil) (.node (some Qht) (.node (some Qdy) .nil .nil) .nil))))) (.node none (.node (some Qjd) (.node (some Qdz) (.node (some Qe0) (.node (some Qe1) (.node (some Qdg) (.node (some Q81) .nil .nil) .nil) .nil) (.node (some Qc3) .nil (.node (some Qdh) .nil .nil))) (.node (some Qe2) (.node (some Qam) .nil .nil) (.node (some Q27) (.node (some Qhu) .nil .nil) (.node (some Qhv) .nil .nil)))) (.node none (.node (some Qan) .nil (.node (some Q19) .nil (.node (some Qh1) .nil .nil))) (.node (some Qe3) (.node (some Qe4) .nil .nil) (.node (some Qil) (.node (some Qh2) .nil .nil) .nil)))) (.node (some Qe5) (.node (some Qdi) (.node (some Qdj) (.node (some Q9l) .nil (.node (some Qeh) .nil .nil)) (.node (some Qdk) (.node (some Qdl) .nil .nil) .nil)) (.node (some Qao) (.node (some Qdm) .nil .nil) (.node (some Qe6) (.node (some Qc4) .nil .nil) .nil))) (.node (some Qim) (.node (some Qc5) (.node (some Qje) .nil .nil) (.node (some Qdn) (.node (some Qhw) .nil .nil) (.node (some Qh3) .nil .nil))) (.node none (.node (some Qe7) (.node (some Q6v) .nil .nil) .nil) (.node (some Qdo) .nil .nil))))))
end Go.Ab.Sh
