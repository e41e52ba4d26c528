/-
  The table of the functions. No conditions.
-/
import Derived.Test.YteognfejlpbmoaaGreatDoorS0
import Derived.Test.YteognfejlpbmoaaGreatDoorS1
import Derived.Test.YteognfejlpbmoaaGreatDoorS2
import Derived.KernelRfl
import Derived.Test.YteognfejlpbmoaaGreatDoorProg
set_option linter.unusedSimpArgs false
set_option linter.unusedVariables false
set_option maxRecDepth 100000
namespace Go.Ab.Sh
open Go Go.Ab
/-! TREE -/
noncomputable def fns:Tr (Entry Go.Proofs.Tryz.prog):=
 (.node none (.node none (.node (some Qge) (.node (some Qj2) (.node (some Qj5) (.node (some Qk0) (.node (some Qiv) (.node (some Qnf) .nil .nil) .nil) .nil) (.node (some Qfu) .nil .nil)) (.node (some Qke) (.node (some Qhy) (.node (some Qof) .nil .nil) (.node (some Qng) .nil .nil)) (.node (some Ql7) .nil .nil))) (.node (some Qj4) (.node (some Qgy) (.node (some Qk2) (.node (some Qgx) (.node (some Qop) .nil .nil) .nil) (.node (some Qoq) .nil .nil)) (.node (some Qir) (.node (some Ql8) .nil .nil) .nil)) (.node (some Qi1) (.node (some Qh1) (.node none (.node (some Qgh) .nil .nil) .nil) .nil) (.node (some Q3x) .nil (.node (some Qj9) .nil .nil))))) (.node (some Qka) (.node (some Qkb) (.node (some Qgn) (.node (some Qhw) (.node (some Qbj) (.node (some Qnh) .nil .nil) .nil) (.node (some Qor) .nil .nil)) .nil) (.node (some Qj6) (.node (some Qft) (.node (some Qk8) .nil .nil) .nil) (.node (some Qit) (.node (some Qdo) .nil .nil) .nil))) (.node none (.node (some Qp8) (.node none (.node (some Qp3) .nil .nil) (.node (some Qii) .nil .nil)) (.node (some Qk4) (.node (some Qi0) .nil .nil) .nil)) (.node (some Qi4) (.node (some Qgw) .nil (.node (some Qla) .nil .nil)) (.node (some Qi9) (.node (some Qja) .nil .nil) .nil))))) (.node none (.node (some Qn8) (.node (some Qp7) (.node (some Qkc) (.node (some Qhv) (.node (some Qiw) (.node (some Qfx) .nil .nil) .nil) .nil) (.node (some Qph) .nil .nil)) (.node (some Qne) (.node (some Qh0) (.node (some Qix) .nil .nil) (.node (some Qkf) .nil .nil)) (.node (some Qk6) (.node (some Qm2) .nil .nil) .nil))) (.node none (.node (some Qh7) (.node none (.node (some Qk7) .nil .nil) (.node (some Qjb) .nil .nil)) (.node (some Qis) .nil .nil)) (.node (some Qj8) (.node (some Qh2) .nil (.node (some Qi2) .nil .nil)) (.node (some Qiu) .nil (.node (some Qgo) .nil .nil))))) (.node (some Qol) (.node (some Qj3) (.node (some Qee) (.node (some Qhx) (.node (some Q6d) .nil .nil) (.node (some Qp9) .nil .nil)) (.node (some Qhz) .nil .nil)) (.node (some Qj7) (.node (some Qk3) (.node (some Qiy) (.node (some Q7z) .nil .nil) .nil) (.node (some Qmv) .nil .nil)) (.node (some Qi8) .nil .nil))) (.node none (.node (some Qm4) (.node none (.node (some Qp4) (.node (some Qgp) .nil .nil) .nil) (.node (some Qkg) .nil .nil)) (.node (some Qk5) .nil .nil)) (.node (some Ql6) (.node none .nil (.node (some Qgz) .nil .nil)) (.node (some Q2q) .nil .nil))))))
end Go.Ab.Sh
