/-
  What calls were found to answer. No conditions.
-/
import Derived.Test.YtdmfclgfkgmbdaaGreatDoorT
import Derived.Test.YtdmfclgfkgmbdaaGreatDoorAb5
import Derived.Lib.Index
import Derived.Lib.Bytealg
import Derived.KernelRfl
set_option linter.unusedSimpArgs false
set_option linter.unusedVariables false
set_option maxRecDepth 1000000
namespace Go.Ab.Sh
open Go Go.Ab
noncomputable section
def Q3z:Over:=Xgg Q1e ixF
def Q8j:Over:=Xme Q1d .u8 fun s c=>some (Xdn s c)
def Qfe:Over:=Xgv Q7h cntF
def Qiy:Over:=Xmo Q1r
def Qiz:Over:=Xml Q35 Qc
def Qfv:Over:=orElse (ovPu Q7 Qc 16 16) (ovPu Q7 Qc 8 8)
def Qj0:Over:=Xmc Q34
end
end Go.Ab.Sh
