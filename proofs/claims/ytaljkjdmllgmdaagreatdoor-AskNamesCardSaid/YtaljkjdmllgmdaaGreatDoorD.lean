/-
  What calls were found to answer. No conditions.
-/
import Derived.Test.YtaljkjdmllgmdaaGreatDoorT
import Derived.Test.YtaljkjdmllgmdaaGreatDoorAb5
import Derived.Test.YtaljkjdmllgmdaaGreatDoorB4
import Derived.Lib.Index
import Derived.Lib.Bytealg
import Derived.KernelRfl
set_option linter.unusedSimpArgs false
set_option linter.unusedVariables false
set_option maxRecDepth 1000000
namespace Go.Ab.Sh
open Go Go.Ab
noncomputable section
def Q4:Over:=Xdc Qaa ixF
def Q1b:Over:=Xd1 Q1dy cntF
def Qj:Over:=Xj2 Q1dc
def Q1s:Over:=Xgg Q3l
def Q1t:Over:=Xhp Q1gm Qa7
def Qw:Over:=orElse (ovPu Qfz Qa7 16 16) (ovPu Qfz Qa7 8 8)
def Q1u:Over:=Xhf Qsl
def Q16:Over:=Xa9 Qwy
def Q2:Over:=Xlq Q7d Lib.compareBytes
def Q12:Over:=Xd5 Q194
def Q18:Over:=Xgy
def Q1h:Over:=Xly
def Q13:Over:=Xcv
def Q19:Over:=Xh2
def Q10:Over:=Xal
def Q15:Over:=Xgo
def Q1j:Over:=Xgt
def Q4o:Over:=Xm3
def Q17:Over:=Xja
def Q1i:Over:=Xnj
def Q1a:Over:=Xhj
end
end Go.Ab.Sh
