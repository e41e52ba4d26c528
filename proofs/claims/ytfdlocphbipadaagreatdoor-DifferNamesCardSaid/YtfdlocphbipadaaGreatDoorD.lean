/-
  What calls were found to answer. No conditions.
-/
import Derived.Test.YtfdlocphbipadaaGreatDoorT
import Derived.Test.YtfdlocphbipadaaGreatDoorAb5
import Derived.Test.YtfdlocphbipadaaGreatDoorB4
import Derived.Lib.Index
import Derived.Lib.Bytealg
import Derived.KernelRfl
set_option linter.unusedVariables false
set_option maxRecDepth 1000000
namespace Go.Ab.Sh
open Go Go.Ab
noncomputable section
def Q16:Over:=Xkx Qav Lib.compareBytes
def Q95:Over:=Xbf Q1ne
def Qc5:Over:=Xhi
def Qdv:Over:=Xl1
def Q96:Over:=Xc6
def Qc8:Over:=Xi0
def Q7m:Over:=X9h
def Qc9:Over:=Xh2
def Qdx:Over:=Xfc
def Qz5:Over:=Xlk
def Qc7:Over:=Xfa
def Qdw:Over:=Xkf
def Qc6:Over:=Xg1
end
end Go.Ab.Sh
