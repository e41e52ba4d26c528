/-
  What calls were found to answer. No conditions.
-/
import Derived.Test.YtphmfaooegiohaaGreatDoorT
import Derived.Test.YtphmfaooegiohaaGreatDoorAb5
import Derived.Test.YtphmfaooegiohaaGreatDoorB4
import Derived.Lib.Index
import Derived.Lib.Bytealg
import Derived.KernelRfl
set_option linter.unusedVariables false
set_option maxRecDepth 1000000
namespace Go.Ab.Sh
open Go Go.Ab
noncomputable section
def Q30 : Over := Xki Qaf Lib.compareBytes
def Qpb : Over := Xbw Q1kl
def Qsc : Over := Xgm
def Qwl : Over := Xll
def Qpc : Over := Xc7
def Qsd : Over := Xg9
def Qn8 : Over := X8y
def Qse : Over := Xhs
def Qwm : Over := Xht
def Q1nq : Over := Xkq
def Qsf : Over := Xfy
def Qwn : Over := Xk5
def Qsg : Over := Xhb
end
end Go.Ab.Sh
