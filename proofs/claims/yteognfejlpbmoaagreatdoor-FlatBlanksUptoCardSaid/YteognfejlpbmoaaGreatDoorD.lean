/-
  What calls were found to answer. No conditions.
-/
import Derived.Test.YteognfejlpbmoaaGreatDoorT
import Derived.Test.YteognfejlpbmoaaGreatDoorAb5
import Derived.Lib.Index
import Derived.Lib.Bytealg
import Derived.KernelRfl
set_option linter.unusedSimpArgs false
set_option linter.unusedVariables false
set_option maxRecDepth 1000000
namespace Go.Ab.Sh
open Go Go.Ab
noncomputable section
def Q4z:Over:=Xfx Q1o ixF
def Qb7:Over:=Xi3 Q1p .u8 fun s c=>some (Xam s c)
def Qj1:Over:=Xi3 Q28 .i32 fun s c=>if (ile 0 c && ilt c 128)=true then some (Xam s c) else none
def Qid:Over:=Xfb Q9o cntF
def Qmq:Over:=Xll Q21
def Qmr:Over:=Xkk Q3u Qf
def Qj0:Over:=orElse (ovPu Q9 Qf 16 16) (ovPu Q9 Qf 8 8)
def Qms:Over:=Xlf Q3t
end
end Go.Ab.Sh
