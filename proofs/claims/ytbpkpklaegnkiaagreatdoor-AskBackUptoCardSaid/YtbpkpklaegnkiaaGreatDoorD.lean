/-
  What calls were found to answer. No conditions.
-/
import Derived.Test.YtbpkpklaegnkiaaGreatDoorT
import Derived.Test.YtbpkpklaegnkiaaGreatDoorAb5
import Derived.Test.YtbpkpklaegnkiaaGreatDoorB4
import Derived.Lib.Index
import Derived.Lib.Bytealg
import Derived.KernelRfl
set_option linter.unusedSimpArgs false
set_option linter.unusedVariables false
set_option maxRecDepth 1000000
namespace Go.Ab.Sh
open Go Go.Ab
noncomputable section
def Q1i:Over:=Xh5 Qw ixF
def Q2o:Over:=Xit Qx .u8 fun s c=>some (Xa5 s c)
def Qaa:Over:=Xit Q1l .i32 fun s c=>if (ile 0 c && ilt c 128)=true then some (Xa5 s c) else none
def Qay:Over:=Xgm Q7h cntF
def Q5y:Over:=Xtv Qvt
def Qid:Over:=Xnp Qb
def Qie:Over:=Xn6 Q2r Q5
def Qab:Over:=orElse (ovPu Q2 Q5 16 16) (ovPu Q2 Q5 8 8)
def Qif:Over:=Xna Q2s
def Qei:Over:=Xbx Q4k
def Q17:Over:=Xzv Qcl Lib.compareBytes
def Qcq:Over:=Xkz Qsw
def Qej:Over:=Xs4
def Qh9:Over:=Xyv
def Qcr:Over:=Xlj
def Qek:Over:=Xv4
def Qaz:Over:=Xh6
def Qel:Over:=Xuw
def Qha:Over:=Xrl
def Qw4:Over:=Xz7
def Qem:Over:=Xs2
def Qhb:Over:=X10c
def Qen:Over:=Xv2
end
end Go.Ab.Sh
