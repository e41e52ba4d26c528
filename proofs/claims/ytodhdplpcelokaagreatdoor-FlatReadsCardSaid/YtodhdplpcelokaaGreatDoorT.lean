/-
  The table of the functions. No conditions.
-/
import Derived.Test.YtodhdplpcelokaaGreatDoorS0
import Derived.Test.YtodhdplpcelokaaGreatDoorS1
import Derived.Test.YtodhdplpcelokaaGreatDoorS2
import Derived.Test.YtodhdplpcelokaaGreatDoorS3
import Derived.KernelRfl
import Derived.Test.YtodhdplpcelokaaGreatDoorProg
set_option linter.all false
set_option maxRecDepth 100000
namespace Go.Ab.Sh
open Go Go.Ab
/-! TREE -/
abbrev yq{α:Type}(a:α):Tr α:=.node (some a) .nil .nil
noncomputable def fns:Tr (Entry Go.Proofs.Tryz.prog):=
 (.node none (.node none (.node (some Qo2) (.node (some Qsc) (.node (some Qsd) (.node (some Qzg) (.node (some Qra) (yq Qjw) .nil) (.node (some Zu) (yq Qto) .nil)) (.node (some Qse) (yq Qwg) (.node (some Qo3) (yq Zv) .nil))) (.node (some Qv3) (.node (some Qrb) (.node (some Qmj) (yq Zw) .nil) (.node none (yq Qtp) .nil)) (.node (some Qo4) (yq Qtq) (.node (some Qo5) (yq Qnk) .nil)))) (.node (some Qtr) (.node (some Qnl) (.node (some Qts) (.node (some Qpa) (yq Qtt) .nil) .nil) (.node (some Qo6) (.node (some ZM) (yq Qwh) .nil) (yq Qmk))) (.node (some Qpb) (.node none (.node (some Qtu) (yq Qsf) .nil) (.node (some Qwi) (yq Qzh) .nil)) (.node (some Qjx) (.node (some Qov) (yq Qml) .nil) (yq Qrc))))) (.node (some Qsg) (.node (some Qv4) (.node (some Qlg) (.node (some Qtv) (yq Qmm) (yq Qv5)) (.node (some Qmn) (yq Qtw) (yq Qnm))) (.node (some Qlh) (.node (some Qrd) (.node none (yq Zx) .nil) .nil) (.node (some Qmo) (yq ZW) (.node (some Qnn) (yq Qtx) .nil)))) (.node none (.node (some Qre) (.node (some Qwj) (yq Qow) .nil) (.node (some Qli) (yq Qsh) (yq Qno))) (.node (some Qxm) (.node none (.node (some Qv6) (yq Qzi) .nil) (.node (some Qwk) (yq Qzj) .nil)) (.node (some Qlj) (.node (some ZD) (yq Qty) .nil) .nil))))) (.node none (.node (some Zy) (.node (some ZE) (.node (some ZX) (.node (some Qtz) (yq Qpc) (yq Qu0)) (.node (some Qnp) (.node (some Qv7) (yq Qye) .nil) (yq Qmp))) (.node (some Qo7) (.node (some Qrf) (.node (some ZI) (yq ZF) .nil) (.node none (yq Qo8) .nil)) (.node (some Qlk) (yq Qu1) (yq Qsi)))) (.node none (.node (some Qmq) (.node (some Qsj) (yq Qpd) .nil) (.node (some Qmr) (.node (some Qu2) (yq Qox) .nil) (yq Qnq))) (.node (some ZG) (.node none (.node (some Qu3) (yq Qv8) .nil) (.node none (yq Qms) .nil)) (.node (some Qjy) (.node (some Qv9) (yq Qsk) .nil) .nil)))) (.node (some Qu4) (.node (some Qu5) (.node (some Qnr) (.node (some Qrg) (yq Qva) (yq Qu6)) (.node (some Qll) (.node (some Qsl) (yq Qrh) .nil) (.node (some ZY) (yq Qo9) .nil))) (.node (some Qoy) (.node (some Qvb) (.node (some Qri) (yq Qu7) .nil) .nil) (.node (some Qns) (.node (some ZO) (yq Qsm) .nil) (.node (some ZZ) (yq Qu8) .nil)))) (.node none (.node (some Qu9) (yq Qvc) (.node (some Qjz) (yq ZK) (.node (some Qmt) (yq ZQ) .nil))) (.node (some Qvd) (.node (some Qsn) (.node (some Qve) (yq Qvf) .nil) (yq Qua)) (.node (some Qnt) (.node (some ZH) (yq Qub) .nil) (yq Qxn)))))))
end Go.Ab.Sh
