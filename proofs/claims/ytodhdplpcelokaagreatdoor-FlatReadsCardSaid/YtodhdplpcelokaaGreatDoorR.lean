/-
  The call returns true in every world in which the library has its variables. No conditions.
-/
import Derived.Test.YtodhdplpcelokaaGreatDoorG
import Derived.Test.YtodhdplpcelokaaGreatDoorA8
set_option linter.all false
set_option maxRecDepth 1000000
namespace Go.Ab.Sh
open Go Go.Ab Go.Proofs
structure tS (W:World):Prop where
 mx:∃n,W.cell? ⟨0,0,none⟩=some (.int .i64 n)
 dN:Lib.TabIs Tryz.prog W "internal/strconv.uint64pow10" .u64 Lib.pow10Tab
 err:yj W
variable {W:World}
theorem Xx9(F:tS W):ia Tryz.prog W El:=by obtain⟨n,h⟩:=F.mx;exact XhI h
theorem zzE{a:Type}{p:a->Prop}:(Tr.nil:Tr a).zH p:=trivial
theorem zzN{a:Type}{p:a->Prop}{l r:Tr a}(h:l.zH p)(k:r.zH p):(Tr.node none l r).zH p:=⟨trivial,h,k⟩
theorem zzS{a:Type}{p:a->Prop}{x:a}{l r:Tr a}(g:p x)(h:l.zH p)(k:r.zH p):(Tr.node (some x) l r).zH p:=⟨g,h,k⟩
theorem pA(F:tS W):oL.zH (ia Tryz.prog W):=(zzN (zzN (zzN (zzN (zzN zzE (zzN (zzN (zzS (XkC F.dN) zzE zzE) zzE) zzE)) zzE) (zzN (zzN (zzN zzE (zzN (zzS (Xmw) zzE zzE) zzE)) zzE) zzE)) (zzN (zzN (zzN zzE (zzN (zzN (zzS (XkS F.err) zzE zzE) zzE) zzE)) (zzN (zzN (zzS (XjQ) zzE zzE) zzE) zzE)) (zzN zzE (zzN zzE (zzN zzE (zzS (XiF) zzE zzE)))))) (zzN (zzN zzE (zzS (XlA) zzE zzE)) (zzN (zzN (zzN (zzN (zzN (zzS (Xx9 F) zzE zzE) zzE) zzE) zzE) zzE) (zzN zzE (zzN (zzN zzE (zzN (zzS (XrP F.err) zzE zzE) zzE)) zzE)))))
theorem qA(F:tS W)(n:Nat):mg Tryz.prog W (TA n):=Xzx mixedOrders (XfG (pA F)) n
theorem asks(F:tS W)(s:ai) :
  Calls Tryz.prog 3 #[sv s] W λe Z=>e=.returned (.bool true)/\RowKit.Below W.heap.size W Z:=
 Xm6 (qA F) Tryz.func3 rfl rfl s
end Go.Ab.Sh
