/-
  The call returns true in every world in which the library has its variables. No conditions.
-/
import Derived.Test.YtdmfclgfkgmbdaaGreatDoorG
import Derived.Test.YtdmfclgfkgmbdaaGreatDoorA4
import Derived.Test.YtdmfclgfkgmbdaaGreatDoorKT
set_option linter.unusedSimpArgs false
set_option linter.unusedVariables false
set_option maxRecDepth 1000000
namespace Go.Ab.Sh
open Go Go.Ab Go.Proofs
structure Facts (W:World):Prop where
 mx:∃ n,W.cell? ⟨0,0,none⟩=some (.int .i64 n)
 tab:Lib.TabIs Tryz.prog W "internal/strconv.uint64pow10" .u64 Lib.pow10Tab
 err:X8k W
variable {W:World}
theorem Xn7 (F:Facts W):X14 Tryz.prog W Q3z:=by obtain ⟨n,h⟩:=F.mx; exact Xvq h
theorem p0 (F:Facts W):o0.All (X14 Tryz.prog W):=(.n (.n (.n (.n .e (.n (.s (Xus) .e .e) (.n .e (.s (okPu F.err) .e .e)))) .e) (.n (.n (.n .e (.n (.s (Xn7 F) .e .e) .e)) .e) .e)) (.n (.n (.n (.n (.n .e (.s (Xue F.err) .e .e)) .e) .e) (.n .e (.n (.n (.s (Xrd) .e .e) (.s (Xda) .e .e)) .e))) (.n .e (.n .e (.n .e (.n (.s (Xuu F.tab) .e .e) .e))))))
theorem q0 (F:Facts W) (n:Nat):X1d Tryz.prog W (T0 n):=Xqe mixedOrders (Xpu (p0 F)) n
theorem okW (F:Facts W):X14 Tryz.prog W Qlq:=Xw5 (q0 F 1000) gmw rwk
theorem pA (F:Facts W):oL.All (X14 Tryz.prog W):=(.n (.n (.n (.n .e (.n (.s (Xus) .e .e) (.n .e (.s (okPu F.err) .e .e)))) (.s (Xxc) .e .e)) (.n (.n (.n .e (.n (.s (Xn7 F) .e .e) .e)) .e) .e)) (.n (.s (okW F) (.n (.n (.n .e (.s (Xue F.err) .e .e)) .e) .e) (.n .e (.n (.n (.s (Xrd) .e .e) (.s (Xda) .e .e)) .e))) (.n .e (.n .e (.n .e (.n (.s (Xuu F.tab) .e .e) .e))))))
theorem qA (F:Facts W) (n:Nat):X1d Tryz.prog W (TA n):=Xqe mixedOrders (Xpu (pA F)) n
theorem asks (F:Facts W) (s t:Str) (hs:s.length ≤ 4194304) (ht:t.length ≤ 4194304) :
  Calls Tryz.prog 3 #[sv s,sv t] W fun e w'=>e=.returned (.bool true)∧RowKit.Below W.heap.size W w':=
 Xk8 (qA F) Tryz.func3 rfl rfl s t hs ht
end Go.Ab.Sh
