/-
  The call returns true in every world in which the library has its variables. No conditions.
-/
import Derived.Test.YteognfejlpbmoaaGreatDoorG
import Derived.Test.YteognfejlpbmoaaGreatDoorA6
import Derived.Test.YteognfejlpbmoaaGreatDoorKT
set_option linter.unusedSimpArgs false
set_option linter.unusedVariables false
set_option maxRecDepth 1000000
namespace Go.Ab.Sh
open Go Go.Ab Go.Proofs
structure Facts (W:World):Prop where
 mx:∃ n,W.cell? ⟨0,0,none⟩=some (.int .i64 n)
 tab:Lib.TabIs Tryz.prog W "internal/strconv.uint64pow10" .u64 Lib.pow10Tab
 err:X88 W
variable {W:World}
theorem Xm5 (F:Facts W):X15 Tryz.prog W Q4z:=by obtain ⟨n,h⟩:=F.mx; exact Xvi h
theorem p0 (F:Facts W):o0.All (X15 Tryz.prog W):=(.n (.n (.n (.n .e (.n .e (.n (.s (Xoi) .e .e) (.s (Xd8) .e .e)))) (.n .e (.n (.n .e (.s (Xul F.err) .e .e)) .e))) (.n (.n (.n .e (.s (Xu6) .e .e)) (.n (.n .e (.s (Xuh F.tab) .e .e)) .e)) (.n .e (.n .e (.n (.s (Xin) .e .e) .e))))) (.n (.n .e (.n .e (.n .e (.n (.s (Xm5 F) .e .e) .e)))) (.n (.n (.n (.n (.n (.s (okPu F.err) .e .e) .e) .e) .e) .e) .e)))
theorem q0 (F:Facts W) (n:Nat):X1f Tryz.prog W (T0 n):=Xqr mixedOrders (Xpt (p0 F)) n
theorem okW (F:Facts W):X15 Tryz.prog W Qpz:=Xvk (q0 F 1000) gmw rwk
theorem pA (F:Facts W):oL.All (X15 Tryz.prog W):=(.n (.n (.n (.n .e (.n .e (.n (.s (Xoi) .e .e) (.s (Xd8) .e .e)))) (.n .e (.n (.n .e (.s (Xul F.err) .e .e)) .e))) (.n (.n (.n .e (.s (Xu6) .e .e)) (.n (.n .e (.s (Xuh F.tab) .e .e)) .e)) .e)) (.n (.s (okW F) .e (.s (Xy7) .e (.n .e (.n (.s (Xm5 F) .e .e) .e)))) (.n (.n (.n (.n (.n (.s (okPu F.err) .e .e) .e) .e) .e) .e) .e)))
theorem qA (F:Facts W) (n:Nat):X1f Tryz.prog W (TA n):=Xqr mixedOrders (Xpt (pA F)) n
theorem asks (F:Facts W) (s:Str) (z:Int) (hs:s.length <= 4194304) :
  Calls Tryz.prog 3 #[sv s,.int .i64 z] W fun e w'=>e=.returned (.bool true)/\RowKit.Below W.heap.size W w':=
 Xh6 (qA F) Tryz.func3 rfl rfl s z hs
end Go.Ab.Sh
