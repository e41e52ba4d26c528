/-
  The call returns true in every world in which the library has its variables. No conditions.
-/
import Derived.Test.YtjnfcoeninejbaaGreatDoorG
set_option maxRecDepth 1000000
namespace Go.Ab.Sh
open Go Go.Ab Go.Proofs
structure Facts (W:World):Prop where
  mx:∃ n:Int,W.cell? ⟨4,0,none⟩=some (.int .i64 n)
  tab:Lib.TabIs Tryz.prog W "internal/strconv.uint64pow10" .u64 Lib.pow10Tab
  spc:Lib.TabIs Tryz.prog W "strings.asciiSpace" .u8 Lib.asciiSpaceTab
  err:X7q W
variable {W:World}
theorem okIx (F:Facts W):X1g Tryz.prog W Qh7:=by
  obtain ⟨n,hn⟩:=F.mx
  exact Xrv hn
theorem pA (F:Facts W):oL.All (X1g Tryz.prog W):=(.n (.n (.n (.n .e (.n (.s (Xuf F.tab) .e .e) (.s (Xtc F.err) .e .e))) .e) (.n (.n .e (.n (.n (.s (Xrb) .e .e) .e) .e)) (.n (.n (.s (Xps F.spc) .e .e) .e) (.n .e (.n (.s (okIx F) .e .e) .e))))) (.n (.n (.n .e (.s (Xuh) .e (.s (okPu F.err) .e .e))) .e) (.n .e (.n .e (.n .e (.n (.s (Xi4) .e .e) .e))))))
theorem qA (F:Facts W) (n:Nat):X1q Tryz.prog W (TA n):=Xql mixedOrders (Xrt (pA F)) n
theorem asks (F:Facts W) (s:Str) (q:QN) (hi lo:Nat) (h1:hi < 18446744073709551616) (h2:lo < 18446744073709551616) (hs:s.length ≤ 4194304) (hq:QOk q) (hl:q.dev.length + q.ifc.length + q.vrf.length ≤ 4000000) :
    Calls Tryz.prog 3 #[sv s,qV q,cnt hi lo] W fun e w'=>e=.returned (.bool true)∧RowKit.Below W.heap.size W w':=
  Xnl (qA F) Tryz.func3 rfl rfl s q hi lo h1 h2 hs hq hl
end Go.Ab.Sh
