/-
  Contracts of the library as answers of the table. No conditions.
-/
import Derived.Test.YtphmfaooegiohaaGreatDoorD
import Derived.Test.YtphmfaooegiohaaGreatDoorTie
import Derived.Test.YtphmfaooegiohaaGreatDoorCards
import Derived.Stop.LaidErr
import Derived.LaidLaws
import Derived.Lib.Builder
import Derived.Lib.ConvBytes
import Derived.Handed
import Derived.Lay
import Derived.MakeChecks
set_option maxRecDepth 100000
namespace Go.Ab.Sh
open Go Go.Ab Go.Proofs
open Go.RowKit (Below)

theorem mixedOrders : Tryz.prog.follows .mixedOrders = true := by kernel_rfl





section
variable {W : World}









/-- what the two errors' variables hold -/
def Xfc (w : World) : Prop := (∃ tp p, w.var? Tryz.prog "strconv.ErrSyntax" = some #[.iface tp p]) ∧ ∃ tp p, w.var? Tryz.prog "strconv.ErrRange" = some #[.iface tp p]

theorem Xjl (h : Xfc W) (w : World) (hB : Below W.heap.size W w) : Xfc w := by
  obtain ⟨⟨a, b, h1⟩, ⟨c, d, h2⟩⟩ := h
  exact ⟨⟨a, b, Xcv hB h1⟩, ⟨c, d, Xcv hB h2⟩⟩








theorem Xkb : Xm Tryz.prog W Q30 :=
  Xie (fun a b w => by
    have h := run_callFunc_extern (P := Tryz.prog) (w := w) (args := #[.string a, .string b]) (Tryz.func368) (by kernel_rfl) (by kernel_rfl) (by kernel_rfl) (e := Extern.BytealgCompare.compare) (by kernel_rfl)
    refine Eq.trans h ?_
    rw [Lib.run_compareString]
    rfl)

theorem Xfm : Xm Tryz.prog W Qsd := Xf2 mixedOrders W

theorem Xg6 : Xm Tryz.prog W Qsc := Xfi mixedOrders W

theorem Xla : Xm Tryz.prog W Qwl := Xih mixedOrders W

theorem Xbz : Xm Tryz.prog W Qpc := Xdx mixedOrders W

theorem X8m : Xm Tryz.prog W Qn8 := Xbl mixedOrders W

theorem Xgk : Xm Tryz.prog W Qse := Xfw mixedOrders W

theorem Xfs : Xm Tryz.prog W Qwm := Xhp mixedOrders W

theorem Xkl : Xm Tryz.prog W Q1nq := Xia mixedOrders W

theorem Xhm : Xm Tryz.prog W Qsf := Xhw mixedOrders W

theorem Xjn : Xm Tryz.prog W Qwn := Xiu mixedOrders W

theorem Xg5 : Xm Tryz.prog W Qsg := Xfb mixedOrders W

theorem Xbh : Xm Tryz.prog W Qpb :=
  Xea (Tryz.func77) (by kernel_rfl) (by kernel_rfl) (by kernel_rfl) (by kernel_rfl)

end
end Go.Ab.Sh
