/-
  Contracts of the library as answers of the table. No conditions.
-/
import Derived.Test.YtfdlocphbipadaaGreatDoorD
import Derived.Test.YtfdlocphbipadaaGreatDoorTie
import Derived.Test.YtfdlocphbipadaaGreatDoorCards
import Derived.Stop.LaidErr
import Derived.LaidLaws
import Derived.Lib.Builder
import Derived.Lib.ConvBytes
import Derived.Handed
import Derived.Lay
import Derived.MakeChecks
set_option maxRecDepth 100000
namespace Go.Ab.Sh
open Go Go.Ab Go.Proofs
open Go.RowKit (Below)

theorem mixedOrders:Tryz.prog.follows .mixedOrders=true:=by kernel_rfl





section
variable {W:World}









/-- what the two errors' variables hold -/
def Xfw (w:World):Prop:=(∃ tp p,w.var? Tryz.prog "strconv.ErrSyntax"=some #[.iface tp p])∧∃ tp p,w.var? Tryz.prog "strconv.ErrRange"=some #[.iface tp p]

theorem Xjg (h:Xfw W) (w:World) (hB:Below W.heap.size W w):Xfw w:=by
  obtain ⟨⟨a,b,h1⟩,⟨c,d,h2⟩⟩:=h
  exact ⟨⟨a,b,Xdx hB h1⟩,⟨c,d,Xdx hB h2⟩⟩








theorem Xeh:Xf Tryz.prog W Q16:=
  Xij (fun a b w=>by
    have h:=run_callFunc_extern (P:=Tryz.prog) (w:=w) (args:=#[.string a,.string b]) (Tryz.func395) (by kernel_rfl) (by kernel_rfl) (by kernel_rfl) (e:=Extern.BytealgCompare.compare) (by kernel_rfl)
    refine Eq.trans h ?_
    rw [Lib.run_compareString]
    rfl)

theorem X87:Xf Tryz.prog W Qc8:=Xfl mixedOrders W

theorem X7t:Xf Tryz.prog W Qc5:=Xhz mixedOrders W

theorem Xee:Xf Tryz.prog W Qdv:=Xiw mixedOrders W

theorem X5a:Xf Tryz.prog W Q96:=Xeo mixedOrders W

theorem X45:Xf Tryz.prog W Q7m:=Xc4 mixedOrders W

theorem X8h:Xf Tryz.prog W Qc9:=Xfr mixedOrders W

theorem X83:Xf Tryz.prog W Qdx:=Xfh mixedOrders W

theorem Xe4:Xf Tryz.prog W Qz5:=Xj9 mixedOrders W

theorem X88:Xf Tryz.prog W Qc7:=Xh5 mixedOrders W

theorem Xe3:Xf Tryz.prog W Qdw:=Xib mixedOrders W

theorem X8k:Xf Tryz.prog W Qc6:=Xf7 mixedOrders W

theorem X5j:Xf Tryz.prog W Q95:=
  Xeg (Tryz.func108) (by kernel_rfl) (by kernel_rfl) (by kernel_rfl) (by kernel_rfl)

end
end Go.Ab.Sh
