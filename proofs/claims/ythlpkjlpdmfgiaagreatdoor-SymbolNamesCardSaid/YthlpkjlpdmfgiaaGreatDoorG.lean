/-
  Contracts of the library as answers of the table. No conditions.
-/
import Derived.Test.YthlpkjlpdmfgiaaGreatDoorD
import Derived.Test.YthlpkjlpdmfgiaaGreatDoorTie
import Derived.Test.YthlpkjlpdmfgiaaGreatDoorCards
import Derived.Stop.LaidErr
import Derived.LaidLaws
import Derived.Lib.Builder
import Derived.Lib.ConvBytes
import Derived.Handed
import Derived.Lay
import Derived.MakeChecks
set_option maxRecDepth 100000
namespace Go.Ab.Sh
open Go Go.Ab Go.Proofs
open Go.RowKit (Below)

theorem mixedOrders : Tryz.prog.follows .mixedOrders = true := by kernel_rfl





section
variable {W : World}









/-- what the two errors' variables hold -/
def ErrVars (w : World) : Prop := (∃ tp p, w.var? Tryz.prog "strconv.ErrSyntax" = some #[.iface tp p]) ∧ ∃ tp p, w.var? Tryz.prog "strconv.ErrRange" = some #[.iface tp p]

theorem errVars_kept (h : ErrVars W) (w : World) (hB : Below W.heap.size W w) : ErrVars w := by
  obtain ⟨⟨a, b, h1⟩, ⟨c, d, h2⟩⟩ := h
  exact ⟨⟨a, b, var_kept hB h1⟩, ⟨c, d, var_kept hB h2⟩⟩








theorem okCmp : OvSound Tryz.prog W Q2c :=
  ovCmp_ok (fun a b w => by
    have h := run_callFunc_extern (P := Tryz.prog) (w := w) (args := #[.string a, .string b]) (Tryz.func397) (by kernel_rfl) (by kernel_rfl) (by kernel_rfl) (e := Extern.BytealgCompare.compare) (by kernel_rfl)
    refine Eq.trans h ?_
    rw [Lib.run_compareString]
    rfl)

theorem okBTop : OvSound Tryz.prog W Qp0 := ovBTop_ok mixedOrders W

theorem okBIte : OvSound Tryz.prog W Qp1 := ovBIte_ok mixedOrders W

theorem okBMk : OvSound Tryz.prog W Qsq := ovBMk_ok mixedOrders W

theorem okBGive : OvSound Tryz.prog W Qm0 := ovBGive_ok mixedOrders W

theorem okBCheck : OvSound Tryz.prog W Qju := ovBCheck_ok mixedOrders W

theorem okBVar : OvSound Tryz.prog W Qp2 := ovBVar_ok mixedOrders W

theorem okLess : OvSound Tryz.prog W Qsr := ovLess_ok mixedOrders W

theorem okNow : OvSound Tryz.prog W Q1c0 := ovNow_ok mixedOrders W

theorem okBAnd : OvSound Tryz.prog W Qp3 := ovBAnd_ok mixedOrders W

theorem okBOr : OvSound Tryz.prog W Qss := ovBOr_ok mixedOrders W

theorem okBNot : OvSound Tryz.prog W Qp4 := ovBNot_ok mixedOrders W

theorem okAdd64 : OvSound Tryz.prog W Qm1 :=
  ovAdd64_ok (Tryz.func80) (by kernel_rfl) (by kernel_rfl) (by kernel_rfl) (by kernel_rfl)

end
end Go.Ab.Sh
