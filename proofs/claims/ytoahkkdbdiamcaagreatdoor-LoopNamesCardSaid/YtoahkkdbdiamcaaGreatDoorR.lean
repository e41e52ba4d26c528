/-
  The call returns true in every world in which the library has its variables. No conditions.
-/
import Derived.Test.YtoahkkdbdiamcaaGreatDoorG
import Derived.Test.YtoahkkdbdiamcaaGreatDoorK0
import Derived.Test.YtoahkkdbdiamcaaGreatDoorKT
set_option maxRecDepth 1000000
namespace Go.Ab.Sh
open Go Go.Ab Go.Proofs
structure Facts (W : World) : Prop where
variable {W : World}
theorem p0 (F : Facts W) : o0.All (OvSound Tryz.prog W) := (.n (.n (.n .e (.n .e (.n (.n (.s (okBCheck) .e .e) (.n (.n (.s (okBIte) .e .e) .e) .e)) .e))) (.n (.n (.n .e (.n (.s (okAdd64) (.n .e (.s (okCmp) .e .e)) .e) .e)) .e) .e)) (.n (.n .e (.n (.n (.n (.n .e (.n (.s (okBMk) .e .e) .e)) .e) .e) (.n (.n .e (.n (.s (okBTop) .e .e) .e)) .e))) (.n (.n .e (.n (.n (.n .e (.s (okBVar) .e .e)) (.n (.n (.s (okBGive) .e .e) .e) .e)) .e)) .e)))
theorem q0 (F : Facts W) (n : Nat) : TabSound Tryz.prog W (T0 n) := shT_ok mixedOrders (ovTr_ok (p0 F)) n
theorem s0 (F : Facts W) : OvSound Tryz.prog W M0.ov := memo_ok (q0 F 1000) g0 r0
theorem p1 (F : Facts W) : o1.All (OvSound Tryz.prog W) := (.n (.n (.n .e (.n .e (.n (.n (.s (okBCheck) .e .e) (.n (.n (.s (okBIte) .e .e) .e) .e)) .e))) (.n (.n (.n .e (.n (.s (okAdd64) (.n .e (.s (okCmp) .e .e)) .e) .e)) .e) .e)) (.n (.s (memos_s (s0 F) (memos_e)) .e (.n (.n (.n (.n .e (.n (.s (okBMk) .e .e) .e)) .e) .e) (.n (.n .e (.n (.s (okBTop) .e .e) .e)) .e))) (.n (.n .e (.n (.n (.n .e (.s (okBVar) .e .e)) (.n (.n (.s (okBGive) .e .e) .e) .e)) .e)) .e)))
theorem q1 (F : Facts W) (n : Nat) : TabSound Tryz.prog W (T1 n) := shT_ok mixedOrders (ovTr_ok (p1 F)) n
theorem runs (F : Facts W) : Calls Tryz.prog 3 #[] W fun e w' => e = .returned (.bool true) ∧ RowKit.Below W.heap.size W w' := by
  obtain ⟨m, hm⟩ := top
  exact closed_calls (q1 F 1000) (fn := Tryz.f3) Tryz.func3 rfl rfl rfl hm (fun φ cv h => vrel_bool h)
end Go.Ab.Sh
