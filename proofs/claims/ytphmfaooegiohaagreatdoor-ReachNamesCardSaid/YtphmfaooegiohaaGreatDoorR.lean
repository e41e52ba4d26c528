/-
  The call returns true in every world in which the library has its variables. No conditions.
-/
import Derived.Test.YtphmfaooegiohaaGreatDoorG
import Derived.Test.YtphmfaooegiohaaGreatDoorK0
import Derived.Test.YtphmfaooegiohaaGreatDoorK1
import Derived.Test.YtphmfaooegiohaaGreatDoorK2
import Derived.Test.YtphmfaooegiohaaGreatDoorKT
set_option maxRecDepth 1000000
namespace Go.Ab.Sh
open Go Go.Ab Go.Proofs
structure Facts (W : World) : Prop where
variable {W : World}
theorem p0 (F : Facts W) : o0.All (Xm Tryz.prog W) := (.n (.n (.n (.n .e (.n (.s (Xkl) .e .e) (.n .e (.s (Xg6) .e .e)))) (.n (.n .e (.s (Xjn) .e .e)) (.n .e (.n .e (.n (.s (Xla) .e .e) .e))))) (.n (.n (.n .e (.n (.s (Xfm) .e .e) .e)) .e) (.n .e (.n (.n (.s (Xbh) .e .e) .e) .e)))) (.n (.n (.n (.n .e (.n .e (.n .e (.n (.s (Xkb) .e .e) .e)))) (.n .e (.s (X8m) .e .e))) (.n (.n (.n .e (.n (.n (.s (Xgk) .e .e) .e) .e)) (.s (Xg5) .e (.s (Xhm) .e .e))) .e)) (.n (.n (.n (.n (.n .e (.s (Xfs) .e .e)) .e) .e) .e) (.n (.n .e (.n .e (.s (Xbz) .e .e))) .e))))
theorem q0 (F : Facts W) (n : Nat) : Xv Tryz.prog W (T0 n) := Xai mixedOrders (Xcb (p0 F)) n
theorem s0 (F : Facts W) : Xm Tryz.prog W M0.ov := X6i (q0 F 1000) C0 n0 g0
theorem s1 (F : Facts W) : Xm Tryz.prog W M1.ov := X6i (q0 F 1000) C1 n1 g1
theorem s2 (F : Facts W) : Xm Tryz.prog W M2.ov := X6i (q0 F 1000) C2 n2 g2
theorem s3 (F : Facts W) : Xm Tryz.prog W M3.ov := X6i (q0 F 1000) C3 n3 g3
theorem p1 (F : Facts W) : o1.All (Xm Tryz.prog W) := (.n (.n (.n (.n .e (.n (.s (Xkl) .e .e) (.n .e (.s (Xg6) .e .e)))) (.s (X50 (s2 F) (X50 (s3 F) (X8f))) (.n .e (.s (Xjn) .e .e)) (.n .e (.n .e (.n (.s (Xla) .e .e) .e))))) (.n (.n (.n .e (.n (.s (Xfm) .e .e) .e)) .e) (.n .e (.n (.n (.s (Xbh) .e .e) .e) .e)))) (.n (.n (.n (.n .e (.n .e (.n .e (.n (.s (Xkb) .e .e) .e)))) (.n .e (.s (X8m) .e .e))) (.n (.n (.n .e (.n (.n (.s (Xgk) .e .e) .e) .e)) (.s (Xg5) .e (.s (Xhm) .e .e))) .e)) (.n (.n (.n (.n (.n .e (.s (Xfs) .e .e)) .e) .e) .e) (.n (.n .e (.n .e (.s (Xbz) .e .e))) .e))))
theorem q1 (F : Facts W) (n : Nat) : Xv Tryz.prog W (T1 n) := Xai mixedOrders (Xcb (p1 F)) n
theorem s4 (F : Facts W) : Xm Tryz.prog W M4.ov := X6i (q1 F 1000) C4 n4 g4
theorem p2 (F : Facts W) : o2.All (Xm Tryz.prog W) := (.n (.n (.n (.n .e (.n (.s (Xkl) .e .e) (.n .e (.s (Xg6) .e .e)))) (.n (.n .e (.s (Xjn) .e .e)) (.n .e (.n .e (.n (.s (Xla) .e .e) .e))))) (.n (.n (.n .e (.n (.s (Xfm) .e .e) .e)) .e) (.n .e (.n (.s (X50 (s1 F) (X8f)) (.s (Xbh) .e .e) .e) .e)))) (.n (.s (X50 (s0 F) (X50 (s4 F) (X8f))) (.n (.n .e (.n .e (.n .e (.n (.s (Xkb) .e .e) .e)))) (.n .e (.s (X8m) .e .e))) (.n (.n (.n .e (.n (.n (.s (Xgk) .e .e) .e) .e)) (.s (Xg5) .e (.s (Xhm) .e .e))) .e)) (.n (.n (.n (.n (.n .e (.s (Xfs) .e .e)) .e) .e) .e) (.n (.n .e (.n .e (.s (Xbz) .e .e))) .e))))
theorem q2 (F : Facts W) (n : Nat) : Xv Tryz.prog W (T2 n) := Xai mixedOrders (Xcb (p2 F)) n
theorem runs (F : Facts W) : Calls Tryz.prog 3 #[] W fun e w' => e = .returned (.bool true) ∧ RowKit.Below W.heap.size W w' := by
  obtain ⟨m, hm⟩ := top
  exact Xas (q2 F 1000) (fn := Tryz.f3) Tryz.func3 rfl rfl rfl hm (fun φ cv h => Xgd h)
end Go.Ab.Sh
