/-
  The call returns true in every world in which the library has its variables. No conditions.
-/
import Derived.Test.YthlpkjlpdmfgiaaGreatDoorG
import Derived.Test.YthlpkjlpdmfgiaaGreatDoorK0
import Derived.Test.YthlpkjlpdmfgiaaGreatDoorKT
set_option maxRecDepth 1000000
namespace Go.Ab.Sh
open Go Go.Ab Go.Proofs
structure Facts (W : World) : Prop where
variable {W : World}
theorem p0 (F : Facts W) : o0.All (OvSound Tryz.prog W) := (.n (.n (.n (.n .e (.n .e (.n .e (.s (okBVar) .e .e)))) (.n (.n .e (.n (.n .e (.n (.s (okLess) .e .e) .e)) .e)) .e)) (.n .e (.n (.n (.n (.n .e (.s (okBMk) .e .e)) .e) (.n (.s (okBOr) .e .e) .e)) (.n (.n (.n (.n .e (.s (okCmp) .e .e)) .e) .e) (.n .e (.s (okBNot) .e .e)))))) (.n (.n (.n (.n .e (.n (.s (okAdd64) .e .e) .e)) .e) (.n (.n (.n (.n .e (.s (okBGive) .e .e)) .e) (.n (.s (okBAnd) .e .e) .e)) .e)) (.n (.n (.n (.s (okNow) .e .e) .e) (.n (.n (.s (okBCheck) .e .e) .e) (.n .e (.s (okBTop) .e .e)))) (.n (.n (.n (.n .e (.s (okBIte) .e .e)) .e) .e) .e))))
theorem q0 (F : Facts W) (n : Nat) : TabSound Tryz.prog W (T0 n) := shT_ok mixedOrders (ovTr_ok (p0 F)) n
theorem s0 (F : Facts W) : OvSound Tryz.prog W M0.ov := memo_ok (q0 F 1000) g0 r0
theorem s2 (F : Facts W) : OvSound Tryz.prog W M2.ov := memo_ok (q0 F 1000) g2 r2
theorem s3 (F : Facts W) : OvSound Tryz.prog W M3.ov := memo_ok (q0 F 1000) g3 r3
theorem s4 (F : Facts W) : OvSound Tryz.prog W M4.ov := memo_ok (q0 F 1000) g4 r4
theorem s5 (F : Facts W) : OvSound Tryz.prog W M5.ov := memo_ok (q0 F 1000) g5 r5
theorem s6 (F : Facts W) : OvSound Tryz.prog W M6.ov := memo_ok (q0 F 1000) g6 r6
theorem s7 (F : Facts W) : OvSound Tryz.prog W M7.ov := memo_ok (q0 F 1000) g7 r7
theorem p1 (F : Facts W) : o1.All (OvSound Tryz.prog W) := (.n (.n (.n (.n .e (.n .e (.n .e (.s (okBVar) .e .e)))) (.n (.n .e (.n (.n .e (.n (.s (okLess) .e .e) .e)) .e)) .e)) (.n .e (.n (.n (.n (.n .e (.s (okBMk) .e .e)) .e) (.n (.s (okBOr) .e .e) .e)) (.n (.n (.n (.n .e (.s (okCmp) .e .e)) .e) .e) (.n .e (.s (okBNot) .e .e)))))) (.n (.n (.n (.n .e (.n (.s (okAdd64) .e .e) .e)) .e) (.n (.n (.n (.n .e (.s (okBGive) .e .e)) .e) (.n (.s (okBAnd) .e .e) .e)) .e)) (.n (.s (memos_s (s0 F) (memos_e)) (.n (.s (okNow) .e .e) .e) (.n (.n (.s (okBCheck) .e .e) .e) (.n .e (.s (okBTop) .e .e)))) (.n (.n (.n (.n .e (.s (okBIte) .e .e)) .e) .e) .e))))
theorem q1 (F : Facts W) (n : Nat) : TabSound Tryz.prog W (T1 n) := shT_ok mixedOrders (ovTr_ok (p1 F)) n
theorem s1 (F : Facts W) : OvSound Tryz.prog W M1.ov := memo_ok (q1 F 1000) g1 r1
theorem p2 (F : Facts W) : o2.All (OvSound Tryz.prog W) := (.n (.n (.n (.n .e (.n .e (.n .e (.s (okBVar) .e .e)))) (.n (.n .e (.n (.n .e (.n (.s (okLess) .e .e) .e)) .e)) .e)) (.n .e (.n (.n (.n (.n .e (.s (okBMk) .e .e)) .e) (.n (.s (okBOr) .e .e) .e)) (.n (.n (.n (.n .e (.s (okCmp) .e .e)) .e) .e) (.n .e (.s (okBNot) .e .e)))))) (.n (.s (memos_s (s1 F) (memos_e)) (.n (.n .e (.n (.s (okAdd64) .e .e) .e)) .e) (.n (.n (.n (.n .e (.s (okBGive) .e .e)) .e) (.n (.s (okBAnd) .e .e) .e)) .e)) (.n (.s (memos_s (s2 F) (memos_s (s3 F) (memos_s (s4 F) (memos_s (s5 F) (memos_s (s6 F) (memos_s (s7 F) (memos_e))))))) (.n (.s (okNow) .e .e) .e) (.n (.n (.s (okBCheck) .e .e) .e) (.n .e (.s (okBTop) .e .e)))) (.n (.n (.n (.n .e (.s (okBIte) .e .e)) .e) .e) .e))))
theorem q2 (F : Facts W) (n : Nat) : TabSound Tryz.prog W (T2 n) := shT_ok mixedOrders (ovTr_ok (p2 F)) n
theorem runs (F : Facts W) : Calls Tryz.prog 3 #[] W fun e w' => e = .returned (.bool true) ∧ RowKit.Below W.heap.size W w' := by
  obtain ⟨m, hm⟩ := top
  exact closed_calls (q2 F 1000) (fn := Tryz.f3) Tryz.func3 rfl rfl rfl hm (fun φ cv h => vrel_bool h)
end Go.Ab.Sh
