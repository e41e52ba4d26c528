/-
  The call returns true in every world in which the library has its variables. No conditions.
-/
import Derived.Test.YtfdlocphbipadaaGreatDoorG
import Derived.Test.YtfdlocphbipadaaGreatDoorK0
import Derived.Test.YtfdlocphbipadaaGreatDoorK1
import Derived.Test.YtfdlocphbipadaaGreatDoorK2
import Derived.Test.YtfdlocphbipadaaGreatDoorK3
import Derived.Test.YtfdlocphbipadaaGreatDoorK4
import Derived.Test.YtfdlocphbipadaaGreatDoorK5
import Derived.Test.YtfdlocphbipadaaGreatDoorK6
import Derived.Test.YtfdlocphbipadaaGreatDoorK7
import Derived.Test.YtfdlocphbipadaaGreatDoorK8
import Derived.Test.YtfdlocphbipadaaGreatDoorK9
import Derived.Test.YtfdlocphbipadaaGreatDoorKT
set_option maxRecDepth 1000000
namespace Go.Ab.Sh
open Go Go.Ab Go.Proofs
structure Facts (W:World):Prop where
variable {W:World}
theorem p0 (F:Facts W):o0.All (Xf Tryz.prog W):=(.n (.n (.n (.n (.n (.n (.s (X7t) .e .e) .e) (.n .e (.s (Xee) .e .e))) .e) (.n (.n (.n (.n .e (.s (X8k) .e .e)) .e) .e) (.n (.n (.n (.n .e (.s (Xeh) .e .e)) (.s (X88) .e .e)) .e) .e))) (.n (.n (.n (.s (X87) .e .e) .e) .e) (.n (.n (.s (Xe4) .e .e) .e) (.n .e (.s (X45) .e .e))))) (.n (.n .e (.n .e (.n (.n .e (.s (X5j) .e .e)) .e))) (.n (.n (.n (.s (Xe3) .e .e) .e) .e) (.n (.n .e (.n .e (.n (.n (.s (X83) .e .e) .e) .e))) (.n .e (.s (X5a) .e (.n (.s (X8h) .e .e) .e)))))))
theorem q0 (F:Facts W) (n:Nat):Xv Tryz.prog W (T0 n):=X61 mixedOrders (X5o (p0 F)) n
theorem s0 (F:Facts W):Xf Tryz.prog W M0.ov:=Xx (q0 F 1000) C0 n0 g0
theorem s1 (F:Facts W):Xf Tryz.prog W M1.ov:=Xx (q0 F 1000) C1 n1 g1
theorem s2 (F:Facts W):Xf Tryz.prog W M2.ov:=Xx (q0 F 1000) C2 n2 g2
theorem s3 (F:Facts W):Xf Tryz.prog W M3.ov:=Xx (q0 F 1000) C3 n3 g3
theorem s4 (F:Facts W):Xf Tryz.prog W M4.ov:=Xx (q0 F 1000) C4 n4 g4
theorem s5 (F:Facts W):Xf Tryz.prog W M5.ov:=Xx (q0 F 1000) C5 n5 g5
theorem s6 (F:Facts W):Xf Tryz.prog W M6.ov:=Xx (q0 F 1000) C6 n6 g6
theorem p1 (F:Facts W):o1.All (Xf Tryz.prog W):=(.n (.n (.n (.n (.n (.n (.s (X7t) .e .e) .e) (.n .e (.s (Xee) .e .e))) .e) (.n (.n (.n (.n .e (.s (X8k) .e .e)) .e) .e) (.n (.n (.n (.n .e (.s (Xeh) .e .e)) (.s (X88) .e .e)) .e) .e))) (.n (.n (.n (.s (X87) .e .e) .e) .e) (.n (.n (.s (Xe4) .e .e) .e) (.n .e (.s (X45) .e .e))))) (.n (.n (.n .e (.n (.s (Xu (s6 F) (X1z)) .e .e) .e)) (.n .e (.n (.n .e (.s (X5j) .e .e)) .e))) (.n (.n (.n (.s (Xe3) .e .e) .e) .e) (.n (.n .e (.n .e (.n (.n (.s (X83) .e .e) .e) .e))) (.n .e (.s (X5a) .e (.n (.s (X8h) .e .e) .e)))))))
theorem q1 (F:Facts W) (n:Nat):Xv Tryz.prog W (T1 n):=X61 mixedOrders (X5o (p1 F)) n
theorem s7 (F:Facts W):Xf Tryz.prog W M7.ov:=Xx (q1 F 1000) C7 n7 g7
theorem s8 (F:Facts W):Xf Tryz.prog W M8.ov:=Xx (q0 F 1000) C8 n8 g8
theorem s9 (F:Facts W):Xf Tryz.prog W M9.ov:=Xx (q0 F 1000) C9 n9 g9
theorem s10 (F:Facts W):Xf Tryz.prog W M10.ov:=Xx (q0 F 1000) C10 n10 g10
theorem s11 (F:Facts W):Xf Tryz.prog W M11.ov:=Xx (q0 F 1000) C11 n11 g11
theorem s12 (F:Facts W):Xf Tryz.prog W M12.ov:=Xx (q0 F 1000) C12 n12 g12
theorem p2 (F:Facts W):o2.All (Xf Tryz.prog W):=(.n (.n (.n (.n (.n (.n (.s (X7t) .e .e) .e) (.n .e (.s (Xee) .e .e))) (.n (.n (.s (Xu (s11 F) (Xu (s12 F) (X1z))) .e .e) .e) .e)) (.n (.n (.n (.n .e (.s (X8k) .e .e)) .e) .e) (.n (.n (.n (.n .e (.s (Xeh) .e .e)) (.s (X88) .e .e)) .e) .e))) (.n (.n (.n (.s (X87) .e .e) .e) .e) (.n (.n (.s (Xe4) .e .e) .e) (.n .e (.s (X45) .e .e))))) (.n (.n .e (.n .e (.n (.n .e (.s (X5j) .e .e)) .e))) (.n (.n (.n (.s (Xe3) .e .e) .e) .e) (.n (.n .e (.n .e (.n (.n (.s (X83) .e .e) .e) .e))) (.n .e (.s (X5a) .e (.n (.s (X8h) .e .e) .e)))))))
theorem q2 (F:Facts W) (n:Nat):Xv Tryz.prog W (T2 n):=X61 mixedOrders (X5o (p2 F)) n
theorem s13 (F:Facts W):Xf Tryz.prog W M13.ov:=Xx (q2 F 1000) C13 n13 g13
theorem s14 (F:Facts W):Xf Tryz.prog W M14.ov:=Xx (q0 F 1000) C14 n14 g14
theorem s15 (F:Facts W):Xf Tryz.prog W M15.ov:=Xx (q0 F 1000) C15 n15 g15
theorem s16 (F:Facts W):Xf Tryz.prog W M16.ov:=Xx (q0 F 1000) C16 n16 g16
theorem s17 (F:Facts W):Xf Tryz.prog W M17.ov:=Xx (q0 F 1000) C17 n17 g17
theorem p3 (F:Facts W):o3.All (Xf Tryz.prog W):=(.n (.n (.n (.n (.n (.n (.s (X7t) .e .e) .e) (.n .e (.s (Xee) .e .e))) .e) (.n (.n (.n (.n .e (.s (X8k) .e .e)) .e) .e) (.n (.n (.n (.n .e (.s (Xeh) .e .e)) (.s (X88) .e .e)) .e) .e))) (.n (.n (.n (.s (X87) .e .e) .e) (.n (.s (Xu (s13 F) (Xu (s16 F) (X1z))) .e .e) .e)) (.n (.n (.s (Xe4) .e .e) .e) (.n .e (.s (X45) .e .e))))) (.n (.n (.n .e (.n (.s (Xu (s10 F) (Xu (s15 F) (X1z))) .e .e) .e)) (.n .e (.n (.n .e (.s (X5j) .e .e)) .e))) (.n (.n (.n (.s (Xe3) .e .e) .e) (.n (.s (Xu (s14 F) (Xu (s17 F) (X1z))) .e .e) .e)) (.n (.n .e (.n .e (.n (.n (.s (X83) .e .e) .e) .e))) (.n .e (.s (X5a) .e (.n (.s (X8h) .e .e) .e)))))))
theorem q3 (F:Facts W) (n:Nat):Xv Tryz.prog W (T3 n):=X61 mixedOrders (X5o (p3 F)) n
theorem s18 (F:Facts W):Xf Tryz.prog W M18.ov:=Xx (q3 F 1000) C18 n18 g18
theorem s19 (F:Facts W):Xf Tryz.prog W M19.ov:=Xx (q0 F 1000) C19 n19 g19
theorem s20 (F:Facts W):Xf Tryz.prog W M20.ov:=Xx (q0 F 1000) C20 n20 g20
theorem s21 (F:Facts W):Xf Tryz.prog W M21.ov:=Xx (q0 F 1000) C21 n21 g21
theorem s22 (F:Facts W):Xf Tryz.prog W M22.ov:=Xx (q0 F 1000) C22 n22 g22
theorem s23 (F:Facts W):Xf Tryz.prog W M23.ov:=Xx (q0 F 1000) C23 n23 g23
theorem s24 (F:Facts W):Xf Tryz.prog W M24.ov:=Xx (q0 F 1000) C24 n24 g24
theorem s25 (F:Facts W):Xf Tryz.prog W M25.ov:=Xx (q0 F 1000) C25 n25 g25
theorem s26 (F:Facts W):Xf Tryz.prog W M26.ov:=Xx (q0 F 1000) C26 n26 g26
theorem s27 (F:Facts W):Xf Tryz.prog W M27.ov:=Xx (q0 F 1000) C27 n27 g27
theorem s28 (F:Facts W):Xf Tryz.prog W M28.ov:=Xx (q0 F 1000) C28 n28 g28
theorem p4 (F:Facts W):o4.All (Xf Tryz.prog W):=(.n (.n (.n (.n (.n (.n (.s (X7t) .e .e) .e) (.n .e (.s (Xee) .e .e))) .e) (.n (.n (.n (.n .e (.s (X8k) .e .e)) .e) .e) (.n (.n (.n (.n .e (.s (Xeh) .e .e)) (.s (X88) .e .e)) .e) .e))) (.n (.n (.n (.s (X87) .e .e) .e) .e) (.n (.n (.s (Xe4) .e .e) .e) (.n .e (.s (X45) .e .e))))) (.n (.n .e (.n .e (.n (.n .e (.s (X5j) .e .e)) .e))) (.n (.n (.n (.s (Xe3) .e .e) .e) .e) (.n (.s (Xu (s20 F) (Xu (s21 F) (Xu (s22 F) (Xu (s23 F) (Xu (s24 F) (Xu (s25 F) (Xu (s26 F) (Xu (s27 F) (Xu (s28 F) (X1z)))))))))) .e (.n .e (.n (.n (.s (X83) .e .e) .e) .e))) (.n .e (.s (X5a) .e (.n (.s (X8h) .e .e) .e)))))))
theorem q4 (F:Facts W) (n:Nat):Xv Tryz.prog W (T4 n):=X61 mixedOrders (X5o (p4 F)) n
theorem s29 (F:Facts W):Xf Tryz.prog W M29.ov:=Xx (q4 F 1000) C29 n29 g29
theorem p5 (F:Facts W):o5.All (Xf Tryz.prog W):=(.n (.n (.n (.n (.n (.n (.s (X7t) .e .e) .e) (.n .e (.s (Xee) .e .e))) .e) (.s (Xu (s3 F) (Xu (s8 F) (Xu (s9 F) (X1z)))) (.n (.n (.n .e (.s (X8k) .e .e)) .e) .e) (.n (.n (.n (.n .e (.s (Xeh) .e .e)) (.s (X88) .e .e)) .e) .e))) (.n (.s (Xu (s1 F) (Xu (s29 F) (X1z))) (.n (.s (X87) .e .e) .e) .e) (.n (.n (.s (Xe4) .e .e) .e) (.n .e (.s (X45) .e .e))))) (.n (.n .e (.n .e (.n (.n .e (.s (X5j) .e .e)) .e))) (.s (Xu (s0 F) (Xu (s19 F) (X1z))) (.s (Xu (s2 F) (Xu (s4 F) (Xu (s5 F) (Xu (s7 F) (Xu (s18 F) (X1z)))))) (.n (.s (Xe3) .e .e) .e) .e) (.n (.n .e (.n .e (.n (.n (.s (X83) .e .e) .e) .e))) (.n .e (.s (X5a) .e (.n (.s (X8h) .e .e) .e)))))))
theorem q5 (F:Facts W) (n:Nat):Xv Tryz.prog W (T5 n):=X61 mixedOrders (X5o (p5 F)) n
theorem runs (F:Facts W):Calls Tryz.prog 3 #[] W fun e w'=>e=.returned (.bool true)∧RowKit.Below W.heap.size W w':=by
  obtain ⟨m,hm⟩:=top
  exact Xay (q5 F 1000) (fn:=Tryz.f3) Tryz.func3 rfl rfl rfl hm (fun φ cv h=>Xf8 h)
end Go.Ab.Sh
