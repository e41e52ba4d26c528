/-
  The call returns true in every world in which the library has its variables. No conditions.
-/
import Derived.Test.YtbpkpklaegnkiaaGreatDoorG
import Derived.Test.YtbpkpklaegnkiaaGreatDoorA2
import Derived.Test.YtbpkpklaegnkiaaGreatDoorK0
import Derived.Test.YtbpkpklaegnkiaaGreatDoorK1
import Derived.Test.YtbpkpklaegnkiaaGreatDoorK2
import Derived.Test.YtbpkpklaegnkiaaGreatDoorK3
import Derived.Test.YtbpkpklaegnkiaaGreatDoorK4
import Derived.Test.YtbpkpklaegnkiaaGreatDoorK5
import Derived.Test.YtbpkpklaegnkiaaGreatDoorK6
import Derived.Test.YtbpkpklaegnkiaaGreatDoorKT
set_option linter.unusedSimpArgs false
set_option linter.unusedVariables false
set_option maxRecDepth 1000000
namespace Go.Ab.Sh
open Go Go.Ab Go.Proofs
structure Facts (W:World):Prop where
 mx:∃ n,W.cell? ⟨2,0,none⟩=some (.int .i64 n)
 tab:Lib.TabIs Tryz.prog W "internal/strconv.uint64pow10" .u64 Lib.pow10Tab
 spc:Lib.TabIs Tryz.prog W "strings.asciiSpace" .u8 Lib.asciiSpaceTab
 err:X7z W
variable {W:World}
theorem Xc4 (F:Facts W):Xe Tryz.prog W Q1i:=by obtain ⟨n,h⟩:=F.mx; exact Xz0 h
theorem p0 (F:Facts W):o0.All (Xe Tryz.prog W):=(.n (.n (.n (.n (.n (.n (.n .e (.n .e (.s (Xtj) .e .e))) (.n (.n .e (.s (X10e) .e .e)) .e)) .e) (.n .e (.n (.n (.n (.n (.s (Xsw) .e .e) .e) .e) .e) .e))) (.n .e (.s (Xod F.tab) .e .e))) (.n (.n (.n .e (.n (.n (.s (Xc4 F) .e .e) .e) .e)) (.s (Xbw F.spc) (.s (Xn5 F.err) .e .e) .e)) (.n (.s (Xnj) (.n (.n (.n (.n (.s (Xs0) .e .e) .e) .e) (.n (.n (.s (Xyu) .e .e) .e) .e)) .e) .e) .e))) (.n (.n (.n .e (.n (.n (.s (Xfn) .e (.n .e (.s (Xku) .e .e))) .e) (.n (.n .e (.n (.s (Xyc) .e .e) .e)) .e))) (.n (.n (.s (X8g) .e .e) (.n (.n .e (.n (.s (Xu4) .e .e) .e)) .e)) .e)) (.n (.n (.n (.n (.n (.n (.n (.s (Xs9) .e .e) .e) .e) (.n .e (.s (Xgy) .e .e))) .e) (.n (.n (.s (X5i) .e .e) .e) .e)) (.n (.s (okPu F.err) (.n (.n .e (.n (.s (Xtt) .e .e) .e)) .e) .e) (.n (.n (.s (Xag) .e .e) .e) .e))) (.n (.n .e (.n (.n (.n (.n (.s (Xkm) .e .e) .e) .e) .e) .e)) (.n .e (.n .e (.n (.n .e (.s (X10o) .e .e)) .e)))))))
theorem q0 (F:Facts W) (n:Nat):Xx Tryz.prog W (T0 n):=Xf2 mixedOrders (Xg5 (p0 F)) n
theorem s0 (F:Facts W):Xe Tryz.prog W M0.ov:=X23 (q0 F 1000) C0 n0 g0
theorem s1 (F:Facts W):Xe Tryz.prog W M1.ov:=X23 (q0 F 1000) C1 n1 g1
theorem s2 (F:Facts W):Xe Tryz.prog W M2.ov:=X23 (q0 F 1000) C2 n2 g2
theorem s3 (F:Facts W):Xe Tryz.prog W M3.ov:=X23 (q0 F 1000) C3 n3 g3
theorem s4 (F:Facts W):Xe Tryz.prog W M4.ov:=X23 (q0 F 1000) C4 n4 g4
theorem s5 (F:Facts W):Xe Tryz.prog W M5.ov:=X23 (q0 F 1000) C5 n5 g5
theorem s6 (F:Facts W):Xe Tryz.prog W M6.ov:=X23 (q0 F 1000) C6 n6 g6
theorem s7 (F:Facts W):Xe Tryz.prog W M7.ov:=X23 (q0 F 1000) C7 n7 g7
theorem s8 (F:Facts W):Xe Tryz.prog W M8.ov:=X23 (q0 F 1000) C8 n8 g8
theorem s9 (F:Facts W):Xe Tryz.prog W M9.ov:=X23 (q0 F 1000) C9 n9 g9
theorem s10 (F:Facts W):Xe Tryz.prog W M10.ov:=X23 (q0 F 1000) C10 n10 g10
theorem s11 (F:Facts W):Xe Tryz.prog W M11.ov:=X23 (q0 F 1000) C11 n11 g11
theorem s12 (F:Facts W):Xe Tryz.prog W M12.ov:=X23 (q0 F 1000) C12 n12 g12
theorem s13 (F:Facts W):Xe Tryz.prog W M13.ov:=X23 (q0 F 1000) C13 n13 g13
theorem s14 (F:Facts W):Xe Tryz.prog W M14.ov:=X23 (q0 F 1000) C14 n14 g14
theorem s15 (F:Facts W):Xe Tryz.prog W M15.ov:=X23 (q0 F 1000) C15 n15 g15
theorem p1 (F:Facts W):o1.All (Xe Tryz.prog W):=(.n (.n (.n (.n (.n (.n (.n .e (.n .e (.s (Xtj) .e .e))) (.n (.n .e (.s (X10e) .e .e)) .e)) .e) (.n .e (.n (.n (.n (.n (.s (Xsw) .e .e) .e) .e) .e) .e))) (.n .e (.s (Xod F.tab) .e .e))) (.n (.n (.n .e (.n (.n (.s (Xc4 F) .e .e) .e) .e)) (.s (Xbw F.spc) (.s (Xn5 F.err) .e .e) .e)) (.n (.s (Xnj) (.n (.n (.n (.n (.s (Xs0) .e .e) .e) .e) (.n (.n (.s (Xyu) .e .e) .e) .e)) .e) .e) .e))) (.n (.n (.n .e (.n (.n (.s (Xfn) .e (.n (.s (X1m (s2 F) (X1m (s3 F) (X1m (s4 F) (X1m (s5 F) (X1m (s6 F) (X1m (s7 F) (X1m (s8 F) (X1m (s9 F) (X1m (s10 F) (X1m (s11 F) (X1m (s12 F) (X1m (s13 F) (X1m (s14 F) (X1m (s15 F) (X9s))))))))))))))) .e .e) (.s (Xku) .e .e))) .e) (.n (.n .e (.n (.s (Xyc) .e .e) .e)) .e))) (.n (.n (.s (X8g) .e .e) (.n (.n .e (.n (.s (Xu4) .e .e) .e)) .e)) .e)) (.n (.n (.n (.n (.n (.n (.n (.s (Xs9) .e .e) .e) .e) (.n .e (.s (Xgy) .e .e))) .e) (.n (.n (.s (X5i) .e .e) .e) .e)) (.n (.s (okPu F.err) (.n (.n .e (.n (.s (Xtt) .e .e) .e)) .e) .e) (.n (.n (.s (Xag) .e .e) .e) .e))) (.n (.n .e (.n (.n (.n (.n (.s (Xkm) .e .e) .e) .e) .e) .e)) (.n .e (.n .e (.n (.n .e (.s (X10o) .e .e)) .e)))))))
theorem q1 (F:Facts W) (n:Nat):Xx Tryz.prog W (T1 n):=Xf2 mixedOrders (Xg5 (p1 F)) n
theorem s16 (F:Facts W):Xe Tryz.prog W M16.ov:=X23 (q1 F 1000) C16 n16 g16
theorem s17 (F:Facts W):Xe Tryz.prog W M17.ov:=X23 (q0 F 1000) C17 n17 g17
theorem s18 (F:Facts W):Xe Tryz.prog W M18.ov:=X23 (q0 F 1000) C18 n18 g18
theorem p2 (F:Facts W):o2.All (Xe Tryz.prog W):=(.n (.n (.n (.s (X1m (s0 F) (X9s)) (.n (.n (.n .e (.n .e (.s (Xtj) .e .e))) (.n (.n .e (.s (X10e) .e .e)) .e)) (.n (.n .e (.s (X1m (s1 F) (X9s)) .e .e)) .e)) (.n .e (.n (.n (.n (.n (.s (Xsw) .e .e) .e) .e) .e) .e))) (.n .e (.s (Xod F.tab) .e .e))) (.n (.n (.n .e (.n (.n (.s (Xc4 F) .e .e) .e) .e)) (.s (Xbw F.spc) (.s (Xn5 F.err) .e .e) .e)) (.n (.s (Xnj) (.n (.n (.n (.n (.s (Xs0) .e .e) .e) .e) (.n (.n (.s (Xyu) .e .e) .e) .e)) .e) (.n (.n .e (.s (X1m (s17 F) (X1m (s18 F) (X9s))) .e .e)) .e)) .e))) (.n (.n (.n .e (.n (.n (.s (Xfn) .e (.n .e (.s (Xku) .e .e))) .e) (.n (.n .e (.n (.s (Xyc) .e .e) .e)) .e))) (.n (.n (.s (X8g) .e .e) (.n (.n .e (.n (.s (Xu4) .e .e) .e)) .e)) .e)) (.n (.n (.n (.n (.n (.n (.n (.s (Xs9) .e .e) .e) .e) (.n .e (.s (Xgy) .e .e))) .e) (.n (.n (.s (X5i) .e .e) (.s (X1m (s16 F) (X9s)) .e .e)) .e)) (.n (.s (okPu F.err) (.n (.n .e (.n (.s (Xtt) .e .e) .e)) .e) .e) (.n (.n (.s (Xag) .e .e) .e) .e))) (.n (.n .e (.n (.n (.n (.n (.s (Xkm) .e .e) .e) .e) .e) .e)) (.n .e (.n .e (.n (.n .e (.s (X10o) .e .e)) .e)))))))
theorem q2 (F:Facts W) (n:Nat):Xx Tryz.prog W (T2 n):=Xf2 mixedOrders (Xg5 (p2 F)) n
theorem okW (F:Facts W):Xe Tryz.prog W Q1ap:=Xy4 (q2 F 1000) gw rwk
theorem pA (F:Facts W):oL.All (Xe Tryz.prog W):=(.n (.n (.n .e (.n .e (.s (Xod F.tab) .e .e))) (.n (.n (.n .e (.n (.n (.s (Xc4 F) .e .e) .e) .e)) (.s (Xbw F.spc) (.s (Xn5 F.err) .e .e) .e)) (.n (.s (Xnj) .e .e) .e))) (.n (.s (okW F) (.n .e (.n (.n (.s (Xfn) .e .e) .e) .e)) .e) (.n (.n (.n .e (.n (.n (.s (X5i) .e .e) .e) .e)) (.n (.s (okPu F.err) .e .e) .e)) .e)))
theorem qA (F:Facts W) (n:Nat):Xx Tryz.prog W (TA n):=Xf2 mixedOrders (Xg5 (pA F)) n
theorem asks (F:Facts W) (s:Str) (q:QN) (hs:s.length ≤ 4194304) (hq:QOk q) (hl:q.dev.length + q.ifc.length + q.vrf.length ≤ 4000000) :
  Calls Tryz.prog 3 #[sv s,qV q] W fun e w'=>e=.returned (.bool true)∧RowKit.Below W.heap.size W w':=
 Xqa (qA F) Tryz.func3 rfl rfl s q hs hq hl
end Go.Ab.Sh
