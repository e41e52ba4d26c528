/-
  The call returns true in every world in which the library has its variables. No conditions.
-/
import Derived.Test.YtaljkjdmllgmdaaGreatDoorG
import Derived.Test.YtaljkjdmllgmdaaGreatDoorKT
set_option linter.unusedSimpArgs false
set_option linter.unusedVariables false
set_option maxRecDepth 1000000
namespace Go.Ab.Sh
open Go Go.Ab Go.Proofs
structure Fq (W:World):Prop where
 mx:∃ n,W.cell? ⟨3,0,none⟩=some (.int .i64 n)
 tab:Lib.TabIs Tryz.prog W "internal/strconv.uint64pow10" .u64 Lib.pow10Tab
 spc:Lib.TabIs Tryz.prog W "strings.asciiSpace" .u8 Lib.asciiSpaceTab
 err:X5b W
variable {W:World}
abbrev Yq (W:World) (o:Over):Prop:=X9 Tryz.prog W o
theorem X1j (F:Fq W):Yq W Q4:=by obtain ⟨n,h⟩:=F.mx; exact Xlu h
theorem p0 (F:Fq W):o0.All (Yq W):=(.n (.n (.n (.n (.n (.n .e (.n (.n .e (.s X2s .e .e)) .e)) (.n .e (.n (.n (.s X5l .e .e) .e) .e))) .e) (.n (.n (.n (.s (X1k F.spc) .e (.s X1l .e .e)) .e) .e) .e)) (.n (.n (.n (.n (.n .e (.s X2u .e .e)) .e) .e) (.n (.n .e (.n (.n (.s X5e .e .e) .e) .e)) (.n .e (.n .e (.s (X1j F) .e .e))))) (.n (.n (.n (.s (X38 F.tab) .e (.s (X2x) .e .e)) .e) (.n (.n (.s (X20) .e .e) .e) (.n (.n (.s (X22) .e .e) .e) .e))) .e))) (.n (.n (.n .e (.n (.n (.n .e (.s (X5p) .e .e)) (.s (X30) .e .e)) .e)) (.n (.n (.n (.s (X2v F.err) (.n (.s (X13) .e .e) .e) (.s (X1z) .e .e)) .e) .e) .e)) (.n (.n (.n (.n .e (.n (.n .e (.s (X36) .e .e)) .e)) .e) (.n (.n .e (.n .e (.n (.n (.s (X2q) .e .e) .e) .e))) (.n .e (.n .e (.n .e (.s (X5m) .e .e)))))) (.n (.n (.n (.s (okPu F.err) .e .e) .e) .e) (.s (X2p) .e .e)))))
theorem q0 (F:Fq W):Xq Tryz.prog W (T0 1000):=X2k mixedOrders (X1y (p0 F)) 1000
theorem s0 (F:Fq W):Yq W M0.ov:=Xe (q0 F) C0 n0 g0
theorem s1 (F:Fq W):Yq W M1.ov:=Xe (q0 F) C1 n1 g1
theorem s2 (F:Fq W):Yq W M2.ov:=Xe (q0 F) C2 n2 g2
theorem s3 (F:Fq W):Yq W M3.ov:=Xe (q0 F) C3 n3 g3
theorem s4 (F:Fq W):Yq W M4.ov:=Xe (q0 F) C4 n4 g4
theorem s5 (F:Fq W):Yq W M5.ov:=Xe (q0 F) C5 n5 g5
theorem s6 (F:Fq W):Yq W M6.ov:=Xe (q0 F) C6 n6 g6
theorem s7 (F:Fq W):Yq W M7.ov:=Xe (q0 F) C7 n7 g7
theorem s8 (F:Fq W):Yq W M8.ov:=Xe (q0 F) C8 n8 g8
theorem s9 (F:Fq W):Yq W M9.ov:=Xe (q0 F) C9 n9 g9
theorem s10 (F:Fq W):Yq W M10.ov:=Xe (q0 F) C10 n10 g10
theorem s11 (F:Fq W):Yq W M11.ov:=Xe (q0 F) C11 n11 g11
theorem s12 (F:Fq W):Yq W M12.ov:=Xe (q0 F) C12 n12 g12
theorem s13 (F:Fq W):Yq W M13.ov:=Xe (q0 F) C13 n13 g13
theorem s14 (F:Fq W):Yq W M14.ov:=Xe (q0 F) C14 n14 g14
theorem s15 (F:Fq W):Yq W M15.ov:=Xe (q0 F) C15 n15 g15
theorem p1 (F:Fq W):o1.All (Yq W):=(.n (.n (.n (.n (.n (.n .e (.n (.n .e (.s X2s .e .e)) .e)) (.n .e (.n (.n (.s X5l .e .e) .e) .e))) .e) (.n (.n (.n (.s (X1k F.spc) .e (.s X1l .e .e)) .e) .e) .e)) (.n (.n (.n (.n (.n .e (.s X2u .e .e)) .e) .e) (.n (.n .e (.n (.n (.s X5e .e .e) .e) .e)) (.n .e (.n .e (.s (X1j F) .e .e))))) (.n (.n (.n (.s (X38 F.tab) .e (.s (X2x) .e .e)) .e) (.n (.n (.s (X20) .e .e) .e) (.n (.n (.s (X22) .e .e) .e) .e))) .e))) (.n (.n (.n .e (.n (.n (.n .e (.s (X5p) .e .e)) (.s (X30) .e .e)) .e)) (.n (.n (.n (.s (X2v F.err) (.n (.s (X13) .e .e) .e) (.s (X1z) .e .e)) .e) .e) .e)) (.n (.n (.n (.n .e (.n (.n .e (.s (X36) .e .e)) .e)) .e) (.n (.n .e (.n .e (.n (.n (.s (X2q) .e .e) .e) .e))) (.n .e (.n .e (.n .e (.s (X5m) .e .e)))))) (.n (.n (.n (.s (okPu F.err) .e .e) .e) (.n .e (.n (.s (Xb (s2 F) (Xb (s3 F) (Xb (s4 F) (Xb (s5 F) (Xb (s6 F) (Xb (s7 F) (Xb (s8 F) (Xb (s9 F) (Xb (s10 F) (Xb (s11 F) (Xb (s12 F) (Xb (s13 F) (Xb (s14 F) (Xb (s15 F) Xt)))))))))))))) .e .e) .e))) (.s (X2p) .e .e)))))
theorem q1 (F:Fq W):Xq Tryz.prog W (T1 1000):=X2k mixedOrders (X1y (p1 F)) 1000
theorem s16 (F:Fq W):Yq W M16.ov:=Xe (q1 F) C16 n16 g16
theorem s17 (F:Fq W):Yq W M17.ov:=Xe (q0 F) C17 n17 g17
theorem p2 (F:Fq W):o2.All (Yq W):=(.n (.n (.n (.n (.n (.n .e (.n (.n .e (.s X2s .e .e)) .e)) (.n .e (.n (.n (.s X5l .e .e) .e) .e))) .e) (.n (.n (.n (.s (X1k F.spc) .e (.s X1l .e .e)) .e) .e) .e)) (.n (.n (.n (.n (.n .e (.s X2u .e .e)) (.s (Xb (s16 F) Xt) .e .e)) .e) (.n (.n .e (.n (.n (.s X5e .e .e) .e) .e)) (.n .e (.n .e (.s (X1j F) .e .e))))) (.n (.n (.n (.s (X38 F.tab) .e (.s (X2x) .e .e)) .e) (.n (.n (.s (X20) .e .e) .e) (.n (.n (.s (X22) .e .e) .e) .e))) .e))) (.n (.n (.n .e (.n (.n (.n .e (.s (X5p) .e .e)) (.s (X30) .e .e)) .e)) (.n (.n (.n (.s (X2v F.err) (.n (.s (X13) .e .e) .e) (.s (X1z) .e .e)) (.s (Xb (s17 F) Xt) .e .e)) .e) .e)) (.n (.n (.n (.n .e (.n (.n .e (.s (X36) .e .e)) .e)) .e) (.n (.n .e (.n .e (.n (.n (.s (X2q) .e .e) .e) .e))) (.n .e (.n .e (.n .e (.s (X5m) .e .e)))))) (.n (.n (.n (.s (okPu F.err) .e .e) .e) .e) (.s (X2p) .e (.n (.s (Xb (s1 F) Xt) .e .e) .e))))))
theorem q2 (F:Fq W):Xq Tryz.prog W (T2 1000):=X2k mixedOrders (X1y (p2 F)) 1000
theorem s18 (F:Fq W):Yq W M18.ov:=Xe (q2 F) C18 n18 g18
theorem s19 (F:Fq W):Yq W M19.ov:=Xe (q0 F) C19 n19 g19
theorem s20 (F:Fq W):Yq W M20.ov:=Xe (q0 F) C20 n20 g20
theorem s21 (F:Fq W):Yq W M21.ov:=Xe (q0 F) C21 n21 g21
theorem p3 (F:Fq W):o3.All (Yq W):=(.n (.n (.n (.n (.n (.n .e (.n (.n .e (.s X2s .e .e)) .e)) (.n .e (.n (.n (.s X5l .e .e) .e) .e))) .e) (.n (.n (.n (.s (X1k F.spc) .e (.s X1l .e .e)) .e) .e) .e)) (.n (.n (.n (.n (.n .e (.s X2u .e .e)) (.s (Xb (s16 F) Xt) .e .e)) .e) (.n (.n .e (.n (.n (.s X5e .e .e) .e) .e)) (.n .e (.n .e (.s (X1j F) .e .e))))) (.n (.n (.n (.s (X38 F.tab) .e (.s (X2x) .e .e)) .e) (.n (.n (.s (X20) .e .e) .e) (.n (.n (.s (X22) .e .e) .e) .e))) .e))) (.n (.n (.n .e (.n (.n (.n .e (.s (X5p) .e .e)) (.s (X30) .e .e)) .e)) (.n (.n (.n (.s (X2v F.err) (.n (.s (X13) .e .e) .e) (.s (X1z) .e .e)) (.s (Xb (s21 F) Xt) .e .e)) .e) .e)) (.n (.n (.n (.n .e (.n (.n .e (.s (X36) .e .e)) .e)) .e) (.n (.n .e (.n .e (.n (.n (.s (X2q) .e .e) .e) .e))) (.n .e (.n .e (.n .e (.s (X5m) .e .e)))))) (.n (.n (.n (.s (okPu F.err) .e .e) .e) .e) (.s (X2p) .e (.n (.s (Xb (s1 F) Xt) .e .e) .e))))))
theorem q3 (F:Fq W):Xq Tryz.prog W (T3 1000):=X2k mixedOrders (X1y (p3 F)) 1000
theorem s22 (F:Fq W):Yq W M22.ov:=Xe (q3 F) C22 n22 g22
theorem p4 (F:Fq W):o4.All (Yq W):=(.n (.n (.n (.n (.n (.n .e (.n (.n .e (.s X2s .e .e)) .e)) (.n .e (.n (.n (.s X5l .e .e) .e) .e))) .e) (.n (.n (.n (.s (X1k F.spc) .e (.s X1l .e .e)) .e) .e) .e)) (.s (Xb (s0 F) Xt) (.n (.n (.n (.n .e (.s X2u .e .e)) .e) .e) (.n (.n .e (.n (.n (.s X5e .e .e) .e) .e)) (.n .e (.n .e (.s (X1j F) .e .e))))) (.n (.n (.n (.s (X38 F.tab) .e (.s (X2x) .e .e)) .e) (.n (.n (.s (X20) .e .e) .e) (.n (.n (.s (X22) .e .e) .e) .e))) .e))) (.n (.n (.n .e (.n (.n (.n .e (.s (X5p) .e .e)) (.s (X30) .e .e)) .e)) (.n (.n (.n (.s (X2v F.err) (.n (.s (X13) .e .e) .e) (.s (X1z) .e .e)) .e) .e) .e)) (.s (Xb (s18 F) (Xb (s19 F) (Xb (s20 F) (Xb (s22 F) Xt)))) (.n (.n (.n .e (.n (.n .e (.s (X36) .e .e)) .e)) .e) (.n (.n .e (.n .e (.n (.n (.s (X2q) .e .e) .e) .e))) (.n .e (.n .e (.n .e (.s (X5m) .e .e)))))) (.n (.n (.n (.s (okPu F.err) .e .e) .e) .e) (.s (X2p) .e .e)))))
theorem q4 (F:Fq W):Xq Tryz.prog W (T4 1000):=X2k mixedOrders (X1y (p4 F)) 1000
theorem s23 (F:Fq W):Yq W M23.ov:=Xe (q4 F) C23 n23 g23
theorem s24 (F:Fq W):Yq W M24.ov:=Xe (q3 F) C24 n24 g24
theorem s25 (F:Fq W):Yq W M25.ov:=Xe (q0 F) C25 n25 g25
theorem s26 (F:Fq W):Yq W M26.ov:=Xe (q0 F) C26 n26 g26
theorem p5 (F:Fq W):o5.All (Yq W):=(.n (.n (.n (.n (.n (.n .e (.s (Xb (s25 F) Xt) (.n .e (.s X2s .e .e)) .e)) (.n .e (.n (.n (.s X5l .e .e) .e) .e))) .e) (.n (.n (.n (.s (X1k F.spc) .e (.s X1l .e .e)) .e) .e) .e)) (.n (.n (.n (.n (.n .e (.s X2u .e .e)) .e) .e) (.n (.n .e (.n (.n (.s X5e .e .e) .e) .e)) (.n .e (.n .e (.s (X1j F) .e .e))))) (.n (.n (.n (.s (X38 F.tab) .e (.s (X2x) .e .e)) .e) (.n (.n (.s (X20) .e .e) .e) (.n (.n (.s (X22) .e .e) .e) .e))) .e))) (.n (.n (.n .e (.n (.n (.n .e (.s (X5p) .e .e)) (.s (X30) .e .e)) .e)) (.n (.n (.n (.s (X2v F.err) (.n (.s (X13) .e .e) .e) (.s (X1z) .e .e)) (.s (Xb (s26 F) Xt) .e .e)) .e) .e)) (.n (.n (.n (.n .e (.n (.n .e (.s (X36) .e .e)) .e)) .e) (.n (.n .e (.n .e (.n (.n (.s (X2q) .e .e) .e) .e))) (.n .e (.n .e (.n .e (.s (X5m) .e .e)))))) (.n (.n (.n (.s (okPu F.err) .e .e) .e) .e) (.s (X2p) .e (.n (.s (Xb (s1 F) Xt) .e .e) .e))))))
theorem q5 (F:Fq W):Xq Tryz.prog W (T5 1000):=X2k mixedOrders (X1y (p5 F)) 1000
theorem s27 (F:Fq W):Yq W M27.ov:=Xe (q5 F) C27 n27 g27
theorem s28 (F:Fq W):Yq W M28.ov:=Xe (q0 F) C28 n28 g28
theorem s29 (F:Fq W):Yq W M29.ov:=Xe (q0 F) C29 n29 g29
theorem s30 (F:Fq W):Yq W M30.ov:=Xe (q0 F) C30 n30 g30
theorem s31 (F:Fq W):Yq W M31.ov:=Xe (q0 F) C31 n31 g31
theorem s32 (F:Fq W):Yq W M32.ov:=Xe (q0 F) C32 n32 g32
theorem s33 (F:Fq W):Yq W M33.ov:=Xe (q0 F) C33 n33 g33
theorem s34 (F:Fq W):Yq W M34.ov:=Xe (q0 F) C34 n34 g34
theorem s35 (F:Fq W):Yq W M35.ov:=Xe (q0 F) C35 n35 g35
theorem s36 (F:Fq W):Yq W M36.ov:=Xe (q0 F) C36 n36 g36
theorem s37 (F:Fq W):Yq W M37.ov:=Xe (q0 F) C37 n37 g37
theorem s38 (F:Fq W):Yq W M38.ov:=Xe (q0 F) C38 n38 g38
theorem s39 (F:Fq W):Yq W M39.ov:=Xe (q0 F) C39 n39 g39
theorem s40 (F:Fq W):Yq W M40.ov:=Xe (q0 F) C40 n40 g40
theorem s41 (F:Fq W):Yq W M41.ov:=Xe (q0 F) C41 n41 g41
theorem s42 (F:Fq W):Yq W M42.ov:=Xe (q0 F) C42 n42 g42
theorem s43 (F:Fq W):Yq W M43.ov:=Xe (q0 F) C43 n43 g43
theorem s44 (F:Fq W):Yq W M44.ov:=Xe (q0 F) C44 n44 g44
theorem s45 (F:Fq W):Yq W M45.ov:=Xe (q0 F) C45 n45 g45
theorem s46 (F:Fq W):Yq W M46.ov:=Xe (q0 F) C46 n46 g46
theorem s47 (F:Fq W):Yq W M47.ov:=Xe (q0 F) C47 n47 g47
theorem s48 (F:Fq W):Yq W M48.ov:=Xe (q0 F) C48 n48 g48
theorem s49 (F:Fq W):Yq W M49.ov:=Xe (q0 F) C49 n49 g49
theorem p6 (F:Fq W):o6.All (Yq W):=(.n (.n (.n (.n (.n (.n .e (.n (.n .e (.s X2s .e .e)) .e)) (.n .e (.n (.n (.s X5l .e .e) .e) .e))) .e) (.n (.n (.n (.s (X1k F.spc) .e (.s X1l .e .e)) .e) .e) .e)) (.n (.n (.n (.n (.n .e (.s X2u .e .e)) .e) .e) (.n (.n .e (.n (.n (.s X5e .e .e) .e) .e)) (.n .e (.n .e (.s (X1j F) .e .e))))) (.n (.n (.n (.s (X38 F.tab) .e (.s (X2x) .e .e)) .e) (.n (.n (.s (X20) .e .e) .e) (.n (.n (.s (X22) .e .e) .e) .e))) .e))) (.n (.n (.n .e (.n (.n (.n .e (.s (X5p) .e .e)) (.s (X30) .e .e)) .e)) (.n (.n (.n (.s (X2v F.err) (.n (.s (X13) .e .e) .e) (.s (X1z) .e .e)) .e) .e) .e)) (.n (.n (.n (.n .e (.n (.n .e (.s (X36) .e .e)) .e)) .e) (.n (.n .e (.n .e (.n (.n (.s (X2q) .e .e) .e) .e))) (.n .e (.n .e (.n .e (.s (X5m) .e .e)))))) (.n (.n (.n (.s (okPu F.err) .e .e) .e) (.n .e (.n (.s (Xb (s36 F) (Xb (s37 F) (Xb (s38 F) (Xb (s39 F) (Xb (s40 F) (Xb (s41 F) (Xb (s42 F) (Xb (s43 F) (Xb (s44 F) (Xb (s45 F) (Xb (s46 F) (Xb (s47 F) (Xb (s48 F) (Xb (s49 F) Xt)))))))))))))) .e .e) .e))) (.s (X2p) .e .e)))))
theorem q6 (F:Fq W):Xq Tryz.prog W (T6 1000):=X2k mixedOrders (X1y (p6 F)) 1000
theorem s50 (F:Fq W):Yq W M50.ov:=Xe (q6 F) C50 n50 g50
theorem s51 (F:Fq W):Yq W M51.ov:=Xe (q0 F) C51 n51 g51
theorem p7 (F:Fq W):o7.All (Yq W):=(.n (.n (.n (.n (.n (.n .e (.n (.n .e (.s X2s .e .e)) .e)) (.n .e (.n (.n (.s X5l .e .e) .e) .e))) .e) (.n (.n (.n (.s (X1k F.spc) .e (.s X1l .e .e)) .e) .e) .e)) (.n (.n (.n (.n (.n .e (.s X2u .e .e)) (.s (Xb (s50 F) Xt) .e .e)) .e) (.n (.n .e (.n (.n (.s X5e .e .e) .e) .e)) (.n .e (.n .e (.s (X1j F) .e .e))))) (.n (.n (.n (.s (X38 F.tab) .e (.s (X2x) .e .e)) .e) (.n (.n (.s (X20) .e .e) .e) (.n (.n (.s (X22) .e .e) .e) .e))) .e))) (.n (.n (.n .e (.n (.n (.n .e (.s (X5p) .e .e)) (.s (X30) .e .e)) .e)) (.n (.n (.n (.s (X2v F.err) (.n (.s (X13) .e .e) .e) (.s (X1z) .e .e)) (.s (Xb (s51 F) Xt) .e .e)) .e) .e)) (.n (.n (.n (.n .e (.n (.n .e (.s (X36) .e .e)) .e)) .e) (.n (.n .e (.n .e (.n (.n (.s (X2q) .e .e) .e) .e))) (.n .e (.n .e (.n .e (.s (X5m) .e .e)))))) (.n (.n (.n (.s (okPu F.err) .e .e) .e) .e) (.s (X2p) .e (.n (.s (Xb (s35 F) Xt) .e .e) .e))))))
theorem q7 (F:Fq W):Xq Tryz.prog W (T7 1000):=X2k mixedOrders (X1y (p7 F)) 1000
theorem s52 (F:Fq W):Yq W M52.ov:=Xe (q7 F) C52 n52 g52
theorem s53 (F:Fq W):Yq W M53.ov:=Xe (q0 F) C53 n53 g53
theorem p8 (F:Fq W):o8.All (Yq W):=(.n (.n (.n (.n (.n (.n .e (.n (.n .e (.s X2s .e .e)) .e)) (.n .e (.n (.n (.s X5l .e .e) .e) .e))) .e) (.n (.n (.n (.s (X1k F.spc) .e (.s X1l .e .e)) .e) .e) .e)) (.n (.n (.n (.n (.n .e (.s X2u .e .e)) (.s (Xb (s50 F) Xt) .e .e)) .e) (.n (.n .e (.n (.n (.s X5e .e .e) .e) .e)) (.n .e (.n .e (.s (X1j F) .e .e))))) (.n (.n (.n (.s (X38 F.tab) .e (.s (X2x) .e .e)) .e) (.n (.n (.s (X20) .e .e) .e) (.n (.n (.s (X22) .e .e) .e) .e))) .e))) (.n (.n (.n .e (.n (.n (.n .e (.s (X5p) .e .e)) (.s (X30) .e .e)) .e)) (.n (.n (.n (.s (X2v F.err) (.n (.s (X13) .e .e) .e) (.s (X1z) .e .e)) (.s (Xb (s53 F) Xt) .e .e)) .e) .e)) (.n (.n (.n (.n .e (.n (.n .e (.s (X36) .e .e)) .e)) .e) (.n (.n .e (.n .e (.n (.n (.s (X2q) .e .e) .e) .e))) (.n .e (.n .e (.n .e (.s (X5m) .e .e)))))) (.n (.n (.n (.s (okPu F.err) .e .e) .e) .e) (.s (X2p) .e (.n (.s (Xb (s35 F) Xt) .e .e) .e))))))
theorem q8 (F:Fq W):Xq Tryz.prog W (T8 1000):=X2k mixedOrders (X1y (p8 F)) 1000
theorem s54 (F:Fq W):Yq W M54.ov:=Xe (q8 F) C54 n54 g54
theorem s55 (F:Fq W):Yq W M55.ov:=Xe (q8 F) C55 n55 g55
theorem s56 (F:Fq W):Yq W M56.ov:=Xe (q0 F) C56 n56 g56
theorem s57 (F:Fq W):Yq W M57.ov:=Xe (q0 F) C57 n57 g57
theorem s58 (F:Fq W):Yq W M58.ov:=Xe (q0 F) C58 n58 g58
theorem s59 (F:Fq W):Yq W M59.ov:=Xe (q0 F) C59 n59 g59
theorem s60 (F:Fq W):Yq W M60.ov:=Xe (q0 F) C60 n60 g60
theorem s61 (F:Fq W):Yq W M61.ov:=Xe (q0 F) C61 n61 g61
theorem s62 (F:Fq W):Yq W M62.ov:=Xe (q0 F) C62 n62 g62
theorem p9 (F:Fq W):o9.All (Yq W):=(.n (.n (.n (.n (.n (.n .e (.n (.n .e (.s X2s .e .e)) .e)) (.n .e (.n (.n (.s X5l .e .e) .e) .e))) .e) (.n (.n (.n (.s (X1k F.spc) .e (.s X1l .e .e)) .e) .e) .e)) (.n (.n (.n (.n (.n .e (.s X2u .e .e)) (.s (Xb (s61 F) Xt) .e .e)) .e) (.n (.n .e (.n (.n (.s X5e .e .e) .e) .e)) (.n .e (.n .e (.s (X1j F) .e .e))))) (.n (.n (.n (.s (X38 F.tab) .e (.s (X2x) .e .e)) .e) (.n (.n (.s (X20) .e .e) .e) (.n (.n (.s (X22) .e .e) .e) .e))) .e))) (.n (.n (.n .e (.n (.n (.n .e (.s (X5p) .e .e)) (.s (X30) .e .e)) .e)) (.n (.n (.n (.s (X2v F.err) (.n (.s (X13) .e .e) .e) (.s (X1z) .e .e)) (.s (Xb (s62 F) Xt) .e .e)) .e) .e)) (.n (.n (.n (.n .e (.n (.n .e (.s (X36) .e .e)) .e)) .e) (.n (.n .e (.n .e (.n (.n (.s (X2q) .e .e) .e) .e))) (.n .e (.n .e (.n .e (.s (X5m) .e .e)))))) (.n (.n (.n (.s (okPu F.err) .e .e) .e) .e) (.s (X2p) .e (.n (.s (Xb (s60 F) Xt) .e .e) .e))))))
theorem q9 (F:Fq W):Xq Tryz.prog W (T9 1000):=X2k mixedOrders (X1y (p9 F)) 1000
theorem s63 (F:Fq W):Yq W M63.ov:=Xe (q9 F) C63 n63 g63
theorem p10 (F:Fq W):o10.All (Yq W):=(.n (.n (.n (.n (.n (.n .e (.n (.n .e (.s X2s .e .e)) .e)) (.n .e (.n (.n (.s X5l .e .e) .e) .e))) .e) (.n (.n (.n (.s (X1k F.spc) .e (.s X1l .e .e)) .e) .e) .e)) (.s (Xb (s33 F) Xt) (.n (.n (.n (.n .e (.s X2u .e .e)) .e) .e) (.n (.n .e (.n (.n (.s X5e .e .e) .e) .e)) (.n .e (.n .e (.s (X1j F) .e .e))))) (.n (.n (.n (.s (X38 F.tab) .e (.s (X2x) .e .e)) .e) (.n (.n (.s (X20) .e .e) .e) (.n (.n (.s (X22) .e .e) .e) .e))) .e))) (.n (.n (.n .e (.n (.n (.n .e (.s (X5p) .e .e)) (.s (X30) .e .e)) .e)) (.n (.n (.n (.s (X2v F.err) (.n (.s (X13) .e .e) .e) (.s (X1z) .e .e)) .e) .e) .e)) (.s (Xb (s34 F) (Xb (s52 F) (Xb (s54 F) (Xb (s55 F) (Xb (s56 F) (Xb (s57 F) (Xb (s58 F) (Xb (s59 F) (Xb (s63 F) Xt))))))))) (.n (.n (.n .e (.n (.n .e (.s (X36) .e .e)) .e)) .e) (.n (.n .e (.n .e (.n (.n (.s (X2q) .e .e) .e) .e))) (.n .e (.n .e (.n .e (.s (X5m) .e .e)))))) (.n (.n (.n (.s (okPu F.err) .e .e) .e) .e) (.s (X2p) .e .e)))))
theorem q10 (F:Fq W):Xq Tryz.prog W (T10 1000):=X2k mixedOrders (X1y (p10 F)) 1000
theorem s64 (F:Fq W):Yq W M64.ov:=Xe (q10 F) C64 n64 g64
theorem s65 (F:Fq W):Yq W M65.ov:=Xe (q0 F) C65 n65 g65
theorem s66 (F:Fq W):Yq W M66.ov:=Xe (q0 F) C66 n66 g66
theorem s67 (F:Fq W):Yq W M67.ov:=Xe (q0 F) C67 n67 g67
theorem s68 (F:Fq W):Yq W M68.ov:=Xe (q0 F) C68 n68 g68
theorem s69 (F:Fq W):Yq W M69.ov:=Xe (q0 F) C69 n69 g69
theorem s70 (F:Fq W):Yq W M70.ov:=Xe (q0 F) C70 n70 g70
theorem s71 (F:Fq W):Yq W M71.ov:=Xe (q0 F) C71 n71 g71
theorem s72 (F:Fq W):Yq W M72.ov:=Xe (q0 F) C72 n72 g72
theorem s73 (F:Fq W):Yq W M73.ov:=Xe (q0 F) C73 n73 g73
theorem s74 (F:Fq W):Yq W M74.ov:=Xe (q0 F) C74 n74 g74
theorem s75 (F:Fq W):Yq W M75.ov:=Xe (q0 F) C75 n75 g75
theorem s76 (F:Fq W):Yq W M76.ov:=Xe (q0 F) C76 n76 g76
theorem s77 (F:Fq W):Yq W M77.ov:=Xe (q0 F) C77 n77 g77
theorem s78 (F:Fq W):Yq W M78.ov:=Xe (q0 F) C78 n78 g78
theorem s79 (F:Fq W):Yq W M79.ov:=Xe (q0 F) C79 n79 g79
theorem s80 (F:Fq W):Yq W M80.ov:=Xe (q0 F) C80 n80 g80
theorem s81 (F:Fq W):Yq W M81.ov:=Xe (q0 F) C81 n81 g81
theorem s82 (F:Fq W):Yq W M82.ov:=Xe (q0 F) C82 n82 g82
theorem s83 (F:Fq W):Yq W M83.ov:=Xe (q0 F) C83 n83 g83
theorem s84 (F:Fq W):Yq W M84.ov:=Xe (q0 F) C84 n84 g84
theorem s85 (F:Fq W):Yq W M85.ov:=Xe (q0 F) C85 n85 g85
theorem p11 (F:Fq W):o11.All (Yq W):=(.n (.n (.n (.n (.n (.n .e (.n (.n .e (.s X2s .e .e)) .e)) (.n .e (.n (.n (.s X5l .e .e) .e) .e))) .e) (.n (.n (.n (.s (X1k F.spc) .e (.s X1l .e .e)) .e) .e) .e)) (.n (.n (.n (.n (.n .e (.s X2u .e .e)) .e) .e) (.n (.n .e (.n (.n (.s X5e .e .e) .e) .e)) (.n .e (.n .e (.s (X1j F) .e .e))))) (.n (.n (.n (.s (X38 F.tab) .e (.s (X2x) .e .e)) .e) (.n (.n (.s (X20) .e .e) .e) (.n (.n (.s (X22) .e .e) .e) .e))) .e))) (.n (.n (.n .e (.n (.n (.n .e (.s (X5p) .e .e)) (.s (X30) .e .e)) .e)) (.n (.n (.n (.s (X2v F.err) (.n (.s (X13) .e .e) .e) (.s (X1z) .e .e)) .e) .e) .e)) (.n (.n (.n (.n .e (.n (.n .e (.s (X36) .e .e)) .e)) .e) (.n (.n .e (.n .e (.n (.n (.s (X2q) .e .e) .e) .e))) (.n .e (.n .e (.n .e (.s (X5m) .e .e)))))) (.n (.n (.n (.s (okPu F.err) .e .e) .e) (.n .e (.n (.s (Xb (s72 F) (Xb (s73 F) (Xb (s74 F) (Xb (s75 F) (Xb (s76 F) (Xb (s77 F) (Xb (s78 F) (Xb (s79 F) (Xb (s80 F) (Xb (s81 F) (Xb (s82 F) (Xb (s83 F) (Xb (s84 F) (Xb (s85 F) Xt)))))))))))))) .e .e) .e))) (.s (X2p) .e .e)))))
theorem q11 (F:Fq W):Xq Tryz.prog W (T11 1000):=X2k mixedOrders (X1y (p11 F)) 1000
theorem s86 (F:Fq W):Yq W M86.ov:=Xe (q11 F) C86 n86 g86
theorem s87 (F:Fq W):Yq W M87.ov:=Xe (q0 F) C87 n87 g87
theorem s88 (F:Fq W):Yq W M88.ov:=Xe (q0 F) C88 n88 g88
theorem s89 (F:Fq W):Yq W M89.ov:=Xe (q0 F) C89 n89 g89
theorem s90 (F:Fq W):Yq W M90.ov:=Xe (q0 F) C90 n90 g90
theorem s91 (F:Fq W):Yq W M91.ov:=Xe (q0 F) C91 n91 g91
theorem s92 (F:Fq W):Yq W M92.ov:=Xe (q0 F) C92 n92 g92
theorem s93 (F:Fq W):Yq W M93.ov:=Xe (q0 F) C93 n93 g93
theorem s94 (F:Fq W):Yq W M94.ov:=Xe (q0 F) C94 n94 g94
theorem s95 (F:Fq W):Yq W M95.ov:=Xe (q0 F) C95 n95 g95
theorem s96 (F:Fq W):Yq W M96.ov:=Xe (q0 F) C96 n96 g96
theorem s97 (F:Fq W):Yq W M97.ov:=Xe (q0 F) C97 n97 g97
theorem s98 (F:Fq W):Yq W M98.ov:=Xe (q0 F) C98 n98 g98
theorem s99 (F:Fq W):Yq W M99.ov:=Xe (q0 F) C99 n99 g99
theorem s100 (F:Fq W):Yq W M100.ov:=Xe (q0 F) C100 n100 g100
theorem s101 (F:Fq W):Yq W M101.ov:=Xe (q0 F) C101 n101 g101
theorem s102 (F:Fq W):Yq W M102.ov:=Xe (q0 F) C102 n102 g102
theorem p12 (F:Fq W):o12.All (Yq W):=(.n (.n (.n (.n (.n (.n .e (.n (.n .e (.s X2s .e .e)) .e)) (.n .e (.n (.n (.s X5l .e .e) .e) .e))) .e) (.n (.n (.n (.s (X1k F.spc) .e (.s X1l .e .e)) .e) .e) .e)) (.n (.n (.n (.n (.n .e (.s X2u .e .e)) .e) .e) (.n (.n .e (.n (.n (.s X5e .e .e) .e) .e)) (.n .e (.n .e (.s (X1j F) .e .e))))) (.n (.n (.n (.s (X38 F.tab) .e (.s (X2x) .e .e)) .e) (.n (.n (.s (X20) .e .e) .e) (.n (.n (.s (X22) .e .e) .e) .e))) .e))) (.n (.n (.n .e (.n (.n (.n .e (.s (X5p) .e .e)) (.s (X30) .e .e)) .e)) (.n (.n (.n (.s (X2v F.err) (.n (.s (X13) .e .e) .e) (.s (X1z) .e .e)) .e) .e) .e)) (.n (.n (.n (.n .e (.n (.n .e (.s (X36) .e .e)) .e)) .e) (.n (.n .e (.n .e (.n (.n (.s (X2q) .e .e) .e) .e))) (.n .e (.n .e (.n .e (.s (X5m) .e .e)))))) (.n (.n (.n (.s (okPu F.err) .e .e) .e) (.n .e (.n (.s (Xb (s89 F) (Xb (s90 F) (Xb (s91 F) (Xb (s92 F) (Xb (s93 F) (Xb (s94 F) (Xb (s95 F) (Xb (s96 F) (Xb (s97 F) (Xb (s98 F) (Xb (s99 F) (Xb (s100 F) (Xb (s101 F) (Xb (s102 F) Xt)))))))))))))) .e .e) .e))) (.s (X2p) .e .e)))))
theorem q12 (F:Fq W):Xq Tryz.prog W (T12 1000):=X2k mixedOrders (X1y (p12 F)) 1000
theorem s103 (F:Fq W):Yq W M103.ov:=Xe (q12 F) C103 n103 g103
theorem s104 (F:Fq W):Yq W M104.ov:=Xe (q0 F) C104 n104 g104
theorem p13 (F:Fq W):o13.All (Yq W):=(.n (.n (.n (.n (.n (.n .e (.n (.n .e (.s X2s .e .e)) .e)) (.n .e (.n (.n (.s X5l .e .e) .e) .e))) .e) (.n (.n (.n (.s (X1k F.spc) .e (.s X1l .e .e)) .e) .e) .e)) (.n (.n (.n (.n (.n .e (.s X2u .e .e)) (.s (Xb (s86 F) (Xb (s103 F) Xt)) .e .e)) .e) (.n (.n .e (.n (.n (.s X5e .e .e) .e) .e)) (.n .e (.n .e (.s (X1j F) .e .e))))) (.n (.n (.n (.s (X38 F.tab) .e (.s (X2x) .e .e)) .e) (.n (.n (.s (X20) .e .e) .e) (.n (.n (.s (X22) .e .e) .e) .e))) .e))) (.n (.n (.n .e (.n (.n (.n .e (.s (X5p) .e .e)) (.s (X30) .e .e)) .e)) (.n (.n (.n (.s (X2v F.err) (.n (.s (X13) .e .e) .e) (.s (X1z) .e .e)) (.s (Xb (s87 F) (Xb (s104 F) Xt)) .e .e)) .e) .e)) (.n (.n (.n (.n .e (.n (.n .e (.s (X36) .e .e)) .e)) .e) (.n (.n .e (.n .e (.n (.n (.s (X2q) .e .e) .e) .e))) (.n .e (.n .e (.n .e (.s (X5m) .e .e)))))) (.n (.n (.n (.s (okPu F.err) .e .e) .e) .e) (.s (X2p) .e (.n (.s (Xb (s71 F) (Xb (s88 F) Xt)) .e .e) .e))))))
theorem q13 (F:Fq W):Xq Tryz.prog W (T13 1000):=X2k mixedOrders (X1y (p13 F)) 1000
theorem s105 (F:Fq W):Yq W M105.ov:=Xe (q13 F) C105 n105 g105
theorem p14 (F:Fq W):o14.All (Yq W):=(.n (.n (.n (.s (Xb (s64 F) Xt) (.n (.n .e (.n (.n .e (.s X2s .e .e)) .e)) (.n .e (.n (.n (.s X5l .e .e) .e) .e))) .e) (.n (.n (.n (.s (X1k F.spc) .e (.s X1l .e .e)) .e) .e) .e)) (.s (Xb (s0 F) Xt) (.n (.n (.n (.n .e (.s X2u .e .e)) .e) .e) (.n (.n .e (.n (.n (.s X5e .e .e) .e) .e)) (.n .e (.n .e (.s (X1j F) .e .e))))) (.n (.n (.n (.s (X38 F.tab) .e (.s (X2x) .e .e)) .e) (.n (.n (.s (X20) .e .e) .e) (.n (.n (.s (X22) .e .e) .e) .e))) .e))) (.n (.s (Xb (s23 F) Xt) (.n .e (.n (.n (.n .e (.s (X5p) .e .e)) (.s (X30) .e .e)) .e)) (.n (.n (.n (.s (X2v F.err) (.n (.s (X13) .e .e) .e) (.s (X1z) .e .e)) .e) .e) .e)) (.s (Xb (s24 F) (Xb (s27 F) (Xb (s28 F) (Xb (s29 F) (Xb (s30 F) (Xb (s31 F) (Xb (s32 F) (Xb (s65 F) (Xb (s66 F) Xt))))))))) (.s (Xb (s67 F) (Xb (s68 F) (Xb (s69 F) (Xb (s105 F) Xt)))) (.n (.n .e (.n (.n .e (.s (X36) .e .e)) .e)) .e) (.n (.n .e (.n .e (.n (.n (.s (X2q) .e .e) .e) .e))) (.n .e (.n .e (.n .e (.s (X5m) .e .e)))))) (.n (.n (.n (.s (okPu F.err) .e .e) .e) .e) (.s (X2p) .e (.n (.s (Xb (s70 F) Xt) .e .e) .e))))))
theorem q14 (F:Fq W):Xq Tryz.prog W (T14 1000):=X2k mixedOrders (X1y (p14 F)) 1000
theorem runs (F:Fq W):Calls Tryz.prog 3 #[] W fun e w'=>e=.returned (.bool true)∧RowKit.Below W.heap.size W w':=by
 obtain ⟨m,hm⟩:=top
 exact Xbf (q14 F) (fn:=Tryz.f3) Tryz.func3 rfl rfl rfl hm (fun φ cv h=>Xj7 h)
end Go.Ab.Sh
