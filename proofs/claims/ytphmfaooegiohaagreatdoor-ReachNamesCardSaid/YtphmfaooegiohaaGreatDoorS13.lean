/-
  Functions of the program as plain definitions. No conditions.
-/
import Derived.Test.YtphmfaooegiohaaGreatDoorAb5
import Derived.Test.YtphmfaooegiohaaGreatDoorZ
import Derived.KernelRfl
import Derived.Test.YtphmfaooegiohaaGreatDoorProg
set_option linter.unusedVariables false
set_option maxRecDepth 100000
namespace Go.Ab.Sh
open Go Go.Ab Go.Proofs
noncomputable section
def Qnl (G:Gt)(p3:V)(m:M):R:=some (p3,m)
def Q14c (G:Gt)(p0 p1:V)(m:M):R:=bp (pur (bin .lss true true .int p0 (.int .i64 0)) m) fun x0 m=>brb x0 (Qnl G (.bool true) m) (bp (pur (X4 false 1 p1 m) m) fun x1 m=>bp (pur (X9 x1) m) fun x2 m=>bp (pur (X0 0 x2) m) fun x3 m=>bp (pur (X4 false 1 x3 m) m) fun x4 m=>bp (pur (bin .geq false true .int p0 x4) m) fun x5 m=>Qnl G x5 m)
def Qsh (G:Gt)(p0 p1:V)(m:M):R:=Q14c G p0 p1 m
theorem Q1rj (G:Gt)(a0 a1:V)(m:M):ef G Tryz.f180 [a0,a1] m = Qsh G a0 a1 m:=X6 (r:=fun r m=>Qsh G (r 0) (r 1) m) rfl rfl (tr (seqQ (f:=fun r m=>Q14c G (r 0) (r 1) m) (tr (seqQ (f:=fun r m=>Qnl G (r 3) m))))) m
def Q1rk:En:=⟨Q1d0,Tryz.f180,Tryz.func180,by kernel_rfl,arg2 Qsh,Xf Q1rj⟩
def Qlz (G:Gt)(m:M):R:=some ((.int .i64 (-1)),m)
def Qcr (G:Gt):Nat→V→V→V→V→M→R
 | 0,_,_,_,_,_=>none
 | i + 1,p8,p7,p1,p0,m=>bp (pur (bin .lss false true .int p8 p7) m) fun x0 m=>brb x0 (bp (pur (X3 1 p0 p8) m) fun x1 m=>bp (pur (X4 false 1 x1 m) m) fun x2 m=>bp (Xj G.tab p1 [x2] m) fun x3 m=>brb x3 (some (p8,m)) (bp (pur (bin .add true true .int p8 (.int .i64 1)) m) fun x4 m=>(Qcr G i) x4 p7 p1 p0 m)) (Qlz G m)
def Qm0 (G:Gt)(p8 p7 p1 p0:V)(m:M):R:=Qcr G G.rds p8 p7 p1 p0 m
def Qm1 (G:Gt)(p0 p1:V)(m:M):R:=bp (pur (lenK 1 p0 m) m) fun x5 m=>Qm0 G (.int .i64 0) x5 p1 p0 m
def Qej (G:Gt)(p0 p1:V)(m:M):R:=Qm1 G p0 p1 m
theorem Q1fp (G:Gt)(a0 a1:V)(m:M):ef G Tryz.f181 [a0,a1] m = Qej G a0 a1 m:=X6 (r:=fun r m=>Qej G (r 0) (r 1) m) rfl rfl (tr (seqQ (f:=fun r m=>Qm1 G (r 0) (r 1) m) (tr (tr (seqQ (f:=fun r m=>Qlz G m)) (seqQ (f:=fun r m=>Qm0 G (r 8) (r 7) (r 1) (r 0) m) (tr (X7 (Xc (fun i r m=>Qcr G i (r 8) (r 7) (r 1) (r 0) m) (fun _ _=>rfl) (fun i0=>fun r m=>by kernel_rfl))))))))) m
def Q1fq:En:=⟨Qov,Tryz.f181,Tryz.func181,by kernel_rfl,arg2 Qej,Xf Q1fp⟩
def Q1rl (G:Gt)(p0:V)(m:M):R:=bp (pur (bin .mul true true .int (.int .i64 2) p0) m) fun x0 m=>bp (pur (bin .add true true .int x0 (.int .i64 1)) m) fun x1 m=>some (x1,m)
theorem Q29m (G:Gt)(a0:V)(m:M):ef G Tryz.f183 [a0] m = Q1rl G a0 m:=X6 (r:=fun r m=>Q1rl G (r 0) m) rfl rfl (fun r m=>by kernel_rfl) m
def Q29n:En:=⟨Q22j,Tryz.f183,Tryz.func183,by kernel_rfl,arg1 Q1rl,Xk Q29m⟩
def Q7c (G:Gt)(p16 p1 p0 p3 p4 p2:V)(m:M):R:=brb p16 (some (.tuple ⟨[]⟩,m)) (bp (pur (X4 false 1 p1 m) m) fun x0 m=>bp (unt (Xd .int x0 p0 (.bool true) m)) fun _ m=>bp (pur (X4 false 1 p3 m) m) fun x1 m=>bp (Xa Q3o [(.int .i32 0)] 1 1 [(0,p0)] m) fun x2 m=>bp (apS Q3o 1 4 x1 x2 m) fun x3 m=>bp (unt (X8 1 p3 x3 m)) fun _ m=>bp (pur (X4 false 1 p4 m) m) fun x4 m=>bp (pur (X4 false 1 p2 m) m) fun x5 m=>bp (pur (X9 x5) m) fun x6 m=>bp (pur (X0 2 x6) m) fun x7 m=>bp (pur (X4 false 1 x7 m) m) fun x8 m=>bp (pur (X3 3 x8 p0) m) fun x9 m=>bp (pur (X0 1 x9) m) fun x10 m=>bp (pur (X4 false 1 x10 m) m) fun x11 m=>bp (Xj G.tab x4 [x11] m) fun x12 m=>bp (pur (X4 false 1 p4 m) m) fun x13 m=>bp (pur (X4 false 1 p2 m) m) fun x14 m=>bp (pur (X9 x14) m) fun x15 m=>bp (pur (X0 2 x15) m) fun x16 m=>bp (pur (X4 false 1 x16 m) m) fun x17 m=>bp (pur (X3 3 x17 p0) m) fun x18 m=>bp (pur (X0 2 x18) m) fun x19 m=>bp (pur (X4 false 1 x19 m) m) fun x20 m=>bp (Xj G.tab x13 [x20] m) fun x21 m=>some (.tuple ⟨[]⟩,m))
def Q23 (G:Gt)(p1 p0 p2 p3 p4:V)(m:M):R:=bp (pur (X4 false 1 p1 m) m) fun x22 m=>bp (pur (Xg .int (.bool false) false x22 p0 m) m) fun x23 m=>brb x23 (Q7c G (.bool true) p1 p0 p3 p4 p2 m) (bp (pur (X4 false 1 p2 m) m) fun x24 m=>bp (pur (X9 x24) m) fun x25 m=>bp (pur (X0 6 x25) m) fun x26 m=>bp (pur (X4 false 1 x26 m) m) fun x27 m=>bp (pur (Xg .int (.bool false) false x27 p0 m) m) fun x28 m=>Q7c G x28 p1 p0 p3 p4 p2 m)
theorem Q1ut (G:Gt)(a0 a1 a2 a3 a4:V)(m:M):ef G Tryz.f185 [a0,a1,a2,a3,a4] m = Q23 G a1 a0 a2 a3 a4 m:=X6 (r:=fun r m=>Q23 G (r 1) (r 0) (r 2) (r 3) (r 4) m) rfl rfl (tr (tr seqD (seqQ (f:=fun r m=>Q7c G (r 16) (r 1) (r 0) (r 3) (r 4) (r 2) m)))) m
def Qv1:En:=⟨Q2g,Tryz.f185,Tryz.func185,by kernel_rfl,arg5 (fun G a0 a1 a2 a3 a4 m=>Q23 G a1 a0 a2 a3 a4 m),X30 Q1ut⟩
def Q5r (G:Gt)(p1 p2 p3 p0 p4 p5:V)(m:M):R:=bp (pur (X4 false 1 p1 m) m) fun x0 m=>bp (pur (X4 false 1 p1 m) m) fun x1 m=>bp (pur (X4 false 1 p2 m) m) fun x2 m=>bp (pur (X4 false 1 p3 m) m) fun x3 m=>bp (pur (X4 false 1 p1 m) m) fun x4 m=>bp (pur (X4 false 1 p4 m) m) fun x5 m=>bp (pur (X4 false 1 p3 m) m) fun x6 m=>bp (pur (X4 false 1 p1 m) m) fun x7 m=>bp (pur (X4 false 1 p5 m) m) fun x8 m=>bp (pur (X4 false 1 p3 m) m) fun x9 m=>bp (G.tab Qbw [x1,x2,x3,p0] m) fun x10 m=>ckB (again (pur (X4 false 1 p1 m) m) x0 && (again (pur (X4 false 1 p1 m) m) x4 && (again (pur (X4 false 1 p4 m) m) x5 && (again (pur (X4 false 1 p3 m) m) x6 && (again (pur (X4 false 1 p1 m) m) x7 && (again (pur (X4 false 1 p5 m) m) x8 && (again (pur (X4 false 1 p3 m) m) x9 && true))))))) (bp (G.tab Qbw [x4,x5,x6,p0] m) fun x11 m=>ckB (again (pur (X4 false 1 p1 m) m) x0 && (again (pur (X4 false 1 p1 m) m) x7 && (again (pur (X4 false 1 p5 m) m) x8 && (again (pur (X4 false 1 p3 m) m) x9 && true)))) (bp (G.tab Qbw [x7,x8,x9,p0] m) fun x12 m=>ckB (again (pur (X4 false 1 p1 m) m) x0 && true) (bp (G.tab Q2m [x0,x10,x11,x12] m) fun x13 m=>some (x13,m))))
theorem Q1x3 (G:Gt)(a0 a1 a2 a3 a4 a5:V)(m:M):ef G Tryz.f186 [a0,a1,a2,a3,a4,a5] m = Q5r G a1 a2 a3 a0 a4 a5 m:=X6 (r:=fun r m=>Q5r G (r 1) (r 2) (r 3) (r 0) (r 4) (r 5) m) rfl rfl (fun r m=>by kernel_rfl) m
def Qyj:En:=⟨Q7f,Tryz.f186,Tryz.func186,by kernel_rfl,arg6 (fun G a0 a1 a2 a3 a4 a5 m=>Q5r G a1 a2 a3 a0 a4 a5 m),Xh0 Q1x3⟩
def Qid (G:Gt)(p10:V)(m:M):R:=some (p10,m)
def Qpa (G:Gt)(p11 p0 p9 p10:V)(m:M):R:=bp (pur (un .not p11) m) fun x0 m=>brb x0 (bp (pur (X9 p0) m) fun x1 m=>bp (pur (X0 2 x1) m) fun x2 m=>bp (pur (X4 false 1 x2 m) m) fun x3 m=>bp (pur (lenK 1 x3 m) m) fun x4 m=>bp (conv (.int .i32) x4 m) fun x5 m=>bp (pur (X9 p0) m) fun x6 m=>bp (pur (X0 2 x6) m) fun x7 m=>bp (pur (X4 false 1 x7 m) m) fun x8 m=>bp (pur (X4 true 3 p9 m) m) fun x9 m=>bp (Xa Q13 Qde 3 1 [(0,x9)] m) fun x10 m=>bp (apS Q13 3 12 x8 x10 m) fun x11 m=>bp (pur (X9 p0) m) fun x12 m=>bp (pur (X0 2 x12) m) fun x13 m=>bp (unt (X8 1 x13 x11 m)) fun _ m=>bp (pur (X9 p0) m) fun x14 m=>bp (pur (X0 3 x14) m) fun x15 m=>bp (pur (X4 false 1 x15 m) m) fun x16 m=>bp (pur (X4 true 3 p9 m) m) fun x17 m=>bp (unt (Xd (.struct [(0,1,false,.int),(1,1,false,.int),(2,1,false,.int)]) x16 x17 x5 m)) fun _ m=>Qid G x5 m) (Qid G p10 m)
def Qp9 (G:Gt)(p0 p9:V)(m:M):R:=bp (pur (X9 p0) m) fun x18 m=>bp (pur (X0 3 x18) m) fun x19 m=>bp (pur (X4 false 1 x19 m) m) fun x20 m=>bp (pur (X4 true 3 p9 m) m) fun x21 m=>bp (pur (Xg (.struct [(0,1,false,.int),(1,1,false,.int),(2,1,false,.int)]) (.int .i32 0) true x20 x21 m) m) fun x22 m=>bp (pur (X5 x22 0) m) fun x23 m=>bp (pur (X5 x22 1) m) fun x24 m=>Qpa G x24 p0 p9 x23 m
def Qp8 (G:Gt)(p1 p2 p3 p0:V)(m:M):R:=bp (pur (Xe Qde [(0,1),(1,1),(2,1)] [(0,p1),(1,p2),(2,p3)]) m) fun x25 m=>bp (some (aNew Q13 Qde m)) fun x26 m=>bp (unt (X8 3 x26 x25 m)) fun _ m=>Qp9 G p0 x26 m
def Qic (G:Gt)(p2 p3 p1 p0:V)(m:M):R:=bp (pur (bin .eql false true .int p2 p3) m) fun x27 m=>brb x27 (some (p2,m)) (Qp8 G p1 p2 p3 p0 m)
def Q57 (G:Gt)(p2 p3 p1 p0:V)(m:M):R:=Qic G p2 p3 p1 p0 m
theorem Q22k (G:Gt)(a0 a1 a2 a3:V)(m:M):ef G Tryz.f187 [a0,a1,a2,a3] m = Q57 G a2 a3 a1 a0 m:=X6 (r:=fun r m=>Q57 G (r 2) (r 3) (r 1) (r 0) m) rfl rfl (tr (seqQ (f:=fun r m=>Qic G (r 2) (r 3) (r 1) (r 0) m) (tr (seqQ (f:=fun r m=>Qp8 G (r 1) (r 2) (r 3) (r 0) m) (tr (seqQ (f:=fun r m=>Qp9 G (r 0) (r 9) m) (tr (seqQ (f:=fun r m=>Qpa G (r 11) (r 0) (r 9) (r 10) m) (tr (seqQ (f:=fun r m=>Qid G (r 10) m))))))))))) m
def Q1de:En:=⟨Q99,Tryz.f187,Tryz.func187,by kernel_rfl,arg4 (fun G a0 a1 a2 a3 m=>Q57 G a2 a3 a1 a0 m),X19 Q22k⟩
def Qfv (G:Gt)(k0:J4)(p6 p2 p1 p0:V)(m:M):R:=bp (pur (bin .add true true .int p6 (.int .i64 1)) m) fun x0 m=>k0 x0 p2 p1 p0 m
def Q7p (G:Gt)(k1:J5)(k0:J4)(p30 p0 p7 p1 p6 p2:V)(m:M):R:=brb p30 (bp (pur (bin .sub true true .int p7 (.int .i64 1)) m) fun x1 m=>bp (pur (bin .sub true true .int p7 (.int .i64 1)) m) fun x2 m=>bp (pur (X3 1 p0 x2) m) fun x3 m=>bp (pur (X4 false 1 x3 m) m) fun x4 m=>bp (pur (X3 1 p0 p7) m) fun x5 m=>bp (pur (X4 false 1 x5 m) m) fun x6 m=>bp (pur (X3 1 p0 p7) m) fun x7 m=>bp (unt (X8 1 x7 x4 m)) fun _ m=>bp (pur (X3 1 p0 x1) m) fun x8 m=>bp (unt (X8 1 x8 x6 m)) fun _ m=>bp (pur (bin .sub true true .int p7 (.int .i64 1)) m) fun x9 m=>k1 x9 p1 p0 p6 p2 m) (Qfv G k0 p6 p2 p1 p0 m)
def Q2z (G:Gt)(k0:J4):Nat→V→V→V→V→V→M→R
 | 0,_,_,_,_,_,_=>none
 | i + 1,p7,p1,p0,p6,p2,m=>bp (pur (bin .gtr false true .int p7 p1) m) fun x10 m=>brt x10 (bp (pur (X3 1 p0 p7) m) fun x11 m=>bp (pur (X4 false 1 x11 m) m) fun x12 m=>bp (pur (bin .sub true true .int p7 (.int .i64 1)) m) fun x13 m=>bp (pur (X3 1 p0 x13) m) fun x14 m=>bp (pur (X4 false 1 x14 m) m) fun x15 m=>bp (G.tab Q2j [x12,x15] m) fun x16 m=>Q7p G (Q2z G k0 i) k0 x16 p0 p7 p1 p6 p2 m) (Q7p G (Q2z G k0 i) k0 (.bool false) p0 p7 p1 p6 p2 m) (none)
def Qfw (G:Gt)(k0:J4)(p7 p1 p0 p6 p2:V)(m:M):R:=Q2z G k0 G.rds p7 p1 p0 p6 p2 m
def Qfx (G:Gt)(k0:J4)(p6 p1 p0 p2:V)(m:M):R:=Qfw G k0 p6 p1 p0 p6 p2 m
def Qy (G:Gt):Nat→V→V→V→V→M→R
 | 0,_,_,_,_,_=>none
 | i + 1,p6,p2,p1,p0,m=>bp (pur (bin .lss false true .int p6 p2) m) fun x17 m=>brb x17 (Qfx G (Qy G i) p6 p1 p0 p2 m) (some (.tuple ⟨[]⟩,m))
def Qfy (G:Gt)(p6 p2 p1 p0:V)(m:M):R:=Qy G G.rds p6 p2 p1 p0 m
def Q8u (G:Gt)(p1 p2 p0:V)(m:M):R:=bp (pur (bin .add true true .int p1 (.int .i64 1)) m) fun x18 m=>Qfy G x18 p2 p1 p0 m
theorem Q13d (G:Gt)(a0 a1 a2:V)(m:M):ef G Tryz.f188 [a0,a1,a2] m = Q8u G a1 a2 a0 m:=X6 (r:=fun r m=>Q8u G (r 1) (r 2) (r 0) m) rfl rfl (tr (seqQ (f:=fun r m=>Qfy G (r 6) (r 2) (r 1) (r 0) m) (tr (X7 (Xc (fun i r m=>Qy G i (r 6) (r 2) (r 1) (r 0) m) (fun _ _=>rfl) (fun i0=>tr (seqQ (f:=fun r m=>Qfx G (Qy G i0) (r 6) (r 1) (r 0) (r 2) m) (tr (tr (seqQ (f:=fun r m=>Qfv G (Qy G i0) (r 6) (r 2) (r 1) (r 0) m)) (X7 (seqQ (f:=fun r m=>Qfw G (Qy G i0) (r 7) (r 1) (r 0) (r 6) (r 2) m) (tr (X7 (Xc (fun i r m=>Q2z G (Qy G i0) i (r 7) (r 1) (r 0) (r 6) (r 2) m) (fun _ _=>rfl) (fun i1=>tr (tr seqD (seqQ (f:=fun r m=>Q7p G (Q2z G (Qy G i0) i1) (Qy G i0) (r 30) (r 0) (r 7) (r 1) (r 6) (r 2) m)))))))))))))))))) m
def Q13e:En:=⟨Qi9,Tryz.f188,Tryz.func188,by kernel_rfl,arg3 (fun G a0 a1 a2 m=>Q8u G a1 a2 a0 m),Xr Q13d⟩
def Q8v (G:Gt)(p9 p11:V)(m:M):R:=bp (pur (X4 false 1 p9 m) m) fun x0 m=>bp (pur (bin .eql true true .int x0 (.int .i64 0)) m) fun x1 m=>brb x1 (some (.tuple ⟨[p11,(.int .i64 1)]⟩,m)) (bp (pur (bin .eql true true .int x0 (.int .i64 12)) m) fun x2 m=>brb x2 (some (.tuple ⟨[p11,(.int .i64 2)]⟩,m)) (some (.tuple ⟨[p11,(.int .i64 0)]⟩,m)))
def Q8w (G:Gt)(p0 p10 p11 p12 p9:V)(m:M):R:=bp (G.tab Qrk [p0,p10,p11,p12,p9] m) fun x3 m=>Q8v G p9 x3 m
def Qie (G:Gt)(p32 p8 p0 p10 p9 p11 p12:V)(m:M):R:=brb p32 (bp (pur (bin .geq true true .int p8 (.int .i64 50)) m) fun x4 m=>brb x4 (bp (G.tab Q8h [p0,p10,p9] m) fun x5 m=>bp (G.tab Q8h [p0,p11,p9] m) fun x6 m=>bp (G.tab Q8h [p0,p12,p9] m) fun x7 m=>Q8w G p0 x5 x6 x7 p9 m) (Q8w G p0 p10 p11 p12 p9 m)) (Q8v G p9 p11 m)
def Qif (G:Gt)(p8 p0 p10 p9 p11 p12:V)(m:M):R:=bp (pur (bin .geq true true .int p8 (.int .i64 8)) m) fun x8 m=>Qie G x8 p8 p0 p10 p9 p11 p12 m
def Qig (G:Gt)(p1 p8 p0 p10 p9 p11:V)(m:M):R:=bp (pur (bin .quo true true .int p8 (.int .i64 4)) m) fun x9 m=>bp (pur (bin .mul true true .int x9 (.int .i64 3)) m) fun x10 m=>bp (pur (bin .add false true .int p1 x10) m) fun x11 m=>Qif G p8 p0 p10 p9 p11 x11 m
def Qih (G:Gt)(p1 p8 p0 p10 p9:V)(m:M):R:=bp (pur (bin .quo true true .int p8 (.int .i64 4)) m) fun x12 m=>bp (pur (bin .mul true true .int x12 (.int .i64 2)) m) fun x13 m=>bp (pur (bin .add false true .int p1 x13) m) fun x14 m=>Qig G p1 p8 p0 p10 p9 x14 m
def Qii (G:Gt)(p1 p8 p0 p9:V)(m:M):R:=bp (pur (bin .quo true true .int p8 (.int .i64 4)) m) fun x15 m=>bp (pur (bin .mul true true .int x15 (.int .i64 1)) m) fun x16 m=>bp (pur (bin .add false true .int p1 x16) m) fun x17 m=>Qih G p1 p8 p0 x17 p9 m
def Qij (G:Gt)(p1 p8 p0:V)(m:M):R:=bp (some (aNew Q6s [(.int .i64 0)] m)) fun x18 m=>Qii G p1 p8 p0 x18 m
def Qik (G:Gt)(p2 p1 p0:V)(m:M):R:=bp (pur (bin .sub false true .int p2 p1) m) fun x19 m=>Qij G p1 x19 p0 m
def Qbx (G:Gt)(p2 p1 p0:V)(m:M):R:=Qik G p2 p1 p0 m
theorem Q183 (G:Gt)(a0 a1 a2:V)(m:M):ef G Tryz.f191 [a0,a1,a2] m = Qbx G a2 a1 a0 m:=X6 (r:=fun r m=>Qbx G (r 2) (r 1) (r 0) m) rfl rfl (tr (seqQ (f:=fun r m=>Qik G (r 2) (r 1) (r 0) m) (tr (seqQ (f:=fun r m=>Qij G (r 1) (r 8) (r 0) m) (tr (seqQ (f:=fun r m=>Qii G (r 1) (r 8) (r 0) (r 9) m) (tr (seqQ (f:=fun r m=>Qih G (r 1) (r 8) (r 0) (r 10) (r 9) m) (tr (seqQ (f:=fun r m=>Qig G (r 1) (r 8) (r 0) (r 10) (r 9) (r 11) m) (tr (seqQ (f:=fun r m=>Qif G (r 8) (r 0) (r 10) (r 9) (r 11) (r 12) m) (tr (tr (seqQ (f:=fun r m=>Q8v G (r 9) (r 11) m)) (seqQ (f:=fun r m=>Qie G (r 32) (r 8) (r 0) (r 10) (r 9) (r 11) (r 12) m) (tr (X1q (seqQ (f:=fun r m=>Q8w G (r 0) (r 10) (r 11) (r 12) (r 9) m)) (refQ)))))))))))))))))) m
def Q184:En:=⟨Qkf,Tryz.f191,Tryz.func191,by kernel_rfl,arg3 (fun G a0 a1 a2 m=>Qbx G a2 a1 a0 m),Xr Q183⟩
end
end Go.Ab.Sh

set_option linter.unusedVariables false
set_option maxRecDepth 100000
namespace Go.Ab.Sh
open Go Go.Ab Go.Proofs
noncomputable section
def Qag (G:Gt)(m:M):R:=some ((.bool false),m)
def Q31 (G:Gt)(k0:J5)(p8 p7 p2 p0 p1:V)(m:M):R:=bp (pur (bin .add true true .int p8 (.int .i64 1)) m) fun x0 m=>k0 x0 p7 p2 p0 p1 m
def Q43 (G:Gt)(k0:J5):Nat→V→V→V→V→V→V→M→R
 | 0,_,_,_,_,_,_,_=>none
 | i + 1,p10,p2,p0,p8,p7,p1,m=>bp (pur (bin .lss false true .int p10 p2) m) fun x1 m=>brb x1 (bp (pur (X3 1 p0 p10) m) fun x2 m=>bp (pur (X4 false 1 x2 m) m) fun x3 m=>bp (pur (bin .sub true true .int p10 (.int .i64 1)) m) fun x4 m=>bp (pur (X3 1 p0 x4) m) fun x5 m=>bp (pur (X4 false 1 x5 m) m) fun x6 m=>bp (G.tab Q2j [x3,x6] m) fun x7 m=>bp (pur (un .not x7) m) fun x8 m=>brb x8 (Q31 G k0 p8 p7 p2 p0 p1 m) (bp (pur (bin .sub true true .int p10 (.int .i64 1)) m) fun x9 m=>bp (pur (bin .sub true true .int p10 (.int .i64 1)) m) fun x10 m=>bp (pur (X3 1 p0 x10) m) fun x11 m=>bp (pur (X4 false 1 x11 m) m) fun x12 m=>bp (pur (X3 1 p0 p10) m) fun x13 m=>bp (pur (X4 false 1 x13 m) m) fun x14 m=>bp (pur (X3 1 p0 p10) m) fun x15 m=>bp (unt (X8 1 x15 x12 m)) fun _ m=>bp (pur (X3 1 p0 x9) m) fun x16 m=>bp (unt (X8 1 x16 x14 m)) fun _ m=>bp (pur (bin .add true true .int p10 (.int .i64 1)) m) fun x17 m=>(Q43 G k0 i) x17 p2 p0 p8 p7 p1 m)) (Q31 G k0 p8 p7 p2 p0 p1 m)
def Q9j (G:Gt)(k0:J5)(p10 p2 p0 p8 p7 p1:V)(m:M):R:=Q43 G k0 G.rds p10 p2 p0 p8 p7 p1 m
def Q9k (G:Gt)(k0:J5)(p98 p7 p2 p0 p8 p1:V)(m:M):R:=brb p98 (bp (pur (bin .add true true .int p7 (.int .i64 1)) m) fun x18 m=>Q9j G k0 x18 p2 p0 p8 p7 p1 m) (Q31 G k0 p8 p7 p2 p0 p1 m)
def Q2q (G:Gt)(k0:J5)(p2 p7 p0 p8 p1:V)(m:M):R:=bp (pur (bin .sub false true .int p2 p7) m) fun x19 m=>bp (pur (bin .geq true true .int x19 (.int .i64 2)) m) fun x20 m=>Q9k G k0 x20 p7 p2 p0 p8 p1 m
def Q44 (G:Gt)(k0:J5):Nat→V→V→V→V→V→V→M→R
 | 0,_,_,_,_,_,_,_=>none
 | i + 1,p9,p0,p2,p7,p8,p1,m=>bp (pur (bin .geq true true .int p9 (.int .i64 1)) m) fun x21 m=>brb x21 (bp (pur (X3 1 p0 p9) m) fun x22 m=>bp (pur (X4 false 1 x22 m) m) fun x23 m=>bp (pur (bin .sub true true .int p9 (.int .i64 1)) m) fun x24 m=>bp (pur (X3 1 p0 x24) m) fun x25 m=>bp (pur (X4 false 1 x25 m) m) fun x26 m=>bp (G.tab Q2j [x23,x26] m) fun x27 m=>bp (pur (un .not x27) m) fun x28 m=>brb x28 (Q2q G k0 p2 p7 p0 p8 p1 m) (bp (pur (bin .sub true true .int p9 (.int .i64 1)) m) fun x29 m=>bp (pur (bin .sub true true .int p9 (.int .i64 1)) m) fun x30 m=>bp (pur (X3 1 p0 x30) m) fun x31 m=>bp (pur (X4 false 1 x31 m) m) fun x32 m=>bp (pur (X3 1 p0 p9) m) fun x33 m=>bp (pur (X4 false 1 x33 m) m) fun x34 m=>bp (pur (X3 1 p0 p9) m) fun x35 m=>bp (unt (X8 1 x35 x32 m)) fun _ m=>bp (pur (X3 1 p0 x29) m) fun x36 m=>bp (unt (X8 1 x36 x34 m)) fun _ m=>bp (pur (bin .sub true true .int p9 (.int .i64 1)) m) fun x37 m=>(Q44 G k0 i) x37 p0 p2 p7 p8 p1 m)) (Q2q G k0 p2 p7 p0 p8 p1 m)
def Q9l (G:Gt)(k0:J5)(p9 p0 p2 p7 p8 p1:V)(m:M):R:=Q44 G k0 G.rds p9 p0 p2 p7 p8 p1 m
def Q9m (G:Gt)(k0:J5)(p61 p7 p0 p2 p8 p1:V)(m:M):R:=brb p61 (bp (pur (bin .sub true true .int p7 (.int .i64 1)) m) fun x38 m=>Q9l G k0 x38 p0 p2 p7 p8 p1 m) (Q2q G k0 p2 p7 p0 p8 p1 m)
def Q9n (G:Gt)(k0:J5)(p7 p1 p0 p2 p8:V)(m:M):R:=bp (pur (bin .sub false true .int p7 p1) m) fun x39 m=>bp (pur (bin .geq true true .int x39 (.int .i64 2)) m) fun x40 m=>Q9m G k0 x40 p7 p0 p2 p8 p1 m
def Qah (G:Gt)(k0:J5)(p0 p7 p1 p2 p8:V)(m:M):R:=bp (pur (bin .sub true true .int p7 (.int .i64 1)) m) fun x41 m=>bp (pur (bin .sub true true .int p7 (.int .i64 1)) m) fun x42 m=>bp (pur (X3 1 p0 x42) m) fun x43 m=>bp (pur (X4 false 1 x43 m) m) fun x44 m=>bp (pur (X3 1 p0 p7) m) fun x45 m=>bp (pur (X4 false 1 x45 m) m) fun x46 m=>bp (pur (X3 1 p0 p7) m) fun x47 m=>bp (unt (X8 1 x47 x44 m)) fun _ m=>bp (pur (X3 1 p0 x41) m) fun x48 m=>bp (unt (X8 1 x48 x46 m)) fun _ m=>Q9n G k0 p7 p1 p0 p2 p8 m
def Qai (G:Gt)(k0:J5)(p2 p1 p0 p7 p8:V)(m:M):R:=bp (pur (bin .sub false true .int p2 p1) m) fun x49 m=>bp (pur (bin .lss true true .int x49 (.int .i64 50)) m) fun x50 m=>brb x50 (some ((.bool false),m)) (Qah G k0 p0 p7 p1 p2 p8 m)
def Qaj (G:Gt)(k0:J5)(p7 p2 p1 p0 p8:V)(m:M):R:=bp (pur (bin .eql false true .int p7 p2) m) fun x51 m=>brb x51 (some ((.bool true),m)) (Qai G k0 p2 p1 p0 p7 p8 m)
def Q45 (G:Gt)(k1:J5)(k0:J5)(p32 p7 p2 p0 p1 p8:V)(m:M):R:=brb p32 (bp (pur (bin .add true true .int p7 (.int .i64 1)) m) fun x52 m=>k1 x52 p2 p0 p1 p8 m) (Qaj G k0 p7 p2 p1 p0 p8 m)
def Q1m (G:Gt)(k0:J5):Nat→V→V→V→V→V→M→R
 | 0,_,_,_,_,_,_=>none
 | i + 1,p7,p2,p0,p1,p8,m=>bp (pur (bin .lss false true .int p7 p2) m) fun x53 m=>brt x53 (bp (pur (X3 1 p0 p7) m) fun x54 m=>bp (pur (X4 false 1 x54 m) m) fun x55 m=>bp (pur (bin .sub true true .int p7 (.int .i64 1)) m) fun x56 m=>bp (pur (X3 1 p0 x56) m) fun x57 m=>bp (pur (X4 false 1 x57 m) m) fun x58 m=>bp (G.tab Q2j [x55,x58] m) fun x59 m=>bp (pur (un .not x59) m) fun x60 m=>Q45 G (Q1m G k0 i) k0 x60 p7 p2 p0 p1 p8 m) (Q45 G (Q1m G k0 i) k0 (.bool false) p7 p2 p0 p1 p8 m) (none)
def Qak (G:Gt)(k0:J5)(p7 p2 p0 p1 p8:V)(m:M):R:=Q1m G k0 G.rds p7 p2 p0 p1 p8 m
def Q2 (G:Gt):Nat→V→V→V→V→V→M→R
 | 0,_,_,_,_,_,_=>none
 | i + 1,p8,p7,p2,p0,p1,m=>bp (pur (bin .lss true true .int p8 (.int .i64 5)) m) fun x61 m=>brb x61 (Qak G (Q2 G i) p7 p2 p0 p1 p8 m) (Qag G m)
def Qal (G:Gt)(p8 p7 p2 p0 p1:V)(m:M):R:=Q2 G G.rds p8 p7 p2 p0 p1 m
def Qam (G:Gt)(p7 p2 p0 p1:V)(m:M):R:=Qal G (.int .i64 0) p7 p2 p0 p1 m
def Qan (G:Gt)(p1 p2 p0:V)(m:M):R:=bp (pur (bin .add true true .int p1 (.int .i64 1)) m) fun x62 m=>Qam G x62 p2 p0 p1 m
def Q5a (G:Gt)(p1 p2 p0:V)(m:M):R:=Qan G p1 p2 p0 m
theorem Qqv (G:Gt)(a0 a1 a2:V)(m:M):ef G Tryz.f193 [a0,a1,a2] m = Q5a G a1 a2 a0 m:=X6 (r:=fun r m=>Q5a G (r 1) (r 2) (r 0) m) rfl rfl (tr (seqQ (f:=fun r m=>Qan G (r 1) (r 2) (r 0) m) (tr (seqQ (f:=fun r m=>Qam G (r 7) (r 2) (r 0) (r 1) m) (tr (tr (seqQ (f:=fun r m=>Qag G m)) (seqQ (f:=fun r m=>Qal G (r 8) (r 7) (r 2) (r 0) (r 1) m) (tr (X7 (Xc (fun i r m=>Q2 G i (r 8) (r 7) (r 2) (r 0) (r 1) m) (fun _ _=>rfl) (fun i0=>tr (seqQ (f:=fun r m=>Qak G (Q2 G i0) (r 7) (r 2) (r 0) (r 1) (r 8) m) (tr (tr (seqQ (f:=fun r m=>Q31 G (Q2 G i0) (r 8) (r 7) (r 2) (r 0) (r 1) m)) (X7 (tr (seqQ (f:=fun r m=>Qaj G (Q2 G i0) (r 7) (r 2) (r 1) (r 0) (r 8) m) (tr (seqQ (f:=fun r m=>Qai G (Q2 G i0) (r 2) (r 1) (r 0) (r 7) (r 8) m) (tr (seqQ (f:=fun r m=>Qah G (Q2 G i0) (r 0) (r 7) (r 1) (r 2) (r 8) m) (tr (seqQ (f:=fun r m=>Q9n G (Q2 G i0) (r 7) (r 1) (r 0) (r 2) (r 8) m) (tr (tr (seqQ (f:=fun r m=>Q2q G (Q2 G i0) (r 2) (r 7) (r 0) (r 8) (r 1) m) (tr (seqQ (f:=fun r m=>Q9k G (Q2 G i0) (r 98) (r 7) (r 2) (r 0) (r 8) (r 1) m) (tr (X1q (seqQ (f:=fun r m=>Q9j G (Q2 G i0) (r 10) (r 2) (r 0) (r 8) (r 7) (r 1) m) (tr (X7 (Xc (fun i r m=>Q43 G (Q2 G i0) i (r 10) (r 2) (r 0) (r 8) (r 7) (r 1) m) (fun _ _=>rfl) (fun i1=>fun r m=>by kernel_rfl))))) (refQ)))))) (seqQ (f:=fun r m=>Q9m G (Q2 G i0) (r 61) (r 7) (r 0) (r 2) (r 8) (r 1) m) (tr (X1q (seqQ (f:=fun r m=>Q9l G (Q2 G i0) (r 9) (r 0) (r 2) (r 7) (r 8) (r 1) m) (tr (X7 (Xc (fun i r m=>Q44 G (Q2 G i0) i (r 9) (r 0) (r 2) (r 7) (r 8) (r 1) m) (fun _ _=>rfl) (fun i1=>fun r m=>by kernel_rfl))))) (refQ))))))))))))) (X7 (Xc (fun i r m=>Q1m G (Q2 G i0) i (r 7) (r 2) (r 0) (r 1) (r 8) m) (fun _ _=>rfl) (fun i1=>tr (tr seqD (seqQ (f:=fun r m=>Q45 G (Q1m G (Q2 G i0) i1) (Q2 G i0) (r 32) (r 7) (r 2) (r 0) (r 1) (r 8) m)))))))))))))))))))))) m
def Qqw:En:=⟨Qd0,Tryz.f193,Tryz.func193,by kernel_rfl,arg3 (fun G a0 a1 a2 m=>Q5a G a1 a2 a0 m),Xr Qqv⟩
def Qi8 (G:Gt)(p4:V)(m:M):R:=some (p4,m)
def Q137 (G:Gt)(p0 p1:V)(m:M):R:=bp (G.tab Qbt [p0] m) fun x0 m=>brb x0 (bp (G.tab Qbt [p1] m) fun x1 m=>bp (pur (un .not x1) m) fun x2 m=>brb x2 (Qi8 G (.bool true) m) (bp (pur (bin .lss false true .int p0 p1) m) fun x3 m=>Qi8 G x3 m)) (bp (pur (bin .lss false true .int p0 p1) m) fun x4 m=>Qi8 G x4 m)
def Qdf (G:Gt)(p0 p1:V)(m:M):R:=Q137 G p0 p1 m
theorem Q22l (G:Gt)(a0 a1:V)(m:M):ef G Tryz.f194 [a0,a1] m = Qdf G a0 a1 m:=X6 (r:=fun r m=>Qdf G (r 0) (r 1) m) rfl rfl (tr (seqQ (f:=fun r m=>Q137 G (r 0) (r 1) m) (tr (seqQ (f:=fun r m=>Qi8 G (r 4) m))))) m
def Q1cz:En:=⟨Q2j,Tryz.f194,Tryz.func194,by kernel_rfl,arg2 Qdf,Xf Q22l⟩
def Qkl (G:Gt)(p0 p11 p1:V)(m:M):R:=bp (pur (X3 1 p0 p1) m) fun x0 m=>bp (pur (X4 false 1 x0 m) m) fun x1 m=>bp (pur (X3 1 p0 p11) m) fun x2 m=>bp (pur (X4 false 1 x2 m) m) fun x3 m=>bp (pur (X3 1 p0 p11) m) fun x4 m=>bp (unt (X8 1 x4 x1 m)) fun _ m=>bp (pur (X3 1 p0 p1) m) fun x5 m=>bp (unt (X8 1 x5 x3 m)) fun _ m=>some (.tuple ⟨[p11,(.bool false)]⟩,m)
def Qjn (G:Gt)(k0:J4)(p10 p11 p0 p1:V)(m:M):R:=bp (pur (bin .gtr false true .int p10 p11) m) fun x6 m=>brb x6 (Qkl G p0 p11 p1 m) (bp (pur (X3 1 p0 p11) m) fun x7 m=>bp (pur (X4 false 1 x7 m) m) fun x8 m=>bp (pur (X3 1 p0 p10) m) fun x9 m=>bp (pur (X4 false 1 x9 m) m) fun x10 m=>bp (pur (X3 1 p0 p10) m) fun x11 m=>bp (unt (X8 1 x11 x8 m)) fun _ m=>bp (pur (X3 1 p0 p11) m) fun x12 m=>bp (unt (X8 1 x12 x10 m)) fun _ m=>bp (pur (bin .add true true .int p10 (.int .i64 1)) m) fun x13 m=>bp (pur (bin .sub true true .int p11 (.int .i64 1)) m) fun x14 m=>k0 x13 x14 p0 p1 m)
def Q9o (G:Gt)(k1:J4)(k0:J4)(p129 p11 p10 p0 p1:V)(m:M):R:=brb p129 (bp (pur (bin .sub true true .int p11 (.int .i64 1)) m) fun x15 m=>k1 p10 x15 p0 p1 m) (Qjn G k0 p10 p11 p0 p1 m)
def Q37 (G:Gt)(k0:J4):Nat→V→V→V→V→M→R
 | 0,_,_,_,_,_=>none
 | i + 1,p10,p11,p0,p1,m=>bp (pur (bin .leq false true .int p10 p11) m) fun x16 m=>brt x16 (bp (pur (X3 1 p0 p11) m) fun x17 m=>bp (pur (X4 false 1 x17 m) m) fun x18 m=>bp (pur (X3 1 p0 p1) m) fun x19 m=>bp (pur (X4 false 1 x19 m) m) fun x20 m=>bp (G.tab Q2j [x18,x20] m) fun x21 m=>bp (pur (un .not x21) m) fun x22 m=>Q9o G (Q37 G k0 i) k0 x22 p11 p10 p0 p1 m) (Q9o G (Q37 G k0 i) k0 (.bool false) p11 p10 p0 p1 m) (none)
def Qjo (G:Gt)(k0:J4)(p10 p11 p0 p1:V)(m:M):R:=Q37 G k0 G.rds p10 p11 p0 p1 m
def Q9p (G:Gt)(k1:J4)(k0:J4)(p112 p10 p11 p0 p1:V)(m:M):R:=brb p112 (bp (pur (bin .add true true .int p10 (.int .i64 1)) m) fun x23 m=>k1 x23 p11 p0 p1 m) (Qjo G k0 p10 p11 p0 p1 m)
def Q38 (G:Gt)(k0:J4):Nat→V→V→V→V→M→R
 | 0,_,_,_,_,_=>none
 | i + 1,p10,p11,p0,p1,m=>bp (pur (bin .leq false true .int p10 p11) m) fun x24 m=>brt x24 (bp (pur (X3 1 p0 p10) m) fun x25 m=>bp (pur (X4 false 1 x25 m) m) fun x26 m=>bp (pur (X3 1 p0 p1) m) fun x27 m=>bp (pur (X4 false 1 x27 m) m) fun x28 m=>bp (G.tab Q2j [x26,x28] m) fun x29 m=>Q9p G (Q38 G k0 i) k0 x29 p10 p11 p0 p1 m) (Q9p G (Q38 G k0 i) k0 (.bool false) p10 p11 p0 p1 m) (none)
def Qt (G:Gt):Nat→V→V→V→V→M→R
 | 0,_,_,_,_,_=>none
 | i + 1,p10,p11,p0,p1,m=>Q38 G (Qt G i) G.rds p10 p11 p0 p1 m
def Qkm (G:Gt)(p10 p11 p0 p1:V)(m:M):R:=Qt G G.rds p10 p11 p0 p1 m
def Qkn (G:Gt)(p11 p10 p0 p1:V)(m:M):R:=bp (pur (bin .sub true true .int p11 (.int .i64 1)) m) fun x30 m=>Qkm G p10 x30 p0 p1 m
def Qko (G:Gt)(p10 p11 p0 p1:V)(m:M):R:=bp (pur (bin .add true true .int p10 (.int .i64 1)) m) fun x31 m=>Qkn G p11 x31 p0 p1 m
def Qkp (G:Gt)(p0 p10 p11 p1:V)(m:M):R:=bp (pur (X3 1 p0 p11) m) fun x32 m=>bp (pur (X4 false 1 x32 m) m) fun x33 m=>bp (pur (X3 1 p0 p10) m) fun x34 m=>bp (pur (X4 false 1 x34 m) m) fun x35 m=>bp (pur (X3 1 p0 p10) m) fun x36 m=>bp (unt (X8 1 x36 x33 m)) fun _ m=>bp (pur (X3 1 p0 p11) m) fun x37 m=>bp (unt (X8 1 x37 x35 m)) fun _ m=>Qko G p10 p11 p0 p1 m
def Qkq (G:Gt)(p10 p11 p0 p1:V)(m:M):R:=bp (pur (bin .gtr false true .int p10 p11) m) fun x38 m=>brb x38 (bp (pur (X3 1 p0 p1) m) fun x39 m=>bp (pur (X4 false 1 x39 m) m) fun x40 m=>bp (pur (X3 1 p0 p11) m) fun x41 m=>bp (pur (X4 false 1 x41 m) m) fun x42 m=>bp (pur (X3 1 p0 p11) m) fun x43 m=>bp (unt (X8 1 x43 x40 m)) fun _ m=>bp (pur (X3 1 p0 p1) m) fun x44 m=>bp (unt (X8 1 x44 x42 m)) fun _ m=>some (.tuple ⟨[p11,(.bool true)]⟩,m)) (Qkp G p0 p10 p11 p1 m)
def Q9q (G:Gt)(k0:J4)(p60 p11 p10 p0 p1:V)(m:M):R:=brb p60 (bp (pur (bin .sub true true .int p11 (.int .i64 1)) m) fun x45 m=>k0 p10 x45 p0 p1 m) (Qkq G p10 p11 p0 p1 m)
def Q39 (G:Gt):Nat→V→V→V→V→M→R
 | 0,_,_,_,_,_=>none
 | i + 1,p10,p11,p0,p1,m=>bp (pur (bin .leq false true .int p10 p11) m) fun x46 m=>brt x46 (bp (pur (X3 1 p0 p11) m) fun x47 m=>bp (pur (X4 false 1 x47 m) m) fun x48 m=>bp (pur (X3 1 p0 p1) m) fun x49 m=>bp (pur (X4 false 1 x49 m) m) fun x50 m=>bp (G.tab Q2j [x48,x50] m) fun x51 m=>bp (pur (un .not x51) m) fun x52 m=>Q9q G (Q39 G i) x52 p11 p10 p0 p1 m) (Q9q G (Q39 G i) (.bool false) p11 p10 p0 p1 m) (none)
def Qkr (G:Gt)(p10 p11 p0 p1:V)(m:M):R:=Q39 G G.rds p10 p11 p0 p1 m
def Q9r (G:Gt)(k0:J4)(p43 p10 p11 p0 p1:V)(m:M):R:=brb p43 (bp (pur (bin .add true true .int p10 (.int .i64 1)) m) fun x53 m=>k0 x53 p11 p0 p1 m) (Qkr G p10 p11 p0 p1 m)
def Q3a (G:Gt):Nat→V→V→V→V→M→R
 | 0,_,_,_,_,_=>none
 | i + 1,p10,p11,p0,p1,m=>bp (pur (bin .leq false true .int p10 p11) m) fun x54 m=>brt x54 (bp (pur (X3 1 p0 p10) m) fun x55 m=>bp (pur (X4 false 1 x55 m) m) fun x56 m=>bp (pur (X3 1 p0 p1) m) fun x57 m=>bp (pur (X4 false 1 x57 m) m) fun x58 m=>bp (G.tab Q2j [x56,x58] m) fun x59 m=>Q9r G (Q3a G i) x59 p10 p11 p0 p1 m) (Q9r G (Q3a G i) (.bool false) p10 p11 p0 p1 m) (none)
def Qks (G:Gt)(p10 p11 p0 p1:V)(m:M):R:=Q3a G G.rds p10 p11 p0 p1 m
def Qkt (G:Gt)(p1 p2 p0:V)(m:M):R:=bp (pur (bin .add true true .int p1 (.int .i64 1)) m) fun x60 m=>bp (pur (bin .sub true true .int p2 (.int .i64 1)) m) fun x61 m=>Qks G x60 x61 p0 p1 m
def Qku (G:Gt)(p0 p1 p3 p2:V)(m:M):R:=bp (pur (X3 1 p0 p3) m) fun x62 m=>bp (pur (X4 false 1 x62 m) m) fun x63 m=>bp (pur (X3 1 p0 p1) m) fun x64 m=>bp (pur (X4 false 1 x64 m) m) fun x65 m=>bp (pur (X3 1 p0 p1) m) fun x66 m=>bp (unt (X8 1 x66 x63 m)) fun _ m=>bp (pur (X3 1 p0 p3) m) fun x67 m=>bp (unt (X8 1 x67 x65 m)) fun _ m=>Qkt G p1 p2 p0 m
def Qdl (G:Gt)(p0 p1 p3 p2:V)(m:M):R:=Qku G p0 p1 p3 p2 m
theorem Q1df (G:Gt)(a0 a1 a2 a3:V)(m:M):ef G Tryz.f196 [a0,a1,a2,a3] m = Qdl G a0 a1 a3 a2 m:=X6 (r:=fun r m=>Qdl G (r 0) (r 1) (r 3) (r 2) m) rfl rfl (tr (seqQ (f:=fun r m=>Qku G (r 0) (r 1) (r 3) (r 2) m) (tr (seqQ (f:=fun r m=>Qkt G (r 1) (r 2) (r 0) m) (tr (seqQ (f:=fun r m=>Qks G (r 10) (r 11) (r 0) (r 1) m) (tr (tr (seqQ (f:=fun r m=>Qkr G (r 10) (r 11) (r 0) (r 1) m) (tr (tr (seqQ (f:=fun r m=>Qkq G (r 10) (r 11) (r 0) (r 1) m) (tr (seqQ (f:=fun r m=>Qkp G (r 0) (r 10) (r 11) (r 1) m) (tr (seqQ (f:=fun r m=>Qko G (r 10) (r 11) (r 0) (r 1) m) (tr (seqQ (f:=fun r m=>Qkn G (r 11) (r 10) (r 0) (r 1) m) (tr (seqQ (f:=fun r m=>Qkm G (r 10) (r 11) (r 0) (r 1) m) (tr (tr (seqQ (f:=fun r m=>Qkl G (r 0) (r 11) (r 1) m)) (X7 (Xc (fun i r m=>Qt G i (r 10) (r 11) (r 0) (r 1) m) (fun _ _=>rfl) (fun i0=>tr (X7 (tr (seqQ (f:=fun r m=>Qjo G (Qt G i0) (r 10) (r 11) (r 0) (r 1) m) (tr (tr (seqQ (f:=fun r m=>Qjn G (Qt G i0) (r 10) (r 11) (r 0) (r 1) m)) (X7 (Xc (fun i r m=>Q37 G (Qt G i0) i (r 10) (r 11) (r 0) (r 1) m) (fun _ _=>rfl) (fun i1=>tr (tr seqD (seqQ (f:=fun r m=>Q9o G (Q37 G (Qt G i0) i1) (Qt G i0) (r 129) (r 11) (r 10) (r 0) (r 1) m))))))))) (X7 (Xc (fun i r m=>Q38 G (Qt G i0) i (r 10) (r 11) (r 0) (r 1) m) (fun _ _=>rfl) (fun i1=>tr (tr seqD (seqQ (f:=fun r m=>Q9p G (Q38 G (Qt G i0) i1) (Qt G i0) (r 112) (r 10) (r 11) (r 0) (r 1) m)))))))))))))))))))))) (X7 (Xc (fun i r m=>Q39 G i (r 10) (r 11) (r 0) (r 1) m) (fun _ _=>rfl) (fun i0=>tr (tr seqD (seqQ (f:=fun r m=>Q9q G (Q39 G i0) (r 60) (r 11) (r 10) (r 0) (r 1) m))))))))) (X7 (Xc (fun i r m=>Q3a G i (r 10) (r 11) (r 0) (r 1) m) (fun _ _=>rfl) (fun i0=>tr (tr seqD (seqQ (f:=fun r m=>Q9r G (Q3a G i0) (r 43) (r 10) (r 11) (r 0) (r 1) m)))))))))))))) m
def Q1dg:En:=⟨Qmy,Tryz.f196,Tryz.func196,by kernel_rfl,arg4 (fun G a0 a1 a2 a3 m=>Qdl G a0 a1 a3 a2 m),X19 Q1df⟩
end
end Go.Ab.Sh
