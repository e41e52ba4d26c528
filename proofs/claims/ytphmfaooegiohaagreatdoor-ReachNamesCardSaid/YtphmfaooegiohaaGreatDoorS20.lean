/-
  Functions of the program as plain definitions. No conditions.
-/
import Derived.Test.YtphmfaooegiohaaGreatDoorAb5
import Derived.Test.YtphmfaooegiohaaGreatDoorZ
import Derived.KernelRfl
import Derived.Test.YtphmfaooegiohaaGreatDoorProg
set_option linter.unusedVariables false
set_option maxRecDepth 100000
namespace Go.Ab.Sh
open Go Go.Ab Go.Proofs
noncomputable section
def Q71 (G:Gt)(p0:V)(m:M):R:=bp (pur (bin .eql true true .slice p0 (.slice none 0 0)) m) fun x0 m=>brb x0 (some ((.slice none 0 0),m)) (bp (Xa Q1f Q27 9 0 [] m) fun x1 m=>bp (apS Q1f 9 72 x1 p0 m) fun x2 m=>some (x2,m))
theorem Qy2 (G:Gt)(a0:V)(m:M):ef G Tryz.f456 [a0] m = Q71 G a0 m:=X6 (r:=fun r m=>Q71 G (r 0) m) rfl rfl (fun r m=>by kernel_rfl) m
def Qy3:En:=⟨Qf8,Tryz.f456,Tryz.func456,by kernel_rfl,arg1 Q71,Xk Qy2⟩
def Q62 (G:Gt)(p0 p1:V)(m:M):R:=bp (pur (lenK 1 p0 m) m) fun x0 m=>bp (conv (.int .u64) x0 m) fun x1 m=>bp (G.tab Q9a [x1] m) fun x2 m=>bp (G.tab Q4t [p0,(.int .i64 0),x0,x2,p1] m) fun x3 m=>some (.tuple ⟨[]⟩,m)
theorem Qsx (G:Gt)(a0 a1:V)(m:M):ef G Tryz.f457 [a0,a1] m = Q62 G a0 a1 m:=X6 (r:=fun r m=>Q62 G (r 0) (r 1) m) rfl rfl (fun r m=>by kernel_rfl) m
def Qsy:En:=⟨Qdz,Tryz.f457,Tryz.func457,by kernel_rfl,arg2 Q62,Xf Qsx⟩
def Qd3 (G:Gt)(p0:V)(m:M):R:=some (p0,m)
def Qd4 (G:Gt)(p0 p3:V)(m:M):R:=bp (pur (Xz 9 p0 (some p3) none) m) fun x0 m=>bp (unt (X79 Q27 9 x0 m)) fun _ m=>bp (pur (Xz 9 p0 none (some p3)) m) fun x1 m=>some (x1,m)
def Q4z (G:Gt)(k1:J4)(p5 p4 p0 p3:V)(m:M):R:=bp (pur (bin .add true true .int p5 (.int .i64 1)) m) fun x2 m=>k1 x2 p4 p0 p3 m
def Qcc (G:Gt)(k1:J4)(p4 p5 p0 p3:V)(m:M):R:=bp (pur (X3 9 p4 p5) m) fun x3 m=>bp (pur (X4 true 9 x3 m) m) fun x4 m=>bp (pur (bin .sub true true .int p5 (.int .i64 1)) m) fun x5 m=>bp (pur (X3 9 p4 x5) m) fun x6 m=>bp (pur (X4 true 9 x6 m) m) fun x7 m=>bp (pur (bin .neq false true (.struct [(0,2,true,(.struct [(0,1,false,.int),(1,1,false,.int)])),(2,1,false,.int),(3,1,false,.int),(4,1,false,.int),(5,1,false,.int),(6,1,false,.str),(7,1,false,.int),(8,1,false,.bool)]) x4 x7) m) fun x8 m=>brb x8 (bp (pur (X3 9 p4 p5) m) fun x9 m=>bp (pur (X4 true 9 x9 m) m) fun x10 m=>bp (pur (X3 9 p0 p3) m) fun x11 m=>bp (unt (X8 9 x11 x10 m)) fun _ m=>bp (pur (bin .add true true .int p3 (.int .i64 1)) m) fun x12 m=>Q4z G k1 p5 p4 p0 x12 m) (Q4z G k1 p5 p4 p0 p3 m)
def Q1v (G:Gt):Nat→V→V→V→V→M→R
 | 0,_,_,_,_,_=>none
 | i + 1,p5,p4,p0,p3,m=>bp (pur (lenK 1 p4 m) m) fun x13 m=>bp (pur (bin .lss false true .int p5 x13) m) fun x14 m=>brb x14 (Qcc G (Q1v G i) p4 p5 p0 p3 m) (Qd4 G p0 p3 m)
def Qd5 (G:Gt)(p5 p4 p0 p3:V)(m:M):R:=Q1v G G.rds p5 p4 p0 p3 m
def Qd6 (G:Gt)(p4 p0 p3:V)(m:M):R:=Qd5 G (.int .i64 1) p4 p0 p3 m
def Qd7 (G:Gt)(k0:J2)(p25 p0 p3:V)(m:M):R:=brb p25 (bp (pur (Xz 9 p0 (some p3) none) m) fun x15 m=>Qd6 G x15 p0 p3 m) (bp (pur (bin .add true true .int p3 (.int .i64 1)) m) fun x16 m=>k0 x16 p0 m)
def Qd8 (G:Gt)(k0:J2)(p0 p3:V)(m:M):R:=bp (pur (X3 9 p0 p3) m) fun x17 m=>bp (pur (X4 true 9 x17 m) m) fun x18 m=>bp (pur (bin .sub true true .int p3 (.int .i64 1)) m) fun x19 m=>bp (pur (X3 9 p0 x19) m) fun x20 m=>bp (pur (X4 true 9 x20 m) m) fun x21 m=>bp (pur (bin .eql false true (.struct [(0,2,true,(.struct [(0,1,false,.int),(1,1,false,.int)])),(2,1,false,.int),(3,1,false,.int),(4,1,false,.int),(5,1,false,.int),(6,1,false,.str),(7,1,false,.int),(8,1,false,.bool)]) x18 x21) m) fun x22 m=>Qd7 G k0 x22 p0 p3 m
def Q25 (G:Gt):Nat→V→V→M→R
 | 0,_,_,_=>none
 | i + 1,p3,p0,m=>bp (pur (lenK 1 p0 m) m) fun x23 m=>bp (pur (bin .lss false true .int p3 x23) m) fun x24 m=>brb x24 (Qd8 G (Q25 G i) p0 p3 m) (Qd3 G p0 m)
def Qd9 (G:Gt)(p3 p0:V)(m:M):R:=Q25 G G.rds p3 p0 m
def Qda (G:Gt)(p0:V)(m:M):R:=Qd9 G (.int .i64 1) p0 m
def Qdb (G:Gt)(p0:V)(m:M):R:=bp (pur (lenK 1 p0 m) m) fun x25 m=>bp (pur (bin .lss true true .int x25 (.int .i64 2)) m) fun x26 m=>brb x26 (some (p0,m)) (Qda G p0 m)
def Q6c (G:Gt)(p0:V)(m:M):R:=Qdb G p0 m
theorem Que (G:Gt)(a0:V)(m:M):ef G Tryz.f459 [a0] m = Q6c G a0 m:=X6 (r:=fun r m=>Q6c G (r 0) m) rfl rfl (tr (seqQ (f:=fun r m=>Qdb G (r 0) m) (tr (seqQ (f:=fun r m=>Qda G (r 0) m) (tr (tr (seqQ (f:=fun r m=>Qd3 G (r 0) m)) (seqQ (f:=fun r m=>Qd9 G (r 3) (r 0) m) (tr (X7 (Xc (fun i r m=>Q25 G i (r 3) (r 0) m) (fun _ _=>rfl) (fun i0=>tr (seqQ (f:=fun r m=>Qd8 G (Q25 G i0) (r 0) (r 3) m) (tr (tr seqD (X7 (seqQ (f:=fun r m=>Qd7 G (Q25 G i0) (r 25) (r 0) (r 3) m) (tr (X1q (seqQ (f:=fun r m=>Qd6 G (r 4) (r 0) (r 3) m) (tr (tr (seqQ (f:=fun r m=>Qd4 G (r 0) (r 3) m)) (seqQ (f:=fun r m=>Qd5 G (r 5) (r 4) (r 0) (r 3) m) (tr (X7 (Xc (fun i r m=>Q1v G i (r 5) (r 4) (r 0) (r 3) m) (fun _ _=>rfl) (fun i1=>tr (seqQ (f:=fun r m=>Qcc G (Q1v G i1) (r 4) (r 5) (r 0) (r 3) m) (tr (seqQ (f:=fun r m=>Q4z G (Q1v G i1) (r 5) (r 4) (r 0) (r 3) m)))))))))))) (refQ))))))))))))))))))) m
def Quf:En:=⟨Qeh,Tryz.f459,Tryz.func459,by kernel_rfl,arg1 Q6c,Xk Que⟩
def Qe0 (G:Gt)(k0:J5)(p8 p2 p1 p3 p0:V)(m:M):R:=bp (pur (bin .add true true .int p8 (.int .i64 1)) m) fun x0 m=>k0 x0 p2 p1 p3 p0 m
def Q63 (G:Gt)(k1:J6)(k0:J5)(p34 p0 p9 p1 p3 p8 p2:V)(m:M):R:=brb p34 (bp (pur (bin .sub true true .int p9 (.int .i64 1)) m) fun x1 m=>bp (pur (bin .sub true true .int p9 (.int .i64 1)) m) fun x2 m=>bp (pur (X3 2 p0 x2) m) fun x3 m=>bp (pur (X4 true 2 x3 m) m) fun x4 m=>bp (pur (X3 2 p0 p9) m) fun x5 m=>bp (pur (X4 true 2 x5 m) m) fun x6 m=>bp (pur (X3 2 p0 p9) m) fun x7 m=>bp (unt (X8 2 x7 x4 m)) fun _ m=>bp (pur (X3 2 p0 x1) m) fun x8 m=>bp (unt (X8 2 x8 x6 m)) fun _ m=>bp (pur (bin .sub true true .int p9 (.int .i64 1)) m) fun x9 m=>k1 x9 p1 p3 p0 p8 p2 m) (Qe0 G k0 p8 p2 p1 p3 p0 m)
def Q2b (G:Gt)(k0:J5):Nat→V→V→V→V→V→V→M→R
 | 0,_,_,_,_,_,_,_=>none
 | i + 1,p9,p1,p3,p0,p8,p2,m=>bp (pur (bin .gtr false true .int p9 p1) m) fun x10 m=>brt x10 (bp (pur (X3 2 p0 p9) m) fun x11 m=>bp (pur (X4 true 2 x11 m) m) fun x12 m=>bp (pur (bin .sub true true .int p9 (.int .i64 1)) m) fun x13 m=>bp (pur (X3 2 p0 x13) m) fun x14 m=>bp (pur (X4 true 2 x14 m) m) fun x15 m=>bp (Xj G.tab p3 [x12,x15] m) fun x16 m=>bp (pur (bin .lss true true .int x16 (.int .i64 0)) m) fun x17 m=>Q63 G (Q2b G k0 i) k0 x17 p0 p9 p1 p3 p8 p2 m) (Q63 G (Q2b G k0 i) k0 (.bool false) p0 p9 p1 p3 p8 p2 m) (none)
def Qe1 (G:Gt)(k0:J5)(p9 p1 p3 p0 p8 p2:V)(m:M):R:=Q2b G k0 G.rds p9 p1 p3 p0 p8 p2 m
def Qe2 (G:Gt)(k0:J5)(p8 p1 p3 p0 p2:V)(m:M):R:=Qe1 G k0 p8 p1 p3 p0 p8 p2 m
def Qr (G:Gt):Nat→V→V→V→V→V→M→R
 | 0,_,_,_,_,_,_=>none
 | i + 1,p8,p2,p1,p3,p0,m=>bp (pur (bin .lss false true .int p8 p2) m) fun x18 m=>brb x18 (Qe2 G (Qr G i) p8 p1 p3 p0 p2 m) (some (.tuple ⟨[]⟩,m))
def Qe3 (G:Gt)(p8 p2 p1 p3 p0:V)(m:M):R:=Qr G G.rds p8 p2 p1 p3 p0 m
def Q6o (G:Gt)(p1 p2 p3 p0:V)(m:M):R:=bp (pur (bin .add true true .int p1 (.int .i64 1)) m) fun x19 m=>Qe3 G x19 p2 p1 p3 p0 m
theorem Qvl (G:Gt)(a0 a1 a2 a3:V)(m:M):ef G Tryz.f460 [a0,a1,a2,a3] m = Q6o G a1 a2 a3 a0 m:=X6 (r:=fun r m=>Q6o G (r 1) (r 2) (r 3) (r 0) m) rfl rfl (tr (seqQ (f:=fun r m=>Qe3 G (r 8) (r 2) (r 1) (r 3) (r 0) m) (tr (X7 (Xc (fun i r m=>Qr G i (r 8) (r 2) (r 1) (r 3) (r 0) m) (fun _ _=>rfl) (fun i0=>tr (seqQ (f:=fun r m=>Qe2 G (Qr G i0) (r 8) (r 1) (r 3) (r 0) (r 2) m) (tr (tr (seqQ (f:=fun r m=>Qe0 G (Qr G i0) (r 8) (r 2) (r 1) (r 3) (r 0) m)) (X7 (seqQ (f:=fun r m=>Qe1 G (Qr G i0) (r 9) (r 1) (r 3) (r 0) (r 8) (r 2) m) (tr (X7 (Xc (fun i r m=>Q2b G (Qr G i0) i (r 9) (r 1) (r 3) (r 0) (r 8) (r 2) m) (fun _ _=>rfl) (fun i1=>tr (tr seqD (seqQ (f:=fun r m=>Q63 G (Q2b G (Qr G i0) i1) (Qr G i0) (r 34) (r 0) (r 9) (r 1) (r 3) (r 8) (r 2) m)))))))))))))))))) m
def Qvm:En:=⟨Qev,Tryz.f460,Tryz.func460,by kernel_rfl,arg4 (fun G a0 a1 a2 a3 m=>Q6o G a1 a2 a3 a0 m),X19 Qvl⟩
def Q72 (G:Gt)(k0:J7)(p97 p0 p1 p2 p13 p4 p3 p10 p11 p12:V)(m:M):R:=brb p97 (bp (G.tab Qr0 [p0,p1,p2,p13,p4] m) fun x0 m=>k0 p2 x0 p0 p4 p3 p10 p11 m) (bp (G.tab Qzs [p0,p1,p2,p13,p4] m) fun x1 m=>bp (pur (X5 x1 0) m) fun x2 m=>bp (pur (X5 x1 1) m) fun x3 m=>bp (pur (bin .sub false true .int x2 p1) m) fun x4 m=>bp (pur (bin .sub false true .int p2 x2) m) fun x5 m=>bp (pur (bin .quo true true .int p12 (.int .i64 8)) m) fun x6 m=>bp (pur (bin .lss false true .int x4 x5) m) fun x7 m=>brb x7 (bp (pur (bin .geq false true .int x4 x6) m) fun x8 m=>bp (G.tab Q4t [p0,p1,x2,p3,p4] m) fun x9 m=>bp (pur (bin .add true true .int x2 (.int .i64 1)) m) fun x10 m=>k0 p2 x10 p0 p4 p3 x8 x3 m) (bp (pur (bin .geq false true .int x5 x6) m) fun x11 m=>bp (pur (bin .add true true .int x2 (.int .i64 1)) m) fun x12 m=>bp (G.tab Q4t [p0,x12,p2,p3,p4] m) fun x13 m=>k0 x2 p1 p0 p4 p3 x11 x3 m))
def Q7w (G:Gt)(k0:J7)(p1 p4 p0 p13 p2 p3 p10 p11 p12:V)(m:M):R:=bp (pur (bin .gtr true true .int p1 (.int .i64 0)) m) fun x14 m=>brt x14 (bp (pur (bin .sub true true .int p1 (.int .i64 1)) m) fun x15 m=>bp (pur (X3 9 p0 x15) m) fun x16 m=>bp (pur (X4 true 9 x16 m) m) fun x17 m=>bp (pur (X3 9 p0 p13) m) fun x18 m=>bp (pur (X4 true 9 x18 m) m) fun x19 m=>bp (Xj G.tab p4 [x17,x19] m) fun x20 m=>bp (pur (bin .lss true true .int x20 (.int .i64 0)) m) fun x21 m=>bp (pur (un .not x21) m) fun x22 m=>Q72 G k0 x22 p0 p1 p2 p13 p4 p3 p10 p11 p12 m) (Q72 G k0 (.bool false) p0 p1 p2 p13 p4 p3 p10 p11 p12 m) (none)
def Q3s (G:Gt)(k0:J7)(p75 p0 p1 p2 p4 p13 p3 p10 p11 p12:V)(m:M):R:=brb p75 (bp (G.tab Qlv [p0,p1,p2,p4] m) fun x23 m=>brb x23 (some (.tuple ⟨[]⟩,m)) (Q7w G k0 p1 p4 p0 p13 p2 p3 p10 p11 p12 m)) (Q7w G k0 p1 p4 p0 p13 p2 p3 p10 p11 p12 m)
def Q7x (G:Gt)(k0:J7)(p10 p11 p14 p0 p1 p2 p4 p13 p3 p12:V)(m:M):R:=brb p10 (brb p11 (bp (pur (bin .eql true true .int p14 (.int .i64 1)) m) fun x24 m=>Q3s G k0 x24 p0 p1 p2 p4 p13 p3 p10 p11 p12 m) (Q3s G k0 (.bool false) p0 p1 p2 p4 p13 p3 p10 p11 p12 m)) (Q3s G k0 (.bool false) p0 p1 p2 p4 p13 p3 p10 p11 p12 m)
def Qgp (G:Gt)(k0:J7)(p14 p0 p1 p2 p4 p13 p10 p11 p3 p12:V)(m:M):R:=bp (pur (bin .eql true true .int p14 (.int .i64 2)) m) fun x25 m=>brb x25 (bp (G.tab Qug [p0,p1,p2,p4] m) fun x26 m=>bp (pur (bin .sub true true .int p2 (.int .i64 1)) m) fun x27 m=>bp (pur (bin .sub false true .int p13 p1) m) fun x28 m=>bp (pur (bin .sub false true .int x27 x28) m) fun x29 m=>Q7x G k0 p10 p11 (.int .i64 1) p0 p1 p2 p4 x29 p3 p12 m) (Q7x G k0 p10 p11 p14 p0 p1 p2 p4 p13 p3 p12 m)
def Q7y (G:Gt)(k0:J7)(p0 p1 p2 p4 p10 p11 p3 p12:V)(m:M):R:=bp (G.tab Qvn [p0,p1,p2,p4] m) fun x30 m=>bp (pur (X5 x30 0) m) fun x31 m=>bp (pur (X5 x30 1) m) fun x32 m=>Qgp G k0 x32 p0 p1 p2 p4 x31 p10 p11 p3 p12 m
def Qgq (G:Gt)(k0:J7)(p10 p0 p1 p2 p4 p3 p11 p12:V)(m:M):R:=bp (pur (un .not p10) m) fun x33 m=>brb x33 (bp (G.tab Qsz [p0,p1,p2,p4] m) fun x34 m=>bp (pur (bin .sub true true .int p3 (.int .i64 1)) m) fun x35 m=>Q7y G k0 p0 p1 p2 p4 p10 p11 x35 p12 m) (Q7y G k0 p0 p1 p2 p4 p10 p11 p3 p12 m)
def Qgr (G:Gt)(k0:J7)(p3 p0 p1 p2 p4 p10 p11 p12:V)(m:M):R:=bp (pur (bin .eql true true .int p3 (.int .i64 0)) m) fun x36 m=>brb x36 (bp (G.tab Q117 [p0,p1,p2,p4] m) fun x37 m=>some (.tuple ⟨[]⟩,m)) (Qgq G k0 p10 p0 p1 p2 p4 p3 p11 p12 m)
def Qgs (G:Gt)(k0:J7)(p12 p0 p1 p2 p4 p3 p10 p11:V)(m:M):R:=bp (pur (bin .leq true true .int p12 (.int .i64 12)) m) fun x38 m=>brb x38 (bp (G.tab Qe4 [p0,p1,p2,p4] m) fun x39 m=>some (.tuple ⟨[]⟩,m)) (Qgr G k0 p3 p0 p1 p2 p4 p10 p11 p12 m)
def Qb (G:Gt):Nat→V→V→V→V→V→V→V→M→R
 | 0,_,_,_,_,_,_,_,_=>none
 | i + 1,p2,p1,p0,p4,p3,p10,p11,m=>bp (pur (bin .sub false true .int p2 p1) m) fun x40 m=>Qgs G (Qb G i) x40 p0 p1 p2 p4 p3 p10 p11 m
def Qgt (G:Gt)(p2 p1 p0 p4 p3 p10 p11:V)(m:M):R:=Qb G G.rds p2 p1 p0 p4 p3 p10 p11 m
def Qgu (G:Gt)(p2 p1 p0 p4 p3 p10:V)(m:M):R:=Qgt G p2 p1 p0 p4 p3 p10 (.bool true) m
def Q91 (G:Gt)(p2 p1 p0 p4 p3:V)(m:M):R:=Qgu G p2 p1 p0 p4 p3 (.bool true) m
theorem Q13o (G:Gt)(a0 a1 a2 a3 a4:V)(m:M):ef G Tryz.f494 [a0,a1,a2,a3,a4] m = Q91 G a2 a1 a0 a4 a3 m:=X6 (r:=fun r m=>Q91 G (r 2) (r 1) (r 0) (r 4) (r 3) m) rfl rfl (tr (seqQ (f:=fun r m=>Qgu G (r 2) (r 1) (r 0) (r 4) (r 3) (r 10) m) (tr (seqQ (f:=fun r m=>Qgt G (r 2) (r 1) (r 0) (r 4) (r 3) (r 10) (r 11) m) (tr (X7 (Xc (fun i r m=>Qb G i (r 2) (r 1) (r 0) (r 4) (r 3) (r 10) (r 11) m) (fun _ _=>rfl) (fun i0=>tr (X7 (seqQ (f:=fun r m=>Qgs G (Qb G i0) (r 12) (r 0) (r 1) (r 2) (r 4) (r 3) (r 10) (r 11) m) (tr (seqQ (f:=fun r m=>Qgr G (Qb G i0) (r 3) (r 0) (r 1) (r 2) (r 4) (r 10) (r 11) (r 12) m) (tr (seqQ (f:=fun r m=>Qgq G (Qb G i0) (r 10) (r 0) (r 1) (r 2) (r 4) (r 3) (r 11) (r 12) m) (tr (seqQ (f:=fun r m=>Q7y G (Qb G i0) (r 0) (r 1) (r 2) (r 4) (r 10) (r 11) (r 3) (r 12) m) (tr (seqQ (f:=fun r m=>Qgp G (Qb G i0) (r 14) (r 0) (r 1) (r 2) (r 4) (r 13) (r 10) (r 11) (r 3) (r 12) m) (tr (seqQ (f:=fun r m=>Q7x G (Qb G i0) (r 10) (r 11) (r 14) (r 0) (r 1) (r 2) (r 4) (r 13) (r 3) (r 12) m) (tr (tr (seqQ (f:=fun r m=>Q7w G (Qb G i0) (r 1) (r 4) (r 0) (r 13) (r 2) (r 3) (r 10) (r 11) (r 12) m) (tr (tr seqD (seqQ (f:=fun r m=>Q72 G (Qb G i0) (r 97) (r 0) (r 1) (r 2) (r 13) (r 4) (r 3) (r 10) (r 11) (r 12) m))))) (seqQ (f:=fun r m=>Q3s G (Qb G i0) (r 75) (r 0) (r 1) (r 2) (r 4) (r 13) (r 3) (r 10) (r 11) (r 12) m)))))))))))))))))))))))) m
def Q13p:En:=⟨Q4t,Tryz.f494,Tryz.func494,by kernel_rfl,arg5 (fun G a0 a1 a2 a3 a4 m=>Q91 G a2 a1 a0 a4 a3 m),X30 Q13o⟩
end
end Go.Ab.Sh

set_option linter.unusedVariables false
set_option maxRecDepth 100000
namespace Go.Ab.Sh
open Go Go.Ab Go.Proofs
noncomputable section
def Qcd (G:Gt)(k0:J5)(p8 p2 p1 p3 p0:V)(m:M):R:=bp (pur (bin .add true true .int p8 (.int .i64 1)) m) fun x0 m=>k0 x0 p2 p1 p3 p0 m
def Q50 (G:Gt)(k1:J6)(k0:J5)(p34 p0 p9 p1 p3 p8 p2:V)(m:M):R:=brb p34 (bp (pur (bin .sub true true .int p9 (.int .i64 1)) m) fun x1 m=>bp (pur (bin .sub true true .int p9 (.int .i64 1)) m) fun x2 m=>bp (pur (X3 9 p0 x2) m) fun x3 m=>bp (pur (X4 true 9 x3 m) m) fun x4 m=>bp (pur (X3 9 p0 p9) m) fun x5 m=>bp (pur (X4 true 9 x5 m) m) fun x6 m=>bp (pur (X3 9 p0 p9) m) fun x7 m=>bp (unt (X8 9 x7 x4 m)) fun _ m=>bp (pur (X3 9 p0 x1) m) fun x8 m=>bp (unt (X8 9 x8 x6 m)) fun _ m=>bp (pur (bin .sub true true .int p9 (.int .i64 1)) m) fun x9 m=>k1 x9 p1 p3 p0 p8 p2 m) (Qcd G k0 p8 p2 p1 p3 p0 m)
def Q1w (G:Gt)(k0:J5):Nat→V→V→V→V→V→V→M→R
 | 0,_,_,_,_,_,_,_=>none
 | i + 1,p9,p1,p3,p0,p8,p2,m=>bp (pur (bin .gtr false true .int p9 p1) m) fun x10 m=>brt x10 (bp (pur (X3 9 p0 p9) m) fun x11 m=>bp (pur (X4 true 9 x11 m) m) fun x12 m=>bp (pur (bin .sub true true .int p9 (.int .i64 1)) m) fun x13 m=>bp (pur (X3 9 p0 x13) m) fun x14 m=>bp (pur (X4 true 9 x14 m) m) fun x15 m=>bp (Xj G.tab p3 [x12,x15] m) fun x16 m=>bp (pur (bin .lss true true .int x16 (.int .i64 0)) m) fun x17 m=>Q50 G (Q1w G k0 i) k0 x17 p0 p9 p1 p3 p8 p2 m) (Q50 G (Q1w G k0 i) k0 (.bool false) p0 p9 p1 p3 p8 p2 m) (none)
def Qce (G:Gt)(k0:J5)(p9 p1 p3 p0 p8 p2:V)(m:M):R:=Q1w G k0 G.rds p9 p1 p3 p0 p8 p2 m
def Qcf (G:Gt)(k0:J5)(p8 p1 p3 p0 p2:V)(m:M):R:=Qce G k0 p8 p1 p3 p0 p8 p2 m
def Qn (G:Gt):Nat→V→V→V→V→V→M→R
 | 0,_,_,_,_,_,_=>none
 | i + 1,p8,p2,p1,p3,p0,m=>bp (pur (bin .lss false true .int p8 p2) m) fun x18 m=>brb x18 (Qcf G (Qn G i) p8 p1 p3 p0 p2 m) (some (.tuple ⟨[]⟩,m))
def Qcg (G:Gt)(p8 p2 p1 p3 p0:V)(m:M):R:=Qn G G.rds p8 p2 p1 p3 p0 m
def Q64 (G:Gt)(p1 p2 p3 p0:V)(m:M):R:=bp (pur (bin .add true true .int p1 (.int .i64 1)) m) fun x19 m=>Qcg G x19 p2 p1 p3 p0 m
theorem Qt0 (G:Gt)(a0 a1 a2 a3:V)(m:M):ef G Tryz.f519 [a0,a1,a2,a3] m = Q64 G a1 a2 a3 a0 m:=X6 (r:=fun r m=>Q64 G (r 1) (r 2) (r 3) (r 0) m) rfl rfl (tr (seqQ (f:=fun r m=>Qcg G (r 8) (r 2) (r 1) (r 3) (r 0) m) (tr (X7 (Xc (fun i r m=>Qn G i (r 8) (r 2) (r 1) (r 3) (r 0) m) (fun _ _=>rfl) (fun i0=>tr (seqQ (f:=fun r m=>Qcf G (Qn G i0) (r 8) (r 1) (r 3) (r 0) (r 2) m) (tr (tr (seqQ (f:=fun r m=>Qcd G (Qn G i0) (r 8) (r 2) (r 1) (r 3) (r 0) m)) (X7 (seqQ (f:=fun r m=>Qce G (Qn G i0) (r 9) (r 1) (r 3) (r 0) (r 8) (r 2) m) (tr (X7 (Xc (fun i r m=>Q1w G (Qn G i0) i (r 9) (r 1) (r 3) (r 0) (r 8) (r 2) m) (fun _ _=>rfl) (fun i1=>tr (tr seqD (seqQ (f:=fun r m=>Q50 G (Q1w G (Qn G i0) i1) (Qn G i0) (r 34) (r 0) (r 9) (r 1) (r 3) (r 8) (r 2) m)))))))))))))))))) m
def Qt1:En:=⟨Qe4,Tryz.f519,Tryz.func519,by kernel_rfl,arg4 (fun G a0 a1 a2 a3 m=>Q64 G a1 a2 a3 a0 m),X19 Qt0⟩
end
end Go.Ab.Sh
