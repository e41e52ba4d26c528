/-
  Functions of the program as plain definitions. No conditions.
-/
import Derived.Test.YtphmfaooegiohaaGreatDoorAb5
import Derived.Test.YtphmfaooegiohaaGreatDoorZ
import Derived.KernelRfl
import Derived.Test.YtphmfaooegiohaaGreatDoorProg
set_option linter.unusedVariables false
set_option maxRecDepth 100000
namespace Go.Ab.Sh
open Go Go.Ab Go.Proofs
noncomputable section
def Qzx (G:Gt)(p0 p1:V)(m:M):R:=brb p0 (some ((.int .i64 (-1)),m)) (brb p1 (some ((.int .i64 1),m)) (some ((.int .i64 0),m)))
theorem Q1yj (G:Gt)(a0 a1:V)(m:M):ef G Tryz.f389 [a0,a1] m = Qzx G a0 a1 m:=X6 (r:=fun r m=>Qzx G (r 0) (r 1) m) rfl rfl (fun r m=>by kernel_rfl) m
def Q1yk:En:=⟨Q1y,Tryz.f389,Tryz.func389,by kernel_rfl,arg2 Qzx,Xf Q1yj⟩
def Qls (G:Gt)(p4:V)(m:M):R:=some (p4,m)
def Q1gb (G:Gt)(p3 p0:V)(m:M):R:=bp (pur (X4 true 2 p3 m) m) fun x0 m=>bp (G.tab Q5t [x0] m) fun x1 m=>bp (pur (bin .eql true true .int x1 (.int .i64 0)) m) fun x2 m=>brt x2 (bp (pur (X0 0 p3) m) fun x3 m=>bp (pur (X4 false 1 x3 m) m) fun x4 m=>bp (pur (bin .geq false true .int p0 x4) m) fun x5 m=>brt x5 (bp (conv (.int .u64) p0 m) fun x6 m=>bp (pur (X0 0 p3) m) fun x7 m=>bp (pur (X4 false 1 x7 m) m) fun x8 m=>bp (conv (.int .u64) x8 m) fun x9 m=>bp (pur (bin .sub false true .int x6 x9) m) fun x10 m=>bp (pur (X0 1 p3) m) fun x11 m=>bp (pur (X4 false 1 x11 m) m) fun x12 m=>bp (G.tab Qvs [x12] m) fun x13 m=>ckB (again (pur (X4 false 1 x7 m) m) x8 && true) (bp (pur (bin .lss false true .int x10 x13) m) fun x14 m=>Qls G x14 m)) (Qls G (.bool false) m) (none)) (Qls G (.bool false) m) (none)
def Q13r (G:Gt)(p1 p0:V)(m:M):R:=bp (some (aNew Qs (Value.cells p1).toList m)) fun x15 m=>Q1gb G x15 p0 m
theorem Q1zz (G:Gt)(a0 a1:V)(m:M):ef G Tryz.f390 [a0,a1] m = Q13r G a1 a0 m:=X6 (r:=fun r m=>Q13r G (r 1) (r 0) m) rfl rfl (tr (seqQ (f:=fun r m=>Q1gb G (r 3) (r 0) m) (tr (seqQ (f:=fun r m=>Qls G (r 4) m))))) m
def Q200:En:=⟨Q13s,Tryz.f390,Tryz.func390,by kernel_rfl,arg2 (fun G a0 a1 m=>Q13r G a1 a0 m),Xf Q1zz⟩
def Qa6 (G:Gt)(p0:V)(m:M):R:=bp (pur (bin .eql true true .slice p0 (.slice none 0 0)) m) fun x0 m=>brb x0 (some ((.slice none 0 0),m)) (bp (Xa Qjl Qne 2 0 [] m) fun x1 m=>bp (apS Qjl 2 24 x1 p0 m) fun x2 m=>some (x2,m))
theorem Q160 (G:Gt)(a0:V)(m:M):ef G Tryz.f400 [a0] m = Qa6 G a0 m:=X6 (r:=fun r m=>Qa6 G (r 0) m) rfl rfl (fun r m=>by kernel_rfl) m
def Q161:En:=⟨Qk0,Tryz.f400,Tryz.func400,by kernel_rfl,arg1 Qa6,Xk Q160⟩
def Qch (G:Gt)(k0:J5)(p8 p2 p1 p3 p0:V)(m:M):R:=bp (pur (bin .add true true .int p8 (.int .i64 1)) m) fun x0 m=>k0 x0 p2 p1 p3 p0 m
def Q52 (G:Gt)(k1:J6)(k0:J5)(p34 p0 p9 p1 p3 p8 p2:V)(m:M):R:=brb p34 (bp (pur (bin .sub true true .int p9 (.int .i64 1)) m) fun x1 m=>bp (pur (bin .sub true true .int p9 (.int .i64 1)) m) fun x2 m=>bp (pur (X3 4 p0 x2) m) fun x3 m=>bp (pur (X4 true 4 x3 m) m) fun x4 m=>bp (pur (X3 4 p0 p9) m) fun x5 m=>bp (pur (X4 true 4 x5 m) m) fun x6 m=>bp (pur (X3 4 p0 p9) m) fun x7 m=>bp (unt (X8 4 x7 x4 m)) fun _ m=>bp (pur (X3 4 p0 x1) m) fun x8 m=>bp (unt (X8 4 x8 x6 m)) fun _ m=>bp (pur (bin .sub true true .int p9 (.int .i64 1)) m) fun x9 m=>k1 x9 p1 p3 p0 p8 p2 m) (Qch G k0 p8 p2 p1 p3 p0 m)
def Q1z (G:Gt)(k0:J5):Nat→V→V→V→V→V→V→M→R
 | 0,_,_,_,_,_,_,_=>none
 | i + 1,p9,p1,p3,p0,p8,p2,m=>bp (pur (bin .gtr false true .int p9 p1) m) fun x10 m=>brt x10 (bp (pur (X3 4 p0 p9) m) fun x11 m=>bp (pur (X4 true 4 x11 m) m) fun x12 m=>bp (pur (bin .sub true true .int p9 (.int .i64 1)) m) fun x13 m=>bp (pur (X3 4 p0 x13) m) fun x14 m=>bp (pur (X4 true 4 x14 m) m) fun x15 m=>bp (Xj G.tab p3 [x12,x15] m) fun x16 m=>bp (pur (bin .lss true true .int x16 (.int .i64 0)) m) fun x17 m=>Q52 G (Q1z G k0 i) k0 x17 p0 p9 p1 p3 p8 p2 m) (Q52 G (Q1z G k0 i) k0 (.bool false) p0 p9 p1 p3 p8 p2 m) (none)
def Qci (G:Gt)(k0:J5)(p9 p1 p3 p0 p8 p2:V)(m:M):R:=Q1z G k0 G.rds p9 p1 p3 p0 p8 p2 m
def Qcj (G:Gt)(k0:J5)(p8 p1 p3 p0 p2:V)(m:M):R:=Qci G k0 p8 p1 p3 p0 p8 p2 m
def Qo (G:Gt):Nat→V→V→V→V→V→M→R
 | 0,_,_,_,_,_,_=>none
 | i + 1,p8,p2,p1,p3,p0,m=>bp (pur (bin .lss false true .int p8 p2) m) fun x18 m=>brb x18 (Qcj G (Qo G i) p8 p1 p3 p0 p2 m) (some (.tuple ⟨[]⟩,m))
def Qck (G:Gt)(p8 p2 p1 p3 p0:V)(m:M):R:=Qo G G.rds p8 p2 p1 p3 p0 m
def Q65 (G:Gt)(p1 p2 p3 p0:V)(m:M):R:=bp (pur (bin .add true true .int p1 (.int .i64 1)) m) fun x19 m=>Qck G x19 p2 p1 p3 p0 m
theorem Qt7 (G:Gt)(a0 a1 a2 a3:V)(m:M):ef G Tryz.f401 [a0,a1,a2,a3] m = Q65 G a1 a2 a3 a0 m:=X6 (r:=fun r m=>Q65 G (r 1) (r 2) (r 3) (r 0) m) rfl rfl (tr (seqQ (f:=fun r m=>Qck G (r 8) (r 2) (r 1) (r 3) (r 0) m) (tr (X7 (Xc (fun i r m=>Qo G i (r 8) (r 2) (r 1) (r 3) (r 0) m) (fun _ _=>rfl) (fun i0=>tr (seqQ (f:=fun r m=>Qcj G (Qo G i0) (r 8) (r 1) (r 3) (r 0) (r 2) m) (tr (tr (seqQ (f:=fun r m=>Qch G (Qo G i0) (r 8) (r 2) (r 1) (r 3) (r 0) m)) (X7 (seqQ (f:=fun r m=>Qci G (Qo G i0) (r 9) (r 1) (r 3) (r 0) (r 8) (r 2) m) (tr (X7 (Xc (fun i r m=>Q1z G (Qo G i0) i (r 9) (r 1) (r 3) (r 0) (r 8) (r 2) m) (fun _ _=>rfl) (fun i1=>tr (tr seqD (seqQ (f:=fun r m=>Q52 G (Q1z G (Qo G i0) i1) (Qo G i0) (r 34) (r 0) (r 9) (r 1) (r 3) (r 8) (r 2) m)))))))))))))))))) m
def Qt8:En:=⟨Qe6,Tryz.f401,Tryz.func401,by kernel_rfl,arg4 (fun G a0 a1 a2 a3 m=>Q65 G a1 a2 a3 a0 m),X19 Qt7⟩
def Qgv (G:Gt)(p8:V)(m:M):R:=brb p8 (some ((.int .i64 1),m)) (some ((.int .i64 0),m))
def Q1iw (G:Gt)(p5 p3 p0:V)(m:M):R:=brb p5 (some ((.int .i64 2),m)) (bp (pur (X0 0 p3) m) fun x0 m=>bp (pur (X4 false 1 x0 m) m) fun x1 m=>bp (pur (bin .lss true true .int x1 (.int .i64 0)) m) fun x2 m=>brt x2 (Qgv G (.bool true) m) (bp (pur (X0 0 p3) m) fun x3 m=>bp (pur (X4 false 1 x3 m) m) fun x4 m=>bp (pur (X9 p0) m) fun x5 m=>bp (pur (X0 0 x5) m) fun x6 m=>bp (pur (X4 false 1 x6 m) m) fun x7 m=>bp (pur (lenK 1 x7 m) m) fun x8 m=>bp (pur (bin .geq false true .int x4 x8) m) fun x9 m=>brt x9 (Qgv G (.bool true) m) (bp (pur (X0 1 p3) m) fun x10 m=>bp (pur (X4 false 1 x10 m) m) fun x11 m=>bp (pur (bin .lss true true .int x11 (.int .i64 0)) m) fun x12 m=>brt x12 (Qgv G (.bool true) m) (bp (pur (X0 1 p3) m) fun x13 m=>bp (pur (X4 false 1 x13 m) m) fun x14 m=>bp (pur (X9 p0) m) fun x15 m=>bp (pur (X0 0 x15) m) fun x16 m=>bp (pur (X4 false 1 x16 m) m) fun x17 m=>bp (pur (X0 0 p3) m) fun x18 m=>bp (pur (X4 false 1 x18 m) m) fun x19 m=>bp (pur (X3 12 x17 x19) m) fun x20 m=>bp (pur (X0 3 x20) m) fun x21 m=>bp (pur (X4 false 1 x21 m) m) fun x22 m=>bp (pur (lenK 1 x22 m) m) fun x23 m=>bp (pur (bin .geq false true .int x14 x23) m) fun x24 m=>Qgv G x24 m) (none)) (none)) (none))
def Q1ix (G:Gt)(p0 p3:V)(m:M):R:=bp (pur (binP m .eql true true .ptr p0 (.pointer none)) m) fun x25 m=>Q1iw G x25 p3 p0 m
def Q18h (G:Gt)(p1 p0:V)(m:M):R:=bp (some (aNew Q7 (Value.cells p1).toList m)) fun x26 m=>Q1ix G p0 x26 m
theorem Q21e (G:Gt)(a0 a1:V)(m:M):ef G Tryz.f409 [a0,a1] m = Q18h G a1 a0 m:=X6 (r:=fun r m=>Q18h G (r 1) (r 0) m) rfl rfl (tr (seqQ (f:=fun r m=>Q1ix G (r 0) (r 3) m) (tr (tr seqD (X7 (seqQ (f:=fun r m=>Q1iw G (r 5) (r 3) (r 0) m) (tr (X1q (refQ) (seqQ (f:=fun r m=>Qgv G (r 8) m)))))))))) m
def Q21f:En:=⟨Q1mk,Tryz.f409,Tryz.func409,by kernel_rfl,arg2 (fun G a0 a1 m=>Q18h G a1 a0 m),Xf Q21e⟩
def Qa7 (G:Gt)(k0:J5)(p8 p2 p1 p3 p0:V)(m:M):R:=bp (pur (bin .add true true .int p8 (.int .i64 1)) m) fun x0 m=>k0 x0 p2 p1 p3 p0 m
def Q47 (G:Gt)(k1:J6)(k0:J5)(p34 p0 p9 p1 p3 p8 p2:V)(m:M):R:=brb p34 (bp (pur (bin .sub true true .int p9 (.int .i64 1)) m) fun x1 m=>bp (pur (bin .sub true true .int p9 (.int .i64 1)) m) fun x2 m=>bp (pur (X3 3 p0 x2) m) fun x3 m=>bp (pur (X4 true 3 x3 m) m) fun x4 m=>bp (pur (X3 3 p0 p9) m) fun x5 m=>bp (pur (X4 true 3 x5 m) m) fun x6 m=>bp (pur (X3 3 p0 p9) m) fun x7 m=>bp (unt (X8 3 x7 x4 m)) fun _ m=>bp (pur (X3 3 p0 x1) m) fun x8 m=>bp (unt (X8 3 x8 x6 m)) fun _ m=>bp (pur (bin .sub true true .int p9 (.int .i64 1)) m) fun x9 m=>k1 x9 p1 p3 p0 p8 p2 m) (Qa7 G k0 p8 p2 p1 p3 p0 m)
def Q1n (G:Gt)(k0:J5):Nat→V→V→V→V→V→V→M→R
 | 0,_,_,_,_,_,_,_=>none
 | i + 1,p9,p1,p3,p0,p8,p2,m=>bp (pur (bin .gtr false true .int p9 p1) m) fun x10 m=>brt x10 (bp (pur (X3 3 p0 p9) m) fun x11 m=>bp (pur (X4 true 3 x11 m) m) fun x12 m=>bp (pur (bin .sub true true .int p9 (.int .i64 1)) m) fun x13 m=>bp (pur (X3 3 p0 x13) m) fun x14 m=>bp (pur (X4 true 3 x14 m) m) fun x15 m=>bp (Xj G.tab p3 [x12,x15] m) fun x16 m=>bp (pur (bin .lss true true .int x16 (.int .i64 0)) m) fun x17 m=>Q47 G (Q1n G k0 i) k0 x17 p0 p9 p1 p3 p8 p2 m) (Q47 G (Q1n G k0 i) k0 (.bool false) p0 p9 p1 p3 p8 p2 m) (none)
def Qa8 (G:Gt)(k0:J5)(p9 p1 p3 p0 p8 p2:V)(m:M):R:=Q1n G k0 G.rds p9 p1 p3 p0 p8 p2 m
def Qa9 (G:Gt)(k0:J5)(p8 p1 p3 p0 p2:V)(m:M):R:=Qa8 G k0 p8 p1 p3 p0 p8 p2 m
def Qg (G:Gt):Nat→V→V→V→V→V→M→R
 | 0,_,_,_,_,_,_=>none
 | i + 1,p8,p2,p1,p3,p0,m=>bp (pur (bin .lss false true .int p8 p2) m) fun x18 m=>brb x18 (Qa9 G (Qg G i) p8 p1 p3 p0 p2 m) (some (.tuple ⟨[]⟩,m))
def Qaa (G:Gt)(p8 p2 p1 p3 p0:V)(m:M):R:=Qg G G.rds p8 p2 p1 p3 p0 m
def Q53 (G:Gt)(p1 p2 p3 p0:V)(m:M):R:=bp (pur (bin .add true true .int p1 (.int .i64 1)) m) fun x19 m=>Qaa G x19 p2 p1 p3 p0 m
theorem Qqa (G:Gt)(a0 a1 a2 a3:V)(m:M):ef G Tryz.f410 [a0,a1,a2,a3] m = Q53 G a1 a2 a3 a0 m:=X6 (r:=fun r m=>Q53 G (r 1) (r 2) (r 3) (r 0) m) rfl rfl (tr (seqQ (f:=fun r m=>Qaa G (r 8) (r 2) (r 1) (r 3) (r 0) m) (tr (X7 (Xc (fun i r m=>Qg G i (r 8) (r 2) (r 1) (r 3) (r 0) m) (fun _ _=>rfl) (fun i0=>tr (seqQ (f:=fun r m=>Qa9 G (Qg G i0) (r 8) (r 1) (r 3) (r 0) (r 2) m) (tr (tr (seqQ (f:=fun r m=>Qa7 G (Qg G i0) (r 8) (r 2) (r 1) (r 3) (r 0) m)) (X7 (seqQ (f:=fun r m=>Qa8 G (Qg G i0) (r 9) (r 1) (r 3) (r 0) (r 8) (r 2) m) (tr (X7 (Xc (fun i r m=>Q1n G (Qg G i0) i (r 9) (r 1) (r 3) (r 0) (r 8) (r 2) m) (fun _ _=>rfl) (fun i1=>tr (tr seqD (seqQ (f:=fun r m=>Q47 G (Q1n G (Qg G i0) i1) (Qg G i0) (r 34) (r 0) (r 9) (r 1) (r 3) (r 8) (r 2) m)))))))))))))))))) m
def Qqb:En:=⟨Qca,Tryz.f410,Tryz.func410,by kernel_rfl,arg4 (fun G a0 a1 a2 a3 m=>Q53 G a1 a2 a3 a0 m),X19 Qqa⟩
def Qgw (G:Gt)(p0 p2 p1 p3:V)(m:M):R:=bp (pur (X3 1 p0 p2) m) fun x0 m=>bp (pur (X4 false 1 x0 m) m) fun x1 m=>bp (pur (X3 1 p0 p1) m) fun x2 m=>bp (pur (X4 false 1 x2 m) m) fun x3 m=>bp (G.tab Q2j [x1,x3] m) fun x4 m=>brb x4 (bp (pur (X9 p3) m) fun x5 m=>bp (pur (X4 false 1 x5 m) m) fun x6 m=>bp (pur (bin .add true true .int x6 (.int .i64 1)) m) fun x7 m=>bp (pur (X9 p3) m) fun x8 m=>bp (unt (X8 1 x8 x7 m)) fun _ m=>some (.tuple ⟨[p2,p1]⟩,m)) (some (.tuple ⟨[p1,p2]⟩,m))
theorem Q1iy (G:Gt)(a0 a1 a2 a3:V)(m:M):ef G Tryz.f420 [a0,a1,a2,a3] m = Qgw G a0 a2 a1 a3 m:=X6 (r:=fun r m=>Qgw G (r 0) (r 2) (r 1) (r 3) m) rfl rfl (fun r m=>by kernel_rfl) m
def Q1iz:En:=⟨Q9b,Tryz.f420,Tryz.func420,by kernel_rfl,arg4 (fun G a0 a1 a2 a3 m=>Qgw G a0 a2 a1 a3 m),X19 Q1iy⟩
def Qi4 (G:Gt)(p0 p1 p2 p3:V)(m:M):R:=bp (some (aNew Q1i (Value.cells p0).toList m)) fun x0 m=>bp (pur (X4 false 1 p1 m) m) fun x1 m=>bp (pur (X4 true 11 x0 m) m) fun x2 m=>bp (pur (X4 false 1 p1 m) m) fun x3 m=>bp (pur (X4 false 1 p2 m) m) fun x4 m=>bp (pur (X4 false 1 p3 m) m) fun x5 m=>bp (pur (X3 11 x4 x5) m) fun x6 m=>bp (pur (X4 true 11 x6 m) m) fun x7 m=>bp (Xj G.tab x1 [x2] m) fun x8 m=>ckB (again (pur (X4 false 1 p1 m) m) x3 && (again (pur (X4 false 1 p2 m) m) x4 && (again (pur (X4 false 1 p3 m) m) x5 && (again (pur (X4 true 11 x6 m) m) x7 && true)))) (bp (Xj G.tab x3 [x7] m) fun x9 m=>bp (pur (bin .eql false true .str x8 x9) m) fun x10 m=>some (x10,m))
theorem Q1k4 (G:Gt)(a0 a1 a2 a3:V)(m:M):ef G Tryz.f422 [a0,a1,a2,a3] m = Qi4 G a0 a1 a2 a3 m:=X6 (r:=fun r m=>Qi4 G (r 0) (r 1) (r 2) (r 3) m) rfl rfl (fun r m=>by kernel_rfl) m
def Q1k5:En:=⟨Qud,Tryz.f422,Tryz.func422,by kernel_rfl,arg4 Qi4,X19 Q1k4⟩
def Qcl (G:Gt)(k0:J5)(p8 p2 p1 p3 p0:V)(m:M):R:=bp (pur (bin .add true true .int p8 (.int .i64 1)) m) fun x0 m=>k0 x0 p2 p1 p3 p0 m
def Q54 (G:Gt)(k1:J6)(k0:J5)(p34 p0 p9 p1 p3 p8 p2:V)(m:M):R:=brb p34 (bp (pur (bin .sub true true .int p9 (.int .i64 1)) m) fun x1 m=>bp (pur (bin .sub true true .int p9 (.int .i64 1)) m) fun x2 m=>bp (pur (X3 11 p0 x2) m) fun x3 m=>bp (pur (X4 true 11 x3 m) m) fun x4 m=>bp (pur (X3 11 p0 p9) m) fun x5 m=>bp (pur (X4 true 11 x5 m) m) fun x6 m=>bp (pur (X3 11 p0 p9) m) fun x7 m=>bp (unt (X8 11 x7 x4 m)) fun _ m=>bp (pur (X3 11 p0 x1) m) fun x8 m=>bp (unt (X8 11 x8 x6 m)) fun _ m=>bp (pur (bin .sub true true .int p9 (.int .i64 1)) m) fun x9 m=>k1 x9 p1 p3 p0 p8 p2 m) (Qcl G k0 p8 p2 p1 p3 p0 m)
def Q20 (G:Gt)(k0:J5):Nat→V→V→V→V→V→V→M→R
 | 0,_,_,_,_,_,_,_=>none
 | i + 1,p9,p1,p3,p0,p8,p2,m=>bp (pur (bin .gtr false true .int p9 p1) m) fun x10 m=>brt x10 (bp (pur (X3 11 p0 p9) m) fun x11 m=>bp (pur (X4 true 11 x11 m) m) fun x12 m=>bp (pur (bin .sub true true .int p9 (.int .i64 1)) m) fun x13 m=>bp (pur (X3 11 p0 x13) m) fun x14 m=>bp (pur (X4 true 11 x14 m) m) fun x15 m=>bp (Xj G.tab p3 [x12,x15] m) fun x16 m=>bp (pur (bin .lss true true .int x16 (.int .i64 0)) m) fun x17 m=>Q54 G (Q20 G k0 i) k0 x17 p0 p9 p1 p3 p8 p2 m) (Q54 G (Q20 G k0 i) k0 (.bool false) p0 p9 p1 p3 p8 p2 m) (none)
def Qcm (G:Gt)(k0:J5)(p9 p1 p3 p0 p8 p2:V)(m:M):R:=Q20 G k0 G.rds p9 p1 p3 p0 p8 p2 m
def Qcn (G:Gt)(k0:J5)(p8 p1 p3 p0 p2:V)(m:M):R:=Qcm G k0 p8 p1 p3 p0 p8 p2 m
def Qp (G:Gt):Nat→V→V→V→V→V→M→R
 | 0,_,_,_,_,_,_=>none
 | i + 1,p8,p2,p1,p3,p0,m=>bp (pur (bin .lss false true .int p8 p2) m) fun x18 m=>brb x18 (Qcn G (Qp G i) p8 p1 p3 p0 p2 m) (some (.tuple ⟨[]⟩,m))
def Qco (G:Gt)(p8 p2 p1 p3 p0:V)(m:M):R:=Qp G G.rds p8 p2 p1 p3 p0 m
def Q66 (G:Gt)(p1 p2 p3 p0:V)(m:M):R:=bp (pur (bin .add true true .int p1 (.int .i64 1)) m) fun x19 m=>Qco G x19 p2 p1 p3 p0 m
theorem Qt9 (G:Gt)(a0 a1 a2 a3:V)(m:M):ef G Tryz.f440 [a0,a1,a2,a3] m = Q66 G a1 a2 a3 a0 m:=X6 (r:=fun r m=>Q66 G (r 1) (r 2) (r 3) (r 0) m) rfl rfl (tr (seqQ (f:=fun r m=>Qco G (r 8) (r 2) (r 1) (r 3) (r 0) m) (tr (X7 (Xc (fun i r m=>Qp G i (r 8) (r 2) (r 1) (r 3) (r 0) m) (fun _ _=>rfl) (fun i0=>tr (seqQ (f:=fun r m=>Qcn G (Qp G i0) (r 8) (r 1) (r 3) (r 0) (r 2) m) (tr (tr (seqQ (f:=fun r m=>Qcl G (Qp G i0) (r 8) (r 2) (r 1) (r 3) (r 0) m)) (X7 (seqQ (f:=fun r m=>Qcm G (Qp G i0) (r 9) (r 1) (r 3) (r 0) (r 8) (r 2) m) (tr (X7 (Xc (fun i r m=>Q20 G (Qp G i0) i (r 9) (r 1) (r 3) (r 0) (r 8) (r 2) m) (fun _ _=>rfl) (fun i1=>tr (tr seqD (seqQ (f:=fun r m=>Q54 G (Q20 G (Qp G i0) i1) (Qp G i0) (r 34) (r 0) (r 9) (r 1) (r 3) (r 8) (r 2) m)))))))))))))))))) m
def Qta:En:=⟨Q5x,Tryz.f440,Tryz.func440,by kernel_rfl,arg4 (fun G a0 a1 a2 a3 m=>Q66 G a1 a2 a3 a0 m),X19 Qt9⟩
end
end Go.Ab.Sh

set_option linter.unusedVariables false
set_option maxRecDepth 100000
namespace Go.Ab.Sh
open Go Go.Ab Go.Proofs
noncomputable section
def Qao (G:Gt)(k0:J5)(p8 p2 p1 p3 p0:V)(m:M):R:=bp (pur (bin .add true true .int p8 (.int .i64 1)) m) fun x0 m=>k0 x0 p2 p1 p3 p0 m
def Q4h (G:Gt)(k1:J6)(k0:J5)(p34 p0 p9 p1 p3 p8 p2:V)(m:M):R:=brb p34 (bp (pur (bin .sub true true .int p9 (.int .i64 1)) m) fun x1 m=>bp (pur (bin .sub true true .int p9 (.int .i64 1)) m) fun x2 m=>bp (pur (X3 2 p0 x2) m) fun x3 m=>bp (pur (X4 true 2 x3 m) m) fun x4 m=>bp (pur (X3 2 p0 p9) m) fun x5 m=>bp (pur (X4 true 2 x5 m) m) fun x6 m=>bp (pur (X3 2 p0 p9) m) fun x7 m=>bp (unt (X8 2 x7 x4 m)) fun _ m=>bp (pur (X3 2 p0 x1) m) fun x8 m=>bp (unt (X8 2 x8 x6 m)) fun _ m=>bp (pur (bin .sub true true .int p9 (.int .i64 1)) m) fun x9 m=>k1 x9 p1 p3 p0 p8 p2 m) (Qao G k0 p8 p2 p1 p3 p0 m)
def Q1p (G:Gt)(k0:J5):Nat→V→V→V→V→V→V→M→R
 | 0,_,_,_,_,_,_,_=>none
 | i + 1,p9,p1,p3,p0,p8,p2,m=>bp (pur (bin .gtr false true .int p9 p1) m) fun x10 m=>brt x10 (bp (pur (X3 2 p0 p9) m) fun x11 m=>bp (pur (X4 true 2 x11 m) m) fun x12 m=>bp (pur (bin .sub true true .int p9 (.int .i64 1)) m) fun x13 m=>bp (pur (X3 2 p0 x13) m) fun x14 m=>bp (pur (X4 true 2 x14 m) m) fun x15 m=>bp (Xj G.tab p3 [x12,x15] m) fun x16 m=>bp (pur (bin .lss true true .int x16 (.int .i64 0)) m) fun x17 m=>Q4h G (Q1p G k0 i) k0 x17 p0 p9 p1 p3 p8 p2 m) (Q4h G (Q1p G k0 i) k0 (.bool false) p0 p9 p1 p3 p8 p2 m) (none)
def Qap (G:Gt)(k0:J5)(p9 p1 p3 p0 p8 p2:V)(m:M):R:=Q1p G k0 G.rds p9 p1 p3 p0 p8 p2 m
def Qaq (G:Gt)(k0:J5)(p8 p1 p3 p0 p2:V)(m:M):R:=Qap G k0 p8 p1 p3 p0 p8 p2 m
def Qh (G:Gt):Nat→V→V→V→V→V→M→R
 | 0,_,_,_,_,_,_=>none
 | i + 1,p8,p2,p1,p3,p0,m=>bp (pur (bin .lss false true .int p8 p2) m) fun x18 m=>brb x18 (Qaq G (Qh G i) p8 p1 p3 p0 p2 m) (some (.tuple ⟨[]⟩,m))
def Qar (G:Gt)(p8 p2 p1 p3 p0:V)(m:M):R:=Qh G G.rds p8 p2 p1 p3 p0 m
def Q5g (G:Gt)(p1 p2 p3 p0:V)(m:M):R:=bp (pur (bin .add true true .int p1 (.int .i64 1)) m) fun x19 m=>Qar G x19 p2 p1 p3 p0 m
theorem Qr1 (G:Gt)(a0 a1 a2 a3:V)(m:M):ef G Tryz.f442 [a0,a1,a2,a3] m = Q5g G a1 a2 a3 a0 m:=X6 (r:=fun r m=>Q5g G (r 1) (r 2) (r 3) (r 0) m) rfl rfl (tr (seqQ (f:=fun r m=>Qar G (r 8) (r 2) (r 1) (r 3) (r 0) m) (tr (X7 (Xc (fun i r m=>Qh G i (r 8) (r 2) (r 1) (r 3) (r 0) m) (fun _ _=>rfl) (fun i0=>tr (seqQ (f:=fun r m=>Qaq G (Qh G i0) (r 8) (r 1) (r 3) (r 0) (r 2) m) (tr (tr (seqQ (f:=fun r m=>Qao G (Qh G i0) (r 8) (r 2) (r 1) (r 3) (r 0) m)) (X7 (seqQ (f:=fun r m=>Qap G (Qh G i0) (r 9) (r 1) (r 3) (r 0) (r 8) (r 2) m) (tr (X7 (Xc (fun i r m=>Q1p G (Qh G i0) i (r 9) (r 1) (r 3) (r 0) (r 8) (r 2) m) (fun _ _=>rfl) (fun i1=>tr (tr seqD (seqQ (f:=fun r m=>Q4h G (Q1p G (Qh G i0) i1) (Qh G i0) (r 34) (r 0) (r 9) (r 1) (r 3) (r 8) (r 2) m)))))))))))))))))) m
def Qr2:En:=⟨Q5e,Tryz.f442,Tryz.func442,by kernel_rfl,arg4 (fun G a0 a1 a2 a3 m=>Q5g G a1 a2 a3 a0 m),X19 Qr1⟩
def Q8b (G:Gt)(k0:J5)(p8 p2 p1 p3 p0:V)(m:M):R:=bp (pur (bin .add true true .int p8 (.int .i64 1)) m) fun x0 m=>k0 x0 p2 p1 p3 p0 m
def Q3p (G:Gt)(k1:J6)(k0:J5)(p34 p0 p9 p1 p3 p8 p2:V)(m:M):R:=brb p34 (bp (pur (bin .sub true true .int p9 (.int .i64 1)) m) fun x1 m=>bp (pur (bin .sub true true .int p9 (.int .i64 1)) m) fun x2 m=>bp (pur (X3 2 p0 x2) m) fun x3 m=>bp (pur (X4 true 2 x3 m) m) fun x4 m=>bp (pur (X3 2 p0 p9) m) fun x5 m=>bp (pur (X4 true 2 x5 m) m) fun x6 m=>bp (pur (X3 2 p0 p9) m) fun x7 m=>bp (unt (X8 2 x7 x4 m)) fun _ m=>bp (pur (X3 2 p0 x1) m) fun x8 m=>bp (unt (X8 2 x8 x6 m)) fun _ m=>bp (pur (bin .sub true true .int p9 (.int .i64 1)) m) fun x9 m=>k1 x9 p1 p3 p0 p8 p2 m) (Q8b G k0 p8 p2 p1 p3 p0 m)
def Q1g (G:Gt)(k0:J5):Nat→V→V→V→V→V→V→M→R
 | 0,_,_,_,_,_,_,_=>none
 | i + 1,p9,p1,p3,p0,p8,p2,m=>bp (pur (bin .gtr false true .int p9 p1) m) fun x10 m=>brt x10 (bp (pur (X3 2 p0 p9) m) fun x11 m=>bp (pur (X4 true 2 x11 m) m) fun x12 m=>bp (pur (bin .sub true true .int p9 (.int .i64 1)) m) fun x13 m=>bp (pur (X3 2 p0 x13) m) fun x14 m=>bp (pur (X4 true 2 x14 m) m) fun x15 m=>bp (Xj G.tab p3 [x12,x15] m) fun x16 m=>bp (pur (bin .lss true true .int x16 (.int .i64 0)) m) fun x17 m=>Q3p G (Q1g G k0 i) k0 x17 p0 p9 p1 p3 p8 p2 m) (Q3p G (Q1g G k0 i) k0 (.bool false) p0 p9 p1 p3 p8 p2 m) (none)
def Q8c (G:Gt)(k0:J5)(p9 p1 p3 p0 p8 p2:V)(m:M):R:=Q1g G k0 G.rds p9 p1 p3 p0 p8 p2 m
def Q8d (G:Gt)(k0:J5)(p8 p1 p3 p0 p2:V)(m:M):R:=Q8c G k0 p8 p1 p3 p0 p8 p2 m
def Qa (G:Gt):Nat→V→V→V→V→V→M→R
 | 0,_,_,_,_,_,_=>none
 | i + 1,p8,p2,p1,p3,p0,m=>bp (pur (bin .lss false true .int p8 p2) m) fun x18 m=>brb x18 (Q8d G (Qa G i) p8 p1 p3 p0 p2 m) (some (.tuple ⟨[]⟩,m))
def Q8e (G:Gt)(p8 p2 p1 p3 p0:V)(m:M):R:=Qa G G.rds p8 p2 p1 p3 p0 m
def Q42 (G:Gt)(p1 p2 p3 p0:V)(m:M):R:=bp (pur (bin .add true true .int p1 (.int .i64 1)) m) fun x19 m=>Q8e G x19 p2 p1 p3 p0 m
theorem Qnf (G:Gt)(a0 a1 a2 a3:V)(m:M):ef G Tryz.f444 [a0,a1,a2,a3] m = Q42 G a1 a2 a3 a0 m:=X6 (r:=fun r m=>Q42 G (r 1) (r 2) (r 3) (r 0) m) rfl rfl (tr (seqQ (f:=fun r m=>Q8e G (r 8) (r 2) (r 1) (r 3) (r 0) m) (tr (X7 (Xc (fun i r m=>Qa G i (r 8) (r 2) (r 1) (r 3) (r 0) m) (fun _ _=>rfl) (fun i0=>tr (seqQ (f:=fun r m=>Q8d G (Qa G i0) (r 8) (r 1) (r 3) (r 0) (r 2) m) (tr (tr (seqQ (f:=fun r m=>Q8b G (Qa G i0) (r 8) (r 2) (r 1) (r 3) (r 0) m)) (X7 (seqQ (f:=fun r m=>Q8c G (Qa G i0) (r 9) (r 1) (r 3) (r 0) (r 8) (r 2) m) (tr (X7 (Xc (fun i r m=>Q1g G (Qa G i0) i (r 9) (r 1) (r 3) (r 0) (r 8) (r 2) m) (fun _ _=>rfl) (fun i1=>tr (tr seqD (seqQ (f:=fun r m=>Q3p G (Q1g G (Qa G i0) i1) (Qa G i0) (r 34) (r 0) (r 9) (r 1) (r 3) (r 8) (r 2) m)))))))))))))))))) m
def Qng:En:=⟨Q41,Tryz.f444,Tryz.func444,by kernel_rfl,arg4 (fun G a0 a1 a2 a3 m=>Q42 G a1 a2 a3 a0 m),X19 Qnf⟩
def Q6t (G:Gt)(k0:J5)(p8 p2 p1 p3 p0:V)(m:M):R:=bp (pur (bin .add true true .int p8 (.int .i64 1)) m) fun x0 m=>k0 x0 p2 p1 p3 p0 m
def Q34 (G:Gt)(k1:J6)(k0:J5)(p34 p0 p9 p1 p3 p8 p2:V)(m:M):R:=brb p34 (bp (pur (bin .sub true true .int p9 (.int .i64 1)) m) fun x1 m=>bp (pur (bin .sub true true .int p9 (.int .i64 1)) m) fun x2 m=>bp (pur (X3 2 p0 x2) m) fun x3 m=>bp (pur (X4 true 2 x3 m) m) fun x4 m=>bp (pur (X3 2 p0 p9) m) fun x5 m=>bp (pur (X4 true 2 x5 m) m) fun x6 m=>bp (pur (X3 2 p0 p9) m) fun x7 m=>bp (unt (X8 2 x7 x4 m)) fun _ m=>bp (pur (X3 2 p0 x1) m) fun x8 m=>bp (unt (X8 2 x8 x6 m)) fun _ m=>bp (pur (bin .sub true true .int p9 (.int .i64 1)) m) fun x9 m=>k1 x9 p1 p3 p0 p8 p2 m) (Q6t G k0 p8 p2 p1 p3 p0 m)
def Q1d (G:Gt)(k0:J5):Nat→V→V→V→V→V→V→M→R
 | 0,_,_,_,_,_,_,_=>none
 | i + 1,p9,p1,p3,p0,p8,p2,m=>bp (pur (bin .gtr false true .int p9 p1) m) fun x10 m=>brt x10 (bp (pur (X3 2 p0 p9) m) fun x11 m=>bp (pur (X4 true 2 x11 m) m) fun x12 m=>bp (pur (bin .sub true true .int p9 (.int .i64 1)) m) fun x13 m=>bp (pur (X3 2 p0 x13) m) fun x14 m=>bp (pur (X4 true 2 x14 m) m) fun x15 m=>bp (Xj G.tab p3 [x12,x15] m) fun x16 m=>bp (pur (bin .lss true true .int x16 (.int .i64 0)) m) fun x17 m=>Q34 G (Q1d G k0 i) k0 x17 p0 p9 p1 p3 p8 p2 m) (Q34 G (Q1d G k0 i) k0 (.bool false) p0 p9 p1 p3 p8 p2 m) (none)
def Q6u (G:Gt)(k0:J5)(p9 p1 p3 p0 p8 p2:V)(m:M):R:=Q1d G k0 G.rds p9 p1 p3 p0 p8 p2 m
def Q6v (G:Gt)(k0:J5)(p8 p1 p3 p0 p2:V)(m:M):R:=Q6u G k0 p8 p1 p3 p0 p8 p2 m
def Q6 (G:Gt):Nat→V→V→V→V→V→M→R
 | 0,_,_,_,_,_,_=>none
 | i + 1,p8,p2,p1,p3,p0,m=>bp (pur (bin .lss false true .int p8 p2) m) fun x18 m=>brb x18 (Q6v G (Q6 G i) p8 p1 p3 p0 p2 m) (some (.tuple ⟨[]⟩,m))
def Q6w (G:Gt)(p8 p2 p1 p3 p0:V)(m:M):R:=Q6 G G.rds p8 p2 p1 p3 p0 m
def Q3k (G:Gt)(p1 p2 p3 p0:V)(m:M):R:=bp (pur (bin .add true true .int p1 (.int .i64 1)) m) fun x19 m=>Q6w G x19 p2 p1 p3 p0 m
theorem Qlf (G:Gt)(a0 a1 a2 a3:V)(m:M):ef G Tryz.f446 [a0,a1,a2,a3] m = Q3k G a1 a2 a3 a0 m:=X6 (r:=fun r m=>Q3k G (r 1) (r 2) (r 3) (r 0) m) rfl rfl (tr (seqQ (f:=fun r m=>Q6w G (r 8) (r 2) (r 1) (r 3) (r 0) m) (tr (X7 (Xc (fun i r m=>Q6 G i (r 8) (r 2) (r 1) (r 3) (r 0) m) (fun _ _=>rfl) (fun i0=>tr (seqQ (f:=fun r m=>Q6v G (Q6 G i0) (r 8) (r 1) (r 3) (r 0) (r 2) m) (tr (tr (seqQ (f:=fun r m=>Q6t G (Q6 G i0) (r 8) (r 2) (r 1) (r 3) (r 0) m)) (X7 (seqQ (f:=fun r m=>Q6u G (Q6 G i0) (r 9) (r 1) (r 3) (r 0) (r 8) (r 2) m) (tr (X7 (Xc (fun i r m=>Q1d G (Q6 G i0) i (r 9) (r 1) (r 3) (r 0) (r 8) (r 2) m) (fun _ _=>rfl) (fun i1=>tr (tr seqD (seqQ (f:=fun r m=>Q34 G (Q1d G (Q6 G i0) i1) (Q6 G i0) (r 34) (r 0) (r 9) (r 1) (r 3) (r 8) (r 2) m)))))))))))))))))) m
def Qlg:En:=⟨Q3l,Tryz.f446,Tryz.func446,by kernel_rfl,arg4 (fun G a0 a1 a2 a3 m=>Q3k G a1 a2 a3 a0 m),X19 Qlf⟩
def Qas (G:Gt)(k0:J5)(p8 p2 p1 p3 p0:V)(m:M):R:=bp (pur (bin .add true true .int p8 (.int .i64 1)) m) fun x0 m=>k0 x0 p2 p1 p3 p0 m
def Q4i (G:Gt)(k1:J6)(k0:J5)(p34 p0 p9 p1 p3 p8 p2:V)(m:M):R:=brb p34 (bp (pur (bin .sub true true .int p9 (.int .i64 1)) m) fun x1 m=>bp (pur (bin .sub true true .int p9 (.int .i64 1)) m) fun x2 m=>bp (pur (X3 3 p0 x2) m) fun x3 m=>bp (pur (X4 true 3 x3 m) m) fun x4 m=>bp (pur (X3 3 p0 p9) m) fun x5 m=>bp (pur (X4 true 3 x5 m) m) fun x6 m=>bp (pur (X3 3 p0 p9) m) fun x7 m=>bp (unt (X8 3 x7 x4 m)) fun _ m=>bp (pur (X3 3 p0 x1) m) fun x8 m=>bp (unt (X8 3 x8 x6 m)) fun _ m=>bp (pur (bin .sub true true .int p9 (.int .i64 1)) m) fun x9 m=>k1 x9 p1 p3 p0 p8 p2 m) (Qas G k0 p8 p2 p1 p3 p0 m)
def Q1q (G:Gt)(k0:J5):Nat→V→V→V→V→V→V→M→R
 | 0,_,_,_,_,_,_,_=>none
 | i + 1,p9,p1,p3,p0,p8,p2,m=>bp (pur (bin .gtr false true .int p9 p1) m) fun x10 m=>brt x10 (bp (pur (X3 3 p0 p9) m) fun x11 m=>bp (pur (X4 true 3 x11 m) m) fun x12 m=>bp (pur (bin .sub true true .int p9 (.int .i64 1)) m) fun x13 m=>bp (pur (X3 3 p0 x13) m) fun x14 m=>bp (pur (X4 true 3 x14 m) m) fun x15 m=>bp (Xj G.tab p3 [x12,x15] m) fun x16 m=>bp (pur (bin .lss true true .int x16 (.int .i64 0)) m) fun x17 m=>Q4i G (Q1q G k0 i) k0 x17 p0 p9 p1 p3 p8 p2 m) (Q4i G (Q1q G k0 i) k0 (.bool false) p0 p9 p1 p3 p8 p2 m) (none)
def Qat (G:Gt)(k0:J5)(p9 p1 p3 p0 p8 p2:V)(m:M):R:=Q1q G k0 G.rds p9 p1 p3 p0 p8 p2 m
def Qau (G:Gt)(k0:J5)(p8 p1 p3 p0 p2:V)(m:M):R:=Qat G k0 p8 p1 p3 p0 p8 p2 m
def Qi (G:Gt):Nat→V→V→V→V→V→M→R
 | 0,_,_,_,_,_,_=>none
 | i + 1,p8,p2,p1,p3,p0,m=>bp (pur (bin .lss false true .int p8 p2) m) fun x18 m=>brb x18 (Qau G (Qi G i) p8 p1 p3 p0 p2 m) (some (.tuple ⟨[]⟩,m))
def Qav (G:Gt)(p8 p2 p1 p3 p0:V)(m:M):R:=Qi G G.rds p8 p2 p1 p3 p0 m
def Q5h (G:Gt)(p1 p2 p3 p0:V)(m:M):R:=bp (pur (bin .add true true .int p1 (.int .i64 1)) m) fun x19 m=>Qav G x19 p2 p1 p3 p0 m
theorem Qr3 (G:Gt)(a0 a1 a2 a3:V)(m:M):ef G Tryz.f448 [a0,a1,a2,a3] m = Q5h G a1 a2 a3 a0 m:=X6 (r:=fun r m=>Q5h G (r 1) (r 2) (r 3) (r 0) m) rfl rfl (tr (seqQ (f:=fun r m=>Qav G (r 8) (r 2) (r 1) (r 3) (r 0) m) (tr (X7 (Xc (fun i r m=>Qi G i (r 8) (r 2) (r 1) (r 3) (r 0) m) (fun _ _=>rfl) (fun i0=>tr (seqQ (f:=fun r m=>Qau G (Qi G i0) (r 8) (r 1) (r 3) (r 0) (r 2) m) (tr (tr (seqQ (f:=fun r m=>Qas G (Qi G i0) (r 8) (r 2) (r 1) (r 3) (r 0) m)) (X7 (seqQ (f:=fun r m=>Qat G (Qi G i0) (r 9) (r 1) (r 3) (r 0) (r 8) (r 2) m) (tr (X7 (Xc (fun i r m=>Q1q G (Qi G i0) i (r 9) (r 1) (r 3) (r 0) (r 8) (r 2) m) (fun _ _=>rfl) (fun i1=>tr (tr seqD (seqQ (f:=fun r m=>Q4i G (Q1q G (Qi G i0) i1) (Qi G i0) (r 34) (r 0) (r 9) (r 1) (r 3) (r 8) (r 2) m)))))))))))))))))) m
def Qr4:En:=⟨Q5i,Tryz.f448,Tryz.func448,by kernel_rfl,arg4 (fun G a0 a1 a2 a3 m=>Q5h G a1 a2 a3 a0 m),X19 Qr3⟩
def Qk1 (G:Gt)(p5:V)(m:M):R:=some (p5,m)
def Q59 (G:Gt)(k0:J5)(p18 p17 p1 p0 p5:V)(m:M):R:=bp (pur (bin .add true true .int p18 (.int .i64 1)) m) fun x0 m=>k0 x0 p17 p1 p0 p5 m
def Qk2 (G:Gt)(k0:J5)(p18 p17 p1 p0 p5:V)(m:M):R:=bp (pur (X51 33 1 false p17 p18) m) fun x1 m=>bp (pur (bin .eql true true .int x1 (.int .i64 0)) m) fun x2 m=>brb x2 (Q59 G k0 p18 p17 p1 p0 p5 m) (bp (G.tab Q1jy [p1,p18] m) fun x3 m=>bp (pur (X5 x3 0) m) fun x4 m=>bp (pur (X5 x3 1) m) fun x5 m=>bp (some (aNew Qs Q1c m)) fun x6 m=>bp (unt (X8 2 x6 x4 m)) fun _ m=>bp (pur (X9 p0) m) fun x7 m=>bp (pur (X0 0 x7) m) fun x8 m=>bp (pur (X4 false 1 x8 m) m) fun x9 m=>bp (pur (X4 true 2 x6 m) m) fun x10 m=>bp (pur (Xg (.struct [(0,1,false,.int),(1,1,false,.int)]) (.slice none 0 0) true x9 x10 m) m) fun x11 m=>bp (pur (X5 x11 0) m) fun x12 m=>bp (pur (X5 x11 1) m) fun x13 m=>brb x13 (bp (pur (X4 true 2 x6 m) m) fun x14 m=>bp (Xa Qs Q1c 2 1 [(0,x14)] m) fun x15 m=>bp (apS Qs 2 16 p5 x15 m) fun x16 m=>Q59 G k0 p18 p17 p1 p0 x16 m) (Q59 G k0 p18 p17 p1 p0 p5 m))
def Qk3 (G:Gt)(k0:J5)(p19 p18 p17 p1 p0 p5:V)(m:M):R:=brb p19 (Qk2 G k0 p18 p17 p1 p0 p5 m) (Qk1 G p5 m)
def Q2e (G:Gt):Nat→V→V→V→V→V→M→R
 | 0,_,_,_,_,_,_=>none
 | i + 1,p18,p17,p1,p0,p5,m=>bp (pur (bin .lss true true .int p18 (.int .i64 33)) m) fun x17 m=>Qk3 G (Q2e G i) x17 p18 p17 p1 p0 p5 m
def Qk4 (G:Gt)(p18 p17 p1 p0 p5:V)(m:M):R:=Q2e G G.rds p18 p17 p1 p0 p5 m
def Qk5 (G:Gt)(p0 p1 p5:V)(m:M):R:=bp (pur (X9 p0) m) fun x18 m=>bp (pur (X0 1 x18) m) fun x19 m=>bp (pur (X4 true 33 x19 m) m) fun x20 m=>Qk4 G (.int .i64 0) x20 p1 p0 p5 m
def Qk6 (G:Gt)(p0 p1 p5:V)(m:M):R:=bp (pur (binP m .eql true true .ptr p0 (.pointer none)) m) fun x21 m=>brb x21 (some ((.slice none 0 0),m)) (Qk5 G p0 p1 p5 m)
def Qk7 (G:Gt)(p0 p1:V)(m:M):R:=Qk6 G p0 p1 (.slice none 0 0) m
def Qcy (G:Gt)(p0 p1:V)(m:M):R:=Qk7 G p0 p1 m
theorem Q1cd (G:Gt)(a0 a1:V)(m:M):ef G Tryz.f455 [a0,a1] m = Qcy G a0 a1 m:=X6 (r:=fun r m=>Qcy G (r 0) (r 1) m) rfl rfl (tr (seqQ (f:=fun r m=>Qk7 G (r 0) (r 1) m) (tr (seqQ (f:=fun r m=>Qk6 G (r 0) (r 1) (r 5) m) (tr (seqQ (f:=fun r m=>Qk5 G (r 0) (r 1) (r 5) m) (tr (tr (seqQ (f:=fun r m=>Qk1 G (r 5) m)) (seqQ (f:=fun r m=>Qk4 G (r 18) (r 17) (r 1) (r 0) (r 5) m) (tr (X7 (Xc (fun i r m=>Q2e G i (r 18) (r 17) (r 1) (r 0) (r 5) m) (fun _ _=>rfl) (fun i0=>tr (seqQ (f:=fun r m=>Qk3 G (Q2e G i0) (r 19) (r 18) (r 17) (r 1) (r 0) (r 5) m) (tr (seqQ (f:=fun r m=>Qk2 G (Q2e G i0) (r 18) (r 17) (r 1) (r 0) (r 5) m) (tr (seqQ (f:=fun r m=>Q59 G (Q2e G i0) (r 18) (r 17) (r 1) (r 0) (r 5) m))))))))))))))))))) m
def Q1ce:En:=⟨Qm6,Tryz.f455,Tryz.func455,by kernel_rfl,arg2 Qcy,Xf Q1cd⟩
end
end Go.Ab.Sh
