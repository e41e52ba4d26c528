/-
  Functions of the program as plain definitions. No conditions.
-/
import Derived.Test.YtaljkjdmllgmdaaGreatDoorAb5
import Derived.Test.YtaljkjdmllgmdaaGreatDoorZ
import Derived.KernelRfl
import Derived.Test.YtaljkjdmllgmdaaGreatDoorProg
set_option linter.unusedSimpArgs false
set_option linter.unusedVariables false
set_option maxRecDepth 100000
namespace Go.Ab.Sh
open Go Go.Ab Go.Proofs
noncomputable section
def Qe4 (G:Gt)(p5:V)(m:M):R:=some (p5,m)
def Q6m (G:Gt):Nat→V→V→V→V→V→M→R
 | 0,_,_,_,_,_,_=>none
 | i + 1,p10,p9,p8,p5,p1,m=>bp (pur (bin .lss false true .int p10 p9) m) fun x0 m=>brb x0 (bp (pur (X4 2 p8 p10) m) fun x1 m=>bp (pur (X3 true 2 x1 m) m) fun x2 m=>bp (some (aNew Qfx Qnw m)) fun x3 m=>bp (unt (X8 2 x3 x2 m)) fun _ m=>bp (pur (X3 true 2 x3 m) m) fun x4 m=>bp (Xg G.tab p1 [x4] m) fun x5 m=>bp (Xa Qfx Qnw 2 1 [(0,x5)] m) fun x6 m=>bp (apS Qfx 2 40 p5 x6 m) fun x7 m=>bp (pur (bin .add true true .int p10 (.int .i64 1)) m) fun x8 m=>(Q6m G i) x8 p9 p8 x7 p1 m) (Qe4 G p5 m)
def Qe5 (G:Gt)(p10 p9 p8 p5 p1:V)(m:M):R:=Q6m G G.rds p10 p9 p8 p5 p1 m
def Qe6 (G:Gt)(p0 p5 p1:V)(m:M):R:=bp (pur (lenK 1 p0 m) m) fun x9 m=>Qe5 G (.int .i64 0) x9 p0 p5 p1 m
def Qe7 (G:Gt)(p0 p1:V)(m:M):R:=Qe6 G p0 (.slice none 0 0) p1 m
def Q8r (G:Gt)(p0 p1:V)(m:M):R:=Qe7 G p0 p1 m
theorem Qz9 (G:Gt)(a0 a1:V)(m:M):ef G Tryz.f366 [a0,a1] m = Q8r G a0 a1 m:=X7 (r:=fun r m=>Q8r G (r 0) (r 1) m) rfl rfl (tr (seqQ (f:=fun r m=>Qe7 G (r 0) (r 1) m) (tr (seqQ (f:=fun r m=>Qe6 G (r 0) (r 5) (r 1) m) (tr (tr (seqQ (f:=fun r m=>Qe4 G (r 5) m)) (seqQ (f:=fun r m=>Qe5 G (r 10) (r 9) (r 8) (r 5) (r 1) m) (tr (Xc (Xj (fun i r m=>Q6m G i (r 10) (r 9) (r 8) (r 5) (r 1) m) (fun _ _=>rfl) (fun i0=>fun r m=>by kernel_rfl))))))))))) m
def Qza:En:=⟨Qg1,Tryz.f366,Tryz.func366,by kernel_rfl,arg2 Q8r,Xk Qz9⟩
def Qmt (G:Gt)(p5:V)(m:M):R:=some (p5,m)
def Qcg (G:Gt):Nat→V→V→V→V→V→M→R
 | 0,_,_,_,_,_,_=>none
 | i + 1,p10,p9,p8,p5,p1,m=>bp (pur (bin .lss false true .int p10 p9) m) fun x0 m=>brb x0 (bp (pur (X4 3 p8 p10) m) fun x1 m=>bp (pur (X3 true 3 x1 m) m) fun x2 m=>bp (some (aNew Q10a Q1b3 m)) fun x3 m=>bp (unt (X8 3 x3 x2 m)) fun _ m=>bp (pur (X3 true 3 x3 m) m) fun x4 m=>bp (Xg G.tab p1 [x4] m) fun x5 m=>bp (Xa Q10a Q1b3 3 1 [(0,x5)] m) fun x6 m=>bp (apS Q10a 3 48 p5 x6 m) fun x7 m=>bp (pur (bin .add true true .int p10 (.int .i64 1)) m) fun x8 m=>(Qcg G i) x8 p9 p8 x7 p1 m) (Qmt G p5 m)
def Qmu (G:Gt)(p10 p9 p8 p5 p1:V)(m:M):R:=Qcg G G.rds p10 p9 p8 p5 p1 m
def Qmv (G:Gt)(p0 p5 p1:V)(m:M):R:=bp (pur (lenK 1 p0 m) m) fun x9 m=>Qmu G (.int .i64 0) x9 p0 p5 p1 m
def Qmw (G:Gt)(p0 p1:V)(m:M):R:=Qmv G p0 (.slice none 0 0) p1 m
def Qeq (G:Gt)(p0 p1:V)(m:M):R:=Qmw G p0 p1 m
theorem Q1b4 (G:Gt)(a0 a1:V)(m:M):ef G Tryz.f370 [a0,a1] m = Qeq G a0 a1 m:=X7 (r:=fun r m=>Qeq G (r 0) (r 1) m) rfl rfl (tr (seqQ (f:=fun r m=>Qmw G (r 0) (r 1) m) (tr (seqQ (f:=fun r m=>Qmv G (r 0) (r 5) (r 1) m) (tr (tr (seqQ (f:=fun r m=>Qmt G (r 5) m)) (seqQ (f:=fun r m=>Qmu G (r 10) (r 9) (r 8) (r 5) (r 1) m) (tr (Xc (Xj (fun i r m=>Qcg G i (r 10) (r 9) (r 8) (r 5) (r 1) m) (fun _ _=>rfl) (fun i0=>fun r m=>by kernel_rfl))))))))))) m
def Q1b5:En:=⟨Qr1,Tryz.f370,Tryz.func370,by kernel_rfl,arg2 Qeq,Xk Q1b4⟩
def Qr2 (G:Gt)(p5:V)(m:M):R:=some (p5,m)
def Qer (G:Gt):Nat→V→V→V→V→V→M→R
 | 0,_,_,_,_,_,_=>none
 | i + 1,p10,p9,p8,p5,p1,m=>bp (pur (bin .lss false true .int p10 p9) m) fun x0 m=>brb x0 (bp (pur (X4 3 p8 p10) m) fun x1 m=>bp (pur (X3 true 3 x1 m) m) fun x2 m=>bp (some (aNew Q19o Q1jb m)) fun x3 m=>bp (unt (X8 3 x3 x2 m)) fun _ m=>bp (pur (X3 true 3 x3 m) m) fun x4 m=>bp (Xg G.tab p1 [x4] m) fun x5 m=>bp (Xa Q19o Q1jb 3 1 [(0,x5)] m) fun x6 m=>bp (apS Q19o 3 48 p5 x6 m) fun x7 m=>bp (pur (bin .add true true .int p10 (.int .i64 1)) m) fun x8 m=>(Qer G i) x8 p9 p8 x7 p1 m) (Qr2 G p5 m)
def Qr3 (G:Gt)(p10 p9 p8 p5 p1:V)(m:M):R:=Qer G G.rds p10 p9 p8 p5 p1 m
def Qr4 (G:Gt)(p0 p5 p1:V)(m:M):R:=bp (pur (lenK 1 p0 m) m) fun x9 m=>Qr3 G (.int .i64 0) x9 p0 p5 p1 m
def Qr5 (G:Gt)(p0 p1:V)(m:M):R:=Qr4 G p0 (.slice none 0 0) p1 m
def Qhu (G:Gt)(p0 p1:V)(m:M):R:=Qr5 G p0 p1 m
theorem Q1f3 (G:Gt)(a0 a1:V)(m:M):ef G Tryz.f374 [a0,a1] m = Qhu G a0 a1 m:=X7 (r:=fun r m=>Qhu G (r 0) (r 1) m) rfl rfl (tr (seqQ (f:=fun r m=>Qr5 G (r 0) (r 1) m) (tr (seqQ (f:=fun r m=>Qr4 G (r 0) (r 5) (r 1) m) (tr (tr (seqQ (f:=fun r m=>Qr2 G (r 5) m)) (seqQ (f:=fun r m=>Qr3 G (r 10) (r 9) (r 8) (r 5) (r 1) m) (tr (Xc (Xj (fun i r m=>Qer G i (r 10) (r 9) (r 8) (r 5) (r 1) m) (fun _ _=>rfl) (fun i0=>fun r m=>by kernel_rfl))))))))))) m
def Q1f4:En:=⟨Qvr,Tryz.f374,Tryz.func374,by kernel_rfl,arg2 Qhu,Xk Q1f3⟩
def Qmx:En:=wE Qmy Tryz.f376 Tryz.func376 ⟨_,by go_invoke; rfl⟩
def Qt7 (G:Gt)(p5:V)(m:M):R:=some (p5,m)
def Qgj (G:Gt):Nat→V→V→V→V→V→M→R
 | 0,_,_,_,_,_,_=>none
 | i + 1,p10,p9,p8,p5,p1,m=>bp (pur (bin .lss false true .int p10 p9) m) fun x0 m=>brb x0 (bp (pur (X4 6 p8 p10) m) fun x1 m=>bp (pur (X3 true 6 x1 m) m) fun x2 m=>bp (some (aNew Q1dx Q1or m)) fun x3 m=>bp (unt (X8 6 x3 x2 m)) fun _ m=>bp (pur (X3 true 6 x3 m) m) fun x4 m=>bp (Xg G.tab p1 [x4] m) fun x5 m=>bp (Xa Q1dx Q1or 6 1 [(0,x5)] m) fun x6 m=>bp (apS Q1dx 6 96 p5 x6 m) fun x7 m=>bp (pur (bin .add true true .int p10 (.int .i64 1)) m) fun x8 m=>(Qgj G i) x8 p9 p8 x7 p1 m) (Qt7 G p5 m)
def Qt8 (G:Gt)(p10 p9 p8 p5 p1:V)(m:M):R:=Qgj G G.rds p10 p9 p8 p5 p1 m
def Qt9 (G:Gt)(p0 p5 p1:V)(m:M):R:=bp (pur (lenK 1 p0 m) m) fun x9 m=>Qt8 G (.int .i64 0) x9 p0 p5 p1 m
def Qta (G:Gt)(p0 p1:V)(m:M):R:=Qt9 G p0 (.slice none 0 0) p1 m
def Qj6 (G:Gt)(p0 p1:V)(m:M):R:=Qta G p0 p1 m
theorem Q1h4 (G:Gt)(a0 a1:V)(m:M):ef G Tryz.f377 [a0,a1] m = Qj6 G a0 a1 m:=X7 (r:=fun r m=>Qj6 G (r 0) (r 1) m) rfl rfl (tr (seqQ (f:=fun r m=>Qta G (r 0) (r 1) m) (tr (seqQ (f:=fun r m=>Qt9 G (r 0) (r 5) (r 1) m) (tr (tr (seqQ (f:=fun r m=>Qt7 G (r 5) m)) (seqQ (f:=fun r m=>Qt8 G (r 10) (r 9) (r 8) (r 5) (r 1) m) (tr (Xc (Xj (fun i r m=>Qgj G i (r 10) (r 9) (r 8) (r 5) (r 1) m) (fun _ _=>rfl) (fun i0=>fun r m=>by kernel_rfl))))))))))) m
def Q1h5:En:=⟨Qy4,Tryz.f377,Tryz.func377,by kernel_rfl,arg2 Qj6,Xk Q1h4⟩
def Q1yr:En:=wE Q1h6 Tryz.f378 Tryz.func378 ⟨_,by go_invoke; rfl⟩
def Qmz:En:=wE Qn0 Tryz.f379 Tryz.func379 ⟨_,by go_invoke; rfl⟩
def Qsm:En:=wE Qsn Tryz.f380 Tryz.func380 ⟨_,by go_invoke; rfl⟩
def Q65 (G:Gt)(k0:J6)(p87 p0 p1 p2 p11 p3 p8 p9 p10:V)(m:M):R:=brb p87 (bp (G.tab Qnx [p0,p1,p2,p11] m) fun x0 m=>k0 p2 x0 p0 p3 p8 p9 m) (bp (G.tab Qvs [p0,p1,p2,p11] m) fun x1 m=>bp (pur (X5 x1 0) m) fun x2 m=>bp (pur (X5 x1 1) m) fun x3 m=>bp (pur (bin .sub false true .int x2 p1) m) fun x4 m=>bp (pur (bin .sub false true .int p2 x2) m) fun x5 m=>bp (pur (bin .quo true true .int p10 (.int .i64 8)) m) fun x6 m=>bp (pur (bin .lss false true .int x4 x5) m) fun x7 m=>brb x7 (bp (pur (bin .geq false true .int x4 x6) m) fun x8 m=>bp (G.tab Q4l [p0,p1,x2,p3] m) fun x9 m=>bp (pur (bin .add true true .int x2 (.int .i64 1)) m) fun x10 m=>k0 p2 x10 p0 p3 x8 x3 m) (bp (pur (bin .geq false true .int x5 x6) m) fun x11 m=>bp (pur (bin .add true true .int x2 (.int .i64 1)) m) fun x12 m=>bp (G.tab Q4l [p0,x12,p2,p3] m) fun x13 m=>k0 x2 p1 p0 p3 x11 x3 m))
def Q6n (G:Gt)(k0:J6)(p1 p0 p11 p2 p3 p8 p9 p10:V)(m:M):R:=bp (pur (bin .gtr true true .int p1 (.int .i64 0)) m) fun x14 m=>brt x14 (bp (pur (bin .sub true true .int p1 (.int .i64 1)) m) fun x15 m=>bp (pur (X4 1 p0 x15) m) fun x16 m=>bp (pur (X3 false 1 x16 m) m) fun x17 m=>bp (pur (X4 1 p0 p11) m) fun x18 m=>bp (pur (X3 false 1 x18 m) m) fun x19 m=>bp (G.tab Q16k [x17,x19] m) fun x20 m=>bp (pur (un .not x20) m) fun x21 m=>Q65 G k0 x21 p0 p1 p2 p11 p3 p8 p9 p10 m) (Q65 G k0 (.bool false) p0 p1 p2 p11 p3 p8 p9 p10 m) (none)
def Q3h (G:Gt)(k0:J6)(p68 p0 p1 p2 p11 p3 p8 p9 p10:V)(m:M):R:=brb p68 (bp (G.tab Qhv [p0,p1,p2] m) fun x22 m=>brb x22 (some (.tuple ⟨[]⟩,m)) (Q6n G k0 p1 p0 p11 p2 p3 p8 p9 p10 m)) (Q6n G k0 p1 p0 p11 p2 p3 p8 p9 p10 m)
def Q6o (G:Gt)(k0:J6)(p8 p9 p12 p0 p1 p2 p11 p3 p10:V)(m:M):R:=brb p8 (brb p9 (bp (pur (bin .eql true true .int p12 (.int .i64 1)) m) fun x23 m=>Q3h G k0 x23 p0 p1 p2 p11 p3 p8 p9 p10 m) (Q3h G k0 (.bool false) p0 p1 p2 p11 p3 p8 p9 p10 m)) (Q3h G k0 (.bool false) p0 p1 p2 p11 p3 p8 p9 p10 m)
def Qe8 (G:Gt)(k0:J6)(p12 p0 p1 p2 p11 p8 p9 p3 p10:V)(m:M):R:=bp (pur (bin .eql true true .int p12 (.int .i64 2)) m) fun x24 m=>brb x24 (bp (G.tab Qr6 [p0,p1,p2] m) fun x25 m=>bp (pur (bin .sub true true .int p2 (.int .i64 1)) m) fun x26 m=>bp (pur (bin .sub false true .int p11 p1) m) fun x27 m=>bp (pur (bin .sub false true .int x26 x27) m) fun x28 m=>Q6o G k0 p8 p9 (.int .i64 1) p0 p1 p2 x28 p3 p10 m) (Q6o G k0 p8 p9 p12 p0 p1 p2 p11 p3 p10 m)
def Q6p (G:Gt)(k0:J6)(p0 p1 p2 p8 p9 p3 p10:V)(m:M):R:=bp (G.tab Qso [p0,p1,p2] m) fun x29 m=>bp (pur (X5 x29 0) m) fun x30 m=>bp (pur (X5 x29 1) m) fun x31 m=>Qe8 G k0 x31 p0 p1 p2 x30 p8 p9 p3 p10 m
def Qe9 (G:Gt)(k0:J6)(p8 p0 p1 p2 p3 p9 p10:V)(m:M):R:=bp (pur (un .not p8) m) fun x32 m=>brb x32 (bp (G.tab Qq7 [p0,p1,p2] m) fun x33 m=>bp (pur (bin .sub true true .int p3 (.int .i64 1)) m) fun x34 m=>Q6p G k0 p0 p1 p2 p8 p9 x34 p10 m) (Q6p G k0 p0 p1 p2 p8 p9 p3 p10 m)
def Qea (G:Gt)(k0:J6)(p3 p0 p1 p2 p8 p9 p10:V)(m:M):R:=bp (pur (bin .eql true true .int p3 (.int .i64 0)) m) fun x35 m=>brb x35 (bp (G.tab Qx3 [p0,p1,p2] m) fun x36 m=>some (.tuple ⟨[]⟩,m)) (Qe9 G k0 p8 p0 p1 p2 p3 p9 p10 m)
def Qeb (G:Gt)(k0:J6)(p10 p0 p1 p2 p3 p8 p9:V)(m:M):R:=bp (pur (bin .leq true true .int p10 (.int .i64 12)) m) fun x37 m=>brb x37 (bp (G.tab Qak [p0,p1,p2] m) fun x38 m=>some (.tuple ⟨[]⟩,m)) (Qea G k0 p3 p0 p1 p2 p8 p9 p10 m)
def Qe (G:Gt):Nat→V→V→V→V→V→V→M→R
 | 0,_,_,_,_,_,_,_=>none
 | i + 1,p2,p1,p0,p3,p8,p9,m=>bp (pur (bin .sub false true .int p2 p1) m) fun x39 m=>Qeb G (Qe G i) x39 p0 p1 p2 p3 p8 p9 m
def Qec (G:Gt)(p2 p1 p0 p3 p8 p9:V)(m:M):R:=Qe G G.rds p2 p1 p0 p3 p8 p9 m
def Qed (G:Gt)(p2 p1 p0 p3 p8:V)(m:M):R:=Qec G p2 p1 p0 p3 p8 (.bool true) m
def Q8s (G:Gt)(p2 p1 p0 p3:V)(m:M):R:=Qed G p2 p1 p0 p3 (.bool true) m
theorem Qzb (G:Gt)(a0 a1 a2 a3:V)(m:M):ef G Tryz.f381 [a0,a1,a2,a3] m = Q8s G a2 a1 a0 a3 m:=X7 (r:=fun r m=>Q8s G (r 2) (r 1) (r 0) (r 3) m) rfl rfl (tr (seqQ (f:=fun r m=>Qed G (r 2) (r 1) (r 0) (r 3) (r 8) m) (tr (seqQ (f:=fun r m=>Qec G (r 2) (r 1) (r 0) (r 3) (r 8) (r 9) m) (tr (Xc (Xj (fun i r m=>Qe G i (r 2) (r 1) (r 0) (r 3) (r 8) (r 9) m) (fun _ _=>rfl) (fun i0=>tr (Xc (seqQ (f:=fun r m=>Qeb G (Qe G i0) (r 10) (r 0) (r 1) (r 2) (r 3) (r 8) (r 9) m) (tr (seqQ (f:=fun r m=>Qea G (Qe G i0) (r 3) (r 0) (r 1) (r 2) (r 8) (r 9) (r 10) m) (tr (seqQ (f:=fun r m=>Qe9 G (Qe G i0) (r 8) (r 0) (r 1) (r 2) (r 3) (r 9) (r 10) m) (tr (seqQ (f:=fun r m=>Q6p G (Qe G i0) (r 0) (r 1) (r 2) (r 8) (r 9) (r 3) (r 10) m) (tr (seqQ (f:=fun r m=>Qe8 G (Qe G i0) (r 12) (r 0) (r 1) (r 2) (r 11) (r 8) (r 9) (r 3) (r 10) m) (tr (seqQ (f:=fun r m=>Q6o G (Qe G i0) (r 8) (r 9) (r 12) (r 0) (r 1) (r 2) (r 11) (r 3) (r 10) m) (tr (tr (seqQ (f:=fun r m=>Q6n G (Qe G i0) (r 1) (r 0) (r 11) (r 2) (r 3) (r 8) (r 9) (r 10) m) (tr (tr seqD (seqQ (f:=fun r m=>Q65 G (Qe G i0) (r 87) (r 0) (r 1) (r 2) (r 11) (r 3) (r 8) (r 9) (r 10) m))))) (seqQ (f:=fun r m=>Q3h G (Qe G i0) (r 68) (r 0) (r 1) (r 2) (r 11) (r 3) (r 8) (r 9) (r 10) m)))))))))))))))))))))))) m
def Qzc:En:=⟨Q4l,Tryz.f381,Tryz.func381,by kernel_rfl,arg4 (fun G a0 a1 a2 a3 m=>Q8s G a2 a1 a0 a3 m),X1h Qzb⟩
def Q10b (G:Gt)(p0:V)(m:M):R:=brb (.bool false) (bp (conv (.int .u32) p0 m) fun x0 m=>bp (G.tab Q1sd [x0] m) fun x1 m=>some (x1,m)) (bp (G.tab Q191 [p0] m) fun x2 m=>some (x2,m))
theorem Q1wi (G:Gt)(a0:V)(m:M):ef G Tryz.f382 [a0] m = Q10b G a0 m:=X7 (r:=fun r m=>Q10b G (r 0) m) rfl rfl (fun r m=>by kernel_rfl) m
def Q1wj:En:=⟨Qgy,Tryz.f382,Tryz.func382,by kernel_rfl,arg1 Q10b,Xw Q1wi⟩
def Q2t (G:Gt)(p0 p1:V)(m:M):R:=bp (pur (lenK 1 p0 m) m) fun x0 m=>bp (G.tab Qee [p0,x0,p1] m) fun x1 m=>some (.tuple ⟨[]⟩,m)
theorem Qgk (G:Gt)(a0 a1:V)(m:M):ef G Tryz.f383 [a0,a1] m = Q2t G a0 a1 m:=X7 (r:=fun r m=>Q2t G (r 0) (r 1) m) rfl rfl (fun r m=>by kernel_rfl) m
def Qgl:En:=⟨Q64,Tryz.f383,Tryz.func383,by kernel_rfl,arg2 Q2t,Xk Qgk⟩
def Qaw (G:Gt)(p0 p1 p2:V)(m:M):R:=bp (some (aNew Q2b (Value.cells p0).toList m)) fun x0 m=>bp (some (aNew Q2b (Value.cells p1).toList m)) fun x1 m=>bp (pur (X3 false 1 p2 m) m) fun x2 m=>bp (pur (X3 true 11 x0 m) m) fun x3 m=>bp (pur (X3 false 1 p2 m) m) fun x4 m=>bp (pur (X3 true 11 x1 m) m) fun x5 m=>bp (Xg G.tab x2 [x3] m) fun x6 m=>ckB (again (pur (X3 false 1 p2 m) m) x4 && (again (pur (X3 true 11 x1 m) m) x5 && true)) (bp (Xg G.tab x4 [x5] m) fun x7 m=>bp (G.tab Q192 [x6,x7] m) fun x8 m=>some (x8,m))
theorem Q16l (G:Gt)(a0 a1 a2:V)(m:M):ef G Tryz.f384 [a0,a1,a2] m = Qaw G a0 a1 a2 m:=X7 (r:=fun r m=>Qaw G (r 0) (r 1) (r 2) m) rfl rfl (fun r m=>by kernel_rfl) m
def Q16m:En:=⟨Qks,Tryz.f384,Tryz.func384,by kernel_rfl,arg3 Qaw,Xx Q16l⟩
def Q2j (G:Gt)(p0 p1:V)(m:M):R:=bp (pur (lenK 1 p0 m) m) fun x0 m=>bp (G.tab Qcp [p0,x0,p1] m) fun x1 m=>some (.tuple ⟨[]⟩,m)
theorem Qes (G:Gt)(a0 a1:V)(m:M):ef G Tryz.f385 [a0,a1] m = Q2j G a0 a1 m:=X7 (r:=fun r m=>Q2j G (r 0) (r 1) m) rfl rfl (fun r m=>by kernel_rfl) m
def Qet:En:=⟨Q5d,Tryz.f385,Tryz.func385,by kernel_rfl,arg2 Q2j,Xk Qes⟩
def Q21 (G:Gt)(p0 p1:V)(m:M):R:=bp (pur (lenK 1 p0 m) m) fun x0 m=>bp (G.tab Q9z [p0,x0,p1] m) fun x1 m=>some (.tuple ⟨[]⟩,m)
theorem Qad (G:Gt)(a0 a1:V)(m:M):ef G Tryz.f387 [a0,a1] m = Q21 G a0 a1 m:=X7 (r:=fun r m=>Q21 G (r 0) (r 1) m) rfl rfl (fun r m=>by kernel_rfl) m
def Qae:En:=⟨Q3m,Tryz.f387,Tryz.func387,by kernel_rfl,arg2 Q21,Xk Qad⟩
def Q1n (G:Gt)(p0 p1:V)(m:M):R:=bp (pur (lenK 1 p0 m) m) fun x0 m=>bp (G.tab Q8z [p0,x0,p1] m) fun x1 m=>some (.tuple ⟨[]⟩,m)
theorem Q8t (G:Gt)(a0 a1:V)(m:M):ef G Tryz.f389 [a0,a1] m = Q1n G a0 a1 m:=X7 (r:=fun r m=>Q1n G (r 0) (r 1) m) rfl rfl (fun r m=>by kernel_rfl) m
def Q8u:En:=⟨Q2r,Tryz.f389,Tryz.func389,by kernel_rfl,arg2 Q1n,Xk Q8t⟩
def Q2k (G:Gt)(p0 p1:V)(m:M):R:=bp (pur (lenK 1 p0 m) m) fun x0 m=>bp (G.tab Qcq [p0,x0,p1] m) fun x1 m=>some (.tuple ⟨[]⟩,m)
theorem Qeu (G:Gt)(a0 a1:V)(m:M):ef G Tryz.f391 [a0,a1] m = Q2k G a0 a1 m:=X7 (r:=fun r m=>Q2k G (r 0) (r 1) m) rfl rfl (fun r m=>by kernel_rfl) m
def Qev:En:=⟨Q5e,Tryz.f391,Tryz.func391,by kernel_rfl,arg2 Q2k,Xk Qeu⟩
end
end Go.Ab.Sh

set_option maxRecDepth 100000
namespace Go.Ab.Sh
open Go Go.Ab Go.Proofs
noncomputable section
def Q5f (G:Gt)(k0:J4)(p6 p1 p0 p2:V)(m:M):R:=bp (pur (bin .mul true true .int p6 (.int .i64 2)) m) fun x0 m=>k0 x0 p1 p0 p2 m
def Qax (G:Gt)(k0:J4)(p7 p6 p1 p0 p2:V)(m:M):R:=bp (pur (bin .add false true .int p7 p6) m) fun x1 m=>bp (pur (bin .lss false true .int x1 p1) m) fun x2 m=>brb x2 (bp (G.tab Qay [p0,p7,x1,p1,p2] m) fun x3 m=>Q5f G k0 p6 p1 p0 p2 m) (Q5f G k0 p6 p1 p0 p2 m)
def Q5g (G:Gt)(k0:J4):Nat→V→V→V→V→V→V→M→R
 | 0,_,_,_,_,_,_,_=>none
 | i + 1,p8,p1,p0,p7,p6,p2,m=>bp (pur (bin .leq false true .int p8 p1) m) fun x4 m=>brb x4 (bp (pur (bin .add false true .int p7 p6) m) fun x5 m=>bp (G.tab Qay [p0,p7,x5,p8,p2] m) fun x6 m=>bp (pur (bin .mul true true .int (.int .i64 2) p6) m) fun x7 m=>bp (pur (bin .add false true .int p8 x7) m) fun x8 m=>(Q5g G k0 i) x8 p1 p0 p8 p6 p2 m) (Qax G k0 p7 p6 p1 p0 p2 m)
def Qaz (G:Gt)(k0:J4)(p8 p1 p0 p7 p6 p2:V)(m:M):R:=Q5g G k0 G.rds p8 p1 p0 p7 p6 p2 m
def Qb0 (G:Gt)(k0:J4)(p6 p1 p0 p2:V)(m:M):R:=bp (pur (bin .mul true true .int (.int .i64 2) p6) m) fun x9 m=>Qaz G k0 x9 p1 p0 (.int .i64 0) p6 p2 m
def Qt (G:Gt):Nat→V→V→V→V→M→R
 | 0,_,_,_,_,_=>none
 | i + 1,p6,p1,p0,p2,m=>bp (pur (bin .lss false true .int p6 p1) m) fun x10 m=>brb x10 (Qb0 G (Qt G i) p6 p1 p0 p2 m) (some (.tuple ⟨[]⟩,m))
def Qb1 (G:Gt)(p6 p1 p0 p2:V)(m:M):R:=Qt G G.rds p6 p1 p0 p2 m
def Qb2 (G:Gt)(p0 p7 p1 p2 p6:V)(m:M):R:=bp (G.tab Q3u [p0,p7,p1,p2] m) fun x11 m=>Qb1 G p6 p1 p0 p2 m
def Q52 (G:Gt):Nat→V→V→V→V→V→V→M→R
 | 0,_,_,_,_,_,_,_=>none
 | i + 1,p8,p1,p0,p7,p2,p6,m=>bp (pur (bin .leq false true .int p8 p1) m) fun x12 m=>brb x12 (bp (G.tab Q3u [p0,p7,p8,p2] m) fun x13 m=>bp (pur (bin .add false true .int p8 p6) m) fun x14 m=>(Q52 G i) x14 p1 p0 p8 p2 p6 m) (Qb2 G p0 p7 p1 p2 p6 m)
def Qb3 (G:Gt)(p8 p1 p0 p7 p2 p6:V)(m:M):R:=Q52 G G.rds p8 p1 p0 p7 p2 p6 m
def Qb4 (G:Gt)(p6 p1 p0 p2:V)(m:M):R:=Qb3 G p6 p1 p0 (.int .i64 0) p2 p6 m
def Q66 (G:Gt)(p1 p0 p2:V)(m:M):R:=Qb4 G (.int .i64 20) p1 p0 p2 m
theorem Qu2 (G:Gt)(a0 a1 a2:V)(m:M):ef G Tryz.f393 [a0,a1,a2] m = Q66 G a1 a0 a2 m:=X7 (r:=fun r m=>Q66 G (r 1) (r 0) (r 2) m) rfl rfl (tr (seqQ (f:=fun r m=>Qb4 G (r 6) (r 1) (r 0) (r 2) m) (tr (seqQ (f:=fun r m=>Qb3 G (r 8) (r 1) (r 0) (r 7) (r 2) (r 6) m) (tr (tr (seqQ (f:=fun r m=>Qb2 G (r 0) (r 7) (r 1) (r 2) (r 6) m) (tr (seqQ (f:=fun r m=>Qb1 G (r 6) (r 1) (r 0) (r 2) m) (tr (Xc (Xj (fun i r m=>Qt G i (r 6) (r 1) (r 0) (r 2) m) (fun _ _=>rfl) (fun i0=>tr (seqQ (f:=fun r m=>Qb0 G (Qt G i0) (r 6) (r 1) (r 0) (r 2) m) (tr (Xc (seqQ (f:=fun r m=>Qaz G (Qt G i0) (r 8) (r 1) (r 0) (r 7) (r 6) (r 2) m) (tr (tr (seqQ (f:=fun r m=>Qax G (Qt G i0) (r 7) (r 6) (r 1) (r 0) (r 2) m) (tr (seqQ (f:=fun r m=>Q5f G (Qt G i0) (r 6) (r 1) (r 0) (r 2) m)))) (Xc (Xj (fun i r m=>Q5g G (Qt G i0) i (r 8) (r 1) (r 0) (r 7) (r 6) (r 2) m) (fun _ _=>rfl) (fun i1=>fun r m=>by kernel_rfl)))))))))))))))) (Xc (Xj (fun i r m=>Q52 G i (r 8) (r 1) (r 0) (r 7) (r 2) (r 6) m) (fun _ _=>rfl) (fun i0=>fun r m=>by kernel_rfl))))))))) m
def Qu3:En:=⟨Qcr,Tryz.f393,Tryz.func393,by kernel_rfl,arg3 (fun G a0 a1 a2 m=>Q66 G a1 a0 a2 m),Xx Qu2⟩
def Q21k:En:=wE Q21l Tryz.f394 Tryz.func394 ⟨_,by go_invoke; rfl⟩
def Q1d3:En:=wE Q1d4 Tryz.f395 Tryz.func395 ⟨_,by go_invoke; rfl⟩
def Qu4:En:=wE Qu5 Tryz.f396 Tryz.func396 ⟨_,by go_invoke; rfl⟩
def Q86 (G:Gt)(p0 p1:V)(m:M):R:=bp (G.tab Q7d [p0,p1] m) fun x0 m=>some (x0,m)
theorem Qx4 (G:Gt)(a0 a1:V)(m:M):ef G Tryz.f397 [a0,a1] m = Q86 G a0 a1 m:=X7 (r:=fun r m=>Q86 G (r 0) (r 1) m) rfl rfl (fun r m=>by kernel_rfl) m
def Qx5:En:=⟨Qew,Tryz.f397,Tryz.func397,by kernel_rfl,arg2 Q86,Xk Qx4⟩
def Q1ys:En:=wE Q1h7 Tryz.f405 Tryz.func405 ⟨_,by go_invoke; rfl⟩
def Q29i:En:=wE Q29j Tryz.f408 Tryz.func408 ⟨_,by go_invoke; rfl⟩
def Q1se:En:=wE Q1sf Tryz.f409 Tryz.func409 ⟨_,by go_invoke; rfl⟩
def Q1p6:En:=wE Q1p7 Tryz.f410 Tryz.func410 ⟨_,by go_invoke; rfl⟩
def Qny (G:Gt)(p1 p0:V)(m:M):R:=bp (some (aNew Qo (Value.cells p1).toList m)) fun x0 m=>bp (pur (X3 true 2 x0 m) m) fun x1 m=>bp (G.tab Q1b6 [p0,x1] m) fun x2 m=>bp (pur (bin .neq true true .int x2 (.int .i64 0)) m) fun x3 m=>brb x3 (some (.tuple ⟨[(.slice none 0 0),x2]⟩,m)) (bp (pur (X6 p0) m) fun x4 m=>bp (pur (X0 1 x4) m) fun x5 m=>bp (pur (X3 false 1 x5 m) m) fun x6 m=>bp (pur (X3 true 2 x0 m) m) fun x7 m=>bp (pur (Xp (.struct [(0,1,false,.int),(1,1,false,.int)]) (.slice none 0 0) false x6 x7 m) m) fun x8 m=>bp (G.tab Q51 [x8] m) fun x9 m=>some (.tuple ⟨[x9,(.int .i64 0)]⟩,m))
theorem Q1mv (G:Gt)(a0 a1:V)(m:M):ef G Tryz.f411 [a0,a1] m = Qny G a1 a0 m:=X7 (r:=fun r m=>Qny G (r 1) (r 0) m) rfl rfl (fun r m=>by kernel_rfl) m
def Q1mw:En:=⟨Q13f,Tryz.f411,Tryz.func411,by kernel_rfl,arg2 (fun G a0 a1 m=>Qny G a1 a0 m),Xk Q1mv⟩
def Qq8:En:=wE Qq9 Tryz.f412 Tryz.func412 ⟨_,by go_invoke; rfl⟩
def Qgz (G:Gt)(p9 p0 p1:V)(m:M):R:=brb p9 (some (.tuple ⟨[(.int .i64 0),(.int .i64 1)]⟩,m)) (bp (conv (.int .i32) p1 m) fun x0 m=>bp (G.tab Q6d [p0,x0,(.int .i32 0),(.int .i32 1)] m) fun x1 m=>bp (G.tab Q4n [p0,x1] m) fun x2 m=>bp (pur (X5 x2 0) m) fun x3 m=>bp (pur (X5 x2 1) m) fun x4 m=>some (.tuple ⟨[x3,x4]⟩,m))
def Qr7 (G:Gt)(p6 p1 p0:V)(m:M):R:=brb p6 (some (.tuple ⟨[(.int .i64 0),(.int .i64 2)]⟩,m)) (bp (pur (bin .lss true true .int p1 (.int .i64 0)) m) fun x5 m=>brb x5 (Qgz G (.bool true) p0 p1 m) (bp (pur (X6 p0) m) fun x6 m=>bp (pur (X0 0 x6) m) fun x7 m=>bp (pur (X3 false 1 x7 m) m) fun x8 m=>bp (pur (bin .geq false true .int p1 x8) m) fun x9 m=>Qgz G x9 p0 p1 m))
def Qr8 (G:Gt)(p0 p1:V)(m:M):R:=bp (pur (binP m .eql true true .ptr p0 (.pointer none)) m) fun x10 m=>Qr7 G x10 p1 p0 m
def Q5h (G:Gt)(p0 p1:V)(m:M):R:=Qr8 G p0 p1 m
theorem Q1us (G:Gt)(a0 a1:V)(m:M):ef G Tryz.f415 [a0,a1] m = Q5h G a0 a1 m:=X7 (r:=fun r m=>Q5h G (r 0) (r 1) m) rfl rfl (tr (seqQ (f:=fun r m=>Qr8 G (r 0) (r 1) m) (tr (tr seqD (Xc (seqQ (f:=fun r m=>Qr7 G (r 6) (r 1) (r 0) m) (tr (X4j (refQ) (seqQ (f:=fun r m=>Qgz G (r 9) (r 0) (r 1) m)))))))))) m
def Qx6:En:=⟨Q47,Tryz.f415,Tryz.func415,by kernel_rfl,arg2 Q5h,Xk Q1us⟩
def Q1jh (G:Gt)(p0:V)(m:M):R:=bp (pur (bin .mul true true .int (.int .i64 2) p0) m) fun x0 m=>bp (pur (bin .add true true .int x0 (.int .i64 1)) m) fun x1 m=>some (x1,m)
theorem Q27u (G:Gt)(a0:V)(m:M):ef G Tryz.f416 [a0] m = Q1jh G a0 m:=X7 (r:=fun r m=>Q1jh G (r 0) m) rfl rfl (fun r m=>by kernel_rfl) m
def Q27v:En:=⟨Q1wk,Tryz.f416,Tryz.func416,by kernel_rfl,arg1 Q1jh,Xw Q27u⟩
def Qx7 (G:Gt)(p0 p1 p2:V)(m:M):R:=bp (Xa Q4w [(.int .i64 0)] 1 2 [(0,p1),(1,p2)] m) fun x0 m=>bp (G.tab Q25 [p0,x0] m) fun x1 m=>bp (pur (bin .neq true true .int x1 (.int .i64 0)) m) fun x2 m=>brb x2 (some (.tuple ⟨[(.int .i64 0),x1]⟩,m)) (bp (conv (.int .i32) p1 m) fun x3 m=>bp (conv (.int .i32) p2 m) fun x4 m=>bp (G.tab Q20 [p0,x4,(.int .i32 0),(.int .i32 1)] m) fun x5 m=>bp (conv (.int .i32) p2 m) fun x6 m=>bp (G.tab Q20 [p0,x3,x5,x6] m) fun x7 m=>bp (G.tab Q4n [p0,x7] m) fun x8 m=>bp (pur (X5 x8 0) m) fun x9 m=>bp (pur (X5 x8 1) m) fun x10 m=>some (.tuple ⟨[x9,x10]⟩,m))
theorem Q1ut (G:Gt)(a0 a1 a2:V)(m:M):ef G Tryz.f417 [a0,a1,a2] m = Qx7 G a0 a1 a2 m:=X7 (r:=fun r m=>Qx7 G (r 0) (r 1) (r 2) m) rfl rfl (fun r m=>by kernel_rfl) m
def Q1uu:En:=⟨Q1b7,Tryz.f417,Tryz.func417,by kernel_rfl,arg3 Qx7,Xx Q1ut⟩
def Qex (G:Gt)(p0 p1:V)(m:M):R:=bp (G.tab Q28 [p0,p1,(.int .i64 0),(.int .i64 1)] m) fun x0 m=>bp (pur (X5 x0 0) m) fun x1 m=>bp (pur (X5 x0 1) m) fun x2 m=>some (.tuple ⟨[x1,x2]⟩,m)
theorem Q1uv (G:Gt)(a0 a1:V)(m:M):ef G Tryz.f418 [a0,a1] m = Qex G a0 a1 m:=X7 (r:=fun r m=>Qex G (r 0) (r 1) m) rfl rfl (fun r m=>by kernel_rfl) m
def Qx8:En:=⟨Qey,Tryz.f418,Tryz.func418,by kernel_rfl,arg2 Qex,Xk Q1uv⟩
def Qhw (G:Gt)(p1 p0 p2:V)(m:M):R:=bp (pur (X6 p0) m) fun x0 m=>bp (pur (X0 3 x0) m) fun x1 m=>bp (pur (X3 false 1 x1 m) m) fun x2 m=>bp (pur (bin .eql false true .int p1 x2) m) fun x3 m=>brb x3 (some (p2,m)) (bp (pur (X6 p0) m) fun x4 m=>bp (pur (X0 0 x4) m) fun x5 m=>bp (pur (X3 false 1 x5 m) m) fun x6 m=>bp (G.tab Q1h8 [x6,p1,p2] m) fun x7 m=>bp (pur (X5 x7 0) m) fun x8 m=>bp (pur (X5 x7 1) m) fun x9 m=>bp (G.tab Q8 [p0,x8,x9] m) fun x10 m=>some (x10,m))
theorem Q1f5 (G:Gt)(a0 a1 a2:V)(m:M):ef G Tryz.f420 [a0,a1,a2] m = Qhw G a1 a0 a2 m:=X7 (r:=fun r m=>Qhw G (r 1) (r 0) (r 2) m) rfl rfl (fun r m=>by kernel_rfl) m
def Q1f6:En:=⟨Qhx,Tryz.f420,Tryz.func420,by kernel_rfl,arg3 (fun G a0 a1 a2 m=>Qhw G a1 a0 a2 m),Xx Q1f5⟩
def Q189 (G:Gt)(p0:V)(m:M):R:=bp (some (aNew Qdz (Value.cells p0).toList m)) fun x0 m=>bp (some (aNew Qdz Q15h m)) fun x1 m=>bp (pur (X0 3 x0) m) fun x2 m=>bp (pur (X3 false 1 x2 m) m) fun x3 m=>bp (G.tab Qef [x3] m) fun x4 m=>bp (pur (X0 3 x0) m) fun x5 m=>bp (unt (X8 1 x5 x4 m)) fun _ m=>bp (pur (X3 true 4 x0 m) m) fun x6 m=>bp (unt (X8 4 x1 x6 m)) fun _ m=>ob (ob (X3 true 4 x1 m) fun v=>ob (some []) fun l=>some (v :: l)) fun l=>some (X17 l,m)
theorem Q21m (G:Gt)(a0:V)(m:M):ef G Tryz.f421 [a0] m = Q189 G a0 m:=X7 (r:=fun r m=>Q189 G (r 0) m) rfl rfl (fun r m=>by kernel_rfl) m
def Q21n:En:=⟨Q1li,Tryz.f421,Tryz.func421,by kernel_rfl,arg1 Q189,Xw Q21m⟩
def Qu6:En:=wE Qcs Tryz.f422 Tryz.func422 ⟨_,by go_invoke; rfl⟩
def Q87 (G:Gt)(p0:V)(m:M):R:=bp (pur (bin .neq false true .int p0 p0) m) fun x0 m=>some (x0,m)
theorem Q1uw (G:Gt)(a0:V)(m:M):ef G Tryz.f423 [a0] m = Q87 G a0 m:=X7 (r:=fun r m=>Q87 G (r 0) m) rfl rfl (fun r m=>by kernel_rfl) m
def Qx9:En:=⟨Q88,Tryz.f423,Tryz.func423,by kernel_rfl,arg1 Q87,Xw Q1uw⟩
def Q13g (G:Gt)(p12:V)(m:M):R:=some (.tuple ⟨[p12,(.int .i64 0)]⟩,m)
def Qnz (G:Gt)(k0:J7)(p0 p14 p12 p13 p4 p1 p3 p2:V)(m:M):R:=bp (pur (X6 p0) m) fun x0 m=>bp (pur (X0 0 x0) m) fun x1 m=>bp (pur (X3 false 1 x1 m) m) fun x2 m=>bp (G.tab Qac [x2,p14,p12] m) fun x3 m=>bp (pur (X5 x3 0) m) fun x4 m=>bp (pur (X5 x3 1) m) fun x5 m=>bp (pur (bin .neq true true .int x5 (.int .i64 0)) m) fun x6 m=>brb x6 (some (.tuple ⟨[(.int .i64 0),x5]⟩,m)) (bp (pur (bin .sub true true .int p13 (.int .i64 1)) m) fun x7 m=>k0 x7 p0 p4 p1 p3 p2 x4 m)
def Q13h (G:Gt)(k0:J7)(p3 p2 p13 p0 p14 p12 p4 p1:V)(m:M):R:=bp (pur (bin .sub true true .int p2 (.int .i64 1)) m) fun x8 m=>bp (pur (bin .sub false true .int x8 p13) m) fun x9 m=>bp (pur (bin .shr false true .int p3 x9) m) fun x10 m=>bp (pur (bin .and true true .int x10 (.int .u64 1)) m) fun x11 m=>bp (pur (bin .eql true true .int x11 (.int .u64 0)) m) fun x12 m=>brb x12 (bp (pur (X6 p0) m) fun x13 m=>bp (pur (X0 0 x13) m) fun x14 m=>bp (pur (X3 false 1 x14 m) m) fun x15 m=>bp (G.tab Qey [x15,p14] m) fun x16 m=>bp (pur (X5 x16 0) m) fun x17 m=>bp (pur (X5 x16 1) m) fun x18 m=>bp (pur (bin .neq true true .int x18 (.int .i64 0)) m) fun x19 m=>brb x19 (some (.tuple ⟨[(.int .i64 0),x18]⟩,m)) (Qnz G k0 p0 x17 p12 p13 p4 p1 p3 p2 m)) (Qnz G k0 p0 p14 p12 p13 p4 p1 p3 p2 m)
def Q13i (G:Gt)(k0:J7)(p15 p3 p2 p13 p0 p14 p12 p4 p1:V)(m:M):R:=bp (pur (bin .neq true true .int p15 (.int .i64 0)) m) fun x20 m=>brb x20 (some (.tuple ⟨[(.int .i64 0),p15]⟩,m)) (Q13h G k0 p3 p2 p13 p0 p14 p12 p4 p1 m)
def Q13j (G:Gt)(k0:J7)(p0 p4 p1 p13 p3 p2 p12:V)(m:M):R:=bp (pur (X6 p0) m) fun x21 m=>bp (pur (X0 0 x21) m) fun x22 m=>bp (pur (X3 false 1 x22 m) m) fun x23 m=>bp (pur (bin .add false true .int p1 p13) m) fun x24 m=>bp (Xg G.tab p4 [x24] m) fun x25 m=>ckB (again (pur (X3 false 1 x22 m) m) x23 && true) (bp (G.tab Q47 [x23,x25] m) fun x26 m=>bp (pur (X5 x26 0) m) fun x27 m=>bp (pur (X5 x26 1) m) fun x28 m=>Q13i G k0 x28 p3 p2 p13 p0 x27 p12 p4 p1 m)
def Q4q (G:Gt):Nat→V→V→V→V→V→V→V→M→R
 | 0,_,_,_,_,_,_,_,_=>none
 | i + 1,p13,p0,p4,p1,p3,p2,p12,m=>bp (pur (bin .geq true true .int p13 (.int .i64 0)) m) fun x29 m=>brb x29 (Q13j G (Q4q G i) p0 p4 p1 p13 p3 p2 p12 m) (Q13g G p12 m)
def Q13k (G:Gt)(p13 p0 p4 p1 p3 p2 p12:V)(m:M):R:=Q4q G G.rds p13 p0 p4 p1 p3 p2 p12 m
def Q13l (G:Gt)(p2 p0 p4 p1 p3 p12:V)(m:M):R:=bp (pur (bin .sub true true .int p2 (.int .i64 1)) m) fun x30 m=>Q13k G x30 p0 p4 p1 p3 p2 p12 m
def Q13m (G:Gt)(p2 p0 p4 p1 p3:V)(m:M):R:=Q13l G p2 p0 p4 p1 p3 (.int .i64 1) m
def Qu7 (G:Gt)(p2 p0 p4 p1 p3:V)(m:M):R:=Q13m G p2 p0 p4 p1 p3 m
theorem Q1sg (G:Gt)(a0 a1 a2 a3 a4:V)(m:M):ef G Tryz.f424 [a0,a1,a2,a3,a4] m = Qu7 G a2 a0 a4 a1 a3 m:=X7 (r:=fun r m=>Qu7 G (r 2) (r 0) (r 4) (r 1) (r 3) m) rfl rfl (tr (seqQ (f:=fun r m=>Q13m G (r 2) (r 0) (r 4) (r 1) (r 3) m) (tr (seqQ (f:=fun r m=>Q13l G (r 2) (r 0) (r 4) (r 1) (r 3) (r 12) m) (tr (tr (seqQ (f:=fun r m=>Q13g G (r 12) m)) (seqQ (f:=fun r m=>Q13k G (r 13) (r 0) (r 4) (r 1) (r 3) (r 2) (r 12) m) (tr (Xc (Xj (fun i r m=>Q4q G i (r 13) (r 0) (r 4) (r 1) (r 3) (r 2) (r 12) m) (fun _ _=>rfl) (fun i0=>tr (seqQ (f:=fun r m=>Q13j G (Q4q G i0) (r 0) (r 4) (r 1) (r 13) (r 3) (r 2) (r 12) m) (tr (tr seqD (Xc (seqQ (f:=fun r m=>Q13i G (Q4q G i0) (r 15) (r 3) (r 2) (r 13) (r 0) (r 14) (r 12) (r 4) (r 1) m) (tr (seqQ (f:=fun r m=>Q13h G (Q4q G i0) (r 3) (r 2) (r 13) (r 0) (r 14) (r 12) (r 4) (r 1) m) (tr (seqQ (f:=fun r m=>Qnz G (Q4q G i0) (r 0) (r 14) (r 12) (r 13) (r 4) (r 1) (r 3) (r 2) m))))))))))))))))))))) m
def Q1sh:En:=⟨Q193,Tryz.f424,Tryz.func424,by kernel_rfl,arg5 (fun G a0 a1 a2 a3 a4 m=>Qu7 G a2 a0 a4 a1 a3 m),X71 Q1sg⟩
def Q1f7 (G:Gt)(m:M):R:=bp (pur (Xu Qll [(0,1),(1,1)] [(0,(.int .i64 0)),(1,(.int .i64 32))]) m) fun x0 m=>bp (pur (Xu Qll [(0,1),(1,1)] [(0,(.int .i64 32)),(1,(.int .i64 32))]) m) fun x1 m=>bp (pur (Xu Qll [(0,1),(1,1)] [(0,(.int .i64 64)),(1,(.int .i64 8))]) m) fun x2 m=>bp (pur (Xu Qll [(0,1),(1,1)] [(0,(.int .i64 72)),(1,(.int .i64 16))]) m) fun x3 m=>bp (pur (Xu Qll [(0,1),(1,1)] [(0,(.int .i64 88)),(1,(.int .i64 16))]) m) fun x4 m=>bp (Xa Q19r Qll 2 5 [(0,x0),(1,x1),(2,x2),(3,x3),(4,x4)] m) fun x5 m=>some (x5,m)
theorem Q25z (G:Gt)(m:M):ef G Tryz.f425 [] m = Q1f7 G m:=X7 (r:=fun r m=>Q1f7 G m) rfl rfl (fun r m=>by kernel_rfl) m
def Q260:En:=⟨Q1f8,Tryz.f425,Tryz.func425,by kernel_rfl,arg0 (fun G  m=>Q1f7 G m),Xl5 Q25z⟩
def Qgm (G:Gt)(p0 p1:V)(m:M):R:=bp (some (aNew Q2b (Value.cells p0).toList m)) fun x0 m=>bp (pur (X0 0 x0) m) fun x1 m=>bp (pur (X3 false 1 x1 m) m) fun x2 m=>bp (pur (X0 0 p1) m) fun x3 m=>bp (pur (X3 false 1 x3 m) m) fun x4 m=>bp (pur (bin .eql false true .str x2 x4) m) fun x5 m=>some (x5,m)
theorem Q1d5 (G:Gt)(a0 a1:V)(m:M):ef G Tryz.f426 [a0,a1] m = Qgm G a0 a1 m:=X7 (r:=fun r m=>Qgm G (r 0) (r 1) m) rfl rfl (fun r m=>by kernel_rfl) m
def Q1d6:En:=⟨Qtb,Tryz.f426,Tryz.func426,by kernel_rfl,arg2 Qgm,Xk Q1d5⟩
end
end Go.Ab.Sh

set_option maxRecDepth 100000
namespace Go.Ab.Sh
open Go Go.Ab Go.Proofs
noncomputable section
def Q4i (G:Gt)(k0:J7)(p97 p0 p1 p2 p13 p4 p3 p10 p11 p12:V)(m:M):R:=brb p97 (bp (G.tab Qir [p0,p1,p2,p13,p4] m) fun x0 m=>k0 p2 x0 p0 p4 p3 p10 p11 m) (bp (G.tab Qo0 [p0,p1,p2,p13,p4] m) fun x1 m=>bp (pur (X5 x1 0) m) fun x2 m=>bp (pur (X5 x1 1) m) fun x3 m=>bp (pur (bin .sub false true .int x2 p1) m) fun x4 m=>bp (pur (bin .sub false true .int p2 x2) m) fun x5 m=>bp (pur (bin .quo true true .int p12 (.int .i64 8)) m) fun x6 m=>bp (pur (bin .lss false true .int x4 x5) m) fun x7 m=>brb x7 (bp (pur (bin .geq false true .int x4 x6) m) fun x8 m=>bp (G.tab Q2u [p0,p1,x2,p3,p4] m) fun x9 m=>bp (pur (bin .add true true .int x2 (.int .i64 1)) m) fun x10 m=>k0 p2 x10 p0 p4 p3 x8 x3 m) (bp (pur (bin .geq false true .int x5 x6) m) fun x11 m=>bp (pur (bin .add true true .int x2 (.int .i64 1)) m) fun x12 m=>bp (G.tab Q2u [p0,x12,p2,p3,p4] m) fun x13 m=>k0 x2 p1 p0 p4 p3 x11 x3 m))
def Q4r (G:Gt)(k0:J7)(p1 p4 p0 p13 p2 p3 p10 p11 p12:V)(m:M):R:=bp (pur (bin .gtr true true .int p1 (.int .i64 0)) m) fun x14 m=>brt x14 (bp (pur (bin .sub true true .int p1 (.int .i64 1)) m) fun x15 m=>bp (pur (X4 3 p0 x15) m) fun x16 m=>bp (pur (X3 true 3 x16 m) m) fun x17 m=>bp (pur (X4 3 p0 p13) m) fun x18 m=>bp (pur (X3 true 3 x18 m) m) fun x19 m=>bp (Xg G.tab p4 [x17,x19] m) fun x20 m=>bp (pur (bin .lss true true .int x20 (.int .i64 0)) m) fun x21 m=>bp (pur (un .not x21) m) fun x22 m=>Q4i G k0 x22 p0 p1 p2 p13 p4 p3 p10 p11 p12 m) (Q4i G k0 (.bool false) p0 p1 p2 p13 p4 p3 p10 p11 p12 m) (none)
def Q2i (G:Gt)(k0:J7)(p75 p0 p1 p2 p4 p13 p3 p10 p11 p12:V)(m:M):R:=brb p75 (bp (G.tab Qek [p0,p1,p2,p4] m) fun x23 m=>brb x23 (some (.tuple ⟨[]⟩,m)) (Q4r G k0 p1 p4 p0 p13 p2 p3 p10 p11 p12 m)) (Q4r G k0 p1 p4 p0 p13 p2 p3 p10 p11 p12 m)
def Q4s (G:Gt)(k0:J7)(p10 p11 p14 p0 p1 p2 p4 p13 p3 p12:V)(m:M):R:=brb p10 (brb p11 (bp (pur (bin .eql true true .int p14 (.int .i64 1)) m) fun x24 m=>Q2i G k0 x24 p0 p1 p2 p4 p13 p3 p10 p11 p12 m) (Q2i G k0 (.bool false) p0 p1 p2 p4 p13 p3 p10 p11 p12 m)) (Q2i G k0 (.bool false) p0 p1 p2 p4 p13 p3 p10 p11 p12 m)
def Qa0 (G:Gt)(k0:J7)(p14 p0 p1 p2 p4 p13 p10 p11 p3 p12:V)(m:M):R:=bp (pur (bin .eql true true .int p14 (.int .i64 2)) m) fun x25 m=>brb x25 (bp (G.tab Qk7 [p0,p1,p2,p4] m) fun x26 m=>bp (pur (bin .sub true true .int p2 (.int .i64 1)) m) fun x27 m=>bp (pur (bin .sub false true .int p13 p1) m) fun x28 m=>bp (pur (bin .sub false true .int x27 x28) m) fun x29 m=>Q4s G k0 p10 p11 (.int .i64 1) p0 p1 p2 p4 x29 p3 p12 m) (Q4s G k0 p10 p11 p14 p0 p1 p2 p4 p13 p3 p12 m)
def Q4t (G:Gt)(k0:J7)(p0 p1 p2 p4 p10 p11 p3 p12:V)(m:M):R:=bp (G.tab Qlm [p0,p1,p2,p4] m) fun x30 m=>bp (pur (X5 x30 0) m) fun x31 m=>bp (pur (X5 x30 1) m) fun x32 m=>Qa0 G k0 x32 p0 p1 p2 p4 x31 p10 p11 p3 p12 m
def Qa1 (G:Gt)(k0:J7)(p10 p0 p1 p2 p4 p3 p11 p12:V)(m:M):R:=bp (pur (un .not p10) m) fun x33 m=>brb x33 (bp (G.tab Qj7 [p0,p1,p2,p4] m) fun x34 m=>bp (pur (bin .sub true true .int p3 (.int .i64 1)) m) fun x35 m=>Q4t G k0 p0 p1 p2 p4 p10 p11 x35 p12 m) (Q4t G k0 p0 p1 p2 p4 p10 p11 p3 p12 m)
def Qa2 (G:Gt)(k0:J7)(p3 p0 p1 p2 p4 p10 p11 p12:V)(m:M):R:=bp (pur (bin .eql true true .int p3 (.int .i64 0)) m) fun x36 m=>brb x36 (bp (G.tab Qqa [p0,p1,p2,p4] m) fun x37 m=>some (.tuple ⟨[]⟩,m)) (Qa1 G k0 p10 p0 p1 p2 p4 p3 p11 p12 m)
def Qa3 (G:Gt)(k0:J7)(p12 p0 p1 p2 p4 p3 p10 p11:V)(m:M):R:=bp (pur (bin .leq true true .int p12 (.int .i64 12)) m) fun x38 m=>brb x38 (bp (G.tab Q8c [p0,p1,p2,p4] m) fun x39 m=>some (.tuple ⟨[]⟩,m)) (Qa2 G k0 p3 p0 p1 p2 p4 p10 p11 p12 m)
def Q6 (G:Gt):Nat→V→V→V→V→V→V→V→M→R
 | 0,_,_,_,_,_,_,_,_=>none
 | i + 1,p2,p1,p0,p4,p3,p10,p11,m=>bp (pur (bin .sub false true .int p2 p1) m) fun x40 m=>Qa3 G (Q6 G i) x40 p0 p1 p2 p4 p3 p10 p11 m
def Qa4 (G:Gt)(p2 p1 p0 p4 p3 p10 p11:V)(m:M):R:=Q6 G G.rds p2 p1 p0 p4 p3 p10 p11 m
def Qa5 (G:Gt)(p2 p1 p0 p4 p3 p10:V)(m:M):R:=Qa4 G p2 p1 p0 p4 p3 p10 (.bool true) m
def Q5i (G:Gt)(p2 p1 p0 p4 p3:V)(m:M):R:=Qa5 G p2 p1 p0 p4 p3 (.bool true) m
theorem Qr9 (G:Gt)(a0 a1 a2 a3 a4:V)(m:M):ef G Tryz.f427 [a0,a1,a2,a3,a4] m = Q5i G a2 a1 a0 a4 a3 m:=X7 (r:=fun r m=>Q5i G (r 2) (r 1) (r 0) (r 4) (r 3) m) rfl rfl (tr (seqQ (f:=fun r m=>Qa5 G (r 2) (r 1) (r 0) (r 4) (r 3) (r 10) m) (tr (seqQ (f:=fun r m=>Qa4 G (r 2) (r 1) (r 0) (r 4) (r 3) (r 10) (r 11) m) (tr (Xc (Xj (fun i r m=>Q6 G i (r 2) (r 1) (r 0) (r 4) (r 3) (r 10) (r 11) m) (fun _ _=>rfl) (fun i0=>tr (Xc (seqQ (f:=fun r m=>Qa3 G (Q6 G i0) (r 12) (r 0) (r 1) (r 2) (r 4) (r 3) (r 10) (r 11) m) (tr (seqQ (f:=fun r m=>Qa2 G (Q6 G i0) (r 3) (r 0) (r 1) (r 2) (r 4) (r 10) (r 11) (r 12) m) (tr (seqQ (f:=fun r m=>Qa1 G (Q6 G i0) (r 10) (r 0) (r 1) (r 2) (r 4) (r 3) (r 11) (r 12) m) (tr (seqQ (f:=fun r m=>Q4t G (Q6 G i0) (r 0) (r 1) (r 2) (r 4) (r 10) (r 11) (r 3) (r 12) m) (tr (seqQ (f:=fun r m=>Qa0 G (Q6 G i0) (r 14) (r 0) (r 1) (r 2) (r 4) (r 13) (r 10) (r 11) (r 3) (r 12) m) (tr (seqQ (f:=fun r m=>Q4s G (Q6 G i0) (r 10) (r 11) (r 14) (r 0) (r 1) (r 2) (r 4) (r 13) (r 3) (r 12) m) (tr (tr (seqQ (f:=fun r m=>Q4r G (Q6 G i0) (r 1) (r 4) (r 0) (r 13) (r 2) (r 3) (r 10) (r 11) (r 12) m) (tr (tr seqD (seqQ (f:=fun r m=>Q4i G (Q6 G i0) (r 97) (r 0) (r 1) (r 2) (r 13) (r 4) (r 3) (r 10) (r 11) (r 12) m))))) (seqQ (f:=fun r m=>Q2i G (Q6 G i0) (r 75) (r 0) (r 1) (r 2) (r 4) (r 13) (r 3) (r 10) (r 11) (r 12) m)))))))))))))))))))))))) m
def Qra:En:=⟨Q2u,Tryz.f427,Tryz.func427,by kernel_rfl,arg5 (fun G a0 a1 a2 a3 a4 m=>Q5i G a2 a1 a0 a4 a3 m),X71 Qr9⟩
def Qn1 (G:Gt)(p16 p17:V)(m:M):R:=bp (pur (X6 p16) m) fun x0 m=>bp (pur (X0 4 x0) m) fun x1 m=>bp (pur (X3 false 1 x1 m) m) fun x2 m=>bp (pur (bin .neq true true .int x2 (.int .i64 0)) m) fun x3 m=>brb x3 (some (.tuple ⟨[(.int .i64 0),(.int .i64 3)]⟩,m)) (some (.tuple ⟨[p17,(.int .i64 0)]⟩,m))
def Qch (G:Gt):Nat→V→V→V→V→V→V→V→V→M→R
 | 0,_,_,_,_,_,_,_,_,_=>none
 | i + 1,p66,p65,p64,p16,p0,p17,p4,p3,m=>bp (pur (bin .lss false true .int p66 p65) m) fun x4 m=>brb x4 (bp (pur (X4 5 p64 p66) m) fun x5 m=>bp (pur (X3 true 5 x5 m) m) fun x6 m=>bp (some (aNew Q5x Qei m)) fun x7 m=>bp (unt (X8 5 x7 x6 m)) fun _ m=>bp (pur (X6 p0) m) fun x8 m=>bp (pur (X0 0 x8) m) fun x9 m=>bp (pur (X3 false 1 x9 m) m) fun x10 m=>bp (pur (X3 true 5 x7 m) m) fun x11 m=>bp (Xg G.tab p4 [p16,x11,p3] m) fun x12 m=>ckB (again (pur (X3 false 1 x9 m) m) x10 && true) (bp (G.tab Q4v [x10,p17,x12] m) fun x13 m=>bp (pur (X5 x13 0) m) fun x14 m=>bp (pur (X5 x13 1) m) fun x15 m=>bp (G.tab Q8 [p16,x14,x15] m) fun x16 m=>bp (pur (bin .add true true .int p66 (.int .i64 1)) m) fun x17 m=>(Qch G i) x17 p65 p64 p16 p0 x16 p4 p3 m)) (Qn1 G p16 p17 m)
def Qn2 (G:Gt)(p66 p65 p64 p16 p0 p17 p4 p3:V)(m:M):R:=Qch G G.rds p66 p65 p64 p16 p0 p17 p4 p3 m
def Qn3 (G:Gt)(p12 p2 p16 p0 p17 p4 p3:V)(m:M):R:=bp (pur (X0 8 p12) m) fun x18 m=>bp (pur (X3 false 1 x18 m) m) fun x19 m=>bp (pur (X4 3 x19 p2) m) fun x20 m=>bp (pur (X0 2 x20) m) fun x21 m=>bp (pur (X3 false 1 x21 m) m) fun x22 m=>bp (pur (lenK 1 x22 m) m) fun x23 m=>Qn2 G (.int .i64 0) x23 x22 p16 p0 p17 p4 p3 m
def Qn4 (G:Gt)(p12 p2 p16 p0 p4 p3:V)(m:M):R:=Qn3 G p12 p2 p16 p0 (.int .i64 0) p4 p3 m
def Qn5 (G:Gt)(p0 p12 p2 p4 p3:V)(m:M):R:=bp (pur (X6 p0) m) fun x24 m=>bp (pur (X0 0 x24) m) fun x25 m=>bp (pur (X3 false 1 x25 m) m) fun x26 m=>bp (pur (X6 p0) m) fun x27 m=>bp (pur (X0 1 x27) m) fun x28 m=>bp (pur (X3 false 1 x28 m) m) fun x29 m=>bp (pur (Xu Q1az [(0,1),(1,1),(2,1),(3,1),(4,1)] [(0,x26),(3,x29)]) m) fun x30 m=>bp (some (aNew Q1b0 (Value.cells x30).toList m)) fun x31 m=>Qn4 G p12 p2 x31 p0 p4 p3 m
def Qn6 (G:Gt)(p0 p3 p12 p2 p4:V)(m:M):R:=bp (pur (X6 p0) m) fun x32 m=>bp (pur (X0 0 x32) m) fun x33 m=>bp (pur (X3 false 1 x33 m) m) fun x34 m=>bp (G.tab Q31 [x34,p3,(.int .i64 0)] m) fun x35 m=>bp (pur (X5 x35 0) m) fun x36 m=>bp (pur (X5 x35 1) m) fun x37 m=>bp (pur (bin .neq true true .int x37 (.int .i64 0)) m) fun x38 m=>brb x38 (some (.tuple ⟨[(.int .i64 0),(.int .i64 1)]⟩,m)) (Qn5 G p0 p12 p2 p4 p3 m)
def Qb5 (G:Gt)(p37 p0 p3 p12 p2 p4:V)(m:M):R:=brb p37 (some (.tuple ⟨[(.int .i64 0),(.int .i64 1)]⟩,m)) (Qn6 G p0 p3 p12 p2 p4 m)
def Qn7 (G:Gt)(p2 p12 p0 p3 p4:V)(m:M):R:=bp (pur (bin .lss true true .int p2 (.int .i64 0)) m) fun x39 m=>brb x39 (Qb5 G (.bool true) p0 p3 p12 p2 p4 m) (bp (pur (X0 8 p12) m) fun x40 m=>bp (pur (X3 false 1 x40 m) m) fun x41 m=>bp (pur (lenK 1 x41 m) m) fun x42 m=>bp (pur (bin .geq false true .int p2 x42) m) fun x43 m=>Qb5 G x43 p0 p3 p12 p2 p4 m)
def Qn8 (G:Gt)(p13 p2 p12 p0 p3 p4:V)(m:M):R:=bp (pur (bin .neq true true .int p13 (.int .i64 0)) m) fun x44 m=>brb x44 (some (.tuple ⟨[(.int .i64 0),p13]⟩,m)) (Qn7 G p2 p12 p0 p3 p4 m)
def Qn9 (G:Gt)(p0 p6 p2 p3 p4:V)(m:M):R:=bp (pur (X3 true 2 p6 m) m) fun x45 m=>bp (G.tab Qfv [p0,x45] m) fun x46 m=>bp (pur (X5 x46 0) m) fun x47 m=>bp (pur (X5 x46 1) m) fun x48 m=>bp (some (aNew Qcf Q79 m)) fun x49 m=>bp (unt (X8 9 x49 x47 m)) fun _ m=>Qn8 G x48 p2 x49 p0 p3 p4 m
def Qez (G:Gt)(p1 p0 p2 p3 p4:V)(m:M):R:=bp (some (aNew Qo (Value.cells p1).toList m)) fun x50 m=>Qn9 G p0 x50 p2 p3 p4 m
theorem Q1b8 (G:Gt)(a0 a1 a2 a3 a4:V)(m:M):ef G Tryz.f428 [a0,a1,a2,a3,a4] m = Qez G a1 a0 a2 a3 a4 m:=X7 (r:=fun r m=>Qez G (r 1) (r 0) (r 2) (r 3) (r 4) m) rfl rfl (tr (seqQ (f:=fun r m=>Qn9 G (r 0) (r 6) (r 2) (r 3) (r 4) m) (tr (seqQ (f:=fun r m=>Qn8 G (r 13) (r 2) (r 12) (r 0) (r 3) (r 4) m) (tr (seqQ (f:=fun r m=>Qn7 G (r 2) (r 12) (r 0) (r 3) (r 4) m) (tr (tr (seqQ (f:=fun r m=>Qn6 G (r 0) (r 3) (r 12) (r 2) (r 4) m) (tr (seqQ (f:=fun r m=>Qn5 G (r 0) (r 12) (r 2) (r 4) (r 3) m) (tr (seqQ (f:=fun r m=>Qn4 G (r 12) (r 2) (r 16) (r 0) (r 4) (r 3) m) (tr (seqQ (f:=fun r m=>Qn3 G (r 12) (r 2) (r 16) (r 0) (r 17) (r 4) (r 3) m) (tr (tr (seqQ (f:=fun r m=>Qn1 G (r 16) (r 17) m)) (seqQ (f:=fun r m=>Qn2 G (r 66) (r 65) (r 64) (r 16) (r 0) (r 17) (r 4) (r 3) m) (tr (Xc (Xj (fun i r m=>Qch G i (r 66) (r 65) (r 64) (r 16) (r 0) (r 17) (r 4) (r 3) m) (fun _ _=>rfl) (fun i0=>fun r m=>by kernel_rfl)))))))))))))) (seqQ (f:=fun r m=>Qb5 G (r 37) (r 0) (r 3) (r 12) (r 2) (r 4) m)))))))))) m
def Q1b9:En:=⟨Qrb,Tryz.f428,Tryz.func428,by kernel_rfl,arg5 (fun G a0 a1 a2 a3 a4 m=>Qez G a1 a0 a2 a3 a4 m),X71 Q1b8⟩
def Q1ux:En:=wE Q1uy Tryz.f429 Tryz.func429 ⟨_,by go_invoke; rfl⟩
def Q23y:En:=wE Q23z Tryz.f430 Tryz.func430 ⟨_,by go_invoke; rfl⟩
def Qna:En:=wE Qnb Tryz.f431 Tryz.func431 ⟨_,by go_invoke; rfl⟩
def Q1wl:En:=wE Q1e2 Tryz.f432 Tryz.func432 ⟨_,by go_invoke; rfl⟩
def Q1wm:En:=wE Q1e3 Tryz.f433 Tryz.func433 ⟨_,by go_invoke; rfl⟩
def Q10c (G:Gt)(p0 p1:V)(m:M):R:=bp (pur (X3 false 1 p0 m) m) fun x0 m=>bp (pur (X0 6 p1) m) fun x1 m=>bp (pur (X3 true 2 x1 m) m) fun x2 m=>bp (Xa Qln Qdh 2 1 [(0,x2)] m) fun x3 m=>bp (G.tab Qdi [x0,(.int .i64 3),x3] m) fun x4 m=>bp (pur (X5 x4 0) m) fun x5 m=>bp (pur (X5 x4 1) m) fun x6 m=>some (.tuple ⟨[x5,x6]⟩,m)
theorem Q1wn (G:Gt)(a0 a1:V)(m:M):ef G Tryz.f434 [a0,a1] m = Q10c G a0 a1 m:=X7 (r:=fun r m=>Q10c G (r 0) (r 1) m) rfl rfl (fun r m=>by kernel_rfl) m
def Q1wo:En:=⟨Q1e4,Tryz.f434,Tryz.func434,by kernel_rfl,arg2 Q10c,Xk Q1wn⟩
def Qhy (G:Gt)(p10:V)(m:M):R:=some (.tuple ⟨[p10,(.int .i64 0)]⟩,m)
def Qhz (G:Gt):Nat→V→V→V→V→V→V→V→M→R
 | 0,_,_,_,_,_,_,_,_=>none
 | i + 1,p35,p34,p33,p9,p10,p0,p8,m=>bp (pur (bin .lss false true .int p35 p34) m) fun x0 m=>brb x0 (bp (pur (X4 2 p33 p35) m) fun x1 m=>bp (pur (X3 true 2 x1 m) m) fun x2 m=>bp (some (aNew Qln Qdh m)) fun x3 m=>bp (unt (X8 2 x3 x2 m)) fun _ m=>bp (pur (X0 0 x3) m) fun x4 m=>bp (pur (X3 false 1 x4 m) m) fun x5 m=>bp (conv (.int .u64) x5 m) fun x6 m=>bp (pur (bin .gtr false true .int x6 p9) m) fun x7 m=>brb x7 (Qhy G p10 m) (bp (pur (X3 true 2 p8 m) m) fun x8 m=>bp (pur (X0 0 x3) m) fun x9 m=>bp (pur (X3 false 1 x9 m) m) fun x10 m=>bp (conv (.int .u64) x10 m) fun x11 m=>bp (G.tab Qrc [p0,x8,x11,(.bool true)] m) fun x12 m=>bp (pur (X5 x12 0) m) fun x13 m=>bp (pur (X5 x12 1) m) fun x14 m=>bp (pur (bin .neq true true .int x14 (.int .i64 0)) m) fun x15 m=>brb x15 (some (.tuple ⟨[(.int .i64 0),x14]⟩,m)) (bp (pur (X3 true 2 p8 m) m) fun x16 m=>bp (pur (X0 1 x3) m) fun x17 m=>bp (pur (X3 false 1 x17 m) m) fun x18 m=>bp (conv (.int .u64) x18 m) fun x19 m=>bp (pur (aMin x19 p9) m) fun x20 m=>bp (G.tab Qrc [p0,x16,x20,(.bool false)] m) fun x21 m=>bp (pur (X5 x21 0) m) fun x22 m=>bp (pur (X5 x21 1) m) fun x23 m=>bp (pur (bin .neq true true .int x23 (.int .i64 0)) m) fun x24 m=>brb x24 (some (.tuple ⟨[(.int .i64 0),x23]⟩,m)) (bp (pur (X6 p0) m) fun x25 m=>bp (pur (X0 0 x25) m) fun x26 m=>bp (pur (X3 false 1 x26 m) m) fun x27 m=>bp (G.tab Qac [x27,x13,x22] m) fun x28 m=>bp (pur (X5 x28 0) m) fun x29 m=>bp (pur (X5 x28 1) m) fun x30 m=>bp (pur (bin .neq true true .int x30 (.int .i64 0)) m) fun x31 m=>brb x31 (some (.tuple ⟨[(.int .i64 0),x30]⟩,m)) (bp (pur (X6 p0) m) fun x32 m=>bp (pur (X0 0 x32) m) fun x33 m=>bp (pur (X3 false 1 x33 m) m) fun x34 m=>bp (G.tab Qh0 [x34,p10,x29] m) fun x35 m=>bp (pur (X5 x35 0) m) fun x36 m=>bp (pur (X5 x35 1) m) fun x37 m=>bp (pur (bin .neq true true .int x37 (.int .i64 0)) m) fun x38 m=>brb x38 (some (.tuple ⟨[(.int .i64 0),x37]⟩,m)) (bp (pur (bin .add true true .int p35 (.int .i64 1)) m) fun x39 m=>(Qhz G i) x39 p34 p33 p9 x36 p0 p8 m)))))) (Qhy G p10 m)
def Qvt (G:Gt)(p35 p34 p33 p9 p10 p0 p8:V)(m:M):R:=Qhz G G.rds p35 p34 p33 p9 p10 p0 p8 m
def Qvu (G:Gt)(p2 p9 p10 p0 p8:V)(m:M):R:=bp (G.tab Q1p8 [p2] m) fun x40 m=>bp (pur (lenK 1 x40 m) m) fun x41 m=>Qvt G (.int .i64 0) x41 x40 p9 p10 p0 p8 m
def Qvv (G:Gt)(p2 p9 p0 p8:V)(m:M):R:=Qvu G p2 p9 (.int .i64 0) p0 p8 m
def Qvw (G:Gt)(p8 p2 p0:V)(m:M):R:=bp (pur (X0 1 p8) m) fun x42 m=>bp (pur (X3 false 1 x42 m) m) fun x43 m=>bp (pur (bin .shl true true .int (.int .u64 1) x43) m) fun x44 m=>bp (pur (bin .sub true true .int x44 (.int .u64 1)) m) fun x45 m=>Qvv G p2 x45 p0 p8 m
def Qvx (G:Gt)(p1 p2 p0:V)(m:M):R:=bp (G.tab Q1f8 [] m) fun x46 m=>bp (pur (X4 2 x46 p1) m) fun x47 m=>bp (pur (X3 true 2 x47 m) m) fun x48 m=>bp (some (aNew Q19r Qll m)) fun x49 m=>bp (unt (X8 2 x49 x48 m)) fun _ m=>Qvw G x49 p2 p0 m
def Qi0 (G:Gt)(p23 p1 p2 p0:V)(m:M):R:=brb p23 (some (.tuple ⟨[(.int .i64 0),(.int .i64 1)]⟩,m)) (Qvx G p1 p2 p0 m)
def Qvy (G:Gt)(p1 p2 p0:V)(m:M):R:=bp (pur (bin .lss true true .int p1 (.int .i64 0)) m) fun x50 m=>brb x50 (Qi0 G (.bool true) p1 p2 p0 m) (bp (pur (bin .gtr true true .int p1 (.int .i64 4)) m) fun x51 m=>Qi0 G x51 p1 p2 p0 m)
def Qvz (G:Gt)(p0 p1 p2:V)(m:M):R:=bp (pur (binP m .eql true true .ptr p0 (.pointer none)) m) fun x52 m=>brb x52 (some (.tuple ⟨[(.int .i64 0),(.int .i64 2)]⟩,m)) (Qvy G p1 p2 p0 m)
def Qlo (G:Gt)(p0 p1 p2:V)(m:M):R:=Qvz G p0 p1 p2 m
theorem Q1ji (G:Gt)(a0 a1 a2:V)(m:M):ef G Tryz.f435 [a0,a1,a2] m = Qlo G a0 a1 a2 m:=X7 (r:=fun r m=>Qlo G (r 0) (r 1) (r 2) m) rfl rfl (tr (seqQ (f:=fun r m=>Qvz G (r 0) (r 1) (r 2) m) (tr (seqQ (f:=fun r m=>Qvy G (r 1) (r 2) (r 0) m) (tr (tr (seqQ (f:=fun r m=>Qvx G (r 1) (r 2) (r 0) m) (tr (seqQ (f:=fun r m=>Qvw G (r 8) (r 2) (r 0) m) (tr (seqQ (f:=fun r m=>Qvv G (r 2) (r 9) (r 0) (r 8) m) (tr (seqQ (f:=fun r m=>Qvu G (r 2) (r 9) (r 10) (r 0) (r 8) m) (tr (tr (seqQ (f:=fun r m=>Qhy G (r 10) m)) (seqQ (f:=fun r m=>Qvt G (r 35) (r 34) (r 33) (r 9) (r 10) (r 0) (r 8) m) (tr (Xc (Xj (fun i r m=>Qhz G i (r 35) (r 34) (r 33) (r 9) (r 10) (r 0) (r 8) m) (fun _ _=>rfl) (fun i0=>fun r m=>by kernel_rfl)))))))))))))) (seqQ (f:=fun r m=>Qi0 G (r 23) (r 1) (r 2) (r 0) m)))))))) m
def Q1jj:En:=⟨Qdi,Tryz.f435,Tryz.func435,by kernel_rfl,arg3 Qlo,Xx Q1ji⟩
def Q10d (G:Gt)(p0 p1:V)(m:M):R:=bp (pur (X3 false 1 p0 m) m) fun x0 m=>bp (pur (X0 8 p1) m) fun x1 m=>bp (pur (X3 true 2 x1 m) m) fun x2 m=>bp (Xa Qln Qdh 2 1 [(0,x2)] m) fun x3 m=>bp (G.tab Qdi [x0,(.int .i64 4),x3] m) fun x4 m=>bp (pur (X5 x4 0) m) fun x5 m=>bp (pur (X5 x4 1) m) fun x6 m=>some (.tuple ⟨[x5,x6]⟩,m)
theorem Q1wp (G:Gt)(a0 a1:V)(m:M):ef G Tryz.f436 [a0,a1] m = Q10d G a0 a1 m:=X7 (r:=fun r m=>Q10d G (r 0) (r 1) m) rfl rfl (fun r m=>by kernel_rfl) m
def Q1wq:En:=⟨Q1e5,Tryz.f436,Tryz.func436,by kernel_rfl,arg2 Q10d,Xk Q1wp⟩
def Q10e (G:Gt)(p0 p1:V)(m:M):R:=bp (pur (X3 false 1 p0 m) m) fun x0 m=>bp (pur (X0 1 p1) m) fun x1 m=>bp (pur (X3 false 1 x1 m) m) fun x2 m=>bp (conv (.int .u32) x2 m) fun x3 m=>bp (pur (X0 1 p1) m) fun x4 m=>bp (pur (X3 false 1 x4 m) m) fun x5 m=>bp (conv (.int .u32) x5 m) fun x6 m=>bp (pur (Xu Qdh [(0,1),(1,1)] [(0,x3),(1,x6)]) m) fun x7 m=>bp (Xa Qln Qdh 2 1 [(0,x7)] m) fun x8 m=>bp (G.tab Qdi [x0,(.int .i64 2),x8] m) fun x9 m=>bp (pur (X5 x9 0) m) fun x10 m=>bp (pur (X5 x9 1) m) fun x11 m=>some (.tuple ⟨[x10,x11]⟩,m)
theorem Q1wr (G:Gt)(a0 a1:V)(m:M):ef G Tryz.f437 [a0,a1] m = Q10e G a0 a1 m:=X7 (r:=fun r m=>Q10e G (r 0) (r 1) m) rfl rfl (fun r m=>by kernel_rfl) m
def Q1ws:En:=⟨Q1e6,Tryz.f437,Tryz.func437,by kernel_rfl,arg2 Q10e,Xk Q1wr⟩
def Qrd (G:Gt)(p0 p2 p1:V)(m:M):R:=bp (some (aNew Q2l (Value.cells p0).toList m)) fun x0 m=>bp (some (aNew Q15i (Value.cells p2).toList m)) fun x1 m=>bp (some (X11 m)) fun x2 m=>bp (unt (Xh .int x2 (.int .i32 0) (.bool true) m)) fun _ m=>bp (unt (Xh .int x2 (.int .i32 1) (.bool true) m)) fun _ m=>bp (some (aNew Qlp [(.map none)] m)) fun x3 m=>bp (unt (X8 1 x3 x2 m)) fun _ m=>bp (some (aNew Q15i [.nilFunc] m)) fun x4 m=>let x5:V:=(.func (.func Q10f) ⟨[]⟩ ⟨[x3,x1,x4,x0]⟩);bp (unt (X8 1 x4 x5 m)) fun _ m=>bp (pur (X3 false 1 x4 m) m) fun x6 m=>bp (Xg G.tab x6 [p1] m) fun x7 m=>some (.tuple ⟨[]⟩,m)
theorem Q1p9 (G:Gt)(a0 a1 a2:V)(m:M):ef G Tryz.f438 [a0,a1,a2] m = Qrd G a0 a2 a1 m:=X7 (r:=fun r m=>Qrd G (r 0) (r 2) (r 1) m) rfl rfl (fun r m=>by kernel_rfl) m
def Q1pa:En:=⟨Q16n,Tryz.f438,Tryz.func438,by kernel_rfl,arg3 (fun G a0 a1 a2 m=>Qrd G a0 a2 a1 m),Xx Q1p9⟩
end
end Go.Ab.Sh

set_option maxRecDepth 100000
namespace Go.Ab.Sh
open Go Go.Ab Go.Proofs
noncomputable section
def Qi1 (G:Gt)(p1 p2 p0:V)(m:M):R:=bp (pur (X3 false 1 p1 m) m) fun x0 m=>bp (pur (X3 false 1 p2 m) m) fun x1 m=>bp (pur (X6 x1) m) fun x2 m=>bp (pur (X0 2 x2) m) fun x3 m=>bp (pur (X3 false 1 x3 m) m) fun x4 m=>bp (pur (X4 3 x4 p0) m) fun x5 m=>bp (pur (X0 0 x5) m) fun x6 m=>bp (pur (X3 false 1 x6 m) m) fun x7 m=>bp (conv (.int .i64) x7 m) fun x8 m=>bp (Xa Q4w [(.int .i64 0)] 1 1 [(0,x8)] m) fun x9 m=>bp (apS Q4w 1 8 x0 x9 m) fun x10 m=>bp (unt (X8 1 p1 x10 m)) fun _ m=>some (.tuple ⟨[]⟩,m)
theorem Q1f9 (G:Gt)(a0 a1 a2:V)(m:M):ef G Tryz.f440 [a0,a1,a2] m = Qi1 G a1 a2 a0 m:=X7 (r:=fun r m=>Qi1 G (r 1) (r 2) (r 0) m) rfl rfl (fun r m=>by kernel_rfl) m
def Q1fa:En:=⟨Qw0,Tryz.f440,Tryz.func440,by kernel_rfl,arg3 (fun G a0 a1 a2 m=>Qi1 G a1 a2 a0 m),Xx Q1f9⟩
def Qf0 (G:Gt)(p0:V)(m:M):R:=bp (pur (lenK 1 p0 m) m) fun x0 m=>bp (conv (.int .u64) x0 m) fun x1 m=>bp (G.tab Qgy [x1] m) fun x2 m=>bp (G.tab Q5y [p0,(.int .i64 0),x0,x2] m) fun x3 m=>some (.tuple ⟨[]⟩,m)
theorem Q1ba (G:Gt)(a0:V)(m:M):ef G Tryz.f441 [a0] m = Qf0 G a0 m:=X7 (r:=fun r m=>Qf0 G (r 0) m) rfl rfl (fun r m=>by kernel_rfl) m
def Q1bb:En:=⟨Qre,Tryz.f441,Tryz.func441,by kernel_rfl,arg1 Qf0,Xw Q1ba⟩
def Qid (G:Gt)(p0:V)(m:M):R:=some (p0,m)
def Qie (G:Gt)(p0 p3:V)(m:M):R:=bp (pur (X2n 1 p0 (some p3) none) m) fun x0 m=>bp (unt (Xev [(.int .i64 0)] 1 x0 m)) fun _ m=>bp (pur (X2n 1 p0 none (some p3)) m) fun x1 m=>some (x1,m)
def Q96 (G:Gt)(k1:J4)(p5 p4 p0 p3:V)(m:M):R:=bp (pur (bin .add true true .int p5 (.int .i64 1)) m) fun x2 m=>k1 x2 p4 p0 p3 m
def Qh1 (G:Gt)(k1:J4)(p4 p5 p0 p3:V)(m:M):R:=bp (pur (X4 1 p4 p5) m) fun x3 m=>bp (pur (X3 false 1 x3 m) m) fun x4 m=>bp (pur (bin .sub true true .int p5 (.int .i64 1)) m) fun x5 m=>bp (pur (X4 1 p4 x5) m) fun x6 m=>bp (pur (X3 false 1 x6 m) m) fun x7 m=>bp (pur (bin .neq false true .int x4 x7) m) fun x8 m=>brb x8 (bp (pur (X4 1 p4 p5) m) fun x9 m=>bp (pur (X3 false 1 x9 m) m) fun x10 m=>bp (pur (X4 1 p0 p3) m) fun x11 m=>bp (unt (X8 1 x11 x10 m)) fun _ m=>bp (pur (bin .add true true .int p3 (.int .i64 1)) m) fun x12 m=>Q96 G k1 p5 p4 p0 x12 m) (Q96 G k1 p5 p4 p0 p3 m)
def Q2v (G:Gt):Nat→V→V→V→V→M→R
 | 0,_,_,_,_,_=>none
 | i + 1,p5,p4,p0,p3,m=>bp (pur (lenK 1 p4 m) m) fun x13 m=>bp (pur (bin .lss false true .int p5 x13) m) fun x14 m=>brb x14 (Qh1 G (Q2v G i) p4 p5 p0 p3 m) (Qie G p0 p3 m)
def Qif (G:Gt)(p5 p4 p0 p3:V)(m:M):R:=Q2v G G.rds p5 p4 p0 p3 m
def Qig (G:Gt)(p4 p0 p3:V)(m:M):R:=Qif G (.int .i64 1) p4 p0 p3 m
def Qih (G:Gt)(k0:J2)(p25 p0 p3:V)(m:M):R:=brb p25 (bp (pur (X2n 1 p0 (some p3) none) m) fun x15 m=>Qig G x15 p0 p3 m) (bp (pur (bin .add true true .int p3 (.int .i64 1)) m) fun x16 m=>k0 x16 p0 m)
def Qii (G:Gt)(k0:J2)(p0 p3:V)(m:M):R:=bp (pur (X4 1 p0 p3) m) fun x17 m=>bp (pur (X3 false 1 x17 m) m) fun x18 m=>bp (pur (bin .sub true true .int p3 (.int .i64 1)) m) fun x19 m=>bp (pur (X4 1 p0 x19) m) fun x20 m=>bp (pur (X3 false 1 x20 m) m) fun x21 m=>bp (pur (bin .eql false true .int x18 x21) m) fun x22 m=>Qih G k0 x22 p0 p3 m
def Q3a (G:Gt):Nat→V→V→M→R
 | 0,_,_,_=>none
 | i + 1,p3,p0,m=>bp (pur (lenK 1 p0 m) m) fun x23 m=>bp (pur (bin .lss false true .int p3 x23) m) fun x24 m=>brb x24 (Qii G (Q3a G i) p0 p3 m) (Qid G p0 m)
def Qij (G:Gt)(p3 p0:V)(m:M):R:=Q3a G G.rds p3 p0 m
def Qik (G:Gt)(p0:V)(m:M):R:=Qij G (.int .i64 1) p0 m
def Qil (G:Gt)(p0:V)(m:M):R:=bp (pur (lenK 1 p0 m) m) fun x25 m=>bp (pur (bin .lss true true .int x25 (.int .i64 2)) m) fun x26 m=>brb x26 (some (p0,m)) (Qik G p0 m)
def Qb6 (G:Gt)(p0:V)(m:M):R:=Qil G p0 m
theorem Q16o (G:Gt)(a0:V)(m:M):ef G Tryz.f442 [a0] m = Qb6 G a0 m:=X7 (r:=fun r m=>Qb6 G (r 0) m) rfl rfl (tr (seqQ (f:=fun r m=>Qil G (r 0) m) (tr (seqQ (f:=fun r m=>Qik G (r 0) m) (tr (tr (seqQ (f:=fun r m=>Qid G (r 0) m)) (seqQ (f:=fun r m=>Qij G (r 3) (r 0) m) (tr (Xc (Xj (fun i r m=>Q3a G i (r 3) (r 0) m) (fun _ _=>rfl) (fun i0=>tr (seqQ (f:=fun r m=>Qii G (Q3a G i0) (r 0) (r 3) m) (tr (tr seqD (Xc (seqQ (f:=fun r m=>Qih G (Q3a G i0) (r 25) (r 0) (r 3) m) (tr (X4j (seqQ (f:=fun r m=>Qig G (r 4) (r 0) (r 3) m) (tr (tr (seqQ (f:=fun r m=>Qie G (r 0) (r 3) m)) (seqQ (f:=fun r m=>Qif G (r 5) (r 4) (r 0) (r 3) m) (tr (Xc (Xj (fun i r m=>Q2v G i (r 5) (r 4) (r 0) (r 3) m) (fun _ _=>rfl) (fun i1=>tr (seqQ (f:=fun r m=>Qh1 G (Q2v G i1) (r 4) (r 5) (r 0) (r 3) m) (tr (seqQ (f:=fun r m=>Q96 G (Q2v G i1) (r 5) (r 4) (r 0) (r 3) m)))))))))))) (refQ))))))))))))))))))) m
def Q16p:En:=⟨Qkt,Tryz.f442,Tryz.func442,by kernel_rfl,arg1 Qb6,Xw Q16o⟩
def Q1pb:En:=wE Q16q Tryz.f443 Tryz.func443 ⟨_,by go_invoke; rfl⟩
def Qlq (G:Gt)(p1 p0:V)(m:M):R:=bp (pur (X3 false 1 p1 m) m) fun x0 m=>bp (G.tab Qj8 [x0,p0] m) fun x1 m=>bp (pur (un .not x1) m) fun x2 m=>some (x2,m)
theorem Q1jk (G:Gt)(a0 a1:V)(m:M):ef G Tryz.f444 [a0,a1] m = Qlq G a1 a0 m:=X7 (r:=fun r m=>Qlq G (r 1) (r 0) m) rfl rfl (fun r m=>by kernel_rfl) m
def Q1jl:En:=⟨Q10g,Tryz.f444,Tryz.func444,by kernel_rfl,arg2 (fun G a0 a1 m=>Qlq G a1 a0 m),Xk Q1jk⟩
def Qaf (G:Gt)(p0 p1:V)(m:M):R:=bp (G.tab Qdj [p0,p1] m) fun x0 m=>bp (pur (bin .geq true true .int x0 (.int .i64 0)) m) fun x1 m=>some (x1,m)
theorem Q14q (G:Gt)(a0 a1:V)(m:M):ef G Tryz.f445 [a0,a1] m = Qaf G a0 a1 m:=X7 (r:=fun r m=>Qaf G (r 0) (r 1) m) rfl rfl (fun r m=>by kernel_rfl) m
def Q14r:En:=⟨Qj8,Tryz.f445,Tryz.func445,by kernel_rfl,arg2 Qaf,Xk Q14q⟩
def Qsp:En:=wE Qsq Tryz.f446 Tryz.func446 ⟨_,by go_invoke; rfl⟩
def Q261:En:=wE Q262 Tryz.f447 Tryz.func447 ⟨_,by go_invoke; rfl⟩
def Q21o:En:=wE Q21p Tryz.f448 Tryz.func448 ⟨_,by go_invoke; rfl⟩
def Qrf:En:=wE Qrg Tryz.f449 Tryz.func449 ⟨_,by go_invoke; rfl⟩
def Q1yt:En:=wE Q1yu Tryz.f450 Tryz.func450 ⟨_,by go_invoke; rfl⟩
def Qsr:En:=wE Qss Tryz.f451 Tryz.func451 ⟨_,by go_invoke; rfl⟩
def Qy5 (G:Gt)(p3:V)(m:M):R:=some (p3,m)
def Qj9 (G:Gt):Nat→V→V→M→R
 | 0,_,_,_=>none
 | i + 1,p4,p3,m=>bp (pur (bin .lss true true .int p4 (.int .i64 32)) m) fun x0 m=>brb x0 (bp (pur (bin .mul true true .int (.int .u64 2) p3) m) fun x1 m=>bp (pur (bin .add true true .int p4 (.int .i64 1)) m) fun x2 m=>(Qj9 G i) x2 x1 m) (Qy5 G p3 m)
def Qy6 (G:Gt)(p4 p3:V)(m:M):R:=Qj9 G G.rds p4 p3 m
def Qy7 (G:Gt)(p0 p3:V)(m:M):R:=Qy6 G p0 p3 m
def Qy8 (G:Gt)(p0:V)(m:M):R:=Qy7 G p0 (.int .u64 1) m
def Qo1 (G:Gt)(p0:V)(m:M):R:=Qy8 G p0 m
theorem Q1mx (G:Gt)(a0:V)(m:M):ef G Tryz.f456 [a0] m = Qo1 G a0 m:=X7 (r:=fun r m=>Qo1 G (r 0) m) rfl rfl (tr (seqQ (f:=fun r m=>Qy8 G (r 0) m) (tr (seqQ (f:=fun r m=>Qy7 G (r 0) (r 3) m) (tr (tr (seqQ (f:=fun r m=>Qy5 G (r 3) m)) (seqQ (f:=fun r m=>Qy6 G (r 4) (r 3) m) (tr (Xc (Xj (fun i r m=>Qj9 G i (r 4) (r 3) m) (fun _ _=>rfl) (fun i0=>fun r m=>by kernel_rfl))))))))))) m
def Q1my:En:=⟨Q13n,Tryz.f456,Tryz.func456,by kernel_rfl,arg1 Qo1,Xw Q1mx⟩
def Qja (G:Gt)(p9 p0:V)(m:M):R:=brb p9 (some (.tuple ⟨[(.int .u32 0),(.int .i64 1)]⟩,m)) (bp (G.tab Q13n [p0] m) fun x0 m=>bp (pur (bin .sub true true .int (.int .u64 4294967296) x0) m) fun x1 m=>bp (conv (.int .u32) x1 m) fun x2 m=>some (.tuple ⟨[x2,(.int .i64 0)]⟩,m))
def Qy9 (G:Gt)(p0:V)(m:M):R:=bp (pur (bin .lss true true .int p0 (.int .i64 0)) m) fun x3 m=>brb x3 (Qja G (.bool true) p0 m) (bp (pur (bin .gtr true true .int p0 (.int .i64 32)) m) fun x4 m=>Qja G x4 p0 m)
def Qo2 (G:Gt)(p0:V)(m:M):R:=Qy9 G p0 m
theorem Q1mz (G:Gt)(a0:V)(m:M):ef G Tryz.f457 [a0] m = Qo2 G a0 m:=X7 (r:=fun r m=>Qo2 G (r 0) m) rfl rfl (tr (seqQ (f:=fun r m=>Qy9 G (r 0) m) (tr (tr seqD (seqQ (f:=fun r m=>Qja G (r 9) (r 0) m)))))) m
def Q1n0:En:=⟨Q13o,Tryz.f457,Tryz.func457,by kernel_rfl,arg1 Qo2,Xw Q1mz⟩
def Qtc (G:Gt)(p5:V)(m:M):R:=some (p5,m)
def Qgn (G:Gt):Nat→V→V→V→V→V→M→R
 | 0,_,_,_,_,_,_=>none
 | i + 1,p11,p10,p9,p5,p1,m=>bp (pur (bin .lss false true .int p11 p10) m) fun x0 m=>brb x0 (bp (pur (X4 1 p9 p11) m) fun x1 m=>bp (pur (X3 false 1 x1 m) m) fun x2 m=>bp (Xg G.tab p1 [x2] m) fun x3 m=>bp (pur (Xp .str (.int .i64 0) false p5 x3 m) m) fun x4 m=>bp (pur (bin .add true true .int x4 (.int .i64 1)) m) fun x5 m=>bp (unt (Xh .str p5 x3 x5 m)) fun _ m=>bp (pur (bin .add true true .int p11 (.int .i64 1)) m) fun x6 m=>(Qgn G i) x6 p10 p9 p5 p1 m) (Qtc G p5 m)
def Qtd (G:Gt)(p11 p10 p9 p5 p1:V)(m:M):R:=Qgn G G.rds p11 p10 p9 p5 p1 m
def Qte (G:Gt)(p0 p5 p1:V)(m:M):R:=bp (pur (lenK 1 p0 m) m) fun x7 m=>Qtd G (.int .i64 0) x7 p0 p5 p1 m
def Qtf (G:Gt)(p0 p1:V)(m:M):R:=bp (some (X11 m)) fun x8 m=>Qte G p0 x8 p1 m
def Qjb (G:Gt)(p0 p1:V)(m:M):R:=Qtf G p0 p1 m
theorem Q1h9 (G:Gt)(a0 a1:V)(m:M):ef G Tryz.f458 [a0,a1] m = Qjb G a0 a1 m:=X7 (r:=fun r m=>Qjb G (r 0) (r 1) m) rfl rfl (tr (seqQ (f:=fun r m=>Qtf G (r 0) (r 1) m) (tr (seqQ (f:=fun r m=>Qte G (r 0) (r 5) (r 1) m) (tr (tr (seqQ (f:=fun r m=>Qtc G (r 5) m)) (seqQ (f:=fun r m=>Qtd G (r 11) (r 10) (r 9) (r 5) (r 1) m) (tr (Xc (Xj (fun i r m=>Qgn G i (r 11) (r 10) (r 9) (r 5) (r 1) m) (fun _ _=>rfl) (fun i0=>fun r m=>by kernel_rfl))))))))))) m
def Q1ha:En:=⟨Qya,Tryz.f458,Tryz.func458,by kernel_rfl,arg2 Qjb,Xk Q1h9⟩
def Qku (G:Gt)(p5:V)(m:M):R:=some (p5,m)
def Qb7 (G:Gt):Nat→V→V→V→V→V→M→R
 | 0,_,_,_,_,_,_=>none
 | i + 1,p11,p10,p9,p5,p1,m=>bp (pur (bin .lss false true .int p11 p10) m) fun x0 m=>brb x0 (bp (pur (X4 2 p9 p11) m) fun x1 m=>bp (pur (X3 true 2 x1 m) m) fun x2 m=>bp (some (aNew Qep Qrh m)) fun x3 m=>bp (unt (X8 2 x3 x2 m)) fun _ m=>bp (pur (X3 true 2 x3 m) m) fun x4 m=>bp (Xg G.tab p1 [x4] m) fun x5 m=>bp (pur (Xp .str (.int .i64 0) false p5 x5 m) m) fun x6 m=>bp (pur (bin .add true true .int x6 (.int .i64 1)) m) fun x7 m=>bp (unt (Xh .str p5 x5 x7 m)) fun _ m=>bp (pur (bin .add true true .int p11 (.int .i64 1)) m) fun x8 m=>(Qb7 G i) x8 p10 p9 p5 p1 m) (Qku G p5 m)
def Qkv (G:Gt)(p11 p10 p9 p5 p1:V)(m:M):R:=Qb7 G G.rds p11 p10 p9 p5 p1 m
def Qkw (G:Gt)(p0 p5 p1:V)(m:M):R:=bp (pur (lenK 1 p0 m) m) fun x9 m=>Qkv G (.int .i64 0) x9 p0 p5 p1 m
def Qkx (G:Gt)(p0 p1:V)(m:M):R:=bp (some (X11 m)) fun x10 m=>Qkw G p0 x10 p1 m
def Qdk (G:Gt)(p0 p1:V)(m:M):R:=Qkx G p0 p1 m
theorem Q19s (G:Gt)(a0 a1:V)(m:M):ef G Tryz.f459 [a0,a1] m = Qdk G a0 a1 m:=X7 (r:=fun r m=>Qdk G (r 0) (r 1) m) rfl rfl (tr (seqQ (f:=fun r m=>Qkx G (r 0) (r 1) m) (tr (seqQ (f:=fun r m=>Qkw G (r 0) (r 5) (r 1) m) (tr (tr (seqQ (f:=fun r m=>Qku G (r 5) m)) (seqQ (f:=fun r m=>Qkv G (r 11) (r 10) (r 9) (r 5) (r 1) m) (tr (Xc (Xj (fun i r m=>Qb7 G i (r 11) (r 10) (r 9) (r 5) (r 1) m) (fun _ _=>rfl) (fun i0=>fun r m=>by kernel_rfl))))))))))) m
def Q19t:En:=⟨Qpt,Tryz.f459,Tryz.func459,by kernel_rfl,arg2 Qdk,Xk Q19s⟩
def Qg2 (G:Gt)(p5:V)(m:M):R:=some (p5,m)
def Q8v (G:Gt):Nat→V→V→V→V→V→M→R
 | 0,_,_,_,_,_,_=>none
 | i + 1,p11,p10,p9,p5,p1,m=>bp (pur (bin .lss false true .int p11 p10) m) fun x0 m=>brb x0 (bp (pur (X4 2 p9 p11) m) fun x1 m=>bp (pur (X3 true 2 x1 m) m) fun x2 m=>bp (some (aNew Qlr Qxa m)) fun x3 m=>bp (unt (X8 2 x3 x2 m)) fun _ m=>bp (pur (X3 true 2 x3 m) m) fun x4 m=>bp (Xg G.tab p1 [x4] m) fun x5 m=>bp (pur (Xp .str (.int .i64 0) false p5 x5 m) m) fun x6 m=>bp (pur (bin .add true true .int x6 (.int .i64 1)) m) fun x7 m=>bp (unt (Xh .str p5 x5 x7 m)) fun _ m=>bp (pur (bin .add true true .int p11 (.int .i64 1)) m) fun x8 m=>(Q8v G i) x8 p10 p9 p5 p1 m) (Qg2 G p5 m)
def Qg3 (G:Gt)(p11 p10 p9 p5 p1:V)(m:M):R:=Q8v G G.rds p11 p10 p9 p5 p1 m
def Qg4 (G:Gt)(p0 p5 p1:V)(m:M):R:=bp (pur (lenK 1 p0 m) m) fun x9 m=>Qg3 G (.int .i64 0) x9 p0 p5 p1 m
def Qg5 (G:Gt)(p0 p1:V)(m:M):R:=bp (some (X11 m)) fun x10 m=>Qg4 G p0 x10 p1 m
def Q9v (G:Gt)(p0 p1:V)(m:M):R:=Qg5 G p0 p1 m
theorem Q12f (G:Gt)(a0 a1:V)(m:M):ef G Tryz.f460 [a0,a1] m = Q9v G a0 a1 m:=X7 (r:=fun r m=>Q9v G (r 0) (r 1) m) rfl rfl (tr (seqQ (f:=fun r m=>Qg5 G (r 0) (r 1) m) (tr (seqQ (f:=fun r m=>Qg4 G (r 0) (r 5) (r 1) m) (tr (tr (seqQ (f:=fun r m=>Qg2 G (r 5) m)) (seqQ (f:=fun r m=>Qg3 G (r 11) (r 10) (r 9) (r 5) (r 1) m) (tr (Xc (Xj (fun i r m=>Q8v G i (r 11) (r 10) (r 9) (r 5) (r 1) m) (fun _ _=>rfl) (fun i0=>fun r m=>by kernel_rfl))))))))))) m
def Q12g:En:=⟨Qim,Tryz.f460,Tryz.func460,by kernel_rfl,arg2 Q9v,Xk Q12f⟩
def Qct (G:Gt)(p5:V)(m:M):R:=some (p5,m)
def Q67 (G:Gt):Nat→V→V→V→V→V→M→R
 | 0,_,_,_,_,_,_=>none
 | i + 1,p11,p10,p9,p5,p1,m=>bp (pur (bin .lss false true .int p11 p10) m) fun x0 m=>brb x0 (bp (pur (X4 2 p9 p11) m) fun x1 m=>bp (pur (X3 true 2 x1 m) m) fun x2 m=>bp (some (aNew Qfx Qnw m)) fun x3 m=>bp (unt (X8 2 x3 x2 m)) fun _ m=>bp (pur (X3 true 2 x3 m) m) fun x4 m=>bp (Xg G.tab p1 [x4] m) fun x5 m=>bp (pur (Xp .str (.int .i64 0) false p5 x5 m) m) fun x6 m=>bp (pur (bin .add true true .int x6 (.int .i64 1)) m) fun x7 m=>bp (unt (Xh .str p5 x5 x7 m)) fun _ m=>bp (pur (bin .add true true .int p11 (.int .i64 1)) m) fun x8 m=>(Q67 G i) x8 p10 p9 p5 p1 m) (Qct G p5 m)
def Qcu (G:Gt)(p11 p10 p9 p5 p1:V)(m:M):R:=Q67 G G.rds p11 p10 p9 p5 p1 m
def Qcv (G:Gt)(p0 p5 p1:V)(m:M):R:=bp (pur (lenK 1 p0 m) m) fun x9 m=>Qcu G (.int .i64 0) x9 p0 p5 p1 m
def Qcw (G:Gt)(p0 p1:V)(m:M):R:=bp (some (X11 m)) fun x10 m=>Qcv G p0 x10 p1 m
def Q89 (G:Gt)(p0 p1:V)(m:M):R:=Qcw G p0 p1 m
theorem Qxb (G:Gt)(a0 a1:V)(m:M):ef G Tryz.f461 [a0,a1] m = Q89 G a0 a1 m:=X7 (r:=fun r m=>Q89 G (r 0) (r 1) m) rfl rfl (tr (seqQ (f:=fun r m=>Qcw G (r 0) (r 1) m) (tr (seqQ (f:=fun r m=>Qcv G (r 0) (r 5) (r 1) m) (tr (tr (seqQ (f:=fun r m=>Qct G (r 5) m)) (seqQ (f:=fun r m=>Qcu G (r 11) (r 10) (r 9) (r 5) (r 1) m) (tr (Xc (Xj (fun i r m=>Q67 G i (r 11) (r 10) (r 9) (r 5) (r 1) m) (fun _ _=>rfl) (fun i0=>fun r m=>by kernel_rfl))))))))))) m
def Qxc:En:=⟨Qf1,Tryz.f461,Tryz.func461,by kernel_rfl,arg2 Q89,Xk Qxb⟩
def Qky (G:Gt)(p5:V)(m:M):R:=some (p5,m)
def Qb8 (G:Gt):Nat→V→V→V→V→V→M→R
 | 0,_,_,_,_,_,_=>none
 | i + 1,p11,p10,p9,p5,p1,m=>bp (pur (bin .lss false true .int p11 p10) m) fun x0 m=>brb x0 (bp (pur (X4 3 p9 p11) m) fun x1 m=>bp (pur (X3 true 3 x1 m) m) fun x2 m=>bp (some (aNew Q10a Q1b3 m)) fun x3 m=>bp (unt (X8 3 x3 x2 m)) fun _ m=>bp (pur (X3 true 3 x3 m) m) fun x4 m=>bp (Xg G.tab p1 [x4] m) fun x5 m=>bp (pur (Xp .str (.int .i64 0) false p5 x5 m) m) fun x6 m=>bp (pur (bin .add true true .int x6 (.int .i64 1)) m) fun x7 m=>bp (unt (Xh .str p5 x5 x7 m)) fun _ m=>bp (pur (bin .add true true .int p11 (.int .i64 1)) m) fun x8 m=>(Qb8 G i) x8 p10 p9 p5 p1 m) (Qky G p5 m)
def Qkz (G:Gt)(p11 p10 p9 p5 p1:V)(m:M):R:=Qb8 G G.rds p11 p10 p9 p5 p1 m
def Ql0 (G:Gt)(p0 p5 p1:V)(m:M):R:=bp (pur (lenK 1 p0 m) m) fun x9 m=>Qkz G (.int .i64 0) x9 p0 p5 p1 m
def Ql1 (G:Gt)(p0 p1:V)(m:M):R:=bp (some (X11 m)) fun x10 m=>Ql0 G p0 x10 p1 m
def Qdl (G:Gt)(p0 p1:V)(m:M):R:=Ql1 G p0 p1 m
theorem Q19u (G:Gt)(a0 a1:V)(m:M):ef G Tryz.f462 [a0,a1] m = Qdl G a0 a1 m:=X7 (r:=fun r m=>Qdl G (r 0) (r 1) m) rfl rfl (tr (seqQ (f:=fun r m=>Ql1 G (r 0) (r 1) m) (tr (seqQ (f:=fun r m=>Ql0 G (r 0) (r 5) (r 1) m) (tr (tr (seqQ (f:=fun r m=>Qky G (r 5) m)) (seqQ (f:=fun r m=>Qkz G (r 11) (r 10) (r 9) (r 5) (r 1) m) (tr (Xc (Xj (fun i r m=>Qb8 G i (r 11) (r 10) (r 9) (r 5) (r 1) m) (fun _ _=>rfl) (fun i0=>fun r m=>by kernel_rfl))))))))))) m
def Q19v:En:=⟨Qpu,Tryz.f462,Tryz.func462,by kernel_rfl,arg2 Qdl,Xk Q19u⟩
end
end Go.Ab.Sh
