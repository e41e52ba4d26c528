/-
  Functions of the program as plain definitions. No conditions.
-/
import Derived.Test.YtfdlocphbipadaaGreatDoorAb5
import Derived.Test.YtfdlocphbipadaaGreatDoorZ
import Derived.KernelRfl
import Derived.Test.YtfdlocphbipadaaGreatDoorProg
set_option linter.unusedVariables false
set_option maxRecDepth 100000
namespace Go.Ab.Sh
open Go Go.Ab Go.Proofs
noncomputable section
def Qae (G:Gt)(k0:J5)(p8 p2 p1 p3 p0:V)(m:M):R:=bp (pur (bin .add true true .int p8 (.int .i64 1)) m) fun x0 m=>k0 x0 p2 p1 p3 p0 m
def Q4f (G:Gt)(k1:J6)(k0:J5)(p34 p0 p9 p1 p3 p8 p2:V)(m:M):R:=brb p34 (bp (pur (bin .sub true true .int p9 (.int .i64 1)) m) fun x1 m=>bp (pur (bin .sub true true .int p9 (.int .i64 1)) m) fun x2 m=>bp (pur (X3 3 p0 x2) m) fun x3 m=>bp (pur (X4 true 3 x3 m) m) fun x4 m=>bp (pur (X3 3 p0 p9) m) fun x5 m=>bp (pur (X4 true 3 x5 m) m) fun x6 m=>bp (pur (X3 3 p0 p9) m) fun x7 m=>bp (unt (X8 3 x7 x4 m)) fun _ m=>bp (pur (X3 3 p0 x1) m) fun x8 m=>bp (unt (X8 3 x8 x6 m)) fun _ m=>bp (pur (bin .sub true true .int p9 (.int .i64 1)) m) fun x9 m=>k1 x9 p1 p3 p0 p8 p2 m) (Qae G k0 p8 p2 p1 p3 p0 m)
def Q1q (G:Gt)(k0:J5):Nat→V→V→V→V→V→V→M→R
 | 0,_,_,_,_,_,_,_=>none
 | i + 1,p9,p1,p3,p0,p8,p2,m=>bp (pur (bin .gtr false true .int p9 p1) m) fun x10 m=>brt x10 (bp (pur (X3 3 p0 p9) m) fun x11 m=>bp (pur (X4 true 3 x11 m) m) fun x12 m=>bp (pur (bin .sub true true .int p9 (.int .i64 1)) m) fun x13 m=>bp (pur (X3 3 p0 x13) m) fun x14 m=>bp (pur (X4 true 3 x14 m) m) fun x15 m=>bp (Xj G.tab p3 [x12,x15] m) fun x16 m=>bp (pur (bin .lss true true .int x16 (.int .i64 0)) m) fun x17 m=>Q4f G (Q1q G k0 i) k0 x17 p0 p9 p1 p3 p8 p2 m) (Q4f G (Q1q G k0 i) k0 (.bool false) p0 p9 p1 p3 p8 p2 m) (none)
def Qaf (G:Gt)(k0:J5)(p9 p1 p3 p0 p8 p2:V)(m:M):R:=Q1q G k0 G.rds p9 p1 p3 p0 p8 p2 m
def Qag (G:Gt)(k0:J5)(p8 p1 p3 p0 p2:V)(m:M):R:=Qaf G k0 p8 p1 p3 p0 p8 p2 m
def Qh (G:Gt):Nat→V→V→V→V→V→M→R
 | 0,_,_,_,_,_,_=>none
 | i + 1,p8,p2,p1,p3,p0,m=>bp (pur (bin .lss false true .int p8 p2) m) fun x18 m=>brb x18 (Qag G (Qh G i) p8 p1 p3 p0 p2 m) (some (.tuple ⟨[]⟩,m))
def Qah (G:Gt)(p8 p2 p1 p3 p0:V)(m:M):R:=Qh G G.rds p8 p2 p1 p3 p0 m
def Q5a (G:Gt)(p1 p2 p3 p0:V)(m:M):R:=bp (pur (bin .add true true .int p1 (.int .i64 1)) m) fun x19 m=>Qah G x19 p2 p1 p3 p0 m
theorem Qrk (G:Gt)(a0 a1 a2 a3:V)(m:M):ef G Tryz.f335 [a0,a1,a2,a3] m = Q5a G a1 a2 a3 a0 m:=X6 (r:=fun r m=>Q5a G (r 1) (r 2) (r 3) (r 0) m) rfl rfl (tr (seqQ (f:=fun r m=>Qah G (r 8) (r 2) (r 1) (r 3) (r 0) m) (tr (X9 (Xb (fun i r m=>Qh G i (r 8) (r 2) (r 1) (r 3) (r 0) m) (fun _ _=>rfl) (fun i0=>tr (seqQ (f:=fun r m=>Qag G (Qh G i0) (r 8) (r 1) (r 3) (r 0) (r 2) m) (tr (tr (seqQ (f:=fun r m=>Qae G (Qh G i0) (r 8) (r 2) (r 1) (r 3) (r 0) m)) (X9 (seqQ (f:=fun r m=>Qaf G (Qh G i0) (r 9) (r 1) (r 3) (r 0) (r 8) (r 2) m) (tr (X9 (Xb (fun i r m=>Q1q G (Qh G i0) i (r 9) (r 1) (r 3) (r 0) (r 8) (r 2) m) (fun _ _=>rfl) (fun i1=>tr (tr seqD (seqQ (f:=fun r m=>Q4f G (Q1q G (Qh G i0) i1) (Qh G i0) (r 34) (r 0) (r 9) (r 1) (r 3) (r 8) (r 2) m)))))))))))))))))) m
def Qrl:En:=⟨Qcl,Tryz.f335,Tryz.func335,by kernel_rfl,arg4 (fun G a0 a1 a2 a3 m=>Q5a G a1 a2 a3 a0 m),X1c Qrk⟩
def Q14o (G:Gt)(p5:V)(m:M):R:=some (p5,m)
def Qnn (G:Gt):Nat→V→V→V→V→V→M→R
 | 0,_,_,_,_,_,_=>none
 | i + 1,p11,p10,p9,p5,p1,m=>bp (pur (bin .lss false true .int p11 p10) m) fun x0 m=>brb x0 (bp (pur (X3 1 p9 p11) m) fun x1 m=>bp (pur (X4 false 1 x1 m) m) fun x2 m=>bp (Xj G.tab p1 [x2] m) fun x3 m=>bp (pur (Xh .str (.int .i64 0) false p5 x3 m) m) fun x4 m=>bp (pur (bin .add true true .int x4 (.int .i64 1)) m) fun x5 m=>bp (unt (Xd .str p5 x3 x5 m)) fun _ m=>bp (pur (bin .add true true .int p11 (.int .i64 1)) m) fun x6 m=>(Qnn G i) x6 p10 p9 p5 p1 m) (Q14o G p5 m)
def Q14p (G:Gt)(p11 p10 p9 p5 p1:V)(m:M):R:=Qnn G G.rds p11 p10 p9 p5 p1 m
def Q14q (G:Gt)(p0 p5 p1:V)(m:M):R:=bp (pur (lenK 1 p0 m) m) fun x7 m=>Q14p G (.int .i64 0) x7 p0 p5 p1 m
def Q14r (G:Gt)(p0 p1:V)(m:M):R:=bp (some (Xo m)) fun x8 m=>Q14q G p0 x8 p1 m
def Qrm (G:Gt)(p0 p1:V)(m:M):R:=Q14r G p0 p1 m
theorem Q1ul (G:Gt)(a0 a1:V)(m:M):ef G Tryz.f344 [a0,a1] m = Qrm G a0 a1 m:=X6 (r:=fun r m=>Qrm G (r 0) (r 1) m) rfl rfl (tr (seqQ (f:=fun r m=>Q14r G (r 0) (r 1) m) (tr (seqQ (f:=fun r m=>Q14q G (r 0) (r 5) (r 1) m) (tr (tr (seqQ (f:=fun r m=>Q14o G (r 5) m)) (seqQ (f:=fun r m=>Q14p G (r 11) (r 10) (r 9) (r 5) (r 1) m) (tr (X9 (Xb (fun i r m=>Qnn G i (r 11) (r 10) (r 9) (r 5) (r 1) m) (fun _ _=>rfl) (fun i0=>fun r m=>by kernel_rfl))))))))))) m
def Q1um:En:=⟨Q1ai,Tryz.f344,Tryz.func344,by kernel_rfl,arg2 Qrm,Xg Q1ul⟩
def Qt0 (G:Gt)(p5:V)(m:M):R:=some (p5,m)
def Qhs (G:Gt):Nat→V→V→V→V→V→M→R
 | 0,_,_,_,_,_,_=>none
 | i + 1,p11,p10,p9,p5,p1,m=>bp (pur (bin .lss false true .int p11 p10) m) fun x0 m=>brb x0 (bp (pur (X3 2 p9 p11) m) fun x1 m=>bp (pur (X4 true 2 x1 m) m) fun x2 m=>bp (some (aNew Ql8 Qqf m)) fun x3 m=>bp (unt (X8 2 x3 x2 m)) fun _ m=>bp (pur (X4 true 2 x3 m) m) fun x4 m=>bp (Xj G.tab p1 [x4] m) fun x5 m=>bp (pur (Xh .str (.int .i64 0) false p5 x5 m) m) fun x6 m=>bp (pur (bin .add true true .int x6 (.int .i64 1)) m) fun x7 m=>bp (unt (Xd .str p5 x5 x7 m)) fun _ m=>bp (pur (bin .add true true .int p11 (.int .i64 1)) m) fun x8 m=>(Qhs G i) x8 p10 p9 p5 p1 m) (Qt0 G p5 m)
def Qt1 (G:Gt)(p11 p10 p9 p5 p1:V)(m:M):R:=Qhs G G.rds p11 p10 p9 p5 p1 m
def Qt2 (G:Gt)(p0 p5 p1:V)(m:M):R:=bp (pur (lenK 1 p0 m) m) fun x9 m=>Qt1 G (.int .i64 0) x9 p0 p5 p1 m
def Qt3 (G:Gt)(p0 p1:V)(m:M):R:=bp (some (Xo m)) fun x10 m=>Qt2 G p0 x10 p1 m
def Qk7 (G:Gt)(p0 p1:V)(m:M):R:=Qt3 G p0 p1 m
theorem Q1oa (G:Gt)(a0 a1:V)(m:M):ef G Tryz.f345 [a0,a1] m = Qk7 G a0 a1 m:=X6 (r:=fun r m=>Qk7 G (r 0) (r 1) m) rfl rfl (tr (seqQ (f:=fun r m=>Qt3 G (r 0) (r 1) m) (tr (seqQ (f:=fun r m=>Qt2 G (r 0) (r 5) (r 1) m) (tr (tr (seqQ (f:=fun r m=>Qt0 G (r 5) m)) (seqQ (f:=fun r m=>Qt1 G (r 11) (r 10) (r 9) (r 5) (r 1) m) (tr (X9 (Xb (fun i r m=>Qhs G i (r 11) (r 10) (r 9) (r 5) (r 1) m) (fun _ _=>rfl) (fun i0=>fun r m=>by kernel_rfl))))))))))) m
def Q1ob:En:=⟨Qxb,Tryz.f345,Tryz.func345,by kernel_rfl,arg2 Qk7,Xg Q1oa⟩
def Qmx (G:Gt)(p5:V)(m:M):R:=some (p5,m)
def Qdf (G:Gt):Nat→V→V→V→V→V→M→R
 | 0,_,_,_,_,_,_=>none
 | i + 1,p11,p10,p9,p5,p1,m=>bp (pur (bin .lss false true .int p11 p10) m) fun x0 m=>brb x0 (bp (pur (X3 2 p9 p11) m) fun x1 m=>bp (pur (X4 true 2 x1 m) m) fun x2 m=>bp (some (aNew Qcb Qfk m)) fun x3 m=>bp (unt (X8 2 x3 x2 m)) fun _ m=>bp (pur (X4 true 2 x3 m) m) fun x4 m=>bp (Xj G.tab p1 [x4] m) fun x5 m=>bp (pur (Xh .str (.int .i64 0) false p5 x5 m) m) fun x6 m=>bp (pur (bin .add true true .int x6 (.int .i64 1)) m) fun x7 m=>bp (unt (Xd .str p5 x5 x7 m)) fun _ m=>bp (pur (bin .add true true .int p11 (.int .i64 1)) m) fun x8 m=>(Qdf G i) x8 p10 p9 p5 p1 m) (Qmx G p5 m)
def Qmy (G:Gt)(p11 p10 p9 p5 p1:V)(m:M):R:=Qdf G G.rds p11 p10 p9 p5 p1 m
def Qmz (G:Gt)(p0 p5 p1:V)(m:M):R:=bp (pur (lenK 1 p0 m) m) fun x9 m=>Qmy G (.int .i64 0) x9 p0 p5 p1 m
def Qn0 (G:Gt)(p0 p1:V)(m:M):R:=bp (some (Xo m)) fun x10 m=>Qmz G p0 x10 p1 m
def Qf6 (G:Gt)(p0 p1:V)(m:M):R:=Qn0 G p0 p1 m
theorem Q1hi (G:Gt)(a0 a1:V)(m:M):ef G Tryz.f346 [a0,a1] m = Qf6 G a0 a1 m:=X6 (r:=fun r m=>Qf6 G (r 0) (r 1) m) rfl rfl (tr (seqQ (f:=fun r m=>Qn0 G (r 0) (r 1) m) (tr (seqQ (f:=fun r m=>Qmz G (r 0) (r 5) (r 1) m) (tr (tr (seqQ (f:=fun r m=>Qmx G (r 5) m)) (seqQ (f:=fun r m=>Qmy G (r 11) (r 10) (r 9) (r 5) (r 1) m) (tr (X9 (Xb (fun i r m=>Qdf G i (r 11) (r 10) (r 9) (r 5) (r 1) m) (fun _ _=>rfl) (fun i0=>fun r m=>by kernel_rfl))))))))))) m
def Q1hj:En:=⟨Qps,Tryz.f346,Tryz.func346,by kernel_rfl,arg2 Qf6,Xg Q1hi⟩
def Qjg (G:Gt)(p5:V)(m:M):R:=some (p5,m)
def Q9f (G:Gt):Nat→V→V→V→V→V→M→R
 | 0,_,_,_,_,_,_=>none
 | i + 1,p11,p10,p9,p5,p1,m=>bp (pur (bin .lss false true .int p11 p10) m) fun x0 m=>brb x0 (bp (pur (X3 2 p9 p11) m) fun x1 m=>bp (pur (X4 true 2 x1 m) m) fun x2 m=>bp (some (aNew Q4v Q6u m)) fun x3 m=>bp (unt (X8 2 x3 x2 m)) fun _ m=>bp (pur (X4 true 2 x3 m) m) fun x4 m=>bp (Xj G.tab p1 [x4] m) fun x5 m=>bp (pur (Xh .str (.int .i64 0) false p5 x5 m) m) fun x6 m=>bp (pur (bin .add true true .int x6 (.int .i64 1)) m) fun x7 m=>bp (unt (Xd .str p5 x5 x7 m)) fun _ m=>bp (pur (bin .add true true .int p11 (.int .i64 1)) m) fun x8 m=>(Q9f G i) x8 p10 p9 p5 p1 m) (Qjg G p5 m)
def Qjh (G:Gt)(p11 p10 p9 p5 p1:V)(m:M):R:=Q9f G G.rds p11 p10 p9 p5 p1 m
def Qji (G:Gt)(p0 p5 p1:V)(m:M):R:=bp (pur (lenK 1 p0 m) m) fun x9 m=>Qjh G (.int .i64 0) x9 p0 p5 p1 m
def Qjj (G:Gt)(p0 p1:V)(m:M):R:=bp (some (Xo m)) fun x10 m=>Qji G p0 x10 p1 m
def Qci (G:Gt)(p0 p1:V)(m:M):R:=Qjj G p0 p1 m
theorem Q1ad (G:Gt)(a0 a1:V)(m:M):ef G Tryz.f347 [a0,a1] m = Qci G a0 a1 m:=X6 (r:=fun r m=>Qci G (r 0) (r 1) m) rfl rfl (tr (seqQ (f:=fun r m=>Qjj G (r 0) (r 1) m) (tr (seqQ (f:=fun r m=>Qji G (r 0) (r 5) (r 1) m) (tr (tr (seqQ (f:=fun r m=>Qjg G (r 5) m)) (seqQ (f:=fun r m=>Qjh G (r 11) (r 10) (r 9) (r 5) (r 1) m) (tr (X9 (Xb (fun i r m=>Q9f G i (r 11) (r 10) (r 9) (r 5) (r 1) m) (fun _ _=>rfl) (fun i0=>fun r m=>by kernel_rfl))))))))))) m
def Q1ae:En:=⟨Ql7,Tryz.f347,Tryz.func347,by kernel_rfl,arg2 Qci,Xg Q1ad⟩
def Qt4 (G:Gt)(p5:V)(m:M):R:=some (p5,m)
def Qht (G:Gt):Nat→V→V→V→V→V→M→R
 | 0,_,_,_,_,_,_=>none
 | i + 1,p11,p10,p9,p5,p1,m=>bp (pur (bin .lss false true .int p11 p10) m) fun x0 m=>brb x0 (bp (pur (X3 3 p9 p11) m) fun x1 m=>bp (pur (X4 true 3 x1 m) m) fun x2 m=>bp (some (aNew Qla Qqh m)) fun x3 m=>bp (unt (X8 3 x3 x2 m)) fun _ m=>bp (pur (X4 true 3 x3 m) m) fun x4 m=>bp (Xj G.tab p1 [x4] m) fun x5 m=>bp (pur (Xh .str (.int .i64 0) false p5 x5 m) m) fun x6 m=>bp (pur (bin .add true true .int x6 (.int .i64 1)) m) fun x7 m=>bp (unt (Xd .str p5 x5 x7 m)) fun _ m=>bp (pur (bin .add true true .int p11 (.int .i64 1)) m) fun x8 m=>(Qht G i) x8 p10 p9 p5 p1 m) (Qt4 G p5 m)
def Qt5 (G:Gt)(p11 p10 p9 p5 p1:V)(m:M):R:=Qht G G.rds p11 p10 p9 p5 p1 m
def Qt6 (G:Gt)(p0 p5 p1:V)(m:M):R:=bp (pur (lenK 1 p0 m) m) fun x9 m=>Qt5 G (.int .i64 0) x9 p0 p5 p1 m
def Qt7 (G:Gt)(p0 p1:V)(m:M):R:=bp (some (Xo m)) fun x10 m=>Qt6 G p0 x10 p1 m
def Qk8 (G:Gt)(p0 p1:V)(m:M):R:=Qt7 G p0 p1 m
theorem Q1oc (G:Gt)(a0 a1:V)(m:M):ef G Tryz.f348 [a0,a1] m = Qk8 G a0 a1 m:=X6 (r:=fun r m=>Qk8 G (r 0) (r 1) m) rfl rfl (tr (seqQ (f:=fun r m=>Qt7 G (r 0) (r 1) m) (tr (seqQ (f:=fun r m=>Qt6 G (r 0) (r 5) (r 1) m) (tr (tr (seqQ (f:=fun r m=>Qt4 G (r 5) m)) (seqQ (f:=fun r m=>Qt5 G (r 11) (r 10) (r 9) (r 5) (r 1) m) (tr (X9 (Xb (fun i r m=>Qht G i (r 11) (r 10) (r 9) (r 5) (r 1) m) (fun _ _=>rfl) (fun i0=>fun r m=>by kernel_rfl))))))))))) m
def Q1od:En:=⟨Qxc,Tryz.f348,Tryz.func348,by kernel_rfl,arg2 Qk8,Xg Q1oc⟩
def Q1af (G:Gt)(p6:V)(m:M):R:=some (p6,m)
def Q1q1 (G:Gt)(p1 p0 p2:V)(m:M):R:=bp (pur (bin .leq false true .int p1 p0) m) fun x0 m=>brb x0 (bp (pur (bin .leq false true .int p0 p2) m) fun x1 m=>Q1af G x1 m) (Q1af G (.bool false) m)
def Q1jr (G:Gt)(p1 p0 p2:V)(m:M):R:=Q1q1 G p1 p0 p2 m
theorem Q29a (G:Gt)(a0 a1 a2:V)(m:M):ef G Tryz.f351 [a0,a1,a2] m = Q1jr G a1 a0 a2 m:=X6 (r:=fun r m=>Q1jr G (r 1) (r 0) (r 2) m) rfl rfl (tr (seqQ (f:=fun r m=>Q1q1 G (r 1) (r 0) (r 2) m) (tr (seqQ (f:=fun r m=>Q1af G (r 6) m))))) m
def Q29b:En:=⟨Qqe,Tryz.f351,Tryz.func351,by kernel_rfl,arg3 (fun G a0 a1 a2 m=>Q1jr G a1 a0 a2 m),Xr Q29a⟩
def Qmd (G:Gt)(p0 p1 p2:V)(m:M):R:=bp (some (aNew Q2av (Value.cells p0).toList m)) fun x0 m=>bp (some (aNew Q60 (Value.cells p1).toList m)) fun x1 m=>bp (some (aNew Q173 (Value.cells p2).toList m)) fun x2 m=>bp (pur (X4 false 1 x0 m) m) fun x3 m=>let x4:V:=(.func (.func Qvp) ⟨[]⟩ ⟨[x2,x0,x1]⟩);bp (pur (X4 false 1 x1 m) m) fun x5 m=>bp (G.tab Q5g [x3,x4] m) fun x6 m=>ckB (again (pur (X4 false 1 x1 m) m) x5 && true) (bp (pur (bin .eql false true .int x6 x5) m) fun x7 m=>some (x7,m))
theorem Q1q2 (G:Gt)(a0 a1 a2:V)(m:M):ef G Tryz.f352 [a0,a1,a2] m = Qmd G a0 a1 a2 m:=X6 (r:=fun r m=>Qmd G (r 0) (r 1) (r 2) m) rfl rfl (fun r m=>by kernel_rfl) m
def Q1q3:En:=⟨Qz9,Tryz.f352,Tryz.func352,by kernel_rfl,arg3 Qmd,Xr Q1q2⟩
def Qf0 (G:Gt)(k0:J4)(p6 p2 p1 p0:V)(m:M):R:=bp (pur (bin .add true true .int p6 (.int .i64 1)) m) fun x0 m=>k0 x0 p2 p1 p0 m
def Q6m (G:Gt)(k1:J5)(k0:J4)(p30 p0 p7 p1 p6 p2:V)(m:M):R:=brb p30 (bp (pur (bin .sub true true .int p7 (.int .i64 1)) m) fun x1 m=>bp (pur (bin .sub true true .int p7 (.int .i64 1)) m) fun x2 m=>bp (pur (X3 1 p0 x2) m) fun x3 m=>bp (pur (X4 false 1 x3 m) m) fun x4 m=>bp (pur (X3 1 p0 p7) m) fun x5 m=>bp (pur (X4 false 1 x5 m) m) fun x6 m=>bp (pur (X3 1 p0 p7) m) fun x7 m=>bp (unt (X8 1 x7 x4 m)) fun _ m=>bp (pur (X3 1 p0 x1) m) fun x8 m=>bp (unt (X8 1 x8 x6 m)) fun _ m=>bp (pur (bin .sub true true .int p7 (.int .i64 1)) m) fun x9 m=>k1 x9 p1 p0 p6 p2 m) (Qf0 G k0 p6 p2 p1 p0 m)
def Q2g (G:Gt)(k0:J4):Nat→V→V→V→V→V→M→R
 | 0,_,_,_,_,_,_=>none
 | i + 1,p7,p1,p0,p6,p2,m=>bp (pur (bin .gtr false true .int p7 p1) m) fun x10 m=>brt x10 (bp (pur (X3 1 p0 p7) m) fun x11 m=>bp (pur (X4 false 1 x11 m) m) fun x12 m=>bp (pur (bin .sub true true .int p7 (.int .i64 1)) m) fun x13 m=>bp (pur (X3 1 p0 x13) m) fun x14 m=>bp (pur (X4 false 1 x14 m) m) fun x15 m=>bp (G.tab Q1k8 [x12,x15] m) fun x16 m=>Q6m G (Q2g G k0 i) k0 x16 p0 p7 p1 p6 p2 m) (Q6m G (Q2g G k0 i) k0 (.bool false) p0 p7 p1 p6 p2 m) (none)
def Qf1 (G:Gt)(k0:J4)(p7 p1 p0 p6 p2:V)(m:M):R:=Q2g G k0 G.rds p7 p1 p0 p6 p2 m
def Qf2 (G:Gt)(k0:J4)(p6 p1 p0 p2:V)(m:M):R:=Qf1 G k0 p6 p1 p0 p6 p2 m
def Qx (G:Gt):Nat→V→V→V→V→M→R
 | 0,_,_,_,_,_=>none
 | i + 1,p6,p2,p1,p0,m=>bp (pur (bin .lss false true .int p6 p2) m) fun x17 m=>brb x17 (Qf2 G (Qx G i) p6 p1 p0 p2 m) (some (.tuple ⟨[]⟩,m))
def Qf3 (G:Gt)(p6 p2 p1 p0:V)(m:M):R:=Qx G G.rds p6 p2 p1 p0 m
def Q7c (G:Gt)(p1 p2 p0:V)(m:M):R:=bp (pur (bin .add true true .int p1 (.int .i64 1)) m) fun x18 m=>Qf3 G x18 p2 p1 p0 m
theorem Qz3 (G:Gt)(a0 a1 a2:V)(m:M):ef G Tryz.f376 [a0,a1,a2] m = Q7c G a1 a2 a0 m:=X6 (r:=fun r m=>Q7c G (r 1) (r 2) (r 0) m) rfl rfl (tr (seqQ (f:=fun r m=>Qf3 G (r 6) (r 2) (r 1) (r 0) m) (tr (X9 (Xb (fun i r m=>Qx G i (r 6) (r 2) (r 1) (r 0) m) (fun _ _=>rfl) (fun i0=>tr (seqQ (f:=fun r m=>Qf2 G (Qx G i0) (r 6) (r 1) (r 0) (r 2) m) (tr (tr (seqQ (f:=fun r m=>Qf0 G (Qx G i0) (r 6) (r 2) (r 1) (r 0) m)) (X9 (seqQ (f:=fun r m=>Qf1 G (Qx G i0) (r 7) (r 1) (r 0) (r 6) (r 2) m) (tr (X9 (Xb (fun i r m=>Q2g G (Qx G i0) i (r 7) (r 1) (r 0) (r 6) (r 2) m) (fun _ _=>rfl) (fun i1=>tr (tr seqD (seqQ (f:=fun r m=>Q6m G (Q2g G (Qx G i0) i1) (Qx G i0) (r 30) (r 0) (r 7) (r 1) (r 6) (r 2) m)))))))))))))))))) m
def Qz4:En:=⟨Qfu,Tryz.f376,Tryz.func376,by kernel_rfl,arg3 (fun G a0 a1 a2 m=>Q7c G a1 a2 a0 m),Xr Qz3⟩
end
end Go.Ab.Sh

set_option linter.unusedVariables false
set_option maxRecDepth 100000
namespace Go.Ab.Sh
open Go Go.Ab Go.Proofs
noncomputable section
def Q8w (G:Gt)(k0:J4)(p6 p1 p0 p2:V)(m:M):R:=bp (pur (bin .mul true true .int p6 (.int .i64 2)) m) fun x0 m=>k0 x0 p1 p0 p2 m
def Qie (G:Gt)(k0:J4)(p7 p6 p1 p0 p2:V)(m:M):R:=bp (pur (bin .add false true .int p7 p6) m) fun x1 m=>bp (pur (bin .lss false true .int x1 p1) m) fun x2 m=>brb x2 (bp (G.tab Qic [p0,p7,x1,p1,p2] m) fun x3 m=>Q8w G k0 p6 p1 p0 p2 m) (Q8w G k0 p6 p1 p0 p2 m)
def Q8x (G:Gt)(k0:J4):Nat→V→V→V→V→V→V→M→R
 | 0,_,_,_,_,_,_,_=>none
 | i + 1,p8,p1,p0,p7,p6,p2,m=>bp (pur (bin .leq false true .int p8 p1) m) fun x4 m=>brb x4 (bp (pur (bin .add false true .int p7 p6) m) fun x5 m=>bp (G.tab Qic [p0,p7,x5,p8,p2] m) fun x6 m=>bp (pur (bin .mul true true .int (.int .i64 2) p6) m) fun x7 m=>bp (pur (bin .add false true .int p8 x7) m) fun x8 m=>(Q8x G k0 i) x8 p1 p0 p8 p6 p2 m) (Qie G k0 p7 p6 p1 p0 p2 m)
def Qif (G:Gt)(k0:J4)(p8 p1 p0 p7 p6 p2:V)(m:M):R:=Q8x G k0 G.rds p8 p1 p0 p7 p6 p2 m
def Qig (G:Gt)(k0:J4)(p6 p1 p0 p2:V)(m:M):R:=bp (pur (bin .mul true true .int (.int .i64 2) p6) m) fun x9 m=>Qif G k0 x9 p1 p0 (.int .i64 0) p6 p2 m
def Q1c (G:Gt):Nat→V→V→V→V→M→R
 | 0,_,_,_,_,_=>none
 | i + 1,p6,p1,p0,p2,m=>bp (pur (bin .lss false true .int p6 p1) m) fun x10 m=>brb x10 (Qig G (Q1c G i) p6 p1 p0 p2 m) (some (.tuple ⟨[]⟩,m))
def Qih (G:Gt)(p6 p1 p0 p2:V)(m:M):R:=Q1c G G.rds p6 p1 p0 p2 m
def Qii (G:Gt)(p0 p7 p1 p2 p6:V)(m:M):R:=bp (G.tab Q63 [p0,p7,p1,p2] m) fun x11 m=>Qih G p6 p1 p0 p2 m
def Q8e (G:Gt):Nat→V→V→V→V→V→V→M→R
 | 0,_,_,_,_,_,_,_=>none
 | i + 1,p8,p1,p0,p7,p2,p6,m=>bp (pur (bin .leq false true .int p8 p1) m) fun x12 m=>brb x12 (bp (G.tab Q63 [p0,p7,p8,p2] m) fun x13 m=>bp (pur (bin .add false true .int p8 p6) m) fun x14 m=>(Q8e G i) x14 p1 p0 p8 p2 p6 m) (Qii G p0 p7 p1 p2 p6 m)
def Qij (G:Gt)(p8 p1 p0 p7 p2 p6:V)(m:M):R:=Q8e G G.rds p8 p1 p0 p7 p2 p6 m
def Qik (G:Gt)(p6 p1 p0 p2:V)(m:M):R:=Qij G p6 p1 p0 (.int .i64 0) p2 p6 m
def Qai (G:Gt)(p1 p0 p2:V)(m:M):R:=Qik G (.int .i64 20) p1 p0 p2 m
theorem Q182 (G:Gt)(a0 a1 a2:V)(m:M):ef G Tryz.f385 [a0,a1,a2] m = Qai G a1 a0 a2 m:=X6 (r:=fun r m=>Qai G (r 1) (r 0) (r 2) m) rfl rfl (tr (seqQ (f:=fun r m=>Qik G (r 6) (r 1) (r 0) (r 2) m) (tr (seqQ (f:=fun r m=>Qij G (r 8) (r 1) (r 0) (r 7) (r 2) (r 6) m) (tr (tr (seqQ (f:=fun r m=>Qii G (r 0) (r 7) (r 1) (r 2) (r 6) m) (tr (seqQ (f:=fun r m=>Qih G (r 6) (r 1) (r 0) (r 2) m) (tr (X9 (Xb (fun i r m=>Q1c G i (r 6) (r 1) (r 0) (r 2) m) (fun _ _=>rfl) (fun i0=>tr (seqQ (f:=fun r m=>Qig G (Q1c G i0) (r 6) (r 1) (r 0) (r 2) m) (tr (X9 (seqQ (f:=fun r m=>Qif G (Q1c G i0) (r 8) (r 1) (r 0) (r 7) (r 6) (r 2) m) (tr (tr (seqQ (f:=fun r m=>Qie G (Q1c G i0) (r 7) (r 6) (r 1) (r 0) (r 2) m) (tr (seqQ (f:=fun r m=>Q8w G (Q1c G i0) (r 6) (r 1) (r 0) (r 2) m)))) (X9 (Xb (fun i r m=>Q8x G (Q1c G i0) i (r 8) (r 1) (r 0) (r 7) (r 6) (r 2) m) (fun _ _=>rfl) (fun i1=>fun r m=>by kernel_rfl)))))))))))))))) (X9 (Xb (fun i r m=>Q8e G i (r 8) (r 1) (r 0) (r 7) (r 2) (r 6) m) (fun _ _=>rfl) (fun i0=>fun r m=>by kernel_rfl))))))))) m
def Q183:En:=⟨Qkn,Tryz.f385,Tryz.func385,by kernel_rfl,arg3 (fun G a0 a1 a2 m=>Qai G a1 a0 a2 m),Xr Q182⟩
def Q8f (G:Gt)(k0:J4)(p6 p1 p0 p2:V)(m:M):R:=bp (pur (bin .mul true true .int p6 (.int .i64 2)) m) fun x0 m=>k0 x0 p1 p0 p2 m
def Qhu (G:Gt)(k0:J4)(p7 p6 p1 p0 p2:V)(m:M):R:=bp (pur (bin .add false true .int p7 p6) m) fun x1 m=>bp (pur (bin .lss false true .int x1 p1) m) fun x2 m=>brb x2 (bp (G.tab Qhb [p0,p7,x1,p1,p2] m) fun x3 m=>Q8f G k0 p6 p1 p0 p2 m) (Q8f G k0 p6 p1 p0 p2 m)
def Q8g (G:Gt)(k0:J4):Nat→V→V→V→V→V→V→M→R
 | 0,_,_,_,_,_,_,_=>none
 | i + 1,p8,p1,p0,p7,p6,p2,m=>bp (pur (bin .leq false true .int p8 p1) m) fun x4 m=>brb x4 (bp (pur (bin .add false true .int p7 p6) m) fun x5 m=>bp (G.tab Qhb [p0,p7,x5,p8,p2] m) fun x6 m=>bp (pur (bin .mul true true .int (.int .i64 2) p6) m) fun x7 m=>bp (pur (bin .add false true .int p8 x7) m) fun x8 m=>(Q8g G k0 i) x8 p1 p0 p8 p6 p2 m) (Qhu G k0 p7 p6 p1 p0 p2 m)
def Qhv (G:Gt)(k0:J4)(p8 p1 p0 p7 p6 p2:V)(m:M):R:=Q8g G k0 G.rds p8 p1 p0 p7 p6 p2 m
def Qhw (G:Gt)(k0:J4)(p6 p1 p0 p2:V)(m:M):R:=bp (pur (bin .mul true true .int (.int .i64 2) p6) m) fun x9 m=>Qhv G k0 x9 p1 p0 (.int .i64 0) p6 p2 m
def Q19 (G:Gt):Nat→V→V→V→V→M→R
 | 0,_,_,_,_,_=>none
 | i + 1,p6,p1,p0,p2,m=>bp (pur (bin .lss false true .int p6 p1) m) fun x10 m=>brb x10 (Qhw G (Q19 G i) p6 p1 p0 p2 m) (some (.tuple ⟨[]⟩,m))
def Qhx (G:Gt)(p6 p1 p0 p2:V)(m:M):R:=Q19 G G.rds p6 p1 p0 p2 m
def Qhy (G:Gt)(p0 p7 p1 p2 p6:V)(m:M):R:=bp (G.tab Q5m [p0,p7,p1,p2] m) fun x11 m=>Qhx G p6 p1 p0 p2 m
def Q7d (G:Gt):Nat→V→V→V→V→V→V→M→R
 | 0,_,_,_,_,_,_,_=>none
 | i + 1,p8,p1,p0,p7,p2,p6,m=>bp (pur (bin .leq false true .int p8 p1) m) fun x12 m=>brb x12 (bp (G.tab Q5m [p0,p7,p8,p2] m) fun x13 m=>bp (pur (bin .add false true .int p8 p6) m) fun x14 m=>(Q7d G i) x14 p1 p0 p8 p2 p6 m) (Qhy G p0 p7 p1 p2 p6 m)
def Qhz (G:Gt)(p8 p1 p0 p7 p2 p6:V)(m:M):R:=Q7d G G.rds p8 p1 p0 p7 p2 p6 m
def Qi0 (G:Gt)(p6 p1 p0 p2:V)(m:M):R:=Qhz G p6 p1 p0 (.int .i64 0) p2 p6 m
def Q9g (G:Gt)(p1 p0 p2:V)(m:M):R:=Qi0 G (.int .i64 20) p1 p0 p2 m
theorem Q15m (G:Gt)(a0 a1 a2:V)(m:M):ef G Tryz.f386 [a0,a1,a2] m = Q9g G a1 a0 a2 m:=X6 (r:=fun r m=>Q9g G (r 1) (r 0) (r 2) m) rfl rfl (tr (seqQ (f:=fun r m=>Qi0 G (r 6) (r 1) (r 0) (r 2) m) (tr (seqQ (f:=fun r m=>Qhz G (r 8) (r 1) (r 0) (r 7) (r 2) (r 6) m) (tr (tr (seqQ (f:=fun r m=>Qhy G (r 0) (r 7) (r 1) (r 2) (r 6) m) (tr (seqQ (f:=fun r m=>Qhx G (r 6) (r 1) (r 0) (r 2) m) (tr (X9 (Xb (fun i r m=>Q19 G i (r 6) (r 1) (r 0) (r 2) m) (fun _ _=>rfl) (fun i0=>tr (seqQ (f:=fun r m=>Qhw G (Q19 G i0) (r 6) (r 1) (r 0) (r 2) m) (tr (X9 (seqQ (f:=fun r m=>Qhv G (Q19 G i0) (r 8) (r 1) (r 0) (r 7) (r 6) (r 2) m) (tr (tr (seqQ (f:=fun r m=>Qhu G (Q19 G i0) (r 7) (r 6) (r 1) (r 0) (r 2) m) (tr (seqQ (f:=fun r m=>Q8f G (Q19 G i0) (r 6) (r 1) (r 0) (r 2) m)))) (X9 (Xb (fun i r m=>Q8g G (Q19 G i0) i (r 8) (r 1) (r 0) (r 7) (r 6) (r 2) m) (fun _ _=>rfl) (fun i1=>fun r m=>by kernel_rfl)))))))))))))))) (X9 (Xb (fun i r m=>Q7d G i (r 8) (r 1) (r 0) (r 7) (r 2) (r 6) m) (fun _ _=>rfl) (fun i0=>fun r m=>by kernel_rfl))))))))) m
def Q15n:En:=⟨Qiz,Tryz.f386,Tryz.func386,by kernel_rfl,arg3 (fun G a0 a1 a2 m=>Q9g G a1 a0 a2 m),Xr Q15m⟩
def Q6d (G:Gt)(k0:J4)(p6 p1 p0 p2:V)(m:M):R:=bp (pur (bin .mul true true .int p6 (.int .i64 2)) m) fun x0 m=>k0 x0 p1 p0 p2 m
def Qem (G:Gt)(k0:J4)(p7 p6 p1 p0 p2:V)(m:M):R:=bp (pur (bin .add false true .int p7 p6) m) fun x1 m=>bp (pur (bin .lss false true .int x1 p1) m) fun x2 m=>brb x2 (bp (G.tab Qee [p0,p7,x1,p1,p2] m) fun x3 m=>Q6d G k0 p6 p1 p0 p2 m) (Q6d G k0 p6 p1 p0 p2 m)
def Q6e (G:Gt)(k0:J4):Nat→V→V→V→V→V→V→M→R
 | 0,_,_,_,_,_,_,_=>none
 | i + 1,p8,p1,p0,p7,p6,p2,m=>bp (pur (bin .leq false true .int p8 p1) m) fun x4 m=>brb x4 (bp (pur (bin .add false true .int p7 p6) m) fun x5 m=>bp (G.tab Qee [p0,p7,x5,p8,p2] m) fun x6 m=>bp (pur (bin .mul true true .int (.int .i64 2) p6) m) fun x7 m=>bp (pur (bin .add false true .int p8 x7) m) fun x8 m=>(Q6e G k0 i) x8 p1 p0 p8 p6 p2 m) (Qem G k0 p7 p6 p1 p0 p2 m)
def Qen (G:Gt)(k0:J4)(p8 p1 p0 p7 p6 p2:V)(m:M):R:=Q6e G k0 G.rds p8 p1 p0 p7 p6 p2 m
def Qeo (G:Gt)(k0:J4)(p6 p1 p0 p2:V)(m:M):R:=bp (pur (bin .mul true true .int (.int .i64 2) p6) m) fun x9 m=>Qen G k0 x9 p1 p0 (.int .i64 0) p6 p2 m
def Q12 (G:Gt):Nat→V→V→V→V→M→R
 | 0,_,_,_,_,_=>none
 | i + 1,p6,p1,p0,p2,m=>bp (pur (bin .lss false true .int p6 p1) m) fun x10 m=>brb x10 (Qeo G (Q12 G i) p6 p1 p0 p2 m) (some (.tuple ⟨[]⟩,m))
def Qep (G:Gt)(p6 p1 p0 p2:V)(m:M):R:=Q12 G G.rds p6 p1 p0 p2 m
def Qeq (G:Gt)(p0 p7 p1 p2 p6:V)(m:M):R:=bp (G.tab Q46 [p0,p7,p1,p2] m) fun x11 m=>Qep G p6 p1 p0 p2 m
def Q5q (G:Gt):Nat→V→V→V→V→V→V→M→R
 | 0,_,_,_,_,_,_,_=>none
 | i + 1,p8,p1,p0,p7,p2,p6,m=>bp (pur (bin .leq false true .int p8 p1) m) fun x12 m=>brb x12 (bp (G.tab Q46 [p0,p7,p8,p2] m) fun x13 m=>bp (pur (bin .add false true .int p8 p6) m) fun x14 m=>(Q5q G i) x14 p1 p0 p8 p2 p6 m) (Qeq G p0 p7 p1 p2 p6 m)
def Qer (G:Gt)(p8 p1 p0 p7 p2 p6:V)(m:M):R:=Q5q G G.rds p8 p1 p0 p7 p2 p6 m
def Qes (G:Gt)(p6 p1 p0 p2:V)(m:M):R:=Qer G p6 p1 p0 (.int .i64 0) p2 p6 m
def Q6w (G:Gt)(p1 p0 p2:V)(m:M):R:=Qes G (.int .i64 20) p1 p0 p2 m
theorem Qx4 (G:Gt)(a0 a1 a2:V)(m:M):ef G Tryz.f387 [a0,a1,a2] m = Q6w G a1 a0 a2 m:=X6 (r:=fun r m=>Q6w G (r 1) (r 0) (r 2) m) rfl rfl (tr (seqQ (f:=fun r m=>Qes G (r 6) (r 1) (r 0) (r 2) m) (tr (seqQ (f:=fun r m=>Qer G (r 8) (r 1) (r 0) (r 7) (r 2) (r 6) m) (tr (tr (seqQ (f:=fun r m=>Qeq G (r 0) (r 7) (r 1) (r 2) (r 6) m) (tr (seqQ (f:=fun r m=>Qep G (r 6) (r 1) (r 0) (r 2) m) (tr (X9 (Xb (fun i r m=>Q12 G i (r 6) (r 1) (r 0) (r 2) m) (fun _ _=>rfl) (fun i0=>tr (seqQ (f:=fun r m=>Qeo G (Q12 G i0) (r 6) (r 1) (r 0) (r 2) m) (tr (X9 (seqQ (f:=fun r m=>Qen G (Q12 G i0) (r 8) (r 1) (r 0) (r 7) (r 6) (r 2) m) (tr (tr (seqQ (f:=fun r m=>Qem G (Q12 G i0) (r 7) (r 6) (r 1) (r 0) (r 2) m) (tr (seqQ (f:=fun r m=>Q6d G (Q12 G i0) (r 6) (r 1) (r 0) (r 2) m)))) (X9 (Xb (fun i r m=>Q6e G (Q12 G i0) i (r 8) (r 1) (r 0) (r 7) (r 6) (r 2) m) (fun _ _=>rfl) (fun i1=>fun r m=>by kernel_rfl)))))))))))))))) (X9 (Xb (fun i r m=>Q5q G i (r 8) (r 1) (r 0) (r 7) (r 2) (r 6) m) (fun _ _=>rfl) (fun i0=>fun r m=>by kernel_rfl))))))))) m
def Qx5:En:=⟨Qff,Tryz.f387,Tryz.func387,by kernel_rfl,arg3 (fun G a0 a1 a2 m=>Q6w G a1 a0 a2 m),Xr Qx4⟩
def Q4q (G:Gt)(k0:J4)(p6 p1 p0 p2:V)(m:M):R:=bp (pur (bin .mul true true .int p6 (.int .i64 2)) m) fun x0 m=>k0 x0 p1 p0 p2 m
def Qbm (G:Gt)(k0:J4)(p7 p6 p1 p0 p2:V)(m:M):R:=bp (pur (bin .add false true .int p7 p6) m) fun x1 m=>bp (pur (bin .lss false true .int x1 p1) m) fun x2 m=>brb x2 (bp (G.tab Qbl [p0,p7,x1,p1,p2] m) fun x3 m=>Q4q G k0 p6 p1 p0 p2 m) (Q4q G k0 p6 p1 p0 p2 m)
def Q4r (G:Gt)(k0:J4):Nat→V→V→V→V→V→V→M→R
 | 0,_,_,_,_,_,_,_=>none
 | i + 1,p8,p1,p0,p7,p6,p2,m=>bp (pur (bin .leq false true .int p8 p1) m) fun x4 m=>brb x4 (bp (pur (bin .add false true .int p7 p6) m) fun x5 m=>bp (G.tab Qbl [p0,p7,x5,p8,p2] m) fun x6 m=>bp (pur (bin .mul true true .int (.int .i64 2) p6) m) fun x7 m=>bp (pur (bin .add false true .int p8 x7) m) fun x8 m=>(Q4r G k0 i) x8 p1 p0 p8 p6 p2 m) (Qbm G k0 p7 p6 p1 p0 p2 m)
def Qbn (G:Gt)(k0:J4)(p8 p1 p0 p7 p6 p2:V)(m:M):R:=Q4r G k0 G.rds p8 p1 p0 p7 p6 p2 m
def Qbo (G:Gt)(k0:J4)(p6 p1 p0 p2:V)(m:M):R:=bp (pur (bin .mul true true .int (.int .i64 2) p6) m) fun x9 m=>Qbn G k0 x9 p1 p0 (.int .i64 0) p6 p2 m
def Qy (G:Gt):Nat→V→V→V→V→M→R
 | 0,_,_,_,_,_=>none
 | i + 1,p6,p1,p0,p2,m=>bp (pur (bin .lss false true .int p6 p1) m) fun x10 m=>brb x10 (Qbo G (Qy G i) p6 p1 p0 p2 m) (some (.tuple ⟨[]⟩,m))
def Qbp (G:Gt)(p6 p1 p0 p2:V)(m:M):R:=Qy G G.rds p6 p1 p0 p2 m
def Qbq (G:Gt)(p0 p7 p1 p2 p6:V)(m:M):R:=bp (G.tab Q3o [p0,p7,p1,p2] m) fun x11 m=>Qbp G p6 p1 p0 p2 m
def Q4g (G:Gt):Nat→V→V→V→V→V→V→M→R
 | 0,_,_,_,_,_,_,_=>none
 | i + 1,p8,p1,p0,p7,p2,p6,m=>bp (pur (bin .leq false true .int p8 p1) m) fun x12 m=>brb x12 (bp (G.tab Q3o [p0,p7,p8,p2] m) fun x13 m=>bp (pur (bin .add false true .int p8 p6) m) fun x14 m=>(Q4g G i) x14 p1 p0 p8 p2 p6 m) (Qbq G p0 p7 p1 p2 p6 m)
def Qbr (G:Gt)(p8 p1 p0 p7 p2 p6:V)(m:M):R:=Q4g G G.rds p8 p1 p0 p7 p2 p6 m
def Qbs (G:Gt)(p6 p1 p0 p2:V)(m:M):R:=Qbr G p6 p1 p0 (.int .i64 0) p2 p6 m
def Q5r (G:Gt)(p1 p0 p2:V)(m:M):R:=Qbs G (.int .i64 20) p1 p0 p2 m
theorem Qsk (G:Gt)(a0 a1 a2:V)(m:M):ef G Tryz.f388 [a0,a1,a2] m = Q5r G a1 a0 a2 m:=X6 (r:=fun r m=>Q5r G (r 1) (r 0) (r 2) m) rfl rfl (tr (seqQ (f:=fun r m=>Qbs G (r 6) (r 1) (r 0) (r 2) m) (tr (seqQ (f:=fun r m=>Qbr G (r 8) (r 1) (r 0) (r 7) (r 2) (r 6) m) (tr (tr (seqQ (f:=fun r m=>Qbq G (r 0) (r 7) (r 1) (r 2) (r 6) m) (tr (seqQ (f:=fun r m=>Qbp G (r 6) (r 1) (r 0) (r 2) m) (tr (X9 (Xb (fun i r m=>Qy G i (r 6) (r 1) (r 0) (r 2) m) (fun _ _=>rfl) (fun i0=>tr (seqQ (f:=fun r m=>Qbo G (Qy G i0) (r 6) (r 1) (r 0) (r 2) m) (tr (X9 (seqQ (f:=fun r m=>Qbn G (Qy G i0) (r 8) (r 1) (r 0) (r 7) (r 6) (r 2) m) (tr (tr (seqQ (f:=fun r m=>Qbm G (Qy G i0) (r 7) (r 6) (r 1) (r 0) (r 2) m) (tr (seqQ (f:=fun r m=>Q4q G (Qy G i0) (r 6) (r 1) (r 0) (r 2) m)))) (X9 (Xb (fun i r m=>Q4r G (Qy G i0) i (r 8) (r 1) (r 0) (r 7) (r 6) (r 2) m) (fun _ _=>rfl) (fun i1=>fun r m=>by kernel_rfl)))))))))))))))) (X9 (Xb (fun i r m=>Q4g G i (r 8) (r 1) (r 0) (r 7) (r 2) (r 6) m) (fun _ _=>rfl) (fun i0=>fun r m=>by kernel_rfl))))))))) m
def Qsl:En:=⟨Qdh,Tryz.f388,Tryz.func388,by kernel_rfl,arg3 (fun G a0 a1 a2 m=>Q5r G a1 a0 a2 m),Xr Qsk⟩
end
end Go.Ab.Sh
