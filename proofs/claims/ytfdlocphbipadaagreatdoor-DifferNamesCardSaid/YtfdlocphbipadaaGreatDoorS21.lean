/-
  Functions of the program as plain definitions. No conditions.
-/
import Derived.Test.YtfdlocphbipadaaGreatDoorAb5
import Derived.Test.YtfdlocphbipadaaGreatDoorZ
import Derived.KernelRfl
import Derived.Test.YtfdlocphbipadaaGreatDoorProg
set_option linter.unusedVariables false
set_option maxRecDepth 100000
namespace Go.Ab.Sh
open Go Go.Ab Go.Proofs
noncomputable section
def Qcn (G:Gt)(k0:J5)(p8 p2 p1 p3 p0:V)(m:M):R:=bp (pur (bin .add true true .int p8 (.int .i64 1)) m) fun x0 m=>k0 x0 p2 p1 p3 p0 m
def Q53 (G:Gt)(k1:J6)(k0:J5)(p34 p0 p9 p1 p3 p8 p2:V)(m:M):R:=brb p34 (bp (pur (bin .sub true true .int p9 (.int .i64 1)) m) fun x1 m=>bp (pur (bin .sub true true .int p9 (.int .i64 1)) m) fun x2 m=>bp (pur (X3 11 p0 x2) m) fun x3 m=>bp (pur (X4 true 11 x3 m) m) fun x4 m=>bp (pur (X3 11 p0 p9) m) fun x5 m=>bp (pur (X4 true 11 x5 m) m) fun x6 m=>bp (pur (X3 11 p0 p9) m) fun x7 m=>bp (unt (X8 11 x7 x4 m)) fun _ m=>bp (pur (X3 11 p0 x1) m) fun x8 m=>bp (unt (X8 11 x8 x6 m)) fun _ m=>bp (pur (bin .sub true true .int p9 (.int .i64 1)) m) fun x9 m=>k1 x9 p1 p3 p0 p8 p2 m) (Qcn G k0 p8 p2 p1 p3 p0 m)
def Q20 (G:Gt)(k0:J5):Nat→V→V→V→V→V→V→M→R
 | 0,_,_,_,_,_,_,_=>none
 | i + 1,p9,p1,p3,p0,p8,p2,m=>bp (pur (bin .gtr false true .int p9 p1) m) fun x10 m=>brt x10 (bp (pur (X3 11 p0 p9) m) fun x11 m=>bp (pur (X4 true 11 x11 m) m) fun x12 m=>bp (pur (bin .sub true true .int p9 (.int .i64 1)) m) fun x13 m=>bp (pur (X3 11 p0 x13) m) fun x14 m=>bp (pur (X4 true 11 x14 m) m) fun x15 m=>bp (Xj G.tab p3 [x12,x15] m) fun x16 m=>bp (pur (bin .lss true true .int x16 (.int .i64 0)) m) fun x17 m=>Q53 G (Q20 G k0 i) k0 x17 p0 p9 p1 p3 p8 p2 m) (Q53 G (Q20 G k0 i) k0 (.bool false) p0 p9 p1 p3 p8 p2 m) (none)
def Qco (G:Gt)(k0:J5)(p9 p1 p3 p0 p8 p2:V)(m:M):R:=Q20 G k0 G.rds p9 p1 p3 p0 p8 p2 m
def Qcp (G:Gt)(k0:J5)(p8 p1 p3 p0 p2:V)(m:M):R:=Qco G k0 p8 p1 p3 p0 p8 p2 m
def Qp (G:Gt):Nat→V→V→V→V→V→M→R
 | 0,_,_,_,_,_,_=>none
 | i + 1,p8,p2,p1,p3,p0,m=>bp (pur (bin .lss false true .int p8 p2) m) fun x18 m=>brb x18 (Qcp G (Qp G i) p8 p1 p3 p0 p2 m) (some (.tuple ⟨[]⟩,m))
def Qcq (G:Gt)(p8 p2 p1 p3 p0:V)(m:M):R:=Qp G G.rds p8 p2 p1 p3 p0 m
def Q62 (G:Gt)(p1 p2 p3 p0:V)(m:M):R:=bp (pur (bin .add true true .int p1 (.int .i64 1)) m) fun x19 m=>Qcq G x19 p2 p1 p3 p0 m
theorem Qtp (G:Gt)(a0 a1 a2 a3:V)(m:M):ef G Tryz.f453 [a0,a1,a2,a3] m = Q62 G a1 a2 a3 a0 m:=X6 (r:=fun r m=>Q62 G (r 1) (r 2) (r 3) (r 0) m) rfl rfl (tr (seqQ (f:=fun r m=>Qcq G (r 8) (r 2) (r 1) (r 3) (r 0) m) (tr (X9 (Xb (fun i r m=>Qp G i (r 8) (r 2) (r 1) (r 3) (r 0) m) (fun _ _=>rfl) (fun i0=>tr (seqQ (f:=fun r m=>Qcp G (Qp G i0) (r 8) (r 1) (r 3) (r 0) (r 2) m) (tr (tr (seqQ (f:=fun r m=>Qcn G (Qp G i0) (r 8) (r 2) (r 1) (r 3) (r 0) m)) (X9 (seqQ (f:=fun r m=>Qco G (Qp G i0) (r 9) (r 1) (r 3) (r 0) (r 8) (r 2) m) (tr (X9 (Xb (fun i r m=>Q20 G (Qp G i0) i (r 9) (r 1) (r 3) (r 0) (r 8) (r 2) m) (fun _ _=>rfl) (fun i1=>tr (tr seqD (seqQ (f:=fun r m=>Q53 G (Q20 G (Qp G i0) i1) (Qp G i0) (r 34) (r 0) (r 9) (r 1) (r 3) (r 8) (r 2) m)))))))))))))))))) m
def Qtq:En:=⟨Q63,Tryz.f453,Tryz.func453,by kernel_rfl,arg4 (fun G a0 a1 a2 a3 m=>Q62 G a1 a2 a3 a0 m),X1c Qtp⟩
def Qb5 (G:Gt)(k0:J5)(p8 p2 p1 p3 p0:V)(m:M):R:=bp (pur (bin .add true true .int p8 (.int .i64 1)) m) fun x0 m=>k0 x0 p2 p1 p3 p0 m
def Q4o (G:Gt)(k1:J6)(k0:J5)(p34 p0 p9 p1 p3 p8 p2:V)(m:M):R:=brb p34 (bp (pur (bin .sub true true .int p9 (.int .i64 1)) m) fun x1 m=>bp (pur (bin .sub true true .int p9 (.int .i64 1)) m) fun x2 m=>bp (pur (X3 2 p0 x2) m) fun x3 m=>bp (pur (X4 true 2 x3 m) m) fun x4 m=>bp (pur (X3 2 p0 p9) m) fun x5 m=>bp (pur (X4 true 2 x5 m) m) fun x6 m=>bp (pur (X3 2 p0 p9) m) fun x7 m=>bp (unt (X8 2 x7 x4 m)) fun _ m=>bp (pur (X3 2 p0 x1) m) fun x8 m=>bp (unt (X8 2 x8 x6 m)) fun _ m=>bp (pur (bin .sub true true .int p9 (.int .i64 1)) m) fun x9 m=>k1 x9 p1 p3 p0 p8 p2 m) (Qb5 G k0 p8 p2 p1 p3 p0 m)
def Q1s (G:Gt)(k0:J5):Nat→V→V→V→V→V→V→M→R
 | 0,_,_,_,_,_,_,_=>none
 | i + 1,p9,p1,p3,p0,p8,p2,m=>bp (pur (bin .gtr false true .int p9 p1) m) fun x10 m=>brt x10 (bp (pur (X3 2 p0 p9) m) fun x11 m=>bp (pur (X4 true 2 x11 m) m) fun x12 m=>bp (pur (bin .sub true true .int p9 (.int .i64 1)) m) fun x13 m=>bp (pur (X3 2 p0 x13) m) fun x14 m=>bp (pur (X4 true 2 x14 m) m) fun x15 m=>bp (Xj G.tab p3 [x12,x15] m) fun x16 m=>bp (pur (bin .lss true true .int x16 (.int .i64 0)) m) fun x17 m=>Q4o G (Q1s G k0 i) k0 x17 p0 p9 p1 p3 p8 p2 m) (Q4o G (Q1s G k0 i) k0 (.bool false) p0 p9 p1 p3 p8 p2 m) (none)
def Qb6 (G:Gt)(k0:J5)(p9 p1 p3 p0 p8 p2:V)(m:M):R:=Q1s G k0 G.rds p9 p1 p3 p0 p8 p2 m
def Qb7 (G:Gt)(k0:J5)(p8 p1 p3 p0 p2:V)(m:M):R:=Qb6 G k0 p8 p1 p3 p0 p8 p2 m
def Qi (G:Gt):Nat→V→V→V→V→V→M→R
 | 0,_,_,_,_,_,_=>none
 | i + 1,p8,p2,p1,p3,p0,m=>bp (pur (bin .lss false true .int p8 p2) m) fun x18 m=>brb x18 (Qb7 G (Qi G i) p8 p1 p3 p0 p2 m) (some (.tuple ⟨[]⟩,m))
def Qb8 (G:Gt)(p8 p2 p1 p3 p0:V)(m:M):R:=Qi G G.rds p8 p2 p1 p3 p0 m
def Q5l (G:Gt)(p1 p2 p3 p0:V)(m:M):R:=bp (pur (bin .add true true .int p1 (.int .i64 1)) m) fun x19 m=>Qb8 G x19 p2 p1 p3 p0 m
theorem Qsb (G:Gt)(a0 a1 a2 a3:V)(m:M):ef G Tryz.f455 [a0,a1,a2,a3] m = Q5l G a1 a2 a3 a0 m:=X6 (r:=fun r m=>Q5l G (r 1) (r 2) (r 3) (r 0) m) rfl rfl (tr (seqQ (f:=fun r m=>Qb8 G (r 8) (r 2) (r 1) (r 3) (r 0) m) (tr (X9 (Xb (fun i r m=>Qi G i (r 8) (r 2) (r 1) (r 3) (r 0) m) (fun _ _=>rfl) (fun i0=>tr (seqQ (f:=fun r m=>Qb7 G (Qi G i0) (r 8) (r 1) (r 3) (r 0) (r 2) m) (tr (tr (seqQ (f:=fun r m=>Qb5 G (Qi G i0) (r 8) (r 2) (r 1) (r 3) (r 0) m)) (X9 (seqQ (f:=fun r m=>Qb6 G (Qi G i0) (r 9) (r 1) (r 3) (r 0) (r 8) (r 2) m) (tr (X9 (Xb (fun i r m=>Q1s G (Qi G i0) i (r 9) (r 1) (r 3) (r 0) (r 8) (r 2) m) (fun _ _=>rfl) (fun i1=>tr (tr seqD (seqQ (f:=fun r m=>Q4o G (Q1s G (Qi G i0) i1) (Qi G i0) (r 34) (r 0) (r 9) (r 1) (r 3) (r 8) (r 2) m)))))))))))))))))) m
def Qsc:En:=⟨Q5m,Tryz.f455,Tryz.func455,by kernel_rfl,arg4 (fun G a0 a1 a2 a3 m=>Q5l G a1 a2 a3 a0 m),X1c Qsb⟩
def Q8m (G:Gt)(k0:J5)(p8 p2 p1 p3 p0:V)(m:M):R:=bp (pur (bin .add true true .int p8 (.int .i64 1)) m) fun x0 m=>k0 x0 p2 p1 p3 p0 m
def Q3v (G:Gt)(k1:J6)(k0:J5)(p34 p0 p9 p1 p3 p8 p2:V)(m:M):R:=brb p34 (bp (pur (bin .sub true true .int p9 (.int .i64 1)) m) fun x1 m=>bp (pur (bin .sub true true .int p9 (.int .i64 1)) m) fun x2 m=>bp (pur (X3 2 p0 x2) m) fun x3 m=>bp (pur (X4 true 2 x3 m) m) fun x4 m=>bp (pur (X3 2 p0 p9) m) fun x5 m=>bp (pur (X4 true 2 x5 m) m) fun x6 m=>bp (pur (X3 2 p0 p9) m) fun x7 m=>bp (unt (X8 2 x7 x4 m)) fun _ m=>bp (pur (X3 2 p0 x1) m) fun x8 m=>bp (unt (X8 2 x8 x6 m)) fun _ m=>bp (pur (bin .sub true true .int p9 (.int .i64 1)) m) fun x9 m=>k1 x9 p1 p3 p0 p8 p2 m) (Q8m G k0 p8 p2 p1 p3 p0 m)
def Q1i (G:Gt)(k0:J5):Nat→V→V→V→V→V→V→M→R
 | 0,_,_,_,_,_,_,_=>none
 | i + 1,p9,p1,p3,p0,p8,p2,m=>bp (pur (bin .gtr false true .int p9 p1) m) fun x10 m=>brt x10 (bp (pur (X3 2 p0 p9) m) fun x11 m=>bp (pur (X4 true 2 x11 m) m) fun x12 m=>bp (pur (bin .sub true true .int p9 (.int .i64 1)) m) fun x13 m=>bp (pur (X3 2 p0 x13) m) fun x14 m=>bp (pur (X4 true 2 x14 m) m) fun x15 m=>bp (Xj G.tab p3 [x12,x15] m) fun x16 m=>bp (pur (bin .lss true true .int x16 (.int .i64 0)) m) fun x17 m=>Q3v G (Q1i G k0 i) k0 x17 p0 p9 p1 p3 p8 p2 m) (Q3v G (Q1i G k0 i) k0 (.bool false) p0 p9 p1 p3 p8 p2 m) (none)
def Q8n (G:Gt)(k0:J5)(p9 p1 p3 p0 p8 p2:V)(m:M):R:=Q1i G k0 G.rds p9 p1 p3 p0 p8 p2 m
def Q8o (G:Gt)(k0:J5)(p8 p1 p3 p0 p2:V)(m:M):R:=Q8n G k0 p8 p1 p3 p0 p8 p2 m
def Qb (G:Gt):Nat→V→V→V→V→V→M→R
 | 0,_,_,_,_,_,_=>none
 | i + 1,p8,p2,p1,p3,p0,m=>bp (pur (bin .lss false true .int p8 p2) m) fun x18 m=>brb x18 (Q8o G (Qb G i) p8 p1 p3 p0 p2 m) (some (.tuple ⟨[]⟩,m))
def Q8p (G:Gt)(p8 p2 p1 p3 p0:V)(m:M):R:=Qb G G.rds p8 p2 p1 p3 p0 m
def Q45 (G:Gt)(p1 p2 p3 p0:V)(m:M):R:=bp (pur (bin .add true true .int p1 (.int .i64 1)) m) fun x19 m=>Q8p G x19 p2 p1 p3 p0 m
theorem Qo1 (G:Gt)(a0 a1 a2 a3:V)(m:M):ef G Tryz.f457 [a0,a1,a2,a3] m = Q45 G a1 a2 a3 a0 m:=X6 (r:=fun r m=>Q45 G (r 1) (r 2) (r 3) (r 0) m) rfl rfl (tr (seqQ (f:=fun r m=>Q8p G (r 8) (r 2) (r 1) (r 3) (r 0) m) (tr (X9 (Xb (fun i r m=>Qb G i (r 8) (r 2) (r 1) (r 3) (r 0) m) (fun _ _=>rfl) (fun i0=>tr (seqQ (f:=fun r m=>Q8o G (Qb G i0) (r 8) (r 1) (r 3) (r 0) (r 2) m) (tr (tr (seqQ (f:=fun r m=>Q8m G (Qb G i0) (r 8) (r 2) (r 1) (r 3) (r 0) m)) (X9 (seqQ (f:=fun r m=>Q8n G (Qb G i0) (r 9) (r 1) (r 3) (r 0) (r 8) (r 2) m) (tr (X9 (Xb (fun i r m=>Q1i G (Qb G i0) i (r 9) (r 1) (r 3) (r 0) (r 8) (r 2) m) (fun _ _=>rfl) (fun i1=>tr (tr seqD (seqQ (f:=fun r m=>Q3v G (Q1i G (Qb G i0) i1) (Qb G i0) (r 34) (r 0) (r 9) (r 1) (r 3) (r 8) (r 2) m)))))))))))))))))) m
def Qo2:En:=⟨Q46,Tryz.f457,Tryz.func457,by kernel_rfl,arg4 (fun G a0 a1 a2 a3 m=>Q45 G a1 a2 a3 a0 m),X1c Qo1⟩
def Q70 (G:Gt)(k0:J5)(p8 p2 p1 p3 p0:V)(m:M):R:=bp (pur (bin .add true true .int p8 (.int .i64 1)) m) fun x0 m=>k0 x0 p2 p1 p3 p0 m
def Q3a (G:Gt)(k1:J6)(k0:J5)(p34 p0 p9 p1 p3 p8 p2:V)(m:M):R:=brb p34 (bp (pur (bin .sub true true .int p9 (.int .i64 1)) m) fun x1 m=>bp (pur (bin .sub true true .int p9 (.int .i64 1)) m) fun x2 m=>bp (pur (X3 2 p0 x2) m) fun x3 m=>bp (pur (X4 true 2 x3 m) m) fun x4 m=>bp (pur (X3 2 p0 p9) m) fun x5 m=>bp (pur (X4 true 2 x5 m) m) fun x6 m=>bp (pur (X3 2 p0 p9) m) fun x7 m=>bp (unt (X8 2 x7 x4 m)) fun _ m=>bp (pur (X3 2 p0 x1) m) fun x8 m=>bp (unt (X8 2 x8 x6 m)) fun _ m=>bp (pur (bin .sub true true .int p9 (.int .i64 1)) m) fun x9 m=>k1 x9 p1 p3 p0 p8 p2 m) (Q70 G k0 p8 p2 p1 p3 p0 m)
def Q1h (G:Gt)(k0:J5):Nat→V→V→V→V→V→V→M→R
 | 0,_,_,_,_,_,_,_=>none
 | i + 1,p9,p1,p3,p0,p8,p2,m=>bp (pur (bin .gtr false true .int p9 p1) m) fun x10 m=>brt x10 (bp (pur (X3 2 p0 p9) m) fun x11 m=>bp (pur (X4 true 2 x11 m) m) fun x12 m=>bp (pur (bin .sub true true .int p9 (.int .i64 1)) m) fun x13 m=>bp (pur (X3 2 p0 x13) m) fun x14 m=>bp (pur (X4 true 2 x14 m) m) fun x15 m=>bp (Xj G.tab p3 [x12,x15] m) fun x16 m=>bp (pur (bin .lss true true .int x16 (.int .i64 0)) m) fun x17 m=>Q3a G (Q1h G k0 i) k0 x17 p0 p9 p1 p3 p8 p2 m) (Q3a G (Q1h G k0 i) k0 (.bool false) p0 p9 p1 p3 p8 p2 m) (none)
def Q71 (G:Gt)(k0:J5)(p9 p1 p3 p0 p8 p2:V)(m:M):R:=Q1h G k0 G.rds p9 p1 p3 p0 p8 p2 m
def Q72 (G:Gt)(k0:J5)(p8 p1 p3 p0 p2:V)(m:M):R:=Q71 G k0 p8 p1 p3 p0 p8 p2 m
def Q7 (G:Gt):Nat→V→V→V→V→V→M→R
 | 0,_,_,_,_,_,_=>none
 | i + 1,p8,p2,p1,p3,p0,m=>bp (pur (bin .lss false true .int p8 p2) m) fun x18 m=>brb x18 (Q72 G (Q7 G i) p8 p1 p3 p0 p2 m) (some (.tuple ⟨[]⟩,m))
def Q73 (G:Gt)(p8 p2 p1 p3 p0:V)(m:M):R:=Q7 G G.rds p8 p2 p1 p3 p0 m
def Q3n (G:Gt)(p1 p2 p3 p0:V)(m:M):R:=bp (pur (bin .add true true .int p1 (.int .i64 1)) m) fun x19 m=>Q73 G x19 p2 p1 p3 p0 m
theorem Qlk (G:Gt)(a0 a1 a2 a3:V)(m:M):ef G Tryz.f459 [a0,a1,a2,a3] m = Q3n G a1 a2 a3 a0 m:=X6 (r:=fun r m=>Q3n G (r 1) (r 2) (r 3) (r 0) m) rfl rfl (tr (seqQ (f:=fun r m=>Q73 G (r 8) (r 2) (r 1) (r 3) (r 0) m) (tr (X9 (Xb (fun i r m=>Q7 G i (r 8) (r 2) (r 1) (r 3) (r 0) m) (fun _ _=>rfl) (fun i0=>tr (seqQ (f:=fun r m=>Q72 G (Q7 G i0) (r 8) (r 1) (r 3) (r 0) (r 2) m) (tr (tr (seqQ (f:=fun r m=>Q70 G (Q7 G i0) (r 8) (r 2) (r 1) (r 3) (r 0) m)) (X9 (seqQ (f:=fun r m=>Q71 G (Q7 G i0) (r 9) (r 1) (r 3) (r 0) (r 8) (r 2) m) (tr (X9 (Xb (fun i r m=>Q1h G (Q7 G i0) i (r 9) (r 1) (r 3) (r 0) (r 8) (r 2) m) (fun _ _=>rfl) (fun i1=>tr (tr seqD (seqQ (f:=fun r m=>Q3a G (Q1h G (Q7 G i0) i1) (Q7 G i0) (r 34) (r 0) (r 9) (r 1) (r 3) (r 8) (r 2) m)))))))))))))))))) m
def Qll:En:=⟨Q3o,Tryz.f459,Tryz.func459,by kernel_rfl,arg4 (fun G a0 a1 a2 a3 m=>Q3n G a1 a2 a3 a0 m),X1c Qlk⟩
def Qb9 (G:Gt)(k0:J5)(p8 p2 p1 p3 p0:V)(m:M):R:=bp (pur (bin .add true true .int p8 (.int .i64 1)) m) fun x0 m=>k0 x0 p2 p1 p3 p0 m
def Q4p (G:Gt)(k1:J6)(k0:J5)(p34 p0 p9 p1 p3 p8 p2:V)(m:M):R:=brb p34 (bp (pur (bin .sub true true .int p9 (.int .i64 1)) m) fun x1 m=>bp (pur (bin .sub true true .int p9 (.int .i64 1)) m) fun x2 m=>bp (pur (X3 3 p0 x2) m) fun x3 m=>bp (pur (X4 true 3 x3 m) m) fun x4 m=>bp (pur (X3 3 p0 p9) m) fun x5 m=>bp (pur (X4 true 3 x5 m) m) fun x6 m=>bp (pur (X3 3 p0 p9) m) fun x7 m=>bp (unt (X8 3 x7 x4 m)) fun _ m=>bp (pur (X3 3 p0 x1) m) fun x8 m=>bp (unt (X8 3 x8 x6 m)) fun _ m=>bp (pur (bin .sub true true .int p9 (.int .i64 1)) m) fun x9 m=>k1 x9 p1 p3 p0 p8 p2 m) (Qb9 G k0 p8 p2 p1 p3 p0 m)
def Q1t (G:Gt)(k0:J5):Nat→V→V→V→V→V→V→M→R
 | 0,_,_,_,_,_,_,_=>none
 | i + 1,p9,p1,p3,p0,p8,p2,m=>bp (pur (bin .gtr false true .int p9 p1) m) fun x10 m=>brt x10 (bp (pur (X3 3 p0 p9) m) fun x11 m=>bp (pur (X4 true 3 x11 m) m) fun x12 m=>bp (pur (bin .sub true true .int p9 (.int .i64 1)) m) fun x13 m=>bp (pur (X3 3 p0 x13) m) fun x14 m=>bp (pur (X4 true 3 x14 m) m) fun x15 m=>bp (Xj G.tab p3 [x12,x15] m) fun x16 m=>bp (pur (bin .lss true true .int x16 (.int .i64 0)) m) fun x17 m=>Q4p G (Q1t G k0 i) k0 x17 p0 p9 p1 p3 p8 p2 m) (Q4p G (Q1t G k0 i) k0 (.bool false) p0 p9 p1 p3 p8 p2 m) (none)
def Qba (G:Gt)(k0:J5)(p9 p1 p3 p0 p8 p2:V)(m:M):R:=Q1t G k0 G.rds p9 p1 p3 p0 p8 p2 m
def Qbb (G:Gt)(k0:J5)(p8 p1 p3 p0 p2:V)(m:M):R:=Qba G k0 p8 p1 p3 p0 p8 p2 m
def Qj (G:Gt):Nat→V→V→V→V→V→M→R
 | 0,_,_,_,_,_,_=>none
 | i + 1,p8,p2,p1,p3,p0,m=>bp (pur (bin .lss false true .int p8 p2) m) fun x18 m=>brb x18 (Qbb G (Qj G i) p8 p1 p3 p0 p2 m) (some (.tuple ⟨[]⟩,m))
def Qbc (G:Gt)(p8 p2 p1 p3 p0:V)(m:M):R:=Qj G G.rds p8 p2 p1 p3 p0 m
def Q5n (G:Gt)(p1 p2 p3 p0:V)(m:M):R:=bp (pur (bin .add true true .int p1 (.int .i64 1)) m) fun x19 m=>Qbc G x19 p2 p1 p3 p0 m
theorem Qsd (G:Gt)(a0 a1 a2 a3:V)(m:M):ef G Tryz.f461 [a0,a1,a2,a3] m = Q5n G a1 a2 a3 a0 m:=X6 (r:=fun r m=>Q5n G (r 1) (r 2) (r 3) (r 0) m) rfl rfl (tr (seqQ (f:=fun r m=>Qbc G (r 8) (r 2) (r 1) (r 3) (r 0) m) (tr (X9 (Xb (fun i r m=>Qj G i (r 8) (r 2) (r 1) (r 3) (r 0) m) (fun _ _=>rfl) (fun i0=>tr (seqQ (f:=fun r m=>Qbb G (Qj G i0) (r 8) (r 1) (r 3) (r 0) (r 2) m) (tr (tr (seqQ (f:=fun r m=>Qb9 G (Qj G i0) (r 8) (r 2) (r 1) (r 3) (r 0) m)) (X9 (seqQ (f:=fun r m=>Qba G (Qj G i0) (r 9) (r 1) (r 3) (r 0) (r 8) (r 2) m) (tr (X9 (Xb (fun i r m=>Q1t G (Qj G i0) i (r 9) (r 1) (r 3) (r 0) (r 8) (r 2) m) (fun _ _=>rfl) (fun i1=>tr (tr seqD (seqQ (f:=fun r m=>Q4p G (Q1t G (Qj G i0) i1) (Qj G i0) (r 34) (r 0) (r 9) (r 1) (r 3) (r 8) (r 2) m)))))))))))))))))) m
def Qse:En:=⟨Q5o,Tryz.f461,Tryz.func461,by kernel_rfl,arg4 (fun G a0 a1 a2 a3 m=>Q5n G a1 a2 a3 a0 m),X1c Qsd⟩
end
end Go.Ab.Sh

set_option linter.unusedVariables false
set_option maxRecDepth 100000
namespace Go.Ab.Sh
open Go Go.Ab Go.Proofs
noncomputable section
def Qkq (G:Gt)(p5:V)(m:M):R:=some (p5,m)
def Q5d (G:Gt)(k0:J5)(p18 p17 p1 p0 p5:V)(m:M):R:=bp (pur (bin .add true true .int p18 (.int .i64 1)) m) fun x0 m=>k0 x0 p17 p1 p0 p5 m
def Qkr (G:Gt)(k0:J5)(p18 p17 p1 p0 p5:V)(m:M):R:=bp (pur (X26 33 1 false p17 p18) m) fun x1 m=>bp (pur (bin .eql true true .int x1 (.int .i64 0)) m) fun x2 m=>brb x2 (Q5d G k0 p18 p17 p1 p0 p5 m) (bp (G.tab Q1m3 [p1,p18] m) fun x3 m=>bp (pur (X5 x3 0) m) fun x4 m=>bp (pur (X5 x3 1) m) fun x5 m=>bp (some (aNew Qu Q1g m)) fun x6 m=>bp (unt (X8 2 x6 x4 m)) fun _ m=>bp (pur (X7 p0) m) fun x7 m=>bp (pur (X0 0 x7) m) fun x8 m=>bp (pur (X4 false 1 x8 m) m) fun x9 m=>bp (pur (X4 true 2 x6 m) m) fun x10 m=>bp (pur (Xh (.struct [(0,1,false,.int),(1,1,false,.int)]) (.slice none 0 0) true x9 x10 m) m) fun x11 m=>bp (pur (X5 x11 0) m) fun x12 m=>bp (pur (X5 x11 1) m) fun x13 m=>brb x13 (bp (pur (X4 true 2 x6 m) m) fun x14 m=>bp (Xa Qu Q1g 2 1 [(0,x14)] m) fun x15 m=>bp (apS Qu 2 16 p5 x15 m) fun x16 m=>Q5d G k0 p18 p17 p1 p0 x16 m) (Q5d G k0 p18 p17 p1 p0 p5 m))
def Qks (G:Gt)(k0:J5)(p19 p18 p17 p1 p0 p5:V)(m:M):R:=brb p19 (Qkr G k0 p18 p17 p1 p0 p5 m) (Qkq G p5 m)
def Q2h (G:Gt):Nat→V→V→V→V→V→M→R
 | 0,_,_,_,_,_,_=>none
 | i + 1,p18,p17,p1,p0,p5,m=>bp (pur (bin .lss true true .int p18 (.int .i64 33)) m) fun x17 m=>Qks G (Q2h G i) x17 p18 p17 p1 p0 p5 m
def Qkt (G:Gt)(p18 p17 p1 p0 p5:V)(m:M):R:=Q2h G G.rds p18 p17 p1 p0 p5 m
def Qku (G:Gt)(p0 p1 p5:V)(m:M):R:=bp (pur (X7 p0) m) fun x18 m=>bp (pur (X0 1 x18) m) fun x19 m=>bp (pur (X4 true 33 x19 m) m) fun x20 m=>Qkt G (.int .i64 0) x20 p1 p0 p5 m
def Qkv (G:Gt)(p0 p1 p5:V)(m:M):R:=bp (pur (binP m .eql true true .ptr p0 (.pointer none)) m) fun x21 m=>brb x21 (some ((.slice none 0 0),m)) (Qku G p0 p1 p5 m)
def Qkw (G:Gt)(p0 p1:V)(m:M):R:=Qkv G p0 p1 (.slice none 0 0) m
def Qdc (G:Gt)(p0 p1:V)(m:M):R:=Qkw G p0 p1 m
theorem Q1dt (G:Gt)(a0 a1:V)(m:M):ef G Tryz.f468 [a0,a1] m = Qdc G a0 a1 m:=X6 (r:=fun r m=>Qdc G (r 0) (r 1) m) rfl rfl (tr (seqQ (f:=fun r m=>Qkw G (r 0) (r 1) m) (tr (seqQ (f:=fun r m=>Qkv G (r 0) (r 1) (r 5) m) (tr (seqQ (f:=fun r m=>Qku G (r 0) (r 1) (r 5) m) (tr (tr (seqQ (f:=fun r m=>Qkq G (r 5) m)) (seqQ (f:=fun r m=>Qkt G (r 18) (r 17) (r 1) (r 0) (r 5) m) (tr (X9 (Xb (fun i r m=>Q2h G i (r 18) (r 17) (r 1) (r 0) (r 5) m) (fun _ _=>rfl) (fun i0=>tr (seqQ (f:=fun r m=>Qks G (Q2h G i0) (r 19) (r 18) (r 17) (r 1) (r 0) (r 5) m) (tr (seqQ (f:=fun r m=>Qkr G (Q2h G i0) (r 18) (r 17) (r 1) (r 0) (r 5) m) (tr (seqQ (f:=fun r m=>Q5d G (Q2h G i0) (r 18) (r 17) (r 1) (r 0) (r 5) m))))))))))))))))))) m
def Q1du:En:=⟨Qmt,Tryz.f468,Tryz.func468,by kernel_rfl,arg2 Qdc,Xg Q1dt⟩
def Q78 (G:Gt)(p0:V)(m:M):R:=bp (pur (bin .eql true true .slice p0 (.slice none 0 0)) m) fun x0 m=>brb x0 (some ((.slice none 0 0),m)) (bp (Xa Q1e Q1x 9 0 [] m) fun x1 m=>bp (apS Q1e 9 72 x1 p0 m) fun x2 m=>some (x2,m))
theorem Qyw (G:Gt)(a0:V)(m:M):ef G Tryz.f469 [a0] m = Q78 G a0 m:=X6 (r:=fun r m=>Q78 G (r 0) m) rfl rfl (fun r m=>by kernel_rfl) m
def Qyx:En:=⟨Qfv,Tryz.f469,Tryz.func469,by kernel_rfl,arg1 Q78,Xl Qyw⟩
def Q64 (G:Gt)(p0 p1:V)(m:M):R:=bp (pur (lenK 1 p0 m) m) fun x0 m=>bp (conv (.int .u64) x0 m) fun x1 m=>bp (G.tab Q9n [x1] m) fun x2 m=>bp (G.tab Q4y [p0,(.int .i64 0),x0,x2,p1] m) fun x3 m=>some (.tuple ⟨[]⟩,m)
theorem Qtr (G:Gt)(a0 a1:V)(m:M):ef G Tryz.f470 [a0,a1] m = Q64 G a0 a1 m:=X6 (r:=fun r m=>Q64 G (r 0) (r 1) m) rfl rfl (fun r m=>by kernel_rfl) m
def Qts:En:=⟨Qe1,Tryz.f470,Tryz.func470,by kernel_rfl,arg2 Q64,Xg Qtr⟩
def Qdj (G:Gt)(p0:V)(m:M):R:=some (p0,m)
def Qdk (G:Gt)(p0 p3:V)(m:M):R:=bp (pur (X12 9 p0 (some p3) none) m) fun x0 m=>bp (unt (X7e Q1x 9 x0 m)) fun _ m=>bp (pur (X12 9 p0 none (some p3)) m) fun x1 m=>some (x1,m)
def Q54 (G:Gt)(k1:J4)(p5 p4 p0 p3:V)(m:M):R:=bp (pur (bin .add true true .int p5 (.int .i64 1)) m) fun x2 m=>k1 x2 p4 p0 p3 m
def Qcr (G:Gt)(k1:J4)(p4 p5 p0 p3:V)(m:M):R:=bp (pur (X3 9 p4 p5) m) fun x3 m=>bp (pur (X4 true 9 x3 m) m) fun x4 m=>bp (pur (bin .sub true true .int p5 (.int .i64 1)) m) fun x5 m=>bp (pur (X3 9 p4 x5) m) fun x6 m=>bp (pur (X4 true 9 x6 m) m) fun x7 m=>bp (pur (bin .neq false true (.struct [(0,2,true,(.struct [(0,1,false,.int),(1,1,false,.int)])),(2,1,false,.int),(3,1,false,.int),(4,1,false,.int),(5,1,false,.int),(6,1,false,.str),(7,1,false,.int),(8,1,false,.bool)]) x4 x7) m) fun x8 m=>brb x8 (bp (pur (X3 9 p4 p5) m) fun x9 m=>bp (pur (X4 true 9 x9 m) m) fun x10 m=>bp (pur (X3 9 p0 p3) m) fun x11 m=>bp (unt (X8 9 x11 x10 m)) fun _ m=>bp (pur (bin .add true true .int p3 (.int .i64 1)) m) fun x12 m=>Q54 G k1 p5 p4 p0 x12 m) (Q54 G k1 p5 p4 p0 p3 m)
def Q21 (G:Gt):Nat→V→V→V→V→M→R
 | 0,_,_,_,_,_=>none
 | i + 1,p5,p4,p0,p3,m=>bp (pur (lenK 1 p4 m) m) fun x13 m=>bp (pur (bin .lss false true .int p5 x13) m) fun x14 m=>brb x14 (Qcr G (Q21 G i) p4 p5 p0 p3 m) (Qdk G p0 p3 m)
def Qdl (G:Gt)(p5 p4 p0 p3:V)(m:M):R:=Q21 G G.rds p5 p4 p0 p3 m
def Qdm (G:Gt)(p4 p0 p3:V)(m:M):R:=Qdl G (.int .i64 1) p4 p0 p3 m
def Qdn (G:Gt)(k0:J2)(p25 p0 p3:V)(m:M):R:=brb p25 (bp (pur (X12 9 p0 (some p3) none) m) fun x15 m=>Qdm G x15 p0 p3 m) (bp (pur (bin .add true true .int p3 (.int .i64 1)) m) fun x16 m=>k0 x16 p0 m)
def Qdo (G:Gt)(k0:J2)(p0 p3:V)(m:M):R:=bp (pur (X3 9 p0 p3) m) fun x17 m=>bp (pur (X4 true 9 x17 m) m) fun x18 m=>bp (pur (bin .sub true true .int p3 (.int .i64 1)) m) fun x19 m=>bp (pur (X3 9 p0 x19) m) fun x20 m=>bp (pur (X4 true 9 x20 m) m) fun x21 m=>bp (pur (bin .eql false true (.struct [(0,2,true,(.struct [(0,1,false,.int),(1,1,false,.int)])),(2,1,false,.int),(3,1,false,.int),(4,1,false,.int),(5,1,false,.int),(6,1,false,.str),(7,1,false,.int),(8,1,false,.bool)]) x18 x21) m) fun x22 m=>Qdn G k0 x22 p0 p3 m
def Q29 (G:Gt):Nat→V→V→M→R
 | 0,_,_,_=>none
 | i + 1,p3,p0,m=>bp (pur (lenK 1 p0 m) m) fun x23 m=>bp (pur (bin .lss false true .int p3 x23) m) fun x24 m=>brb x24 (Qdo G (Q29 G i) p0 p3 m) (Qdj G p0 m)
def Qdp (G:Gt)(p3 p0:V)(m:M):R:=Q29 G G.rds p3 p0 m
def Qdq (G:Gt)(p0:V)(m:M):R:=Qdp G (.int .i64 1) p0 m
def Qdr (G:Gt)(p0:V)(m:M):R:=bp (pur (lenK 1 p0 m) m) fun x25 m=>bp (pur (bin .lss true true .int x25 (.int .i64 2)) m) fun x26 m=>brb x26 (some (p0,m)) (Qdq G p0 m)
def Q6k (G:Gt)(p0:V)(m:M):R:=Qdr G p0 m
theorem Qvl (G:Gt)(a0:V)(m:M):ef G Tryz.f472 [a0] m = Q6k G a0 m:=X6 (r:=fun r m=>Q6k G (r 0) m) rfl rfl (tr (seqQ (f:=fun r m=>Qdr G (r 0) m) (tr (seqQ (f:=fun r m=>Qdq G (r 0) m) (tr (tr (seqQ (f:=fun r m=>Qdj G (r 0) m)) (seqQ (f:=fun r m=>Qdp G (r 3) (r 0) m) (tr (X9 (Xb (fun i r m=>Q29 G i (r 3) (r 0) m) (fun _ _=>rfl) (fun i0=>tr (seqQ (f:=fun r m=>Qdo G (Q29 G i0) (r 0) (r 3) m) (tr (tr seqD (X9 (seqQ (f:=fun r m=>Qdn G (Q29 G i0) (r 25) (r 0) (r 3) m) (tr (X1s (seqQ (f:=fun r m=>Qdm G (r 4) (r 0) (r 3) m) (tr (tr (seqQ (f:=fun r m=>Qdk G (r 0) (r 3) m)) (seqQ (f:=fun r m=>Qdl G (r 5) (r 4) (r 0) (r 3) m) (tr (X9 (Xb (fun i r m=>Q21 G i (r 5) (r 4) (r 0) (r 3) m) (fun _ _=>rfl) (fun i1=>tr (seqQ (f:=fun r m=>Qcr G (Q21 G i1) (r 4) (r 5) (r 0) (r 3) m) (tr (seqQ (f:=fun r m=>Q54 G (Q21 G i1) (r 5) (r 4) (r 0) (r 3) m)))))))))))) (refQ))))))))))))))))))) m
def Qvm:En:=⟨Qey,Tryz.f472,Tryz.func472,by kernel_rfl,arg1 Q6k,Xl Qvl⟩
def Qe2 (G:Gt)(k0:J5)(p8 p2 p1 p3 p0:V)(m:M):R:=bp (pur (bin .add true true .int p8 (.int .i64 1)) m) fun x0 m=>k0 x0 p2 p1 p3 p0 m
def Q65 (G:Gt)(k1:J6)(k0:J5)(p34 p0 p9 p1 p3 p8 p2:V)(m:M):R:=brb p34 (bp (pur (bin .sub true true .int p9 (.int .i64 1)) m) fun x1 m=>bp (pur (bin .sub true true .int p9 (.int .i64 1)) m) fun x2 m=>bp (pur (X3 2 p0 x2) m) fun x3 m=>bp (pur (X4 true 2 x3 m) m) fun x4 m=>bp (pur (X3 2 p0 p9) m) fun x5 m=>bp (pur (X4 true 2 x5 m) m) fun x6 m=>bp (pur (X3 2 p0 p9) m) fun x7 m=>bp (unt (X8 2 x7 x4 m)) fun _ m=>bp (pur (X3 2 p0 x1) m) fun x8 m=>bp (unt (X8 2 x8 x6 m)) fun _ m=>bp (pur (bin .sub true true .int p9 (.int .i64 1)) m) fun x9 m=>k1 x9 p1 p3 p0 p8 p2 m) (Qe2 G k0 p8 p2 p1 p3 p0 m)
def Q2c (G:Gt)(k0:J5):Nat→V→V→V→V→V→V→M→R
 | 0,_,_,_,_,_,_,_=>none
 | i + 1,p9,p1,p3,p0,p8,p2,m=>bp (pur (bin .gtr false true .int p9 p1) m) fun x10 m=>brt x10 (bp (pur (X3 2 p0 p9) m) fun x11 m=>bp (pur (X4 true 2 x11 m) m) fun x12 m=>bp (pur (bin .sub true true .int p9 (.int .i64 1)) m) fun x13 m=>bp (pur (X3 2 p0 x13) m) fun x14 m=>bp (pur (X4 true 2 x14 m) m) fun x15 m=>bp (Xj G.tab p3 [x12,x15] m) fun x16 m=>bp (pur (bin .lss true true .int x16 (.int .i64 0)) m) fun x17 m=>Q65 G (Q2c G k0 i) k0 x17 p0 p9 p1 p3 p8 p2 m) (Q65 G (Q2c G k0 i) k0 (.bool false) p0 p9 p1 p3 p8 p2 m) (none)
def Qe3 (G:Gt)(k0:J5)(p9 p1 p3 p0 p8 p2:V)(m:M):R:=Q2c G k0 G.rds p9 p1 p3 p0 p8 p2 m
def Qe4 (G:Gt)(k0:J5)(p8 p1 p3 p0 p2:V)(m:M):R:=Qe3 G k0 p8 p1 p3 p0 p8 p2 m
def Qt (G:Gt):Nat→V→V→V→V→V→M→R
 | 0,_,_,_,_,_,_=>none
 | i + 1,p8,p2,p1,p3,p0,m=>bp (pur (bin .lss false true .int p8 p2) m) fun x18 m=>brb x18 (Qe4 G (Qt G i) p8 p1 p3 p0 p2 m) (some (.tuple ⟨[]⟩,m))
def Qe5 (G:Gt)(p8 p2 p1 p3 p0:V)(m:M):R:=Qt G G.rds p8 p2 p1 p3 p0 m
def Q6v (G:Gt)(p1 p2 p3 p0:V)(m:M):R:=bp (pur (bin .add true true .int p1 (.int .i64 1)) m) fun x19 m=>Qe5 G x19 p2 p1 p3 p0 m
theorem Qwe (G:Gt)(a0 a1 a2 a3:V)(m:M):ef G Tryz.f473 [a0,a1,a2,a3] m = Q6v G a1 a2 a3 a0 m:=X6 (r:=fun r m=>Q6v G (r 1) (r 2) (r 3) (r 0) m) rfl rfl (tr (seqQ (f:=fun r m=>Qe5 G (r 8) (r 2) (r 1) (r 3) (r 0) m) (tr (X9 (Xb (fun i r m=>Qt G i (r 8) (r 2) (r 1) (r 3) (r 0) m) (fun _ _=>rfl) (fun i0=>tr (seqQ (f:=fun r m=>Qe4 G (Qt G i0) (r 8) (r 1) (r 3) (r 0) (r 2) m) (tr (tr (seqQ (f:=fun r m=>Qe2 G (Qt G i0) (r 8) (r 2) (r 1) (r 3) (r 0) m)) (X9 (seqQ (f:=fun r m=>Qe3 G (Qt G i0) (r 9) (r 1) (r 3) (r 0) (r 8) (r 2) m) (tr (X9 (Xb (fun i r m=>Q2c G (Qt G i0) i (r 9) (r 1) (r 3) (r 0) (r 8) (r 2) m) (fun _ _=>rfl) (fun i1=>tr (tr seqD (seqQ (f:=fun r m=>Q65 G (Q2c G (Qt G i0) i1) (Qt G i0) (r 34) (r 0) (r 9) (r 1) (r 3) (r 8) (r 2) m)))))))))))))))))) m
def Qwf:En:=⟨Qfi,Tryz.f473,Tryz.func473,by kernel_rfl,arg4 (fun G a0 a1 a2 a3 m=>Q6v G a1 a2 a3 a0 m),X1c Qwe⟩
def Qh2 (G:Gt)(p0 p2 p1 p3:V)(m:M):R:=bp (pur (X3 1 p0 p2) m) fun x0 m=>bp (pur (X4 false 1 x0 m) m) fun x1 m=>bp (pur (X3 1 p0 p1) m) fun x2 m=>bp (pur (X4 false 1 x2 m) m) fun x3 m=>bp (G.tab Q2n [x1,x3] m) fun x4 m=>brb x4 (bp (pur (X7 p3) m) fun x5 m=>bp (pur (X4 false 1 x5 m) m) fun x6 m=>bp (pur (bin .add true true .int x6 (.int .i64 1)) m) fun x7 m=>bp (pur (X7 p3) m) fun x8 m=>bp (unt (X8 1 x8 x7 m)) fun _ m=>some (.tuple ⟨[p2,p1]⟩,m)) (some (.tuple ⟨[p1,p2]⟩,m))
theorem Q1ki (G:Gt)(a0 a1 a2 a3:V)(m:M):ef G Tryz.f481 [a0,a1,a2,a3] m = Qh2 G a0 a2 a1 a3 m:=X6 (r:=fun r m=>Qh2 G (r 0) (r 2) (r 1) (r 3) m) rfl rfl (fun r m=>by kernel_rfl) m
def Q1kj:En:=⟨Q9o,Tryz.f481,Tryz.func481,by kernel_rfl,arg4 (fun G a0 a1 a2 a3 m=>Qh2 G a0 a2 a1 a3 m),X1c Q1ki⟩
end
end Go.Ab.Sh
