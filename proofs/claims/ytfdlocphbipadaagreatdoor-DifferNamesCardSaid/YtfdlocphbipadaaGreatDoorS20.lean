/-
  Functions of the program as plain definitions. No conditions.
-/
import Derived.Test.YtfdlocphbipadaaGreatDoorAb5
import Derived.Test.YtfdlocphbipadaaGreatDoorZ
import Derived.KernelRfl
import Derived.Test.YtfdlocphbipadaaGreatDoorProg
set_option linter.unusedVariables false
set_option maxRecDepth 100000
namespace Go.Ab.Sh
open Go Go.Ab Go.Proofs
noncomputable section
def Q8h (G:Gt)(k0:J4)(p6 p1 p0 p2:V)(m:M):R:=bp (pur (bin .mul true true .int p6 (.int .i64 2)) m) fun x0 m=>k0 x0 p1 p0 p2 m
def Qi1 (G:Gt)(k0:J4)(p7 p6 p1 p0 p2:V)(m:M):R:=bp (pur (bin .add false true .int p7 p6) m) fun x1 m=>bp (pur (bin .lss false true .int x1 p1) m) fun x2 m=>brb x2 (bp (G.tab Qhc [p0,p7,x1,p1,p2] m) fun x3 m=>Q8h G k0 p6 p1 p0 p2 m) (Q8h G k0 p6 p1 p0 p2 m)
def Q8i (G:Gt)(k0:J4):Nat→V→V→V→V→V→V→M→R
 | 0,_,_,_,_,_,_,_=>none
 | i + 1,p8,p1,p0,p7,p6,p2,m=>bp (pur (bin .leq false true .int p8 p1) m) fun x4 m=>brb x4 (bp (pur (bin .add false true .int p7 p6) m) fun x5 m=>bp (G.tab Qhc [p0,p7,x5,p8,p2] m) fun x6 m=>bp (pur (bin .mul true true .int (.int .i64 2) p6) m) fun x7 m=>bp (pur (bin .add false true .int p8 x7) m) fun x8 m=>(Q8i G k0 i) x8 p1 p0 p8 p6 p2 m) (Qi1 G k0 p7 p6 p1 p0 p2 m)
def Qi2 (G:Gt)(k0:J4)(p8 p1 p0 p7 p6 p2:V)(m:M):R:=Q8i G k0 G.rds p8 p1 p0 p7 p6 p2 m
def Qi3 (G:Gt)(k0:J4)(p6 p1 p0 p2:V)(m:M):R:=bp (pur (bin .mul true true .int (.int .i64 2) p6) m) fun x9 m=>Qi2 G k0 x9 p1 p0 (.int .i64 0) p6 p2 m
def Q1a (G:Gt):Nat→V→V→V→V→M→R
 | 0,_,_,_,_,_=>none
 | i + 1,p6,p1,p0,p2,m=>bp (pur (bin .lss false true .int p6 p1) m) fun x10 m=>brb x10 (Qi3 G (Q1a G i) p6 p1 p0 p2 m) (some (.tuple ⟨[]⟩,m))
def Qi4 (G:Gt)(p6 p1 p0 p2:V)(m:M):R:=Q1a G G.rds p6 p1 p0 p2 m
def Qi5 (G:Gt)(p0 p7 p1 p2 p6:V)(m:M):R:=bp (G.tab Q5o [p0,p7,p1,p2] m) fun x11 m=>Qi4 G p6 p1 p0 p2 m
def Q7e (G:Gt):Nat→V→V→V→V→V→V→M→R
 | 0,_,_,_,_,_,_,_=>none
 | i + 1,p8,p1,p0,p7,p2,p6,m=>bp (pur (bin .leq false true .int p8 p1) m) fun x12 m=>brb x12 (bp (G.tab Q5o [p0,p7,p8,p2] m) fun x13 m=>bp (pur (bin .add false true .int p8 p6) m) fun x14 m=>(Q7e G i) x14 p1 p0 p8 p2 p6 m) (Qi5 G p0 p7 p1 p2 p6 m)
def Qi6 (G:Gt)(p8 p1 p0 p7 p2 p6:V)(m:M):R:=Q7e G G.rds p8 p1 p0 p7 p2 p6 m
def Qi7 (G:Gt)(p6 p1 p0 p2:V)(m:M):R:=Qi6 G p6 p1 p0 (.int .i64 0) p2 p6 m
def Q9h (G:Gt)(p1 p0 p2:V)(m:M):R:=Qi7 G (.int .i64 20) p1 p0 p2 m
theorem Q15q (G:Gt)(a0 a1 a2:V)(m:M):ef G Tryz.f389 [a0,a1,a2] m = Q9h G a1 a0 a2 m:=X6 (r:=fun r m=>Q9h G (r 1) (r 0) (r 2) m) rfl rfl (tr (seqQ (f:=fun r m=>Qi7 G (r 6) (r 1) (r 0) (r 2) m) (tr (seqQ (f:=fun r m=>Qi6 G (r 8) (r 1) (r 0) (r 7) (r 2) (r 6) m) (tr (tr (seqQ (f:=fun r m=>Qi5 G (r 0) (r 7) (r 1) (r 2) (r 6) m) (tr (seqQ (f:=fun r m=>Qi4 G (r 6) (r 1) (r 0) (r 2) m) (tr (X9 (Xb (fun i r m=>Q1a G i (r 6) (r 1) (r 0) (r 2) m) (fun _ _=>rfl) (fun i0=>tr (seqQ (f:=fun r m=>Qi3 G (Q1a G i0) (r 6) (r 1) (r 0) (r 2) m) (tr (X9 (seqQ (f:=fun r m=>Qi2 G (Q1a G i0) (r 8) (r 1) (r 0) (r 7) (r 6) (r 2) m) (tr (tr (seqQ (f:=fun r m=>Qi1 G (Q1a G i0) (r 7) (r 6) (r 1) (r 0) (r 2) m) (tr (seqQ (f:=fun r m=>Q8h G (Q1a G i0) (r 6) (r 1) (r 0) (r 2) m)))) (X9 (Xb (fun i r m=>Q8i G (Q1a G i0) i (r 8) (r 1) (r 0) (r 7) (r 6) (r 2) m) (fun _ _=>rfl) (fun i1=>fun r m=>by kernel_rfl)))))))))))))))) (X9 (Xb (fun i r m=>Q7e G i (r 8) (r 1) (r 0) (r 7) (r 2) (r 6) m) (fun _ _=>rfl) (fun i0=>fun r m=>by kernel_rfl))))))))) m
def Q15p:En:=⟨Qj0,Tryz.f389,Tryz.func389,by kernel_rfl,arg3 (fun G a0 a1 a2 m=>Q9h G a1 a0 a2 m),Xr Q15q⟩
def Qbt (G:Gt)(k0:J5)(p8 p2 p1 p3 p0:V)(m:M):R:=bp (pur (bin .add true true .int p8 (.int .i64 1)) m) fun x0 m=>k0 x0 p2 p1 p3 p0 m
def Q4s (G:Gt)(k1:J6)(k0:J5)(p34 p0 p9 p1 p3 p8 p2:V)(m:M):R:=brb p34 (bp (pur (bin .sub true true .int p9 (.int .i64 1)) m) fun x1 m=>bp (pur (bin .sub true true .int p9 (.int .i64 1)) m) fun x2 m=>bp (pur (X3 7 p0 x2) m) fun x3 m=>bp (pur (X4 true 7 x3 m) m) fun x4 m=>bp (pur (X3 7 p0 p9) m) fun x5 m=>bp (pur (X4 true 7 x5 m) m) fun x6 m=>bp (pur (X3 7 p0 p9) m) fun x7 m=>bp (unt (X8 7 x7 x4 m)) fun _ m=>bp (pur (X3 7 p0 x1) m) fun x8 m=>bp (unt (X8 7 x8 x6 m)) fun _ m=>bp (pur (bin .sub true true .int p9 (.int .i64 1)) m) fun x9 m=>k1 x9 p1 p3 p0 p8 p2 m) (Qbt G k0 p8 p2 p1 p3 p0 m)
def Q1u (G:Gt)(k0:J5):Nat→V→V→V→V→V→V→M→R
 | 0,_,_,_,_,_,_,_=>none
 | i + 1,p9,p1,p3,p0,p8,p2,m=>bp (pur (bin .gtr false true .int p9 p1) m) fun x10 m=>brt x10 (bp (pur (X3 7 p0 p9) m) fun x11 m=>bp (pur (X4 true 7 x11 m) m) fun x12 m=>bp (pur (bin .sub true true .int p9 (.int .i64 1)) m) fun x13 m=>bp (pur (X3 7 p0 x13) m) fun x14 m=>bp (pur (X4 true 7 x14 m) m) fun x15 m=>bp (Xj G.tab p3 [x12,x15] m) fun x16 m=>bp (pur (bin .lss true true .int x16 (.int .i64 0)) m) fun x17 m=>Q4s G (Q1u G k0 i) k0 x17 p0 p9 p1 p3 p8 p2 m) (Q4s G (Q1u G k0 i) k0 (.bool false) p0 p9 p1 p3 p8 p2 m) (none)
def Qbu (G:Gt)(k0:J5)(p9 p1 p3 p0 p8 p2:V)(m:M):R:=Q1u G k0 G.rds p9 p1 p3 p0 p8 p2 m
def Qbv (G:Gt)(k0:J5)(p8 p1 p3 p0 p2:V)(m:M):R:=Qbu G k0 p8 p1 p3 p0 p8 p2 m
def Qk (G:Gt):Nat→V→V→V→V→V→M→R
 | 0,_,_,_,_,_,_=>none
 | i + 1,p8,p2,p1,p3,p0,m=>bp (pur (bin .lss false true .int p8 p2) m) fun x18 m=>brb x18 (Qbv G (Qk G i) p8 p1 p3 p0 p2 m) (some (.tuple ⟨[]⟩,m))
def Qbw (G:Gt)(p8 p2 p1 p3 p0:V)(m:M):R:=Qk G G.rds p8 p2 p1 p3 p0 m
def Q5s (G:Gt)(p1 p2 p3 p0:V)(m:M):R:=bp (pur (bin .add true true .int p1 (.int .i64 1)) m) fun x19 m=>Qbw G x19 p2 p1 p3 p0 m
theorem Qsp (G:Gt)(a0 a1 a2 a3:V)(m:M):ef G Tryz.f390 [a0,a1,a2,a3] m = Q5s G a1 a2 a3 a0 m:=X6 (r:=fun r m=>Q5s G (r 1) (r 2) (r 3) (r 0) m) rfl rfl (tr (seqQ (f:=fun r m=>Qbw G (r 8) (r 2) (r 1) (r 3) (r 0) m) (tr (X9 (Xb (fun i r m=>Qk G i (r 8) (r 2) (r 1) (r 3) (r 0) m) (fun _ _=>rfl) (fun i0=>tr (seqQ (f:=fun r m=>Qbv G (Qk G i0) (r 8) (r 1) (r 3) (r 0) (r 2) m) (tr (tr (seqQ (f:=fun r m=>Qbt G (Qk G i0) (r 8) (r 2) (r 1) (r 3) (r 0) m)) (X9 (seqQ (f:=fun r m=>Qbu G (Qk G i0) (r 9) (r 1) (r 3) (r 0) (r 8) (r 2) m) (tr (X9 (Xb (fun i r m=>Q1u G (Qk G i0) i (r 9) (r 1) (r 3) (r 0) (r 8) (r 2) m) (fun _ _=>rfl) (fun i1=>tr (tr seqD (seqQ (f:=fun r m=>Q4s G (Q1u G (Qk G i0) i1) (Qk G i0) (r 34) (r 0) (r 9) (r 1) (r 3) (r 8) (r 2) m)))))))))))))))))) m
def Qso:En:=⟨Q5i,Tryz.f390,Tryz.func390,by kernel_rfl,arg4 (fun G a0 a1 a2 a3 m=>Q5s G a1 a2 a3 a0 m),X1c Qsp⟩
def Qrn (G:Gt)(p0:V)(m:M):R:=bp (pur (bin .neq false true .int p0 p0) m) fun x0 m=>some (x0,m)
theorem Q1ur (G:Gt)(a0:V)(m:M):ef G Tryz.f392 [a0] m = Qrn G a0 m:=X6 (r:=fun r m=>Qrn G (r 0) m) rfl rfl (fun r m=>by kernel_rfl) m
def Q1uq:En:=⟨Qqj,Tryz.f392,Tryz.func392,by kernel_rfl,arg1 Qrn,Xl Q1ur⟩
def Qbx (G:Gt)(k0:J5)(p8 p2 p1 p3 p0:V)(m:M):R:=bp (pur (bin .add true true .int p8 (.int .i64 1)) m) fun x0 m=>k0 x0 p2 p1 p3 p0 m
def Q4t (G:Gt)(k1:J6)(k0:J5)(p34 p0 p9 p1 p3 p8 p2:V)(m:M):R:=brb p34 (bp (pur (bin .sub true true .int p9 (.int .i64 1)) m) fun x1 m=>bp (pur (bin .sub true true .int p9 (.int .i64 1)) m) fun x2 m=>bp (pur (X3 12 p0 x2) m) fun x3 m=>bp (pur (X4 true 12 x3 m) m) fun x4 m=>bp (pur (X3 12 p0 p9) m) fun x5 m=>bp (pur (X4 true 12 x5 m) m) fun x6 m=>bp (pur (X3 12 p0 p9) m) fun x7 m=>bp (unt (X8 12 x7 x4 m)) fun _ m=>bp (pur (X3 12 p0 x1) m) fun x8 m=>bp (unt (X8 12 x8 x6 m)) fun _ m=>bp (pur (bin .sub true true .int p9 (.int .i64 1)) m) fun x9 m=>k1 x9 p1 p3 p0 p8 p2 m) (Qbx G k0 p8 p2 p1 p3 p0 m)
def Q1v (G:Gt)(k0:J5):Nat→V→V→V→V→V→V→M→R
 | 0,_,_,_,_,_,_,_=>none
 | i + 1,p9,p1,p3,p0,p8,p2,m=>bp (pur (bin .gtr false true .int p9 p1) m) fun x10 m=>brt x10 (bp (pur (X3 12 p0 p9) m) fun x11 m=>bp (pur (X4 true 12 x11 m) m) fun x12 m=>bp (pur (bin .sub true true .int p9 (.int .i64 1)) m) fun x13 m=>bp (pur (X3 12 p0 x13) m) fun x14 m=>bp (pur (X4 true 12 x14 m) m) fun x15 m=>bp (Xj G.tab p3 [x12,x15] m) fun x16 m=>bp (pur (bin .lss true true .int x16 (.int .i64 0)) m) fun x17 m=>Q4t G (Q1v G k0 i) k0 x17 p0 p9 p1 p3 p8 p2 m) (Q4t G (Q1v G k0 i) k0 (.bool false) p0 p9 p1 p3 p8 p2 m) (none)
def Qby (G:Gt)(k0:J5)(p9 p1 p3 p0 p8 p2:V)(m:M):R:=Q1v G k0 G.rds p9 p1 p3 p0 p8 p2 m
def Qbz (G:Gt)(k0:J5)(p8 p1 p3 p0 p2:V)(m:M):R:=Qby G k0 p8 p1 p3 p0 p8 p2 m
def Ql (G:Gt):Nat→V→V→V→V→V→M→R
 | 0,_,_,_,_,_,_=>none
 | i + 1,p8,p2,p1,p3,p0,m=>bp (pur (bin .lss false true .int p8 p2) m) fun x18 m=>brb x18 (Qbz G (Ql G i) p8 p1 p3 p0 p2 m) (some (.tuple ⟨[]⟩,m))
def Qc0 (G:Gt)(p8 p2 p1 p3 p0:V)(m:M):R:=Ql G G.rds p8 p2 p1 p3 p0 m
def Q5t (G:Gt)(p1 p2 p3 p0:V)(m:M):R:=bp (pur (bin .add true true .int p1 (.int .i64 1)) m) fun x19 m=>Qc0 G x19 p2 p1 p3 p0 m
theorem Qsq (G:Gt)(a0 a1 a2 a3:V)(m:M):ef G Tryz.f393 [a0,a1,a2,a3] m = Q5t G a1 a2 a3 a0 m:=X6 (r:=fun r m=>Q5t G (r 1) (r 2) (r 3) (r 0) m) rfl rfl (tr (seqQ (f:=fun r m=>Qc0 G (r 8) (r 2) (r 1) (r 3) (r 0) m) (tr (X9 (Xb (fun i r m=>Ql G i (r 8) (r 2) (r 1) (r 3) (r 0) m) (fun _ _=>rfl) (fun i0=>tr (seqQ (f:=fun r m=>Qbz G (Ql G i0) (r 8) (r 1) (r 3) (r 0) (r 2) m) (tr (tr (seqQ (f:=fun r m=>Qbx G (Ql G i0) (r 8) (r 2) (r 1) (r 3) (r 0) m)) (X9 (seqQ (f:=fun r m=>Qby G (Ql G i0) (r 9) (r 1) (r 3) (r 0) (r 8) (r 2) m) (tr (X9 (Xb (fun i r m=>Q1v G (Ql G i0) i (r 9) (r 1) (r 3) (r 0) (r 8) (r 2) m) (fun _ _=>rfl) (fun i1=>tr (tr seqD (seqQ (f:=fun r m=>Q4t G (Q1v G (Ql G i0) i1) (Ql G i0) (r 34) (r 0) (r 9) (r 1) (r 3) (r 8) (r 2) m)))))))))))))))))) m
def Qsn:En:=⟨Q5j,Tryz.f393,Tryz.func393,by kernel_rfl,arg4 (fun G a0 a1 a2 a3 m=>Q5t G a1 a2 a3 a0 m),X1c Qsq⟩
def Q1h0 (G:Gt)(m:M):R:=some ((.bool false),m)
def Quj (G:Gt):Nat→V→V→V→M→R
 | 0,_,_,_,_=>none
 | i + 1,p5,p0,p1,m=>bp (pur (lenK 1 p0 m) m) fun x0 m=>bp (pur (bin .lss false true .int p5 x0) m) fun x1 m=>brb x1 (bp (pur (X3 1 p0 p5) m) fun x2 m=>bp (pur (X4 false 1 x2 m) m) fun x3 m=>bp (pur (bin .eql false true .str x3 p1) m) fun x4 m=>brb x4 (some ((.bool true),m)) (bp (pur (bin .add true true .int p5 (.int .i64 1)) m) fun x5 m=>(Quj G i) x5 p0 p1 m)) (Q1h0 G m)
def Q1h1 (G:Gt)(p5 p0 p1:V)(m:M):R:=Quj G G.rds p5 p0 p1 m
def Q1h2 (G:Gt)(p0 p1:V)(m:M):R:=Q1h1 G (.int .i64 0) p0 p1 m
def Q11s (G:Gt)(p0 p1:V)(m:M):R:=Q1h2 G p0 p1 m
theorem Q23c (G:Gt)(a0 a1:V)(m:M):ef G Tryz.f396 [a0,a1] m = Q11s G a0 a1 m:=X6 (r:=fun r m=>Q11s G (r 0) (r 1) m) rfl rfl (tr (seqQ (f:=fun r m=>Q1h2 G (r 0) (r 1) m) (tr (tr (seqQ (f:=fun r m=>Q1h0 G m)) (seqQ (f:=fun r m=>Q1h1 G (r 5) (r 0) (r 1) m) (tr (X9 (Xb (fun i r m=>Quj G i (r 5) (r 0) (r 1) m) (fun _ _=>rfl) (fun i0=>fun r m=>by kernel_rfl))))))))) m
def Q23a:En:=⟨Qo4,Tryz.f396,Tryz.func396,by kernel_rfl,arg2 Q11s,Xg Q23c⟩
def Qc1 (G:Gt)(k0:J5)(p8 p2 p1 p3 p0:V)(m:M):R:=bp (pur (bin .add true true .int p8 (.int .i64 1)) m) fun x0 m=>k0 x0 p2 p1 p3 p0 m
def Q4u (G:Gt)(k1:J6)(k0:J5)(p34 p0 p9 p1 p3 p8 p2:V)(m:M):R:=brb p34 (bp (pur (bin .sub true true .int p9 (.int .i64 1)) m) fun x1 m=>bp (pur (bin .sub true true .int p9 (.int .i64 1)) m) fun x2 m=>bp (pur (X3 2 p0 x2) m) fun x3 m=>bp (pur (X4 true 2 x3 m) m) fun x4 m=>bp (pur (X3 2 p0 p9) m) fun x5 m=>bp (pur (X4 true 2 x5 m) m) fun x6 m=>bp (pur (X3 2 p0 p9) m) fun x7 m=>bp (unt (X8 2 x7 x4 m)) fun _ m=>bp (pur (X3 2 p0 x1) m) fun x8 m=>bp (unt (X8 2 x8 x6 m)) fun _ m=>bp (pur (bin .sub true true .int p9 (.int .i64 1)) m) fun x9 m=>k1 x9 p1 p3 p0 p8 p2 m) (Qc1 G k0 p8 p2 p1 p3 p0 m)
def Q1w (G:Gt)(k0:J5):Nat→V→V→V→V→V→V→M→R
 | 0,_,_,_,_,_,_,_=>none
 | i + 1,p9,p1,p3,p0,p8,p2,m=>bp (pur (bin .gtr false true .int p9 p1) m) fun x10 m=>brt x10 (bp (pur (X3 2 p0 p9) m) fun x11 m=>bp (pur (X4 true 2 x11 m) m) fun x12 m=>bp (pur (bin .sub true true .int p9 (.int .i64 1)) m) fun x13 m=>bp (pur (X3 2 p0 x13) m) fun x14 m=>bp (pur (X4 true 2 x14 m) m) fun x15 m=>bp (Xj G.tab p3 [x12,x15] m) fun x16 m=>bp (pur (bin .lss true true .int x16 (.int .i64 0)) m) fun x17 m=>Q4u G (Q1w G k0 i) k0 x17 p0 p9 p1 p3 p8 p2 m) (Q4u G (Q1w G k0 i) k0 (.bool false) p0 p9 p1 p3 p8 p2 m) (none)
def Qc2 (G:Gt)(k0:J5)(p9 p1 p3 p0 p8 p2:V)(m:M):R:=Q1w G k0 G.rds p9 p1 p3 p0 p8 p2 m
def Qc3 (G:Gt)(k0:J5)(p8 p1 p3 p0 p2:V)(m:M):R:=Qc2 G k0 p8 p1 p3 p0 p8 p2 m
def Qm (G:Gt):Nat→V→V→V→V→V→M→R
 | 0,_,_,_,_,_,_=>none
 | i + 1,p8,p2,p1,p3,p0,m=>bp (pur (bin .lss false true .int p8 p2) m) fun x18 m=>brb x18 (Qc3 G (Qm G i) p8 p1 p3 p0 p2 m) (some (.tuple ⟨[]⟩,m))
def Qc4 (G:Gt)(p8 p2 p1 p3 p0:V)(m:M):R:=Qm G G.rds p8 p2 p1 p3 p0 m
def Q5u (G:Gt)(p1 p2 p3 p0:V)(m:M):R:=bp (pur (bin .add true true .int p1 (.int .i64 1)) m) fun x19 m=>Qc4 G x19 p2 p1 p3 p0 m
theorem Qsr (G:Gt)(a0 a1 a2 a3:V)(m:M):ef G Tryz.f399 [a0,a1,a2,a3] m = Q5u G a1 a2 a3 a0 m:=X6 (r:=fun r m=>Q5u G (r 1) (r 2) (r 3) (r 0) m) rfl rfl (tr (seqQ (f:=fun r m=>Qc4 G (r 8) (r 2) (r 1) (r 3) (r 0) m) (tr (X9 (Xb (fun i r m=>Qm G i (r 8) (r 2) (r 1) (r 3) (r 0) m) (fun _ _=>rfl) (fun i0=>tr (seqQ (f:=fun r m=>Qc3 G (Qm G i0) (r 8) (r 1) (r 3) (r 0) (r 2) m) (tr (tr (seqQ (f:=fun r m=>Qc1 G (Qm G i0) (r 8) (r 2) (r 1) (r 3) (r 0) m)) (X9 (seqQ (f:=fun r m=>Qc2 G (Qm G i0) (r 9) (r 1) (r 3) (r 0) (r 8) (r 2) m) (tr (X9 (Xb (fun i r m=>Q1w G (Qm G i0) i (r 9) (r 1) (r 3) (r 0) (r 8) (r 2) m) (fun _ _=>rfl) (fun i1=>tr (tr seqD (seqQ (f:=fun r m=>Q4u G (Q1w G (Qm G i0) i1) (Qm G i0) (r 34) (r 0) (r 9) (r 1) (r 3) (r 8) (r 2) m)))))))))))))))))) m
def Qsm:En:=⟨Qdt,Tryz.f399,Tryz.func399,by kernel_rfl,arg4 (fun G a0 a1 a2 a3 m=>Q5u G a1 a2 a3 a0 m),X1c Qsr⟩
def Qno (G:Gt)(m:M):R:=bp (some (Xo m)) fun x0 m=>bp (pur (Xe Q1o9 [(0,1),(1,33)] [(0,x0)]) m) fun x1 m=>bp (some (aNew Q1o8 (Value.cells x1).toList m)) fun x2 m=>some (x2,m)
theorem Q1qy (G:Gt)(m:M):ef G Tryz.f407 [] m = Qno G m:=X6 (r:=fun r m=>Qno G m) rfl rfl (fun r m=>by kernel_rfl) m
def Q1qv:En:=⟨Q13m,Tryz.f407,Tryz.func407,by kernel_rfl,arg0 (fun G  m=>Qno G m),Xar Q1qy⟩
def Qf7 (G:Gt)(p1 p0:V)(m:M):R:=bp (some (aNew Qu (Value.cells p1).toList m)) fun x0 m=>bp (pur (binP m .eql true true .ptr p0 (.pointer none)) m) fun x1 m=>brb x1 (some (.tuple ⟨[(.slice none 0 0),(.bool false)]⟩,m)) (bp (pur (X7 p0) m) fun x2 m=>bp (pur (X0 0 x2) m) fun x3 m=>bp (pur (X4 false 1 x3 m) m) fun x4 m=>bp (pur (X4 true 2 x0 m) m) fun x5 m=>bp (pur (Xh (.struct [(0,1,false,.int),(1,1,false,.int)]) (.slice none 0 0) true x4 x5 m) m) fun x6 m=>bp (pur (X5 x6 0) m) fun x7 m=>bp (pur (X5 x6 1) m) fun x8 m=>some (.tuple ⟨[x7,x8]⟩,m))
theorem Q1hl (G:Gt)(a0 a1:V)(m:M):ef G Tryz.f408 [a0,a1] m = Qf7 G a1 a0 m:=X6 (r:=fun r m=>Qf7 G (r 1) (r 0) m) rfl rfl (fun r m=>by kernel_rfl) m
def Q1hk:En:=⟨Qpu,Tryz.f408,Tryz.func408,by kernel_rfl,arg2 (fun G a0 a1 m=>Qf7 G a1 a0 m),Xg Q1hl⟩
end
end Go.Ab.Sh

set_option linter.unusedVariables false
set_option maxRecDepth 100000
namespace Go.Ab.Sh
open Go Go.Ab Go.Proofs
noncomputable section
def Qcj (G:Gt)(p0 p4 p2:V)(m:M):R:=bp (pur (X7 p0) m) fun x0 m=>bp (pur (X0 0 x0) m) fun x1 m=>bp (pur (X4 false 1 x1 m) m) fun x2 m=>bp (pur (X4 true 2 p4 m) m) fun x3 m=>bp (unt (Xd (.struct [(0,1,false,.int),(1,1,false,.int)]) x2 x3 p2 m)) fun _ m=>some ((.int .i64 0),m)
def Qme (G:Gt)(p0 p4 p2:V)(m:M):R:=bp (pur (X7 p0) m) fun x4 m=>bp (pur (X0 0 x4) m) fun x5 m=>bp (pur (X4 false 1 x5 m) m) fun x6 m=>bp (pur (X4 true 2 p4 m) m) fun x7 m=>bp (pur (Xh (.struct [(0,1,false,.int),(1,1,false,.int)]) (.slice none 0 0) true x6 x7 m) m) fun x8 m=>bp (pur (X5 x8 0) m) fun x9 m=>bp (pur (X5 x8 1) m) fun x10 m=>bp (pur (un .not x10) m) fun x11 m=>brb x11 (bp (pur (X0 1 p4) m) fun x12 m=>bp (pur (X4 false 1 x12 m) m) fun x13 m=>bp (pur (X7 p0) m) fun x14 m=>bp (pur (X0 1 x14) m) fun x15 m=>bp (pur (Xm 33 1 x15 x13) m) fun x16 m=>bp (pur (X4 false 1 x16 m) m) fun x17 m=>bp (pur (bin .add true true .int x17 (.int .i64 1)) m) fun x18 m=>bp (pur (X7 p0) m) fun x19 m=>bp (pur (X0 1 x19) m) fun x20 m=>bp (pur (Xm 33 1 x20 x13) m) fun x21 m=>bp (unt (X8 1 x21 x18 m)) fun _ m=>Qcj G p0 p4 p2 m) (Qcj G p0 p4 p2 m)
def Qmf (G:Gt)(p4 p0 p2:V)(m:M):R:=bp (pur (X4 true 2 p4 m) m) fun x22 m=>bp (G.tab Q1en [x22] m) fun x23 m=>bp (pur (bin .neq true true .int x23 (.int .i64 0)) m) fun x24 m=>brb x24 (some (x23,m)) (Qme G p0 p4 p2 m)
def Qmg (G:Gt)(p0 p4 p2:V)(m:M):R:=bp (pur (binP m .eql true true .ptr p0 (.pointer none)) m) fun x25 m=>brb x25 (some ((.int .i64 2),m)) (Qmf G p4 p0 p2 m)
def Qet (G:Gt)(p1 p0 p2:V)(m:M):R:=bp (some (aNew Qu (Value.cells p1).toList m)) fun x26 m=>Qmg G p0 x26 p2 m
theorem Q1h3 (G:Gt)(a0 a1 a2:V)(m:M):ef G Tryz.f409 [a0,a1,a2] m = Qet G a1 a0 a2 m:=X6 (r:=fun r m=>Qet G (r 1) (r 0) (r 2) m) rfl rfl (tr (seqQ (f:=fun r m=>Qmg G (r 0) (r 4) (r 2) m) (tr (seqQ (f:=fun r m=>Qmf G (r 4) (r 0) (r 2) m) (tr (seqQ (f:=fun r m=>Qme G (r 0) (r 4) (r 2) m) (tr (seqQ (f:=fun r m=>Qcj G (r 0) (r 4) (r 2) m))))))))) m
def Q1gz:En:=⟨Qo5,Tryz.f409,Tryz.func409,by kernel_rfl,arg3 (fun G a0 a1 a2 m=>Qet G a1 a0 a2 m),Xr Q1h3⟩
def Q8j (G:Gt)(p0:V)(m:M):R:=bp (pur (lenK 1 p0 m) m) fun x0 m=>bp (pur (lenK 1 p0 m) m) fun x1 m=>bp (pur (X52 9 p0 none x0 x1) m) fun x2 m=>some (x2,m)
theorem Q11t (G:Gt)(a0:V)(m:M):ef G Tryz.f410 [a0] m = Q8j G a0 m:=X6 (r:=fun r m=>Q8j G (r 0) m) rfl rfl (fun r m=>by kernel_rfl) m
def Q11r:En:=⟨Qha,Tryz.f410,Tryz.func410,by kernel_rfl,arg1 Q8j,Xl Q11t⟩
def Q9i (G:Gt)(p0 p1:V)(m:M):R:=bp (some (aNew Qu Q1g m)) fun x0 m=>bp (G.tab Qmt [p0,p1] m) fun x1 m=>bp (pur (lenK 1 x1 m) m) fun x2 m=>bp (pur (bin .eql true true .int x2 (.int .i64 0)) m) fun x3 m=>brb x3 (bp (pur (X4 true 2 x0 m) m) fun x4 m=>bp (unt (X8 2 x0 x4 m)) fun _ m=>ob (ob (X4 true 2 x0 m) fun v=>ob (some [(.slice none 0 0),(.bool false)]) fun l=>some (v :: l)) fun l=>some (Xy l,m)) (bp (pur (lenK 1 x1 m) m) fun x5 m=>bp (pur (bin .sub true true .int x5 (.int .i64 1)) m) fun x6 m=>bp (pur (X3 2 x1 x6) m) fun x7 m=>bp (pur (X4 true 2 x7 m) m) fun x8 m=>bp (unt (X8 2 x0 x8 m)) fun _ m=>bp (pur (X4 true 2 x0 m) m) fun x9 m=>bp (pur (X7 p0) m) fun x10 m=>bp (pur (X0 0 x10) m) fun x11 m=>bp (pur (X4 false 1 x11 m) m) fun x12 m=>bp (pur (X4 true 2 x0 m) m) fun x13 m=>bp (pur (Xh (.struct [(0,1,false,.int),(1,1,false,.int)]) (.slice none 0 0) false x12 x13 m) m) fun x14 m=>bp (unt (X8 2 x0 x9 m)) fun _ m=>ckB (again (pur (X4 false 1 x11 m) m) x12 && (again (pur (Xh (.struct [(0,1,false,.int),(1,1,false,.int)]) (.slice none 0 0) false x12 x13 m) m) x14 && true)) (ob (ob (X4 true 2 x0 m) fun v=>ob (some [x14,(.bool true)]) fun l=>some (v :: l)) fun l=>some (Xy l,m)))
theorem Q15r (G:Gt)(a0 a1:V)(m:M):ef G Tryz.f411 [a0,a1] m = Q9i G a0 a1 m:=X6 (r:=fun r m=>Q9i G (r 0) (r 1) m) rfl rfl (fun r m=>by kernel_rfl) m
def Q15o:En:=⟨Qjf,Tryz.f411,Tryz.func411,by kernel_rfl,arg2 Q9i,Xg Q15r⟩
def Q1mp (G:Gt)(p0:V)(m:M):R:=bp (G.tab Qfv [p0] m) fun x0 m=>bp (G.tab Qe1 [x0,(.func (.func Q2ca) #[] #[])] m) fun x1 m=>bp (G.tab Qey [x0] m) fun x2 m=>some (x2,m)
theorem Q2bk (G:Gt)(a0:V)(m:M):ef G Tryz.f412 [a0] m = Q1mp G a0 m:=X6 (r:=fun r m=>Q1mp G (r 0) m) rfl rfl (fun r m=>by kernel_rfl) m
def Q2bi:En:=⟨Q1xw,Tryz.f412,Tryz.func412,by kernel_rfl,arg1 Q1mp,Xl Q2bk⟩
def Q8y (G:Gt)(k0:J7)(p97 p0 p1 p2 p13 p4 p3 p10 p11 p12:V)(m:M):R:=brb p97 (bp (G.tab Qvq [p0,p1,p2,p13,p4] m) fun x0 m=>k0 p2 x0 p0 p4 p3 p10 p11 m) (bp (G.tab Q15e [p0,p1,p2,p13,p4] m) fun x1 m=>bp (pur (X5 x1 0) m) fun x2 m=>bp (pur (X5 x1 1) m) fun x3 m=>bp (pur (bin .sub false true .int x2 p1) m) fun x4 m=>bp (pur (bin .sub false true .int p2 x2) m) fun x5 m=>bp (pur (bin .quo true true .int p12 (.int .i64 8)) m) fun x6 m=>bp (pur (bin .lss false true .int x4 x5) m) fun x7 m=>brb x7 (bp (pur (bin .geq false true .int x4 x6) m) fun x8 m=>bp (G.tab Q69 [p0,p1,x2,p3,p4] m) fun x9 m=>bp (pur (bin .add true true .int x2 (.int .i64 1)) m) fun x10 m=>k0 p2 x10 p0 p4 p3 x8 x3 m) (bp (pur (bin .geq false true .int x5 x6) m) fun x11 m=>bp (pur (bin .add true true .int x2 (.int .i64 1)) m) fun x12 m=>bp (G.tab Q69 [p0,x12,p2,p3,p4] m) fun x13 m=>k0 x2 p1 p0 p4 p3 x11 x3 m))
def Q9j (G:Gt)(k0:J7)(p1 p4 p0 p13 p2 p3 p10 p11 p12:V)(m:M):R:=bp (pur (bin .gtr true true .int p1 (.int .i64 0)) m) fun x14 m=>brt x14 (bp (pur (bin .sub true true .int p1 (.int .i64 1)) m) fun x15 m=>bp (pur (X3 2 p0 x15) m) fun x16 m=>bp (pur (X4 true 2 x16 m) m) fun x17 m=>bp (pur (X3 2 p0 p13) m) fun x18 m=>bp (pur (X4 true 2 x18 m) m) fun x19 m=>bp (Xj G.tab p4 [x17,x19] m) fun x20 m=>bp (pur (bin .lss true true .int x20 (.int .i64 0)) m) fun x21 m=>bp (pur (un .not x21) m) fun x22 m=>Q8y G k0 x22 p0 p1 p2 p13 p4 p3 p10 p11 p12 m) (Q8y G k0 (.bool false) p0 p1 p2 p13 p4 p3 p10 p11 p12 m) (none)
def Q4k (G:Gt)(k0:J7)(p75 p0 p1 p2 p4 p13 p3 p10 p11 p12:V)(m:M):R:=brb p75 (bp (G.tab Qo6 [p0,p1,p2,p4] m) fun x23 m=>brb x23 (some (.tuple ⟨[]⟩,m)) (Q9j G k0 p1 p4 p0 p13 p2 p3 p10 p11 p12 m)) (Q9j G k0 p1 p4 p0 p13 p2 p3 p10 p11 p12 m)
def Q9k (G:Gt)(k0:J7)(p10 p11 p14 p0 p1 p2 p4 p13 p3 p12:V)(m:M):R:=brb p10 (brb p11 (bp (pur (bin .eql true true .int p14 (.int .i64 1)) m) fun x24 m=>Q4k G k0 x24 p0 p1 p2 p4 p13 p3 p10 p11 p12 m) (Q4k G k0 (.bool false) p0 p1 p2 p4 p13 p3 p10 p11 p12 m)) (Q4k G k0 (.bool false) p0 p1 p2 p4 p13 p3 p10 p11 p12 m)
def Qjk (G:Gt)(k0:J7)(p14 p0 p1 p2 p4 p13 p10 p11 p3 p12:V)(m:M):R:=bp (pur (bin .eql true true .int p14 (.int .i64 2)) m) fun x25 m=>brb x25 (bp (G.tab Qz1 [p0,p1,p2,p4] m) fun x26 m=>bp (pur (bin .sub true true .int p2 (.int .i64 1)) m) fun x27 m=>bp (pur (bin .sub false true .int p13 p1) m) fun x28 m=>bp (pur (bin .sub false true .int x27 x28) m) fun x29 m=>Q9k G k0 p10 p11 (.int .i64 1) p0 p1 p2 p4 x29 p3 p12 m) (Q9k G k0 p10 p11 p14 p0 p1 p2 p4 p13 p3 p12 m)
def Q9l (G:Gt)(k0:J7)(p0 p1 p2 p4 p10 p11 p3 p12:V)(m:M):R:=bp (G.tab Q10v [p0,p1,p2,p4] m) fun x30 m=>bp (pur (X5 x30 0) m) fun x31 m=>bp (pur (X5 x30 1) m) fun x32 m=>Qjk G k0 x32 p0 p1 p2 p4 x31 p10 p11 p3 p12 m
def Qjl (G:Gt)(k0:J7)(p10 p0 p1 p2 p4 p3 p11 p12:V)(m:M):R:=bp (pur (un .not p10) m) fun x33 m=>brb x33 (bp (G.tab Qwt [p0,p1,p2,p4] m) fun x34 m=>bp (pur (bin .sub true true .int p3 (.int .i64 1)) m) fun x35 m=>Q9l G k0 p0 p1 p2 p4 p10 p11 x35 p12 m) (Q9l G k0 p0 p1 p2 p4 p10 p11 p3 p12 m)
def Qjm (G:Gt)(k0:J7)(p3 p0 p1 p2 p4 p10 p11 p12:V)(m:M):R:=bp (pur (bin .eql true true .int p3 (.int .i64 0)) m) fun x36 m=>brb x36 (bp (G.tab Q179 [p0,p1,p2,p4] m) fun x37 m=>some (.tuple ⟨[]⟩,m)) (Qjl G k0 p10 p0 p1 p2 p4 p3 p11 p12 m)
def Qjn (G:Gt)(k0:J7)(p12 p0 p1 p2 p4 p3 p10 p11:V)(m:M):R:=bp (pur (bin .leq true true .int p12 (.int .i64 12)) m) fun x38 m=>brb x38 (bp (G.tab Qfi [p0,p1,p2,p4] m) fun x39 m=>some (.tuple ⟨[]⟩,m)) (Qjm G k0 p3 p0 p1 p2 p4 p10 p11 p12 m)
def Qg (G:Gt):Nat→V→V→V→V→V→V→V→M→R
 | 0,_,_,_,_,_,_,_,_=>none
 | i + 1,p2,p1,p0,p4,p3,p10,p11,m=>bp (pur (bin .sub false true .int p2 p1) m) fun x40 m=>Qjn G (Qg G i) x40 p0 p1 p2 p4 p3 p10 p11 m
def Qjo (G:Gt)(p2 p1 p0 p4 p3 p10 p11:V)(m:M):R:=Qg G G.rds p2 p1 p0 p4 p3 p10 p11 m
def Qjp (G:Gt)(p2 p1 p0 p4 p3 p10:V)(m:M):R:=Qjo G p2 p1 p0 p4 p3 p10 (.bool true) m
def Qck (G:Gt)(p2 p1 p0 p4 p3:V)(m:M):R:=Qjp G p2 p1 p0 p4 p3 (.bool true) m
theorem Q1ah (G:Gt)(a0 a1 a2 a3 a4:V)(m:M):ef G Tryz.f413 [a0,a1,a2,a3,a4] m = Qck G a2 a1 a0 a4 a3 m:=X6 (r:=fun r m=>Qck G (r 2) (r 1) (r 0) (r 4) (r 3) m) rfl rfl (tr (seqQ (f:=fun r m=>Qjp G (r 2) (r 1) (r 0) (r 4) (r 3) (r 10) m) (tr (seqQ (f:=fun r m=>Qjo G (r 2) (r 1) (r 0) (r 4) (r 3) (r 10) (r 11) m) (tr (X9 (Xb (fun i r m=>Qg G i (r 2) (r 1) (r 0) (r 4) (r 3) (r 10) (r 11) m) (fun _ _=>rfl) (fun i0=>tr (X9 (seqQ (f:=fun r m=>Qjn G (Qg G i0) (r 12) (r 0) (r 1) (r 2) (r 4) (r 3) (r 10) (r 11) m) (tr (seqQ (f:=fun r m=>Qjm G (Qg G i0) (r 3) (r 0) (r 1) (r 2) (r 4) (r 10) (r 11) (r 12) m) (tr (seqQ (f:=fun r m=>Qjl G (Qg G i0) (r 10) (r 0) (r 1) (r 2) (r 4) (r 3) (r 11) (r 12) m) (tr (seqQ (f:=fun r m=>Q9l G (Qg G i0) (r 0) (r 1) (r 2) (r 4) (r 10) (r 11) (r 3) (r 12) m) (tr (seqQ (f:=fun r m=>Qjk G (Qg G i0) (r 14) (r 0) (r 1) (r 2) (r 4) (r 13) (r 10) (r 11) (r 3) (r 12) m) (tr (seqQ (f:=fun r m=>Q9k G (Qg G i0) (r 10) (r 11) (r 14) (r 0) (r 1) (r 2) (r 4) (r 13) (r 3) (r 12) m) (tr (tr (seqQ (f:=fun r m=>Q9j G (Qg G i0) (r 1) (r 4) (r 0) (r 13) (r 2) (r 3) (r 10) (r 11) (r 12) m) (tr (tr seqD (seqQ (f:=fun r m=>Q8y G (Qg G i0) (r 97) (r 0) (r 1) (r 2) (r 13) (r 4) (r 3) (r 10) (r 11) (r 12) m))))) (seqQ (f:=fun r m=>Q4k G (Qg G i0) (r 75) (r 0) (r 1) (r 2) (r 4) (r 13) (r 3) (r 10) (r 11) (r 12) m)))))))))))))))))))))))) m
def Q1ag:En:=⟨Q69,Tryz.f413,Tryz.func413,by kernel_rfl,arg5 (fun G a0 a1 a2 a3 a4 m=>Qck G a2 a1 a0 a4 a3 m),X35 Q1ah⟩
def Q18w (G:Gt)(m:M):R:=some ((.int .i64 0),m)
def Qpl (G:Gt):Nat→V→V→M→R
 | 0,_,_,_=>none
 | i + 1,p3,p0,m=>bp (pur (lenK 1 p0 m) m) fun x0 m=>bp (pur (bin .lss false true .int p3 x0) m) fun x1 m=>brb x1 (bp (pur (X3 1 p0 p3) m) fun x2 m=>bp (pur (X4 false 1 x2 m) m) fun x3 m=>bp (pur (bin .neq true true .int x3 (.int .i64 0)) m) fun x4 m=>brb x4 (bp (pur (X3 1 p0 p3) m) fun x5 m=>bp (pur (X4 false 1 x5 m) m) fun x6 m=>some (x6,m)) (bp (pur (bin .add true true .int p3 (.int .i64 1)) m) fun x7 m=>(Qpl G i) x7 p0 m)) (Q18w G m)
def Q18x (G:Gt)(p3 p0:V)(m:M):R:=Qpl G G.rds p3 p0 m
def Q18y (G:Gt)(p0:V)(m:M):R:=Q18x G (.int .i64 0) p0 m
def Quk (G:Gt)(p0:V)(m:M):R:=Q18y G p0 m
theorem Q1wq (G:Gt)(a0:V)(m:M):ef G Tryz.f414 [a0] m = Quk G a0 m:=X6 (r:=fun r m=>Quk G (r 0) m) rfl rfl (tr (seqQ (f:=fun r m=>Q18y G (r 0) m) (tr (tr (seqQ (f:=fun r m=>Q18w G m)) (seqQ (f:=fun r m=>Q18x G (r 3) (r 0) m) (tr (X9 (Xb (fun i r m=>Qpl G i (r 3) (r 0) m) (fun _ _=>rfl) (fun i0=>fun r m=>by kernel_rfl))))))))) m
def Q1wp:En:=⟨Q8v,Tryz.f414,Tryz.func414,by kernel_rfl,arg1 Quk,Xl Q1wq⟩
def Qro (G:Gt)(p0 p1:V)(m:M):R:=bp (some (aNew Qu (Value.cells p0).toList m)) fun x0 m=>bp (some (aNew Qu (Value.cells p1).toList m)) fun x1 m=>bp (pur (X0 0 x0) m) fun x2 m=>bp (pur (X4 false 1 x2 m) m) fun x3 m=>bp (pur (X0 0 x1) m) fun x4 m=>bp (pur (X4 false 1 x4 m) m) fun x5 m=>bp (pur (bin .lss false true .int x3 x5) m) fun x6 m=>bp (pur (X0 0 x0) m) fun x7 m=>bp (pur (X4 false 1 x7 m) m) fun x8 m=>bp (pur (X0 0 x1) m) fun x9 m=>bp (pur (X4 false 1 x9 m) m) fun x10 m=>bp (pur (bin .gtr false true .int x8 x10) m) fun x11 m=>bp (pur (X0 1 x0) m) fun x12 m=>bp (pur (X4 false 1 x12 m) m) fun x13 m=>bp (pur (X0 1 x1) m) fun x14 m=>bp (pur (X4 false 1 x14 m) m) fun x15 m=>bp (pur (bin .lss false true .int x13 x15) m) fun x16 m=>bp (pur (X0 1 x0) m) fun x17 m=>bp (pur (X4 false 1 x17 m) m) fun x18 m=>bp (pur (X0 1 x1) m) fun x19 m=>bp (pur (X4 false 1 x19 m) m) fun x20 m=>bp (pur (bin .gtr false true .int x18 x20) m) fun x21 m=>bp (G.tab Q24 [x6,x11] m) fun x22 m=>ckB (again (pur (X4 false 1 x12 m) m) x13 && (again (pur (X4 false 1 x14 m) m) x15 && (again (pur (X4 false 1 x17 m) m) x18 && (again (pur (X4 false 1 x19 m) m) x20 && true)))) (bp (G.tab Q24 [x16,x21] m) fun x23 m=>bp (Xa Q60 [(.int .i64 0)] 1 2 [(0,x22),(1,x23)] m) fun x24 m=>bp (G.tab Q8v [x24] m) fun x25 m=>some (x25,m))
theorem Q1us (G:Gt)(a0 a1:V)(m:M):ef G Tryz.f415 [a0,a1] m = Qro G a0 a1 m:=X6 (r:=fun r m=>Qro G (r 0) (r 1) m) rfl rfl (fun r m=>by kernel_rfl) m
def Q1uo:En:=⟨Q1ce,Tryz.f415,Tryz.func415,by kernel_rfl,arg2 Qro,Xg Q1us⟩
def Q11u (G:Gt)(p0 p1:V)(m:M):R:=brb p0 (some ((.int .i64 (-1)),m)) (brb p1 (some ((.int .i64 1),m)) (some ((.int .i64 0),m)))
theorem Q23d (G:Gt)(a0 a1:V)(m:M):ef G Tryz.f416 [a0,a1] m = Q11u G a0 a1 m:=X6 (r:=fun r m=>Q11u G (r 0) (r 1) m) rfl rfl (fun r m=>by kernel_rfl) m
def Q239:En:=⟨Q24,Tryz.f416,Tryz.func416,by kernel_rfl,arg2 Q11u,Xg Q23d⟩
def Qmo (G:Gt)(p4:V)(m:M):R:=some (p4,m)
def Q1j0 (G:Gt)(p3 p0:V)(m:M):R:=bp (pur (X4 true 2 p3 m) m) fun x0 m=>bp (G.tab Q61 [x0] m) fun x1 m=>bp (pur (bin .eql true true .int x1 (.int .i64 0)) m) fun x2 m=>brt x2 (bp (pur (X0 0 p3) m) fun x3 m=>bp (pur (X4 false 1 x3 m) m) fun x4 m=>bp (pur (bin .geq false true .int p0 x4) m) fun x5 m=>brt x5 (bp (conv (.int .u64) p0 m) fun x6 m=>bp (pur (X0 0 p3) m) fun x7 m=>bp (pur (X4 false 1 x7 m) m) fun x8 m=>bp (conv (.int .u64) x8 m) fun x9 m=>bp (pur (bin .sub false true .int x6 x9) m) fun x10 m=>bp (pur (X0 1 p3) m) fun x11 m=>bp (pur (X4 false 1 x11 m) m) fun x12 m=>bp (G.tab Qwd [x12] m) fun x13 m=>ckB (again (pur (X4 false 1 x7 m) m) x8 && true) (bp (pur (bin .lss false true .int x10 x13) m) fun x14 m=>Qmo G x14 m)) (Qmo G (.bool false) m) (none)) (Qmo G (.bool false) m) (none)
def Q15s (G:Gt)(p1 p0:V)(m:M):R:=bp (some (aNew Qu (Value.cells p1).toList m)) fun x15 m=>Q1j0 G x15 p0 m
theorem Q24r (G:Gt)(a0 a1:V)(m:M):ef G Tryz.f417 [a0,a1] m = Q15s G a1 a0 m:=X6 (r:=fun r m=>Q15s G (r 1) (r 0) m) rfl rfl (tr (seqQ (f:=fun r m=>Q1j0 G (r 3) (r 0) m) (tr (seqQ (f:=fun r m=>Qmo G (r 4) m))))) m
def Q24q:En:=⟨Q15d,Tryz.f417,Tryz.func417,by kernel_rfl,arg2 (fun G a0 a1 m=>Q15s G a1 a0 m),Xg Q24r⟩
def Qi8 (G:Gt)(p0 p1 p2 p4 p3:V)(m:M):R:=bp (G.tab Q9o [p0,p1,p2,p4] m) fun x0 m=>bp (pur (X5 x0 0) m) fun x1 m=>bp (pur (X5 x0 1) m) fun x2 m=>bp (G.tab Q9o [p0,x2,p3,p4] m) fun x3 m=>bp (pur (X5 x3 0) m) fun x4 m=>bp (pur (X5 x3 1) m) fun x5 m=>bp (G.tab Q9o [p0,x1,x4,p4] m) fun x6 m=>bp (pur (X5 x6 0) m) fun x7 m=>bp (pur (X5 x6 1) m) fun x8 m=>some (x8,m)
theorem Q1ln (G:Gt)(a0 a1 a2 a3 a4:V)(m:M):ef G Tryz.f422 [a0,a1,a2,a3,a4] m = Qi8 G a0 a1 a2 a4 a3 m:=X6 (r:=fun r m=>Qi8 G (r 0) (r 1) (r 2) (r 4) (r 3) m) rfl rfl (fun r m=>by kernel_rfl) m
def Q1lm:En:=⟨Qsz,Tryz.f422,Tryz.func422,by kernel_rfl,arg5 (fun G a0 a1 a2 a3 a4 m=>Qi8 G a0 a1 a2 a4 a3 m),X35 Q1ln⟩
def Qix (G:Gt)(p0 p1 p2 p3:V)(m:M):R:=bp (some (aNew Q1l (Value.cells p0).toList m)) fun x0 m=>bp (pur (X4 false 1 p1 m) m) fun x1 m=>bp (pur (X4 true 11 x0 m) m) fun x2 m=>bp (pur (X4 false 1 p1 m) m) fun x3 m=>bp (pur (X4 false 1 p2 m) m) fun x4 m=>bp (pur (X4 false 1 p3 m) m) fun x5 m=>bp (pur (X3 11 x4 x5) m) fun x6 m=>bp (pur (X4 true 11 x6 m) m) fun x7 m=>bp (Xj G.tab x1 [x2] m) fun x8 m=>ckB (again (pur (X4 false 1 p1 m) m) x3 && (again (pur (X4 false 1 p2 m) m) x4 && (again (pur (X4 false 1 p3 m) m) x5 && (again (pur (X4 true 11 x6 m) m) x7 && true)))) (bp (Xj G.tab x3 [x7] m) fun x9 m=>bp (pur (bin .eql false true .str x8 x9) m) fun x10 m=>some (x10,m))
theorem Q1mq (G:Gt)(a0 a1 a2 a3:V)(m:M):ef G Tryz.f435 [a0,a1,a2,a3] m = Qix G a0 a1 a2 a3 m:=X6 (r:=fun r m=>Qix G (r 0) (r 1) (r 2) (r 3) m) rfl rfl (fun r m=>by kernel_rfl) m
def Q1mo:En:=⟨Qvp,Tryz.f435,Tryz.func435,by kernel_rfl,arg4 Qix,X1c Q1mq⟩
end
end Go.Ab.Sh
