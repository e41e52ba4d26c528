/-
  Functions of the program as plain definitions. No conditions.
-/
import Derived.Test.YtphmfaooegiohaaGreatDoorAb5
import Derived.Test.YtphmfaooegiohaaGreatDoorZ
import Derived.KernelRfl
import Derived.Test.YtphmfaooegiohaaGreatDoorProg
set_option linter.unusedVariables false
set_option maxRecDepth 100000
namespace Go.Ab.Sh
open Go Go.Ab Go.Proofs
noncomputable section
def Q4k (G:Gt)(k0:J4)(p6 p1 p0 p2:V)(m:M):R:=bp (pur (bin .mul true true .int p6 (.int .i64 2)) m) fun x0 m=>k0 x0 p1 p0 p2 m
def Qb0 (G:Gt)(k0:J4)(p7 p6 p1 p0 p2:V)(m:M):R:=bp (pur (bin .add false true .int p7 p6) m) fun x1 m=>bp (pur (bin .lss false true .int x1 p1) m) fun x2 m=>brb x2 (bp (G.tab Qaw [p0,p7,x1,p1,p2] m) fun x3 m=>Q4k G k0 p6 p1 p0 p2 m) (Q4k G k0 p6 p1 p0 p2 m)
def Q4l (G:Gt)(k0:J4):Nat→V→V→V→V→V→V→M→R
 | 0,_,_,_,_,_,_,_=>none
 | i + 1,p8,p1,p0,p7,p6,p2,m=>bp (pur (bin .leq false true .int p8 p1) m) fun x4 m=>brb x4 (bp (pur (bin .add false true .int p7 p6) m) fun x5 m=>bp (G.tab Qaw [p0,p7,x5,p8,p2] m) fun x6 m=>bp (pur (bin .mul true true .int (.int .i64 2) p6) m) fun x7 m=>bp (pur (bin .add false true .int p8 x7) m) fun x8 m=>(Q4l G k0 i) x8 p1 p0 p8 p6 p2 m) (Qb0 G k0 p7 p6 p1 p0 p2 m)
def Qb1 (G:Gt)(k0:J4)(p8 p1 p0 p7 p6 p2:V)(m:M):R:=Q4l G k0 G.rds p8 p1 p0 p7 p6 p2 m
def Qb2 (G:Gt)(k0:J4)(p6 p1 p0 p2:V)(m:M):R:=bp (pur (bin .mul true true .int (.int .i64 2) p6) m) fun x9 m=>Qb1 G k0 x9 p1 p0 (.int .i64 0) p6 p2 m
def Qw (G:Gt):Nat→V→V→V→V→M→R
 | 0,_,_,_,_,_=>none
 | i + 1,p6,p1,p0,p2,m=>bp (pur (bin .lss false true .int p6 p1) m) fun x10 m=>brb x10 (Qb2 G (Qw G i) p6 p1 p0 p2 m) (some (.tuple ⟨[]⟩,m))
def Qb3 (G:Gt)(p6 p1 p0 p2:V)(m:M):R:=Qw G G.rds p6 p1 p0 p2 m
def Qb4 (G:Gt)(p0 p7 p1 p2 p6:V)(m:M):R:=bp (G.tab Q3l [p0,p7,p1,p2] m) fun x11 m=>Qb3 G p6 p1 p0 p2 m
def Q49 (G:Gt):Nat→V→V→V→V→V→V→M→R
 | 0,_,_,_,_,_,_,_=>none
 | i + 1,p8,p1,p0,p7,p2,p6,m=>bp (pur (bin .leq false true .int p8 p1) m) fun x12 m=>brb x12 (bp (G.tab Q3l [p0,p7,p8,p2] m) fun x13 m=>bp (pur (bin .add false true .int p8 p6) m) fun x14 m=>(Q49 G i) x14 p1 p0 p8 p2 p6 m) (Qb4 G p0 p7 p1 p2 p6 m)
def Qb5 (G:Gt)(p8 p1 p0 p7 p2 p6:V)(m:M):R:=Q49 G G.rds p8 p1 p0 p7 p2 p6 m
def Qb6 (G:Gt)(p6 p1 p0 p2:V)(m:M):R:=Qb5 G p6 p1 p0 (.int .i64 0) p2 p6 m
def Q5l (G:Gt)(p1 p0 p2:V)(m:M):R:=Qb6 G (.int .i64 20) p1 p0 p2 m
theorem Qre (G:Gt)(a0 a1 a2:V)(m:M):ef G Tryz.f361 [a0,a1,a2] m = Q5l G a1 a0 a2 m:=X6 (r:=fun r m=>Q5l G (r 1) (r 0) (r 2) m) rfl rfl (tr (seqQ (f:=fun r m=>Qb6 G (r 6) (r 1) (r 0) (r 2) m) (tr (seqQ (f:=fun r m=>Qb5 G (r 8) (r 1) (r 0) (r 7) (r 2) (r 6) m) (tr (tr (seqQ (f:=fun r m=>Qb4 G (r 0) (r 7) (r 1) (r 2) (r 6) m) (tr (seqQ (f:=fun r m=>Qb3 G (r 6) (r 1) (r 0) (r 2) m) (tr (X7 (Xc (fun i r m=>Qw G i (r 6) (r 1) (r 0) (r 2) m) (fun _ _=>rfl) (fun i0=>tr (seqQ (f:=fun r m=>Qb2 G (Qw G i0) (r 6) (r 1) (r 0) (r 2) m) (tr (X7 (seqQ (f:=fun r m=>Qb1 G (Qw G i0) (r 8) (r 1) (r 0) (r 7) (r 6) (r 2) m) (tr (tr (seqQ (f:=fun r m=>Qb0 G (Qw G i0) (r 7) (r 6) (r 1) (r 0) (r 2) m) (tr (seqQ (f:=fun r m=>Q4k G (Qw G i0) (r 6) (r 1) (r 0) (r 2) m)))) (X7 (Xc (fun i r m=>Q4l G (Qw G i0) i (r 8) (r 1) (r 0) (r 7) (r 6) (r 2) m) (fun _ _=>rfl) (fun i1=>fun r m=>by kernel_rfl)))))))))))))))) (X7 (Xc (fun i r m=>Q49 G i (r 8) (r 1) (r 0) (r 7) (r 2) (r 6) m) (fun _ _=>rfl) (fun i0=>fun r m=>by kernel_rfl))))))))) m
def Qr9:En:=⟨Qd2,Tryz.f361,Tryz.func361,by kernel_rfl,arg3 (fun G a0 a1 a2 m=>Q5l G a1 a0 a2 m),Xr Qre⟩
def Q87 (G:Gt)(k0:J4)(p6 p1 p0 p2:V)(m:M):R:=bp (pur (bin .mul true true .int p6 (.int .i64 2)) m) fun x0 m=>k0 x0 p1 p0 p2 m
def Qhe (G:Gt)(k0:J4)(p7 p6 p1 p0 p2:V)(m:M):R:=bp (pur (bin .add false true .int p7 p6) m) fun x1 m=>bp (pur (bin .lss false true .int x1 p1) m) fun x2 m=>brb x2 (bp (G.tab Qh0 [p0,p7,x1,p1,p2] m) fun x3 m=>Q87 G k0 p6 p1 p0 p2 m) (Q87 G k0 p6 p1 p0 p2 m)
def Q88 (G:Gt)(k0:J4):Nat→V→V→V→V→V→V→M→R
 | 0,_,_,_,_,_,_,_=>none
 | i + 1,p8,p1,p0,p7,p6,p2,m=>bp (pur (bin .leq false true .int p8 p1) m) fun x4 m=>brb x4 (bp (pur (bin .add false true .int p7 p6) m) fun x5 m=>bp (G.tab Qh0 [p0,p7,x5,p8,p2] m) fun x6 m=>bp (pur (bin .mul true true .int (.int .i64 2) p6) m) fun x7 m=>bp (pur (bin .add false true .int p8 x7) m) fun x8 m=>(Q88 G k0 i) x8 p1 p0 p8 p6 p2 m) (Qhe G k0 p7 p6 p1 p0 p2 m)
def Qhf (G:Gt)(k0:J4)(p8 p1 p0 p7 p6 p2:V)(m:M):R:=Q88 G k0 G.rds p8 p1 p0 p7 p6 p2 m
def Qhg (G:Gt)(k0:J4)(p6 p1 p0 p2:V)(m:M):R:=bp (pur (bin .mul true true .int (.int .i64 2) p6) m) fun x9 m=>Qhf G k0 x9 p1 p0 (.int .i64 0) p6 p2 m
def Q17 (G:Gt):Nat→V→V→V→V→M→R
 | 0,_,_,_,_,_=>none
 | i + 1,p6,p1,p0,p2,m=>bp (pur (bin .lss false true .int p6 p1) m) fun x10 m=>brb x10 (Qhg G (Q17 G i) p6 p1 p0 p2 m) (some (.tuple ⟨[]⟩,m))
def Qhh (G:Gt)(p6 p1 p0 p2:V)(m:M):R:=Q17 G G.rds p6 p1 p0 p2 m
def Qhi (G:Gt)(p0 p7 p1 p2 p6:V)(m:M):R:=bp (G.tab Q5i [p0,p7,p1,p2] m) fun x11 m=>Qhh G p6 p1 p0 p2 m
def Q7a (G:Gt):Nat→V→V→V→V→V→V→M→R
 | 0,_,_,_,_,_,_,_=>none
 | i + 1,p8,p1,p0,p7,p2,p6,m=>bp (pur (bin .leq false true .int p8 p1) m) fun x12 m=>brb x12 (bp (G.tab Q5i [p0,p7,p8,p2] m) fun x13 m=>bp (pur (bin .add false true .int p8 p6) m) fun x14 m=>(Q7a G i) x14 p1 p0 p8 p2 p6 m) (Qhi G p0 p7 p1 p2 p6 m)
def Qhj (G:Gt)(p8 p1 p0 p7 p2 p6:V)(m:M):R:=Q7a G G.rds p8 p1 p0 p7 p2 p6 m
def Qhk (G:Gt)(p6 p1 p0 p2:V)(m:M):R:=Qhj G p6 p1 p0 (.int .i64 0) p2 p6 m
def Q94 (G:Gt)(p1 p0 p2:V)(m:M):R:=Qhk G (.int .i64 20) p1 p0 p2 m
theorem Q144 (G:Gt)(a0 a1 a2:V)(m:M):ef G Tryz.f362 [a0,a1,a2] m = Q94 G a1 a0 a2 m:=X6 (r:=fun r m=>Q94 G (r 1) (r 0) (r 2) m) rfl rfl (tr (seqQ (f:=fun r m=>Qhk G (r 6) (r 1) (r 0) (r 2) m) (tr (seqQ (f:=fun r m=>Qhj G (r 8) (r 1) (r 0) (r 7) (r 2) (r 6) m) (tr (tr (seqQ (f:=fun r m=>Qhi G (r 0) (r 7) (r 1) (r 2) (r 6) m) (tr (seqQ (f:=fun r m=>Qhh G (r 6) (r 1) (r 0) (r 2) m) (tr (X7 (Xc (fun i r m=>Q17 G i (r 6) (r 1) (r 0) (r 2) m) (fun _ _=>rfl) (fun i0=>tr (seqQ (f:=fun r m=>Qhg G (Q17 G i0) (r 6) (r 1) (r 0) (r 2) m) (tr (X7 (seqQ (f:=fun r m=>Qhf G (Q17 G i0) (r 8) (r 1) (r 0) (r 7) (r 6) (r 2) m) (tr (tr (seqQ (f:=fun r m=>Qhe G (Q17 G i0) (r 7) (r 6) (r 1) (r 0) (r 2) m) (tr (seqQ (f:=fun r m=>Q87 G (Q17 G i0) (r 6) (r 1) (r 0) (r 2) m)))) (X7 (Xc (fun i r m=>Q88 G (Q17 G i0) i (r 8) (r 1) (r 0) (r 7) (r 6) (r 2) m) (fun _ _=>rfl) (fun i1=>fun r m=>by kernel_rfl)))))))))))))))) (X7 (Xc (fun i r m=>Q7a G i (r 8) (r 1) (r 0) (r 7) (r 2) (r 6) m) (fun _ _=>rfl) (fun i0=>fun r m=>by kernel_rfl))))))))) m
def Q141:En:=⟨Qim,Tryz.f362,Tryz.func362,by kernel_rfl,arg3 (fun G a0 a1 a2 m=>Q94 G a1 a0 a2 m),Xr Q144⟩
def Qb7 (G:Gt)(k0:J5)(p8 p2 p1 p3 p0:V)(m:M):R:=bp (pur (bin .add true true .int p8 (.int .i64 1)) m) fun x0 m=>k0 x0 p2 p1 p3 p0 m
def Q4m (G:Gt)(k1:J6)(k0:J5)(p34 p0 p9 p1 p3 p8 p2:V)(m:M):R:=brb p34 (bp (pur (bin .sub true true .int p9 (.int .i64 1)) m) fun x1 m=>bp (pur (bin .sub true true .int p9 (.int .i64 1)) m) fun x2 m=>bp (pur (X3 7 p0 x2) m) fun x3 m=>bp (pur (X4 true 7 x3 m) m) fun x4 m=>bp (pur (X3 7 p0 p9) m) fun x5 m=>bp (pur (X4 true 7 x5 m) m) fun x6 m=>bp (pur (X3 7 p0 p9) m) fun x7 m=>bp (unt (X8 7 x7 x4 m)) fun _ m=>bp (pur (X3 7 p0 x1) m) fun x8 m=>bp (unt (X8 7 x8 x6 m)) fun _ m=>bp (pur (bin .sub true true .int p9 (.int .i64 1)) m) fun x9 m=>k1 x9 p1 p3 p0 p8 p2 m) (Qb7 G k0 p8 p2 p1 p3 p0 m)
def Q1r (G:Gt)(k0:J5):Nat→V→V→V→V→V→V→M→R
 | 0,_,_,_,_,_,_,_=>none
 | i + 1,p9,p1,p3,p0,p8,p2,m=>bp (pur (bin .gtr false true .int p9 p1) m) fun x10 m=>brt x10 (bp (pur (X3 7 p0 p9) m) fun x11 m=>bp (pur (X4 true 7 x11 m) m) fun x12 m=>bp (pur (bin .sub true true .int p9 (.int .i64 1)) m) fun x13 m=>bp (pur (X3 7 p0 x13) m) fun x14 m=>bp (pur (X4 true 7 x14 m) m) fun x15 m=>bp (Xj G.tab p3 [x12,x15] m) fun x16 m=>bp (pur (bin .lss true true .int x16 (.int .i64 0)) m) fun x17 m=>Q4m G (Q1r G k0 i) k0 x17 p0 p9 p1 p3 p8 p2 m) (Q4m G (Q1r G k0 i) k0 (.bool false) p0 p9 p1 p3 p8 p2 m) (none)
def Qb8 (G:Gt)(k0:J5)(p9 p1 p3 p0 p8 p2:V)(m:M):R:=Q1r G k0 G.rds p9 p1 p3 p0 p8 p2 m
def Qb9 (G:Gt)(k0:J5)(p8 p1 p3 p0 p2:V)(m:M):R:=Qb8 G k0 p8 p1 p3 p0 p8 p2 m
def Qj (G:Gt):Nat→V→V→V→V→V→M→R
 | 0,_,_,_,_,_,_=>none
 | i + 1,p8,p2,p1,p3,p0,m=>bp (pur (bin .lss false true .int p8 p2) m) fun x18 m=>brb x18 (Qb9 G (Qj G i) p8 p1 p3 p0 p2 m) (some (.tuple ⟨[]⟩,m))
def Qba (G:Gt)(p8 p2 p1 p3 p0:V)(m:M):R:=Qj G G.rds p8 p2 p1 p3 p0 m
def Q5m (G:Gt)(p1 p2 p3 p0:V)(m:M):R:=bp (pur (bin .add true true .int p1 (.int .i64 1)) m) fun x19 m=>Qba G x19 p2 p1 p3 p0 m
theorem Qrf (G:Gt)(a0 a1 a2 a3:V)(m:M):ef G Tryz.f363 [a0,a1,a2,a3] m = Q5m G a1 a2 a3 a0 m:=X6 (r:=fun r m=>Q5m G (r 1) (r 2) (r 3) (r 0) m) rfl rfl (tr (seqQ (f:=fun r m=>Qba G (r 8) (r 2) (r 1) (r 3) (r 0) m) (tr (X7 (Xc (fun i r m=>Qj G i (r 8) (r 2) (r 1) (r 3) (r 0) m) (fun _ _=>rfl) (fun i0=>tr (seqQ (f:=fun r m=>Qb9 G (Qj G i0) (r 8) (r 1) (r 3) (r 0) (r 2) m) (tr (tr (seqQ (f:=fun r m=>Qb7 G (Qj G i0) (r 8) (r 2) (r 1) (r 3) (r 0) m)) (X7 (seqQ (f:=fun r m=>Qb8 G (Qj G i0) (r 9) (r 1) (r 3) (r 0) (r 8) (r 2) m) (tr (X7 (Xc (fun i r m=>Q1r G (Qj G i0) i (r 9) (r 1) (r 3) (r 0) (r 8) (r 2) m) (fun _ _=>rfl) (fun i1=>tr (tr seqD (seqQ (f:=fun r m=>Q4m G (Q1r G (Qj G i0) i1) (Qj G i0) (r 34) (r 0) (r 9) (r 1) (r 3) (r 8) (r 2) m)))))))))))))))))) m
def Qr8:En:=⟨Q5c,Tryz.f363,Tryz.func363,by kernel_rfl,arg4 (fun G a0 a1 a2 a3 m=>Q5m G a1 a2 a3 a0 m),X19 Qrf⟩
def Qqq (G:Gt)(p0:V)(m:M):R:=bp (pur (bin .neq false true .int p0 p0) m) fun x0 m=>some (x0,m)
theorem Q1r0 (G:Gt)(a0:V)(m:M):ef G Tryz.f365 [a0] m = Qqq G a0 m:=X6 (r:=fun r m=>Qqq G (r 0) m) rfl rfl (fun r m=>by kernel_rfl) m
def Q1qy:En:=⟨Qqe,Tryz.f365,Tryz.func365,by kernel_rfl,arg1 Qqq,Xk Q1r0⟩
def Qbb (G:Gt)(k0:J5)(p8 p2 p1 p3 p0:V)(m:M):R:=bp (pur (bin .add true true .int p8 (.int .i64 1)) m) fun x0 m=>k0 x0 p2 p1 p3 p0 m
def Q4n (G:Gt)(k1:J6)(k0:J5)(p34 p0 p9 p1 p3 p8 p2:V)(m:M):R:=brb p34 (bp (pur (bin .sub true true .int p9 (.int .i64 1)) m) fun x1 m=>bp (pur (bin .sub true true .int p9 (.int .i64 1)) m) fun x2 m=>bp (pur (X3 12 p0 x2) m) fun x3 m=>bp (pur (X4 true 12 x3 m) m) fun x4 m=>bp (pur (X3 12 p0 p9) m) fun x5 m=>bp (pur (X4 true 12 x5 m) m) fun x6 m=>bp (pur (X3 12 p0 p9) m) fun x7 m=>bp (unt (X8 12 x7 x4 m)) fun _ m=>bp (pur (X3 12 p0 x1) m) fun x8 m=>bp (unt (X8 12 x8 x6 m)) fun _ m=>bp (pur (bin .sub true true .int p9 (.int .i64 1)) m) fun x9 m=>k1 x9 p1 p3 p0 p8 p2 m) (Qbb G k0 p8 p2 p1 p3 p0 m)
def Q1s (G:Gt)(k0:J5):Nat→V→V→V→V→V→V→M→R
 | 0,_,_,_,_,_,_,_=>none
 | i + 1,p9,p1,p3,p0,p8,p2,m=>bp (pur (bin .gtr false true .int p9 p1) m) fun x10 m=>brt x10 (bp (pur (X3 12 p0 p9) m) fun x11 m=>bp (pur (X4 true 12 x11 m) m) fun x12 m=>bp (pur (bin .sub true true .int p9 (.int .i64 1)) m) fun x13 m=>bp (pur (X3 12 p0 x13) m) fun x14 m=>bp (pur (X4 true 12 x14 m) m) fun x15 m=>bp (Xj G.tab p3 [x12,x15] m) fun x16 m=>bp (pur (bin .lss true true .int x16 (.int .i64 0)) m) fun x17 m=>Q4n G (Q1s G k0 i) k0 x17 p0 p9 p1 p3 p8 p2 m) (Q4n G (Q1s G k0 i) k0 (.bool false) p0 p9 p1 p3 p8 p2 m) (none)
def Qbc (G:Gt)(k0:J5)(p9 p1 p3 p0 p8 p2:V)(m:M):R:=Q1s G k0 G.rds p9 p1 p3 p0 p8 p2 m
def Qbd (G:Gt)(k0:J5)(p8 p1 p3 p0 p2:V)(m:M):R:=Qbc G k0 p8 p1 p3 p0 p8 p2 m
def Qk (G:Gt):Nat→V→V→V→V→V→M→R
 | 0,_,_,_,_,_,_=>none
 | i + 1,p8,p2,p1,p3,p0,m=>bp (pur (bin .lss false true .int p8 p2) m) fun x18 m=>brb x18 (Qbd G (Qk G i) p8 p1 p3 p0 p2 m) (some (.tuple ⟨[]⟩,m))
def Qbe (G:Gt)(p8 p2 p1 p3 p0:V)(m:M):R:=Qk G G.rds p8 p2 p1 p3 p0 m
def Q5n (G:Gt)(p1 p2 p3 p0:V)(m:M):R:=bp (pur (bin .add true true .int p1 (.int .i64 1)) m) fun x19 m=>Qbe G x19 p2 p1 p3 p0 m
theorem Qrg (G:Gt)(a0 a1 a2 a3:V)(m:M):ef G Tryz.f366 [a0,a1,a2,a3] m = Q5n G a1 a2 a3 a0 m:=X6 (r:=fun r m=>Q5n G (r 1) (r 2) (r 3) (r 0) m) rfl rfl (tr (seqQ (f:=fun r m=>Qbe G (r 8) (r 2) (r 1) (r 3) (r 0) m) (tr (X7 (Xc (fun i r m=>Qk G i (r 8) (r 2) (r 1) (r 3) (r 0) m) (fun _ _=>rfl) (fun i0=>tr (seqQ (f:=fun r m=>Qbd G (Qk G i0) (r 8) (r 1) (r 3) (r 0) (r 2) m) (tr (tr (seqQ (f:=fun r m=>Qbb G (Qk G i0) (r 8) (r 2) (r 1) (r 3) (r 0) m)) (X7 (seqQ (f:=fun r m=>Qbc G (Qk G i0) (r 9) (r 1) (r 3) (r 0) (r 8) (r 2) m) (tr (X7 (Xc (fun i r m=>Q1s G (Qk G i0) i (r 9) (r 1) (r 3) (r 0) (r 8) (r 2) m) (fun _ _=>rfl) (fun i1=>tr (tr seqD (seqQ (f:=fun r m=>Q4n G (Q1s G (Qk G i0) i1) (Qk G i0) (r 34) (r 0) (r 9) (r 1) (r 3) (r 8) (r 2) m)))))))))))))))))) m
def Qrc:En:=⟨Q5j,Tryz.f366,Tryz.func366,by kernel_rfl,arg4 (fun G a0 a1 a2 a3 m=>Q5n G a1 a2 a3 a0 m),X19 Qrg⟩
def Q1fj (G:Gt)(m:M):R:=some ((.bool false),m)
def Qtn (G:Gt):Nat→V→V→V→M→R
 | 0,_,_,_,_=>none
 | i + 1,p5,p0,p1,m=>bp (pur (lenK 1 p0 m) m) fun x0 m=>bp (pur (bin .lss false true .int p5 x0) m) fun x1 m=>brb x1 (bp (pur (X3 1 p0 p5) m) fun x2 m=>bp (pur (X4 false 1 x2 m) m) fun x3 m=>bp (pur (bin .eql false true .str x3 p1) m) fun x4 m=>brb x4 (some ((.bool true),m)) (bp (pur (bin .add true true .int p5 (.int .i64 1)) m) fun x5 m=>(Qtn G i) x5 p0 p1 m)) (Q1fj G m)
def Q1fk (G:Gt)(p5 p0 p1:V)(m:M):R:=Qtn G G.rds p5 p0 p1 m
def Q1fl (G:Gt)(p0 p1:V)(m:M):R:=Q1fk G (.int .i64 0) p0 p1 m
def Q111 (G:Gt)(p0 p1:V)(m:M):R:=Q1fl G p0 p1 m
theorem Q1z4 (G:Gt)(a0 a1:V)(m:M):ef G Tryz.f369 [a0,a1] m = Q111 G a0 a1 m:=X6 (r:=fun r m=>Q111 G (r 0) (r 1) m) rfl rfl (tr (seqQ (f:=fun r m=>Q1fl G (r 0) (r 1) m) (tr (tr (seqQ (f:=fun r m=>Q1fj G m)) (seqQ (f:=fun r m=>Q1fk G (r 5) (r 0) (r 1) m) (tr (X7 (Xc (fun i r m=>Qtn G i (r 5) (r 0) (r 1) m) (fun _ _=>rfl) (fun i0=>fun r m=>by kernel_rfl))))))))) m
def Q1z1:En:=⟨Qnh,Tryz.f369,Tryz.func369,by kernel_rfl,arg2 Q111,Xf Q1z4⟩
end
end Go.Ab.Sh

set_option linter.unusedVariables false
set_option maxRecDepth 100000
namespace Go.Ab.Sh
open Go Go.Ab Go.Proofs
noncomputable section
def Qbf (G:Gt)(k0:J5)(p8 p2 p1 p3 p0:V)(m:M):R:=bp (pur (bin .add true true .int p8 (.int .i64 1)) m) fun x0 m=>k0 x0 p2 p1 p3 p0 m
def Q4o (G:Gt)(k1:J6)(k0:J5)(p34 p0 p9 p1 p3 p8 p2:V)(m:M):R:=brb p34 (bp (pur (bin .sub true true .int p9 (.int .i64 1)) m) fun x1 m=>bp (pur (bin .sub true true .int p9 (.int .i64 1)) m) fun x2 m=>bp (pur (X3 2 p0 x2) m) fun x3 m=>bp (pur (X4 true 2 x3 m) m) fun x4 m=>bp (pur (X3 2 p0 p9) m) fun x5 m=>bp (pur (X4 true 2 x5 m) m) fun x6 m=>bp (pur (X3 2 p0 p9) m) fun x7 m=>bp (unt (X8 2 x7 x4 m)) fun _ m=>bp (pur (X3 2 p0 x1) m) fun x8 m=>bp (unt (X8 2 x8 x6 m)) fun _ m=>bp (pur (bin .sub true true .int p9 (.int .i64 1)) m) fun x9 m=>k1 x9 p1 p3 p0 p8 p2 m) (Qbf G k0 p8 p2 p1 p3 p0 m)
def Q1t (G:Gt)(k0:J5):Nat→V→V→V→V→V→V→M→R
 | 0,_,_,_,_,_,_,_=>none
 | i + 1,p9,p1,p3,p0,p8,p2,m=>bp (pur (bin .gtr false true .int p9 p1) m) fun x10 m=>brt x10 (bp (pur (X3 2 p0 p9) m) fun x11 m=>bp (pur (X4 true 2 x11 m) m) fun x12 m=>bp (pur (bin .sub true true .int p9 (.int .i64 1)) m) fun x13 m=>bp (pur (X3 2 p0 x13) m) fun x14 m=>bp (pur (X4 true 2 x14 m) m) fun x15 m=>bp (Xj G.tab p3 [x12,x15] m) fun x16 m=>bp (pur (bin .lss true true .int x16 (.int .i64 0)) m) fun x17 m=>Q4o G (Q1t G k0 i) k0 x17 p0 p9 p1 p3 p8 p2 m) (Q4o G (Q1t G k0 i) k0 (.bool false) p0 p9 p1 p3 p8 p2 m) (none)
def Qbg (G:Gt)(k0:J5)(p9 p1 p3 p0 p8 p2:V)(m:M):R:=Q1t G k0 G.rds p9 p1 p3 p0 p8 p2 m
def Qbh (G:Gt)(k0:J5)(p8 p1 p3 p0 p2:V)(m:M):R:=Qbg G k0 p8 p1 p3 p0 p8 p2 m
def Ql (G:Gt):Nat→V→V→V→V→V→M→R
 | 0,_,_,_,_,_,_=>none
 | i + 1,p8,p2,p1,p3,p0,m=>bp (pur (bin .lss false true .int p8 p2) m) fun x18 m=>brb x18 (Qbh G (Ql G i) p8 p1 p3 p0 p2 m) (some (.tuple ⟨[]⟩,m))
def Qbi (G:Gt)(p8 p2 p1 p3 p0:V)(m:M):R:=Ql G G.rds p8 p2 p1 p3 p0 m
def Q5o (G:Gt)(p1 p2 p3 p0:V)(m:M):R:=bp (pur (bin .add true true .int p1 (.int .i64 1)) m) fun x19 m=>Qbi G x19 p2 p1 p3 p0 m
theorem Qrh (G:Gt)(a0 a1 a2 a3:V)(m:M):ef G Tryz.f372 [a0,a1,a2,a3] m = Q5o G a1 a2 a3 a0 m:=X6 (r:=fun r m=>Q5o G (r 1) (r 2) (r 3) (r 0) m) rfl rfl (tr (seqQ (f:=fun r m=>Qbi G (r 8) (r 2) (r 1) (r 3) (r 0) m) (tr (X7 (Xc (fun i r m=>Ql G i (r 8) (r 2) (r 1) (r 3) (r 0) m) (fun _ _=>rfl) (fun i0=>tr (seqQ (f:=fun r m=>Qbh G (Ql G i0) (r 8) (r 1) (r 3) (r 0) (r 2) m) (tr (tr (seqQ (f:=fun r m=>Qbf G (Ql G i0) (r 8) (r 2) (r 1) (r 3) (r 0) m)) (X7 (seqQ (f:=fun r m=>Qbg G (Ql G i0) (r 9) (r 1) (r 3) (r 0) (r 8) (r 2) m) (tr (X7 (Xc (fun i r m=>Q1t G (Ql G i0) i (r 9) (r 1) (r 3) (r 0) (r 8) (r 2) m) (fun _ _=>rfl) (fun i1=>tr (tr seqD (seqQ (f:=fun r m=>Q4o G (Q1t G (Ql G i0) i1) (Ql G i0) (r 34) (r 0) (r 9) (r 1) (r 3) (r 8) (r 2) m)))))))))))))))))) m
def Qrb:En:=⟨Qdc,Tryz.f372,Tryz.func372,by kernel_rfl,arg4 (fun G a0 a1 a2 a3 m=>Q5o G a1 a2 a3 a0 m),X19 Qrh⟩
def Qmu (G:Gt)(m:M):R:=bp (some (Xp m)) fun x0 m=>bp (pur (Xe Q1lg [(0,1),(1,33)] [(0,x0)]) m) fun x1 m=>bp (some (aNew Q1lf (Value.cells x1).toList m)) fun x2 m=>some (x2,m)
theorem Q1nn (G:Gt)(m:M):ef G Tryz.f380 [] m = Qmu G m:=X6 (r:=fun r m=>Qmu G m) rfl rfl (fun r m=>by kernel_rfl) m
def Q1nl:En:=⟨Q122,Tryz.f380,Tryz.func380,by kernel_rfl,arg0 (fun G  m=>Qmu G m),X9s Q1nn⟩
def Qel (G:Gt)(p1 p0:V)(m:M):R:=bp (some (aNew Qs (Value.cells p1).toList m)) fun x0 m=>bp (pur (binP m .eql true true .ptr p0 (.pointer none)) m) fun x1 m=>brb x1 (some (.tuple ⟨[(.slice none 0 0),(.bool false)]⟩,m)) (bp (pur (X9 p0) m) fun x2 m=>bp (pur (X0 0 x2) m) fun x3 m=>bp (pur (X4 false 1 x3 m) m) fun x4 m=>bp (pur (X4 true 2 x0 m) m) fun x5 m=>bp (pur (Xg (.struct [(0,1,false,.int),(1,1,false,.int)]) (.slice none 0 0) true x4 x5 m) m) fun x6 m=>bp (pur (X5 x6 0) m) fun x7 m=>bp (pur (X5 x6 1) m) fun x8 m=>some (.tuple ⟨[x7,x8]⟩,m))
theorem Q1fu (G:Gt)(a0 a1:V)(m:M):ef G Tryz.f381 [a0,a1] m = Qel G a1 a0 m:=X6 (r:=fun r m=>Qel G (r 1) (r 0) m) rfl rfl (fun r m=>by kernel_rfl) m
def Q1ft:En:=⟨Qp6,Tryz.f381,Tryz.func381,by kernel_rfl,arg2 (fun G a0 a1 m=>Qel G a1 a0 m),Xf Q1fu⟩
def Qc2 (G:Gt)(p0 p4 p2:V)(m:M):R:=bp (pur (X9 p0) m) fun x0 m=>bp (pur (X0 0 x0) m) fun x1 m=>bp (pur (X4 false 1 x1 m) m) fun x2 m=>bp (pur (X4 true 2 p4 m) m) fun x3 m=>bp (unt (Xd (.struct [(0,1,false,.int),(1,1,false,.int)]) x2 x3 p2 m)) fun _ m=>some ((.int .i64 0),m)
def Qln (G:Gt)(p0 p4 p2:V)(m:M):R:=bp (pur (X9 p0) m) fun x4 m=>bp (pur (X0 0 x4) m) fun x5 m=>bp (pur (X4 false 1 x5 m) m) fun x6 m=>bp (pur (X4 true 2 p4 m) m) fun x7 m=>bp (pur (Xg (.struct [(0,1,false,.int),(1,1,false,.int)]) (.slice none 0 0) true x6 x7 m) m) fun x8 m=>bp (pur (X5 x8 0) m) fun x9 m=>bp (pur (X5 x8 1) m) fun x10 m=>bp (pur (un .not x10) m) fun x11 m=>brb x11 (bp (pur (X0 1 p4) m) fun x12 m=>bp (pur (X4 false 1 x12 m) m) fun x13 m=>bp (pur (X9 p0) m) fun x14 m=>bp (pur (X0 1 x14) m) fun x15 m=>bp (pur (Xt 33 1 x15 x13) m) fun x16 m=>bp (pur (X4 false 1 x16 m) m) fun x17 m=>bp (pur (bin .add true true .int x17 (.int .i64 1)) m) fun x18 m=>bp (pur (X9 p0) m) fun x19 m=>bp (pur (X0 1 x19) m) fun x20 m=>bp (pur (Xt 33 1 x20 x13) m) fun x21 m=>bp (unt (X8 1 x21 x18 m)) fun _ m=>Qc2 G p0 p4 p2 m) (Qc2 G p0 p4 p2 m)
def Qlo (G:Gt)(p4 p0 p2:V)(m:M):R:=bp (pur (X4 true 2 p4 m) m) fun x22 m=>bp (G.tab Q1cf [x22] m) fun x23 m=>bp (pur (bin .neq true true .int x23 (.int .i64 0)) m) fun x24 m=>brb x24 (some (x23,m)) (Qln G p0 p4 p2 m)
def Qlp (G:Gt)(p0 p4 p2:V)(m:M):R:=bp (pur (binP m .eql true true .ptr p0 (.pointer none)) m) fun x25 m=>brb x25 (some ((.int .i64 2),m)) (Qlo G p4 p0 p2 m)
def Qeb (G:Gt)(p1 p0 p2:V)(m:M):R:=bp (some (aNew Qs (Value.cells p1).toList m)) fun x26 m=>Qlp G p0 x26 p2 m
theorem Q1fm (G:Gt)(a0 a1 a2:V)(m:M):ef G Tryz.f382 [a0,a1,a2] m = Qeb G a1 a0 a2 m:=X6 (r:=fun r m=>Qeb G (r 1) (r 0) (r 2) m) rfl rfl (tr (seqQ (f:=fun r m=>Qlp G (r 0) (r 4) (r 2) m) (tr (seqQ (f:=fun r m=>Qlo G (r 4) (r 0) (r 2) m) (tr (seqQ (f:=fun r m=>Qln G (r 0) (r 4) (r 2) m) (tr (seqQ (f:=fun r m=>Qc2 G (r 0) (r 4) (r 2) m))))))))) m
def Q1fh:En:=⟨Qni,Tryz.f382,Tryz.func382,by kernel_rfl,arg3 (fun G a0 a1 a2 m=>Qeb G a1 a0 a2 m),Xr Q1fm⟩
def Q89 (G:Gt)(p0:V)(m:M):R:=bp (pur (lenK 1 p0 m) m) fun x0 m=>bp (pur (lenK 1 p0 m) m) fun x1 m=>bp (pur (X4u 9 p0 none x0 x1) m) fun x2 m=>some (x2,m)
theorem Q112 (G:Gt)(a0:V)(m:M):ef G Tryz.f383 [a0] m = Q89 G a0 m:=X6 (r:=fun r m=>Q89 G (r 0) m) rfl rfl (fun r m=>by kernel_rfl) m
def Q10s:En:=⟨Qgz,Tryz.f383,Tryz.func383,by kernel_rfl,arg1 Q89,Xk Q112⟩
def Q95 (G:Gt)(p0 p1:V)(m:M):R:=bp (some (aNew Qs Q1c m)) fun x0 m=>bp (G.tab Qm6 [p0,p1] m) fun x1 m=>bp (pur (lenK 1 x1 m) m) fun x2 m=>bp (pur (bin .eql true true .int x2 (.int .i64 0)) m) fun x3 m=>brb x3 (bp (pur (X4 true 2 x0 m) m) fun x4 m=>bp (unt (X8 2 x0 x4 m)) fun _ m=>ob (ob (X4 true 2 x0 m) fun v=>ob (some [(.slice none 0 0),(.bool false)]) fun l=>some (v :: l)) fun l=>some (X1c l,m)) (bp (pur (lenK 1 x1 m) m) fun x5 m=>bp (pur (bin .sub true true .int x5 (.int .i64 1)) m) fun x6 m=>bp (pur (X3 2 x1 x6) m) fun x7 m=>bp (pur (X4 true 2 x7 m) m) fun x8 m=>bp (unt (X8 2 x0 x8 m)) fun _ m=>bp (pur (X4 true 2 x0 m) m) fun x9 m=>bp (pur (X9 p0) m) fun x10 m=>bp (pur (X0 0 x10) m) fun x11 m=>bp (pur (X4 false 1 x11 m) m) fun x12 m=>bp (pur (X4 true 2 x0 m) m) fun x13 m=>bp (pur (Xg (.struct [(0,1,false,.int),(1,1,false,.int)]) (.slice none 0 0) false x12 x13 m) m) fun x14 m=>bp (unt (X8 2 x0 x9 m)) fun _ m=>ckB (again (pur (X4 false 1 x11 m) m) x12 && (again (pur (Xg (.struct [(0,1,false,.int),(1,1,false,.int)]) (.slice none 0 0) false x12 x13 m) m) x14 && true)) (ob (ob (X4 true 2 x0 m) fun v=>ob (some [x14,(.bool true)]) fun l=>some (v :: l)) fun l=>some (X1c l,m)))
theorem Q145 (G:Gt)(a0 a1:V)(m:M):ef G Tryz.f384 [a0,a1] m = Q95 G a0 a1 m:=X6 (r:=fun r m=>Q95 G (r 0) (r 1) m) rfl rfl (fun r m=>by kernel_rfl) m
def Q13z:En:=⟨Qis,Tryz.f384,Tryz.func384,by kernel_rfl,arg2 Q95,Xf Q145⟩
def Q1ke (G:Gt)(p0:V)(m:M):R:=bp (G.tab Qf8 [p0] m) fun x0 m=>bp (G.tab Qdz [x0,(.func (.func Q27e) #[] #[])] m) fun x1 m=>bp (G.tab Qeh [x0] m) fun x2 m=>some (x2,m)
theorem Q26o (G:Gt)(a0:V)(m:M):ef G Tryz.f385 [a0] m = Q1ke G a0 m:=X6 (r:=fun r m=>Q1ke G (r 0) m) rfl rfl (fun r m=>by kernel_rfl) m
def Q26l:En:=⟨Q1ud,Tryz.f385,Tryz.func385,by kernel_rfl,arg1 Q1ke,Xk Q26o⟩
def Q8p (G:Gt)(k0:J7)(p97 p0 p1 p2 p13 p4 p3 p10 p11 p12:V)(m:M):R:=brb p97 (bp (G.tab Quq [p0,p1,p2,p13,p4] m) fun x0 m=>k0 p2 x0 p0 p4 p3 p10 p11 m) (bp (G.tab Q13v [p0,p1,p2,p13,p4] m) fun x1 m=>bp (pur (X5 x1 0) m) fun x2 m=>bp (pur (X5 x1 1) m) fun x3 m=>bp (pur (bin .sub false true .int x2 p1) m) fun x4 m=>bp (pur (bin .sub false true .int p2 x2) m) fun x5 m=>bp (pur (bin .quo true true .int p12 (.int .i64 8)) m) fun x6 m=>bp (pur (bin .lss false true .int x4 x5) m) fun x7 m=>brb x7 (bp (pur (bin .geq false true .int x4 x6) m) fun x8 m=>bp (G.tab Q67 [p0,p1,x2,p3,p4] m) fun x9 m=>bp (pur (bin .add true true .int x2 (.int .i64 1)) m) fun x10 m=>k0 p2 x10 p0 p4 p3 x8 x3 m) (bp (pur (bin .geq false true .int x5 x6) m) fun x11 m=>bp (pur (bin .add true true .int x2 (.int .i64 1)) m) fun x12 m=>bp (G.tab Q67 [p0,x12,p2,p3,p4] m) fun x13 m=>k0 x2 p1 p0 p4 p3 x11 x3 m))
def Q96 (G:Gt)(k0:J7)(p1 p4 p0 p13 p2 p3 p10 p11 p12:V)(m:M):R:=bp (pur (bin .gtr true true .int p1 (.int .i64 0)) m) fun x14 m=>brt x14 (bp (pur (bin .sub true true .int p1 (.int .i64 1)) m) fun x15 m=>bp (pur (X3 2 p0 x15) m) fun x16 m=>bp (pur (X4 true 2 x16 m) m) fun x17 m=>bp (pur (X3 2 p0 p13) m) fun x18 m=>bp (pur (X4 true 2 x18 m) m) fun x19 m=>bp (Xj G.tab p4 [x17,x19] m) fun x20 m=>bp (pur (bin .lss true true .int x20 (.int .i64 0)) m) fun x21 m=>bp (pur (un .not x21) m) fun x22 m=>Q8p G k0 x22 p0 p1 p2 p13 p4 p3 p10 p11 p12 m) (Q8p G k0 (.bool false) p0 p1 p2 p13 p4 p3 p10 p11 p12 m) (none)
def Q4f (G:Gt)(k0:J7)(p75 p0 p1 p2 p4 p13 p3 p10 p11 p12:V)(m:M):R:=brb p75 (bp (G.tab Qnj [p0,p1,p2,p4] m) fun x23 m=>brb x23 (some (.tuple ⟨[]⟩,m)) (Q96 G k0 p1 p4 p0 p13 p2 p3 p10 p11 p12 m)) (Q96 G k0 p1 p4 p0 p13 p2 p3 p10 p11 p12 m)
def Q97 (G:Gt)(k0:J7)(p10 p11 p14 p0 p1 p2 p4 p13 p3 p12:V)(m:M):R:=brb p10 (brb p11 (bp (pur (bin .eql true true .int p14 (.int .i64 1)) m) fun x24 m=>Q4f G k0 x24 p0 p1 p2 p4 p13 p3 p10 p11 p12 m) (Q4f G k0 (.bool false) p0 p1 p2 p4 p13 p3 p10 p11 p12 m)) (Q4f G k0 (.bool false) p0 p1 p2 p4 p13 p3 p10 p11 p12 m)
def Qit (G:Gt)(k0:J7)(p14 p0 p1 p2 p4 p13 p10 p11 p3 p12:V)(m:M):R:=bp (pur (bin .eql true true .int p14 (.int .i64 2)) m) fun x25 m=>brb x25 (bp (G.tab Qy5 [p0,p1,p2,p4] m) fun x26 m=>bp (pur (bin .sub true true .int p2 (.int .i64 1)) m) fun x27 m=>bp (pur (bin .sub false true .int p13 p1) m) fun x28 m=>bp (pur (bin .sub false true .int x27 x28) m) fun x29 m=>Q97 G k0 p10 p11 (.int .i64 1) p0 p1 p2 p4 x29 p3 p12 m) (Q97 G k0 p10 p11 p14 p0 p1 p2 p4 p13 p3 p12 m)
def Q98 (G:Gt)(k0:J7)(p0 p1 p2 p4 p10 p11 p3 p12:V)(m:M):R:=bp (G.tab Q109 [p0,p1,p2,p4] m) fun x30 m=>bp (pur (X5 x30 0) m) fun x31 m=>bp (pur (X5 x30 1) m) fun x32 m=>Qit G k0 x32 p0 p1 p2 p4 x31 p10 p11 p3 p12 m
def Qiu (G:Gt)(k0:J7)(p10 p0 p1 p2 p4 p3 p11 p12:V)(m:M):R:=bp (pur (un .not p10) m) fun x33 m=>brb x33 (bp (G.tab Qvz [p0,p1,p2,p4] m) fun x34 m=>bp (pur (bin .sub true true .int p3 (.int .i64 1)) m) fun x35 m=>Q98 G k0 p0 p1 p2 p4 p10 p11 x35 p12 m) (Q98 G k0 p0 p1 p2 p4 p10 p11 p3 p12 m)
def Qiv (G:Gt)(k0:J7)(p3 p0 p1 p2 p4 p10 p11 p12:V)(m:M):R:=bp (pur (bin .eql true true .int p3 (.int .i64 0)) m) fun x36 m=>brb x36 (bp (G.tab Q162 [p0,p1,p2,p4] m) fun x37 m=>some (.tuple ⟨[]⟩,m)) (Qiu G k0 p10 p0 p1 p2 p4 p3 p11 p12 m)
def Qiw (G:Gt)(k0:J7)(p12 p0 p1 p2 p4 p3 p10 p11:V)(m:M):R:=bp (pur (bin .leq true true .int p12 (.int .i64 12)) m) fun x38 m=>brb x38 (bp (G.tab Qev [p0,p1,p2,p4] m) fun x39 m=>some (.tuple ⟨[]⟩,m)) (Qiv G k0 p3 p0 p1 p2 p4 p10 p11 p12 m)
def Qf (G:Gt):Nat→V→V→V→V→V→V→V→M→R
 | 0,_,_,_,_,_,_,_,_=>none
 | i + 1,p2,p1,p0,p4,p3,p10,p11,m=>bp (pur (bin .sub false true .int p2 p1) m) fun x40 m=>Qiw G (Qf G i) x40 p0 p1 p2 p4 p3 p10 p11 m
def Qix (G:Gt)(p2 p1 p0 p4 p3 p10 p11:V)(m:M):R:=Qf G G.rds p2 p1 p0 p4 p3 p10 p11 m
def Qiy (G:Gt)(p2 p1 p0 p4 p3 p10:V)(m:M):R:=Qix G p2 p1 p0 p4 p3 p10 (.bool true) m
def Qc3 (G:Gt)(p2 p1 p0 p4 p3:V)(m:M):R:=Qiy G p2 p1 p0 p4 p3 (.bool true) m
theorem Q18o (G:Gt)(a0 a1 a2 a3 a4:V)(m:M):ef G Tryz.f386 [a0,a1,a2,a3,a4] m = Qc3 G a2 a1 a0 a4 a3 m:=X6 (r:=fun r m=>Qc3 G (r 2) (r 1) (r 0) (r 4) (r 3) m) rfl rfl (tr (seqQ (f:=fun r m=>Qiy G (r 2) (r 1) (r 0) (r 4) (r 3) (r 10) m) (tr (seqQ (f:=fun r m=>Qix G (r 2) (r 1) (r 0) (r 4) (r 3) (r 10) (r 11) m) (tr (X7 (Xc (fun i r m=>Qf G i (r 2) (r 1) (r 0) (r 4) (r 3) (r 10) (r 11) m) (fun _ _=>rfl) (fun i0=>tr (X7 (seqQ (f:=fun r m=>Qiw G (Qf G i0) (r 12) (r 0) (r 1) (r 2) (r 4) (r 3) (r 10) (r 11) m) (tr (seqQ (f:=fun r m=>Qiv G (Qf G i0) (r 3) (r 0) (r 1) (r 2) (r 4) (r 10) (r 11) (r 12) m) (tr (seqQ (f:=fun r m=>Qiu G (Qf G i0) (r 10) (r 0) (r 1) (r 2) (r 4) (r 3) (r 11) (r 12) m) (tr (seqQ (f:=fun r m=>Q98 G (Qf G i0) (r 0) (r 1) (r 2) (r 4) (r 10) (r 11) (r 3) (r 12) m) (tr (seqQ (f:=fun r m=>Qit G (Qf G i0) (r 14) (r 0) (r 1) (r 2) (r 4) (r 13) (r 10) (r 11) (r 3) (r 12) m) (tr (seqQ (f:=fun r m=>Q97 G (Qf G i0) (r 10) (r 11) (r 14) (r 0) (r 1) (r 2) (r 4) (r 13) (r 3) (r 12) m) (tr (tr (seqQ (f:=fun r m=>Q96 G (Qf G i0) (r 1) (r 4) (r 0) (r 13) (r 2) (r 3) (r 10) (r 11) (r 12) m) (tr (tr seqD (seqQ (f:=fun r m=>Q8p G (Qf G i0) (r 97) (r 0) (r 1) (r 2) (r 13) (r 4) (r 3) (r 10) (r 11) (r 12) m))))) (seqQ (f:=fun r m=>Q4f G (Qf G i0) (r 75) (r 0) (r 1) (r 2) (r 4) (r 13) (r 3) (r 10) (r 11) (r 12) m)))))))))))))))))))))))) m
def Q18m:En:=⟨Q67,Tryz.f386,Tryz.func386,by kernel_rfl,arg5 (fun G a0 a1 a2 a3 a4 m=>Qc3 G a2 a1 a0 a4 a3 m),X30 Q18o⟩
def Q175 (G:Gt)(m:M):R:=some ((.int .i64 0),m)
def Qom (G:Gt):Nat→V→V→M→R
 | 0,_,_,_=>none
 | i + 1,p3,p0,m=>bp (pur (lenK 1 p0 m) m) fun x0 m=>bp (pur (bin .lss false true .int p3 x0) m) fun x1 m=>brb x1 (bp (pur (X3 1 p0 p3) m) fun x2 m=>bp (pur (X4 false 1 x2 m) m) fun x3 m=>bp (pur (bin .neq true true .int x3 (.int .i64 0)) m) fun x4 m=>brb x4 (bp (pur (X3 1 p0 p3) m) fun x5 m=>bp (pur (X4 false 1 x5 m) m) fun x6 m=>some (x6,m)) (bp (pur (bin .add true true .int p3 (.int .i64 1)) m) fun x7 m=>(Qom G i) x7 p0 m)) (Q175 G m)
def Q176 (G:Gt)(p3 p0:V)(m:M):R:=Qom G G.rds p3 p0 m
def Q177 (G:Gt)(p0:V)(m:M):R:=Q176 G (.int .i64 0) p0 m
def Qto (G:Gt)(p0:V)(m:M):R:=Q177 G p0 m
theorem Q1st (G:Gt)(a0:V)(m:M):ef G Tryz.f387 [a0] m = Qto G a0 m:=X6 (r:=fun r m=>Qto G (r 0) m) rfl rfl (tr (seqQ (f:=fun r m=>Q177 G (r 0) m) (tr (tr (seqQ (f:=fun r m=>Q175 G m)) (seqQ (f:=fun r m=>Q176 G (r 3) (r 0) m) (tr (X7 (Xc (fun i r m=>Qom G i (r 3) (r 0) m) (fun _ _=>rfl) (fun i0=>fun r m=>by kernel_rfl))))))))) m
def Q1sq:En:=⟨Q8m,Tryz.f387,Tryz.func387,by kernel_rfl,arg1 Qto,Xk Q1st⟩
def Qqr (G:Gt)(p0 p1:V)(m:M):R:=bp (some (aNew Qs (Value.cells p0).toList m)) fun x0 m=>bp (some (aNew Qs (Value.cells p1).toList m)) fun x1 m=>bp (pur (X0 0 x0) m) fun x2 m=>bp (pur (X4 false 1 x2 m) m) fun x3 m=>bp (pur (X0 0 x1) m) fun x4 m=>bp (pur (X4 false 1 x4 m) m) fun x5 m=>bp (pur (bin .lss false true .int x3 x5) m) fun x6 m=>bp (pur (X0 0 x0) m) fun x7 m=>bp (pur (X4 false 1 x7 m) m) fun x8 m=>bp (pur (X0 0 x1) m) fun x9 m=>bp (pur (X4 false 1 x9 m) m) fun x10 m=>bp (pur (bin .gtr false true .int x8 x10) m) fun x11 m=>bp (pur (X0 1 x0) m) fun x12 m=>bp (pur (X4 false 1 x12 m) m) fun x13 m=>bp (pur (X0 1 x1) m) fun x14 m=>bp (pur (X4 false 1 x14 m) m) fun x15 m=>bp (pur (bin .lss false true .int x13 x15) m) fun x16 m=>bp (pur (X0 1 x0) m) fun x17 m=>bp (pur (X4 false 1 x17 m) m) fun x18 m=>bp (pur (X0 1 x1) m) fun x19 m=>bp (pur (X4 false 1 x19 m) m) fun x20 m=>bp (pur (bin .gtr false true .int x18 x20) m) fun x21 m=>bp (G.tab Q1y [x6,x11] m) fun x22 m=>ckB (again (pur (X4 false 1 x12 m) m) x13 && (again (pur (X4 false 1 x14 m) m) x15 && (again (pur (X4 false 1 x17 m) m) x18 && (again (pur (X4 false 1 x19 m) m) x20 && true)))) (bp (G.tab Q1y [x16,x21] m) fun x23 m=>bp (Xa Q6s [(.int .i64 0)] 1 2 [(0,x22),(1,x23)] m) fun x24 m=>bp (G.tab Q8m [x24] m) fun x25 m=>some (x25,m))
theorem Q1r1 (G:Gt)(a0 a1:V)(m:M):ef G Tryz.f388 [a0,a1] m = Qqr G a0 a1 m:=X6 (r:=fun r m=>Qqr G (r 0) (r 1) m) rfl rfl (fun r m=>by kernel_rfl) m
def Q1qz:En:=⟨Q1aw,Tryz.f388,Tryz.func388,by kernel_rfl,arg2 Qqr,Xf Q1r1⟩
end
end Go.Ab.Sh
