/-
  Functions of the program as plain definitions. No conditions.
-/
import Derived.Test.YtaljkjdmllgmdaaGreatDoorAb5
import Derived.Test.YtaljkjdmllgmdaaGreatDoorZ
import Derived.KernelRfl
import Derived.Test.YtaljkjdmllgmdaaGreatDoorProg
set_option linter.unusedSimpArgs false
set_option linter.unusedVariables false
set_option maxRecDepth 100000
namespace Go.Ab.Sh
open Go Go.Ab Go.Proofs
noncomputable section
def Qst:En:=wE Qsu Tryz.f463 Tryz.func463 ⟨_,by go_invoke; rfl⟩
def Q1d7:En:=wE Q1d8 Tryz.f464 Tryz.func464 ⟨_,by go_invoke; rfl⟩
def Qxf (G:Gt)(p6:V)(m:M):R:=some (p6,m)
def Q1bc (G:Gt)(p1 p0 p2:V)(m:M):R:=bp (pur (bin .leq false true .int p1 p0) m) fun x0 m=>brb x0 (bp (pur (bin .leq false true .int p0 p2) m) fun x1 m=>Qxf G x1 m) (Qxf G (.bool false) m)
def Q14s (G:Gt)(p1 p0 p2:V)(m:M):R:=Q1bc G p1 p0 p2 m
theorem Q1yv (G:Gt)(a0 a1 a2:V)(m:M):ef G Tryz.f465 [a0,a1,a2] m = Q14s G a1 a0 a2 m:=X7 (r:=fun r m=>Q14s G (r 1) (r 0) (r 2) m) rfl rfl (tr (seqQ (f:=fun r m=>Q1bc G (r 1) (r 0) (r 2) m) (tr (seqQ (f:=fun r m=>Qxf G (r 6) m))))) m
def Q1yw:En:=⟨Qjc,Tryz.f465,Tryz.func465,by kernel_rfl,arg3 (fun G a0 a1 a2 m=>Q14s G a1 a0 a2 m),Xx Q1yv⟩
def Qf2 (G:Gt)(p0 p1 p2:V)(m:M):R:=bp (some (aNew Q21q (Value.cells p0).toList m)) fun x0 m=>bp (some (aNew Q4w (Value.cells p1).toList m)) fun x1 m=>bp (some (aNew Qw1 (Value.cells p2).toList m)) fun x2 m=>bp (pur (X3 false 1 x0 m) m) fun x3 m=>let x4:V:=(.func (.func Qnc) ⟨[]⟩ ⟨[x2,x0,x1]⟩);bp (pur (X3 false 1 x1 m) m) fun x5 m=>bp (G.tab Q3t [x3,x4] m) fun x6 m=>ckB (again (pur (X3 false 1 x1 m) m) x5 && true) (bp (pur (bin .eql false true .int x6 x5) m) fun x7 m=>some (x7,m))
theorem Q1bd (G:Gt)(a0 a1 a2:V)(m:M):ef G Tryz.f466 [a0,a1,a2] m = Qf2 G a0 a1 a2 m:=X7 (r:=fun r m=>Qf2 G (r 0) (r 1) (r 2) m) rfl rfl (fun r m=>by kernel_rfl) m
def Q1be:En:=⟨Qrl,Tryz.f466,Tryz.func466,by kernel_rfl,arg3 Qf2,Xx Q1bd⟩
def Qis:En:=wE Qit Tryz.f467 Tryz.func467 ⟨_,by go_invoke; rfl⟩
def Q16r:En:=wE Q16s Tryz.f468 Tryz.func468 ⟨_,by go_invoke; rfl⟩
def Q1jm:En:=wE Q1jn Tryz.f480 Tryz.func480 ⟨_,by go_invoke; rfl⟩
def Q1fb:En:=wE Q1fc Tryz.f483 Tryz.func483 ⟨_,by go_invoke; rfl⟩
def Q1pd:En:=wE Q1pe Tryz.f484 Tryz.func484 ⟨_,by go_invoke; rfl⟩
def Q9q (G:Gt)(k0:J4)(p6 p2 p1 p0:V)(m:M):R:=bp (pur (bin .add true true .int p6 (.int .i64 1)) m) fun x0 m=>k0 x0 p2 p1 p0 m
def Q4j (G:Gt)(k1:J5)(k0:J4)(p30 p0 p7 p1 p6 p2:V)(m:M):R:=brb p30 (bp (pur (bin .sub true true .int p7 (.int .i64 1)) m) fun x1 m=>bp (pur (bin .sub true true .int p7 (.int .i64 1)) m) fun x2 m=>bp (pur (X4 1 p0 x2) m) fun x3 m=>bp (pur (X3 false 1 x3 m) m) fun x4 m=>bp (pur (X4 1 p0 p7) m) fun x5 m=>bp (pur (X3 false 1 x5 m) m) fun x6 m=>bp (pur (X4 1 p0 p7) m) fun x7 m=>bp (unt (X8 1 x7 x4 m)) fun _ m=>bp (pur (X4 1 p0 x1) m) fun x8 m=>bp (unt (X8 1 x8 x6 m)) fun _ m=>bp (pur (bin .sub true true .int p7 (.int .i64 1)) m) fun x9 m=>k1 x9 p1 p0 p6 p2 m) (Q9q G k0 p6 p2 p1 p0 m)
def Q1v (G:Gt)(k0:J4):Nat→V→V→V→V→V→M→R
 | 0,_,_,_,_,_,_=>none
 | i + 1,p7,p1,p0,p6,p2,m=>bp (pur (bin .gtr false true .int p7 p1) m) fun x10 m=>brt x10 (bp (pur (X4 1 p0 p7) m) fun x11 m=>bp (pur (X3 false 1 x11 m) m) fun x12 m=>bp (pur (bin .sub true true .int p7 (.int .i64 1)) m) fun x13 m=>bp (pur (X4 1 p0 x13) m) fun x14 m=>bp (pur (X3 false 1 x14 m) m) fun x15 m=>bp (G.tab Q16k [x12,x15] m) fun x16 m=>Q4j G (Q1v G k0 i) k0 x16 p0 p7 p1 p6 p2 m) (Q4j G (Q1v G k0 i) k0 (.bool false) p0 p7 p1 p6 p2 m) (none)
def Q9r (G:Gt)(k0:J4)(p7 p1 p0 p6 p2:V)(m:M):R:=Q1v G k0 G.rds p7 p1 p0 p6 p2 m
def Q9s (G:Gt)(k0:J4)(p6 p1 p0 p2:V)(m:M):R:=Q9r G k0 p6 p1 p0 p6 p2 m
def Qk (G:Gt):Nat→V→V→V→V→M→R
 | 0,_,_,_,_,_=>none
 | i + 1,p6,p2,p1,p0,m=>bp (pur (bin .lss false true .int p6 p2) m) fun x17 m=>brb x17 (Q9s G (Qk G i) p6 p1 p0 p2 m) (some (.tuple ⟨[]⟩,m))
def Q9t (G:Gt)(p6 p2 p1 p0:V)(m:M):R:=Qk G G.rds p6 p2 p1 p0 m
def Q53 (G:Gt)(p1 p2 p0:V)(m:M):R:=bp (pur (bin .add true true .int p1 (.int .i64 1)) m) fun x18 m=>Q9t G x18 p2 p1 p0 m
theorem Qqb (G:Gt)(a0 a1 a2:V)(m:M):ef G Tryz.f486 [a0,a1,a2] m = Q53 G a1 a2 a0 m:=X7 (r:=fun r m=>Q53 G (r 1) (r 2) (r 0) m) rfl rfl (tr (seqQ (f:=fun r m=>Q9t G (r 6) (r 2) (r 1) (r 0) m) (tr (Xc (Xj (fun i r m=>Qk G i (r 6) (r 2) (r 1) (r 0) m) (fun _ _=>rfl) (fun i0=>tr (seqQ (f:=fun r m=>Q9s G (Qk G i0) (r 6) (r 1) (r 0) (r 2) m) (tr (tr (seqQ (f:=fun r m=>Q9q G (Qk G i0) (r 6) (r 2) (r 1) (r 0) m)) (Xc (seqQ (f:=fun r m=>Q9r G (Qk G i0) (r 7) (r 1) (r 0) (r 6) (r 2) m) (tr (Xc (Xj (fun i r m=>Q1v G (Qk G i0) i (r 7) (r 1) (r 0) (r 6) (r 2) m) (fun _ _=>rfl) (fun i1=>tr (tr seqD (seqQ (f:=fun r m=>Q4j G (Q1v G (Qk G i0) i1) (Qk G i0) (r 30) (r 0) (r 7) (r 1) (r 6) (r 2) m)))))))))))))))))) m
def Qqc:En:=⟨Qak,Tryz.f486,Tryz.func486,by kernel_rfl,arg3 (fun G a0 a1 a2 m=>Q53 G a1 a2 a0 m),Xx Qqb⟩
def Q5z (G:Gt)(k0:J4)(p6 p1 p0 p2:V)(m:M):R:=bp (pur (bin .mul true true .int p6 (.int .i64 2)) m) fun x0 m=>k0 x0 p1 p0 p2 m
def Qc4 (G:Gt)(k0:J4)(p7 p6 p1 p0 p2:V)(m:M):R:=bp (pur (bin .add false true .int p7 p6) m) fun x1 m=>bp (pur (bin .lss false true .int x1 p1) m) fun x2 m=>brb x2 (bp (G.tab Qc5 [p0,p7,x1,p1,p2] m) fun x3 m=>Q5z G k0 p6 p1 p0 p2 m) (Q5z G k0 p6 p1 p0 p2 m)
def Q60 (G:Gt)(k0:J4):Nat→V→V→V→V→V→V→M→R
 | 0,_,_,_,_,_,_,_=>none
 | i + 1,p8,p1,p0,p7,p6,p2,m=>bp (pur (bin .leq false true .int p8 p1) m) fun x4 m=>brb x4 (bp (pur (bin .add false true .int p7 p6) m) fun x5 m=>bp (G.tab Qc5 [p0,p7,x5,p8,p2] m) fun x6 m=>bp (pur (bin .mul true true .int (.int .i64 2) p6) m) fun x7 m=>bp (pur (bin .add false true .int p8 x7) m) fun x8 m=>(Q60 G k0 i) x8 p1 p0 p8 p6 p2 m) (Qc4 G k0 p7 p6 p1 p0 p2 m)
def Qc6 (G:Gt)(k0:J4)(p8 p1 p0 p7 p6 p2:V)(m:M):R:=Q60 G k0 G.rds p8 p1 p0 p7 p6 p2 m
def Qc7 (G:Gt)(k0:J4)(p6 p1 p0 p2:V)(m:M):R:=bp (pur (bin .mul true true .int (.int .i64 2) p6) m) fun x9 m=>Qc6 G k0 x9 p1 p0 (.int .i64 0) p6 p2 m
def Qy (G:Gt):Nat→V→V→V→V→M→R
 | 0,_,_,_,_,_=>none
 | i + 1,p6,p1,p0,p2,m=>bp (pur (bin .lss false true .int p6 p1) m) fun x10 m=>brb x10 (Qc7 G (Qy G i) p6 p1 p0 p2 m) (some (.tuple ⟨[]⟩,m))
def Qc8 (G:Gt)(p6 p1 p0 p2:V)(m:M):R:=Qy G G.rds p6 p1 p0 p2 m
def Qc9 (G:Gt)(p0 p7 p1 p2 p6:V)(m:M):R:=bp (G.tab Q48 [p0,p7,p1,p2] m) fun x11 m=>Qc8 G p6 p1 p0 p2 m
def Q5n (G:Gt):Nat→V→V→V→V→V→V→M→R
 | 0,_,_,_,_,_,_,_=>none
 | i + 1,p8,p1,p0,p7,p2,p6,m=>bp (pur (bin .leq false true .int p8 p1) m) fun x12 m=>brb x12 (bp (G.tab Q48 [p0,p7,p8,p2] m) fun x13 m=>bp (pur (bin .add false true .int p8 p6) m) fun x14 m=>(Q5n G i) x14 p1 p0 p8 p2 p6 m) (Qc9 G p0 p7 p1 p2 p6 m)
def Qca (G:Gt)(p8 p1 p0 p7 p2 p6:V)(m:M):R:=Q5n G G.rds p8 p1 p0 p7 p2 p6 m
def Qcb (G:Gt)(p6 p1 p0 p2:V)(m:M):R:=Qca G p6 p1 p0 (.int .i64 0) p2 p6 m
def Q6r (G:Gt)(p1 p0 p2:V)(m:M):R:=Qcb G (.int .i64 20) p1 p0 p2 m
theorem Qw2 (G:Gt)(a0 a1 a2:V)(m:M):ef G Tryz.f496 [a0,a1,a2] m = Q6r G a1 a0 a2 m:=X7 (r:=fun r m=>Q6r G (r 1) (r 0) (r 2) m) rfl rfl (tr (seqQ (f:=fun r m=>Qcb G (r 6) (r 1) (r 0) (r 2) m) (tr (seqQ (f:=fun r m=>Qca G (r 8) (r 1) (r 0) (r 7) (r 2) (r 6) m) (tr (tr (seqQ (f:=fun r m=>Qc9 G (r 0) (r 7) (r 1) (r 2) (r 6) m) (tr (seqQ (f:=fun r m=>Qc8 G (r 6) (r 1) (r 0) (r 2) m) (tr (Xc (Xj (fun i r m=>Qy G i (r 6) (r 1) (r 0) (r 2) m) (fun _ _=>rfl) (fun i0=>tr (seqQ (f:=fun r m=>Qc7 G (Qy G i0) (r 6) (r 1) (r 0) (r 2) m) (tr (Xc (seqQ (f:=fun r m=>Qc6 G (Qy G i0) (r 8) (r 1) (r 0) (r 7) (r 6) (r 2) m) (tr (tr (seqQ (f:=fun r m=>Qc4 G (Qy G i0) (r 7) (r 6) (r 1) (r 0) (r 2) m) (tr (seqQ (f:=fun r m=>Q5z G (Qy G i0) (r 6) (r 1) (r 0) (r 2) m)))) (Xc (Xj (fun i r m=>Q60 G (Qy G i0) i (r 8) (r 1) (r 0) (r 7) (r 6) (r 2) m) (fun _ _=>rfl) (fun i1=>fun r m=>by kernel_rfl)))))))))))))))) (Xc (Xj (fun i r m=>Q5n G i (r 8) (r 1) (r 0) (r 7) (r 2) (r 6) m) (fun _ _=>rfl) (fun i0=>fun r m=>by kernel_rfl))))))))) m
def Qw3:En:=⟨Qee,Tryz.f496,Tryz.func496,by kernel_rfl,arg3 (fun G a0 a1 a2 m=>Q6r G a1 a0 a2 m),Xx Qw2⟩
def Q5o (G:Gt)(k0:J4)(p6 p1 p0 p2:V)(m:M):R:=bp (pur (bin .mul true true .int p6 (.int .i64 2)) m) fun x0 m=>k0 x0 p1 p0 p2 m
def Qba (G:Gt)(k0:J4)(p7 p6 p1 p0 p2:V)(m:M):R:=bp (pur (bin .add false true .int p7 p6) m) fun x1 m=>bp (pur (bin .lss false true .int x1 p1) m) fun x2 m=>brb x2 (bp (G.tab Qbb [p0,p7,x1,p1,p2] m) fun x3 m=>Q5o G k0 p6 p1 p0 p2 m) (Q5o G k0 p6 p1 p0 p2 m)
def Q5p (G:Gt)(k0:J4):Nat→V→V→V→V→V→V→M→R
 | 0,_,_,_,_,_,_,_=>none
 | i + 1,p8,p1,p0,p7,p6,p2,m=>bp (pur (bin .leq false true .int p8 p1) m) fun x4 m=>brb x4 (bp (pur (bin .add false true .int p7 p6) m) fun x5 m=>bp (G.tab Qbb [p0,p7,x5,p8,p2] m) fun x6 m=>bp (pur (bin .mul true true .int (.int .i64 2) p6) m) fun x7 m=>bp (pur (bin .add false true .int p8 x7) m) fun x8 m=>(Q5p G k0 i) x8 p1 p0 p8 p6 p2 m) (Qba G k0 p7 p6 p1 p0 p2 m)
def Qbc (G:Gt)(k0:J4)(p8 p1 p0 p7 p6 p2:V)(m:M):R:=Q5p G k0 G.rds p8 p1 p0 p7 p6 p2 m
def Qbd (G:Gt)(k0:J4)(p6 p1 p0 p2:V)(m:M):R:=bp (pur (bin .mul true true .int (.int .i64 2) p6) m) fun x9 m=>Qbc G k0 x9 p1 p0 (.int .i64 0) p6 p2 m
def Qu (G:Gt):Nat→V→V→V→V→M→R
 | 0,_,_,_,_,_=>none
 | i + 1,p6,p1,p0,p2,m=>bp (pur (bin .lss false true .int p6 p1) m) fun x10 m=>brb x10 (Qbd G (Qu G i) p6 p1 p0 p2 m) (some (.tuple ⟨[]⟩,m))
def Qbe (G:Gt)(p6 p1 p0 p2:V)(m:M):R:=Qu G G.rds p6 p1 p0 p2 m
def Qbf (G:Gt)(p0 p7 p1 p2 p6:V)(m:M):R:=bp (G.tab Q3v [p0,p7,p1,p2] m) fun x11 m=>Qbe G p6 p1 p0 p2 m
def Q54 (G:Gt):Nat→V→V→V→V→V→V→M→R
 | 0,_,_,_,_,_,_,_=>none
 | i + 1,p8,p1,p0,p7,p2,p6,m=>bp (pur (bin .leq false true .int p8 p1) m) fun x12 m=>brb x12 (bp (G.tab Q3v [p0,p7,p8,p2] m) fun x13 m=>bp (pur (bin .add false true .int p8 p6) m) fun x14 m=>(Q54 G i) x14 p1 p0 p8 p2 p6 m) (Qbf G p0 p7 p1 p2 p6 m)
def Qbg (G:Gt)(p8 p1 p0 p7 p2 p6:V)(m:M):R:=Q54 G G.rds p8 p1 p0 p7 p2 p6 m
def Qbh (G:Gt)(p6 p1 p0 p2:V)(m:M):R:=Qbg G p6 p1 p0 (.int .i64 0) p2 p6 m
def Q68 (G:Gt)(p1 p0 p2:V)(m:M):R:=Qbh G (.int .i64 20) p1 p0 p2 m
theorem Qua (G:Gt)(a0 a1 a2:V)(m:M):ef G Tryz.f497 [a0,a1,a2] m = Q68 G a1 a0 a2 m:=X7 (r:=fun r m=>Q68 G (r 1) (r 0) (r 2) m) rfl rfl (tr (seqQ (f:=fun r m=>Qbh G (r 6) (r 1) (r 0) (r 2) m) (tr (seqQ (f:=fun r m=>Qbg G (r 8) (r 1) (r 0) (r 7) (r 2) (r 6) m) (tr (tr (seqQ (f:=fun r m=>Qbf G (r 0) (r 7) (r 1) (r 2) (r 6) m) (tr (seqQ (f:=fun r m=>Qbe G (r 6) (r 1) (r 0) (r 2) m) (tr (Xc (Xj (fun i r m=>Qu G i (r 6) (r 1) (r 0) (r 2) m) (fun _ _=>rfl) (fun i0=>tr (seqQ (f:=fun r m=>Qbd G (Qu G i0) (r 6) (r 1) (r 0) (r 2) m) (tr (Xc (seqQ (f:=fun r m=>Qbc G (Qu G i0) (r 8) (r 1) (r 0) (r 7) (r 6) (r 2) m) (tr (tr (seqQ (f:=fun r m=>Qba G (Qu G i0) (r 7) (r 6) (r 1) (r 0) (r 2) m) (tr (seqQ (f:=fun r m=>Q5o G (Qu G i0) (r 6) (r 1) (r 0) (r 2) m)))) (Xc (Xj (fun i r m=>Q5p G (Qu G i0) i (r 8) (r 1) (r 0) (r 7) (r 6) (r 2) m) (fun _ _=>rfl) (fun i1=>fun r m=>by kernel_rfl)))))))))))))))) (Xc (Xj (fun i r m=>Q54 G i (r 8) (r 1) (r 0) (r 7) (r 2) (r 6) m) (fun _ _=>rfl) (fun i0=>fun r m=>by kernel_rfl))))))))) m
def Qub:En:=⟨Qcp,Tryz.f497,Tryz.func497,by kernel_rfl,arg3 (fun G a0 a1 a2 m=>Q68 G a1 a0 a2 m),Xx Qua⟩
def Q49 (G:Gt)(k0:J4)(p6 p1 p0 p2:V)(m:M):R:=bp (pur (bin .mul true true .int p6 (.int .i64 2)) m) fun x0 m=>k0 x0 p1 p0 p2 m
def Q98 (G:Gt)(k0:J4)(p7 p6 p1 p0 p2:V)(m:M):R:=bp (pur (bin .add false true .int p7 p6) m) fun x1 m=>bp (pur (bin .lss false true .int x1 p1) m) fun x2 m=>brb x2 (bp (G.tab Q99 [p0,p7,x1,p1,p2] m) fun x3 m=>Q49 G k0 p6 p1 p0 p2 m) (Q49 G k0 p6 p1 p0 p2 m)
def Q4a (G:Gt)(k0:J4):Nat→V→V→V→V→V→V→M→R
 | 0,_,_,_,_,_,_,_=>none
 | i + 1,p8,p1,p0,p7,p6,p2,m=>bp (pur (bin .leq false true .int p8 p1) m) fun x4 m=>brb x4 (bp (pur (bin .add false true .int p7 p6) m) fun x5 m=>bp (G.tab Q99 [p0,p7,x5,p8,p2] m) fun x6 m=>bp (pur (bin .mul true true .int (.int .i64 2) p6) m) fun x7 m=>bp (pur (bin .add false true .int p8 x7) m) fun x8 m=>(Q4a G k0 i) x8 p1 p0 p8 p6 p2 m) (Q98 G k0 p7 p6 p1 p0 p2 m)
def Q9a (G:Gt)(k0:J4)(p8 p1 p0 p7 p6 p2:V)(m:M):R:=Q4a G k0 G.rds p8 p1 p0 p7 p6 p2 m
def Q9b (G:Gt)(k0:J4)(p6 p1 p0 p2:V)(m:M):R:=bp (pur (bin .mul true true .int (.int .i64 2) p6) m) fun x9 m=>Q9a G k0 x9 p1 p0 (.int .i64 0) p6 p2 m
def Qp (G:Gt):Nat→V→V→V→V→M→R
 | 0,_,_,_,_,_=>none
 | i + 1,p6,p1,p0,p2,m=>bp (pur (bin .lss false true .int p6 p1) m) fun x10 m=>brb x10 (Q9b G (Qp G i) p6 p1 p0 p2 m) (some (.tuple ⟨[]⟩,m))
def Q9c (G:Gt)(p6 p1 p0 p2:V)(m:M):R:=Qp G G.rds p6 p1 p0 p2 m
def Q9d (G:Gt)(p0 p7 p1 p2 p6:V)(m:M):R:=bp (G.tab Q2x [p0,p7,p1,p2] m) fun x11 m=>Q9c G p6 p1 p0 p2 m
def Q3w (G:Gt):Nat→V→V→V→V→V→V→M→R
 | 0,_,_,_,_,_,_,_=>none
 | i + 1,p8,p1,p0,p7,p2,p6,m=>bp (pur (bin .leq false true .int p8 p1) m) fun x12 m=>brb x12 (bp (G.tab Q2x [p0,p7,p8,p2] m) fun x13 m=>bp (pur (bin .add false true .int p8 p6) m) fun x14 m=>(Q3w G i) x14 p1 p0 p8 p2 p6 m) (Q9d G p0 p7 p1 p2 p6 m)
def Q9e (G:Gt)(p8 p1 p0 p7 p2 p6:V)(m:M):R:=Q3w G G.rds p8 p1 p0 p7 p2 p6 m
def Q9f (G:Gt)(p6 p1 p0 p2:V)(m:M):R:=Q9e G p6 p1 p0 (.int .i64 0) p2 p6 m
def Q4u (G:Gt)(p1 p0 p2:V)(m:M):R:=Q9f G (.int .i64 20) p1 p0 p2 m
theorem Qob (G:Gt)(a0 a1 a2:V)(m:M):ef G Tryz.f498 [a0,a1,a2] m = Q4u G a1 a0 a2 m:=X7 (r:=fun r m=>Q4u G (r 1) (r 0) (r 2) m) rfl rfl (tr (seqQ (f:=fun r m=>Q9f G (r 6) (r 1) (r 0) (r 2) m) (tr (seqQ (f:=fun r m=>Q9e G (r 8) (r 1) (r 0) (r 7) (r 2) (r 6) m) (tr (tr (seqQ (f:=fun r m=>Q9d G (r 0) (r 7) (r 1) (r 2) (r 6) m) (tr (seqQ (f:=fun r m=>Q9c G (r 6) (r 1) (r 0) (r 2) m) (tr (Xc (Xj (fun i r m=>Qp G i (r 6) (r 1) (r 0) (r 2) m) (fun _ _=>rfl) (fun i0=>tr (seqQ (f:=fun r m=>Q9b G (Qp G i0) (r 6) (r 1) (r 0) (r 2) m) (tr (Xc (seqQ (f:=fun r m=>Q9a G (Qp G i0) (r 8) (r 1) (r 0) (r 7) (r 6) (r 2) m) (tr (tr (seqQ (f:=fun r m=>Q98 G (Qp G i0) (r 7) (r 6) (r 1) (r 0) (r 2) m) (tr (seqQ (f:=fun r m=>Q49 G (Qp G i0) (r 6) (r 1) (r 0) (r 2) m)))) (Xc (Xj (fun i r m=>Q4a G (Qp G i0) i (r 8) (r 1) (r 0) (r 7) (r 6) (r 2) m) (fun _ _=>rfl) (fun i1=>fun r m=>by kernel_rfl)))))))))))))))) (Xc (Xj (fun i r m=>Q3w G i (r 8) (r 1) (r 0) (r 7) (r 2) (r 6) m) (fun _ _=>rfl) (fun i0=>fun r m=>by kernel_rfl))))))))) m
def Qoc:En:=⟨Q9z,Tryz.f498,Tryz.func498,by kernel_rfl,arg3 (fun G a0 a1 a2 m=>Q4u G a1 a0 a2 m),Xx Qob⟩
end
end Go.Ab.Sh

set_option maxRecDepth 100000
namespace Go.Ab.Sh
open Go Go.Ab Go.Proofs
noncomputable section
def Q3c (G:Gt)(k0:J4)(p6 p1 p0 p2:V)(m:M):R:=bp (pur (bin .mul true true .int p6 (.int .i64 2)) m) fun x0 m=>k0 x0 p1 p0 p2 m
def Q7e (G:Gt)(k0:J4)(p7 p6 p1 p0 p2:V)(m:M):R:=bp (pur (bin .add false true .int p7 p6) m) fun x1 m=>bp (pur (bin .lss false true .int x1 p1) m) fun x2 m=>brb x2 (bp (G.tab Q7f [p0,p7,x1,p1,p2] m) fun x3 m=>Q3c G k0 p6 p1 p0 p2 m) (Q3c G k0 p6 p1 p0 p2 m)
def Q3d (G:Gt)(k0:J4):Nat→V→V→V→V→V→V→M→R
 | 0,_,_,_,_,_,_,_=>none
 | i + 1,p8,p1,p0,p7,p6,p2,m=>bp (pur (bin .leq false true .int p8 p1) m) fun x4 m=>brb x4 (bp (pur (bin .add false true .int p7 p6) m) fun x5 m=>bp (G.tab Q7f [p0,p7,x5,p8,p2] m) fun x6 m=>bp (pur (bin .mul true true .int (.int .i64 2) p6) m) fun x7 m=>bp (pur (bin .add false true .int p8 x7) m) fun x8 m=>(Q3d G k0 i) x8 p1 p0 p8 p6 p2 m) (Q7e G k0 p7 p6 p1 p0 p2 m)
def Q7g (G:Gt)(k0:J4)(p8 p1 p0 p7 p6 p2:V)(m:M):R:=Q3d G k0 G.rds p8 p1 p0 p7 p6 p2 m
def Q7h (G:Gt)(k0:J4)(p6 p1 p0 p2:V)(m:M):R:=bp (pur (bin .mul true true .int (.int .i64 2) p6) m) fun x9 m=>Q7g G k0 x9 p1 p0 (.int .i64 0) p6 p2 m
def Qm (G:Gt):Nat→V→V→V→V→M→R
 | 0,_,_,_,_,_=>none
 | i + 1,p6,p1,p0,p2,m=>bp (pur (bin .lss false true .int p6 p1) m) fun x10 m=>brb x10 (Q7h G (Qm G i) p6 p1 p0 p2 m) (some (.tuple ⟨[]⟩,m))
def Q7i (G:Gt)(p6 p1 p0 p2:V)(m:M):R:=Qm G G.rds p6 p1 p0 p2 m
def Q7j (G:Gt)(p0 p7 p1 p2 p6:V)(m:M):R:=bp (G.tab Q2m [p0,p7,p1,p2] m) fun x11 m=>Q7i G p6 p1 p0 p2 m
def Q32 (G:Gt):Nat→V→V→V→V→V→V→M→R
 | 0,_,_,_,_,_,_,_=>none
 | i + 1,p8,p1,p0,p7,p2,p6,m=>bp (pur (bin .leq false true .int p8 p1) m) fun x12 m=>brb x12 (bp (G.tab Q2m [p0,p7,p8,p2] m) fun x13 m=>bp (pur (bin .add false true .int p8 p6) m) fun x14 m=>(Q32 G i) x14 p1 p0 p8 p2 p6 m) (Q7j G p0 p7 p1 p2 p6 m)
def Q7k (G:Gt)(p8 p1 p0 p7 p2 p6:V)(m:M):R:=Q32 G G.rds p8 p1 p0 p7 p2 p6 m
def Q7l (G:Gt)(p6 p1 p0 p2:V)(m:M):R:=Q7k G p6 p1 p0 (.int .i64 0) p2 p6 m
def Q3x (G:Gt)(p1 p0 p2:V)(m:M):R:=Q7l G (.int .i64 20) p1 p0 p2 m
theorem Qk8 (G:Gt)(a0 a1 a2:V)(m:M):ef G Tryz.f499 [a0,a1,a2] m = Q3x G a1 a0 a2 m:=X7 (r:=fun r m=>Q3x G (r 1) (r 0) (r 2) m) rfl rfl (tr (seqQ (f:=fun r m=>Q7l G (r 6) (r 1) (r 0) (r 2) m) (tr (seqQ (f:=fun r m=>Q7k G (r 8) (r 1) (r 0) (r 7) (r 2) (r 6) m) (tr (tr (seqQ (f:=fun r m=>Q7j G (r 0) (r 7) (r 1) (r 2) (r 6) m) (tr (seqQ (f:=fun r m=>Q7i G (r 6) (r 1) (r 0) (r 2) m) (tr (Xc (Xj (fun i r m=>Qm G i (r 6) (r 1) (r 0) (r 2) m) (fun _ _=>rfl) (fun i0=>tr (seqQ (f:=fun r m=>Q7h G (Qm G i0) (r 6) (r 1) (r 0) (r 2) m) (tr (Xc (seqQ (f:=fun r m=>Q7g G (Qm G i0) (r 8) (r 1) (r 0) (r 7) (r 6) (r 2) m) (tr (tr (seqQ (f:=fun r m=>Q7e G (Qm G i0) (r 7) (r 6) (r 1) (r 0) (r 2) m) (tr (seqQ (f:=fun r m=>Q3c G (Qm G i0) (r 6) (r 1) (r 0) (r 2) m)))) (Xc (Xj (fun i r m=>Q3d G (Qm G i0) i (r 8) (r 1) (r 0) (r 7) (r 6) (r 2) m) (fun _ _=>rfl) (fun i1=>fun r m=>by kernel_rfl)))))))))))))))) (Xc (Xj (fun i r m=>Q32 G i (r 8) (r 1) (r 0) (r 7) (r 2) (r 6) m) (fun _ _=>rfl) (fun i0=>fun r m=>by kernel_rfl))))))))) m
def Qk9:En:=⟨Q8z,Tryz.f499,Tryz.func499,by kernel_rfl,arg3 (fun G a0 a1 a2 m=>Q3x G a1 a0 a2 m),Xx Qk8⟩
def Q5q (G:Gt)(k0:J4)(p6 p1 p0 p2:V)(m:M):R:=bp (pur (bin .mul true true .int p6 (.int .i64 2)) m) fun x0 m=>k0 x0 p1 p0 p2 m
def Qbi (G:Gt)(k0:J4)(p7 p6 p1 p0 p2:V)(m:M):R:=bp (pur (bin .add false true .int p7 p6) m) fun x1 m=>bp (pur (bin .lss false true .int x1 p1) m) fun x2 m=>brb x2 (bp (G.tab Qbj [p0,p7,x1,p1,p2] m) fun x3 m=>Q5q G k0 p6 p1 p0 p2 m) (Q5q G k0 p6 p1 p0 p2 m)
def Q5r (G:Gt)(k0:J4):Nat→V→V→V→V→V→V→M→R
 | 0,_,_,_,_,_,_,_=>none
 | i + 1,p8,p1,p0,p7,p6,p2,m=>bp (pur (bin .leq false true .int p8 p1) m) fun x4 m=>brb x4 (bp (pur (bin .add false true .int p7 p6) m) fun x5 m=>bp (G.tab Qbj [p0,p7,x5,p8,p2] m) fun x6 m=>bp (pur (bin .mul true true .int (.int .i64 2) p6) m) fun x7 m=>bp (pur (bin .add false true .int p8 x7) m) fun x8 m=>(Q5r G k0 i) x8 p1 p0 p8 p6 p2 m) (Qbi G k0 p7 p6 p1 p0 p2 m)
def Qbk (G:Gt)(k0:J4)(p8 p1 p0 p7 p6 p2:V)(m:M):R:=Q5r G k0 G.rds p8 p1 p0 p7 p6 p2 m
def Qbl (G:Gt)(k0:J4)(p6 p1 p0 p2:V)(m:M):R:=bp (pur (bin .mul true true .int (.int .i64 2) p6) m) fun x9 m=>Qbk G k0 x9 p1 p0 (.int .i64 0) p6 p2 m
def Qv (G:Gt):Nat→V→V→V→V→M→R
 | 0,_,_,_,_,_=>none
 | i + 1,p6,p1,p0,p2,m=>bp (pur (bin .lss false true .int p6 p1) m) fun x10 m=>brb x10 (Qbl G (Qv G i) p6 p1 p0 p2 m) (some (.tuple ⟨[]⟩,m))
def Qbm (G:Gt)(p6 p1 p0 p2:V)(m:M):R:=Qv G G.rds p6 p1 p0 p2 m
def Qbn (G:Gt)(p0 p7 p1 p2 p6:V)(m:M):R:=bp (G.tab Q3y [p0,p7,p1,p2] m) fun x11 m=>Qbm G p6 p1 p0 p2 m
def Q55 (G:Gt):Nat→V→V→V→V→V→V→M→R
 | 0,_,_,_,_,_,_,_=>none
 | i + 1,p8,p1,p0,p7,p2,p6,m=>bp (pur (bin .leq false true .int p8 p1) m) fun x12 m=>brb x12 (bp (G.tab Q3y [p0,p7,p8,p2] m) fun x13 m=>bp (pur (bin .add false true .int p8 p6) m) fun x14 m=>(Q55 G i) x14 p1 p0 p8 p2 p6 m) (Qbn G p0 p7 p1 p2 p6 m)
def Qbo (G:Gt)(p8 p1 p0 p7 p2 p6:V)(m:M):R:=Q55 G G.rds p8 p1 p0 p7 p2 p6 m
def Qbp (G:Gt)(p6 p1 p0 p2:V)(m:M):R:=Qbo G p6 p1 p0 (.int .i64 0) p2 p6 m
def Q69 (G:Gt)(p1 p0 p2:V)(m:M):R:=Qbp G (.int .i64 20) p1 p0 p2 m
theorem Quc (G:Gt)(a0 a1 a2:V)(m:M):ef G Tryz.f500 [a0,a1,a2] m = Q69 G a1 a0 a2 m:=X7 (r:=fun r m=>Q69 G (r 1) (r 0) (r 2) m) rfl rfl (tr (seqQ (f:=fun r m=>Qbp G (r 6) (r 1) (r 0) (r 2) m) (tr (seqQ (f:=fun r m=>Qbo G (r 8) (r 1) (r 0) (r 7) (r 2) (r 6) m) (tr (tr (seqQ (f:=fun r m=>Qbn G (r 0) (r 7) (r 1) (r 2) (r 6) m) (tr (seqQ (f:=fun r m=>Qbm G (r 6) (r 1) (r 0) (r 2) m) (tr (Xc (Xj (fun i r m=>Qv G i (r 6) (r 1) (r 0) (r 2) m) (fun _ _=>rfl) (fun i0=>tr (seqQ (f:=fun r m=>Qbl G (Qv G i0) (r 6) (r 1) (r 0) (r 2) m) (tr (Xc (seqQ (f:=fun r m=>Qbk G (Qv G i0) (r 8) (r 1) (r 0) (r 7) (r 6) (r 2) m) (tr (tr (seqQ (f:=fun r m=>Qbi G (Qv G i0) (r 7) (r 6) (r 1) (r 0) (r 2) m) (tr (seqQ (f:=fun r m=>Q5q G (Qv G i0) (r 6) (r 1) (r 0) (r 2) m)))) (Xc (Xj (fun i r m=>Q5r G (Qv G i0) i (r 8) (r 1) (r 0) (r 7) (r 6) (r 2) m) (fun _ _=>rfl) (fun i1=>fun r m=>by kernel_rfl)))))))))))))))) (Xc (Xj (fun i r m=>Q55 G i (r 8) (r 1) (r 0) (r 7) (r 2) (r 6) m) (fun _ _=>rfl) (fun i0=>fun r m=>by kernel_rfl))))))))) m
def Qud:En:=⟨Qcq,Tryz.f500,Tryz.func500,by kernel_rfl,arg3 (fun G a0 a1 a2 m=>Q69 G a1 a0 a2 m),Xx Quc⟩
def Q7m (G:Gt)(k0:J5)(p8 p2 p1 p3 p0:V)(m:M):R:=bp (pur (bin .add true true .int p8 (.int .i64 1)) m) fun x0 m=>k0 x0 p2 p1 p3 p0 m
def Q3e (G:Gt)(k1:J6)(k0:J5)(p34 p0 p9 p1 p3 p8 p2:V)(m:M):R:=brb p34 (bp (pur (bin .sub true true .int p9 (.int .i64 1)) m) fun x1 m=>bp (pur (bin .sub true true .int p9 (.int .i64 1)) m) fun x2 m=>bp (pur (X4 7 p0 x2) m) fun x3 m=>bp (pur (X3 true 7 x3 m) m) fun x4 m=>bp (pur (X4 7 p0 p9) m) fun x5 m=>bp (pur (X3 true 7 x5 m) m) fun x6 m=>bp (pur (X4 7 p0 p9) m) fun x7 m=>bp (unt (X8 7 x7 x4 m)) fun _ m=>bp (pur (X4 7 p0 x1) m) fun x8 m=>bp (unt (X8 7 x8 x6 m)) fun _ m=>bp (pur (bin .sub true true .int p9 (.int .i64 1)) m) fun x9 m=>k1 x9 p1 p3 p0 p8 p2 m) (Q7m G k0 p8 p2 p1 p3 p0 m)
def Q1e (G:Gt)(k0:J5):Nat→V→V→V→V→V→V→M→R
 | 0,_,_,_,_,_,_,_=>none
 | i + 1,p9,p1,p3,p0,p8,p2,m=>bp (pur (bin .gtr false true .int p9 p1) m) fun x10 m=>brt x10 (bp (pur (X4 7 p0 p9) m) fun x11 m=>bp (pur (X3 true 7 x11 m) m) fun x12 m=>bp (pur (bin .sub true true .int p9 (.int .i64 1)) m) fun x13 m=>bp (pur (X4 7 p0 x13) m) fun x14 m=>bp (pur (X3 true 7 x14 m) m) fun x15 m=>bp (Xg G.tab p3 [x12,x15] m) fun x16 m=>bp (pur (bin .lss true true .int x16 (.int .i64 0)) m) fun x17 m=>Q3e G (Q1e G k0 i) k0 x17 p0 p9 p1 p3 p8 p2 m) (Q3e G (Q1e G k0 i) k0 (.bool false) p0 p9 p1 p3 p8 p2 m) (none)
def Q7n (G:Gt)(k0:J5)(p9 p1 p3 p0 p8 p2:V)(m:M):R:=Q1e G k0 G.rds p9 p1 p3 p0 p8 p2 m
def Q7o (G:Gt)(k0:J5)(p8 p1 p3 p0 p2:V)(m:M):R:=Q7n G k0 p8 p1 p3 p0 p8 p2 m
def Qb (G:Gt):Nat→V→V→V→V→V→M→R
 | 0,_,_,_,_,_,_=>none
 | i + 1,p8,p2,p1,p3,p0,m=>bp (pur (bin .lss false true .int p8 p2) m) fun x18 m=>brb x18 (Q7o G (Qb G i) p8 p1 p3 p0 p2 m) (some (.tuple ⟨[]⟩,m))
def Q7p (G:Gt)(p8 p2 p1 p3 p0:V)(m:M):R:=Qb G G.rds p8 p2 p1 p3 p0 m
def Q3z (G:Gt)(p1 p2 p3 p0:V)(m:M):R:=bp (pur (bin .add true true .int p1 (.int .i64 1)) m) fun x19 m=>Q7p G x19 p2 p1 p3 p0 m
theorem Qka (G:Gt)(a0 a1 a2 a3:V)(m:M):ef G Tryz.f501 [a0,a1,a2,a3] m = Q3z G a1 a2 a3 a0 m:=X7 (r:=fun r m=>Q3z G (r 1) (r 2) (r 3) (r 0) m) rfl rfl (tr (seqQ (f:=fun r m=>Q7p G (r 8) (r 2) (r 1) (r 3) (r 0) m) (tr (Xc (Xj (fun i r m=>Qb G i (r 8) (r 2) (r 1) (r 3) (r 0) m) (fun _ _=>rfl) (fun i0=>tr (seqQ (f:=fun r m=>Q7o G (Qb G i0) (r 8) (r 1) (r 3) (r 0) (r 2) m) (tr (tr (seqQ (f:=fun r m=>Q7m G (Qb G i0) (r 8) (r 2) (r 1) (r 3) (r 0) m)) (Xc (seqQ (f:=fun r m=>Q7n G (Qb G i0) (r 9) (r 1) (r 3) (r 0) (r 8) (r 2) m) (tr (Xc (Xj (fun i r m=>Q1e G (Qb G i0) i (r 9) (r 1) (r 3) (r 0) (r 8) (r 2) m) (fun _ _=>rfl) (fun i1=>tr (tr seqD (seqQ (f:=fun r m=>Q3e G (Q1e G (Qb G i0) i1) (Qb G i0) (r 34) (r 0) (r 9) (r 1) (r 3) (r 8) (r 2) m)))))))))))))))))) m
def Qkb:En:=⟨Q3u,Tryz.f501,Tryz.func501,by kernel_rfl,arg4 (fun G a0 a1 a2 a3 m=>Q3z G a1 a2 a3 a0 m),X1h Qka⟩
def Qjd (G:Gt)(p0:V)(m:M):R:=bp (pur (bin .neq false true .int p0 p0) m) fun x0 m=>some (x0,m)
theorem Q1hb (G:Gt)(a0:V)(m:M):ef G Tryz.f503 [a0] m = Qjd G a0 m:=X7 (r:=fun r m=>Qjd G (r 0) m) rfl rfl (fun r m=>by kernel_rfl) m
def Q1hc:En:=⟨Q1hd,Tryz.f503,Tryz.func503,by kernel_rfl,arg1 Qjd,Xw Q1hb⟩
def Qkc:En:=wE Qkd Tryz.f504 Tryz.func504 ⟨_,by go_invoke; rfl⟩
def Qiu:En:=wE Qiv Tryz.f512 Tryz.func512 ⟨_,by go_invoke; rfl⟩
def Q6s (G:Gt)(p0:V)(m:M):R:=bp (pur (bin .eql true true .slice p0 (.slice none 0 0)) m) fun x0 m=>brb x0 (some ((.slice none 0 0),m)) (bp (Xa Q1dw Q1zq 2 0 [] m) fun x1 m=>bp (apS Q1dw 2 24 x1 p0 m) fun x2 m=>some (x2,m))
theorem Qw4 (G:Gt)(a0:V)(m:M):ef G Tryz.f529 [a0] m = Q6s G a0 m:=X7 (r:=fun r m=>Q6s G (r 0) m) rfl rfl (fun r m=>by kernel_rfl) m
def Qw5:En:=⟨Qef,Tryz.f529,Tryz.func529,by kernel_rfl,arg1 Q6s,Xw Qw4⟩
def Q8d (G:Gt)(k0:J5)(p8 p2 p1 p3 p0:V)(m:M):R:=bp (pur (bin .add true true .int p8 (.int .i64 1)) m) fun x0 m=>k0 x0 p2 p1 p3 p0 m
def Q3n (G:Gt)(k1:J6)(k0:J5)(p34 p0 p9 p1 p3 p8 p2:V)(m:M):R:=brb p34 (bp (pur (bin .sub true true .int p9 (.int .i64 1)) m) fun x1 m=>bp (pur (bin .sub true true .int p9 (.int .i64 1)) m) fun x2 m=>bp (pur (X4 4 p0 x2) m) fun x3 m=>bp (pur (X3 true 4 x3 m) m) fun x4 m=>bp (pur (X4 4 p0 p9) m) fun x5 m=>bp (pur (X3 true 4 x5 m) m) fun x6 m=>bp (pur (X4 4 p0 p9) m) fun x7 m=>bp (unt (X8 4 x7 x4 m)) fun _ m=>bp (pur (X4 4 p0 x1) m) fun x8 m=>bp (unt (X8 4 x8 x6 m)) fun _ m=>bp (pur (bin .sub true true .int p9 (.int .i64 1)) m) fun x9 m=>k1 x9 p1 p3 p0 p8 p2 m) (Q8d G k0 p8 p2 p1 p3 p0 m)
def Q1l (G:Gt)(k0:J5):Nat→V→V→V→V→V→V→M→R
 | 0,_,_,_,_,_,_,_=>none
 | i + 1,p9,p1,p3,p0,p8,p2,m=>bp (pur (bin .gtr false true .int p9 p1) m) fun x10 m=>brt x10 (bp (pur (X4 4 p0 p9) m) fun x11 m=>bp (pur (X3 true 4 x11 m) m) fun x12 m=>bp (pur (bin .sub true true .int p9 (.int .i64 1)) m) fun x13 m=>bp (pur (X4 4 p0 x13) m) fun x14 m=>bp (pur (X3 true 4 x14 m) m) fun x15 m=>bp (Xg G.tab p3 [x12,x15] m) fun x16 m=>bp (pur (bin .lss true true .int x16 (.int .i64 0)) m) fun x17 m=>Q3n G (Q1l G k0 i) k0 x17 p0 p9 p1 p3 p8 p2 m) (Q3n G (Q1l G k0 i) k0 (.bool false) p0 p9 p1 p3 p8 p2 m) (none)
def Q8e (G:Gt)(k0:J5)(p9 p1 p3 p0 p8 p2:V)(m:M):R:=Q1l G k0 G.rds p9 p1 p3 p0 p8 p2 m
def Q8f (G:Gt)(k0:J5)(p8 p1 p3 p0 p2:V)(m:M):R:=Q8e G k0 p8 p1 p3 p0 p8 p2 m
def Qf (G:Gt):Nat→V→V→V→V→V→M→R
 | 0,_,_,_,_,_,_=>none
 | i + 1,p8,p2,p1,p3,p0,m=>bp (pur (bin .lss false true .int p8 p2) m) fun x18 m=>brb x18 (Q8f G (Qf G i) p8 p1 p3 p0 p2 m) (some (.tuple ⟨[]⟩,m))
def Q8g (G:Gt)(p8 p2 p1 p3 p0:V)(m:M):R:=Qf G G.rds p8 p2 p1 p3 p0 m
def Q4b (G:Gt)(p1 p2 p3 p0:V)(m:M):R:=bp (pur (bin .add true true .int p1 (.int .i64 1)) m) fun x19 m=>Q8g G x19 p2 p1 p3 p0 m
theorem Qlt (G:Gt)(a0 a1 a2 a3:V)(m:M):ef G Tryz.f530 [a0,a1,a2,a3] m = Q4b G a1 a2 a3 a0 m:=X7 (r:=fun r m=>Q4b G (r 1) (r 2) (r 3) (r 0) m) rfl rfl (tr (seqQ (f:=fun r m=>Q8g G (r 8) (r 2) (r 1) (r 3) (r 0) m) (tr (Xc (Xj (fun i r m=>Qf G i (r 8) (r 2) (r 1) (r 3) (r 0) m) (fun _ _=>rfl) (fun i0=>tr (seqQ (f:=fun r m=>Q8f G (Qf G i0) (r 8) (r 1) (r 3) (r 0) (r 2) m) (tr (tr (seqQ (f:=fun r m=>Q8d G (Qf G i0) (r 8) (r 2) (r 1) (r 3) (r 0) m)) (Xc (seqQ (f:=fun r m=>Q8e G (Qf G i0) (r 9) (r 1) (r 3) (r 0) (r 8) (r 2) m) (tr (Xc (Xj (fun i r m=>Q1l G (Qf G i0) i (r 9) (r 1) (r 3) (r 0) (r 8) (r 2) m) (fun _ _=>rfl) (fun i1=>tr (tr seqD (seqQ (f:=fun r m=>Q3n G (Q1l G (Qf G i0) i1) (Qf G i0) (r 34) (r 0) (r 9) (r 1) (r 3) (r 8) (r 2) m)))))))))))))))))) m
def Qlu:En:=⟨Qlv,Tryz.f530,Tryz.func530,by kernel_rfl,arg4 (fun G a0 a1 a2 a3 m=>Q4b G a1 a2 a3 a0 m),X1h Qlt⟩
end
end Go.Ab.Sh

set_option maxRecDepth 100000
namespace Go.Ab.Sh
open Go Go.Ab Go.Proofs
noncomputable section
def Q6t (G:Gt)(k0:J5)(p8 p2 p1 p3 p0:V)(m:M):R:=bp (pur (bin .add true true .int p8 (.int .i64 1)) m) fun x0 m=>k0 x0 p2 p1 p3 p0 m
def Q33 (G:Gt)(k1:J6)(k0:J5)(p34 p0 p9 p1 p3 p8 p2:V)(m:M):R:=brb p34 (bp (pur (bin .sub true true .int p9 (.int .i64 1)) m) fun x1 m=>bp (pur (bin .sub true true .int p9 (.int .i64 1)) m) fun x2 m=>bp (pur (X4 3 p0 x2) m) fun x3 m=>bp (pur (X3 true 3 x3 m) m) fun x4 m=>bp (pur (X4 3 p0 p9) m) fun x5 m=>bp (pur (X3 true 3 x5 m) m) fun x6 m=>bp (pur (X4 3 p0 p9) m) fun x7 m=>bp (unt (X8 3 x7 x4 m)) fun _ m=>bp (pur (X4 3 p0 x1) m) fun x8 m=>bp (unt (X8 3 x8 x6 m)) fun _ m=>bp (pur (bin .sub true true .int p9 (.int .i64 1)) m) fun x9 m=>k1 x9 p1 p3 p0 p8 p2 m) (Q6t G k0 p8 p2 p1 p3 p0 m)
def Q1c (G:Gt)(k0:J5):Nat→V→V→V→V→V→V→M→R
 | 0,_,_,_,_,_,_,_=>none
 | i + 1,p9,p1,p3,p0,p8,p2,m=>bp (pur (bin .gtr false true .int p9 p1) m) fun x10 m=>brt x10 (bp (pur (X4 3 p0 p9) m) fun x11 m=>bp (pur (X3 true 3 x11 m) m) fun x12 m=>bp (pur (bin .sub true true .int p9 (.int .i64 1)) m) fun x13 m=>bp (pur (X4 3 p0 x13) m) fun x14 m=>bp (pur (X3 true 3 x14 m) m) fun x15 m=>bp (Xg G.tab p3 [x12,x15] m) fun x16 m=>bp (pur (bin .lss true true .int x16 (.int .i64 0)) m) fun x17 m=>Q33 G (Q1c G k0 i) k0 x17 p0 p9 p1 p3 p8 p2 m) (Q33 G (Q1c G k0 i) k0 (.bool false) p0 p9 p1 p3 p8 p2 m) (none)
def Q6u (G:Gt)(k0:J5)(p9 p1 p3 p0 p8 p2:V)(m:M):R:=Q1c G k0 G.rds p9 p1 p3 p0 p8 p2 m
def Q6v (G:Gt)(k0:J5)(p8 p1 p3 p0 p2:V)(m:M):R:=Q6u G k0 p8 p1 p3 p0 p8 p2 m
def Qa (G:Gt):Nat→V→V→V→V→V→M→R
 | 0,_,_,_,_,_,_=>none
 | i + 1,p8,p2,p1,p3,p0,m=>bp (pur (bin .lss false true .int p8 p2) m) fun x18 m=>brb x18 (Q6v G (Qa G i) p8 p1 p3 p0 p2 m) (some (.tuple ⟨[]⟩,m))
def Q6w (G:Gt)(p8 p2 p1 p3 p0:V)(m:M):R:=Qa G G.rds p8 p2 p1 p3 p0 m
def Q3o (G:Gt)(p1 p2 p3 p0:V)(m:M):R:=bp (pur (bin .add true true .int p1 (.int .i64 1)) m) fun x19 m=>Q6w G x19 p2 p1 p3 p0 m
theorem Qje (G:Gt)(a0 a1 a2 a3:V)(m:M):ef G Tryz.f538 [a0,a1,a2,a3] m = Q3o G a1 a2 a3 a0 m:=X7 (r:=fun r m=>Q3o G (r 1) (r 2) (r 3) (r 0) m) rfl rfl (tr (seqQ (f:=fun r m=>Q6w G (r 8) (r 2) (r 1) (r 3) (r 0) m) (tr (Xc (Xj (fun i r m=>Qa G i (r 8) (r 2) (r 1) (r 3) (r 0) m) (fun _ _=>rfl) (fun i0=>tr (seqQ (f:=fun r m=>Q6v G (Qa G i0) (r 8) (r 1) (r 3) (r 0) (r 2) m) (tr (tr (seqQ (f:=fun r m=>Q6t G (Qa G i0) (r 8) (r 2) (r 1) (r 3) (r 0) m)) (Xc (seqQ (f:=fun r m=>Q6u G (Qa G i0) (r 9) (r 1) (r 3) (r 0) (r 8) (r 2) m) (tr (Xc (Xj (fun i r m=>Q1c G (Qa G i0) i (r 9) (r 1) (r 3) (r 0) (r 8) (r 2) m) (fun _ _=>rfl) (fun i1=>tr (tr seqD (seqQ (f:=fun r m=>Q33 G (Q1c G (Qa G i0) i1) (Qa G i0) (r 34) (r 0) (r 9) (r 1) (r 3) (r 8) (r 2) m)))))))))))))))))) m
def Qjf:En:=⟨Q8c,Tryz.f538,Tryz.func538,by kernel_rfl,arg4 (fun G a0 a1 a2 a3 m=>Q3o G a1 a2 a3 a0 m),X1h Qje⟩
def Q1yx:En:=wE Q1yy Tryz.f546 Tryz.func546 ⟨_,by go_invoke; rfl⟩
def Q240:En:=wE Q1p8 Tryz.f547 Tryz.func547 ⟨_,by go_invoke; rfl⟩
def Q10l (G:Gt)(p10:V)(m:M):R:=some (.tuple ⟨[p10,(.int .i64 0)]⟩,m)
def Q8h (G:Gt)(k0:J6)(p0 p12 p15 p16 p11 p5 p2 p3:V)(m:M):R:=bp (pur (X6 p0) m) fun x0 m=>bp (pur (X0 0 x0) m) fun x1 m=>bp (pur (X3 false 1 x1 m) m) fun x2 m=>bp (G.tab Q28 [x2,p12,p15,p16] m) fun x3 m=>bp (pur (X5 x3 0) m) fun x4 m=>bp (pur (X5 x3 1) m) fun x5 m=>bp (pur (bin .neq true true .int x5 (.int .i64 0)) m) fun x6 m=>brb x6 (some (.tuple ⟨[(.int .i64 0),x5]⟩,m)) (bp (pur (bin .sub true true .int p11 (.int .i64 1)) m) fun x7 m=>k0 x7 p0 p5 p2 x4 p3 m)
def Qjg (G:Gt)(k0:J6)(p51 p0 p12 p15 p11 p5 p2 p3 p16 p14:V)(m:M):R:=brb p51 (Q8h G k0 p0 p12 p15 (.int .i64 0) p11 p5 p2 p3 m) (brb p3 (Q8h G k0 p0 p12 (.int .i64 1) p16 p11 p5 p2 p3 m) (brb p14 (Q8h G k0 p0 p12 p15 (.int .i64 1) p11 p5 p2 p3 m) (Q8h G k0 p0 p12 (.int .i64 0) p16 p11 p5 p2 p3 m)))
def Q10m (G:Gt)(k0:J6)(p3 p14 p0 p12 p15 p11 p5 p2 p16:V)(m:M):R:=brb p3 (Qjg G k0 p14 p0 p12 p15 p11 p5 p2 p3 p16 p14 m) (Qjg G k0 (.bool false) p0 p12 p15 p11 p5 p2 p3 p16 p14 m)
def Q10n (G:Gt)(k0:J6)(p10 p3 p14 p0 p12 p11 p5 p2:V)(m:M):R:=Q10m G k0 p3 p14 p0 p12 p10 p11 p5 p2 p10 m
def Q10o (G:Gt)(k0:J6)(p2 p5 p11 p10 p3 p0 p12:V)(m:M):R:=bp (pur (X0 1 p5) m) fun x8 m=>bp (pur (X3 false 1 x8 m) m) fun x9 m=>bp (pur (bin .sub true true .int x9 (.int .i64 1)) m) fun x10 m=>bp (pur (bin .sub false true .int x10 p11) m) fun x11 m=>bp (pur (bin .shr false true .int p2 x11) m) fun x12 m=>bp (pur (bin .and true true .int x12 (.int .u64 1)) m) fun x13 m=>bp (pur (bin .eql true true .int x13 (.int .u64 1)) m) fun x14 m=>Q10n G k0 p10 p3 x14 p0 p12 p11 p5 p2 m
def Q10p (G:Gt)(k0:J6)(p13 p2 p5 p11 p10 p3 p0 p12:V)(m:M):R:=bp (pur (bin .neq true true .int p13 (.int .i64 0)) m) fun x15 m=>brb x15 (some (.tuple ⟨[(.int .i64 0),p13]⟩,m)) (Q10o G k0 p2 p5 p11 p10 p3 p0 p12 m)
def Q10q (G:Gt)(k0:J6)(p0 p5 p11 p2 p10 p3:V)(m:M):R:=bp (pur (X6 p0) m) fun x16 m=>bp (pur (X0 0 x16) m) fun x17 m=>bp (pur (X3 false 1 x17 m) m) fun x18 m=>bp (pur (X0 0 p5) m) fun x19 m=>bp (pur (X3 false 1 x19 m) m) fun x20 m=>bp (pur (bin .add false true .int x20 p11) m) fun x21 m=>bp (G.tab Qgx [x21] m) fun x22 m=>ckB (again (pur (X3 false 1 x17 m) m) x18 && true) (bp (G.tab Q47 [x18,x22] m) fun x23 m=>bp (pur (X5 x23 0) m) fun x24 m=>bp (pur (X5 x23 1) m) fun x25 m=>Q10p G k0 x25 p2 p5 p11 p10 p3 p0 x24 m)
def Q23 (G:Gt):Nat→V→V→V→V→V→V→M→R
 | 0,_,_,_,_,_,_,_=>none
 | i + 1,p11,p0,p5,p2,p10,p3,m=>bp (pur (bin .geq true true .int p11 (.int .i64 0)) m) fun x26 m=>brb x26 (Q10q G (Q23 G i) p0 p5 p11 p2 p10 p3 m) (Q10l G p10 m)
def Q10r (G:Gt)(p11 p0 p5 p2 p10 p3:V)(m:M):R:=Q23 G G.rds p11 p0 p5 p2 p10 p3 m
def Q10s (G:Gt)(p5 p0 p2 p10 p3:V)(m:M):R:=bp (pur (X0 1 p5) m) fun x27 m=>bp (pur (X3 false 1 x27 m) m) fun x28 m=>bp (pur (bin .sub true true .int x28 (.int .i64 1)) m) fun x29 m=>Q10r G x29 p0 p5 p2 p10 p3 m
def Q10t (G:Gt)(p5 p0 p2 p3:V)(m:M):R:=Q10s G p5 p0 p2 (.int .i64 1) p3 m
def Qrm (G:Gt)(p1 p0 p2 p3:V)(m:M):R:=bp (some (aNew Q19r (Value.cells p1).toList m)) fun x30 m=>Q10t G x30 p0 p2 p3 m
theorem Q1pf (G:Gt)(a0 a1 a2 a3:V)(m:M):ef G Tryz.f548 [a0,a1,a2,a3] m = Qrm G a1 a0 a2 a3 m:=X7 (r:=fun r m=>Qrm G (r 1) (r 0) (r 2) (r 3) m) rfl rfl (tr (seqQ (f:=fun r m=>Q10t G (r 5) (r 0) (r 2) (r 3) m) (tr (seqQ (f:=fun r m=>Q10s G (r 5) (r 0) (r 2) (r 10) (r 3) m) (tr (tr (seqQ (f:=fun r m=>Q10l G (r 10) m)) (seqQ (f:=fun r m=>Q10r G (r 11) (r 0) (r 5) (r 2) (r 10) (r 3) m) (tr (Xc (Xj (fun i r m=>Q23 G i (r 11) (r 0) (r 5) (r 2) (r 10) (r 3) m) (fun _ _=>rfl) (fun i0=>tr (seqQ (f:=fun r m=>Q10q G (Q23 G i0) (r 0) (r 5) (r 11) (r 2) (r 10) (r 3) m) (tr (tr seqD (Xc (seqQ (f:=fun r m=>Q10p G (Q23 G i0) (r 13) (r 2) (r 5) (r 11) (r 10) (r 3) (r 0) (r 12) m) (tr (seqQ (f:=fun r m=>Q10o G (Q23 G i0) (r 2) (r 5) (r 11) (r 10) (r 3) (r 0) (r 12) m) (tr (seqQ (f:=fun r m=>Q10n G (Q23 G i0) (r 10) (r 3) (r 14) (r 0) (r 12) (r 11) (r 5) (r 2) m) (tr (seqQ (f:=fun r m=>Q10m G (Q23 G i0) (r 3) (r 14) (r 0) (r 12) (r 15) (r 11) (r 5) (r 2) (r 16) m) (tr (tr (seqQ (f:=fun r m=>Q8h G (Q23 G i0) (r 0) (r 12) (r 15) (r 16) (r 11) (r 5) (r 2) (r 3) m)) (Xc (seqQ (f:=fun r m=>Qjg G (Q23 G i0) (r 51) (r 0) (r 12) (r 15) (r 11) (r 5) (r 2) (r 3) (r 16) (r 14) m))))))))))))))))))))))))))) m
def Q1pg:En:=⟨Qrc,Tryz.f548,Tryz.func548,by kernel_rfl,arg4 (fun G a0 a1 a2 a3 m=>Qrm G a1 a0 a2 a3 m),X1h Q1pf⟩
def Qlw (G:Gt)(p1 p0 p2 p3 p4:V)(m:M):R:=bp (pur (X3 false 1 p1 m) m) fun x0 m=>bp (pur (Xp .int (.bool false) false x0 p0 m) m) fun x1 m=>brb x1 (some (.tuple ⟨[]⟩,m)) (bp (pur (X3 false 1 p1 m) m) fun x2 m=>bp (unt (Xh .int x2 p0 (.bool true) m)) fun _ m=>bp (pur (X3 false 1 p2 m) m) fun x3 m=>bp (Xg G.tab x3 [p0] m) fun x4 m=>bp (pur (X3 false 1 p3 m) m) fun x5 m=>bp (pur (X3 false 1 p4 m) m) fun x6 m=>bp (pur (X6 x6) m) fun x7 m=>bp (pur (X0 2 x7) m) fun x8 m=>bp (pur (X3 false 1 x8 m) m) fun x9 m=>bp (pur (X4 3 x9 p0) m) fun x10 m=>bp (pur (X0 1 x10) m) fun x11 m=>bp (pur (X3 false 1 x11 m) m) fun x12 m=>bp (Xg G.tab x5 [x12] m) fun x13 m=>bp (pur (X3 false 1 p3 m) m) fun x14 m=>bp (pur (X3 false 1 p4 m) m) fun x15 m=>bp (pur (X6 x15) m) fun x16 m=>bp (pur (X0 2 x16) m) fun x17 m=>bp (pur (X3 false 1 x17 m) m) fun x18 m=>bp (pur (X4 3 x18 p0) m) fun x19 m=>bp (pur (X0 2 x19) m) fun x20 m=>bp (pur (X3 false 1 x20 m) m) fun x21 m=>bp (Xg G.tab x14 [x21] m) fun x22 m=>some (.tuple ⟨[]⟩,m))
theorem Q1jo (G:Gt)(a0 a1 a2 a3 a4:V)(m:M):ef G Tryz.f549 [a0,a1,a2,a3,a4] m = Qlw G a1 a0 a2 a3 a4 m:=X7 (r:=fun r m=>Qlw G (r 1) (r 0) (r 2) (r 3) (r 4) m) rfl rfl (fun r m=>by kernel_rfl) m
def Q1jp:En:=⟨Q10f,Tryz.f549,Tryz.func549,by kernel_rfl,arg5 (fun G a0 a1 a2 a3 a4 m=>Qlw G a1 a0 a2 a3 a4 m),X71 Q1jo⟩
def Q8w (G:Gt)(k0:J6)(p87 p0 p1 p2 p11 p3 p8 p9 p10:V)(m:M):R:=brb p87 (bp (G.tab Qsv [p0,p1,p2,p11] m) fun x0 m=>k0 p2 x0 p0 p3 p8 p9 m) (bp (G.tab Qh3 [p0,p1,p2,p11] m) fun x1 m=>bp (pur (X5 x1 0) m) fun x2 m=>bp (pur (X5 x1 1) m) fun x3 m=>bp (pur (bin .sub false true .int x2 p1) m) fun x4 m=>bp (pur (bin .sub false true .int p2 x2) m) fun x5 m=>bp (pur (bin .quo true true .int p10 (.int .i64 8)) m) fun x6 m=>bp (pur (bin .lss false true .int x4 x5) m) fun x7 m=>brb x7 (bp (pur (bin .geq false true .int x4 x6) m) fun x8 m=>bp (G.tab Q5y [p0,p1,x2,p3] m) fun x9 m=>bp (pur (bin .add true true .int x2 (.int .i64 1)) m) fun x10 m=>k0 p2 x10 p0 p3 x8 x3 m) (bp (pur (bin .geq false true .int x5 x6) m) fun x11 m=>bp (pur (bin .add true true .int x2 (.int .i64 1)) m) fun x12 m=>bp (G.tab Q5y [p0,x12,p2,p3] m) fun x13 m=>k0 x2 p1 p0 p3 x11 x3 m))
def Q9g (G:Gt)(k0:J6)(p1 p0 p11 p2 p3 p8 p9 p10:V)(m:M):R:=bp (pur (bin .gtr true true .int p1 (.int .i64 0)) m) fun x14 m=>brt x14 (bp (pur (bin .sub true true .int p1 (.int .i64 1)) m) fun x15 m=>bp (pur (X4 1 p0 x15) m) fun x16 m=>bp (pur (X3 false 1 x16 m) m) fun x17 m=>bp (pur (X4 1 p0 p11) m) fun x18 m=>bp (pur (X3 false 1 x18 m) m) fun x19 m=>bp (G.tab Q1z [x17,x19] m) fun x20 m=>bp (pur (un .not x20) m) fun x21 m=>Q8w G k0 x21 p0 p1 p2 p11 p3 p8 p9 p10 m) (Q8w G k0 (.bool false) p0 p1 p2 p11 p3 p8 p9 p10 m) (none)
def Q4m (G:Gt)(k0:J6)(p68 p0 p1 p2 p11 p3 p8 p9 p10:V)(m:M):R:=brb p68 (bp (G.tab Q90 [p0,p1,p2] m) fun x22 m=>brb x22 (some (.tuple ⟨[]⟩,m)) (Q9g G k0 p1 p0 p11 p2 p3 p8 p9 p10 m)) (Q9g G k0 p1 p0 p11 p2 p3 p8 p9 p10 m)
def Q9h (G:Gt)(k0:J6)(p8 p9 p12 p0 p1 p2 p11 p3 p10:V)(m:M):R:=brb p8 (brb p9 (bp (pur (bin .eql true true .int p12 (.int .i64 1)) m) fun x23 m=>Q4m G k0 x23 p0 p1 p2 p11 p3 p8 p9 p10 m) (Q4m G k0 (.bool false) p0 p1 p2 p11 p3 p8 p9 p10 m)) (Q4m G k0 (.bool false) p0 p1 p2 p11 p3 p8 p9 p10 m)
def Qh4 (G:Gt)(k0:J6)(p12 p0 p1 p2 p11 p8 p9 p3 p10:V)(m:M):R:=bp (pur (bin .eql true true .int p12 (.int .i64 2)) m) fun x24 m=>brb x24 (bp (G.tab Qw6 [p0,p1,p2] m) fun x25 m=>bp (pur (bin .sub true true .int p2 (.int .i64 1)) m) fun x26 m=>bp (pur (bin .sub false true .int p11 p1) m) fun x27 m=>bp (pur (bin .sub false true .int x26 x27) m) fun x28 m=>Q9h G k0 p8 p9 (.int .i64 1) p0 p1 p2 x28 p3 p10 m) (Q9h G k0 p8 p9 p12 p0 p1 p2 p11 p3 p10 m)
def Q9i (G:Gt)(k0:J6)(p0 p1 p2 p8 p9 p3 p10:V)(m:M):R:=bp (G.tab Qf3 [p0,p1,p2] m) fun x29 m=>bp (pur (X5 x29 0) m) fun x30 m=>bp (pur (X5 x29 1) m) fun x31 m=>Qh4 G k0 x31 p0 p1 p2 x30 p8 p9 p3 p10 m
def Qh5 (G:Gt)(k0:J6)(p8 p0 p1 p2 p3 p9 p10:V)(m:M):R:=bp (pur (un .not p8) m) fun x32 m=>brb x32 (bp (G.tab Que [p0,p1,p2] m) fun x33 m=>bp (pur (bin .sub true true .int p3 (.int .i64 1)) m) fun x34 m=>Q9i G k0 p0 p1 p2 p8 p9 x34 p10 m) (Q9i G k0 p0 p1 p2 p8 p9 p3 p10 m)
def Qh6 (G:Gt)(k0:J6)(p3 p0 p1 p2 p8 p9 p10:V)(m:M):R:=bp (pur (bin .eql true true .int p3 (.int .i64 0)) m) fun x35 m=>brb x35 (bp (G.tab Q12h [p0,p1,p2] m) fun x36 m=>some (.tuple ⟨[]⟩,m)) (Qh5 G k0 p8 p0 p1 p2 p3 p9 p10 m)
def Qh7 (G:Gt)(k0:J6)(p10 p0 p1 p2 p3 p8 p9:V)(m:M):R:=bp (pur (bin .leq true true .int p10 (.int .i64 12)) m) fun x37 m=>brb x37 (bp (G.tab Qd0 [p0,p1,p2] m) fun x38 m=>some (.tuple ⟨[]⟩,m)) (Qh6 G k0 p3 p0 p1 p2 p8 p9 p10 m)
def Ql (G:Gt):Nat→V→V→V→V→V→V→M→R
 | 0,_,_,_,_,_,_,_=>none
 | i + 1,p2,p1,p0,p3,p8,p9,m=>bp (pur (bin .sub false true .int p2 p1) m) fun x39 m=>Qh7 G (Ql G i) x39 p0 p1 p2 p3 p8 p9 m
def Qh8 (G:Gt)(p2 p1 p0 p3 p8 p9:V)(m:M):R:=Ql G G.rds p2 p1 p0 p3 p8 p9 m
def Qh9 (G:Gt)(p2 p1 p0 p3 p8:V)(m:M):R:=Qh8 G p2 p1 p0 p3 p8 (.bool true) m
def Qag (G:Gt)(p2 p1 p0 p3:V)(m:M):R:=Qh9 G p2 p1 p0 p3 (.bool true) m
theorem Q14t (G:Gt)(a0 a1 a2 a3:V)(m:M):ef G Tryz.f550 [a0,a1,a2,a3] m = Qag G a2 a1 a0 a3 m:=X7 (r:=fun r m=>Qag G (r 2) (r 1) (r 0) (r 3) m) rfl rfl (tr (seqQ (f:=fun r m=>Qh9 G (r 2) (r 1) (r 0) (r 3) (r 8) m) (tr (seqQ (f:=fun r m=>Qh8 G (r 2) (r 1) (r 0) (r 3) (r 8) (r 9) m) (tr (Xc (Xj (fun i r m=>Ql G i (r 2) (r 1) (r 0) (r 3) (r 8) (r 9) m) (fun _ _=>rfl) (fun i0=>tr (Xc (seqQ (f:=fun r m=>Qh7 G (Ql G i0) (r 10) (r 0) (r 1) (r 2) (r 3) (r 8) (r 9) m) (tr (seqQ (f:=fun r m=>Qh6 G (Ql G i0) (r 3) (r 0) (r 1) (r 2) (r 8) (r 9) (r 10) m) (tr (seqQ (f:=fun r m=>Qh5 G (Ql G i0) (r 8) (r 0) (r 1) (r 2) (r 3) (r 9) (r 10) m) (tr (seqQ (f:=fun r m=>Q9i G (Ql G i0) (r 0) (r 1) (r 2) (r 8) (r 9) (r 3) (r 10) m) (tr (seqQ (f:=fun r m=>Qh4 G (Ql G i0) (r 12) (r 0) (r 1) (r 2) (r 11) (r 8) (r 9) (r 3) (r 10) m) (tr (seqQ (f:=fun r m=>Q9h G (Ql G i0) (r 8) (r 9) (r 12) (r 0) (r 1) (r 2) (r 11) (r 3) (r 10) m) (tr (tr (seqQ (f:=fun r m=>Q9g G (Ql G i0) (r 1) (r 0) (r 11) (r 2) (r 3) (r 8) (r 9) (r 10) m) (tr (tr seqD (seqQ (f:=fun r m=>Q8w G (Ql G i0) (r 87) (r 0) (r 1) (r 2) (r 11) (r 3) (r 8) (r 9) (r 10) m))))) (seqQ (f:=fun r m=>Q4m G (Ql G i0) (r 68) (r 0) (r 1) (r 2) (r 11) (r 3) (r 8) (r 9) (r 10) m)))))))))))))))))))))))) m
def Q14u:En:=⟨Q5y,Tryz.f550,Tryz.func550,by kernel_rfl,arg4 (fun G a0 a1 a2 a3 m=>Qag G a2 a1 a0 a3 m),X1h Q14t⟩
def Qi2 (G:Gt)(p3:V)(m:M):R:=some (p3,m)
def Qw7 (G:Gt)(p0 p1:V)(m:M):R:=bp (pur (bin .lss true true .int p0 (.int .i64 0)) m) fun x0 m=>brb x0 (Qi2 G (.bool true) m) (bp (pur (X3 false 1 p1 m) m) fun x1 m=>bp (pur (X6 x1) m) fun x2 m=>bp (pur (X0 0 x2) m) fun x3 m=>bp (pur (X3 false 1 x3 m) m) fun x4 m=>bp (pur (bin .geq false true .int p0 x4) m) fun x5 m=>Qi2 G x5 m)
def Qlx (G:Gt)(p0 p1:V)(m:M):R:=Qw7 G p0 p1 m
theorem Q1jq (G:Gt)(a0 a1:V)(m:M):ef G Tryz.f551 [a0,a1] m = Qlx G a0 a1 m:=X7 (r:=fun r m=>Qlx G (r 0) (r 1) m) rfl rfl (tr (seqQ (f:=fun r m=>Qw7 G (r 0) (r 1) m) (tr (seqQ (f:=fun r m=>Qi2 G (r 3) m))))) m
def Q1jr:En:=⟨Q1js,Tryz.f551,Tryz.func551,by kernel_rfl,arg2 Qlx,Xk Q1jq⟩
def Qke:En:=wE Qkf Tryz.f552 Tryz.func552 ⟨_,by go_invoke; rfl⟩
def Q1d9:En:=wE Q1da Tryz.f560 Tryz.func560 ⟨_,by go_invoke; rfl⟩
def Q12i:En:=wE Q12j Tryz.f561 Tryz.func561 ⟨_,by go_invoke; rfl⟩
def Q10u:En:=wE Q10v Tryz.f562 Tryz.func562 ⟨_,by go_invoke; rfl⟩
def Qrn:En:=wE Qro Tryz.f563 Tryz.func563 ⟨_,by go_invoke; rfl⟩
def Quf:En:=wE Qug Tryz.f564 Tryz.func564 ⟨_,by go_invoke; rfl⟩
def Q21r:En:=wE Q21s Tryz.f565 Tryz.func565 ⟨_,by go_invoke; rfl⟩
def Qxg:En:=wE Qxh Tryz.f566 Tryz.func566 ⟨_,by go_invoke; rfl⟩
def Qci (G:Gt)(p0 p1 p2 p3:V)(m:M):R:=bp (some (aNew Q2b (Value.cells p0).toList m)) fun x0 m=>bp (pur (X3 false 1 p1 m) m) fun x1 m=>bp (pur (X3 true 11 x0 m) m) fun x2 m=>bp (pur (X3 false 1 p1 m) m) fun x3 m=>bp (pur (X3 false 1 p2 m) m) fun x4 m=>bp (pur (X3 false 1 p3 m) m) fun x5 m=>bp (pur (X4 11 x4 x5) m) fun x6 m=>bp (pur (X3 true 11 x6 m) m) fun x7 m=>bp (Xg G.tab x1 [x2] m) fun x8 m=>ckB (again (pur (X3 false 1 p1 m) m) x3 && (again (pur (X3 false 1 p2 m) m) x4 && (again (pur (X3 false 1 p3 m) m) x5 && (again (pur (X3 true 11 x6 m) m) x7 && true)))) (bp (Xg G.tab x3 [x7] m) fun x9 m=>bp (pur (bin .eql false true .str x8 x9) m) fun x10 m=>some (x10,m))
theorem Q18a (G:Gt)(a0 a1 a2 a3:V)(m:M):ef G Tryz.f569 [a0,a1,a2,a3] m = Qci G a0 a1 a2 a3 m:=X7 (r:=fun r m=>Qci G (r 0) (r 1) (r 2) (r 3) m) rfl rfl (fun r m=>by kernel_rfl) m
def Q18b:En:=⟨Qnc,Tryz.f569,Tryz.func569,by kernel_rfl,arg4 Qci,X1h Q18a⟩
def Q1bf:En:=wE Q1bg Tryz.f575 Tryz.func575 ⟨_,by go_invoke; rfl⟩
end
end Go.Ab.Sh

set_option maxRecDepth 100000
namespace Go.Ab.Sh
open Go Go.Ab Go.Proofs
noncomputable section
def Q8i (G:Gt)(k0:J5)(p8 p2 p1 p3 p0:V)(m:M):R:=bp (pur (bin .add true true .int p8 (.int .i64 1)) m) fun x0 m=>k0 x0 p2 p1 p3 p0 m
def Q3p (G:Gt)(k1:J6)(k0:J5)(p34 p0 p9 p1 p3 p8 p2:V)(m:M):R:=brb p34 (bp (pur (bin .sub true true .int p9 (.int .i64 1)) m) fun x1 m=>bp (pur (bin .sub true true .int p9 (.int .i64 1)) m) fun x2 m=>bp (pur (X4 11 p0 x2) m) fun x3 m=>bp (pur (X3 true 11 x3 m) m) fun x4 m=>bp (pur (X4 11 p0 p9) m) fun x5 m=>bp (pur (X3 true 11 x5 m) m) fun x6 m=>bp (pur (X4 11 p0 p9) m) fun x7 m=>bp (unt (X8 11 x7 x4 m)) fun _ m=>bp (pur (X4 11 p0 x1) m) fun x8 m=>bp (unt (X8 11 x8 x6 m)) fun _ m=>bp (pur (bin .sub true true .int p9 (.int .i64 1)) m) fun x9 m=>k1 x9 p1 p3 p0 p8 p2 m) (Q8i G k0 p8 p2 p1 p3 p0 m)
def Q1m (G:Gt)(k0:J5):Nat→V→V→V→V→V→V→M→R
 | 0,_,_,_,_,_,_,_=>none
 | i + 1,p9,p1,p3,p0,p8,p2,m=>bp (pur (bin .gtr false true .int p9 p1) m) fun x10 m=>brt x10 (bp (pur (X4 11 p0 p9) m) fun x11 m=>bp (pur (X3 true 11 x11 m) m) fun x12 m=>bp (pur (bin .sub true true .int p9 (.int .i64 1)) m) fun x13 m=>bp (pur (X4 11 p0 x13) m) fun x14 m=>bp (pur (X3 true 11 x14 m) m) fun x15 m=>bp (Xg G.tab p3 [x12,x15] m) fun x16 m=>bp (pur (bin .lss true true .int x16 (.int .i64 0)) m) fun x17 m=>Q3p G (Q1m G k0 i) k0 x17 p0 p9 p1 p3 p8 p2 m) (Q3p G (Q1m G k0 i) k0 (.bool false) p0 p9 p1 p3 p8 p2 m) (none)
def Q8j (G:Gt)(k0:J5)(p9 p1 p3 p0 p8 p2:V)(m:M):R:=Q1m G k0 G.rds p9 p1 p3 p0 p8 p2 m
def Q8k (G:Gt)(k0:J5)(p8 p1 p3 p0 p2:V)(m:M):R:=Q8j G k0 p8 p1 p3 p0 p8 p2 m
def Qg (G:Gt):Nat→V→V→V→V→V→M→R
 | 0,_,_,_,_,_,_=>none
 | i + 1,p8,p2,p1,p3,p0,m=>bp (pur (bin .lss false true .int p8 p2) m) fun x18 m=>brb x18 (Q8k G (Qg G i) p8 p1 p3 p0 p2 m) (some (.tuple ⟨[]⟩,m))
def Q8l (G:Gt)(p8 p2 p1 p3 p0:V)(m:M):R:=Qg G G.rds p8 p2 p1 p3 p0 m
def Q4c (G:Gt)(p1 p2 p3 p0:V)(m:M):R:=bp (pur (bin .add true true .int p1 (.int .i64 1)) m) fun x19 m=>Q8l G x19 p2 p1 p3 p0 m
theorem Qly (G:Gt)(a0 a1 a2 a3:V)(m:M):ef G Tryz.f582 [a0,a1,a2,a3] m = Q4c G a1 a2 a3 a0 m:=X7 (r:=fun r m=>Q4c G (r 1) (r 2) (r 3) (r 0) m) rfl rfl (tr (seqQ (f:=fun r m=>Q8l G (r 8) (r 2) (r 1) (r 3) (r 0) m) (tr (Xc (Xj (fun i r m=>Qg G i (r 8) (r 2) (r 1) (r 3) (r 0) m) (fun _ _=>rfl) (fun i0=>tr (seqQ (f:=fun r m=>Q8k G (Qg G i0) (r 8) (r 1) (r 3) (r 0) (r 2) m) (tr (tr (seqQ (f:=fun r m=>Q8i G (Qg G i0) (r 8) (r 2) (r 1) (r 3) (r 0) m)) (Xc (seqQ (f:=fun r m=>Q8j G (Qg G i0) (r 9) (r 1) (r 3) (r 0) (r 8) (r 2) m) (tr (Xc (Xj (fun i r m=>Q1m G (Qg G i0) i (r 9) (r 1) (r 3) (r 0) (r 8) (r 2) m) (fun _ _=>rfl) (fun i1=>tr (tr seqD (seqQ (f:=fun r m=>Q3p G (Q1m G (Qg G i0) i1) (Qg G i0) (r 34) (r 0) (r 9) (r 1) (r 3) (r 8) (r 2) m)))))))))))))))))) m
def Qlz:En:=⟨Q48,Tryz.f582,Tryz.func582,by kernel_rfl,arg4 (fun G a0 a1 a2 a3 m=>Q4c G a1 a2 a3 a0 m),X1h Qly⟩
def Q7q (G:Gt)(k0:J5)(p8 p2 p1 p3 p0:V)(m:M):R:=bp (pur (bin .add true true .int p8 (.int .i64 1)) m) fun x0 m=>k0 x0 p2 p1 p3 p0 m
def Q3f (G:Gt)(k1:J6)(k0:J5)(p34 p0 p9 p1 p3 p8 p2:V)(m:M):R:=brb p34 (bp (pur (bin .sub true true .int p9 (.int .i64 1)) m) fun x1 m=>bp (pur (bin .sub true true .int p9 (.int .i64 1)) m) fun x2 m=>bp (pur (X4 2 p0 x2) m) fun x3 m=>bp (pur (X3 true 2 x3 m) m) fun x4 m=>bp (pur (X4 2 p0 p9) m) fun x5 m=>bp (pur (X3 true 2 x5 m) m) fun x6 m=>bp (pur (X4 2 p0 p9) m) fun x7 m=>bp (unt (X8 2 x7 x4 m)) fun _ m=>bp (pur (X4 2 p0 x1) m) fun x8 m=>bp (unt (X8 2 x8 x6 m)) fun _ m=>bp (pur (bin .sub true true .int p9 (.int .i64 1)) m) fun x9 m=>k1 x9 p1 p3 p0 p8 p2 m) (Q7q G k0 p8 p2 p1 p3 p0 m)
def Q1f (G:Gt)(k0:J5):Nat→V→V→V→V→V→V→M→R
 | 0,_,_,_,_,_,_,_=>none
 | i + 1,p9,p1,p3,p0,p8,p2,m=>bp (pur (bin .gtr false true .int p9 p1) m) fun x10 m=>brt x10 (bp (pur (X4 2 p0 p9) m) fun x11 m=>bp (pur (X3 true 2 x11 m) m) fun x12 m=>bp (pur (bin .sub true true .int p9 (.int .i64 1)) m) fun x13 m=>bp (pur (X4 2 p0 x13) m) fun x14 m=>bp (pur (X3 true 2 x14 m) m) fun x15 m=>bp (Xg G.tab p3 [x12,x15] m) fun x16 m=>bp (pur (bin .lss true true .int x16 (.int .i64 0)) m) fun x17 m=>Q3f G (Q1f G k0 i) k0 x17 p0 p9 p1 p3 p8 p2 m) (Q3f G (Q1f G k0 i) k0 (.bool false) p0 p9 p1 p3 p8 p2 m) (none)
def Q7r (G:Gt)(k0:J5)(p9 p1 p3 p0 p8 p2:V)(m:M):R:=Q1f G k0 G.rds p9 p1 p3 p0 p8 p2 m
def Q7s (G:Gt)(k0:J5)(p8 p1 p3 p0 p2:V)(m:M):R:=Q7r G k0 p8 p1 p3 p0 p8 p2 m
def Qc (G:Gt):Nat→V→V→V→V→V→M→R
 | 0,_,_,_,_,_,_=>none
 | i + 1,p8,p2,p1,p3,p0,m=>bp (pur (bin .lss false true .int p8 p2) m) fun x18 m=>brb x18 (Q7s G (Qc G i) p8 p1 p3 p0 p2 m) (some (.tuple ⟨[]⟩,m))
def Q7t (G:Gt)(p8 p2 p1 p3 p0:V)(m:M):R:=Qc G G.rds p8 p2 p1 p3 p0 m
def Q40 (G:Gt)(p1 p2 p3 p0:V)(m:M):R:=bp (pur (bin .add true true .int p1 (.int .i64 1)) m) fun x19 m=>Q7t G x19 p2 p1 p3 p0 m
theorem Qkg (G:Gt)(a0 a1 a2 a3:V)(m:M):ef G Tryz.f584 [a0,a1,a2,a3] m = Q40 G a1 a2 a3 a0 m:=X7 (r:=fun r m=>Q40 G (r 1) (r 2) (r 3) (r 0) m) rfl rfl (tr (seqQ (f:=fun r m=>Q7t G (r 8) (r 2) (r 1) (r 3) (r 0) m) (tr (Xc (Xj (fun i r m=>Qc G i (r 8) (r 2) (r 1) (r 3) (r 0) m) (fun _ _=>rfl) (fun i0=>tr (seqQ (f:=fun r m=>Q7s G (Qc G i0) (r 8) (r 1) (r 3) (r 0) (r 2) m) (tr (tr (seqQ (f:=fun r m=>Q7q G (Qc G i0) (r 8) (r 2) (r 1) (r 3) (r 0) m)) (Xc (seqQ (f:=fun r m=>Q7r G (Qc G i0) (r 9) (r 1) (r 3) (r 0) (r 8) (r 2) m) (tr (Xc (Xj (fun i r m=>Q1f G (Qc G i0) i (r 9) (r 1) (r 3) (r 0) (r 8) (r 2) m) (fun _ _=>rfl) (fun i1=>tr (tr seqD (seqQ (f:=fun r m=>Q3f G (Q1f G (Qc G i0) i1) (Qc G i0) (r 34) (r 0) (r 9) (r 1) (r 3) (r 8) (r 2) m)))))))))))))))))) m
def Qkh:En:=⟨Q3v,Tryz.f584,Tryz.func584,by kernel_rfl,arg4 (fun G a0 a1 a2 a3 m=>Q40 G a1 a2 a3 a0 m),X1h Qkg⟩
def Q5t (G:Gt)(k0:J5)(p8 p2 p1 p3 p0:V)(m:M):R:=bp (pur (bin .add true true .int p8 (.int .i64 1)) m) fun x0 m=>k0 x0 p2 p1 p3 p0 m
def Q2q (G:Gt)(k1:J6)(k0:J5)(p34 p0 p9 p1 p3 p8 p2:V)(m:M):R:=brb p34 (bp (pur (bin .sub true true .int p9 (.int .i64 1)) m) fun x1 m=>bp (pur (bin .sub true true .int p9 (.int .i64 1)) m) fun x2 m=>bp (pur (X4 2 p0 x2) m) fun x3 m=>bp (pur (X3 true 2 x3 m) m) fun x4 m=>bp (pur (X4 2 p0 p9) m) fun x5 m=>bp (pur (X3 true 2 x5 m) m) fun x6 m=>bp (pur (X4 2 p0 p9) m) fun x7 m=>bp (unt (X8 2 x7 x4 m)) fun _ m=>bp (pur (X4 2 p0 x1) m) fun x8 m=>bp (unt (X8 2 x8 x6 m)) fun _ m=>bp (pur (bin .sub true true .int p9 (.int .i64 1)) m) fun x9 m=>k1 x9 p1 p3 p0 p8 p2 m) (Q5t G k0 p8 p2 p1 p3 p0 m)
def Q14 (G:Gt)(k0:J5):Nat→V→V→V→V→V→V→M→R
 | 0,_,_,_,_,_,_,_=>none
 | i + 1,p9,p1,p3,p0,p8,p2,m=>bp (pur (bin .gtr false true .int p9 p1) m) fun x10 m=>brt x10 (bp (pur (X4 2 p0 p9) m) fun x11 m=>bp (pur (X3 true 2 x11 m) m) fun x12 m=>bp (pur (bin .sub true true .int p9 (.int .i64 1)) m) fun x13 m=>bp (pur (X4 2 p0 x13) m) fun x14 m=>bp (pur (X3 true 2 x14 m) m) fun x15 m=>bp (Xg G.tab p3 [x12,x15] m) fun x16 m=>bp (pur (bin .lss true true .int x16 (.int .i64 0)) m) fun x17 m=>Q2q G (Q14 G k0 i) k0 x17 p0 p9 p1 p3 p8 p2 m) (Q2q G (Q14 G k0 i) k0 (.bool false) p0 p9 p1 p3 p8 p2 m) (none)
def Q5u (G:Gt)(k0:J5)(p9 p1 p3 p0 p8 p2:V)(m:M):R:=Q14 G k0 G.rds p9 p1 p3 p0 p8 p2 m
def Q5v (G:Gt)(k0:J5)(p8 p1 p3 p0 p2:V)(m:M):R:=Q5u G k0 p8 p1 p3 p0 p8 p2 m
def Q7 (G:Gt):Nat→V→V→V→V→V→M→R
 | 0,_,_,_,_,_,_=>none
 | i + 1,p8,p2,p1,p3,p0,m=>bp (pur (bin .lss false true .int p8 p2) m) fun x18 m=>brb x18 (Q5v G (Q7 G i) p8 p1 p3 p0 p2 m) (some (.tuple ⟨[]⟩,m))
def Q5w (G:Gt)(p8 p2 p1 p3 p0:V)(m:M):R:=Q7 G G.rds p8 p2 p1 p3 p0 m
def Q2y (G:Gt)(p1 p2 p3 p0:V)(m:M):R:=bp (pur (bin .add true true .int p1 (.int .i64 1)) m) fun x19 m=>Q5w G x19 p2 p1 p3 p0 m
theorem Qha (G:Gt)(a0 a1 a2 a3:V)(m:M):ef G Tryz.f586 [a0,a1,a2,a3] m = Q2y G a1 a2 a3 a0 m:=X7 (r:=fun r m=>Q2y G (r 1) (r 2) (r 3) (r 0) m) rfl rfl (tr (seqQ (f:=fun r m=>Q5w G (r 8) (r 2) (r 1) (r 3) (r 0) m) (tr (Xc (Xj (fun i r m=>Q7 G i (r 8) (r 2) (r 1) (r 3) (r 0) m) (fun _ _=>rfl) (fun i0=>tr (seqQ (f:=fun r m=>Q5v G (Q7 G i0) (r 8) (r 1) (r 3) (r 0) (r 2) m) (tr (tr (seqQ (f:=fun r m=>Q5t G (Q7 G i0) (r 8) (r 2) (r 1) (r 3) (r 0) m)) (Xc (seqQ (f:=fun r m=>Q5u G (Q7 G i0) (r 9) (r 1) (r 3) (r 0) (r 8) (r 2) m) (tr (Xc (Xj (fun i r m=>Q14 G (Q7 G i0) i (r 9) (r 1) (r 3) (r 0) (r 8) (r 2) m) (fun _ _=>rfl) (fun i1=>tr (tr seqD (seqQ (f:=fun r m=>Q2q G (Q14 G (Q7 G i0) i1) (Q7 G i0) (r 34) (r 0) (r 9) (r 1) (r 3) (r 8) (r 2) m)))))))))))))))))) m
def Qhb:En:=⟨Q2x,Tryz.f586,Tryz.func586,by kernel_rfl,arg4 (fun G a0 a1 a2 a3 m=>Q2y G a1 a2 a3 a0 m),X1h Qha⟩
def Q4x (G:Gt)(k0:J5)(p8 p2 p1 p3 p0:V)(m:M):R:=bp (pur (bin .add true true .int p8 (.int .i64 1)) m) fun x0 m=>k0 x0 p2 p1 p3 p0 m
def Q29 (G:Gt)(k1:J6)(k0:J5)(p34 p0 p9 p1 p3 p8 p2:V)(m:M):R:=brb p34 (bp (pur (bin .sub true true .int p9 (.int .i64 1)) m) fun x1 m=>bp (pur (bin .sub true true .int p9 (.int .i64 1)) m) fun x2 m=>bp (pur (X4 2 p0 x2) m) fun x3 m=>bp (pur (X3 true 2 x3 m) m) fun x4 m=>bp (pur (X4 2 p0 p9) m) fun x5 m=>bp (pur (X3 true 2 x5 m) m) fun x6 m=>bp (pur (X4 2 p0 p9) m) fun x7 m=>bp (unt (X8 2 x7 x4 m)) fun _ m=>bp (pur (X4 2 p0 x1) m) fun x8 m=>bp (unt (X8 2 x8 x6 m)) fun _ m=>bp (pur (bin .sub true true .int p9 (.int .i64 1)) m) fun x9 m=>k1 x9 p1 p3 p0 p8 p2 m) (Q4x G k0 p8 p2 p1 p3 p0 m)
def Q11 (G:Gt)(k0:J5):Nat→V→V→V→V→V→V→M→R
 | 0,_,_,_,_,_,_,_=>none
 | i + 1,p9,p1,p3,p0,p8,p2,m=>bp (pur (bin .gtr false true .int p9 p1) m) fun x10 m=>brt x10 (bp (pur (X4 2 p0 p9) m) fun x11 m=>bp (pur (X3 true 2 x11 m) m) fun x12 m=>bp (pur (bin .sub true true .int p9 (.int .i64 1)) m) fun x13 m=>bp (pur (X4 2 p0 x13) m) fun x14 m=>bp (pur (X3 true 2 x14 m) m) fun x15 m=>bp (Xg G.tab p3 [x12,x15] m) fun x16 m=>bp (pur (bin .lss true true .int x16 (.int .i64 0)) m) fun x17 m=>Q29 G (Q11 G k0 i) k0 x17 p0 p9 p1 p3 p8 p2 m) (Q29 G (Q11 G k0 i) k0 (.bool false) p0 p9 p1 p3 p8 p2 m) (none)
def Q4y (G:Gt)(k0:J5)(p9 p1 p3 p0 p8 p2:V)(m:M):R:=Q11 G k0 G.rds p9 p1 p3 p0 p8 p2 m
def Q4z (G:Gt)(k0:J5)(p8 p1 p3 p0 p2:V)(m:M):R:=Q4y G k0 p8 p1 p3 p0 p8 p2 m
def Q5 (G:Gt):Nat→V→V→V→V→V→M→R
 | 0,_,_,_,_,_,_=>none
 | i + 1,p8,p2,p1,p3,p0,m=>bp (pur (bin .lss false true .int p8 p2) m) fun x18 m=>brb x18 (Q4z G (Q5 G i) p8 p1 p3 p0 p2 m) (some (.tuple ⟨[]⟩,m))
def Q50 (G:Gt)(p8 p2 p1 p3 p0:V)(m:M):R:=Q5 G G.rds p8 p2 p1 p3 p0 m
def Q2n (G:Gt)(p1 p2 p3 p0:V)(m:M):R:=bp (pur (bin .add true true .int p1 (.int .i64 1)) m) fun x19 m=>Q50 G x19 p2 p1 p3 p0 m
theorem Qf4 (G:Gt)(a0 a1 a2 a3:V)(m:M):ef G Tryz.f588 [a0,a1,a2,a3] m = Q2n G a1 a2 a3 a0 m:=X7 (r:=fun r m=>Q2n G (r 1) (r 2) (r 3) (r 0) m) rfl rfl (tr (seqQ (f:=fun r m=>Q50 G (r 8) (r 2) (r 1) (r 3) (r 0) m) (tr (Xc (Xj (fun i r m=>Q5 G i (r 8) (r 2) (r 1) (r 3) (r 0) m) (fun _ _=>rfl) (fun i0=>tr (seqQ (f:=fun r m=>Q4z G (Q5 G i0) (r 8) (r 1) (r 3) (r 0) (r 2) m) (tr (tr (seqQ (f:=fun r m=>Q4x G (Q5 G i0) (r 8) (r 2) (r 1) (r 3) (r 0) m)) (Xc (seqQ (f:=fun r m=>Q4y G (Q5 G i0) (r 9) (r 1) (r 3) (r 0) (r 8) (r 2) m) (tr (Xc (Xj (fun i r m=>Q11 G (Q5 G i0) i (r 9) (r 1) (r 3) (r 0) (r 8) (r 2) m) (fun _ _=>rfl) (fun i1=>tr (tr seqD (seqQ (f:=fun r m=>Q29 G (Q11 G (Q5 G i0) i1) (Q5 G i0) (r 34) (r 0) (r 9) (r 1) (r 3) (r 8) (r 2) m)))))))))))))))))) m
def Qf5:En:=⟨Q2m,Tryz.f588,Tryz.func588,by kernel_rfl,arg4 (fun G a0 a1 a2 a3 m=>Q2n G a1 a2 a3 a0 m),X1h Qf4⟩
def Q7u (G:Gt)(k0:J5)(p8 p2 p1 p3 p0:V)(m:M):R:=bp (pur (bin .add true true .int p8 (.int .i64 1)) m) fun x0 m=>k0 x0 p2 p1 p3 p0 m
def Q3g (G:Gt)(k1:J6)(k0:J5)(p34 p0 p9 p1 p3 p8 p2:V)(m:M):R:=brb p34 (bp (pur (bin .sub true true .int p9 (.int .i64 1)) m) fun x1 m=>bp (pur (bin .sub true true .int p9 (.int .i64 1)) m) fun x2 m=>bp (pur (X4 3 p0 x2) m) fun x3 m=>bp (pur (X3 true 3 x3 m) m) fun x4 m=>bp (pur (X4 3 p0 p9) m) fun x5 m=>bp (pur (X3 true 3 x5 m) m) fun x6 m=>bp (pur (X4 3 p0 p9) m) fun x7 m=>bp (unt (X8 3 x7 x4 m)) fun _ m=>bp (pur (X4 3 p0 x1) m) fun x8 m=>bp (unt (X8 3 x8 x6 m)) fun _ m=>bp (pur (bin .sub true true .int p9 (.int .i64 1)) m) fun x9 m=>k1 x9 p1 p3 p0 p8 p2 m) (Q7u G k0 p8 p2 p1 p3 p0 m)
def Q1g (G:Gt)(k0:J5):Nat→V→V→V→V→V→V→M→R
 | 0,_,_,_,_,_,_,_=>none
 | i + 1,p9,p1,p3,p0,p8,p2,m=>bp (pur (bin .gtr false true .int p9 p1) m) fun x10 m=>brt x10 (bp (pur (X4 3 p0 p9) m) fun x11 m=>bp (pur (X3 true 3 x11 m) m) fun x12 m=>bp (pur (bin .sub true true .int p9 (.int .i64 1)) m) fun x13 m=>bp (pur (X4 3 p0 x13) m) fun x14 m=>bp (pur (X3 true 3 x14 m) m) fun x15 m=>bp (Xg G.tab p3 [x12,x15] m) fun x16 m=>bp (pur (bin .lss true true .int x16 (.int .i64 0)) m) fun x17 m=>Q3g G (Q1g G k0 i) k0 x17 p0 p9 p1 p3 p8 p2 m) (Q3g G (Q1g G k0 i) k0 (.bool false) p0 p9 p1 p3 p8 p2 m) (none)
def Q7v (G:Gt)(k0:J5)(p9 p1 p3 p0 p8 p2:V)(m:M):R:=Q1g G k0 G.rds p9 p1 p3 p0 p8 p2 m
def Q7w (G:Gt)(k0:J5)(p8 p1 p3 p0 p2:V)(m:M):R:=Q7v G k0 p8 p1 p3 p0 p8 p2 m
def Qd (G:Gt):Nat→V→V→V→V→V→M→R
 | 0,_,_,_,_,_,_=>none
 | i + 1,p8,p2,p1,p3,p0,m=>bp (pur (bin .lss false true .int p8 p2) m) fun x18 m=>brb x18 (Q7w G (Qd G i) p8 p1 p3 p0 p2 m) (some (.tuple ⟨[]⟩,m))
def Q7x (G:Gt)(p8 p2 p1 p3 p0:V)(m:M):R:=Qd G G.rds p8 p2 p1 p3 p0 m
def Q41 (G:Gt)(p1 p2 p3 p0:V)(m:M):R:=bp (pur (bin .add true true .int p1 (.int .i64 1)) m) fun x19 m=>Q7x G x19 p2 p1 p3 p0 m
theorem Qki (G:Gt)(a0 a1 a2 a3:V)(m:M):ef G Tryz.f590 [a0,a1,a2,a3] m = Q41 G a1 a2 a3 a0 m:=X7 (r:=fun r m=>Q41 G (r 1) (r 2) (r 3) (r 0) m) rfl rfl (tr (seqQ (f:=fun r m=>Q7x G (r 8) (r 2) (r 1) (r 3) (r 0) m) (tr (Xc (Xj (fun i r m=>Qd G i (r 8) (r 2) (r 1) (r 3) (r 0) m) (fun _ _=>rfl) (fun i0=>tr (seqQ (f:=fun r m=>Q7w G (Qd G i0) (r 8) (r 1) (r 3) (r 0) (r 2) m) (tr (tr (seqQ (f:=fun r m=>Q7u G (Qd G i0) (r 8) (r 2) (r 1) (r 3) (r 0) m)) (Xc (seqQ (f:=fun r m=>Q7v G (Qd G i0) (r 9) (r 1) (r 3) (r 0) (r 8) (r 2) m) (tr (Xc (Xj (fun i r m=>Q1g G (Qd G i0) i (r 9) (r 1) (r 3) (r 0) (r 8) (r 2) m) (fun _ _=>rfl) (fun i1=>tr (tr seqD (seqQ (f:=fun r m=>Q3g G (Q1g G (Qd G i0) i1) (Qd G i0) (r 34) (r 0) (r 9) (r 1) (r 3) (r 8) (r 2) m)))))))))))))))))) m
def Qkj:En:=⟨Q3y,Tryz.f590,Tryz.func590,by kernel_rfl,arg4 (fun G a0 a1 a2 a3 m=>Q41 G a1 a2 a3 a0 m),X1h Qki⟩
def Qod:En:=wE Qoe Tryz.f609 Tryz.func609 ⟨_,by go_invoke; rfl⟩
end
end Go.Ab.Sh
