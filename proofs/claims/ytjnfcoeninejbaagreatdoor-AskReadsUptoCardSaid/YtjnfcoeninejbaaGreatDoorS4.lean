/-
  Functions of the program as plain definitions. No conditions.
-/
import Derived.Test.YtjnfcoeninejbaaGreatDoorAb5
import Derived.Test.YtjnfcoeninejbaaGreatDoorZ
import Derived.KernelRfl
import Derived.Test.YtjnfcoeninejbaaGreatDoorProg
set_option linter.unusedVariables false
set_option maxRecDepth 100000
namespace Go.Ab.Sh
open Go Go.Ab Go.Proofs
noncomputable section
def Qd0 (G:Gt)(p3 p1:V)(m:M):R:=brb p3 (some ((.int .i64 1),m)) (bp (pur (X3 0 p1) m) fun x0 m=>bp (pur (X6 false 1 x0 m) m) fun x1 m=>bp (pur (X3 1 p1) m) fun x2 m=>bp (pur (X6 false 1 x2 m) m) fun x3 m=>bp (G.tab Qdu [x3] m) fun x4 m=>ckB (again (pur (X6 false 1 x0 m) m) x1 && true) (bp (pur (bin .and false true .int x1 x4) m) fun x5 m=>bp (pur (bin .neq true true .int x5 (.int .u32 0)) m) fun x6 m=>brb x6 (some ((.int .i64 10),m)) (some ((.int .i64 0),m))))
def Qf5 (G:Gt)(p1:V)(m:M):R:=bp (pur (X3 1 p1) m) fun x7 m=>bp (pur (X6 false 1 x7 m) m) fun x8 m=>bp (pur (bin .lss true true .int x8 (.int .i64 0)) m) fun x9 m=>brb x9 (Qd0 G (.bool true) p1 m) (bp (pur (X3 1 p1) m) fun x10 m=>bp (pur (X6 false 1 x10 m) m) fun x11 m=>bp (pur (bin .gtr true true .int x11 (.int .i64 32)) m) fun x12 m=>Qd0 G x12 p1 m)
def Qa1 (G:Gt)(p0:V)(m:M):R:=bp (some (aNew Q2 (Value.cells p0).toList m)) fun x13 m=>Qf5 G x13 m
theorem Qke (G:Gt)(a0:V)(m:M):ef G Tryz.f53 [a0] m = Qa1 G a0 m:=Xf (r:=fun r m=>Qa1 G (r 0) m) rfl rfl (tr (seqQ (f:=fun r m=>Qf5 G (r 1) m) (tr (tr seqD (Xx (seqQ (f:=fun r m=>Qd0 G (r 3) (r 1) m))))))) m
def Qg2:En:=⟨Qed,Tryz.f53,Tryz.func53,by kernel_rfl,arg1 Qa1,X19 Qke⟩
def Q43 (G:Gt)(m:M):R:=some ((.int .i64 (-1)),m)
def Qw (G:Gt):Nat→V→V→V→V→M→R
 | 0,_,_,_,_,_=>none
 | i + 1,p8,p7,p1,p0,m=>bp (pur (bin .lss false true .int p8 p7) m) fun x0 m=>brb x0 (bp (pur (X9 1 p0 p8) m) fun x1 m=>bp (pur (X6 false 1 x1 m) m) fun x2 m=>bp (pur (bin .eql false true .str p1 x2) m) fun x3 m=>brb x3 (some (p8,m)) (bp (pur (bin .add true true .int p8 (.int .i64 1)) m) fun x4 m=>(Qw G i) x4 p7 p1 p0 m)) (Q43 G m)
def Q45 (G:Gt)(p8 p7 p1 p0:V)(m:M):R:=Qw G G.rds p8 p7 p1 p0 m
def Q44 (G:Gt)(p0 p1:V)(m:M):R:=bp (pur (lenK 1 p0 m) m) fun x5 m=>Q45 G (.int .i64 0) x5 p1 p0 m
def Q11 (G:Gt)(p0 p1:V)(m:M):R:=Q44 G p0 p1 m
theorem Qe6 (G:Gt)(a0 a1:V)(m:M):ef G Tryz.f54 [a0,a1] m = Q11 G a0 a1 m:=Xf (r:=fun r m=>Q11 G (r 0) (r 1) m) rfl rfl (tr (seqQ (f:=fun r m=>Q44 G (r 0) (r 1) m) (tr (tr (seqQ (f:=fun r m=>Q43 G m)) (seqQ (f:=fun r m=>Q45 G (r 8) (r 7) (r 1) (r 0) m) (tr (Xx (X2f (fun i r m=>Qw G i (r 8) (r 7) (r 1) (r 0) m) (fun _ _=>rfl) (fun i0=>fun r m=>by kernel_rfl))))))))) m
def Q4p:En:=⟨Q2d,Tryz.f54,Tryz.func54,by kernel_rfl,arg2 Q11,X2n Qe6⟩
def Q5m (G:Gt)(p2:V)(m:M):R:=bp (pur (Xn Q5 [(0,1),(1,1)] []) m) fun x0 m=>bp (unt (X7 2 p2 x0 m)) fun _ m=>ob (ob (X6 true 2 p2 m) fun v=>ob (some [(.int .i64 4)]) fun l=>some (v :: l)) fun l=>some (X1a l,m)
def Q3d (G:Gt)(p36 p2 p5 p7:V)(m:M):R:=brb p36 (bp (pur (Xn Q5 [(0,1),(1,1)] []) m) fun x1 m=>bp (unt (X7 2 p2 x1 m)) fun _ m=>ob (ob (X6 true 2 p2 m) fun v=>ob (some [(.int .i64 4)]) fun l=>some (v :: l)) fun l=>some (X1a l,m)) (bp (pur (Xn Q5 [(0,1),(1,1)] [(0,p5),(1,p7)]) m) fun x2 m=>bp (some (aNew Q2 Q5 m)) fun x3 m=>bp (unt (X7 2 x3 x2 m)) fun _ m=>bp (pur (X6 true 2 x3 m) m) fun x4 m=>bp (G.tab Q4w [x4] m) fun x5 m=>bp (pur (bin .neq true true .int x5 (.int .i64 0)) m) fun x6 m=>brb x6 (bp (pur (Xn Q5 [(0,1),(1,1)] []) m) fun x7 m=>bp (unt (X7 2 p2 x7 m)) fun _ m=>ob (ob (X6 true 2 p2 m) fun v=>ob (some [(.int .i64 10)]) fun l=>some (v :: l)) fun l=>some (X1a l,m)) (bp (pur (X6 true 2 x3 m) m) fun x8 m=>bp (unt (X7 2 p2 x8 m)) fun _ m=>ob (ob (X6 true 2 p2 m) fun v=>ob (some [(.int .i64 0)]) fun l=>some (v :: l)) fun l=>some (X1a l,m)))
def Q5q (G:Gt)(p6 p7 p2 p5:V)(m:M):R:=bp (pur (bin .neq true true .int p6 (.int .i64 0)) m) fun x9 m=>brb x9 (Q3d G (.bool true) p2 p5 p7 m) (bp (pur (bin .lss true true .int p7 (.int .i64 0)) m) fun x10 m=>Q3d G x10 p2 p5 p7 m)
def Q5p (G:Gt)(p0 p4 p6 p2 p5:V)(m:M):R:=bp (pur (bin .add true true .int p4 (.int .i64 1)) m) fun x11 m=>bp (pur (X11 p0 (some x11) none) m) fun x12 m=>bp (G.tab Q6 [x12,(.int .i64 32)] m) fun x13 m=>Q5q G p6 x13 p2 p5 m
def Q5o (G:Gt)(k0:J3)(p18 p0 p4 p2:V)(m:M):R:=brb p18 (bp (pur (X11 p0 none (some p4)) m) fun x14 m=>bp (G.tab Q10 [x14] m) fun x15 m=>bp (pur (Xa x15 0) m) fun x16 m=>bp (pur (Xa x15 1) m) fun x17 m=>Q5p G p0 p4 x17 p2 x16 m) (bp (pur (bin .add true true .int p4 (.int .i64 1)) m) fun x18 m=>k0 x18 p0 p2 m)
def Q5n (G:Gt)(k0:J3)(p0 p4 p2:V)(m:M):R:=bp (pur (Xm p0 p4) m) fun x19 m=>bp (pur (bin .eql true true .int x19 (.int .u8 47)) m) fun x20 m=>Q5o G k0 x20 p0 p4 p2 m
def Qr (G:Gt):Nat→V→V→V→M→R
 | 0,_,_,_,_=>none
 | i + 1,p4,p0,p2,m=>bp (pur (lenK 0 p0 m) m) fun x21 m=>bp (pur (bin .lss false true .int p4 x21) m) fun x22 m=>brb x22 (Q5n G (Qr G i) p0 p4 p2 m) (Q5m G p2 m)
def Q5s (G:Gt)(p4 p0 p2:V)(m:M):R:=Qr G G.rds p4 p0 p2 m
def Q5r (G:Gt)(p0 p2:V)(m:M):R:=Q5s G (.int .i64 0) p0 p2 m
def Q1j (G:Gt)(p0:V)(m:M):R:=bp (some (aNew Q2 Q5 m)) fun x23 m=>Q5r G p0 x23 m
theorem Qfy (G:Gt)(a0:V)(m:M):ef G Tryz.f60 [a0] m = Q1j G a0 m:=Xf (r:=fun r m=>Q1j G (r 0) m) rfl rfl (tr (seqQ (f:=fun r m=>Q5r G (r 0) (r 2) m) (tr (tr (seqQ (f:=fun r m=>Q5m G (r 2) m)) (seqQ (f:=fun r m=>Q5s G (r 4) (r 0) (r 2) m) (tr (Xx (X2f (fun i r m=>Qr G i (r 4) (r 0) (r 2) m) (fun _ _=>rfl) (fun i0=>tr (seqQ (f:=fun r m=>Q5n G (Qr G i0) (r 0) (r 4) (r 2) m) (tr (tr seqD (Xx (seqQ (f:=fun r m=>Q5o G (Qr G i0) (r 18) (r 0) (r 4) (r 2) m) (tr (X50 (seqQ (f:=fun r m=>Q5p G (r 0) (r 4) (r 6) (r 2) (r 5) m) (tr (seqQ (f:=fun r m=>Q5q G (r 6) (r 7) (r 2) (r 5) m) (tr (tr seqD (seqQ (f:=fun r m=>Q3d G (r 36) (r 2) (r 5) (r 7) m))))))) (refQ))))))))))))))))) m
def Q6y:En:=⟨Q2c,Tryz.f60,Tryz.func60,by kernel_rfl,arg1 Q1j,X19 Qfy⟩
def Q9b (G:Gt)(p2:V)(m:M):R:=bp (pur (Xn Qc [(0,1),(1,1)] []) m) fun x0 m=>bp (unt (X7 2 p2 x0 m)) fun _ m=>ob (ob (X6 true 2 p2 m) fun v=>ob (some [(.bool false)]) fun l=>some (v :: l)) fun l=>some (X1a l,m)
def Q66 (G:Gt)(p2 p3:V)(m:M):R:=ob (ob (X6 true 2 p2 m) fun v=>ob (some [p3]) fun l=>some (v :: l)) fun l=>some (X1a l,m)
def Q9f (G:Gt)(p5 p6 p2:V)(m:M):R:=bp (pur (aMax p5 (.int .i64 0)) m) fun x1 m=>bp (conv (.int .u32) x1 m) fun x2 m=>bp (pur (aMax p6 (.int .i64 0)) m) fun x3 m=>bp (conv (.int .u32) x3 m) fun x4 m=>bp (pur (Xn Qc [(0,1),(1,1)] [(0,x2),(1,x4)]) m) fun x5 m=>bp (pur (bin .geq true true .int p5 (.int .i64 0)) m) fun x6 m=>brb x6 (bp (pur (bin .geq false true .int p6 p5) m) fun x7 m=>bp (unt (X7 2 p2 x5 m)) fun _ m=>Q66 G p2 x7 m) (bp (unt (X7 2 p2 x5 m)) fun _ m=>Q66 G p2 (.bool false) m)
def Q9e (G:Gt)(p0 p4 p5 p2:V)(m:M):R:=bp (pur (bin .add true true .int p4 (.int .i64 1)) m) fun x8 m=>bp (pur (X11 p0 (some x8) none) m) fun x9 m=>bp (G.tab Q6 [x9,(.int .i64 65535)] m) fun x10 m=>Q9f G p5 x10 p2 m
def Q9d (G:Gt)(k0:J3)(p16 p0 p4 p2:V)(m:M):R:=brb p16 (bp (pur (X11 p0 none (some p4)) m) fun x11 m=>bp (G.tab Q6 [x11,(.int .i64 65535)] m) fun x12 m=>Q9e G p0 p4 x12 p2 m) (bp (pur (bin .add true true .int p4 (.int .i64 1)) m) fun x13 m=>k0 x13 p0 p2 m)
def Q9c (G:Gt)(k0:J3)(p0 p4 p2:V)(m:M):R:=bp (pur (Xm p0 p4) m) fun x14 m=>bp (pur (bin .eql true true .int x14 (.int .u8 45)) m) fun x15 m=>Q9d G k0 x15 p0 p4 p2 m
def Q18 (G:Gt):Nat→V→V→V→M→R
 | 0,_,_,_,_=>none
 | i + 1,p4,p0,p2,m=>bp (pur (lenK 0 p0 m) m) fun x16 m=>bp (pur (bin .lss false true .int p4 x16) m) fun x17 m=>brb x17 (Q9c G (Q18 G i) p0 p4 p2 m) (Q9b G p2 m)
def Q9h (G:Gt)(p4 p0 p2:V)(m:M):R:=Q18 G G.rds p4 p0 p2 m
def Q9g (G:Gt)(p0 p2:V)(m:M):R:=Q9h G (.int .i64 0) p0 p2 m
def Q3a (G:Gt)(p0:V)(m:M):R:=bp (some (aNew Qe Qc m)) fun x18 m=>Q9g G p0 x18 m
theorem Qhs (G:Gt)(a0:V)(m:M):ef G Tryz.f61 [a0] m = Q3a G a0 m:=Xf (r:=fun r m=>Q3a G (r 0) m) rfl rfl (tr (seqQ (f:=fun r m=>Q9g G (r 0) (r 2) m) (tr (tr (seqQ (f:=fun r m=>Q9b G (r 2) m)) (seqQ (f:=fun r m=>Q9h G (r 4) (r 0) (r 2) m) (tr (Xx (X2f (fun i r m=>Q18 G i (r 4) (r 0) (r 2) m) (fun _ _=>rfl) (fun i0=>tr (seqQ (f:=fun r m=>Q9c G (Q18 G i0) (r 0) (r 4) (r 2) m) (tr (tr seqD (Xx (seqQ (f:=fun r m=>Q9d G (Q18 G i0) (r 16) (r 0) (r 4) (r 2) m) (tr (X50 (seqQ (f:=fun r m=>Q9e G (r 0) (r 4) (r 5) (r 2) m) (tr (seqQ (f:=fun r m=>Q9f G (r 5) (r 6) (r 2) m) (tr (seqQ (f:=fun r m=>Q66 G (r 2) (r 3) m)))))) (refQ))))))))))))))))) m
def Qaz:En:=⟨Q3b,Tryz.f61,Tryz.func61,by kernel_rfl,arg1 Q3a,X19 Qhs⟩
def Qbb (G:Gt)(m:M):R:=some (.tuple ⟨[(.string ⟨#[]⟩),(.string ⟨#[]⟩),(.bool false)]⟩,m)
def Q3c (G:Gt):Nat→V→V→V→M→R
 | 0,_,_,_,_=>none
 | i + 1,p7,p0,p1,m=>bp (pur (lenK 0 p0 m) m) fun x0 m=>bp (pur (bin .lss false true .int p7 x0) m) fun x1 m=>brb x1 (bp (pur (Xm p0 p7) m) fun x2 m=>bp (pur (bin .eql false true .int x2 p1) m) fun x3 m=>brb x3 (bp (pur (X11 p0 none (some p7)) m) fun x4 m=>bp (pur (bin .add true true .int p7 (.int .i64 1)) m) fun x5 m=>bp (pur (X11 p0 (some x5) none) m) fun x6 m=>some (.tuple ⟨[x4,x6,(.bool true)]⟩,m)) (bp (pur (bin .add true true .int p7 (.int .i64 1)) m) fun x7 m=>(Q3c G i) x7 p0 p1 m)) (Qbb G m)
def Qbd (G:Gt)(p7 p0 p1:V)(m:M):R:=Q3c G G.rds p7 p0 p1 m
def Qbc (G:Gt)(p0 p1:V)(m:M):R:=Qbd G (.int .i64 0) p0 p1 m
def Q4i (G:Gt)(p0 p1:V)(m:M):R:=Qbc G p0 p1 m
theorem Qii (G:Gt)(a0 a1:V)(m:M):ef G Tryz.f62 [a0,a1] m = Q4i G a0 a1 m:=Xf (r:=fun r m=>Q4i G (r 0) (r 1) m) rfl rfl (tr (seqQ (f:=fun r m=>Qbc G (r 0) (r 1) m) (tr (tr (seqQ (f:=fun r m=>Qbb G m)) (seqQ (f:=fun r m=>Qbd G (r 7) (r 0) (r 1) m) (tr (Xx (X2f (fun i r m=>Q3c G i (r 7) (r 0) (r 1) m) (fun _ _=>rfl) (fun i0=>fun r m=>by kernel_rfl))))))))) m
def Qcs:En:=⟨Q17,Tryz.f62,Tryz.func62,by kernel_rfl,arg2 Q4i,X2n Qii⟩
def Q28 (G:Gt)(p28 p7 p9:V)(m:M):R:=brb p28 (some (.tuple ⟨[(.int .u32 0),(.int .i64 (-1))]⟩,m)) (some (.tuple ⟨[p7,p9]⟩,m))
def Q3h (G:Gt)(p6 p8 p7 p9:V)(m:M):R:=bp (pur (un .not p6) m) fun x0 m=>brb x0 (Q28 G (.bool true) p7 p9 m) (bp (pur (bin .neq true true .int p8 (.int .i64 0)) m) fun x1 m=>Q28 G x1 p7 p9 m)
def Q3g (G:Gt)(p5 p6 p8 p7:V)(m:M):R:=bp (G.tab Q6 [p5,(.int .i64 65535)] m) fun x2 m=>Q3h G p6 p8 p7 x2 m
def Q3f (G:Gt)(p4 p5 p6:V)(m:M):R:=bp (G.tab Q10 [p4] m) fun x3 m=>bp (pur (Xa x3 0) m) fun x4 m=>bp (pur (Xa x3 1) m) fun x5 m=>Q3g G p5 p6 x5 x4 m
def Q3e (G:Gt)(p0:V)(m:M):R:=bp (G.tab Q17 [p0,(.int .u8 58)] m) fun x6 m=>bp (pur (Xa x6 0) m) fun x7 m=>bp (pur (Xa x6 1) m) fun x8 m=>bp (pur (Xa x6 2) m) fun x9 m=>Q3f G x7 x8 x9 m
def Q1l (G:Gt)(p0:V)(m:M):R:=Q3e G p0 m
theorem Qij (G:Gt)(a0:V)(m:M):ef G Tryz.f63 [a0] m = Q1l G a0 m:=Xf (r:=fun r m=>Q1l G (r 0) m) rfl rfl (tr (seqQ (f:=fun r m=>Q3e G (r 0) m) (tr (seqQ (f:=fun r m=>Q3f G (r 4) (r 5) (r 6) m) (tr (seqQ (f:=fun r m=>Q3g G (r 5) (r 6) (r 8) (r 7) m) (tr (seqQ (f:=fun r m=>Q3h G (r 6) (r 8) (r 7) (r 9) m) (tr (tr seqD (seqQ (f:=fun r m=>Q28 G (r 28) (r 7) (r 9) m)))))))))))) m
def Qct:En:=⟨Q6g,Tryz.f63,Tryz.func63,by kernel_rfl,arg1 Q1l,X19 Qij⟩
def Q6i (G:Gt)(p0 p1:V)(m:M):R:=bp (G.tab Q5v [p0] m) fun x0 m=>bp (pur (bin .add true true .str x0 (.string ⟨#[58]⟩)) m) fun x1 m=>bp (conv (.int .i64) p1 m) fun x2 m=>bp (G.tab Qi [x2] m) fun x3 m=>bp (pur (bin .add false true .str x1 x3) m) fun x4 m=>some (x4,m)
theorem Qj8 (G:Gt)(a0 a1:V)(m:M):ef G Tryz.f67 [a0,a1] m = Q6i G a0 a1 m:=Xf (r:=fun r m=>Q6i G (r 0) (r 1) m) rfl rfl (fun r m=>by kernel_rfl) m
def Qef:En:=⟨Q4t,Tryz.f67,Tryz.func67,by kernel_rfl,arg2 Q6i,X2n Qj8⟩
def Q1i (G:Gt)(p0:V)(m:M):R:=bp (G.tab Q9u [p0] m) fun x0 m=>bp (pur (bin .sub true true .int (.int .i64 64) x0) m) fun x1 m=>some (x1,m)
theorem Qfz (G:Gt)(a0:V)(m:M):ef G Tryz.f68 [a0] m = Q1i G a0 m:=Xf (r:=fun r m=>Q1i G (r 0) m) rfl rfl (fun r m=>by kernel_rfl) m
def Q6x:En:=⟨Q2b,Tryz.f68,Tryz.func68,by kernel_rfl,arg1 Q1i,X19 Qfz⟩
def Q82 (G:Gt)(p0 p3:V)(m:M):R:=bp (pur (bin .add true true .int (.int .u64 48) p0) m) fun x0 m=>bp (conv (.int .u8) x0 m) fun x1 m=>bp (Xc Qe5 [(.int .u8 0)] 1 1 [(0,x1)] m) fun x2 m=>bp (conv .str x2 m) fun x3 m=>bp (pur (bin .add false true .str x3 p3) m) fun x4 m=>some (x4,m)
def Q1f (G:Gt):Nat→V→V→M→R
 | 0,_,_,_=>none
 | i + 1,p0,p3,m=>bp (pur (bin .gtr true true .int p0 (.int .u64 9)) m) fun x5 m=>brb x5 (bp (pur (bin .rem true true .int p0 (.int .u64 10)) m) fun x6 m=>bp (pur (bin .add true true .int (.int .u64 48) x6) m) fun x7 m=>bp (conv (.int .u8) x7 m) fun x8 m=>bp (Xc Qe5 [(.int .u8 0)] 1 1 [(0,x8)] m) fun x9 m=>bp (conv .str x9 m) fun x10 m=>bp (pur (bin .add false true .str x10 p3) m) fun x11 m=>bp (pur (bin .quo true true .int p0 (.int .u64 10)) m) fun x12 m=>(Q1f G i) x12 x11 m) (Q82 G p0 p3 m)
def Q5f (G:Gt)(p0 p3:V)(m:M):R:=Q1f G G.rds p0 p3 m
def Q5e (G:Gt)(p0:V)(m:M):R:=Q5f G p0 (.string ⟨#[]⟩) m
def Q1x (G:Gt)(p0:V)(m:M):R:=Q5e G p0 m
theorem Qha (G:Gt)(a0:V)(m:M):ef G Tryz.f69 [a0] m = Q1x G a0 m:=Xf (r:=fun r m=>Q1x G (r 0) m) rfl rfl (tr (seqQ (f:=fun r m=>Q5e G (r 0) m) (tr (seqQ (f:=fun r m=>Q5f G (r 0) (r 3) m) (tr (tr (seqQ (f:=fun r m=>Q82 G (r 0) (r 3) m)) (Xx (X2f (fun i r m=>Q1f G i (r 0) (r 3) m) (fun _ _=>rfl) (fun i0=>fun r m=>by kernel_rfl))))))))) m
def Qa6:En:=⟨Q2s,Tryz.f69,Tryz.func69,by kernel_rfl,arg1 Q1x,X19 Qha⟩
def Q1p (G:Gt)(p0:V)(m:M):R:=bp (some (aNew Q2 (Value.cells p0).toList m)) fun x0 m=>bp (pur (X3 0 x0) m) fun x1 m=>bp (pur (X6 false 1 x1 m) m) fun x2 m=>bp (pur (X3 1 x0) m) fun x3 m=>bp (pur (X6 false 1 x3 m) m) fun x4 m=>bp (G.tab Qx [x2] m) fun x5 m=>ckB (again (pur (X6 false 1 x3 m) m) x4 && true) (bp (pur (bin .add true true .str x5 (.string ⟨#[47]⟩)) m) fun x6 m=>bp (G.tab Q1 [x4] m) fun x7 m=>bp (pur (bin .add false true .str x6 x7) m) fun x8 m=>some (x8,m))
theorem Qg1 (G:Gt)(a0:V)(m:M):ef G Tryz.f70 [a0] m = Q1p G a0 m:=Xf (r:=fun r m=>Q1p G (r 0) m) rfl rfl (fun r m=>by kernel_rfl) m
def Q74:En:=⟨Q16,Tryz.f70,Tryz.func70,by kernel_rfl,arg1 Q1p,X19 Qg1⟩
def Q3w (G:Gt)(p0:V)(m:M):R:=bp (some (aNew Qe (Value.cells p0).toList m)) fun x0 m=>bp (pur (X3 0 x0) m) fun x1 m=>bp (pur (X6 false 1 x1 m) m) fun x2 m=>bp (conv (.int .i64) x2 m) fun x3 m=>bp (pur (X3 1 x0) m) fun x4 m=>bp (pur (X6 false 1 x4 m) m) fun x5 m=>bp (conv (.int .i64) x5 m) fun x6 m=>bp (G.tab Q1 [x3] m) fun x7 m=>ckB (again (pur (X6 false 1 x4 m) m) x5 && true) (bp (pur (bin .add true true .str x7 (.string ⟨#[45]⟩)) m) fun x8 m=>bp (G.tab Q1 [x6] m) fun x9 m=>bp (pur (bin .add false true .str x8 x9) m) fun x10 m=>some (x10,m))
theorem Qi2 (G:Gt)(a0:V)(m:M):ef G Tryz.f71 [a0] m = Q3w G a0 m:=Xf (r:=fun r m=>Q3w G (r 0) m) rfl rfl (fun r m=>by kernel_rfl) m
def Qc5:En:=⟨Q2l,Tryz.f71,Tryz.func71,by kernel_rfl,arg1 Q3w,X19 Qi2⟩
def Q6j (G:Gt)(p0 p1:V)(m:M):R:=bp (G.tab Q1a [p0,p1] m) fun x0 m=>some (x0,m)
theorem Qj9 (G:Gt)(a0 a1:V)(m:M):ef G Tryz.f74 [a0,a1] m = Q6j G a0 a1 m:=Xf (r:=fun r m=>Q6j G (r 0) (r 1) m) rfl rfl (fun r m=>by kernel_rfl) m
def Qeg:En:=⟨Qco,Tryz.f74,Tryz.func74,by kernel_rfl,arg2 Q6j,X2n Qj9⟩
def Q3q (G:Gt)(p0 p1:V)(m:M):R:=bp (G.tab Q1c [p0,p1] m) fun x0 m=>some (x0,m)
theorem Qi3 (G:Gt)(a0 a1:V)(m:M):ef G Tryz.f75 [a0,a1] m = Q3q G a0 a1 m:=Xf (r:=fun r m=>Q3q G (r 0) (r 1) m) rfl rfl (fun r m=>by kernel_rfl) m
def Qbx:En:=⟨Q5h,Tryz.f75,Tryz.func75,by kernel_rfl,arg2 Q3q,X2n Qi3⟩
def Q4e (G:Gt)(p10:V)(m:M):R:=brb p10 (some ((.bool true),m)) (some ((.bool false),m))
def Q4d (G:Gt)(p3 p0:V)(m:M):R:=brb p3 (some ((.bool true),m)) (bp (pur (bin .lss true true .int (.int .i32 57343) p0) m) fun x0 m=>brb x0 (bp (pur (bin .leq true true .int p0 (.int .i32 1114111)) m) fun x1 m=>Q4e G x1 m) (Q4e G (.bool false) m))
def Q71 (G:Gt)(p0:V)(m:M):R:=bp (pur (bin .leq true true .int (.int .i32 0) p0) m) fun x2 m=>brb x2 (bp (pur (bin .lss true true .int p0 (.int .i32 55296)) m) fun x3 m=>Q4d G x3 p0 m) (Q4d G (.bool false) p0 m)
def Q1w (G:Gt)(p0:V)(m:M):R:=Q71 G p0 m
theorem Qgm (G:Gt)(a0:V)(m:M):ef G Tryz.f76 [a0] m = Q1w G a0 m:=Xf (r:=fun r m=>Q1w G (r 0) m) rfl rfl (tr (seqQ (f:=fun r m=>Q71 G (r 0) m) (tr (tr seqD (Xx (seqQ (f:=fun r m=>Q4d G (r 3) (r 0) m) (tr (X50 (refQ) (seqQ (f:=fun r m=>Q4e G (r 10) m)))))))))) m
def Q7q:En:=⟨Q4v,Tryz.f76,Tryz.func76,by kernel_rfl,arg1 Q1w,X19 Qgm⟩
end
end Go.Ab.Sh

set_option linter.unusedVariables false
set_option maxRecDepth 100000
namespace Go.Ab.Sh
open Go Go.Ab Go.Proofs
noncomputable section
def Q1h (G:Gt)(p0 p1:V)(m:M):R:=bp (G.tab Q1a [p0,p1] m) fun x0 m=>bp (pur (bin .geq true true .int x0 (.int .i64 0)) m) fun x1 m=>brb x1 (bp (pur (X11 p0 none (some x0)) m) fun x2 m=>bp (pur (lenK 0 p1 m) m) fun x3 m=>bp (pur (bin .add false true .int x0 x3) m) fun x4 m=>bp (pur (X11 p0 (some x4) none) m) fun x5 m=>some (.tuple ⟨[x2,x5,(.bool true)]⟩,m)) (some (.tuple ⟨[p0,(.string ⟨#[]⟩),(.bool false)]⟩,m))
theorem Qg0 (G:Gt)(a0 a1:V)(m:M):ef G Tryz.f79 [a0,a1] m = Q1h G a0 a1 m:=Xf (r:=fun r m=>Q1h G (r 0) (r 1) m) rfl rfl (fun r m=>by kernel_rfl) m
def Q6w:En:=⟨Q4c,Tryz.f79,Tryz.func79,by kernel_rfl,arg2 Q1h,X2n Qg0⟩
def Q88 (G:Gt)(p0:V)(m:M):R:=bp (pur (bin .sub true true .int (.int .i64 32) p0) m) fun x0 m=>bp (pur (bin .shl true true .int (.int .u64 1) x0) m) fun x1 m=>bp (pur (bin .sub true true .int x1 (.int .u64 1)) m) fun x2 m=>bp (conv (.int .u32) x2 m) fun x3 m=>some (x3,m)
theorem Qk2 (G:Gt)(a0:V)(m:M):ef G Tryz.f80 [a0] m = Q88 G a0 m:=Xf (r:=fun r m=>Q88 G (r 0) m) rfl rfl (fun r m=>by kernel_rfl) m
def Qfh:En:=⟨Qdu,Tryz.f80,Tryz.func80,by kernel_rfl,arg1 Q88,X19 Qk2⟩
def Q5y (G:Gt)(p10 p1:V)(m:M):R:=brb p10 (some ((.int .i64 1),m)) (bp (pur (X3 0 p1) m) fun x0 m=>bp (pur (X6 false 1 x0 m) m) fun x1 m=>bp (conv (.int .u64) x1 m) fun x2 m=>bp (pur (X3 1 p1) m) fun x3 m=>bp (pur (X6 false 1 x3 m) m) fun x4 m=>bp (G.tab Q7z [x4] m) fun x5 m=>ckB (again (pur (X6 false 1 x0 m) m) x1 && true) (bp (pur (bin .rem false true .int x2 x5) m) fun x6 m=>bp (pur (bin .neq true true .int x6 (.int .u64 0)) m) fun x7 m=>brb x7 (some ((.int .i64 10),m)) (some ((.int .i64 0),m))))
def Q8x (G:Gt)(p1:V)(m:M):R:=bp (pur (X3 1 p1) m) fun x8 m=>bp (pur (X6 false 1 x8 m) m) fun x9 m=>bp (pur (bin .lss true true .int x9 (.int .i64 0)) m) fun x10 m=>brb x10 (Q5y G (.bool true) p1 m) (bp (pur (X3 1 p1) m) fun x11 m=>bp (pur (X6 false 1 x11 m) m) fun x12 m=>bp (pur (bin .gtr true true .int x12 (.int .i64 32)) m) fun x13 m=>Q5y G x13 p1 m)
def Q33 (G:Gt)(p0:V)(m:M):R:=bp (some (aNew Q2 (Value.cells p0).toList m)) fun x14 m=>Q8x G x14 m
theorem Qht (G:Gt)(a0:V)(m:M):ef G Tryz.f86 [a0] m = Q33 G a0 m:=Xf (r:=fun r m=>Q33 G (r 0) m) rfl rfl (tr (seqQ (f:=fun r m=>Q8x G (r 1) m) (tr (tr seqD (seqQ (f:=fun r m=>Q5y G (r 10) (r 1) m)))))) m
def Qas:En:=⟨Q4w,Tryz.f86,Tryz.func86,by kernel_rfl,arg1 Q33,X19 Qht⟩
def Qcj (G:Gt)(p2 p0:V)(m:M):R:=bp (conv (.int .u8) p0 m) fun x0 m=>bp (pur (Xm (.string ⟨#[0,1,2,2,3,3,3,3,4,4,4,4,4,4,4,4,5,5,5,5,5,5,5,5,5,5,5,5,5,5,5,5,6,6,6,6,6,6,6,6,6,6,6,6,6,6,6,6,6,6,6,6,6,6,6,6,6,6,6,6,6,6,6,6,7,7,7,7,7,7,7,7,7,7,7,7,7,7,7,7,7,7,7,7,7,7,7,7,7,7,7,7,7,7,7,7,7,7,7,7,7,7,7,7,7,7,7,7,7,7,7,7,7,7,7,7,7,7,7,7,7,7,7,7,7,7,7,7,8,8,8,8,8,8,8,8,8,8,8,8,8,8,8,8,8,8,8,8,8,8,8,8,8,8,8,8,8,8,8,8,8,8,8,8,8,8,8,8,8,8,8,8,8,8,8,8,8,8,8,8,8,8,8,8,8,8,8,8,8,8,8,8,8,8,8,8,8,8,8,8,8,8,8,8,8,8,8,8,8,8,8,8,8,8,8,8,8,8,8,8,8,8,8,8,8,8,8,8,8,8,8,8,8,8,8,8,8,8,8,8,8,8,8,8,8,8,8,8,8,8,8,8,8,8,8,8]⟩) x0) m) fun x1 m=>bp (conv (.int .i64) x1 m) fun x2 m=>bp (pur (bin .add false true .int p2 x2) m) fun x3 m=>some (x3,m)
def Qck (G:Gt)(p0 p2:V)(m:M):R:=bp (pur (bin .geq true true .int p0 (.int .u64 256)) m) fun x4 m=>brb x4 (bp (pur (bin .shr true true .int p0 (.int .u64 8)) m) fun x5 m=>bp (pur (bin .add true true .int p2 (.int .i64 8)) m) fun x6 m=>Qcj G x6 x5 m) (Qcj G p2 p0 m)
def Qcl (G:Gt)(p0 p2:V)(m:M):R:=bp (pur (bin .geq true true .int p0 (.int .u64 65536)) m) fun x7 m=>brb x7 (bp (pur (bin .shr true true .int p0 (.int .u64 16)) m) fun x8 m=>bp (pur (bin .add true true .int p2 (.int .i64 16)) m) fun x9 m=>Qck G x8 x9 m) (Qck G p0 p2 m)
def Qet (G:Gt)(p0 p2:V)(m:M):R:=bp (pur (bin .geq true true .int p0 (.int .u64 4294967296)) m) fun x10 m=>brb x10 (bp (pur (bin .shr true true .int p0 (.int .u64 32)) m) fun x11 m=>Qcl G x11 (.int .i64 32) m) (Qcl G p0 p2 m)
def Q59 (G:Gt)(p0:V)(m:M):R:=Qet G p0 (.int .i64 0) m
theorem Qiy (G:Gt)(a0:V)(m:M):ef G Tryz.f89 [a0] m = Q59 G a0 m:=Xf (r:=fun r m=>Q59 G (r 0) m) rfl rfl (tr (seqQ (f:=fun r m=>Qet G (r 0) (r 2) m) (tr (seqQ (f:=fun r m=>Qcl G (r 0) (r 2) m) (tr (seqQ (f:=fun r m=>Qck G (r 0) (r 2) m) (tr (seqQ (f:=fun r m=>Qcj G (r 2) (r 0) m))))))))) m
def Qd5:En:=⟨Q9u,Tryz.f89,Tryz.func89,by kernel_rfl,arg1 Q59,X19 Qiy⟩
def Qab (G:Gt)(p3:V)(m:M):R:=some (p3,m)
def Q2u (G:Gt):Nat→V→V→M→R
 | 0,_,_,_=>none
 | i + 1,p4,p3,m=>bp (pur (bin .lss true true .int p4 (.int .i64 32)) m) fun x0 m=>brb x0 (bp (pur (bin .mul true true .int (.int .u64 2) p3) m) fun x1 m=>bp (pur (bin .add true true .int p4 (.int .i64 1)) m) fun x2 m=>(Q2u G i) x2 x1 m) (Qab G p3 m)
def Qae (G:Gt)(p4 p3:V)(m:M):R:=Q2u G G.rds p4 p3 m
def Qad (G:Gt)(p0 p3:V)(m:M):R:=Qae G p0 p3 m
def Qac (G:Gt)(p0:V)(m:M):R:=Qad G p0 (.int .u64 1) m
def Q3t (G:Gt)(p0:V)(m:M):R:=Qac G p0 m
theorem Qi4 (G:Gt)(a0:V)(m:M):ef G Tryz.f104 [a0] m = Q3t G a0 m:=Xf (r:=fun r m=>Q3t G (r 0) m) rfl rfl (tr (seqQ (f:=fun r m=>Qac G (r 0) m) (tr (seqQ (f:=fun r m=>Qad G (r 0) (r 3) m) (tr (tr (seqQ (f:=fun r m=>Qab G (r 3) m)) (seqQ (f:=fun r m=>Qae G (r 4) (r 3) m) (tr (Xx (X2f (fun i r m=>Q2u G i (r 4) (r 3) m) (fun _ _=>rfl) (fun i0=>fun r m=>by kernel_rfl))))))))))) m
def Qc1:En:=⟨Q7z,Tryz.f104,Tryz.func104,by kernel_rfl,arg1 Q3t,X19 Qi4⟩
end
end Go.Ab.Sh
