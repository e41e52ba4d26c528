/-
  Functions of the program as plain definitions. No conditions.
-/
import Derived.Test.YtfdlocphbipadaaGreatDoorAb5
import Derived.Test.YtfdlocphbipadaaGreatDoorZ
import Derived.KernelRfl
import Derived.Test.YtfdlocphbipadaaGreatDoorProg
set_option linter.unusedVariables false
set_option maxRecDepth 100000
namespace Go.Ab.Sh
open Go Go.Ab Go.Proofs
noncomputable section
def Q1cz (G:Gt)(k0:J4)(p13 p12 p11 p0:V)(m:M):R:=bp (pur (bin .add true true .int p13 (.int .i64 1)) m) fun x0 m=>k0 x0 p12 p11 p0 m
def Q17j (G:Gt)(k1:J8)(p21 p20 p19 p0 p3 p13 p12 p11:V)(m:M):R:=bp (pur (bin .add true true .int p21 (.int .i64 1)) m) fun x1 m=>k1 x1 p20 p19 p0 p3 p13 p12 p11 m
def Qpb (G:Gt)(k1:J8):Nat→V→V→V→V→V→V→V→V→V→V→V→M→R
 | 0,_,_,_,_,_,_,_,_,_,_,_,_=>none
 | i + 1,p29,p28,p0,p3,p5,p21,p20,p19,p13,p12,p11,m=>bp (pur (bin .lss false true .int p29 p28) m) fun x2 m=>brb x2 (bp (Xj G.tab p0 [p3,p5,p29] m) fun x3 m=>bp (pur (bin .add true true .int p29 (.int .i64 1)) m) fun x4 m=>(Qpb G k1 i) x4 p28 p0 p3 p5 p21 p20 p19 p13 p12 p11 m) (Q17j G k1 p21 p20 p19 p0 p3 p13 p12 p11 m)
def Q17k (G:Gt)(k1:J8)(p29 p28 p0 p3 p5 p21 p20 p19 p13 p12 p11:V)(m:M):R:=Qpb G k1 G.rds p29 p28 p0 p3 p5 p21 p20 p19 p13 p12 p11 m
def Q17l (G:Gt)(k1:J8)(p6 p0 p3 p5 p21 p20 p19 p13 p12 p11:V)(m:M):R:=bp (pur (X0 4 p6) m) fun x5 m=>bp (pur (X4 false 1 x5 m) m) fun x6 m=>bp (pur (lenK 1 x6 m) m) fun x7 m=>Q17k G k1 (.int .i64 0) x7 p0 p3 p5 p21 p20 p19 p13 p12 p11 m
def Q1d0 (G:Gt)(k1:J8)(p21 p19 p0 p3 p20 p13 p12 p11:V)(m:M):R:=bp (pur (X3 6 p19 p21) m) fun x8 m=>bp (pur (X4 true 6 x8 m) m) fun x9 m=>bp (some (aNew Qss Q1aj m)) fun x10 m=>bp (unt (X8 6 x10 x9 m)) fun _ m=>Q17l G k1 x10 p0 p3 p21 p21 p20 p19 p13 p12 p11 m
def Q1d1 (G:Gt)(k1:J8)(k0:J4)(p22 p21 p19 p0 p3 p20 p13 p12 p11:V)(m:M):R:=brb p22 (Q1d0 G k1 p21 p19 p0 p3 p20 p13 p12 p11 m) (Q1cz G k0 p13 p12 p11 p0 m)
def Q36 (G:Gt)(k0:J4):Nat→V→V→V→V→V→V→V→V→M→R
 | 0,_,_,_,_,_,_,_,_,_=>none
 | i + 1,p21,p20,p19,p0,p3,p13,p12,p11,m=>bp (pur (bin .lss false true .int p21 p20) m) fun x11 m=>Q1d1 G (Q36 G k0 i) k0 x11 p21 p19 p0 p3 p20 p13 p12 p11 m
def Q1d2 (G:Gt)(k0:J4)(p21 p20 p19 p0 p3 p13 p12 p11:V)(m:M):R:=Q36 G k0 G.rds p21 p20 p19 p0 p3 p13 p12 p11 m
def Q1d3 (G:Gt)(k0:J4)(p4 p0 p3 p13 p12 p11:V)(m:M):R:=bp (pur (X0 11 p4) m) fun x12 m=>bp (pur (X4 false 1 x12 m) m) fun x13 m=>bp (pur (lenK 1 x13 m) m) fun x14 m=>Q1d2 G k0 (.int .i64 0) x14 x13 p0 p3 p13 p12 p11 m
def Q1d4 (G:Gt)(k0:J4)(p13 p11 p0 p12:V)(m:M):R:=bp (pur (X3 12 p11 p13) m) fun x15 m=>bp (pur (X4 true 12 x15 m) m) fun x16 m=>bp (some (aNew Q5 Q1k m)) fun x17 m=>bp (unt (X8 12 x17 x16 m)) fun _ m=>Q1d3 G k0 x17 p0 p13 p13 p12 p11 m
def Q1d5 (G:Gt)(k0:J4)(p14 p13 p11 p0 p12:V)(m:M):R:=brb p14 (Q1d4 G k0 p13 p11 p0 p12 m) (some (.tuple ⟨[]⟩,m))
def Q13 (G:Gt):Nat→V→V→V→V→M→R
 | 0,_,_,_,_,_=>none
 | i + 1,p13,p12,p11,p0,m=>bp (pur (bin .lss false true .int p13 p12) m) fun x18 m=>Q1d5 G (Q13 G i) x18 p13 p11 p0 p12 m
def Q1d6 (G:Gt)(p13 p12 p11 p0:V)(m:M):R:=Q13 G G.rds p13 p12 p11 p0 m
def Qx3 (G:Gt)(p1 p0:V)(m:M):R:=bp (pur (X4 false 1 p1 m) m) fun x19 m=>bp (pur (X7 x19) m) fun x20 m=>bp (pur (X0 0 x20) m) fun x21 m=>bp (pur (X4 false 1 x21 m) m) fun x22 m=>bp (pur (lenK 1 x22 m) m) fun x23 m=>Q1d6 G (.int .i64 0) x23 x22 p0 m
theorem Q1zv (G:Gt)(a0 a1:V)(m:M):ef G Tryz.f89 [a0,a1] m = Qx3 G a1 a0 m:=X6 (r:=fun r m=>Qx3 G (r 1) (r 0) m) rfl rfl (tr (seqQ (f:=fun r m=>Q1d6 G (r 13) (r 12) (r 11) (r 0) m) (tr (X9 (Xb (fun i r m=>Q13 G i (r 13) (r 12) (r 11) (r 0) m) (fun _ _=>rfl) (fun i0=>tr (seqQ (f:=fun r m=>Q1d5 G (Q13 G i0) (r 14) (r 13) (r 11) (r 0) (r 12) m) (tr (seqQ (f:=fun r m=>Q1d4 G (Q13 G i0) (r 13) (r 11) (r 0) (r 12) m) (tr (tr (seqQ (f:=fun r m=>Q1cz G (Q13 G i0) (r 13) (r 12) (r 11) (r 0) m)) (X9 (seqQ (f:=fun r m=>Q1d3 G (Q13 G i0) (r 4) (r 0) (r 3) (r 13) (r 12) (r 11) m) (tr (seqQ (f:=fun r m=>Q1d2 G (Q13 G i0) (r 21) (r 20) (r 19) (r 0) (r 3) (r 13) (r 12) (r 11) m) (tr (X9 (Xb (fun i r m=>Q36 G (Q13 G i0) i (r 21) (r 20) (r 19) (r 0) (r 3) (r 13) (r 12) (r 11) m) (fun _ _=>rfl) (fun i1=>tr (seqQ (f:=fun r m=>Q1d1 G (Q36 G (Q13 G i0) i1) (Q13 G i0) (r 22) (r 21) (r 19) (r 0) (r 3) (r 20) (r 13) (r 12) (r 11) m) (tr (seqQ (f:=fun r m=>Q1d0 G (Q36 G (Q13 G i0) i1) (r 21) (r 19) (r 0) (r 3) (r 20) (r 13) (r 12) (r 11) m) (tr (tr (seqQ (f:=fun r m=>Q17j G (Q36 G (Q13 G i0) i1) (r 21) (r 20) (r 19) (r 0) (r 3) (r 13) (r 12) (r 11) m)) (X9 (seqQ (f:=fun r m=>Q17l G (Q36 G (Q13 G i0) i1) (r 6) (r 0) (r 3) (r 5) (r 21) (r 20) (r 19) (r 13) (r 12) (r 11) m) (tr (seqQ (f:=fun r m=>Q17k G (Q36 G (Q13 G i0) i1) (r 29) (r 28) (r 0) (r 3) (r 5) (r 21) (r 20) (r 19) (r 13) (r 12) (r 11) m) (tr (X9 (Xb (fun i r m=>Qpb G (Q36 G (Q13 G i0) i1) i (r 29) (r 28) (r 0) (r 3) (r 5) (r 21) (r 20) (r 19) (r 13) (r 12) (r 11) m) (fun _ _=>rfl) (fun i2=>fun r m=>by kernel_rfl)))))))))))))))))))))))))))))))) m
def Q1zw:En:=⟨Q1i9,Tryz.f89,Tryz.func89,by kernel_rfl,arg2 (fun G a0 a1 m=>Qx3 G a1 a0 m),Xg Q1zv⟩
def Q17m (G:Gt)(m:M):R:=some (.tuple ⟨[(.string ⟨#[]⟩),(.int .i64 0)]⟩,m)
def Q17n (G:Gt)(k0:J2)(p4 p1:V)(m:M):R:=bp (pur (bin .add true true .int p4 (.int .i64 1)) m) fun x0 m=>k0 x0 p1 m
def Qnk (G:Gt)(k0:J2):Nat→V→V→V→M→R
 | 0,_,_,_,_=>none
 | i + 1,p6,p1,p4,m=>bp (pur (X4 true 12 p1 m) m) fun x1 m=>bp (G.tab Qwq [x1,p4] m) fun x2 m=>bp (pur (bin .lss false true .int p6 x2) m) fun x3 m=>brb x3 (bp (pur (X4 true 12 p1 m) m) fun x4 m=>bp (G.tab Q1ky [x4,p4,p6] m) fun x5 m=>bp (pur (bin .eql true true .int x5 (.int .i64 1)) m) fun x6 m=>brb x6 (bp (G.tab Qwr [p4] m) fun x7 m=>bp (pur (bin .add true true .str x7 (.string ⟨#[32]⟩)) m) fun x8 m=>bp (G.tab Qr7 [p6] m) fun x9 m=>bp (pur (bin .add false true .str x8 x9) m) fun x10 m=>some (.tuple ⟨[x10,(.int .i64 121)]⟩,m)) (bp (pur (bin .eql true true .int x5 (.int .i64 2)) m) fun x11 m=>brb x11 (bp (G.tab Qwr [p4] m) fun x12 m=>bp (pur (bin .add true true .str x12 (.string ⟨#[32]⟩)) m) fun x13 m=>bp (G.tab Qr7 [p6] m) fun x14 m=>bp (pur (bin .add false true .str x13 x14) m) fun x15 m=>some (.tuple ⟨[x15,(.int .i64 120)]⟩,m)) (bp (pur (bin .add true true .int p6 (.int .i64 1)) m) fun x16 m=>(Qnk G k0 i) x16 p1 p4 m))) (Q17n G k0 p4 p1 m)
def Q144 (G:Gt)(k0:J2)(p6 p1 p4:V)(m:M):R:=Qnk G k0 G.rds p6 p1 p4 m
def Q145 (G:Gt)(k0:J2)(p1 p4:V)(m:M):R:=Q144 G k0 (.int .i64 0) p1 p4 m
def Qpc (G:Gt)(k0:J2)(p1 p4 p5:V)(m:M):R:=bp (pur (X4 true 12 p1 m) m) fun x17 m=>bp (G.tab Qwq [x17,p4] m) fun x18 m=>bp (pur (bin .gtr false true .int x18 p5) m) fun x19 m=>brb x19 (bp (G.tab Qwr [p4] m) fun x20 m=>bp (pur (bin .add true true .str x20 (.string ⟨#[32]⟩)) m) fun x21 m=>bp (G.tab Qr7 [p5] m) fun x22 m=>bp (pur (bin .add false true .str x21 x22) m) fun x23 m=>some (.tuple ⟨[x23,(.int .i64 121)]⟩,m)) (Q145 G k0 p1 p4 m)
def Q17o (G:Gt)(k0:J2)(p4 p1 p5:V)(m:M):R:=bp (pur (bin .eql true true .int p4 (.int .i64 3)) m) fun x24 m=>brb x24 (Qpc G k0 p1 p4 (.int .i64 64) m) (Qpc G k0 p1 p4 p5 m)
def Q17p (G:Gt)(k0:J2)(p4 p1:V)(m:M):R:=Q17o G k0 p4 p1 (.int .i64 256) m
def Q2b (G:Gt):Nat→V→V→M→R
 | 0,_,_,_=>none
 | i + 1,p4,p1,m=>bp (pur (bin .leq true true .int p4 (.int .i64 11)) m) fun x25 m=>brb x25 (Q17p G (Q2b G i) p4 p1 m) (Q17m G m)
def Q17q (G:Gt)(p4 p1:V)(m:M):R:=Q2b G G.rds p4 p1 m
def Q17r (G:Gt)(p1:V)(m:M):R:=Q17q G (.int .i64 2) p1 m
def Qnl (G:Gt)(p18 p1:V)(m:M):R:=brb p18 (some (.tuple ⟨[(.string ⟨#[107,105,110,100]⟩),(.int .i64 121)]⟩,m)) (Q17r G p1 m)
def Q17s (G:Gt)(p1:V)(m:M):R:=bp (pur (X0 1 p1) m) fun x26 m=>bp (pur (X4 false 1 x26 m) m) fun x27 m=>bp (pur (bin .neq true true .int x27 (.int .u8 1)) m) fun x28 m=>brb x28 (bp (pur (X0 1 p1) m) fun x29 m=>bp (pur (X4 false 1 x29 m) m) fun x30 m=>bp (pur (bin .neq true true .int x30 (.int .u8 2)) m) fun x31 m=>Qnl G x31 p1 m) (Qnl G (.bool false) p1 m)
def Q17t (G:Gt)(p1:V)(m:M):R:=bp (pur (X0 0 p1) m) fun x32 m=>bp (pur (X4 false 1 x32 m) m) fun x33 m=>bp (G.tab Qwo [x33] m) fun x34 m=>bp (pur (un .not x34) m) fun x35 m=>brb x35 (some (.tuple ⟨[(.string ⟨#[110,97,109,101]⟩),(.int .i64 121)]⟩,m)) (Q17s G p1 m)
def Quh (G:Gt)(p0:V)(m:M):R:=bp (some (aNew Q5 (Value.cells p0).toList m)) fun x36 m=>Q17t G x36 m
theorem Q1wh (G:Gt)(a0:V)(m:M):ef G Tryz.f94 [a0] m = Quh G a0 m:=X6 (r:=fun r m=>Quh G (r 0) m) rfl rfl (tr (seqQ (f:=fun r m=>Q17t G (r 1) m) (tr (seqQ (f:=fun r m=>Q17s G (r 1) m) (tr (tr (seqQ (f:=fun r m=>Q17r G (r 1) m) (tr (tr (seqQ (f:=fun r m=>Q17m G m)) (seqQ (f:=fun r m=>Q17q G (r 4) (r 1) m) (tr (X9 (Xb (fun i r m=>Q2b G i (r 4) (r 1) m) (fun _ _=>rfl) (fun i0=>tr (seqQ (f:=fun r m=>Q17p G (Q2b G i0) (r 4) (r 1) m) (tr (tr (seqQ (f:=fun r m=>Q17n G (Q2b G i0) (r 4) (r 1) m)) (X9 (seqQ (f:=fun r m=>Q17o G (Q2b G i0) (r 4) (r 1) (r 5) m) (tr (seqQ (f:=fun r m=>Qpc G (Q2b G i0) (r 1) (r 4) (r 5) m) (tr (seqQ (f:=fun r m=>Q145 G (Q2b G i0) (r 1) (r 4) m) (tr (seqQ (f:=fun r m=>Q144 G (Q2b G i0) (r 6) (r 1) (r 4) m) (tr (X9 (Xb (fun i r m=>Qnk G (Q2b G i0) i (r 6) (r 1) (r 4) m) (fun _ _=>rfl) (fun i1=>fun r m=>by kernel_rfl))))))))))))))))))))))) (seqQ (f:=fun r m=>Qnl G (r 18) (r 1) m)))))))) m
def Q1wi:En:=⟨Q1e9,Tryz.f94,Tryz.func94,by kernel_rfl,arg1 Quh,Xl Q1wh⟩
def Q17u (G:Gt)(m:M):R:=some ((.bool true),m)
def Q17v (G:Gt)(k0:J2)(p7 p1:V)(m:M):R:=bp (pur (bin .add true true .int p7 (.int .i64 1)) m) fun x0 m=>k0 x0 p1 m
def Qpd (G:Gt)(k0:J2):Nat→V→V→V→M→R
 | 0,_,_,_,_=>none
 | i + 1,p8,p7,p1,m=>bp (pur (bin .lss false true .int p8 p7) m) fun x1 m=>brb x1 (bp (pur (X0 11 p1) m) fun x2 m=>bp (pur (X4 false 1 x2 m) m) fun x3 m=>bp (pur (X3 6 x3 p7) m) fun x4 m=>bp (pur (X0 2 x4) m) fun x5 m=>bp (pur (X4 false 1 x5 m) m) fun x6 m=>bp (pur (X0 11 p1) m) fun x7 m=>bp (pur (X4 false 1 x7 m) m) fun x8 m=>bp (pur (X3 6 x8 p8) m) fun x9 m=>bp (pur (X0 2 x9) m) fun x10 m=>bp (pur (X4 false 1 x10 m) m) fun x11 m=>bp (pur (bin .eql false true .int x6 x11) m) fun x12 m=>brb x12 (some ((.bool false),m)) (bp (pur (bin .add true true .int p8 (.int .i64 1)) m) fun x13 m=>(Qpd G k0 i) x13 p7 p1 m)) (Q17v G k0 p7 p1 m)
def Q17w (G:Gt)(k0:J2)(p8 p7 p1:V)(m:M):R:=Qpd G k0 G.rds p8 p7 p1 m
def Q17x (G:Gt)(k0:J2)(p7 p1:V)(m:M):R:=Q17w G k0 (.int .i64 0) p7 p1 m
def Q4e (G:Gt):Nat→V→V→M→R
 | 0,_,_,_=>none
 | i + 1,p7,p1,m=>bp (pur (X0 11 p1) m) fun x14 m=>bp (pur (X4 false 1 x14 m) m) fun x15 m=>bp (pur (lenK 1 x15 m) m) fun x16 m=>bp (pur (bin .lss false true .int p7 x16) m) fun x17 m=>brb x17 (Q17x G (Q4e G i) p7 p1 m) (Q17u G m)
def Q17y (G:Gt)(p7 p1:V)(m:M):R:=Q4e G G.rds p7 p1 m
def Q17z (G:Gt)(p1:V)(m:M):R:=Q17y G (.int .i64 0) p1 m
def Q146 (G:Gt)(k0:J2)(p5 p1:V)(m:M):R:=bp (pur (bin .add true true .int p5 (.int .i64 1)) m) fun x18 m=>k0 x18 p1 m
def Qnm (G:Gt)(k0:J2):Nat→V→V→V→M→R
 | 0,_,_,_,_=>none
 | i + 1,p6,p5,p1,m=>bp (pur (bin .lss false true .int p6 p5) m) fun x19 m=>brb x19 (bp (pur (X0 10 p1) m) fun x20 m=>bp (pur (X4 false 1 x20 m) m) fun x21 m=>bp (pur (X3 3 x21 p5) m) fun x22 m=>bp (pur (X0 1 x22) m) fun x23 m=>bp (pur (X4 false 1 x23 m) m) fun x24 m=>bp (pur (X0 10 p1) m) fun x25 m=>bp (pur (X4 false 1 x25 m) m) fun x26 m=>bp (pur (X3 3 x26 p6) m) fun x27 m=>bp (pur (X0 1 x27) m) fun x28 m=>bp (pur (X4 false 1 x28 m) m) fun x29 m=>bp (pur (bin .eql false true .int x24 x29) m) fun x30 m=>brb x30 (some ((.bool false),m)) (bp (pur (bin .add true true .int p6 (.int .i64 1)) m) fun x31 m=>(Qnm G k0 i) x31 p5 p1 m)) (Q146 G k0 p5 p1 m)
def Q147 (G:Gt)(k0:J2)(p6 p5 p1:V)(m:M):R:=Qnm G k0 G.rds p6 p5 p1 m
def Q148 (G:Gt)(k0:J2)(p5 p1:V)(m:M):R:=Q147 G k0 (.int .i64 0) p5 p1 m
def Q41 (G:Gt):Nat→V→V→M→R
 | 0,_,_,_=>none
 | i + 1,p5,p1,m=>bp (pur (X0 10 p1) m) fun x32 m=>bp (pur (X4 false 1 x32 m) m) fun x33 m=>bp (pur (lenK 1 x33 m) m) fun x34 m=>bp (pur (bin .lss false true .int p5 x34) m) fun x35 m=>brb x35 (Q148 G (Q41 G i) p5 p1 m) (Q17z G p1 m)
def Q149 (G:Gt)(p5 p1:V)(m:M):R:=Q41 G G.rds p5 p1 m
def Q180 (G:Gt)(p1:V)(m:M):R:=Q149 G (.int .i64 0) p1 m
def Q14a (G:Gt)(k0:J2)(p3 p1:V)(m:M):R:=bp (pur (bin .add true true .int p3 (.int .i64 1)) m) fun x36 m=>k0 x36 p1 m
def Qf8 (G:Gt)(k1:J3)(p49 p4 p3 p1:V)(m:M):R:=brb p49 (some ((.bool false),m)) (bp (pur (bin .add true true .int p4 (.int .i64 1)) m) fun x37 m=>k1 x37 p3 p1 m)
def Q14b (G:Gt)(k1:J3)(p1 p3 p4:V)(m:M):R:=bp (pur (X0 3 p1) m) fun x38 m=>bp (pur (X4 false 1 x38 m) m) fun x39 m=>bp (pur (X3 11 x39 p3) m) fun x40 m=>bp (pur (X4 true 11 x40 m) m) fun x41 m=>bp (G.tab Qe0 [x41] m) fun x42 m=>brt x42 (bp (pur (X0 3 p1) m) fun x43 m=>bp (pur (X4 false 1 x43 m) m) fun x44 m=>bp (pur (X3 11 x44 p4) m) fun x45 m=>bp (pur (X4 true 11 x45 m) m) fun x46 m=>bp (G.tab Qe0 [x46] m) fun x47 m=>brt x47 (bp (pur (X0 3 p1) m) fun x48 m=>bp (pur (X4 false 1 x48 m) m) fun x49 m=>bp (pur (X3 11 x49 p3) m) fun x50 m=>bp (pur (X0 2 x50) m) fun x51 m=>bp (pur (X4 false 1 x51 m) m) fun x52 m=>bp (pur (X0 3 p1) m) fun x53 m=>bp (pur (X4 false 1 x53 m) m) fun x54 m=>bp (pur (X3 11 x54 p4) m) fun x55 m=>bp (pur (X0 2 x55) m) fun x56 m=>bp (pur (X4 false 1 x56 m) m) fun x57 m=>bp (pur (bin .eql false true .int x52 x57) m) fun x58 m=>Qf8 G k1 x58 p4 p3 p1 m) (Qf8 G k1 (.bool false) p4 p3 p1 m) (none)) (Qf8 G k1 (.bool false) p4 p3 p1 m) (none)
def Q94 (G:Gt)(k0:J2):Nat→V→V→V→M→R
 | 0,_,_,_,_=>none
 | i + 1,p4,p3,p1,m=>bp (pur (bin .lss false true .int p4 p3) m) fun x59 m=>brb x59 (Q14b G (Q94 G k0 i) p1 p3 p4 m) (Q14a G k0 p3 p1 m)
def Q14c (G:Gt)(k0:J2)(p4 p3 p1:V)(m:M):R:=Q94 G k0 G.rds p4 p3 p1 m
def Q14d (G:Gt)(k0:J2)(p3 p1:V)(m:M):R:=Q14c G k0 (.int .i64 0) p3 p1 m
def Q2i (G:Gt):Nat→V→V→M→R
 | 0,_,_,_=>none
 | i + 1,p3,p1,m=>bp (pur (X0 3 p1) m) fun x60 m=>bp (pur (X4 false 1 x60 m) m) fun x61 m=>bp (pur (lenK 1 x61 m) m) fun x62 m=>bp (pur (bin .lss false true .int p3 x62) m) fun x63 m=>brb x63 (Q14d G (Q2i G i) p3 p1 m) (Q180 G p1 m)
def Q14e (G:Gt)(p3 p1:V)(m:M):R:=Q2i G G.rds p3 p1 m
def Q181 (G:Gt)(p1:V)(m:M):R:=Q14e G (.int .i64 0) p1 m
def Qui (G:Gt)(p0:V)(m:M):R:=bp (some (aNew Q5 (Value.cells p0).toList m)) fun x64 m=>Q181 G x64 m
theorem Q1wj (G:Gt)(a0:V)(m:M):ef G Tryz.f95 [a0] m = Qui G a0 m:=X6 (r:=fun r m=>Qui G (r 0) m) rfl rfl (tr (seqQ (f:=fun r m=>Q181 G (r 1) m) (tr (tr (seqQ (f:=fun r m=>Q180 G (r 1) m) (tr (tr (seqQ (f:=fun r m=>Q17z G (r 1) m) (tr (tr (seqQ (f:=fun r m=>Q17u G m)) (seqQ (f:=fun r m=>Q17y G (r 7) (r 1) m) (tr (X9 (Xb (fun i r m=>Q4e G i (r 7) (r 1) m) (fun _ _=>rfl) (fun i0=>tr (seqQ (f:=fun r m=>Q17x G (Q4e G i0) (r 7) (r 1) m) (tr (tr (seqQ (f:=fun r m=>Q17v G (Q4e G i0) (r 7) (r 1) m)) (X9 (seqQ (f:=fun r m=>Q17w G (Q4e G i0) (r 8) (r 7) (r 1) m) (tr (X9 (Xb (fun i r m=>Qpd G (Q4e G i0) i (r 8) (r 7) (r 1) m) (fun _ _=>rfl) (fun i1=>fun r m=>by kernel_rfl))))))))))))))))) (seqQ (f:=fun r m=>Q149 G (r 5) (r 1) m) (tr (X9 (Xb (fun i r m=>Q41 G i (r 5) (r 1) m) (fun _ _=>rfl) (fun i0=>tr (seqQ (f:=fun r m=>Q148 G (Q41 G i0) (r 5) (r 1) m) (tr (tr (seqQ (f:=fun r m=>Q146 G (Q41 G i0) (r 5) (r 1) m)) (X9 (seqQ (f:=fun r m=>Q147 G (Q41 G i0) (r 6) (r 5) (r 1) m) (tr (X9 (Xb (fun i r m=>Qnm G (Q41 G i0) i (r 6) (r 5) (r 1) m) (fun _ _=>rfl) (fun i1=>fun r m=>by kernel_rfl))))))))))))))))) (seqQ (f:=fun r m=>Q14e G (r 3) (r 1) m) (tr (X9 (Xb (fun i r m=>Q2i G i (r 3) (r 1) m) (fun _ _=>rfl) (fun i0=>tr (seqQ (f:=fun r m=>Q14d G (Q2i G i0) (r 3) (r 1) m) (tr (tr (seqQ (f:=fun r m=>Q14a G (Q2i G i0) (r 3) (r 1) m)) (X9 (seqQ (f:=fun r m=>Q14c G (Q2i G i0) (r 4) (r 3) (r 1) m) (tr (X9 (Xb (fun i r m=>Q94 G (Q2i G i0) i (r 4) (r 3) (r 1) m) (fun _ _=>rfl) (fun i1=>tr (seqQ (f:=fun r m=>Q14b G (Q94 G (Q2i G i0) i1) (r 1) (r 3) (r 4) m) (tr (tr seqD (X9 (seqQ (f:=fun r m=>Qf8 G (Q94 G (Q2i G i0) i1) (r 49) (r 4) (r 3) (r 1) m)))))))))))))))))))))))) m
def Q1wk:En:=⟨Q1e8,Tryz.f95,Tryz.func95,by kernel_rfl,arg1 Qui,Xl Q1wj⟩
end
end Go.Ab.Sh

set_option linter.unusedVariables false
set_option maxRecDepth 100000
namespace Go.Ab.Sh
open Go Go.Ab Go.Proofs
noncomputable section
def Q14f (G:Gt)(m:M):R:=some ((.bool true),m)
def Q14g (G:Gt)(k0:J3)(p9 p2 p3:V)(m:M):R:=bp (pur (bin .add true true .int p9 (.int .i64 1)) m) fun x0 m=>k0 x0 p2 p3 m
def Qmb (G:Gt)(k0:J3):Nat→V→V→V→V→M→R
 | 0,_,_,_,_,_=>none
 | i + 1,p10,p3,p2,p9,m=>bp (pur (X0 11 p3) m) fun x1 m=>bp (pur (X4 false 1 x1 m) m) fun x2 m=>bp (pur (lenK 1 x2 m) m) fun x3 m=>bp (pur (bin .lss false true .int p10 x3) m) fun x4 m=>brb x4 (bp (pur (X0 11 p2) m) fun x5 m=>bp (pur (X4 false 1 x5 m) m) fun x6 m=>bp (pur (X3 6 x6 p9) m) fun x7 m=>bp (pur (X0 2 x7) m) fun x8 m=>bp (pur (X4 false 1 x8 m) m) fun x9 m=>bp (pur (X0 11 p3) m) fun x10 m=>bp (pur (X4 false 1 x10 m) m) fun x11 m=>bp (pur (X3 6 x11 p10) m) fun x12 m=>bp (pur (X0 2 x12) m) fun x13 m=>bp (pur (X4 false 1 x13 m) m) fun x14 m=>bp (pur (bin .eql false true .int x9 x14) m) fun x15 m=>brb x15 (some ((.bool false),m)) (bp (pur (bin .add true true .int p10 (.int .i64 1)) m) fun x16 m=>(Qmb G k0 i) x16 p3 p2 p9 m)) (Q14g G k0 p9 p2 p3 m)
def Q14h (G:Gt)(k0:J3)(p10 p3 p2 p9:V)(m:M):R:=Qmb G k0 G.rds p10 p3 p2 p9 m
def Q14i (G:Gt)(k0:J3)(p3 p2 p9:V)(m:M):R:=Q14h G k0 (.int .i64 0) p3 p2 p9 m
def Q42 (G:Gt):Nat→V→V→V→M→R
 | 0,_,_,_,_=>none
 | i + 1,p9,p2,p3,m=>bp (pur (X0 11 p2) m) fun x17 m=>bp (pur (X4 false 1 x17 m) m) fun x18 m=>bp (pur (lenK 1 x18 m) m) fun x19 m=>bp (pur (bin .lss false true .int p9 x19) m) fun x20 m=>brb x20 (Q14i G (Q42 G i) p3 p2 p9 m) (Q14f G m)
def Q14j (G:Gt)(p9 p2 p3:V)(m:M):R:=Q42 G G.rds p9 p2 p3 m
def Q14k (G:Gt)(p2 p3:V)(m:M):R:=Q14j G (.int .i64 0) p2 p3 m
def Q11h (G:Gt)(k0:J3)(p7 p2 p3:V)(m:M):R:=bp (pur (bin .add true true .int p7 (.int .i64 1)) m) fun x21 m=>k0 x21 p2 p3 m
def Qmc (G:Gt)(k0:J3):Nat→V→V→V→V→M→R
 | 0,_,_,_,_,_=>none
 | i + 1,p8,p3,p2,p7,m=>bp (pur (X0 10 p3) m) fun x22 m=>bp (pur (X4 false 1 x22 m) m) fun x23 m=>bp (pur (lenK 1 x23 m) m) fun x24 m=>bp (pur (bin .lss false true .int p8 x24) m) fun x25 m=>brb x25 (bp (pur (X0 10 p2) m) fun x26 m=>bp (pur (X4 false 1 x26 m) m) fun x27 m=>bp (pur (X3 3 x27 p7) m) fun x28 m=>bp (pur (X0 1 x28) m) fun x29 m=>bp (pur (X4 false 1 x29 m) m) fun x30 m=>bp (pur (X0 10 p3) m) fun x31 m=>bp (pur (X4 false 1 x31 m) m) fun x32 m=>bp (pur (X3 3 x32 p8) m) fun x33 m=>bp (pur (X0 1 x33) m) fun x34 m=>bp (pur (X4 false 1 x34 m) m) fun x35 m=>bp (pur (bin .eql false true .int x30 x35) m) fun x36 m=>brb x36 (some ((.bool false),m)) (bp (pur (bin .add true true .int p8 (.int .i64 1)) m) fun x37 m=>(Qmc G k0 i) x37 p3 p2 p7 m)) (Q11h G k0 p7 p2 p3 m)
def Q11i (G:Gt)(k0:J3)(p8 p3 p2 p7:V)(m:M):R:=Qmc G k0 G.rds p8 p3 p2 p7 m
def Q11j (G:Gt)(k0:J3)(p3 p2 p7:V)(m:M):R:=Q11i G k0 (.int .i64 0) p3 p2 p7 m
def Q3r (G:Gt):Nat→V→V→V→M→R
 | 0,_,_,_,_=>none
 | i + 1,p7,p2,p3,m=>bp (pur (X0 10 p2) m) fun x38 m=>bp (pur (X4 false 1 x38 m) m) fun x39 m=>bp (pur (lenK 1 x39 m) m) fun x40 m=>bp (pur (bin .lss false true .int p7 x40) m) fun x41 m=>brb x41 (Q11j G (Q3r G i) p3 p2 p7 m) (Q14k G p2 p3 m)
def Q11k (G:Gt)(p7 p2 p3:V)(m:M):R:=Q3r G G.rds p7 p2 p3 m
def Q14l (G:Gt)(p2 p3:V)(m:M):R:=Q11k G (.int .i64 0) p2 p3 m
def Q11l (G:Gt)(k0:J3)(p5 p2 p3:V)(m:M):R:=bp (pur (bin .add true true .int p5 (.int .i64 1)) m) fun x42 m=>k0 x42 p2 p3 m
def Qel (G:Gt)(k1:J4)(p58 p6 p3 p2 p5:V)(m:M):R:=brb p58 (some ((.bool false),m)) (bp (pur (bin .add true true .int p6 (.int .i64 1)) m) fun x43 m=>k1 x43 p3 p2 p5 m)
def Q11m (G:Gt)(k1:J4)(p2 p5 p3 p6:V)(m:M):R:=bp (pur (X0 3 p2) m) fun x44 m=>bp (pur (X4 false 1 x44 m) m) fun x45 m=>bp (pur (X3 11 x45 p5) m) fun x46 m=>bp (pur (X4 true 11 x46 m) m) fun x47 m=>bp (G.tab Qe0 [x47] m) fun x48 m=>brt x48 (bp (pur (X0 3 p3) m) fun x49 m=>bp (pur (X4 false 1 x49 m) m) fun x50 m=>bp (pur (X3 11 x50 p6) m) fun x51 m=>bp (pur (X4 true 11 x51 m) m) fun x52 m=>bp (G.tab Qe0 [x52] m) fun x53 m=>brt x53 (bp (pur (X0 3 p2) m) fun x54 m=>bp (pur (X4 false 1 x54 m) m) fun x55 m=>bp (pur (X3 11 x55 p5) m) fun x56 m=>bp (pur (X0 2 x56) m) fun x57 m=>bp (pur (X4 false 1 x57 m) m) fun x58 m=>bp (pur (X0 3 p3) m) fun x59 m=>bp (pur (X4 false 1 x59 m) m) fun x60 m=>bp (pur (X3 11 x60 p6) m) fun x61 m=>bp (pur (X0 2 x61) m) fun x62 m=>bp (pur (X4 false 1 x62 m) m) fun x63 m=>bp (pur (bin .eql false true .int x58 x63) m) fun x64 m=>Qel G k1 x64 p6 p3 p2 p5 m) (Qel G k1 (.bool false) p6 p3 p2 p5 m) (none)) (Qel G k1 (.bool false) p6 p3 p2 p5 m) (none)
def Q8d (G:Gt)(k0:J3):Nat→V→V→V→V→M→R
 | 0,_,_,_,_,_=>none
 | i + 1,p6,p3,p2,p5,m=>bp (pur (X0 3 p3) m) fun x65 m=>bp (pur (X4 false 1 x65 m) m) fun x66 m=>bp (pur (lenK 1 x66 m) m) fun x67 m=>bp (pur (bin .lss false true .int p6 x67) m) fun x68 m=>brb x68 (Q11m G (Q8d G k0 i) p2 p5 p3 p6 m) (Q11l G k0 p5 p2 p3 m)
def Q11n (G:Gt)(k0:J3)(p6 p3 p2 p5:V)(m:M):R:=Q8d G k0 G.rds p6 p3 p2 p5 m
def Q11o (G:Gt)(k0:J3)(p3 p2 p5:V)(m:M):R:=Q11n G k0 (.int .i64 0) p3 p2 p5 m
def Q2e (G:Gt):Nat→V→V→V→M→R
 | 0,_,_,_,_=>none
 | i + 1,p5,p2,p3,m=>bp (pur (X0 3 p2) m) fun x69 m=>bp (pur (X4 false 1 x69 m) m) fun x70 m=>bp (pur (lenK 1 x70 m) m) fun x71 m=>bp (pur (bin .lss false true .int p5 x71) m) fun x72 m=>brb x72 (Q11o G (Q2e G i) p3 p2 p5 m) (Q14l G p2 p3 m)
def Q11p (G:Gt)(p5 p2 p3:V)(m:M):R:=Q2e G G.rds p5 p2 p3 m
def Q14m (G:Gt)(p2 p3:V)(m:M):R:=Q11p G (.int .i64 0) p2 p3 m
def Q14n (G:Gt)(p2 p3:V)(m:M):R:=bp (pur (X0 0 p2) m) fun x73 m=>bp (pur (X4 false 1 x73 m) m) fun x74 m=>bp (pur (X0 0 p3) m) fun x75 m=>bp (pur (X4 false 1 x75 m) m) fun x76 m=>bp (pur (bin .eql false true .str x74 x76) m) fun x77 m=>brb x77 (some ((.bool false),m)) (Q14m G p2 p3 m)
def Qrj (G:Gt)(p0 p1:V)(m:M):R:=bp (some (aNew Q5 (Value.cells p0).toList m)) fun x78 m=>bp (some (aNew Q5 (Value.cells p1).toList m)) fun x79 m=>Q14n G x78 x79 m
theorem Q1uj (G:Gt)(a0 a1:V)(m:M):ef G Tryz.f96 [a0,a1] m = Qrj G a0 a1 m:=X6 (r:=fun r m=>Qrj G (r 0) (r 1) m) rfl rfl (tr (seqQ (f:=fun r m=>Q14n G (r 2) (r 3) m) (tr (seqQ (f:=fun r m=>Q14m G (r 2) (r 3) m) (tr (tr (seqQ (f:=fun r m=>Q14l G (r 2) (r 3) m) (tr (tr (seqQ (f:=fun r m=>Q14k G (r 2) (r 3) m) (tr (tr (seqQ (f:=fun r m=>Q14f G m)) (seqQ (f:=fun r m=>Q14j G (r 9) (r 2) (r 3) m) (tr (X9 (Xb (fun i r m=>Q42 G i (r 9) (r 2) (r 3) m) (fun _ _=>rfl) (fun i0=>tr (seqQ (f:=fun r m=>Q14i G (Q42 G i0) (r 3) (r 2) (r 9) m) (tr (tr (seqQ (f:=fun r m=>Q14g G (Q42 G i0) (r 9) (r 2) (r 3) m)) (X9 (seqQ (f:=fun r m=>Q14h G (Q42 G i0) (r 10) (r 3) (r 2) (r 9) m) (tr (X9 (Xb (fun i r m=>Qmb G (Q42 G i0) i (r 10) (r 3) (r 2) (r 9) m) (fun _ _=>rfl) (fun i1=>fun r m=>by kernel_rfl))))))))))))))))) (seqQ (f:=fun r m=>Q11k G (r 7) (r 2) (r 3) m) (tr (X9 (Xb (fun i r m=>Q3r G i (r 7) (r 2) (r 3) m) (fun _ _=>rfl) (fun i0=>tr (seqQ (f:=fun r m=>Q11j G (Q3r G i0) (r 3) (r 2) (r 7) m) (tr (tr (seqQ (f:=fun r m=>Q11h G (Q3r G i0) (r 7) (r 2) (r 3) m)) (X9 (seqQ (f:=fun r m=>Q11i G (Q3r G i0) (r 8) (r 3) (r 2) (r 7) m) (tr (X9 (Xb (fun i r m=>Qmc G (Q3r G i0) i (r 8) (r 3) (r 2) (r 7) m) (fun _ _=>rfl) (fun i1=>fun r m=>by kernel_rfl))))))))))))))))) (seqQ (f:=fun r m=>Q11p G (r 5) (r 2) (r 3) m) (tr (X9 (Xb (fun i r m=>Q2e G i (r 5) (r 2) (r 3) m) (fun _ _=>rfl) (fun i0=>tr (seqQ (f:=fun r m=>Q11o G (Q2e G i0) (r 3) (r 2) (r 5) m) (tr (tr (seqQ (f:=fun r m=>Q11l G (Q2e G i0) (r 5) (r 2) (r 3) m)) (X9 (seqQ (f:=fun r m=>Q11n G (Q2e G i0) (r 6) (r 3) (r 2) (r 5) m) (tr (X9 (Xb (fun i r m=>Q8d G (Q2e G i0) i (r 6) (r 3) (r 2) (r 5) m) (fun _ _=>rfl) (fun i1=>tr (seqQ (f:=fun r m=>Q11m G (Q8d G (Q2e G i0) i1) (r 2) (r 5) (r 3) (r 6) m) (tr (tr seqD (X9 (seqQ (f:=fun r m=>Qel G (Q8d G (Q2e G i0) i1) (r 58) (r 6) (r 3) (r 2) (r 5) m)))))))))))))))))))))))))) m
def Q1uk:En:=⟨Q1b3,Tryz.f96,Tryz.func96,by kernel_rfl,arg2 Qrj,Xg Q1uj⟩
end
end Go.Ab.Sh
