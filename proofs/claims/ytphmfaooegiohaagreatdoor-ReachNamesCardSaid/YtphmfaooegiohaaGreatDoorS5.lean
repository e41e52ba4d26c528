/-
  Functions of the program as plain definitions. No conditions.
-/
import Derived.Test.YtphmfaooegiohaaGreatDoorAb5
import Derived.Test.YtphmfaooegiohaaGreatDoorZ
import Derived.KernelRfl
import Derived.Test.YtphmfaooegiohaaGreatDoorProg
set_option linter.unusedVariables false
set_option maxRecDepth 100000
namespace Go.Ab.Sh
open Go Go.Ab Go.Proofs
noncomputable section
def Q1ax (G:Gt)(k0:J4)(p13 p12 p11 p0:V)(m:M):R:=bp (pur (bin .add true true .int p13 (.int .i64 1)) m) fun x0 m=>k0 x0 p12 p11 p0 m
def Q163 (G:Gt)(k1:J8)(p21 p20 p19 p0 p3 p13 p12 p11:V)(m:M):R:=bp (pur (bin .add true true .int p21 (.int .i64 1)) m) fun x1 m=>k1 x1 p20 p19 p0 p3 p13 p12 p11 m
def Qod (G:Gt)(k1:J8):Nat→V→V→V→V→V→V→V→V→V→V→V→M→R
 | 0,_,_,_,_,_,_,_,_,_,_,_,_=>none
 | i + 1,p29,p28,p0,p3,p5,p21,p20,p19,p13,p12,p11,m=>bp (pur (bin .lss false true .int p29 p28) m) fun x2 m=>brb x2 (bp (Xj G.tab p0 [p3,p5,p29] m) fun x3 m=>bp (pur (bin .add true true .int p29 (.int .i64 1)) m) fun x4 m=>(Qod G k1 i) x4 p28 p0 p3 p5 p21 p20 p19 p13 p12 p11 m) (Q163 G k1 p21 p20 p19 p0 p3 p13 p12 p11 m)
def Q164 (G:Gt)(k1:J8)(p29 p28 p0 p3 p5 p21 p20 p19 p13 p12 p11:V)(m:M):R:=Qod G k1 G.rds p29 p28 p0 p3 p5 p21 p20 p19 p13 p12 p11 m
def Q165 (G:Gt)(k1:J8)(p6 p0 p3 p5 p21 p20 p19 p13 p12 p11:V)(m:M):R:=bp (pur (X0 4 p6) m) fun x5 m=>bp (pur (X4 false 1 x5 m) m) fun x6 m=>bp (pur (lenK 1 x6 m) m) fun x7 m=>Q164 G k1 (.int .i64 0) x7 p0 p3 p5 p21 p20 p19 p13 p12 p11 m
def Q1ay (G:Gt)(k1:J8)(p21 p19 p0 p3 p20 p13 p12 p11:V)(m:M):R:=bp (pur (X3 6 p19 p21) m) fun x8 m=>bp (pur (X4 true 6 x8 m) m) fun x9 m=>bp (some (aNew Qrl Q18w m)) fun x10 m=>bp (unt (X8 6 x10 x9 m)) fun _ m=>Q165 G k1 x10 p0 p3 p21 p21 p20 p19 p13 p12 p11 m
def Q1az (G:Gt)(k1:J8)(k0:J4)(p22 p21 p19 p0 p3 p20 p13 p12 p11:V)(m:M):R:=brb p22 (Q1ay G k1 p21 p19 p0 p3 p20 p13 p12 p11 m) (Q1ax G k0 p13 p12 p11 p0 m)
def Q32 (G:Gt)(k0:J4):Nat→V→V→V→V→V→V→V→V→M→R
 | 0,_,_,_,_,_,_,_,_,_=>none
 | i + 1,p21,p20,p19,p0,p3,p13,p12,p11,m=>bp (pur (bin .lss false true .int p21 p20) m) fun x11 m=>Q1az G (Q32 G k0 i) k0 x11 p21 p19 p0 p3 p20 p13 p12 p11 m
def Q1b0 (G:Gt)(k0:J4)(p21 p20 p19 p0 p3 p13 p12 p11:V)(m:M):R:=Q32 G k0 G.rds p21 p20 p19 p0 p3 p13 p12 p11 m
def Q1b1 (G:Gt)(k0:J4)(p4 p0 p3 p13 p12 p11:V)(m:M):R:=bp (pur (X0 11 p4) m) fun x12 m=>bp (pur (X4 false 1 x12 m) m) fun x13 m=>bp (pur (lenK 1 x13 m) m) fun x14 m=>Q1b0 G k0 (.int .i64 0) x14 x13 p0 p3 p13 p12 p11 m
def Q1b2 (G:Gt)(k0:J4)(p13 p11 p0 p12:V)(m:M):R:=bp (pur (X3 12 p11 p13) m) fun x15 m=>bp (pur (X4 true 12 x15 m) m) fun x16 m=>bp (some (aNew Q4 Q1l m)) fun x17 m=>bp (unt (X8 12 x17 x16 m)) fun _ m=>Q1b1 G k0 x17 p0 p13 p13 p12 p11 m
def Q1b3 (G:Gt)(k0:J4)(p14 p13 p11 p0 p12:V)(m:M):R:=brb p14 (Q1b2 G k0 p13 p11 p0 p12 m) (some (.tuple ⟨[]⟩,m))
def Q11 (G:Gt):Nat→V→V→V→V→M→R
 | 0,_,_,_,_,_=>none
 | i + 1,p13,p12,p11,p0,m=>bp (pur (bin .lss false true .int p13 p12) m) fun x18 m=>Q1b3 G (Q11 G i) x18 p13 p11 p0 p12 m
def Q1b4 (G:Gt)(p13 p12 p11 p0:V)(m:M):R:=Q11 G G.rds p13 p12 p11 p0 m
def Qw0 (G:Gt)(p1 p0:V)(m:M):R:=bp (pur (X4 false 1 p1 m) m) fun x19 m=>bp (pur (X9 x19) m) fun x20 m=>bp (pur (X0 0 x20) m) fun x21 m=>bp (pur (X4 false 1 x21 m) m) fun x22 m=>bp (pur (lenK 1 x22 m) m) fun x23 m=>Q1b4 G (.int .i64 0) x23 x22 p0 m
theorem Q1vo (G:Gt)(a0 a1:V)(m:M):ef G Tryz.f94 [a0,a1] m = Qw0 G a1 a0 m:=X6 (r:=fun r m=>Qw0 G (r 1) (r 0) m) rfl rfl (tr (seqQ (f:=fun r m=>Q1b4 G (r 13) (r 12) (r 11) (r 0) m) (tr (X7 (Xc (fun i r m=>Q11 G i (r 13) (r 12) (r 11) (r 0) m) (fun _ _=>rfl) (fun i0=>tr (seqQ (f:=fun r m=>Q1b3 G (Q11 G i0) (r 14) (r 13) (r 11) (r 0) (r 12) m) (tr (seqQ (f:=fun r m=>Q1b2 G (Q11 G i0) (r 13) (r 11) (r 0) (r 12) m) (tr (tr (seqQ (f:=fun r m=>Q1ax G (Q11 G i0) (r 13) (r 12) (r 11) (r 0) m)) (X7 (seqQ (f:=fun r m=>Q1b1 G (Q11 G i0) (r 4) (r 0) (r 3) (r 13) (r 12) (r 11) m) (tr (seqQ (f:=fun r m=>Q1b0 G (Q11 G i0) (r 21) (r 20) (r 19) (r 0) (r 3) (r 13) (r 12) (r 11) m) (tr (X7 (Xc (fun i r m=>Q32 G (Q11 G i0) i (r 21) (r 20) (r 19) (r 0) (r 3) (r 13) (r 12) (r 11) m) (fun _ _=>rfl) (fun i1=>tr (seqQ (f:=fun r m=>Q1az G (Q32 G (Q11 G i0) i1) (Q11 G i0) (r 22) (r 21) (r 19) (r 0) (r 3) (r 20) (r 13) (r 12) (r 11) m) (tr (seqQ (f:=fun r m=>Q1ay G (Q32 G (Q11 G i0) i1) (r 21) (r 19) (r 0) (r 3) (r 20) (r 13) (r 12) (r 11) m) (tr (tr (seqQ (f:=fun r m=>Q163 G (Q32 G (Q11 G i0) i1) (r 21) (r 20) (r 19) (r 0) (r 3) (r 13) (r 12) (r 11) m)) (X7 (seqQ (f:=fun r m=>Q165 G (Q32 G (Q11 G i0) i1) (r 6) (r 0) (r 3) (r 5) (r 21) (r 20) (r 19) (r 13) (r 12) (r 11) m) (tr (seqQ (f:=fun r m=>Q164 G (Q32 G (Q11 G i0) i1) (r 29) (r 28) (r 0) (r 3) (r 5) (r 21) (r 20) (r 19) (r 13) (r 12) (r 11) m) (tr (X7 (Xc (fun i r m=>Qod G (Q32 G (Q11 G i0) i1) i (r 29) (r 28) (r 0) (r 3) (r 5) (r 21) (r 20) (r 19) (r 13) (r 12) (r 11) m) (fun _ _=>rfl) (fun i2=>fun r m=>by kernel_rfl)))))))))))))))))))))))))))))))) m
def Q1vp:En:=⟨Q1gs,Tryz.f94,Tryz.func94,by kernel_rfl,arg2 (fun G a0 a1 m=>Qw0 G a1 a0 m),Xf Q1vo⟩
def Q166 (G:Gt)(m:M):R:=some (.tuple ⟨[(.string ⟨#[]⟩),(.int .i64 0)]⟩,m)
def Q167 (G:Gt)(k0:J2)(p4 p1:V)(m:M):R:=bp (pur (bin .add true true .int p4 (.int .i64 1)) m) fun x0 m=>k0 x0 p1 m
def Qmg (G:Gt)(k0:J2):Nat→V→V→V→M→R
 | 0,_,_,_,_=>none
 | i + 1,p6,p1,p4,m=>bp (pur (X4 true 12 p1 m) m) fun x1 m=>bp (G.tab Qva [x1,p4] m) fun x2 m=>bp (pur (bin .lss false true .int p6 x2) m) fun x3 m=>brb x3 (bp (pur (X4 true 12 p1 m) m) fun x4 m=>bp (G.tab Q1ip [x4,p4,p6] m) fun x5 m=>bp (pur (bin .eql true true .int x5 (.int .i64 1)) m) fun x6 m=>brb x6 (bp (G.tab Qvx [p4] m) fun x7 m=>bp (pur (bin .add true true .str x7 (.string ⟨#[32]⟩)) m) fun x8 m=>bp (G.tab Qqd [p6] m) fun x9 m=>bp (pur (bin .add false true .str x8 x9) m) fun x10 m=>some (.tuple ⟨[x10,(.int .i64 121)]⟩,m)) (bp (pur (bin .eql true true .int x5 (.int .i64 2)) m) fun x11 m=>brb x11 (bp (G.tab Qvx [p4] m) fun x12 m=>bp (pur (bin .add true true .str x12 (.string ⟨#[32]⟩)) m) fun x13 m=>bp (G.tab Qqd [p6] m) fun x14 m=>bp (pur (bin .add false true .str x13 x14) m) fun x15 m=>some (.tuple ⟨[x15,(.int .i64 120)]⟩,m)) (bp (pur (bin .add true true .int p6 (.int .i64 1)) m) fun x16 m=>(Qmg G k0 i) x16 p1 p4 m))) (Q167 G k0 p4 p1 m)
def Q123 (G:Gt)(k0:J2)(p6 p1 p4:V)(m:M):R:=Qmg G k0 G.rds p6 p1 p4 m
def Q124 (G:Gt)(k0:J2)(p1 p4:V)(m:M):R:=Q123 G k0 (.int .i64 0) p1 p4 m
def Qoe (G:Gt)(k0:J2)(p1 p4 p5:V)(m:M):R:=bp (pur (X4 true 12 p1 m) m) fun x17 m=>bp (G.tab Qva [x17,p4] m) fun x18 m=>bp (pur (bin .gtr false true .int x18 p5) m) fun x19 m=>brb x19 (bp (G.tab Qvx [p4] m) fun x20 m=>bp (pur (bin .add true true .str x20 (.string ⟨#[32]⟩)) m) fun x21 m=>bp (G.tab Qqd [p5] m) fun x22 m=>bp (pur (bin .add false true .str x21 x22) m) fun x23 m=>some (.tuple ⟨[x23,(.int .i64 121)]⟩,m)) (Q124 G k0 p1 p4 m)
def Q168 (G:Gt)(k0:J2)(p4 p1 p5:V)(m:M):R:=bp (pur (bin .eql true true .int p4 (.int .i64 3)) m) fun x24 m=>brb x24 (Qoe G k0 p1 p4 (.int .i64 64) m) (Qoe G k0 p1 p4 p5 m)
def Q169 (G:Gt)(k0:J2)(p4 p1:V)(m:M):R:=Q168 G k0 p4 p1 (.int .i64 256) m
def Q28 (G:Gt):Nat→V→V→M→R
 | 0,_,_,_=>none
 | i + 1,p4,p1,m=>bp (pur (bin .leq true true .int p4 (.int .i64 11)) m) fun x25 m=>brb x25 (Q169 G (Q28 G i) p4 p1 m) (Q166 G m)
def Q16a (G:Gt)(p4 p1:V)(m:M):R:=Q28 G G.rds p4 p1 m
def Q16b (G:Gt)(p1:V)(m:M):R:=Q16a G (.int .i64 2) p1 m
def Qmh (G:Gt)(p18 p1:V)(m:M):R:=brb p18 (some (.tuple ⟨[(.string ⟨#[107,105,110,100]⟩),(.int .i64 121)]⟩,m)) (Q16b G p1 m)
def Q16c (G:Gt)(p1:V)(m:M):R:=bp (pur (X0 1 p1) m) fun x26 m=>bp (pur (X4 false 1 x26 m) m) fun x27 m=>bp (pur (bin .neq true true .int x27 (.int .u8 1)) m) fun x28 m=>brb x28 (bp (pur (X0 1 p1) m) fun x29 m=>bp (pur (X4 false 1 x29 m) m) fun x30 m=>bp (pur (bin .neq true true .int x30 (.int .u8 2)) m) fun x31 m=>Qmh G x31 p1 m) (Qmh G (.bool false) p1 m)
def Q16d (G:Gt)(p1:V)(m:M):R:=bp (pur (X0 0 p1) m) fun x32 m=>bp (pur (X4 false 1 x32 m) m) fun x33 m=>bp (G.tab Qv8 [x33] m) fun x34 m=>bp (pur (un .not x34) m) fun x35 m=>brb x35 (some (.tuple ⟨[(.string ⟨#[110,97,109,101]⟩),(.int .i64 121)]⟩,m)) (Q16c G p1 m)
def Qtg (G:Gt)(p0:V)(m:M):R:=bp (some (aNew Q4 (Value.cells p0).toList m)) fun x36 m=>Q16d G x36 m
theorem Q1se (G:Gt)(a0:V)(m:M):ef G Tryz.f98 [a0] m = Qtg G a0 m:=X6 (r:=fun r m=>Qtg G (r 0) m) rfl rfl (tr (seqQ (f:=fun r m=>Q16d G (r 1) m) (tr (seqQ (f:=fun r m=>Q16c G (r 1) m) (tr (tr (seqQ (f:=fun r m=>Q16b G (r 1) m) (tr (tr (seqQ (f:=fun r m=>Q166 G m)) (seqQ (f:=fun r m=>Q16a G (r 4) (r 1) m) (tr (X7 (Xc (fun i r m=>Q28 G i (r 4) (r 1) m) (fun _ _=>rfl) (fun i0=>tr (seqQ (f:=fun r m=>Q169 G (Q28 G i0) (r 4) (r 1) m) (tr (tr (seqQ (f:=fun r m=>Q167 G (Q28 G i0) (r 4) (r 1) m)) (X7 (seqQ (f:=fun r m=>Q168 G (Q28 G i0) (r 4) (r 1) (r 5) m) (tr (seqQ (f:=fun r m=>Qoe G (Q28 G i0) (r 1) (r 4) (r 5) m) (tr (seqQ (f:=fun r m=>Q124 G (Q28 G i0) (r 1) (r 4) m) (tr (seqQ (f:=fun r m=>Q123 G (Q28 G i0) (r 6) (r 1) (r 4) m) (tr (X7 (Xc (fun i r m=>Qmg G (Q28 G i0) i (r 6) (r 1) (r 4) m) (fun _ _=>rfl) (fun i1=>fun r m=>by kernel_rfl))))))))))))))))))))))) (seqQ (f:=fun r m=>Qmh G (r 18) (r 1) m)))))))) m
def Q1sf:En:=⟨Q1f2,Tryz.f98,Tryz.func98,by kernel_rfl,arg1 Qtg,Xk Q1se⟩
def Q16e (G:Gt)(m:M):R:=some ((.bool true),m)
def Q16f (G:Gt)(k0:J2)(p7 p1:V)(m:M):R:=bp (pur (bin .add true true .int p7 (.int .i64 1)) m) fun x0 m=>k0 x0 p1 m
def Qof (G:Gt)(k0:J2):Nat→V→V→V→M→R
 | 0,_,_,_,_=>none
 | i + 1,p8,p7,p1,m=>bp (pur (bin .lss false true .int p8 p7) m) fun x1 m=>brb x1 (bp (pur (X0 11 p1) m) fun x2 m=>bp (pur (X4 false 1 x2 m) m) fun x3 m=>bp (pur (X3 6 x3 p7) m) fun x4 m=>bp (pur (X0 2 x4) m) fun x5 m=>bp (pur (X4 false 1 x5 m) m) fun x6 m=>bp (pur (X0 11 p1) m) fun x7 m=>bp (pur (X4 false 1 x7 m) m) fun x8 m=>bp (pur (X3 6 x8 p8) m) fun x9 m=>bp (pur (X0 2 x9) m) fun x10 m=>bp (pur (X4 false 1 x10 m) m) fun x11 m=>bp (pur (bin .eql false true .int x6 x11) m) fun x12 m=>brb x12 (some ((.bool false),m)) (bp (pur (bin .add true true .int p8 (.int .i64 1)) m) fun x13 m=>(Qof G k0 i) x13 p7 p1 m)) (Q16f G k0 p7 p1 m)
def Q16g (G:Gt)(k0:J2)(p8 p7 p1:V)(m:M):R:=Qof G k0 G.rds p8 p7 p1 m
def Q16h (G:Gt)(k0:J2)(p7 p1:V)(m:M):R:=Q16g G k0 (.int .i64 0) p7 p1 m
def Q48 (G:Gt):Nat→V→V→M→R
 | 0,_,_,_=>none
 | i + 1,p7,p1,m=>bp (pur (X0 11 p1) m) fun x14 m=>bp (pur (X4 false 1 x14 m) m) fun x15 m=>bp (pur (lenK 1 x15 m) m) fun x16 m=>bp (pur (bin .lss false true .int p7 x16) m) fun x17 m=>brb x17 (Q16h G (Q48 G i) p7 p1 m) (Q16e G m)
def Q16i (G:Gt)(p7 p1:V)(m:M):R:=Q48 G G.rds p7 p1 m
def Q16j (G:Gt)(p1:V)(m:M):R:=Q16i G (.int .i64 0) p1 m
def Q125 (G:Gt)(k0:J2)(p5 p1:V)(m:M):R:=bp (pur (bin .add true true .int p5 (.int .i64 1)) m) fun x18 m=>k0 x18 p1 m
def Qmi (G:Gt)(k0:J2):Nat→V→V→V→M→R
 | 0,_,_,_,_=>none
 | i + 1,p6,p5,p1,m=>bp (pur (bin .lss false true .int p6 p5) m) fun x19 m=>brb x19 (bp (pur (X0 10 p1) m) fun x20 m=>bp (pur (X4 false 1 x20 m) m) fun x21 m=>bp (pur (X3 3 x21 p5) m) fun x22 m=>bp (pur (X0 1 x22) m) fun x23 m=>bp (pur (X4 false 1 x23 m) m) fun x24 m=>bp (pur (X0 10 p1) m) fun x25 m=>bp (pur (X4 false 1 x25 m) m) fun x26 m=>bp (pur (X3 3 x26 p6) m) fun x27 m=>bp (pur (X0 1 x27) m) fun x28 m=>bp (pur (X4 false 1 x28 m) m) fun x29 m=>bp (pur (bin .eql false true .int x24 x29) m) fun x30 m=>brb x30 (some ((.bool false),m)) (bp (pur (bin .add true true .int p6 (.int .i64 1)) m) fun x31 m=>(Qmi G k0 i) x31 p5 p1 m)) (Q125 G k0 p5 p1 m)
def Q126 (G:Gt)(k0:J2)(p6 p5 p1:V)(m:M):R:=Qmi G k0 G.rds p6 p5 p1 m
def Q127 (G:Gt)(k0:J2)(p5 p1:V)(m:M):R:=Q126 G k0 (.int .i64 0) p5 p1 m
def Q3v (G:Gt):Nat→V→V→M→R
 | 0,_,_,_=>none
 | i + 1,p5,p1,m=>bp (pur (X0 10 p1) m) fun x32 m=>bp (pur (X4 false 1 x32 m) m) fun x33 m=>bp (pur (lenK 1 x33 m) m) fun x34 m=>bp (pur (bin .lss false true .int p5 x34) m) fun x35 m=>brb x35 (Q127 G (Q3v G i) p5 p1 m) (Q16j G p1 m)
def Q128 (G:Gt)(p5 p1:V)(m:M):R:=Q3v G G.rds p5 p1 m
def Q16k (G:Gt)(p1:V)(m:M):R:=Q128 G (.int .i64 0) p1 m
def Q129 (G:Gt)(k0:J2)(p3 p1:V)(m:M):R:=bp (pur (bin .add true true .int p3 (.int .i64 1)) m) fun x36 m=>k0 x36 p1 m
def Qem (G:Gt)(k1:J3)(p49 p4 p3 p1:V)(m:M):R:=brb p49 (some ((.bool false),m)) (bp (pur (bin .add true true .int p4 (.int .i64 1)) m) fun x37 m=>k1 x37 p3 p1 m)
def Q12a (G:Gt)(k1:J3)(p1 p3 p4:V)(m:M):R:=bp (pur (X0 3 p1) m) fun x38 m=>bp (pur (X4 false 1 x38 m) m) fun x39 m=>bp (pur (X3 11 x39 p3) m) fun x40 m=>bp (pur (X4 true 11 x40 m) m) fun x41 m=>bp (G.tab Qe7 [x41] m) fun x42 m=>brt x42 (bp (pur (X0 3 p1) m) fun x43 m=>bp (pur (X4 false 1 x43 m) m) fun x44 m=>bp (pur (X3 11 x44 p4) m) fun x45 m=>bp (pur (X4 true 11 x45 m) m) fun x46 m=>bp (G.tab Qe7 [x46] m) fun x47 m=>brt x47 (bp (pur (X0 3 p1) m) fun x48 m=>bp (pur (X4 false 1 x48 m) m) fun x49 m=>bp (pur (X3 11 x49 p3) m) fun x50 m=>bp (pur (X0 2 x50) m) fun x51 m=>bp (pur (X4 false 1 x51 m) m) fun x52 m=>bp (pur (X0 3 p1) m) fun x53 m=>bp (pur (X4 false 1 x53 m) m) fun x54 m=>bp (pur (X3 11 x54 p4) m) fun x55 m=>bp (pur (X0 2 x55) m) fun x56 m=>bp (pur (X4 false 1 x56 m) m) fun x57 m=>bp (pur (bin .eql false true .int x52 x57) m) fun x58 m=>Qem G k1 x58 p4 p3 p1 m) (Qem G k1 (.bool false) p4 p3 p1 m) (none)) (Qem G k1 (.bool false) p4 p3 p1 m) (none)
def Q8t (G:Gt)(k0:J2):Nat→V→V→V→M→R
 | 0,_,_,_,_=>none
 | i + 1,p4,p3,p1,m=>bp (pur (bin .lss false true .int p4 p3) m) fun x59 m=>brb x59 (Q12a G (Q8t G k0 i) p1 p3 p4 m) (Q129 G k0 p3 p1 m)
def Q12b (G:Gt)(k0:J2)(p4 p3 p1:V)(m:M):R:=Q8t G k0 G.rds p4 p3 p1 m
def Q12c (G:Gt)(k0:J2)(p3 p1:V)(m:M):R:=Q12b G k0 (.int .i64 0) p3 p1 m
def Q2f (G:Gt):Nat→V→V→M→R
 | 0,_,_,_=>none
 | i + 1,p3,p1,m=>bp (pur (X0 3 p1) m) fun x60 m=>bp (pur (X4 false 1 x60 m) m) fun x61 m=>bp (pur (lenK 1 x61 m) m) fun x62 m=>bp (pur (bin .lss false true .int p3 x62) m) fun x63 m=>brb x63 (Q12c G (Q2f G i) p3 p1 m) (Q16k G p1 m)
def Q12d (G:Gt)(p3 p1:V)(m:M):R:=Q2f G G.rds p3 p1 m
def Q16l (G:Gt)(p1:V)(m:M):R:=Q12d G (.int .i64 0) p1 m
def Qth (G:Gt)(p0:V)(m:M):R:=bp (some (aNew Q4 (Value.cells p0).toList m)) fun x64 m=>Q16l G x64 m
theorem Q1sg (G:Gt)(a0:V)(m:M):ef G Tryz.f99 [a0] m = Qth G a0 m:=X6 (r:=fun r m=>Qth G (r 0) m) rfl rfl (tr (seqQ (f:=fun r m=>Q16l G (r 1) m) (tr (tr (seqQ (f:=fun r m=>Q16k G (r 1) m) (tr (tr (seqQ (f:=fun r m=>Q16j G (r 1) m) (tr (tr (seqQ (f:=fun r m=>Q16e G m)) (seqQ (f:=fun r m=>Q16i G (r 7) (r 1) m) (tr (X7 (Xc (fun i r m=>Q48 G i (r 7) (r 1) m) (fun _ _=>rfl) (fun i0=>tr (seqQ (f:=fun r m=>Q16h G (Q48 G i0) (r 7) (r 1) m) (tr (tr (seqQ (f:=fun r m=>Q16f G (Q48 G i0) (r 7) (r 1) m)) (X7 (seqQ (f:=fun r m=>Q16g G (Q48 G i0) (r 8) (r 7) (r 1) m) (tr (X7 (Xc (fun i r m=>Qof G (Q48 G i0) i (r 8) (r 7) (r 1) m) (fun _ _=>rfl) (fun i1=>fun r m=>by kernel_rfl))))))))))))))))) (seqQ (f:=fun r m=>Q128 G (r 5) (r 1) m) (tr (X7 (Xc (fun i r m=>Q3v G i (r 5) (r 1) m) (fun _ _=>rfl) (fun i0=>tr (seqQ (f:=fun r m=>Q127 G (Q3v G i0) (r 5) (r 1) m) (tr (tr (seqQ (f:=fun r m=>Q125 G (Q3v G i0) (r 5) (r 1) m)) (X7 (seqQ (f:=fun r m=>Q126 G (Q3v G i0) (r 6) (r 5) (r 1) m) (tr (X7 (Xc (fun i r m=>Qmi G (Q3v G i0) i (r 6) (r 5) (r 1) m) (fun _ _=>rfl) (fun i1=>fun r m=>by kernel_rfl))))))))))))))))) (seqQ (f:=fun r m=>Q12d G (r 3) (r 1) m) (tr (X7 (Xc (fun i r m=>Q2f G i (r 3) (r 1) m) (fun _ _=>rfl) (fun i0=>tr (seqQ (f:=fun r m=>Q12c G (Q2f G i0) (r 3) (r 1) m) (tr (tr (seqQ (f:=fun r m=>Q129 G (Q2f G i0) (r 3) (r 1) m)) (X7 (seqQ (f:=fun r m=>Q12b G (Q2f G i0) (r 4) (r 3) (r 1) m) (tr (X7 (Xc (fun i r m=>Q8t G (Q2f G i0) i (r 4) (r 3) (r 1) m) (fun _ _=>rfl) (fun i1=>tr (seqQ (f:=fun r m=>Q12a G (Q8t G (Q2f G i0) i1) (r 1) (r 3) (r 4) m) (tr (tr seqD (X7 (seqQ (f:=fun r m=>Qem G (Q8t G (Q2f G i0) i1) (r 49) (r 4) (r 3) (r 1) m)))))))))))))))))))))))) m
def Q1sh:En:=⟨Q1f1,Tryz.f99,Tryz.func99,by kernel_rfl,arg1 Qth,Xk Q1sg⟩
end
end Go.Ab.Sh

set_option linter.unusedVariables false
set_option maxRecDepth 100000
namespace Go.Ab.Sh
open Go Go.Ab Go.Proofs
noncomputable section
def Q12e (G:Gt)(m:M):R:=some ((.bool true),m)
def Q12f (G:Gt)(k0:J3)(p9 p2 p3:V)(m:M):R:=bp (pur (bin .add true true .int p9 (.int .i64 1)) m) fun x0 m=>k0 x0 p2 p3 m
def Qlj (G:Gt)(k0:J3):Nat→V→V→V→V→M→R
 | 0,_,_,_,_,_=>none
 | i + 1,p10,p3,p2,p9,m=>bp (pur (X0 11 p3) m) fun x1 m=>bp (pur (X4 false 1 x1 m) m) fun x2 m=>bp (pur (lenK 1 x2 m) m) fun x3 m=>bp (pur (bin .lss false true .int p10 x3) m) fun x4 m=>brb x4 (bp (pur (X0 11 p2) m) fun x5 m=>bp (pur (X4 false 1 x5 m) m) fun x6 m=>bp (pur (X3 6 x6 p9) m) fun x7 m=>bp (pur (X0 2 x7) m) fun x8 m=>bp (pur (X4 false 1 x8 m) m) fun x9 m=>bp (pur (X0 11 p3) m) fun x10 m=>bp (pur (X4 false 1 x10 m) m) fun x11 m=>bp (pur (X3 6 x11 p10) m) fun x12 m=>bp (pur (X0 2 x12) m) fun x13 m=>bp (pur (X4 false 1 x13 m) m) fun x14 m=>bp (pur (bin .eql false true .int x9 x14) m) fun x15 m=>brb x15 (some ((.bool false),m)) (bp (pur (bin .add true true .int p10 (.int .i64 1)) m) fun x16 m=>(Qlj G k0 i) x16 p3 p2 p9 m)) (Q12f G k0 p9 p2 p3 m)
def Q12g (G:Gt)(k0:J3)(p10 p3 p2 p9:V)(m:M):R:=Qlj G k0 G.rds p10 p3 p2 p9 m
def Q12h (G:Gt)(k0:J3)(p3 p2 p9:V)(m:M):R:=Q12g G k0 (.int .i64 0) p3 p2 p9 m
def Q3w (G:Gt):Nat→V→V→V→M→R
 | 0,_,_,_,_=>none
 | i + 1,p9,p2,p3,m=>bp (pur (X0 11 p2) m) fun x17 m=>bp (pur (X4 false 1 x17 m) m) fun x18 m=>bp (pur (lenK 1 x18 m) m) fun x19 m=>bp (pur (bin .lss false true .int p9 x19) m) fun x20 m=>brb x20 (Q12h G (Q3w G i) p3 p2 p9 m) (Q12e G m)
def Q12i (G:Gt)(p9 p2 p3:V)(m:M):R:=Q3w G G.rds p9 p2 p3 m
def Q12j (G:Gt)(p2 p3:V)(m:M):R:=Q12i G (.int .i64 0) p2 p3 m
def Q10a (G:Gt)(k0:J3)(p7 p2 p3:V)(m:M):R:=bp (pur (bin .add true true .int p7 (.int .i64 1)) m) fun x21 m=>k0 x21 p2 p3 m
def Qlk (G:Gt)(k0:J3):Nat→V→V→V→V→M→R
 | 0,_,_,_,_,_=>none
 | i + 1,p8,p3,p2,p7,m=>bp (pur (X0 10 p3) m) fun x22 m=>bp (pur (X4 false 1 x22 m) m) fun x23 m=>bp (pur (lenK 1 x23 m) m) fun x24 m=>bp (pur (bin .lss false true .int p8 x24) m) fun x25 m=>brb x25 (bp (pur (X0 10 p2) m) fun x26 m=>bp (pur (X4 false 1 x26 m) m) fun x27 m=>bp (pur (X3 3 x27 p7) m) fun x28 m=>bp (pur (X0 1 x28) m) fun x29 m=>bp (pur (X4 false 1 x29 m) m) fun x30 m=>bp (pur (X0 10 p3) m) fun x31 m=>bp (pur (X4 false 1 x31 m) m) fun x32 m=>bp (pur (X3 3 x32 p8) m) fun x33 m=>bp (pur (X0 1 x33) m) fun x34 m=>bp (pur (X4 false 1 x34 m) m) fun x35 m=>bp (pur (bin .eql false true .int x30 x35) m) fun x36 m=>brb x36 (some ((.bool false),m)) (bp (pur (bin .add true true .int p8 (.int .i64 1)) m) fun x37 m=>(Qlk G k0 i) x37 p3 p2 p7 m)) (Q10a G k0 p7 p2 p3 m)
def Q10b (G:Gt)(k0:J3)(p8 p3 p2 p7:V)(m:M):R:=Qlk G k0 G.rds p8 p3 p2 p7 m
def Q10c (G:Gt)(k0:J3)(p3 p2 p7:V)(m:M):R:=Q10b G k0 (.int .i64 0) p3 p2 p7 m
def Q3m (G:Gt):Nat→V→V→V→M→R
 | 0,_,_,_,_=>none
 | i + 1,p7,p2,p3,m=>bp (pur (X0 10 p2) m) fun x38 m=>bp (pur (X4 false 1 x38 m) m) fun x39 m=>bp (pur (lenK 1 x39 m) m) fun x40 m=>bp (pur (bin .lss false true .int p7 x40) m) fun x41 m=>brb x41 (Q10c G (Q3m G i) p3 p2 p7 m) (Q12j G p2 p3 m)
def Q10d (G:Gt)(p7 p2 p3:V)(m:M):R:=Q3m G G.rds p7 p2 p3 m
def Q12k (G:Gt)(p2 p3:V)(m:M):R:=Q10d G (.int .i64 0) p2 p3 m
def Q10e (G:Gt)(k0:J3)(p5 p2 p3:V)(m:M):R:=bp (pur (bin .add true true .int p5 (.int .i64 1)) m) fun x42 m=>k0 x42 p2 p3 m
def Qe8 (G:Gt)(k1:J4)(p58 p6 p3 p2 p5:V)(m:M):R:=brb p58 (some ((.bool false),m)) (bp (pur (bin .add true true .int p6 (.int .i64 1)) m) fun x43 m=>k1 x43 p3 p2 p5 m)
def Q10f (G:Gt)(k1:J4)(p2 p5 p3 p6:V)(m:M):R:=bp (pur (X0 3 p2) m) fun x44 m=>bp (pur (X4 false 1 x44 m) m) fun x45 m=>bp (pur (X3 11 x45 p5) m) fun x46 m=>bp (pur (X4 true 11 x46 m) m) fun x47 m=>bp (G.tab Qe7 [x47] m) fun x48 m=>brt x48 (bp (pur (X0 3 p3) m) fun x49 m=>bp (pur (X4 false 1 x49 m) m) fun x50 m=>bp (pur (X3 11 x50 p6) m) fun x51 m=>bp (pur (X4 true 11 x51 m) m) fun x52 m=>bp (G.tab Qe7 [x52] m) fun x53 m=>brt x53 (bp (pur (X0 3 p2) m) fun x54 m=>bp (pur (X4 false 1 x54 m) m) fun x55 m=>bp (pur (X3 11 x55 p5) m) fun x56 m=>bp (pur (X0 2 x56) m) fun x57 m=>bp (pur (X4 false 1 x57 m) m) fun x58 m=>bp (pur (X0 3 p3) m) fun x59 m=>bp (pur (X4 false 1 x59 m) m) fun x60 m=>bp (pur (X3 11 x60 p6) m) fun x61 m=>bp (pur (X0 2 x61) m) fun x62 m=>bp (pur (X4 false 1 x62 m) m) fun x63 m=>bp (pur (bin .eql false true .int x58 x63) m) fun x64 m=>Qe8 G k1 x64 p6 p3 p2 p5 m) (Qe8 G k1 (.bool false) p6 p3 p2 p5 m) (none)) (Qe8 G k1 (.bool false) p6 p3 p2 p5 m) (none)
def Q80 (G:Gt)(k0:J3):Nat→V→V→V→V→M→R
 | 0,_,_,_,_,_=>none
 | i + 1,p6,p3,p2,p5,m=>bp (pur (X0 3 p3) m) fun x65 m=>bp (pur (X4 false 1 x65 m) m) fun x66 m=>bp (pur (lenK 1 x66 m) m) fun x67 m=>bp (pur (bin .lss false true .int p6 x67) m) fun x68 m=>brb x68 (Q10f G (Q80 G k0 i) p2 p5 p3 p6 m) (Q10e G k0 p5 p2 p3 m)
def Q10g (G:Gt)(k0:J3)(p6 p3 p2 p5:V)(m:M):R:=Q80 G k0 G.rds p6 p3 p2 p5 m
def Q10h (G:Gt)(k0:J3)(p3 p2 p5:V)(m:M):R:=Q10g G k0 (.int .i64 0) p3 p2 p5 m
def Q2c (G:Gt):Nat→V→V→V→M→R
 | 0,_,_,_,_=>none
 | i + 1,p5,p2,p3,m=>bp (pur (X0 3 p2) m) fun x69 m=>bp (pur (X4 false 1 x69 m) m) fun x70 m=>bp (pur (lenK 1 x70 m) m) fun x71 m=>bp (pur (bin .lss false true .int p5 x71) m) fun x72 m=>brb x72 (Q10h G (Q2c G i) p3 p2 p5 m) (Q12k G p2 p3 m)
def Q10i (G:Gt)(p5 p2 p3:V)(m:M):R:=Q2c G G.rds p5 p2 p3 m
def Q12l (G:Gt)(p2 p3:V)(m:M):R:=Q10i G (.int .i64 0) p2 p3 m
def Q12m (G:Gt)(p2 p3:V)(m:M):R:=bp (pur (X0 0 p2) m) fun x73 m=>bp (pur (X4 false 1 x73 m) m) fun x74 m=>bp (pur (X0 0 p3) m) fun x75 m=>bp (pur (X4 false 1 x75 m) m) fun x76 m=>bp (pur (bin .eql false true .str x74 x76) m) fun x77 m=>brb x77 (some ((.bool false),m)) (Q12l G p2 p3 m)
def Qqg (G:Gt)(p0 p1:V)(m:M):R:=bp (some (aNew Q4 (Value.cells p0).toList m)) fun x78 m=>bp (some (aNew Q4 (Value.cells p1).toList m)) fun x79 m=>Q12m G x78 x79 m
theorem Q1qs (G:Gt)(a0 a1:V)(m:M):ef G Tryz.f100 [a0,a1] m = Qqg G a0 a1 m:=X6 (r:=fun r m=>Qqg G (r 0) (r 1) m) rfl rfl (tr (seqQ (f:=fun r m=>Q12m G (r 2) (r 3) m) (tr (seqQ (f:=fun r m=>Q12l G (r 2) (r 3) m) (tr (tr (seqQ (f:=fun r m=>Q12k G (r 2) (r 3) m) (tr (tr (seqQ (f:=fun r m=>Q12j G (r 2) (r 3) m) (tr (tr (seqQ (f:=fun r m=>Q12e G m)) (seqQ (f:=fun r m=>Q12i G (r 9) (r 2) (r 3) m) (tr (X7 (Xc (fun i r m=>Q3w G i (r 9) (r 2) (r 3) m) (fun _ _=>rfl) (fun i0=>tr (seqQ (f:=fun r m=>Q12h G (Q3w G i0) (r 3) (r 2) (r 9) m) (tr (tr (seqQ (f:=fun r m=>Q12f G (Q3w G i0) (r 9) (r 2) (r 3) m)) (X7 (seqQ (f:=fun r m=>Q12g G (Q3w G i0) (r 10) (r 3) (r 2) (r 9) m) (tr (X7 (Xc (fun i r m=>Qlj G (Q3w G i0) i (r 10) (r 3) (r 2) (r 9) m) (fun _ _=>rfl) (fun i1=>fun r m=>by kernel_rfl))))))))))))))))) (seqQ (f:=fun r m=>Q10d G (r 7) (r 2) (r 3) m) (tr (X7 (Xc (fun i r m=>Q3m G i (r 7) (r 2) (r 3) m) (fun _ _=>rfl) (fun i0=>tr (seqQ (f:=fun r m=>Q10c G (Q3m G i0) (r 3) (r 2) (r 7) m) (tr (tr (seqQ (f:=fun r m=>Q10a G (Q3m G i0) (r 7) (r 2) (r 3) m)) (X7 (seqQ (f:=fun r m=>Q10b G (Q3m G i0) (r 8) (r 3) (r 2) (r 7) m) (tr (X7 (Xc (fun i r m=>Qlk G (Q3m G i0) i (r 8) (r 3) (r 2) (r 7) m) (fun _ _=>rfl) (fun i1=>fun r m=>by kernel_rfl))))))))))))))))) (seqQ (f:=fun r m=>Q10i G (r 5) (r 2) (r 3) m) (tr (X7 (Xc (fun i r m=>Q2c G i (r 5) (r 2) (r 3) m) (fun _ _=>rfl) (fun i0=>tr (seqQ (f:=fun r m=>Q10h G (Q2c G i0) (r 3) (r 2) (r 5) m) (tr (tr (seqQ (f:=fun r m=>Q10e G (Q2c G i0) (r 5) (r 2) (r 3) m)) (X7 (seqQ (f:=fun r m=>Q10g G (Q2c G i0) (r 6) (r 3) (r 2) (r 5) m) (tr (X7 (Xc (fun i r m=>Q80 G (Q2c G i0) i (r 6) (r 3) (r 2) (r 5) m) (fun _ _=>rfl) (fun i1=>tr (seqQ (f:=fun r m=>Q10f G (Q80 G (Q2c G i0) i1) (r 2) (r 5) (r 3) (r 6) m) (tr (tr seqD (X7 (seqQ (f:=fun r m=>Qe8 G (Q80 G (Q2c G i0) i1) (r 58) (r 6) (r 3) (r 2) (r 5) m)))))))))))))))))))))))))) m
def Q1qt:En:=⟨Q1av,Tryz.f100,Tryz.func100,by kernel_rfl,arg2 Qqg,Xf Q1qs⟩
end
end Go.Ab.Sh
