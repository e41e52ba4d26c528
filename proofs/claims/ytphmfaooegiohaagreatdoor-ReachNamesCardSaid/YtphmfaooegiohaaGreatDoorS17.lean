/-
  Functions of the program as plain definitions. No conditions.
-/
import Derived.Test.YtphmfaooegiohaaGreatDoorAb5
import Derived.Test.YtphmfaooegiohaaGreatDoorZ
import Derived.KernelRfl
import Derived.Test.YtphmfaooegiohaaGreatDoorProg
set_option linter.unusedVariables false
set_option maxRecDepth 100000
namespace Go.Ab.Sh
open Go Go.Ab Go.Proofs
noncomputable section
def Q6a (G:Gt)(k0:J7)(p97 p0 p1 p2 p13 p4 p3 p10 p11 p12:V)(m:M):R:=brb p97 (bp (G.tab Qp7 [p0,p1,p2,p13,p4] m) fun x0 m=>k0 p2 x0 p0 p4 p3 p10 p11 m) (bp (G.tab Qvc [p0,p1,p2,p13,p4] m) fun x1 m=>bp (pur (X5 x1 0) m) fun x2 m=>bp (pur (X5 x1 1) m) fun x3 m=>bp (pur (bin .sub false true .int x2 p1) m) fun x4 m=>bp (pur (bin .sub false true .int p2 x2) m) fun x5 m=>bp (pur (bin .quo true true .int p12 (.int .i64 8)) m) fun x6 m=>bp (pur (bin .lss false true .int x4 x5) m) fun x7 m=>brb x7 (bp (pur (bin .geq false true .int x4 x6) m) fun x8 m=>bp (G.tab Q40 [p0,p1,x2,p3,p4] m) fun x9 m=>bp (pur (bin .add true true .int x2 (.int .i64 1)) m) fun x10 m=>k0 p2 x10 p0 p4 p3 x8 x3 m) (bp (pur (bin .geq false true .int x5 x6) m) fun x11 m=>bp (pur (bin .add true true .int x2 (.int .i64 1)) m) fun x12 m=>bp (G.tab Q40 [p0,x12,p2,p3,p4] m) fun x13 m=>k0 x2 p1 p0 p4 p3 x11 x3 m))
def Q6k (G:Gt)(k0:J7)(p1 p4 p0 p13 p2 p3 p10 p11 p12:V)(m:M):R:=bp (pur (bin .gtr true true .int p1 (.int .i64 0)) m) fun x14 m=>brt x14 (bp (pur (bin .sub true true .int p1 (.int .i64 1)) m) fun x15 m=>bp (pur (X3 3 p0 x15) m) fun x16 m=>bp (pur (X4 true 3 x16 m) m) fun x17 m=>bp (pur (X3 3 p0 p13) m) fun x18 m=>bp (pur (X4 true 3 x18 m) m) fun x19 m=>bp (Xj G.tab p4 [x17,x19] m) fun x20 m=>bp (pur (bin .lss true true .int x20 (.int .i64 0)) m) fun x21 m=>bp (pur (un .not x21) m) fun x22 m=>Q6a G k0 x22 p0 p1 p2 p13 p4 p3 p10 p11 p12 m) (Q6a G k0 (.bool false) p0 p1 p2 p13 p4 p3 p10 p11 p12 m) (none)
def Q3e (G:Gt)(k0:J7)(p75 p0 p1 p2 p4 p13 p3 p10 p11 p12:V)(m:M):R:=brb p75 (bp (G.tab Qka [p0,p1,p2,p4] m) fun x23 m=>brb x23 (some (.tuple ⟨[]⟩,m)) (Q6k G k0 p1 p4 p0 p13 p2 p3 p10 p11 p12 m)) (Q6k G k0 p1 p4 p0 p13 p2 p3 p10 p11 p12 m)
def Q6l (G:Gt)(k0:J7)(p10 p11 p14 p0 p1 p2 p4 p13 p3 p12:V)(m:M):R:=brb p10 (brb p11 (bp (pur (bin .eql true true .int p14 (.int .i64 1)) m) fun x24 m=>Q3e G k0 x24 p0 p1 p2 p4 p13 p3 p10 p11 p12 m) (Q3e G k0 (.bool false) p0 p1 p2 p4 p13 p3 p10 p11 p12 m)) (Q3e G k0 (.bool false) p0 p1 p2 p4 p13 p3 p10 p11 p12 m)
def Qep (G:Gt)(k0:J7)(p14 p0 p1 p2 p4 p13 p10 p11 p3 p12:V)(m:M):R:=bp (pur (bin .eql true true .int p14 (.int .i64 2)) m) fun x25 m=>brb x25 (bp (G.tab Qqz [p0,p1,p2,p4] m) fun x26 m=>bp (pur (bin .sub true true .int p2 (.int .i64 1)) m) fun x27 m=>bp (pur (bin .sub false true .int p13 p1) m) fun x28 m=>bp (pur (bin .sub false true .int x27 x28) m) fun x29 m=>Q6l G k0 p10 p11 (.int .i64 1) p0 p1 p2 p4 x29 p3 p12 m) (Q6l G k0 p10 p11 p14 p0 p1 p2 p4 p13 p3 p12 m)
def Q6m (G:Gt)(k0:J7)(p0 p1 p2 p4 p10 p11 p3 p12:V)(m:M):R:=bp (G.tab Qst [p0,p1,p2,p4] m) fun x30 m=>bp (pur (X5 x30 0) m) fun x31 m=>bp (pur (X5 x30 1) m) fun x32 m=>Qep G k0 x32 p0 p1 p2 p4 x31 p10 p11 p3 p12 m
def Qeq (G:Gt)(k0:J7)(p10 p0 p1 p2 p4 p3 p11 p12:V)(m:M):R:=bp (pur (un .not p10) m) fun x33 m=>brb x33 (bp (G.tab Qpy [p0,p1,p2,p4] m) fun x34 m=>bp (pur (bin .sub true true .int p3 (.int .i64 1)) m) fun x35 m=>Q6m G k0 p0 p1 p2 p4 p10 p11 x35 p12 m) (Q6m G k0 p0 p1 p2 p4 p10 p11 p3 p12 m)
def Qer (G:Gt)(k0:J7)(p3 p0 p1 p2 p4 p10 p11 p12:V)(m:M):R:=bp (pur (bin .eql true true .int p3 (.int .i64 0)) m) fun x36 m=>brb x36 (bp (G.tab Qxz [p0,p1,p2,p4] m) fun x37 m=>some (.tuple ⟨[]⟩,m)) (Qeq G k0 p10 p0 p1 p2 p4 p3 p11 p12 m)
def Qes (G:Gt)(k0:J7)(p12 p0 p1 p2 p4 p3 p10 p11:V)(m:M):R:=bp (pur (bin .leq true true .int p12 (.int .i64 12)) m) fun x38 m=>brb x38 (bp (G.tab Qca [p0,p1,p2,p4] m) fun x39 m=>some (.tuple ⟨[]⟩,m)) (Qer G k0 p3 p0 p1 p2 p4 p10 p11 p12 m)
def Q8 (G:Gt):Nat→V→V→V→V→V→V→V→M→R
 | 0,_,_,_,_,_,_,_,_=>none
 | i + 1,p2,p1,p0,p4,p3,p10,p11,m=>bp (pur (bin .sub false true .int p2 p1) m) fun x40 m=>Qes G (Q8 G i) x40 p0 p1 p2 p4 p3 p10 p11 m
def Qet (G:Gt)(p2 p1 p0 p4 p3 p10 p11:V)(m:M):R:=Q8 G G.rds p2 p1 p0 p4 p3 p10 p11 m
def Qeu (G:Gt)(p2 p1 p0 p4 p3 p10:V)(m:M):R:=Qet G p2 p1 p0 p4 p3 p10 (.bool true) m
def Q7s (G:Gt)(p2 p1 p0 p4 p3:V)(m:M):R:=Qeu G p2 p1 p0 p4 p3 (.bool true) m
theorem Qze (G:Gt)(a0 a1 a2 a3 a4:V)(m:M):ef G Tryz.f306 [a0,a1,a2,a3,a4] m = Q7s G a2 a1 a0 a4 a3 m:=X6 (r:=fun r m=>Q7s G (r 2) (r 1) (r 0) (r 4) (r 3) m) rfl rfl (tr (seqQ (f:=fun r m=>Qeu G (r 2) (r 1) (r 0) (r 4) (r 3) (r 10) m) (tr (seqQ (f:=fun r m=>Qet G (r 2) (r 1) (r 0) (r 4) (r 3) (r 10) (r 11) m) (tr (X7 (Xc (fun i r m=>Q8 G i (r 2) (r 1) (r 0) (r 4) (r 3) (r 10) (r 11) m) (fun _ _=>rfl) (fun i0=>tr (X7 (seqQ (f:=fun r m=>Qes G (Q8 G i0) (r 12) (r 0) (r 1) (r 2) (r 4) (r 3) (r 10) (r 11) m) (tr (seqQ (f:=fun r m=>Qer G (Q8 G i0) (r 3) (r 0) (r 1) (r 2) (r 4) (r 10) (r 11) (r 12) m) (tr (seqQ (f:=fun r m=>Qeq G (Q8 G i0) (r 10) (r 0) (r 1) (r 2) (r 4) (r 3) (r 11) (r 12) m) (tr (seqQ (f:=fun r m=>Q6m G (Q8 G i0) (r 0) (r 1) (r 2) (r 4) (r 10) (r 11) (r 3) (r 12) m) (tr (seqQ (f:=fun r m=>Qep G (Q8 G i0) (r 14) (r 0) (r 1) (r 2) (r 4) (r 13) (r 10) (r 11) (r 3) (r 12) m) (tr (seqQ (f:=fun r m=>Q6l G (Q8 G i0) (r 10) (r 11) (r 14) (r 0) (r 1) (r 2) (r 4) (r 13) (r 3) (r 12) m) (tr (tr (seqQ (f:=fun r m=>Q6k G (Q8 G i0) (r 1) (r 4) (r 0) (r 13) (r 2) (r 3) (r 10) (r 11) (r 12) m) (tr (tr seqD (seqQ (f:=fun r m=>Q6a G (Q8 G i0) (r 97) (r 0) (r 1) (r 2) (r 13) (r 4) (r 3) (r 10) (r 11) (r 12) m))))) (seqQ (f:=fun r m=>Q3e G (Q8 G i0) (r 75) (r 0) (r 1) (r 2) (r 4) (r 13) (r 3) (r 10) (r 11) (r 12) m)))))))))))))))))))))))) m
def Qzf:En:=⟨Q40,Tryz.f306,Tryz.func306,by kernel_rfl,arg5 (fun G a0 a1 a2 a3 a4 m=>Q7s G a2 a1 a0 a4 a3 m),X30 Qze⟩
def Qgc (G:Gt)(p0 p1 p2 p4 p3:V)(m:M):R:=bp (G.tab Q9b [p0,p1,p2,p4] m) fun x0 m=>bp (pur (X5 x0 0) m) fun x1 m=>bp (pur (X5 x0 1) m) fun x2 m=>bp (G.tab Q9b [p0,x2,p3,p4] m) fun x3 m=>bp (pur (X5 x3 0) m) fun x4 m=>bp (pur (X5 x3 1) m) fun x5 m=>bp (G.tab Q9b [p0,x1,x4,p4] m) fun x6 m=>bp (pur (X5 x6 0) m) fun x7 m=>bp (pur (X5 x6 1) m) fun x8 m=>some (x8,m)
theorem Q1iq (G:Gt)(a0 a1 a2 a3 a4:V)(m:M):ef G Tryz.f315 [a0,a1,a2,a3,a4] m = Qgc G a0 a1 a2 a4 a3 m:=X6 (r:=fun r m=>Qgc G (r 0) (r 1) (r 2) (r 4) (r 3) m) rfl rfl (fun r m=>by kernel_rfl) m
def Q1ir:En:=⟨Qrk,Tryz.f315,Tryz.func315,by kernel_rfl,arg5 (fun G a0 a1 a2 a3 a4 m=>Qgc G a0 a1 a2 a4 a3 m),X30 Q1iq⟩
def Q11j (G:Gt)(p5:V)(m:M):R:=some (p5,m)
def Qmb (G:Gt):Nat→V→V→V→V→V→M→R
 | 0,_,_,_,_,_,_=>none
 | i + 1,p11,p10,p9,p5,p1,m=>bp (pur (bin .lss false true .int p11 p10) m) fun x0 m=>brb x0 (bp (pur (X3 1 p9 p11) m) fun x1 m=>bp (pur (X4 false 1 x1 m) m) fun x2 m=>bp (Xj G.tab p1 [x2] m) fun x3 m=>bp (pur (Xg .str (.int .i64 0) false p5 x3 m) m) fun x4 m=>bp (pur (bin .add true true .int x4 (.int .i64 1)) m) fun x5 m=>bp (unt (Xd .str p5 x3 x5 m)) fun _ m=>bp (pur (bin .add true true .int p11 (.int .i64 1)) m) fun x6 m=>(Qmb G i) x6 p10 p9 p5 p1 m) (Q11j G p5 m)
def Q11k (G:Gt)(p11 p10 p9 p5 p1:V)(m:M):R:=Qmb G G.rds p11 p10 p9 p5 p1 m
def Q11l (G:Gt)(p0 p5 p1:V)(m:M):R:=bp (pur (lenK 1 p0 m) m) fun x7 m=>Q11k G (.int .i64 0) x7 p0 p5 p1 m
def Q11m (G:Gt)(p0 p1:V)(m:M):R:=bp (some (Xp m)) fun x8 m=>Q11l G p0 x8 p1 m
def Qpz (G:Gt)(p0 p1:V)(m:M):R:=Q11m G p0 p1 m
theorem Q1q7 (G:Gt)(a0 a1:V)(m:M):ef G Tryz.f317 [a0,a1] m = Qpz G a0 a1 m:=X6 (r:=fun r m=>Qpz G (r 0) (r 1) m) rfl rfl (tr (seqQ (f:=fun r m=>Q11m G (r 0) (r 1) m) (tr (seqQ (f:=fun r m=>Q11l G (r 0) (r 5) (r 1) m) (tr (tr (seqQ (f:=fun r m=>Q11j G (r 5) m)) (seqQ (f:=fun r m=>Q11k G (r 11) (r 10) (r 9) (r 5) (r 1) m) (tr (X7 (Xc (fun i r m=>Qmb G i (r 11) (r 10) (r 9) (r 5) (r 1) m) (fun _ _=>rfl) (fun i0=>fun r m=>by kernel_rfl))))))))))) m
def Q1q8:En:=⟨Q18v,Tryz.f317,Tryz.func317,by kernel_rfl,arg2 Qpz,Xf Q1q7⟩
def Qrq (G:Gt)(p5:V)(m:M):R:=some (p5,m)
def Qgd (G:Gt):Nat→V→V→V→V→V→M→R
 | 0,_,_,_,_,_,_=>none
 | i + 1,p11,p10,p9,p5,p1,m=>bp (pur (bin .lss false true .int p11 p10) m) fun x0 m=>brb x0 (bp (pur (X3 2 p9 p11) m) fun x1 m=>bp (pur (X4 true 2 x1 m) m) fun x2 m=>bp (some (aNew Qkw Qpj m)) fun x3 m=>bp (unt (X8 2 x3 x2 m)) fun _ m=>bp (pur (X4 true 2 x3 m) m) fun x4 m=>bp (Xj G.tab p1 [x4] m) fun x5 m=>bp (pur (Xg .str (.int .i64 0) false p5 x5 m) m) fun x6 m=>bp (pur (bin .add true true .int x6 (.int .i64 1)) m) fun x7 m=>bp (unt (Xd .str p5 x5 x7 m)) fun _ m=>bp (pur (bin .add true true .int p11 (.int .i64 1)) m) fun x8 m=>(Qgd G i) x8 p10 p9 p5 p1 m) (Qrq G p5 m)
def Qrr (G:Gt)(p11 p10 p9 p5 p1:V)(m:M):R:=Qgd G G.rds p11 p10 p9 p5 p1 m
def Qrs (G:Gt)(p0 p5 p1:V)(m:M):R:=bp (pur (lenK 1 p0 m) m) fun x9 m=>Qrr G (.int .i64 0) x9 p0 p5 p1 m
def Qrt (G:Gt)(p0 p1:V)(m:M):R:=bp (some (Xp m)) fun x10 m=>Qrs G p0 x10 p1 m
def Qjf (G:Gt)(p0 p1:V)(m:M):R:=Qrt G p0 p1 m
theorem Q1ky (G:Gt)(a0 a1:V)(m:M):ef G Tryz.f318 [a0,a1] m = Qjf G a0 a1 m:=X6 (r:=fun r m=>Qjf G (r 0) (r 1) m) rfl rfl (tr (seqQ (f:=fun r m=>Qrt G (r 0) (r 1) m) (tr (seqQ (f:=fun r m=>Qrs G (r 0) (r 5) (r 1) m) (tr (tr (seqQ (f:=fun r m=>Qrq G (r 5) m)) (seqQ (f:=fun r m=>Qrr G (r 11) (r 10) (r 9) (r 5) (r 1) m) (tr (X7 (Xc (fun i r m=>Qgd G i (r 11) (r 10) (r 9) (r 5) (r 1) m) (fun _ _=>rfl) (fun i0=>fun r m=>by kernel_rfl))))))))))) m
def Q1kz:En:=⟨Qwo,Tryz.f318,Tryz.func318,by kernel_rfl,arg2 Qjf,Xf Q1ky⟩
def Qm2 (G:Gt)(p5:V)(m:M):R:=some (p5,m)
def Qcx (G:Gt):Nat→V→V→V→V→V→M→R
 | 0,_,_,_,_,_,_=>none
 | i + 1,p11,p10,p9,p5,p1,m=>bp (pur (bin .lss false true .int p11 p10) m) fun x0 m=>brb x0 (bp (pur (X3 2 p9 p11) m) fun x1 m=>bp (pur (X4 true 2 x1 m) m) fun x2 m=>bp (some (aNew Qby Qf1 m)) fun x3 m=>bp (unt (X8 2 x3 x2 m)) fun _ m=>bp (pur (X4 true 2 x3 m) m) fun x4 m=>bp (Xj G.tab p1 [x4] m) fun x5 m=>bp (pur (Xg .str (.int .i64 0) false p5 x5 m) m) fun x6 m=>bp (pur (bin .add true true .int x6 (.int .i64 1)) m) fun x7 m=>bp (unt (Xd .str p5 x5 x7 m)) fun _ m=>bp (pur (bin .add true true .int p11 (.int .i64 1)) m) fun x8 m=>(Qcx G i) x8 p10 p9 p5 p1 m) (Qm2 G p5 m)
def Qm3 (G:Gt)(p11 p10 p9 p5 p1:V)(m:M):R:=Qcx G G.rds p11 p10 p9 p5 p1 m
def Qm4 (G:Gt)(p0 p5 p1:V)(m:M):R:=bp (pur (lenK 1 p0 m) m) fun x9 m=>Qm3 G (.int .i64 0) x9 p0 p5 p1 m
def Qm5 (G:Gt)(p0 p1:V)(m:M):R:=bp (some (Xp m)) fun x10 m=>Qm4 G p0 x10 p1 m
def Qek (G:Gt)(p0 p1:V)(m:M):R:=Qm5 G p0 p1 m
theorem Q1fr (G:Gt)(a0 a1:V)(m:M):ef G Tryz.f319 [a0,a1] m = Qek G a0 a1 m:=X6 (r:=fun r m=>Qek G (r 0) (r 1) m) rfl rfl (tr (seqQ (f:=fun r m=>Qm5 G (r 0) (r 1) m) (tr (seqQ (f:=fun r m=>Qm4 G (r 0) (r 5) (r 1) m) (tr (tr (seqQ (f:=fun r m=>Qm2 G (r 5) m)) (seqQ (f:=fun r m=>Qm3 G (r 11) (r 10) (r 9) (r 5) (r 1) m) (tr (X7 (Xc (fun i r m=>Qcx G i (r 11) (r 10) (r 9) (r 5) (r 1) m) (fun _ _=>rfl) (fun i0=>fun r m=>by kernel_rfl))))))))))) m
def Q1fs:En:=⟨Qow,Tryz.f319,Tryz.func319,by kernel_rfl,arg2 Qek,Xf Q1fr⟩
def Qin (G:Gt)(p5:V)(m:M):R:=some (p5,m)
def Q8z (G:Gt):Nat→V→V→V→V→V→M→R
 | 0,_,_,_,_,_,_=>none
 | i + 1,p11,p10,p9,p5,p1,m=>bp (pur (bin .lss false true .int p11 p10) m) fun x0 m=>brb x0 (bp (pur (X3 2 p9 p11) m) fun x1 m=>bp (pur (X4 true 2 x1 m) m) fun x2 m=>bp (some (aNew Q4p Q6j m)) fun x3 m=>bp (unt (X8 2 x3 x2 m)) fun _ m=>bp (pur (X4 true 2 x3 m) m) fun x4 m=>bp (Xj G.tab p1 [x4] m) fun x5 m=>bp (pur (Xg .str (.int .i64 0) false p5 x5 m) m) fun x6 m=>bp (pur (bin .add true true .int x6 (.int .i64 1)) m) fun x7 m=>bp (unt (Xd .str p5 x5 x7 m)) fun _ m=>bp (pur (bin .add true true .int p11 (.int .i64 1)) m) fun x8 m=>(Q8z G i) x8 p10 p9 p5 p1 m) (Qin G p5 m)
def Qio (G:Gt)(p11 p10 p9 p5 p1:V)(m:M):R:=Q8z G G.rds p11 p10 p9 p5 p1 m
def Qip (G:Gt)(p0 p5 p1:V)(m:M):R:=bp (pur (lenK 1 p0 m) m) fun x9 m=>Qio G (.int .i64 0) x9 p0 p5 p1 m
def Qiq (G:Gt)(p0 p1:V)(m:M):R:=bp (some (Xp m)) fun x10 m=>Qip G p0 x10 p1 m
def Qc0 (G:Gt)(p0 p1:V)(m:M):R:=Qiq G p0 p1 m
theorem Q18c (G:Gt)(a0 a1:V)(m:M):ef G Tryz.f320 [a0,a1] m = Qc0 G a0 a1 m:=X6 (r:=fun r m=>Qc0 G (r 0) (r 1) m) rfl rfl (tr (seqQ (f:=fun r m=>Qiq G (r 0) (r 1) m) (tr (seqQ (f:=fun r m=>Qip G (r 0) (r 5) (r 1) m) (tr (tr (seqQ (f:=fun r m=>Qin G (r 5) m)) (seqQ (f:=fun r m=>Qio G (r 11) (r 10) (r 9) (r 5) (r 1) m) (tr (X7 (Xc (fun i r m=>Q8z G i (r 11) (r 10) (r 9) (r 5) (r 1) m) (fun _ _=>rfl) (fun i0=>fun r m=>by kernel_rfl))))))))))) m
def Q18d:En:=⟨Qkv,Tryz.f320,Tryz.func320,by kernel_rfl,arg2 Qc0,Xf Q18c⟩
def Qru (G:Gt)(p5:V)(m:M):R:=some (p5,m)
def Qge (G:Gt):Nat→V→V→V→V→V→M→R
 | 0,_,_,_,_,_,_=>none
 | i + 1,p11,p10,p9,p5,p1,m=>bp (pur (bin .lss false true .int p11 p10) m) fun x0 m=>brb x0 (bp (pur (X3 3 p9 p11) m) fun x1 m=>bp (pur (X4 true 3 x1 m) m) fun x2 m=>bp (some (aNew Qky Qpk m)) fun x3 m=>bp (unt (X8 3 x3 x2 m)) fun _ m=>bp (pur (X4 true 3 x3 m) m) fun x4 m=>bp (Xj G.tab p1 [x4] m) fun x5 m=>bp (pur (Xg .str (.int .i64 0) false p5 x5 m) m) fun x6 m=>bp (pur (bin .add true true .int x6 (.int .i64 1)) m) fun x7 m=>bp (unt (Xd .str p5 x5 x7 m)) fun _ m=>bp (pur (bin .add true true .int p11 (.int .i64 1)) m) fun x8 m=>(Qge G i) x8 p10 p9 p5 p1 m) (Qru G p5 m)
def Qrv (G:Gt)(p11 p10 p9 p5 p1:V)(m:M):R:=Qge G G.rds p11 p10 p9 p5 p1 m
def Qrw (G:Gt)(p0 p5 p1:V)(m:M):R:=bp (pur (lenK 1 p0 m) m) fun x9 m=>Qrv G (.int .i64 0) x9 p0 p5 p1 m
def Qrx (G:Gt)(p0 p1:V)(m:M):R:=bp (some (Xp m)) fun x10 m=>Qrw G p0 x10 p1 m
def Qjg (G:Gt)(p0 p1:V)(m:M):R:=Qrx G p0 p1 m
theorem Q1l0 (G:Gt)(a0 a1:V)(m:M):ef G Tryz.f321 [a0,a1] m = Qjg G a0 a1 m:=X6 (r:=fun r m=>Qjg G (r 0) (r 1) m) rfl rfl (tr (seqQ (f:=fun r m=>Qrx G (r 0) (r 1) m) (tr (seqQ (f:=fun r m=>Qrw G (r 0) (r 5) (r 1) m) (tr (tr (seqQ (f:=fun r m=>Qru G (r 5) m)) (seqQ (f:=fun r m=>Qrv G (r 11) (r 10) (r 9) (r 5) (r 1) m) (tr (X7 (Xc (fun i r m=>Qge G i (r 11) (r 10) (r 9) (r 5) (r 1) m) (fun _ _=>rfl) (fun i0=>fun r m=>by kernel_rfl))))))))))) m
def Q1l1:En:=⟨Qwp,Tryz.f321,Tryz.func321,by kernel_rfl,arg2 Qjg,Xf Q1l0⟩
def Q18e (G:Gt)(p6:V)(m:M):R:=some (p6,m)
def Q1ma (G:Gt)(p1 p0 p2:V)(m:M):R:=bp (pur (bin .leq false true .int p1 p0) m) fun x0 m=>brb x0 (bp (pur (bin .leq false true .int p0 p2) m) fun x1 m=>Q18e G x1 m) (Q18e G (.bool false) m)
def Q1hj (G:Gt)(p1 p0 p2:V)(m:M):R:=Q1ma G p1 p0 p2 m
theorem Q247 (G:Gt)(a0 a1 a2:V)(m:M):ef G Tryz.f324 [a0,a1,a2] m = Q1hj G a1 a0 a2 m:=X6 (r:=fun r m=>Q1hj G (r 1) (r 0) (r 2) m) rfl rfl (tr (seqQ (f:=fun r m=>Q1ma G (r 1) (r 0) (r 2) m) (tr (seqQ (f:=fun r m=>Q18e G (r 6) m))))) m
def Q248:En:=⟨Qpi,Tryz.f324,Tryz.func324,by kernel_rfl,arg3 (fun G a0 a1 a2 m=>Q1hj G a1 a0 a2 m),Xr Q247⟩
def Ql8 (G:Gt)(p0 p1 p2:V)(m:M):R:=bp (some (aNew Q25i (Value.cells p0).toList m)) fun x0 m=>bp (some (aNew Q6s (Value.cells p1).toList m)) fun x1 m=>bp (some (aNew Q149 (Value.cells p2).toList m)) fun x2 m=>bp (pur (X4 false 1 x0 m) m) fun x3 m=>let x4:V:=(.func (.func Qud) ⟨[]⟩ ⟨[x2,x0,x1]⟩);bp (pur (X4 false 1 x1 m) m) fun x5 m=>bp (G.tab Q5d [x3,x4] m) fun x6 m=>ckB (again (pur (X4 false 1 x1 m) m) x5 && true) (bp (pur (bin .eql false true .int x6 x5) m) fun x7 m=>some (x7,m))
theorem Q1mb (G:Gt)(a0 a1 a2:V)(m:M):ef G Tryz.f325 [a0,a1,a2] m = Ql8 G a0 a1 a2 m:=X6 (r:=fun r m=>Ql8 G (r 0) (r 1) (r 2) m) rfl rfl (fun r m=>by kernel_rfl) m
def Q1mc:En:=⟨Qyk,Tryz.f325,Tryz.func325,by kernel_rfl,arg3 Ql8,Xr Q1mb⟩
end
end Go.Ab.Sh

set_option linter.unusedVariables false
set_option maxRecDepth 100000
namespace Go.Ab.Sh
open Go Go.Ab Go.Proofs
noncomputable section
def Qed (G:Gt)(k0:J4)(p6 p2 p1 p0:V)(m:M):R:=bp (pur (bin .add true true .int p6 (.int .i64 1)) m) fun x0 m=>k0 x0 p2 p1 p0 m
def Q6b (G:Gt)(k1:J5)(k0:J4)(p30 p0 p7 p1 p6 p2:V)(m:M):R:=brb p30 (bp (pur (bin .sub true true .int p7 (.int .i64 1)) m) fun x1 m=>bp (pur (bin .sub true true .int p7 (.int .i64 1)) m) fun x2 m=>bp (pur (X3 1 p0 x2) m) fun x3 m=>bp (pur (X4 false 1 x3 m) m) fun x4 m=>bp (pur (X3 1 p0 p7) m) fun x5 m=>bp (pur (X4 false 1 x5 m) m) fun x6 m=>bp (pur (X3 1 p0 p7) m) fun x7 m=>bp (unt (X8 1 x7 x4 m)) fun _ m=>bp (pur (X3 1 p0 x1) m) fun x8 m=>bp (unt (X8 1 x8 x6 m)) fun _ m=>bp (pur (bin .sub true true .int p7 (.int .i64 1)) m) fun x9 m=>k1 x9 p1 p0 p6 p2 m) (Qed G k0 p6 p2 p1 p0 m)
def Q2d (G:Gt)(k0:J4):Nat→V→V→V→V→V→M→R
 | 0,_,_,_,_,_,_=>none
 | i + 1,p7,p1,p0,p6,p2,m=>bp (pur (bin .gtr false true .int p7 p1) m) fun x10 m=>brt x10 (bp (pur (X3 1 p0 p7) m) fun x11 m=>bp (pur (X4 false 1 x11 m) m) fun x12 m=>bp (pur (bin .sub true true .int p7 (.int .i64 1)) m) fun x13 m=>bp (pur (X3 1 p0 x13) m) fun x14 m=>bp (pur (X4 false 1 x14 m) m) fun x15 m=>bp (G.tab Q1id [x12,x15] m) fun x16 m=>Q6b G (Q2d G k0 i) k0 x16 p0 p7 p1 p6 p2 m) (Q6b G (Q2d G k0 i) k0 (.bool false) p0 p7 p1 p6 p2 m) (none)
def Qee (G:Gt)(k0:J4)(p7 p1 p0 p6 p2:V)(m:M):R:=Q2d G k0 G.rds p7 p1 p0 p6 p2 m
def Qef (G:Gt)(k0:J4)(p6 p1 p0 p2:V)(m:M):R:=Qee G k0 p6 p1 p0 p6 p2 m
def Qv (G:Gt):Nat→V→V→V→V→M→R
 | 0,_,_,_,_,_=>none
 | i + 1,p6,p2,p1,p0,m=>bp (pur (bin .lss false true .int p6 p2) m) fun x17 m=>brb x17 (Qef G (Qv G i) p6 p1 p0 p2 m) (some (.tuple ⟨[]⟩,m))
def Qeg (G:Gt)(p6 p2 p1 p0:V)(m:M):R:=Qv G G.rds p6 p2 p1 p0 m
def Q6z (G:Gt)(p1 p2 p0:V)(m:M):R:=bp (pur (bin .add true true .int p1 (.int .i64 1)) m) fun x18 m=>Qeg G x18 p2 p1 p0 m
theorem Qy0 (G:Gt)(a0 a1 a2:V)(m:M):ef G Tryz.f349 [a0,a1,a2] m = Q6z G a1 a2 a0 m:=X6 (r:=fun r m=>Q6z G (r 1) (r 2) (r 0) m) rfl rfl (tr (seqQ (f:=fun r m=>Qeg G (r 6) (r 2) (r 1) (r 0) m) (tr (X7 (Xc (fun i r m=>Qv G i (r 6) (r 2) (r 1) (r 0) m) (fun _ _=>rfl) (fun i0=>tr (seqQ (f:=fun r m=>Qef G (Qv G i0) (r 6) (r 1) (r 0) (r 2) m) (tr (tr (seqQ (f:=fun r m=>Qed G (Qv G i0) (r 6) (r 2) (r 1) (r 0) m)) (X7 (seqQ (f:=fun r m=>Qee G (Qv G i0) (r 7) (r 1) (r 0) (r 6) (r 2) m) (tr (X7 (Xc (fun i r m=>Q2d G (Qv G i0) i (r 7) (r 1) (r 0) (r 6) (r 2) m) (fun _ _=>rfl) (fun i1=>tr (tr seqD (seqQ (f:=fun r m=>Q6b G (Q2d G (Qv G i0) i1) (Qv G i0) (r 30) (r 0) (r 7) (r 1) (r 6) (r 2) m)))))))))))))))))) m
def Qy1:En:=⟨Qf7,Tryz.f349,Tryz.func349,by kernel_rfl,arg3 (fun G a0 a1 a2 m=>Q6z G a1 a2 a0 m),Xr Qy0⟩
def Q8k (G:Gt)(k0:J4)(p6 p1 p0 p2:V)(m:M):R:=bp (pur (bin .mul true true .int p6 (.int .i64 2)) m) fun x0 m=>k0 x0 p1 p0 p2 m
def Qhm (G:Gt)(k0:J4)(p7 p6 p1 p0 p2:V)(m:M):R:=bp (pur (bin .add false true .int p7 p6) m) fun x1 m=>bp (pur (bin .lss false true .int x1 p1) m) fun x2 m=>brb x2 (bp (G.tab Qhn [p0,p7,x1,p1,p2] m) fun x3 m=>Q8k G k0 p6 p1 p0 p2 m) (Q8k G k0 p6 p1 p0 p2 m)
def Q8l (G:Gt)(k0:J4):Nat→V→V→V→V→V→V→M→R
 | 0,_,_,_,_,_,_,_=>none
 | i + 1,p8,p1,p0,p7,p6,p2,m=>bp (pur (bin .leq false true .int p8 p1) m) fun x4 m=>brb x4 (bp (pur (bin .add false true .int p7 p6) m) fun x5 m=>bp (G.tab Qhn [p0,p7,x5,p8,p2] m) fun x6 m=>bp (pur (bin .mul true true .int (.int .i64 2) p6) m) fun x7 m=>bp (pur (bin .add false true .int p8 x7) m) fun x8 m=>(Q8l G k0 i) x8 p1 p0 p8 p6 p2 m) (Qhm G k0 p7 p6 p1 p0 p2 m)
def Qho (G:Gt)(k0:J4)(p8 p1 p0 p7 p6 p2:V)(m:M):R:=Q8l G k0 G.rds p8 p1 p0 p7 p6 p2 m
def Qhp (G:Gt)(k0:J4)(p6 p1 p0 p2:V)(m:M):R:=bp (pur (bin .mul true true .int (.int .i64 2) p6) m) fun x9 m=>Qho G k0 x9 p1 p0 (.int .i64 0) p6 p2 m
def Q19 (G:Gt):Nat→V→V→V→V→M→R
 | 0,_,_,_,_,_=>none
 | i + 1,p6,p1,p0,p2,m=>bp (pur (bin .lss false true .int p6 p1) m) fun x10 m=>brb x10 (Qhp G (Q19 G i) p6 p1 p0 p2 m) (some (.tuple ⟨[]⟩,m))
def Qhq (G:Gt)(p6 p1 p0 p2:V)(m:M):R:=Q19 G G.rds p6 p1 p0 p2 m
def Qhr (G:Gt)(p0 p7 p1 p2 p6:V)(m:M):R:=bp (G.tab Q5x [p0,p7,p1,p2] m) fun x11 m=>Qhq G p6 p1 p0 p2 m
def Q7t (G:Gt):Nat→V→V→V→V→V→V→M→R
 | 0,_,_,_,_,_,_,_=>none
 | i + 1,p8,p1,p0,p7,p2,p6,m=>bp (pur (bin .leq false true .int p8 p1) m) fun x12 m=>brb x12 (bp (G.tab Q5x [p0,p7,p8,p2] m) fun x13 m=>bp (pur (bin .add false true .int p8 p6) m) fun x14 m=>(Q7t G i) x14 p1 p0 p8 p2 p6 m) (Qhr G p0 p7 p1 p2 p6 m)
def Qhs (G:Gt)(p8 p1 p0 p7 p2 p6:V)(m:M):R:=Q7t G G.rds p8 p1 p0 p7 p2 p6 m
def Qht (G:Gt)(p6 p1 p0 p2:V)(m:M):R:=Qhs G p6 p1 p0 (.int .i64 0) p2 p6 m
def Q9x (G:Gt)(p1 p0 p2:V)(m:M):R:=Qht G (.int .i64 20) p1 p0 p2 m
theorem Q14m (G:Gt)(a0 a1 a2:V)(m:M):ef G Tryz.f358 [a0,a1,a2] m = Q9x G a1 a0 a2 m:=X6 (r:=fun r m=>Q9x G (r 1) (r 0) (r 2) m) rfl rfl (tr (seqQ (f:=fun r m=>Qht G (r 6) (r 1) (r 0) (r 2) m) (tr (seqQ (f:=fun r m=>Qhs G (r 8) (r 1) (r 0) (r 7) (r 2) (r 6) m) (tr (tr (seqQ (f:=fun r m=>Qhr G (r 0) (r 7) (r 1) (r 2) (r 6) m) (tr (seqQ (f:=fun r m=>Qhq G (r 6) (r 1) (r 0) (r 2) m) (tr (X7 (Xc (fun i r m=>Q19 G i (r 6) (r 1) (r 0) (r 2) m) (fun _ _=>rfl) (fun i0=>tr (seqQ (f:=fun r m=>Qhp G (Q19 G i0) (r 6) (r 1) (r 0) (r 2) m) (tr (X7 (seqQ (f:=fun r m=>Qho G (Q19 G i0) (r 8) (r 1) (r 0) (r 7) (r 6) (r 2) m) (tr (tr (seqQ (f:=fun r m=>Qhm G (Q19 G i0) (r 7) (r 6) (r 1) (r 0) (r 2) m) (tr (seqQ (f:=fun r m=>Q8k G (Q19 G i0) (r 6) (r 1) (r 0) (r 2) m)))) (X7 (Xc (fun i r m=>Q8l G (Q19 G i0) i (r 8) (r 1) (r 0) (r 7) (r 6) (r 2) m) (fun _ _=>rfl) (fun i1=>fun r m=>by kernel_rfl)))))))))))))))) (X7 (Xc (fun i r m=>Q7t G i (r 8) (r 1) (r 0) (r 7) (r 2) (r 6) m) (fun _ _=>rfl) (fun i0=>fun r m=>by kernel_rfl))))))))) m
def Q14n:En:=⟨Qjz,Tryz.f358,Tryz.func358,by kernel_rfl,arg3 (fun G a0 a1 a2 m=>Q9x G a1 a0 a2 m),Xr Q14m⟩
def Q7u (G:Gt)(k0:J4)(p6 p1 p0 p2:V)(m:M):R:=bp (pur (bin .mul true true .int p6 (.int .i64 2)) m) fun x0 m=>k0 x0 p1 p0 p2 m
def Qgf (G:Gt)(k0:J4)(p7 p6 p1 p0 p2:V)(m:M):R:=bp (pur (bin .add false true .int p7 p6) m) fun x1 m=>bp (pur (bin .lss false true .int x1 p1) m) fun x2 m=>brb x2 (bp (G.tab Qgg [p0,p7,x1,p1,p2] m) fun x3 m=>Q7u G k0 p6 p1 p0 p2 m) (Q7u G k0 p6 p1 p0 p2 m)
def Q7v (G:Gt)(k0:J4):Nat→V→V→V→V→V→V→M→R
 | 0,_,_,_,_,_,_,_=>none
 | i + 1,p8,p1,p0,p7,p6,p2,m=>bp (pur (bin .leq false true .int p8 p1) m) fun x4 m=>brb x4 (bp (pur (bin .add false true .int p7 p6) m) fun x5 m=>bp (G.tab Qgg [p0,p7,x5,p8,p2] m) fun x6 m=>bp (pur (bin .mul true true .int (.int .i64 2) p6) m) fun x7 m=>bp (pur (bin .add false true .int p8 x7) m) fun x8 m=>(Q7v G k0 i) x8 p1 p0 p8 p6 p2 m) (Qgf G k0 p7 p6 p1 p0 p2 m)
def Qgh (G:Gt)(k0:J4)(p8 p1 p0 p7 p6 p2:V)(m:M):R:=Q7v G k0 G.rds p8 p1 p0 p7 p6 p2 m
def Qgi (G:Gt)(k0:J4)(p6 p1 p0 p2:V)(m:M):R:=bp (pur (bin .mul true true .int (.int .i64 2) p6) m) fun x9 m=>Qgh G k0 x9 p1 p0 (.int .i64 0) p6 p2 m
def Q15 (G:Gt):Nat→V→V→V→V→M→R
 | 0,_,_,_,_,_=>none
 | i + 1,p6,p1,p0,p2,m=>bp (pur (bin .lss false true .int p6 p1) m) fun x10 m=>brb x10 (Qgi G (Q15 G i) p6 p1 p0 p2 m) (some (.tuple ⟨[]⟩,m))
def Qgj (G:Gt)(p6 p1 p0 p2:V)(m:M):R:=Q15 G G.rds p6 p1 p0 p2 m
def Qgk (G:Gt)(p0 p7 p1 p2 p6:V)(m:M):R:=bp (G.tab Q5e [p0,p7,p1,p2] m) fun x11 m=>Qgj G p6 p1 p0 p2 m
def Q70 (G:Gt):Nat→V→V→V→V→V→V→M→R
 | 0,_,_,_,_,_,_,_=>none
 | i + 1,p8,p1,p0,p7,p2,p6,m=>bp (pur (bin .leq false true .int p8 p1) m) fun x12 m=>brb x12 (bp (G.tab Q5e [p0,p7,p8,p2] m) fun x13 m=>bp (pur (bin .add false true .int p8 p6) m) fun x14 m=>(Q70 G i) x14 p1 p0 p8 p2 p6 m) (Qgk G p0 p7 p1 p2 p6 m)
def Qgl (G:Gt)(p8 p1 p0 p7 p2 p6:V)(m:M):R:=Q70 G G.rds p8 p1 p0 p7 p2 p6 m
def Qgm (G:Gt)(p6 p1 p0 p2:V)(m:M):R:=Qgl G p6 p1 p0 (.int .i64 0) p2 p6 m
def Q90 (G:Gt)(p1 p0 p2:V)(m:M):R:=Qgm G (.int .i64 20) p1 p0 p2 m
theorem Q13k (G:Gt)(a0 a1 a2:V)(m:M):ef G Tryz.f359 [a0,a1,a2] m = Q90 G a1 a0 a2 m:=X6 (r:=fun r m=>Q90 G (r 1) (r 0) (r 2) m) rfl rfl (tr (seqQ (f:=fun r m=>Qgm G (r 6) (r 1) (r 0) (r 2) m) (tr (seqQ (f:=fun r m=>Qgl G (r 8) (r 1) (r 0) (r 7) (r 2) (r 6) m) (tr (tr (seqQ (f:=fun r m=>Qgk G (r 0) (r 7) (r 1) (r 2) (r 6) m) (tr (seqQ (f:=fun r m=>Qgj G (r 6) (r 1) (r 0) (r 2) m) (tr (X7 (Xc (fun i r m=>Q15 G i (r 6) (r 1) (r 0) (r 2) m) (fun _ _=>rfl) (fun i0=>tr (seqQ (f:=fun r m=>Qgi G (Q15 G i0) (r 6) (r 1) (r 0) (r 2) m) (tr (X7 (seqQ (f:=fun r m=>Qgh G (Q15 G i0) (r 8) (r 1) (r 0) (r 7) (r 6) (r 2) m) (tr (tr (seqQ (f:=fun r m=>Qgf G (Q15 G i0) (r 7) (r 6) (r 1) (r 0) (r 2) m) (tr (seqQ (f:=fun r m=>Q7u G (Q15 G i0) (r 6) (r 1) (r 0) (r 2) m)))) (X7 (Xc (fun i r m=>Q7v G (Q15 G i0) i (r 8) (r 1) (r 0) (r 7) (r 6) (r 2) m) (fun _ _=>rfl) (fun i1=>fun r m=>by kernel_rfl)))))))))))))))) (X7 (Xc (fun i r m=>Q70 G i (r 8) (r 1) (r 0) (r 7) (r 2) (r 6) m) (fun _ _=>rfl) (fun i0=>fun r m=>by kernel_rfl))))))))) m
def Q13l:En:=⟨Qil,Tryz.f359,Tryz.func359,by kernel_rfl,arg3 (fun G a0 a1 a2 m=>Q90 G a1 a0 a2 m),Xr Q13k⟩
def Q5y (G:Gt)(k0:J4)(p6 p1 p0 p2:V)(m:M):R:=bp (pur (bin .mul true true .int p6 (.int .i64 2)) m) fun x0 m=>k0 x0 p1 p0 p2 m
def Qdq (G:Gt)(k0:J4)(p7 p6 p1 p0 p2:V)(m:M):R:=bp (pur (bin .add false true .int p7 p6) m) fun x1 m=>bp (pur (bin .lss false true .int x1 p1) m) fun x2 m=>brb x2 (bp (G.tab Qdr [p0,p7,x1,p1,p2] m) fun x3 m=>Q5y G k0 p6 p1 p0 p2 m) (Q5y G k0 p6 p1 p0 p2 m)
def Q5z (G:Gt)(k0:J4):Nat→V→V→V→V→V→V→M→R
 | 0,_,_,_,_,_,_,_=>none
 | i + 1,p8,p1,p0,p7,p6,p2,m=>bp (pur (bin .leq false true .int p8 p1) m) fun x4 m=>brb x4 (bp (pur (bin .add false true .int p7 p6) m) fun x5 m=>bp (G.tab Qdr [p0,p7,x5,p8,p2] m) fun x6 m=>bp (pur (bin .mul true true .int (.int .i64 2) p6) m) fun x7 m=>bp (pur (bin .add false true .int p8 x7) m) fun x8 m=>(Q5z G k0 i) x8 p1 p0 p8 p6 p2 m) (Qdq G k0 p7 p6 p1 p0 p2 m)
def Qds (G:Gt)(k0:J4)(p8 p1 p0 p7 p6 p2:V)(m:M):R:=Q5z G k0 G.rds p8 p1 p0 p7 p6 p2 m
def Qdt (G:Gt)(k0:J4)(p6 p1 p0 p2:V)(m:M):R:=bp (pur (bin .mul true true .int (.int .i64 2) p6) m) fun x9 m=>Qds G k0 x9 p1 p0 (.int .i64 0) p6 p2 m
def Qz (G:Gt):Nat→V→V→V→V→M→R
 | 0,_,_,_,_,_=>none
 | i + 1,p6,p1,p0,p2,m=>bp (pur (bin .lss false true .int p6 p1) m) fun x10 m=>brb x10 (Qdt G (Qz G i) p6 p1 p0 p2 m) (some (.tuple ⟨[]⟩,m))
def Qdu (G:Gt)(p6 p1 p0 p2:V)(m:M):R:=Qz G G.rds p6 p1 p0 p2 m
def Qdv (G:Gt)(p0 p7 p1 p2 p6:V)(m:M):R:=bp (G.tab Q41 [p0,p7,p1,p2] m) fun x11 m=>Qdu G p6 p1 p0 p2 m
def Q5f (G:Gt):Nat→V→V→V→V→V→V→M→R
 | 0,_,_,_,_,_,_,_=>none
 | i + 1,p8,p1,p0,p7,p2,p6,m=>bp (pur (bin .leq false true .int p8 p1) m) fun x12 m=>brb x12 (bp (G.tab Q41 [p0,p7,p8,p2] m) fun x13 m=>bp (pur (bin .add false true .int p8 p6) m) fun x14 m=>(Q5f G i) x14 p1 p0 p8 p2 p6 m) (Qdv G p0 p7 p1 p2 p6 m)
def Qdw (G:Gt)(p8 p1 p0 p7 p2 p6:V)(m:M):R:=Q5f G G.rds p8 p1 p0 p7 p2 p6 m
def Qdx (G:Gt)(p6 p1 p0 p2:V)(m:M):R:=Qdw G p6 p1 p0 (.int .i64 0) p2 p6 m
def Q6n (G:Gt)(p1 p0 p2:V)(m:M):R:=Qdx G (.int .i64 20) p1 p0 p2 m
theorem Qvd (G:Gt)(a0 a1 a2:V)(m:M):ef G Tryz.f360 [a0,a1,a2] m = Q6n G a1 a0 a2 m:=X6 (r:=fun r m=>Q6n G (r 1) (r 0) (r 2) m) rfl rfl (tr (seqQ (f:=fun r m=>Qdx G (r 6) (r 1) (r 0) (r 2) m) (tr (seqQ (f:=fun r m=>Qdw G (r 8) (r 1) (r 0) (r 7) (r 2) (r 6) m) (tr (tr (seqQ (f:=fun r m=>Qdv G (r 0) (r 7) (r 1) (r 2) (r 6) m) (tr (seqQ (f:=fun r m=>Qdu G (r 6) (r 1) (r 0) (r 2) m) (tr (X7 (Xc (fun i r m=>Qz G i (r 6) (r 1) (r 0) (r 2) m) (fun _ _=>rfl) (fun i0=>tr (seqQ (f:=fun r m=>Qdt G (Qz G i0) (r 6) (r 1) (r 0) (r 2) m) (tr (X7 (seqQ (f:=fun r m=>Qds G (Qz G i0) (r 8) (r 1) (r 0) (r 7) (r 6) (r 2) m) (tr (tr (seqQ (f:=fun r m=>Qdq G (Qz G i0) (r 7) (r 6) (r 1) (r 0) (r 2) m) (tr (seqQ (f:=fun r m=>Q5y G (Qz G i0) (r 6) (r 1) (r 0) (r 2) m)))) (X7 (Xc (fun i r m=>Q5z G (Qz G i0) i (r 8) (r 1) (r 0) (r 7) (r 6) (r 2) m) (fun _ _=>rfl) (fun i1=>fun r m=>by kernel_rfl)))))))))))))))) (X7 (Xc (fun i r m=>Q5f G i (r 8) (r 1) (r 0) (r 7) (r 2) (r 6) m) (fun _ _=>rfl) (fun i0=>fun r m=>by kernel_rfl))))))))) m
def Qve:En:=⟨Qeo,Tryz.f360,Tryz.func360,by kernel_rfl,arg3 (fun G a0 a1 a2 m=>Q6n G a1 a0 a2 m),Xr Qvd⟩
end
end Go.Ab.Sh
