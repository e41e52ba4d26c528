/-
  Functions of the program as plain definitions. No conditions.
-/
import Derived.Test.YtfdlocphbipadaaGreatDoorAb5
import Derived.Test.YtfdlocphbipadaaGreatDoorZ
import Derived.KernelRfl
import Derived.Test.YtfdlocphbipadaaGreatDoorProg
set_option linter.unusedVariables false
set_option maxRecDepth 100000
namespace Go.Ab.Sh
open Go Go.Ab Go.Proofs
noncomputable section
def Q7b (G:Gt)(k0:J7)(p97 p0 p1 p2 p13 p4 p3 p10 p11 p12:V)(m:M):R:=brb p97 (bp (G.tab Qsj [p0,p1,p2,p13,p4] m) fun x0 m=>k0 p2 x0 p0 p4 p3 p10 p11 m) (bp (G.tab Q10w [p0,p1,p2,p13,p4] m) fun x1 m=>bp (pur (X5 x1 0) m) fun x2 m=>bp (pur (X5 x1 1) m) fun x3 m=>bp (pur (bin .sub false true .int x2 p1) m) fun x4 m=>bp (pur (bin .sub false true .int p2 x2) m) fun x5 m=>bp (pur (bin .quo true true .int p12 (.int .i64 8)) m) fun x6 m=>bp (pur (bin .lss false true .int x4 x5) m) fun x7 m=>brb x7 (bp (pur (bin .geq false true .int x4 x6) m) fun x8 m=>bp (G.tab Q4y [p0,p1,x2,p3,p4] m) fun x9 m=>bp (pur (bin .add true true .int x2 (.int .i64 1)) m) fun x10 m=>k0 p2 x10 p0 p4 p3 x8 x3 m) (bp (pur (bin .geq false true .int x5 x6) m) fun x11 m=>bp (pur (bin .add true true .int x2 (.int .i64 1)) m) fun x12 m=>bp (G.tab Q4y [p0,x12,p2,p3,p4] m) fun x13 m=>k0 x2 p1 p0 p4 p3 x11 x3 m))
def Q8a (G:Gt)(k0:J7)(p1 p4 p0 p13 p2 p3 p10 p11 p12:V)(m:M):R:=bp (pur (bin .gtr true true .int p1 (.int .i64 0)) m) fun x14 m=>brt x14 (bp (pur (bin .sub true true .int p1 (.int .i64 1)) m) fun x15 m=>bp (pur (X3 9 p0 x15) m) fun x16 m=>bp (pur (X4 true 9 x16 m) m) fun x17 m=>bp (pur (X3 9 p0 p13) m) fun x18 m=>bp (pur (X4 true 9 x18 m) m) fun x19 m=>bp (Xj G.tab p4 [x17,x19] m) fun x20 m=>bp (pur (bin .lss true true .int x20 (.int .i64 0)) m) fun x21 m=>bp (pur (un .not x21) m) fun x22 m=>Q7b G k0 x22 p0 p1 p2 p13 p4 p3 p10 p11 p12 m) (Q7b G k0 (.bool false) p0 p1 p2 p13 p4 p3 p10 p11 p12 m) (none)
def Q3z (G:Gt)(k0:J7)(p75 p0 p1 p2 p4 p13 p3 p10 p11 p12:V)(m:M):R:=brb p75 (bp (G.tab Qmq [p0,p1,p2,p4] m) fun x23 m=>brb x23 (some (.tuple ⟨[]⟩,m)) (Q8a G k0 p1 p4 p0 p13 p2 p3 p10 p11 p12 m)) (Q8a G k0 p1 p4 p0 p13 p2 p3 p10 p11 p12 m)
def Q8b (G:Gt)(k0:J7)(p10 p11 p14 p0 p1 p2 p4 p13 p3 p12:V)(m:M):R:=brb p10 (brb p11 (bp (pur (bin .eql true true .int p14 (.int .i64 1)) m) fun x24 m=>Q3z G k0 x24 p0 p1 p2 p4 p13 p3 p10 p11 p12 m) (Q3z G k0 (.bool false) p0 p1 p2 p4 p13 p3 p10 p11 p12 m)) (Q3z G k0 (.bool false) p0 p1 p2 p4 p13 p3 p10 p11 p12 m)
def Qhm (G:Gt)(k0:J7)(p14 p0 p1 p2 p4 p13 p10 p11 p3 p12:V)(m:M):R:=bp (pur (bin .eql true true .int p14 (.int .i64 2)) m) fun x25 m=>brb x25 (bp (G.tab Qvr [p0,p1,p2,p4] m) fun x26 m=>bp (pur (bin .sub true true .int p2 (.int .i64 1)) m) fun x27 m=>bp (pur (bin .sub false true .int p13 p1) m) fun x28 m=>bp (pur (bin .sub false true .int x27 x28) m) fun x29 m=>Q8b G k0 p10 p11 (.int .i64 1) p0 p1 p2 p4 x29 p3 p12 m) (Q8b G k0 p10 p11 p14 p0 p1 p2 p4 p13 p3 p12 m)
def Q8c (G:Gt)(k0:J7)(p0 p1 p2 p4 p10 p11 p3 p12:V)(m:M):R:=bp (G.tab Qwu [p0,p1,p2,p4] m) fun x30 m=>bp (pur (X5 x30 0) m) fun x31 m=>bp (pur (X5 x30 1) m) fun x32 m=>Qhm G k0 x32 p0 p1 p2 p4 x31 p10 p11 p3 p12 m
def Qhn (G:Gt)(k0:J7)(p10 p0 p1 p2 p4 p3 p11 p12:V)(m:M):R:=bp (pur (un .not p10) m) fun x33 m=>brb x33 (bp (G.tab Qu6 [p0,p1,p2,p4] m) fun x34 m=>bp (pur (bin .sub true true .int p3 (.int .i64 1)) m) fun x35 m=>Q8c G k0 p0 p1 p2 p4 p10 p11 x35 p12 m) (Q8c G k0 p0 p1 p2 p4 p10 p11 p3 p12 m)
def Qho (G:Gt)(k0:J7)(p3 p0 p1 p2 p4 p10 p11 p12:V)(m:M):R:=bp (pur (bin .eql true true .int p3 (.int .i64 0)) m) fun x36 m=>brb x36 (bp (G.tab Q12r [p0,p1,p2,p4] m) fun x37 m=>some (.tuple ⟨[]⟩,m)) (Qhn G k0 p10 p0 p1 p2 p4 p3 p11 p12 m)
def Qhp (G:Gt)(k0:J7)(p12 p0 p1 p2 p4 p3 p10 p11:V)(m:M):R:=bp (pur (bin .leq true true .int p12 (.int .i64 12)) m) fun x38 m=>brb x38 (bp (G.tab Qef [p0,p1,p2,p4] m) fun x39 m=>some (.tuple ⟨[]⟩,m)) (Qho G k0 p3 p0 p1 p2 p4 p10 p11 p12 m)
def Qd (G:Gt):Nat→V→V→V→V→V→V→V→M→R
 | 0,_,_,_,_,_,_,_,_=>none
 | i + 1,p2,p1,p0,p4,p3,p10,p11,m=>bp (pur (bin .sub false true .int p2 p1) m) fun x40 m=>Qhp G (Qd G i) x40 p0 p1 p2 p4 p3 p10 p11 m
def Qhq (G:Gt)(p2 p1 p0 p4 p3 p10 p11:V)(m:M):R:=Qd G G.rds p2 p1 p0 p4 p3 p10 p11 m
def Qhr (G:Gt)(p2 p1 p0 p4 p3 p10:V)(m:M):R:=Qhq G p2 p1 p0 p4 p3 p10 (.bool true) m
def Q9e (G:Gt)(p2 p1 p0 p4 p3:V)(m:M):R:=Qhr G p2 p1 p0 p4 p3 (.bool true) m
theorem Q15k (G:Gt)(a0 a1 a2 a3 a4:V)(m:M):ef G Tryz.f511 [a0,a1,a2,a3,a4] m = Q9e G a2 a1 a0 a4 a3 m:=X6 (r:=fun r m=>Q9e G (r 2) (r 1) (r 0) (r 4) (r 3) m) rfl rfl (tr (seqQ (f:=fun r m=>Qhr G (r 2) (r 1) (r 0) (r 4) (r 3) (r 10) m) (tr (seqQ (f:=fun r m=>Qhq G (r 2) (r 1) (r 0) (r 4) (r 3) (r 10) (r 11) m) (tr (X9 (Xb (fun i r m=>Qd G i (r 2) (r 1) (r 0) (r 4) (r 3) (r 10) (r 11) m) (fun _ _=>rfl) (fun i0=>tr (X9 (seqQ (f:=fun r m=>Qhp G (Qd G i0) (r 12) (r 0) (r 1) (r 2) (r 4) (r 3) (r 10) (r 11) m) (tr (seqQ (f:=fun r m=>Qho G (Qd G i0) (r 3) (r 0) (r 1) (r 2) (r 4) (r 10) (r 11) (r 12) m) (tr (seqQ (f:=fun r m=>Qhn G (Qd G i0) (r 10) (r 0) (r 1) (r 2) (r 4) (r 3) (r 11) (r 12) m) (tr (seqQ (f:=fun r m=>Q8c G (Qd G i0) (r 0) (r 1) (r 2) (r 4) (r 10) (r 11) (r 3) (r 12) m) (tr (seqQ (f:=fun r m=>Qhm G (Qd G i0) (r 14) (r 0) (r 1) (r 2) (r 4) (r 13) (r 10) (r 11) (r 3) (r 12) m) (tr (seqQ (f:=fun r m=>Q8b G (Qd G i0) (r 10) (r 11) (r 14) (r 0) (r 1) (r 2) (r 4) (r 13) (r 3) (r 12) m) (tr (tr (seqQ (f:=fun r m=>Q8a G (Qd G i0) (r 1) (r 4) (r 0) (r 13) (r 2) (r 3) (r 10) (r 11) (r 12) m) (tr (tr seqD (seqQ (f:=fun r m=>Q7b G (Qd G i0) (r 97) (r 0) (r 1) (r 2) (r 13) (r 4) (r 3) (r 10) (r 11) (r 12) m))))) (seqQ (f:=fun r m=>Q3z G (Qd G i0) (r 75) (r 0) (r 1) (r 2) (r 4) (r 13) (r 3) (r 10) (r 11) (r 12) m)))))))))))))))))))))))) m
def Q15l:En:=⟨Q4y,Tryz.f511,Tryz.func511,by kernel_rfl,arg5 (fun G a0 a1 a2 a3 a4 m=>Q9e G a2 a1 a0 a4 a3 m),X35 Q15k⟩
def Qd2 (G:Gt)(k0:J5)(p8 p2 p1 p3 p0:V)(m:M):R:=bp (pur (bin .add true true .int p8 (.int .i64 1)) m) fun x0 m=>k0 x0 p2 p1 p3 p0 m
def Q59 (G:Gt)(k1:J6)(k0:J5)(p34 p0 p9 p1 p3 p8 p2:V)(m:M):R:=brb p34 (bp (pur (bin .sub true true .int p9 (.int .i64 1)) m) fun x1 m=>bp (pur (bin .sub true true .int p9 (.int .i64 1)) m) fun x2 m=>bp (pur (X3 9 p0 x2) m) fun x3 m=>bp (pur (X4 true 9 x3 m) m) fun x4 m=>bp (pur (X3 9 p0 p9) m) fun x5 m=>bp (pur (X4 true 9 x5 m) m) fun x6 m=>bp (pur (X3 9 p0 p9) m) fun x7 m=>bp (unt (X8 9 x7 x4 m)) fun _ m=>bp (pur (X3 9 p0 x1) m) fun x8 m=>bp (unt (X8 9 x8 x6 m)) fun _ m=>bp (pur (bin .sub true true .int p9 (.int .i64 1)) m) fun x9 m=>k1 x9 p1 p3 p0 p8 p2 m) (Qd2 G k0 p8 p2 p1 p3 p0 m)
def Q25 (G:Gt)(k0:J5):Nat→V→V→V→V→V→V→M→R
 | 0,_,_,_,_,_,_,_=>none
 | i + 1,p9,p1,p3,p0,p8,p2,m=>bp (pur (bin .gtr false true .int p9 p1) m) fun x10 m=>brt x10 (bp (pur (X3 9 p0 p9) m) fun x11 m=>bp (pur (X4 true 9 x11 m) m) fun x12 m=>bp (pur (bin .sub true true .int p9 (.int .i64 1)) m) fun x13 m=>bp (pur (X3 9 p0 x13) m) fun x14 m=>bp (pur (X4 true 9 x14 m) m) fun x15 m=>bp (Xj G.tab p3 [x12,x15] m) fun x16 m=>bp (pur (bin .lss true true .int x16 (.int .i64 0)) m) fun x17 m=>Q59 G (Q25 G k0 i) k0 x17 p0 p9 p1 p3 p8 p2 m) (Q59 G (Q25 G k0 i) k0 (.bool false) p0 p9 p1 p3 p8 p2 m) (none)
def Qd3 (G:Gt)(k0:J5)(p9 p1 p3 p0 p8 p2:V)(m:M):R:=Q25 G k0 G.rds p9 p1 p3 p0 p8 p2 m
def Qd4 (G:Gt)(k0:J5)(p8 p1 p3 p0 p2:V)(m:M):R:=Qd3 G k0 p8 p1 p3 p0 p8 p2 m
def Qr (G:Gt):Nat→V→V→V→V→V→M→R
 | 0,_,_,_,_,_,_=>none
 | i + 1,p8,p2,p1,p3,p0,m=>bp (pur (bin .lss false true .int p8 p2) m) fun x18 m=>brb x18 (Qd4 G (Qr G i) p8 p1 p3 p0 p2 m) (some (.tuple ⟨[]⟩,m))
def Qd5 (G:Gt)(p8 p2 p1 p3 p0:V)(m:M):R:=Qr G G.rds p8 p2 p1 p3 p0 m
def Q6c (G:Gt)(p1 p2 p3 p0:V)(m:M):R:=bp (pur (bin .add true true .int p1 (.int .i64 1)) m) fun x19 m=>Qd5 G x19 p2 p1 p3 p0 m
theorem Quf (G:Gt)(a0 a1 a2 a3:V)(m:M):ef G Tryz.f532 [a0,a1,a2,a3] m = Q6c G a1 a2 a3 a0 m:=X6 (r:=fun r m=>Q6c G (r 1) (r 2) (r 3) (r 0) m) rfl rfl (tr (seqQ (f:=fun r m=>Qd5 G (r 8) (r 2) (r 1) (r 3) (r 0) m) (tr (X9 (Xb (fun i r m=>Qr G i (r 8) (r 2) (r 1) (r 3) (r 0) m) (fun _ _=>rfl) (fun i0=>tr (seqQ (f:=fun r m=>Qd4 G (Qr G i0) (r 8) (r 1) (r 3) (r 0) (r 2) m) (tr (tr (seqQ (f:=fun r m=>Qd2 G (Qr G i0) (r 8) (r 2) (r 1) (r 3) (r 0) m)) (X9 (seqQ (f:=fun r m=>Qd3 G (Qr G i0) (r 9) (r 1) (r 3) (r 0) (r 8) (r 2) m) (tr (X9 (Xb (fun i r m=>Q25 G (Qr G i0) i (r 9) (r 1) (r 3) (r 0) (r 8) (r 2) m) (fun _ _=>rfl) (fun i1=>tr (tr seqD (seqQ (f:=fun r m=>Q59 G (Q25 G (Qr G i0) i1) (Qr G i0) (r 34) (r 0) (r 9) (r 1) (r 3) (r 8) (r 2) m)))))))))))))))))) m
def Qug:En:=⟨Qef,Tryz.f532,Tryz.func532,by kernel_rfl,arg4 (fun G a0 a1 a2 a3 m=>Q6c G a1 a2 a3 a0 m),X1c Quf⟩
end
end Go.Ab.Sh
