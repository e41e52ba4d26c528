/-
  Functions of the program as plain definitions. No conditions.
-/
import Derived.Test.YtfdlocphbipadaaGreatDoorAb5
import Derived.Test.YtfdlocphbipadaaGreatDoorZ
import Derived.KernelRfl
import Derived.Test.YtfdlocphbipadaaGreatDoorProg
set_option linter.unusedVariables false
set_option maxRecDepth 100000
namespace Go.Ab.Sh
open Go Go.Ab Go.Proofs
noncomputable section
def Qkd (G:Gt)(p5:V)(m:M):R:=some (p5,m)
def Q9u (G:Gt):Nat→V→V→V→V→V→M→R
 | 0,_,_,_,_,_,_=>none
 | i + 1,p10,p9,p8,p5,p1,m=>bp (pur (bin .lss false true .int p10 p9) m) fun x0 m=>brb x0 (bp (pur (X3 2 p8 p10) m) fun x1 m=>bp (pur (X4 true 2 x1 m) m) fun x2 m=>bp (some (aNew Q4v Q6u m)) fun x3 m=>bp (unt (X8 2 x3 x2 m)) fun _ m=>bp (pur (X4 true 2 x3 m) m) fun x4 m=>bp (Xj G.tab p1 [x4] m) fun x5 m=>bp (Xa Q4v Q6u 2 1 [(0,x5)] m) fun x6 m=>bp (apS Q4v 2 40 p5 x6 m) fun x7 m=>bp (pur (bin .add true true .int p10 (.int .i64 1)) m) fun x8 m=>(Q9u G i) x8 p9 p8 x7 p1 m) (Qkd G p5 m)
def Qke (G:Gt)(p10 p9 p8 p5 p1:V)(m:M):R:=Q9u G G.rds p10 p9 p8 p5 p1 m
def Qkf (G:Gt)(p0 p5 p1:V)(m:M):R:=bp (pur (lenK 1 p0 m) m) fun x9 m=>Qke G (.int .i64 0) x9 p0 p5 p1 m
def Qkg (G:Gt)(p0 p1:V)(m:M):R:=Qkf G p0 (.slice none 0 0) p1 m
def Qd8 (G:Gt)(p0 p1:V)(m:M):R:=Qkg G p0 p1 m
theorem Q1dp (G:Gt)(a0 a1:V)(m:M):ef G Tryz.f249 [a0,a1] m = Qd8 G a0 a1 m:=X6 (r:=fun r m=>Qd8 G (r 0) (r 1) m) rfl rfl (tr (seqQ (f:=fun r m=>Qkg G (r 0) (r 1) m) (tr (seqQ (f:=fun r m=>Qkf G (r 0) (r 5) (r 1) m) (tr (tr (seqQ (f:=fun r m=>Qkd G (r 5) m)) (seqQ (f:=fun r m=>Qke G (r 10) (r 9) (r 8) (r 5) (r 1) m) (tr (X9 (Xb (fun i r m=>Q9u G i (r 10) (r 9) (r 8) (r 5) (r 1) m) (fun _ _=>rfl) (fun i0=>fun r m=>by kernel_rfl))))))))))) m
def Q1dq:En:=⟨Qms,Tryz.f249,Tryz.func249,by kernel_rfl,arg2 Qd8,Xg Q1dp⟩
def Qv7 (G:Gt)(p5:V)(m:M):R:=some (p5,m)
def Qio (G:Gt):Nat→V→V→V→V→V→M→R
 | 0,_,_,_,_,_,_=>none
 | i + 1,p10,p9,p8,p5,p1,m=>bp (pur (bin .lss false true .int p10 p9) m) fun x0 m=>brb x0 (bp (pur (X3 3 p8 p10) m) fun x1 m=>bp (pur (X4 true 3 x1 m) m) fun x2 m=>bp (some (aNew Qla Qqh m)) fun x3 m=>bp (unt (X8 3 x3 x2 m)) fun _ m=>bp (pur (X4 true 3 x3 m) m) fun x4 m=>bp (Xj G.tab p1 [x4] m) fun x5 m=>bp (Xa Qla Qqh 3 1 [(0,x5)] m) fun x6 m=>bp (apS Qla 3 48 p5 x6 m) fun x7 m=>bp (pur (bin .add true true .int p10 (.int .i64 1)) m) fun x8 m=>(Qio G i) x8 p9 p8 x7 p1 m) (Qv7 G p5 m)
def Qv8 (G:Gt)(p10 p9 p8 p5 p1:V)(m:M):R:=Qio G G.rds p10 p9 p8 p5 p1 m
def Qv9 (G:Gt)(p0 p5 p1:V)(m:M):R:=bp (pur (lenK 1 p0 m) m) fun x9 m=>Qv8 G (.int .i64 0) x9 p0 p5 p1 m
def Qva (G:Gt)(p0 p1:V)(m:M):R:=Qv9 G p0 (.slice none 0 0) p1 m
def Qlb (G:Gt)(p0 p1:V)(m:M):R:=Qva G p0 p1 m
theorem Q1ov (G:Gt)(a0 a1:V)(m:M):ef G Tryz.f254 [a0,a1] m = Qlb G a0 a1 m:=X6 (r:=fun r m=>Qlb G (r 0) (r 1) m) rfl rfl (tr (seqQ (f:=fun r m=>Qva G (r 0) (r 1) m) (tr (seqQ (f:=fun r m=>Qv9 G (r 0) (r 5) (r 1) m) (tr (tr (seqQ (f:=fun r m=>Qv7 G (r 5) m)) (seqQ (f:=fun r m=>Qv8 G (r 10) (r 9) (r 8) (r 5) (r 1) m) (tr (X9 (Xb (fun i r m=>Qio G i (r 10) (r 9) (r 8) (r 5) (r 1) m) (fun _ _=>rfl) (fun i0=>fun r m=>by kernel_rfl))))))))))) m
def Q1ow:En:=⟨Qzc,Tryz.f254,Tryz.func254,by kernel_rfl,arg2 Qlb,Xg Q1ov⟩
def Qzd (G:Gt)(p5:V)(m:M):R:=some (p5,m)
def Qlc (G:Gt):Nat→V→V→V→V→V→M→R
 | 0,_,_,_,_,_,_=>none
 | i + 1,p10,p9,p8,p5,p1,m=>bp (pur (bin .lss false true .int p10 p9) m) fun x0 m=>brb x0 (bp (pur (X3 3 p8 p10) m) fun x1 m=>bp (pur (X4 true 3 x1 m) m) fun x2 m=>bp (some (aNew Qta Q12m m)) fun x3 m=>bp (unt (X8 3 x3 x2 m)) fun _ m=>bp (pur (X4 true 3 x3 m) m) fun x4 m=>bp (Xj G.tab p1 [x4] m) fun x5 m=>bp (Xa Qta Q12m 3 1 [(0,x5)] m) fun x6 m=>bp (apS Qta 3 48 p5 x6 m) fun x7 m=>bp (pur (bin .add true true .int p10 (.int .i64 1)) m) fun x8 m=>(Qlc G i) x8 p9 p8 x7 p1 m) (Qzd G p5 m)
def Qze (G:Gt)(p10 p9 p8 p5 p1:V)(m:M):R:=Qlc G G.rds p10 p9 p8 p5 p1 m
def Qzf (G:Gt)(p0 p5 p1:V)(m:M):R:=bp (pur (lenK 1 p0 m) m) fun x9 m=>Qze G (.int .i64 0) x9 p0 p5 p1 m
def Qzg (G:Gt)(p0 p1:V)(m:M):R:=Qzf G p0 (.slice none 0 0) p1 m
def Qog (G:Gt)(p0 p1:V)(m:M):R:=Qzg G p0 p1 m
theorem Q1rt (G:Gt)(a0 a1:V)(m:M):ef G Tryz.f258 [a0,a1] m = Qog G a0 a1 m:=X6 (r:=fun r m=>Qog G (r 0) (r 1) m) rfl rfl (tr (seqQ (f:=fun r m=>Qzg G (r 0) (r 1) m) (tr (seqQ (f:=fun r m=>Qzf G (r 0) (r 5) (r 1) m) (tr (tr (seqQ (f:=fun r m=>Qzd G (r 5) m)) (seqQ (f:=fun r m=>Qze G (r 10) (r 9) (r 8) (r 5) (r 1) m) (tr (X9 (Xb (fun i r m=>Qlc G i (r 10) (r 9) (r 8) (r 5) (r 1) m) (fun _ _=>rfl) (fun i0=>fun r m=>by kernel_rfl))))))))))) m
def Q1ru:En:=⟨Q15t,Tryz.f258,Tryz.func258,by kernel_rfl,arg2 Qog,Xg Q1rt⟩
def Q12x (G:Gt)(p5:V)(m:M):R:=some (p5,m)
def Qn2 (G:Gt):Nat→V→V→V→V→V→M→R
 | 0,_,_,_,_,_,_=>none
 | i + 1,p10,p9,p8,p5,p1,m=>bp (pur (bin .lss false true .int p10 p9) m) fun x0 m=>brb x0 (bp (pur (X3 6 p8 p10) m) fun x1 m=>bp (pur (X4 true 6 x1 m) m) fun x2 m=>bp (some (aNew Qss Q1aj m)) fun x3 m=>bp (unt (X8 6 x3 x2 m)) fun _ m=>bp (pur (X4 true 6 x3 m) m) fun x4 m=>bp (Xj G.tab p1 [x4] m) fun x5 m=>bp (Xa Qss Q1aj 6 1 [(0,x5)] m) fun x6 m=>bp (apS Qss 6 96 p5 x6 m) fun x7 m=>bp (pur (bin .add true true .int p10 (.int .i64 1)) m) fun x8 m=>(Qn2 G i) x8 p9 p8 x7 p1 m) (Q12x G p5 m)
def Q12y (G:Gt)(p10 p9 p8 p5 p1:V)(m:M):R:=Qn2 G G.rds p10 p9 p8 p5 p1 m
def Q12z (G:Gt)(p0 p5 p1:V)(m:M):R:=bp (pur (lenK 1 p0 m) m) fun x9 m=>Q12y G (.int .i64 0) x9 p0 p5 p1 m
def Q130 (G:Gt)(p0 p1:V)(m:M):R:=Q12z G p0 (.slice none 0 0) p1 m
def Qqi (G:Gt)(p0 p1:V)(m:M):R:=Q130 G p0 p1 m
theorem Q1tf (G:Gt)(a0 a1:V)(m:M):ef G Tryz.f261 [a0,a1] m = Qqi G a0 a1 m:=X6 (r:=fun r m=>Qqi G (r 0) (r 1) m) rfl rfl (tr (seqQ (f:=fun r m=>Q130 G (r 0) (r 1) m) (tr (seqQ (f:=fun r m=>Q12z G (r 0) (r 5) (r 1) m) (tr (tr (seqQ (f:=fun r m=>Q12x G (r 5) m)) (seqQ (f:=fun r m=>Q12y G (r 10) (r 9) (r 8) (r 5) (r 1) m) (tr (X9 (Xb (fun i r m=>Qn2 G i (r 10) (r 9) (r 8) (r 5) (r 1) m) (fun _ _=>rfl) (fun i0=>fun r m=>by kernel_rfl))))))))))) m
def Q1tg:En:=⟨Q1ak,Tryz.f261,Tryz.func261,by kernel_rfl,arg2 Qqi,Xg Q1tf⟩
def Q97 (G:Gt)(k0:J6)(p87 p0 p1 p2 p11 p3 p8 p9 p10:V)(m:M):R:=brb p87 (bp (G.tab Qvw [p0,p1,p2,p11] m) fun x0 m=>k0 p2 x0 p0 p3 p8 p9 m) (bp (G.tab Q15u [p0,p1,p2,p11] m) fun x1 m=>bp (pur (X5 x1 0) m) fun x2 m=>bp (pur (X5 x1 1) m) fun x3 m=>bp (pur (bin .sub false true .int x2 p1) m) fun x4 m=>bp (pur (bin .sub false true .int p2 x2) m) fun x5 m=>bp (pur (bin .quo true true .int p10 (.int .i64 8)) m) fun x6 m=>bp (pur (bin .lss false true .int x4 x5) m) fun x7 m=>brb x7 (bp (pur (bin .geq false true .int x4 x6) m) fun x8 m=>bp (G.tab Q6n [p0,p1,x2,p3] m) fun x9 m=>bp (pur (bin .add true true .int x2 (.int .i64 1)) m) fun x10 m=>k0 p2 x10 p0 p3 x8 x3 m) (bp (pur (bin .geq false true .int x5 x6) m) fun x11 m=>bp (pur (bin .add true true .int x2 (.int .i64 1)) m) fun x12 m=>bp (G.tab Q6n [p0,x12,p2,p3] m) fun x13 m=>k0 x2 p1 p0 p3 x11 x3 m))
def Q9v (G:Gt)(k0:J6)(p1 p0 p11 p2 p3 p8 p9 p10:V)(m:M):R:=bp (pur (bin .gtr true true .int p1 (.int .i64 0)) m) fun x14 m=>brt x14 (bp (pur (bin .sub true true .int p1 (.int .i64 1)) m) fun x15 m=>bp (pur (X3 1 p0 x15) m) fun x16 m=>bp (pur (X4 false 1 x16 m) m) fun x17 m=>bp (pur (X3 1 p0 p11) m) fun x18 m=>bp (pur (X4 false 1 x18 m) m) fun x19 m=>bp (G.tab Q1k8 [x17,x19] m) fun x20 m=>bp (pur (un .not x20) m) fun x21 m=>Q97 G k0 x21 p0 p1 p2 p11 p3 p8 p9 p10 m) (Q97 G k0 (.bool false) p0 p1 p2 p11 p3 p8 p9 p10 m) (none)
def Q4w (G:Gt)(k0:J6)(p68 p0 p1 p2 p11 p3 p8 p9 p10:V)(m:M):R:=brb p68 (bp (G.tab Qoh [p0,p1,p2] m) fun x22 m=>brb x22 (some (.tuple ⟨[]⟩,m)) (Q9v G k0 p1 p0 p11 p2 p3 p8 p9 p10 m)) (Q9v G k0 p1 p0 p11 p2 p3 p8 p9 p10 m)
def Q9w (G:Gt)(k0:J6)(p8 p9 p12 p0 p1 p2 p11 p3 p10:V)(m:M):R:=brb p8 (brb p9 (bp (pur (bin .eql true true .int p12 (.int .i64 1)) m) fun x23 m=>Q4w G k0 x23 p0 p1 p2 p11 p3 p8 p9 p10 m) (Q4w G k0 (.bool false) p0 p1 p2 p11 p3 p8 p9 p10 m)) (Q4w G k0 (.bool false) p0 p1 p2 p11 p3 p8 p9 p10 m)
def Qkh (G:Gt)(k0:J6)(p12 p0 p1 p2 p11 p8 p9 p3 p10:V)(m:M):R:=bp (pur (bin .eql true true .int p12 (.int .i64 2)) m) fun x24 m=>brb x24 (bp (G.tab Qzh [p0,p1,p2] m) fun x25 m=>bp (pur (bin .sub true true .int p2 (.int .i64 1)) m) fun x26 m=>bp (pur (bin .sub false true .int p11 p1) m) fun x27 m=>bp (pur (bin .sub false true .int x26 x27) m) fun x28 m=>Q9w G k0 p8 p9 (.int .i64 1) p0 p1 p2 x28 p3 p10 m) (Q9w G k0 p8 p9 p12 p0 p1 p2 p11 p3 p10 m)
def Q9x (G:Gt)(k0:J6)(p0 p1 p2 p8 p9 p3 p10:V)(m:M):R:=bp (G.tab Q12n [p0,p1,p2] m) fun x29 m=>bp (pur (X5 x29 0) m) fun x30 m=>bp (pur (X5 x29 1) m) fun x31 m=>Qkh G k0 x31 p0 p1 p2 x30 p8 p9 p3 p10 m
def Qki (G:Gt)(k0:J6)(p8 p0 p1 p2 p3 p9 p10:V)(m:M):R:=bp (pur (un .not p8) m) fun x32 m=>brb x32 (bp (G.tab Qyv [p0,p1,p2] m) fun x33 m=>bp (pur (bin .sub true true .int p3 (.int .i64 1)) m) fun x34 m=>Q9x G k0 p0 p1 p2 p8 p9 x34 p10 m) (Q9x G k0 p0 p1 p2 p8 p9 p3 p10 m)
def Qkj (G:Gt)(k0:J6)(p3 p0 p1 p2 p8 p9 p10:V)(m:M):R:=bp (pur (bin .eql true true .int p3 (.int .i64 0)) m) fun x35 m=>brb x35 (bp (G.tab Q19l [p0,p1,p2] m) fun x36 m=>some (.tuple ⟨[]⟩,m)) (Qki G k0 p8 p0 p1 p2 p3 p9 p10 m)
def Qkk (G:Gt)(k0:J6)(p10 p0 p1 p2 p3 p8 p9:V)(m:M):R:=bp (pur (bin .leq true true .int p10 (.int .i64 12)) m) fun x37 m=>brb x37 (bp (G.tab Qfu [p0,p1,p2] m) fun x38 m=>some (.tuple ⟨[]⟩,m)) (Qkj G k0 p3 p0 p1 p2 p8 p9 p10 m)
def Qn (G:Gt):Nat→V→V→V→V→V→V→M→R
 | 0,_,_,_,_,_,_,_=>none
 | i + 1,p2,p1,p0,p3,p8,p9,m=>bp (pur (bin .sub false true .int p2 p1) m) fun x39 m=>Qkk G (Qn G i) x39 p0 p1 p2 p3 p8 p9 m
def Qkl (G:Gt)(p2 p1 p0 p3 p8 p9:V)(m:M):R:=Qn G G.rds p2 p1 p0 p3 p8 p9 m
def Qkm (G:Gt)(p2 p1 p0 p3 p8:V)(m:M):R:=Qkl G p2 p1 p0 p3 p8 (.bool true) m
def Qd9 (G:Gt)(p2 p1 p0 p3:V)(m:M):R:=Qkm G p2 p1 p0 p3 (.bool true) m
theorem Q1dr (G:Gt)(a0 a1 a2 a3:V)(m:M):ef G Tryz.f265 [a0,a1,a2,a3] m = Qd9 G a2 a1 a0 a3 m:=X6 (r:=fun r m=>Qd9 G (r 2) (r 1) (r 0) (r 3) m) rfl rfl (tr (seqQ (f:=fun r m=>Qkm G (r 2) (r 1) (r 0) (r 3) (r 8) m) (tr (seqQ (f:=fun r m=>Qkl G (r 2) (r 1) (r 0) (r 3) (r 8) (r 9) m) (tr (X9 (Xb (fun i r m=>Qn G i (r 2) (r 1) (r 0) (r 3) (r 8) (r 9) m) (fun _ _=>rfl) (fun i0=>tr (X9 (seqQ (f:=fun r m=>Qkk G (Qn G i0) (r 10) (r 0) (r 1) (r 2) (r 3) (r 8) (r 9) m) (tr (seqQ (f:=fun r m=>Qkj G (Qn G i0) (r 3) (r 0) (r 1) (r 2) (r 8) (r 9) (r 10) m) (tr (seqQ (f:=fun r m=>Qki G (Qn G i0) (r 8) (r 0) (r 1) (r 2) (r 3) (r 9) (r 10) m) (tr (seqQ (f:=fun r m=>Q9x G (Qn G i0) (r 0) (r 1) (r 2) (r 8) (r 9) (r 3) (r 10) m) (tr (seqQ (f:=fun r m=>Qkh G (Qn G i0) (r 12) (r 0) (r 1) (r 2) (r 11) (r 8) (r 9) (r 3) (r 10) m) (tr (seqQ (f:=fun r m=>Q9w G (Qn G i0) (r 8) (r 9) (r 12) (r 0) (r 1) (r 2) (r 11) (r 3) (r 10) m) (tr (tr (seqQ (f:=fun r m=>Q9v G (Qn G i0) (r 1) (r 0) (r 11) (r 2) (r 3) (r 8) (r 9) (r 10) m) (tr (tr seqD (seqQ (f:=fun r m=>Q97 G (Qn G i0) (r 87) (r 0) (r 1) (r 2) (r 11) (r 3) (r 8) (r 9) (r 10) m))))) (seqQ (f:=fun r m=>Q4w G (Qn G i0) (r 68) (r 0) (r 1) (r 2) (r 11) (r 3) (r 8) (r 9) (r 10) m)))))))))))))))))))))))) m
def Q1ds:En:=⟨Q6n,Tryz.f265,Tryz.func265,by kernel_rfl,arg4 (fun G a0 a1 a2 a3 m=>Qd9 G a2 a1 a0 a3 m),X1c Q1dr⟩
def Q40 (G:Gt)(p0 p1:V)(m:M):R:=bp (pur (lenK 1 p0 m) m) fun x0 m=>bp (G.tab Qkn [p0,x0,p1] m) fun x1 m=>some (.tuple ⟨[]⟩,m)
theorem Qn3 (G:Gt)(a0 a1:V)(m:M):ef G Tryz.f266 [a0,a1] m = Q40 G a0 a1 m:=X6 (r:=fun r m=>Q40 G (r 0) (r 1) m) rfl rfl (fun r m=>by kernel_rfl) m
def Qn4:En:=⟨Q91,Tryz.f266,Tryz.func266,by kernel_rfl,arg2 Q40,Xg Qn3⟩
def Qgj (G:Gt)(p0 p1 p2:V)(m:M):R:=bp (some (aNew Q1l (Value.cells p0).toList m)) fun x0 m=>bp (some (aNew Q1l (Value.cells p1).toList m)) fun x1 m=>bp (pur (X4 false 1 p2 m) m) fun x2 m=>bp (pur (X4 true 11 x0 m) m) fun x3 m=>bp (pur (X4 false 1 p2 m) m) fun x4 m=>bp (pur (X4 true 11 x1 m) m) fun x5 m=>bp (Xj G.tab x2 [x3] m) fun x6 m=>ckB (again (pur (X4 false 1 p2 m) m) x4 && (again (pur (X4 true 11 x1 m) m) x5 && true)) (bp (Xj G.tab x4 [x5] m) fun x7 m=>bp (G.tab Q14u [x6,x7] m) fun x8 m=>some (x8,m))
theorem Q1k9 (G:Gt)(a0 a1 a2:V)(m:M):ef G Tryz.f267 [a0,a1,a2] m = Qgj G a0 a1 a2 m:=X6 (r:=fun r m=>Qgj G (r 0) (r 1) (r 2) m) rfl rfl (fun r m=>by kernel_rfl) m
def Q1ka:En:=⟨Qst,Tryz.f267,Tryz.func267,by kernel_rfl,arg3 Qgj,Xr Q1k9⟩
def Q3l (G:Gt)(p0 p1:V)(m:M):R:=bp (pur (lenK 1 p0 m) m) fun x0 m=>bp (G.tab Qiz [p0,x0,p1] m) fun x1 m=>some (.tuple ⟨[]⟩,m)
theorem Qld (G:Gt)(a0 a1:V)(m:M):ef G Tryz.f268 [a0,a1] m = Q3l G a0 a1 m:=X6 (r:=fun r m=>Q3l G (r 0) (r 1) m) rfl rfl (fun r m=>by kernel_rfl) m
def Qle:En:=⟨Q7q,Tryz.f268,Tryz.func268,by kernel_rfl,arg2 Q3l,Xg Qld⟩
def Q2p (G:Gt)(p0 p1:V)(m:M):R:=bp (pur (lenK 1 p0 m) m) fun x0 m=>bp (G.tab Qff [p0,x0,p1] m) fun x1 m=>some (.tuple ⟨[]⟩,m)
theorem Qfm (G:Gt)(a0 a1:V)(m:M):ef G Tryz.f270 [a0,a1] m = Q2p G a0 a1 m:=X6 (r:=fun r m=>Q2p G (r 0) (r 1) m) rfl rfl (fun r m=>by kernel_rfl) m
def Qfn:En:=⟨Q51,Tryz.f270,Tryz.func270,by kernel_rfl,arg2 Q2p,Xg Qfm⟩
def Q26 (G:Gt)(p0 p1:V)(m:M):R:=bp (pur (lenK 1 p0 m) m) fun x0 m=>bp (G.tab Qdh [p0,x0,p1] m) fun x1 m=>some (.tuple ⟨[]⟩,m)
theorem Qda (G:Gt)(a0 a1:V)(m:M):ef G Tryz.f272 [a0,a1] m = Q26 G a0 a1 m:=X6 (r:=fun r m=>Q26 G (r 0) (r 1) m) rfl rfl (fun r m=>by kernel_rfl) m
def Qdb:En:=⟨Q3x,Tryz.f272,Tryz.func272,by kernel_rfl,arg2 Q26,Xg Qda⟩
def Q3m (G:Gt)(p0 p1:V)(m:M):R:=bp (pur (lenK 1 p0 m) m) fun x0 m=>bp (G.tab Qj0 [p0,x0,p1] m) fun x1 m=>some (.tuple ⟨[]⟩,m)
theorem Qlf (G:Gt)(a0 a1:V)(m:M):ef G Tryz.f274 [a0,a1] m = Q3m G a0 a1 m:=X6 (r:=fun r m=>Q3m G (r 0) (r 1) m) rfl rfl (fun r m=>by kernel_rfl) m
def Qlg:En:=⟨Q7r,Tryz.f274,Tryz.func274,by kernel_rfl,arg2 Q3m,Xg Qlf⟩
end
end Go.Ab.Sh

set_option linter.unusedVariables false
set_option maxRecDepth 100000
namespace Go.Ab.Sh
open Go Go.Ab Go.Proofs
noncomputable section
def Q7s (G:Gt)(k0:J4)(p6 p1 p0 p2:V)(m:M):R:=bp (pur (bin .mul true true .int p6 (.int .i64 2)) m) fun x0 m=>k0 x0 p1 p0 p2 m
def Qgk (G:Gt)(k0:J4)(p7 p6 p1 p0 p2:V)(m:M):R:=bp (pur (bin .add false true .int p7 p6) m) fun x1 m=>bp (pur (bin .lss false true .int x1 p1) m) fun x2 m=>brb x2 (bp (G.tab Qgl [p0,p7,x1,p1,p2] m) fun x3 m=>Q7s G k0 p6 p1 p0 p2 m) (Q7s G k0 p6 p1 p0 p2 m)
def Q7t (G:Gt)(k0:J4):Nat→V→V→V→V→V→V→M→R
 | 0,_,_,_,_,_,_,_=>none
 | i + 1,p8,p1,p0,p7,p6,p2,m=>bp (pur (bin .leq false true .int p8 p1) m) fun x4 m=>brb x4 (bp (pur (bin .add false true .int p7 p6) m) fun x5 m=>bp (G.tab Qgl [p0,p7,x5,p8,p2] m) fun x6 m=>bp (pur (bin .mul true true .int (.int .i64 2) p6) m) fun x7 m=>bp (pur (bin .add false true .int p8 x7) m) fun x8 m=>(Q7t G k0 i) x8 p1 p0 p8 p6 p2 m) (Qgk G k0 p7 p6 p1 p0 p2 m)
def Qgm (G:Gt)(k0:J4)(p8 p1 p0 p7 p6 p2:V)(m:M):R:=Q7t G k0 G.rds p8 p1 p0 p7 p6 p2 m
def Qgn (G:Gt)(k0:J4)(p6 p1 p0 p2:V)(m:M):R:=bp (pur (bin .mul true true .int (.int .i64 2) p6) m) fun x9 m=>Qgm G k0 x9 p1 p0 (.int .i64 0) p6 p2 m
def Q17 (G:Gt):Nat→V→V→V→V→M→R
 | 0,_,_,_,_,_=>none
 | i + 1,p6,p1,p0,p2,m=>bp (pur (bin .lss false true .int p6 p1) m) fun x10 m=>brb x10 (Qgn G (Q17 G i) p6 p1 p0 p2 m) (some (.tuple ⟨[]⟩,m))
def Qgo (G:Gt)(p6 p1 p0 p2:V)(m:M):R:=Q17 G G.rds p6 p1 p0 p2 m
def Qgp (G:Gt)(p0 p7 p1 p2 p6:V)(m:M):R:=bp (G.tab Q5i [p0,p7,p1,p2] m) fun x11 m=>Qgo G p6 p1 p0 p2 m
def Q76 (G:Gt):Nat→V→V→V→V→V→V→M→R
 | 0,_,_,_,_,_,_,_=>none
 | i + 1,p8,p1,p0,p7,p2,p6,m=>bp (pur (bin .leq false true .int p8 p1) m) fun x12 m=>brb x12 (bp (G.tab Q5i [p0,p7,p8,p2] m) fun x13 m=>bp (pur (bin .add false true .int p8 p6) m) fun x14 m=>(Q76 G i) x14 p1 p0 p8 p2 p6 m) (Qgp G p0 p7 p1 p2 p6 m)
def Qgq (G:Gt)(p8 p1 p0 p7 p2 p6:V)(m:M):R:=Q76 G G.rds p8 p1 p0 p7 p2 p6 m
def Qgr (G:Gt)(p6 p1 p0 p2:V)(m:M):R:=Qgq G p6 p1 p0 (.int .i64 0) p2 p6 m
def Q98 (G:Gt)(p1 p0 p2:V)(m:M):R:=Qgr G (.int .i64 20) p1 p0 p2 m
theorem Q14v (G:Gt)(a0 a1 a2:V)(m:M):ef G Tryz.f276 [a0,a1,a2] m = Q98 G a1 a0 a2 m:=X6 (r:=fun r m=>Q98 G (r 1) (r 0) (r 2) m) rfl rfl (tr (seqQ (f:=fun r m=>Qgr G (r 6) (r 1) (r 0) (r 2) m) (tr (seqQ (f:=fun r m=>Qgq G (r 8) (r 1) (r 0) (r 7) (r 2) (r 6) m) (tr (tr (seqQ (f:=fun r m=>Qgp G (r 0) (r 7) (r 1) (r 2) (r 6) m) (tr (seqQ (f:=fun r m=>Qgo G (r 6) (r 1) (r 0) (r 2) m) (tr (X9 (Xb (fun i r m=>Q17 G i (r 6) (r 1) (r 0) (r 2) m) (fun _ _=>rfl) (fun i0=>tr (seqQ (f:=fun r m=>Qgn G (Q17 G i0) (r 6) (r 1) (r 0) (r 2) m) (tr (X9 (seqQ (f:=fun r m=>Qgm G (Q17 G i0) (r 8) (r 1) (r 0) (r 7) (r 6) (r 2) m) (tr (tr (seqQ (f:=fun r m=>Qgk G (Q17 G i0) (r 7) (r 6) (r 1) (r 0) (r 2) m) (tr (seqQ (f:=fun r m=>Q7s G (Q17 G i0) (r 6) (r 1) (r 0) (r 2) m)))) (X9 (Xb (fun i r m=>Q7t G (Q17 G i0) i (r 8) (r 1) (r 0) (r 7) (r 6) (r 2) m) (fun _ _=>rfl) (fun i1=>fun r m=>by kernel_rfl)))))))))))))))) (X9 (Xb (fun i r m=>Q76 G i (r 8) (r 1) (r 0) (r 7) (r 2) (r 6) m) (fun _ _=>rfl) (fun i0=>fun r m=>by kernel_rfl))))))))) m
def Q14w:En:=⟨Qj1,Tryz.f276,Tryz.func276,by kernel_rfl,arg3 (fun G a0 a1 a2 m=>Q98 G a1 a0 a2 m),Xr Q14v⟩
def Qn5 (G:Gt)(p0 p1:V)(m:M):R:=bp (G.tab Qqj [p0] m) fun x0 m=>bp (G.tab Qqj [p1] m) fun x1 m=>brb x0 (brb x1 (some ((.int .i64 0),m)) (some ((.int .i64 (-1)),m))) (brb x1 (some ((.int .i64 1),m)) (bp (pur (bin .lss false true .int p0 p1) m) fun x2 m=>brb x2 (some ((.int .i64 (-1)),m)) (bp (pur (bin .gtr false true .int p0 p1) m) fun x3 m=>brb x3 (some ((.int .i64 1),m)) (some ((.int .i64 0),m)))))
theorem Q1qe (G:Gt)(a0 a1:V)(m:M):ef G Tryz.f277 [a0,a1] m = Qn5 G a0 a1 m:=X6 (r:=fun r m=>Qn5 G (r 0) (r 1) m) rfl rfl (fun r m=>by kernel_rfl) m
def Q1qf:En:=⟨Q131,Tryz.f277,Tryz.func277,by kernel_rfl,arg2 Qn5,Xg Q1qe⟩
def Q7u (G:Gt)(k0:J4)(p6 p1 p0 p2:V)(m:M):R:=bp (pur (bin .mul true true .int p6 (.int .i64 2)) m) fun x0 m=>k0 x0 p1 p0 p2 m
def Qgs (G:Gt)(k0:J4)(p7 p6 p1 p0 p2:V)(m:M):R:=bp (pur (bin .add false true .int p7 p6) m) fun x1 m=>bp (pur (bin .lss false true .int x1 p1) m) fun x2 m=>brb x2 (bp (G.tab Qgt [p0,p7,x1,p1,p2] m) fun x3 m=>Q7u G k0 p6 p1 p0 p2 m) (Q7u G k0 p6 p1 p0 p2 m)
def Q7v (G:Gt)(k0:J4):Nat→V→V→V→V→V→V→M→R
 | 0,_,_,_,_,_,_,_=>none
 | i + 1,p8,p1,p0,p7,p6,p2,m=>bp (pur (bin .leq false true .int p8 p1) m) fun x4 m=>brb x4 (bp (pur (bin .add false true .int p7 p6) m) fun x5 m=>bp (G.tab Qgt [p0,p7,x5,p8,p2] m) fun x6 m=>bp (pur (bin .mul true true .int (.int .i64 2) p6) m) fun x7 m=>bp (pur (bin .add false true .int p8 x7) m) fun x8 m=>(Q7v G k0 i) x8 p1 p0 p8 p6 p2 m) (Qgs G k0 p7 p6 p1 p0 p2 m)
def Qgu (G:Gt)(k0:J4)(p8 p1 p0 p7 p6 p2:V)(m:M):R:=Q7v G k0 G.rds p8 p1 p0 p7 p6 p2 m
def Qgv (G:Gt)(k0:J4)(p6 p1 p0 p2:V)(m:M):R:=bp (pur (bin .mul true true .int (.int .i64 2) p6) m) fun x9 m=>Qgu G k0 x9 p1 p0 (.int .i64 0) p6 p2 m
def Q18 (G:Gt):Nat→V→V→V→V→M→R
 | 0,_,_,_,_,_=>none
 | i + 1,p6,p1,p0,p2,m=>bp (pur (bin .lss false true .int p6 p1) m) fun x10 m=>brb x10 (Qgv G (Q18 G i) p6 p1 p0 p2 m) (some (.tuple ⟨[]⟩,m))
def Qgw (G:Gt)(p6 p1 p0 p2:V)(m:M):R:=Q18 G G.rds p6 p1 p0 p2 m
def Qgx (G:Gt)(p0 p7 p1 p2 p6:V)(m:M):R:=bp (G.tab Q5j [p0,p7,p1,p2] m) fun x11 m=>Qgw G p6 p1 p0 p2 m
def Q77 (G:Gt):Nat→V→V→V→V→V→V→M→R
 | 0,_,_,_,_,_,_,_=>none
 | i + 1,p8,p1,p0,p7,p2,p6,m=>bp (pur (bin .leq false true .int p8 p1) m) fun x12 m=>brb x12 (bp (G.tab Q5j [p0,p7,p8,p2] m) fun x13 m=>bp (pur (bin .add false true .int p8 p6) m) fun x14 m=>(Q77 G i) x14 p1 p0 p8 p2 p6 m) (Qgx G p0 p7 p1 p2 p6 m)
def Qgy (G:Gt)(p8 p1 p0 p7 p2 p6:V)(m:M):R:=Q77 G G.rds p8 p1 p0 p7 p2 p6 m
def Qgz (G:Gt)(p6 p1 p0 p2:V)(m:M):R:=Qgy G p6 p1 p0 (.int .i64 0) p2 p6 m
def Q99 (G:Gt)(p1 p0 p2:V)(m:M):R:=Qgz G (.int .i64 20) p1 p0 p2 m
theorem Q14x (G:Gt)(a0 a1 a2:V)(m:M):ef G Tryz.f278 [a0,a1,a2] m = Q99 G a1 a0 a2 m:=X6 (r:=fun r m=>Q99 G (r 1) (r 0) (r 2) m) rfl rfl (tr (seqQ (f:=fun r m=>Qgz G (r 6) (r 1) (r 0) (r 2) m) (tr (seqQ (f:=fun r m=>Qgy G (r 8) (r 1) (r 0) (r 7) (r 2) (r 6) m) (tr (tr (seqQ (f:=fun r m=>Qgx G (r 0) (r 7) (r 1) (r 2) (r 6) m) (tr (seqQ (f:=fun r m=>Qgw G (r 6) (r 1) (r 0) (r 2) m) (tr (X9 (Xb (fun i r m=>Q18 G i (r 6) (r 1) (r 0) (r 2) m) (fun _ _=>rfl) (fun i0=>tr (seqQ (f:=fun r m=>Qgv G (Q18 G i0) (r 6) (r 1) (r 0) (r 2) m) (tr (X9 (seqQ (f:=fun r m=>Qgu G (Q18 G i0) (r 8) (r 1) (r 0) (r 7) (r 6) (r 2) m) (tr (tr (seqQ (f:=fun r m=>Qgs G (Q18 G i0) (r 7) (r 6) (r 1) (r 0) (r 2) m) (tr (seqQ (f:=fun r m=>Q7u G (Q18 G i0) (r 6) (r 1) (r 0) (r 2) m)))) (X9 (Xb (fun i r m=>Q7v G (Q18 G i0) i (r 8) (r 1) (r 0) (r 7) (r 6) (r 2) m) (fun _ _=>rfl) (fun i1=>fun r m=>by kernel_rfl)))))))))))))))) (X9 (Xb (fun i r m=>Q77 G i (r 8) (r 1) (r 0) (r 7) (r 2) (r 6) m) (fun _ _=>rfl) (fun i0=>fun r m=>by kernel_rfl))))))))) m
def Q14y:En:=⟨Qj2,Tryz.f278,Tryz.func278,by kernel_rfl,arg3 (fun G a0 a1 a2 m=>Q99 G a1 a0 a2 m),Xr Q14x⟩
def Qcc (G:Gt)(p0 p1:V)(m:M):R:=bp (G.tab Qav [p0,p1] m) fun x0 m=>some (x0,m)
theorem Q19m (G:Gt)(a0 a1:V)(m:M):ef G Tryz.f279 [a0,a1] m = Qcc G a0 a1 m:=X6 (r:=fun r m=>Qcc G (r 0) (r 1) m) rfl rfl (fun r m=>by kernel_rfl) m
def Q19n:En:=⟨Qlh,Tryz.f279,Tryz.func279,by kernel_rfl,arg2 Qcc,Xg Q19m⟩
def Q2a (G:Gt)(p5:V)(m:M):R:=some (p5,m)
def Qoi (G:Gt):Nat→V→V→V→M→R
 | 0,_,_,_,_=>none
 | i + 1,p6,p2,p5,m=>bp (pur (X0 3 p2) m) fun x3 m=>bp (pur (X4 false 1 x3 m) m) fun x4 m=>bp (pur (lenK 1 x4 m) m) fun x5 m=>bp (pur (bin .lss false true .int p6 x5) m) fun x6 m=>brb x6 (bp (pur (X0 3 p2) m) fun x7 m=>bp (pur (X4 false 1 x7 m) m) fun x8 m=>bp (pur (X3 11 x8 p6) m) fun x9 m=>bp (pur (X0 0 x9) m) fun x10 m=>bp (pur (X4 false 1 x10 m) m) fun x11 m=>bp (Xa Q50 [(.string ⟨#[]⟩)] 1 1 [(0,x11)] m) fun x12 m=>bp (apS Q50 1 16 p5 x12 m) fun x13 m=>bp (pur (bin .add true true .int p6 (.int .i64 1)) m) fun x14 m=>(Qoi G i) x14 p2 x13 m) (Q2a G p5 m)
def Q15v (G:Gt)(p6 p2 p5:V)(m:M):R:=Qoi G G.rds p6 p2 p5 m
def Qn6 (G:Gt):Nat→V→V→V→M→R
 | 0,_,_,_,_=>none
 | i + 1,p7,p2,p5,m=>bp (pur (X0 4 p2) m) fun x15 m=>bp (pur (X4 false 1 x15 m) m) fun x16 m=>bp (pur (lenK 1 x16 m) m) fun x17 m=>bp (pur (bin .lss false true .int p7 x17) m) fun x18 m=>brb x18 (bp (pur (X0 4 p2) m) fun x19 m=>bp (pur (X4 false 1 x19 m) m) fun x20 m=>bp (pur (X3 2 x20 p7) m) fun x21 m=>bp (pur (X0 0 x21) m) fun x22 m=>bp (pur (X4 false 1 x22 m) m) fun x23 m=>bp (Xa Q50 [(.string ⟨#[]⟩)] 1 1 [(0,x23)] m) fun x24 m=>bp (apS Q50 1 16 p5 x24 m) fun x25 m=>bp (pur (bin .add true true .int p7 (.int .i64 1)) m) fun x26 m=>(Qn6 G i) x26 p2 x25 m) (Q2a G p5 m)
def Q15w (G:Gt)(p7 p2 p5:V)(m:M):R:=Qn6 G G.rds p7 p2 p5 m
def Qn7 (G:Gt):Nat→V→V→V→M→R
 | 0,_,_,_,_=>none
 | i + 1,p8,p2,p5,m=>bp (pur (X0 7 p2) m) fun x27 m=>bp (pur (X4 false 1 x27 m) m) fun x28 m=>bp (pur (lenK 1 x28 m) m) fun x29 m=>bp (pur (bin .lss false true .int p8 x29) m) fun x30 m=>brb x30 (bp (pur (X0 7 p2) m) fun x31 m=>bp (pur (X4 false 1 x31 m) m) fun x32 m=>bp (pur (X3 2 x32 p8) m) fun x33 m=>bp (pur (X0 0 x33) m) fun x34 m=>bp (pur (X4 false 1 x34 m) m) fun x35 m=>bp (Xa Q50 [(.string ⟨#[]⟩)] 1 1 [(0,x35)] m) fun x36 m=>bp (apS Q50 1 16 p5 x36 m) fun x37 m=>bp (pur (bin .add true true .int p8 (.int .i64 1)) m) fun x38 m=>(Qn7 G i) x38 p2 x37 m) (Q2a G p5 m)
def Q132 (G:Gt)(p8 p2 p5:V)(m:M):R:=Qn7 G G.rds p8 p2 p5 m
def Qn8 (G:Gt):Nat→V→V→V→M→R
 | 0,_,_,_,_=>none
 | i + 1,p9,p2,p5,m=>bp (pur (X0 8 p2) m) fun x39 m=>bp (pur (X4 false 1 x39 m) m) fun x40 m=>bp (pur (lenK 1 x40 m) m) fun x41 m=>bp (pur (bin .lss false true .int p9 x41) m) fun x42 m=>brb x42 (bp (pur (X0 8 p2) m) fun x43 m=>bp (pur (X4 false 1 x43 m) m) fun x44 m=>bp (pur (X3 2 x44 p9) m) fun x45 m=>bp (pur (X0 0 x45) m) fun x46 m=>bp (pur (X4 false 1 x46 m) m) fun x47 m=>bp (Xa Q50 [(.string ⟨#[]⟩)] 1 1 [(0,x47)] m) fun x48 m=>bp (apS Q50 1 16 p5 x48 m) fun x49 m=>bp (pur (bin .add true true .int p9 (.int .i64 1)) m) fun x50 m=>(Qn8 G i) x50 p2 x49 m) (Q2a G p5 m)
def Q133 (G:Gt)(p9 p2 p5:V)(m:M):R:=Qn8 G G.rds p9 p2 p5 m
def Qn9 (G:Gt):Nat→V→V→V→M→R
 | 0,_,_,_,_=>none
 | i + 1,p10,p2,p5,m=>bp (pur (X0 9 p2) m) fun x51 m=>bp (pur (X4 false 1 x51 m) m) fun x52 m=>bp (pur (lenK 1 x52 m) m) fun x53 m=>bp (pur (bin .lss false true .int p10 x53) m) fun x54 m=>brb x54 (bp (pur (X0 9 p2) m) fun x55 m=>bp (pur (X4 false 1 x55 m) m) fun x56 m=>bp (pur (X3 3 x56 p10) m) fun x57 m=>bp (pur (X0 0 x57) m) fun x58 m=>bp (pur (X4 false 1 x58 m) m) fun x59 m=>bp (Xa Q50 [(.string ⟨#[]⟩)] 1 1 [(0,x59)] m) fun x60 m=>bp (apS Q50 1 16 p5 x60 m) fun x61 m=>bp (pur (bin .add true true .int p10 (.int .i64 1)) m) fun x62 m=>(Qn9 G i) x62 p2 x61 m) (Q2a G p5 m)
def Q134 (G:Gt)(p10 p2 p5:V)(m:M):R:=Qn9 G G.rds p10 p2 p5 m
def Qna (G:Gt):Nat→V→V→V→M→R
 | 0,_,_,_,_=>none
 | i + 1,p11,p2,p5,m=>bp (pur (X0 10 p2) m) fun x63 m=>bp (pur (X4 false 1 x63 m) m) fun x64 m=>bp (pur (lenK 1 x64 m) m) fun x65 m=>bp (pur (bin .lss false true .int p11 x65) m) fun x66 m=>brb x66 (bp (pur (X0 10 p2) m) fun x67 m=>bp (pur (X4 false 1 x67 m) m) fun x68 m=>bp (pur (X3 3 x68 p11) m) fun x69 m=>bp (pur (X0 0 x69) m) fun x70 m=>bp (pur (X4 false 1 x70 m) m) fun x71 m=>bp (Xa Q50 [(.string ⟨#[]⟩)] 1 1 [(0,x71)] m) fun x72 m=>bp (apS Q50 1 16 p5 x72 m) fun x73 m=>bp (pur (bin .add true true .int p11 (.int .i64 1)) m) fun x74 m=>(Qna G i) x74 p2 x73 m) (Q2a G p5 m)
def Q135 (G:Gt)(p11 p2 p5:V)(m:M):R:=Qna G G.rds p11 p2 p5 m
def Qnb (G:Gt):Nat→V→V→V→M→R
 | 0,_,_,_,_=>none
 | i + 1,p12,p2,p5,m=>bp (pur (X0 11 p2) m) fun x75 m=>bp (pur (X4 false 1 x75 m) m) fun x76 m=>bp (pur (lenK 1 x76 m) m) fun x77 m=>bp (pur (bin .lss false true .int p12 x77) m) fun x78 m=>brb x78 (bp (pur (X0 11 p2) m) fun x79 m=>bp (pur (X4 false 1 x79 m) m) fun x80 m=>bp (pur (X3 6 x80 p12) m) fun x81 m=>bp (pur (X0 0 x81) m) fun x82 m=>bp (pur (X4 false 1 x82 m) m) fun x83 m=>bp (Xa Q50 [(.string ⟨#[]⟩)] 1 1 [(0,x83)] m) fun x84 m=>bp (apS Q50 1 16 p5 x84 m) fun x85 m=>bp (pur (bin .add true true .int p12 (.int .i64 1)) m) fun x86 m=>(Qnb G i) x86 p2 x85 m) (Q2a G p5 m)
def Q136 (G:Gt)(p12 p2 p5:V)(m:M):R:=Qnb G G.rds p12 p2 p5 m
def Q137 (G:Gt)(p128 p2 p5:V)(m:M):R:=brb p128 (Q136 G (.int .i64 0) p2 p5 m) (Q2a G p5 m)
def Q138 (G:Gt)(p110 p2 p5 p13:V)(m:M):R:=brb p110 (Q135 G (.int .i64 0) p2 p5 m) (bp (pur (bin .eql true true .int p13 (.int .i64 11)) m) fun x87 m=>Q137 G x87 p2 p5 m)
def Q139 (G:Gt)(p92 p2 p5 p13:V)(m:M):R:=brb p92 (Q134 G (.int .i64 0) p2 p5 m) (bp (pur (bin .eql true true .int p13 (.int .i64 10)) m) fun x88 m=>Q138 G x88 p2 p5 p13 m)
def Q13a (G:Gt)(p74 p2 p5 p13:V)(m:M):R:=brb p74 (Q133 G (.int .i64 0) p2 p5 m) (bp (pur (bin .eql true true .int p13 (.int .i64 9)) m) fun x89 m=>Q139 G x89 p2 p5 p13 m)
def Q13b (G:Gt)(p56 p2 p5 p13:V)(m:M):R:=brb p56 (Q132 G (.int .i64 0) p2 p5 m) (bp (pur (bin .eql true true .int p13 (.int .i64 8)) m) fun x90 m=>Q13a G x90 p2 p5 p13 m)
def Q15x (G:Gt)(p38 p2 p5 p13:V)(m:M):R:=brb p38 (Q15w G (.int .i64 0) p2 p5 m) (bp (pur (bin .eql true true .int p13 (.int .i64 7)) m) fun x91 m=>Q13b G x91 p2 p5 p13 m)
def Q15y (G:Gt)(p20 p2 p5 p13:V)(m:M):R:=brb p20 (Q15v G (.int .i64 0) p2 p5 m) (bp (pur (bin .eql true true .int p13 (.int .i64 4)) m) fun x92 m=>Q15x G x92 p2 p5 p13 m)
def Q15z (G:Gt)(p14 p5 p2 p13:V)(m:M):R:=brb p14 (bp (pur (X0 2 p2) m) fun x0 m=>bp (pur (X4 false 1 x0 m) m) fun x1 m=>bp (apS Q50 1 16 p5 x1 m) fun x2 m=>Q2a G x2 m) (bp (pur (bin .eql true true .int p13 (.int .i64 3)) m) fun x93 m=>Q15y G x93 p2 p5 p13 m)
def Q160 (G:Gt)(p13 p5 p2:V)(m:M):R:=bp (pur (bin .eql true true .int p13 (.int .i64 2)) m) fun x94 m=>Q15z G x94 p5 p2 p13 m
def Q161 (G:Gt)(p1 p5 p2:V)(m:M):R:=Q160 G p1 p5 p2 m
def Q162 (G:Gt)(p1 p2:V)(m:M):R:=Q161 G p1 (.slice none 0 0) p2 m
def Qtb (G:Gt)(p0 p1:V)(m:M):R:=bp (some (aNew Q5 (Value.cells p0).toList m)) fun x95 m=>Q162 G p1 x95 m
theorem Q1vc (G:Gt)(a0 a1:V)(m:M):ef G Tryz.f280 [a0,a1] m = Qtb G a0 a1 m:=X6 (r:=fun r m=>Qtb G (r 0) (r 1) m) rfl rfl (tr (seqQ (f:=fun r m=>Q162 G (r 1) (r 2) m) (tr (seqQ (f:=fun r m=>Q161 G (r 1) (r 5) (r 2) m) (tr (tr (seqQ (f:=fun r m=>Q2a G (r 5) m)) (seqQ (f:=fun r m=>Q160 G (r 13) (r 5) (r 2) m) (tr (X9 (seqQ (f:=fun r m=>Q15z G (r 14) (r 5) (r 2) (r 13) m) (tr (X1s (refQ) (seqQ (f:=fun r m=>Q15y G (r 20) (r 2) (r 5) (r 13) m) (tr (X1s (seqQ (f:=fun r m=>Q15v G (r 6) (r 2) (r 5) m) (tr (X9 (Xb (fun i r m=>Qoi G i (r 6) (r 2) (r 5) m) (fun _ _=>rfl) (fun i0=>fun r m=>by kernel_rfl))))) (seqQ (f:=fun r m=>Q15x G (r 38) (r 2) (r 5) (r 13) m) (tr (X1s (seqQ (f:=fun r m=>Q15w G (r 7) (r 2) (r 5) m) (tr (X9 (Xb (fun i r m=>Qn6 G i (r 7) (r 2) (r 5) m) (fun _ _=>rfl) (fun i0=>fun r m=>by kernel_rfl))))) (seqQ (f:=fun r m=>Q13b G (r 56) (r 2) (r 5) (r 13) m) (tr (X1s (seqQ (f:=fun r m=>Q132 G (r 8) (r 2) (r 5) m) (tr (X9 (Xb (fun i r m=>Qn7 G i (r 8) (r 2) (r 5) m) (fun _ _=>rfl) (fun i0=>fun r m=>by kernel_rfl))))) (seqQ (f:=fun r m=>Q13a G (r 74) (r 2) (r 5) (r 13) m) (tr (X1s (seqQ (f:=fun r m=>Q133 G (r 9) (r 2) (r 5) m) (tr (X9 (Xb (fun i r m=>Qn8 G i (r 9) (r 2) (r 5) m) (fun _ _=>rfl) (fun i0=>fun r m=>by kernel_rfl))))) (seqQ (f:=fun r m=>Q139 G (r 92) (r 2) (r 5) (r 13) m) (tr (X1s (seqQ (f:=fun r m=>Q134 G (r 10) (r 2) (r 5) m) (tr (X9 (Xb (fun i r m=>Qn9 G i (r 10) (r 2) (r 5) m) (fun _ _=>rfl) (fun i0=>fun r m=>by kernel_rfl))))) (seqQ (f:=fun r m=>Q138 G (r 110) (r 2) (r 5) (r 13) m) (tr (X1s (seqQ (f:=fun r m=>Q135 G (r 11) (r 2) (r 5) m) (tr (X9 (Xb (fun i r m=>Qna G i (r 11) (r 2) (r 5) m) (fun _ _=>rfl) (fun i0=>fun r m=>by kernel_rfl))))) (seqQ (f:=fun r m=>Q137 G (r 128) (r 2) (r 5) m) (tr (X1s (seqQ (f:=fun r m=>Q136 G (r 12) (r 2) (r 5) m) (tr (X9 (Xb (fun i r m=>Qnb G i (r 12) (r 2) (r 5) m) (fun _ _=>rfl) (fun i0=>fun r m=>by kernel_rfl))))) (refQ)))))))))))))))))))))))))))))))))) m
def Q1vd:En:=⟨Qjr,Tryz.f280,Tryz.func280,by kernel_rfl,arg2 Qtb,Xg Q1vc⟩
def Qtc (G:Gt)(p0 p1:V)(m:M):R:=bp (pur (un .not p0) m) fun x0 m=>brb x0 (some ((.int .i64 1),m)) (bp (pur (un .not p1) m) fun x1 m=>brb x1 (some ((.int .i64 2),m)) (some ((.int .i64 0),m)))
theorem Q1ve (G:Gt)(a0 a1:V)(m:M):ef G Tryz.f282 [a0,a1] m = Qtc G a0 a1 m:=X6 (r:=fun r m=>Qtc G (r 0) (r 1) m) rfl rfl (fun r m=>by kernel_rfl) m
def Q1vf:En:=⟨Q0,Tryz.f282,Tryz.func282,by kernel_rfl,arg2 Qtc,Xg Q1ve⟩
end
end Go.Ab.Sh
