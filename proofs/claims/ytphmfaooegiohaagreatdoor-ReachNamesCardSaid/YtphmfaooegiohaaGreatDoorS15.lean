/-
  Functions of the program as plain definitions. No conditions.
-/
import Derived.Test.YtphmfaooegiohaaGreatDoorAb5
import Derived.Test.YtphmfaooegiohaaGreatDoorZ
import Derived.KernelRfl
import Derived.Test.YtphmfaooegiohaaGreatDoorProg
set_option linter.unusedVariables false
set_option maxRecDepth 100000
namespace Go.Ab.Sh
open Go Go.Ab Go.Proofs
noncomputable section
def Q1o6 (G:Gt)(p3:V)(m:M):R:=some (p3,m)
def Q1fe (G:Gt):Nat→V→V→V→V→M→R
 | 0,_,_,_,_,_=>none
 | i + 1,p8,p7,p6,p3,m=>bp (pur (bin .lss false true .int p8 p7) m) fun x0 m=>brb x0 (bp (pur (X3 1 p6 p8) m) fun x1 m=>bp (pur (X4 false 1 x1 m) m) fun x2 m=>bp (pur (bin .neq false true .int x2 p3) m) fun x3 m=>brb x3 (some (x2,m)) (bp (pur (bin .add true true .int p8 (.int .i64 1)) m) fun x4 m=>(Q1fe G i) x4 p7 p6 p3 m)) (Q1o6 G p3 m)
def Q1o7 (G:Gt)(p8 p7 p6 p3:V)(m:M):R:=Q1fe G G.rds p8 p7 p6 p3 m
def Q1o8 (G:Gt)(p0 p3:V)(m:M):R:=bp (pur (lenK 1 p0 m) m) fun x5 m=>Q1o7 G (.int .i64 0) x5 p0 p3 m
def Q1o9 (G:Gt)(p0:V)(m:M):R:=Q1o8 G p0 (.int .i64 0) m
def Q1ka (G:Gt)(p0:V)(m:M):R:=Q1o9 G p0 m
theorem Q26h (G:Gt)(a0:V)(m:M):ef G Tryz.f266 [a0] m = Q1ka G a0 m:=X6 (r:=fun r m=>Q1ka G (r 0) m) rfl rfl (tr (seqQ (f:=fun r m=>Q1o9 G (r 0) m) (tr (seqQ (f:=fun r m=>Q1o8 G (r 0) (r 3) m) (tr (tr (seqQ (f:=fun r m=>Q1o6 G (r 3) m)) (seqQ (f:=fun r m=>Q1o7 G (r 8) (r 7) (r 6) (r 3) m) (tr (X7 (Xc (fun i r m=>Q1fe G i (r 8) (r 7) (r 6) (r 3) m) (fun _ _=>rfl) (fun i0=>fun r m=>by kernel_rfl))))))))))) m
def Q26i:En:=⟨Q1ub,Tryz.f266,Tryz.func266,by kernel_rfl,arg1 Q1ka,Xk Q26h⟩
def Qmm (G:Gt)(p0 p1:V)(m:M):R:=bp (G.tab Qqe [p0] m) fun x0 m=>bp (G.tab Qqe [p1] m) fun x1 m=>brb x0 (brb x1 (some ((.int .i64 0),m)) (some ((.int .i64 (-1)),m))) (brb x1 (some ((.int .i64 1),m)) (bp (pur (bin .lss false true .int p0 p1) m) fun x2 m=>brb x2 (some ((.int .i64 (-1)),m)) (bp (pur (bin .gtr false true .int p0 p1) m) fun x3 m=>brb x3 (some ((.int .i64 1),m)) (some ((.int .i64 0),m)))))
theorem Q1ni (G:Gt)(a0 a1:V)(m:M):ef G Tryz.f267 [a0,a1] m = Qmm G a0 a1 m:=X6 (r:=fun r m=>Qmm G (r 0) (r 1) m) rfl rfl (fun r m=>by kernel_rfl) m
def Q1nj:En:=⟨Q121,Tryz.f267,Tryz.func267,by kernel_rfl,arg2 Qmm,Xf Q1ni⟩
def Q81 (G:Gt)(k0:J4)(p6 p1 p0 p2:V)(m:M):R:=bp (pur (bin .mul true true .int p6 (.int .i64 2)) m) fun x0 m=>k0 x0 p1 p0 p2 m
def Qh1 (G:Gt)(k0:J4)(p7 p6 p1 p0 p2:V)(m:M):R:=bp (pur (bin .add false true .int p7 p6) m) fun x1 m=>bp (pur (bin .lss false true .int x1 p1) m) fun x2 m=>brb x2 (bp (G.tab Qgy [p0,p7,x1,p1,p2] m) fun x3 m=>Q81 G k0 p6 p1 p0 p2 m) (Q81 G k0 p6 p1 p0 p2 m)
def Q82 (G:Gt)(k0:J4):Nat→V→V→V→V→V→V→M→R
 | 0,_,_,_,_,_,_,_=>none
 | i + 1,p8,p1,p0,p7,p6,p2,m=>bp (pur (bin .leq false true .int p8 p1) m) fun x4 m=>brb x4 (bp (pur (bin .add false true .int p7 p6) m) fun x5 m=>bp (G.tab Qgy [p0,p7,x5,p8,p2] m) fun x6 m=>bp (pur (bin .mul true true .int (.int .i64 2) p6) m) fun x7 m=>bp (pur (bin .add false true .int p8 x7) m) fun x8 m=>(Q82 G k0 i) x8 p1 p0 p8 p6 p2 m) (Qh1 G k0 p7 p6 p1 p0 p2 m)
def Qh2 (G:Gt)(k0:J4)(p8 p1 p0 p7 p6 p2:V)(m:M):R:=Q82 G k0 G.rds p8 p1 p0 p7 p6 p2 m
def Qh3 (G:Gt)(k0:J4)(p6 p1 p0 p2:V)(m:M):R:=bp (pur (bin .mul true true .int (.int .i64 2) p6) m) fun x9 m=>Qh2 G k0 x9 p1 p0 (.int .i64 0) p6 p2 m
def Q16 (G:Gt):Nat→V→V→V→V→M→R
 | 0,_,_,_,_,_=>none
 | i + 1,p6,p1,p0,p2,m=>bp (pur (bin .lss false true .int p6 p1) m) fun x10 m=>brb x10 (Qh3 G (Q16 G i) p6 p1 p0 p2 m) (some (.tuple ⟨[]⟩,m))
def Qh4 (G:Gt)(p6 p1 p0 p2:V)(m:M):R:=Q16 G G.rds p6 p1 p0 p2 m
def Qh5 (G:Gt)(p0 p7 p1 p2 p6:V)(m:M):R:=bp (G.tab Q5j [p0,p7,p1,p2] m) fun x11 m=>Qh4 G p6 p1 p0 p2 m
def Q75 (G:Gt):Nat→V→V→V→V→V→V→M→R
 | 0,_,_,_,_,_,_,_=>none
 | i + 1,p8,p1,p0,p7,p2,p6,m=>bp (pur (bin .leq false true .int p8 p1) m) fun x12 m=>brb x12 (bp (G.tab Q5j [p0,p7,p8,p2] m) fun x13 m=>bp (pur (bin .add false true .int p8 p6) m) fun x14 m=>(Q75 G i) x14 p1 p0 p8 p2 p6 m) (Qh5 G p0 p7 p1 p2 p6 m)
def Qh6 (G:Gt)(p8 p1 p0 p7 p2 p6:V)(m:M):R:=Q75 G G.rds p8 p1 p0 p7 p2 p6 m
def Qh7 (G:Gt)(p6 p1 p0 p2:V)(m:M):R:=Qh6 G p6 p1 p0 (.int .i64 0) p2 p6 m
def Q92 (G:Gt)(p1 p0 p2:V)(m:M):R:=Qh7 G (.int .i64 20) p1 p0 p2 m
theorem Q13x (G:Gt)(a0 a1 a2:V)(m:M):ef G Tryz.f268 [a0,a1,a2] m = Q92 G a1 a0 a2 m:=X6 (r:=fun r m=>Q92 G (r 1) (r 0) (r 2) m) rfl rfl (tr (seqQ (f:=fun r m=>Qh7 G (r 6) (r 1) (r 0) (r 2) m) (tr (seqQ (f:=fun r m=>Qh6 G (r 8) (r 1) (r 0) (r 7) (r 2) (r 6) m) (tr (tr (seqQ (f:=fun r m=>Qh5 G (r 0) (r 7) (r 1) (r 2) (r 6) m) (tr (seqQ (f:=fun r m=>Qh4 G (r 6) (r 1) (r 0) (r 2) m) (tr (X7 (Xc (fun i r m=>Q16 G i (r 6) (r 1) (r 0) (r 2) m) (fun _ _=>rfl) (fun i0=>tr (seqQ (f:=fun r m=>Qh3 G (Q16 G i0) (r 6) (r 1) (r 0) (r 2) m) (tr (X7 (seqQ (f:=fun r m=>Qh2 G (Q16 G i0) (r 8) (r 1) (r 0) (r 7) (r 6) (r 2) m) (tr (tr (seqQ (f:=fun r m=>Qh1 G (Q16 G i0) (r 7) (r 6) (r 1) (r 0) (r 2) m) (tr (seqQ (f:=fun r m=>Q81 G (Q16 G i0) (r 6) (r 1) (r 0) (r 2) m)))) (X7 (Xc (fun i r m=>Q82 G (Q16 G i0) i (r 8) (r 1) (r 0) (r 7) (r 6) (r 2) m) (fun _ _=>rfl) (fun i1=>fun r m=>by kernel_rfl)))))))))))))))) (X7 (Xc (fun i r m=>Q75 G i (r 8) (r 1) (r 0) (r 7) (r 2) (r 6) m) (fun _ _=>rfl) (fun i0=>fun r m=>by kernel_rfl))))))))) m
def Q13y:En:=⟨Qib,Tryz.f268,Tryz.func268,by kernel_rfl,arg3 (fun G a0 a1 a2 m=>Q92 G a1 a0 a2 m),Xr Q13x⟩
def Qc1 (G:Gt)(p0 p1:V)(m:M):R:=bp (G.tab Qaf [p0,p1] m) fun x0 m=>some (x0,m)
theorem Q18k (G:Gt)(a0 a1:V)(m:M):ef G Tryz.f269 [a0,a1] m = Qc1 G a0 a1 m:=X6 (r:=fun r m=>Qc1 G (r 0) (r 1) m) rfl rfl (fun r m=>by kernel_rfl) m
def Q18l:En:=⟨Qkk,Tryz.f269,Tryz.func269,by kernel_rfl,arg2 Qc1,Xf Q18k⟩
def Q29 (G:Gt)(p5:V)(m:M):R:=some (p5,m)
def Qok (G:Gt):Nat→V→V→V→M→R
 | 0,_,_,_,_=>none
 | i + 1,p6,p2,p5,m=>bp (pur (X0 3 p2) m) fun x3 m=>bp (pur (X4 false 1 x3 m) m) fun x4 m=>bp (pur (lenK 1 x4 m) m) fun x5 m=>bp (pur (bin .lss false true .int p6 x5) m) fun x6 m=>brb x6 (bp (pur (X0 3 p2) m) fun x7 m=>bp (pur (X4 false 1 x7 m) m) fun x8 m=>bp (pur (X3 11 x8 p6) m) fun x9 m=>bp (pur (X0 0 x9) m) fun x10 m=>bp (pur (X4 false 1 x10 m) m) fun x11 m=>bp (Xa Q4v [(.string ⟨#[]⟩)] 1 1 [(0,x11)] m) fun x12 m=>bp (apS Q4v 1 16 p5 x12 m) fun x13 m=>bp (pur (bin .add true true .int p6 (.int .i64 1)) m) fun x14 m=>(Qok G i) x14 p2 x13 m) (Q29 G p5 m)
def Q16v (G:Gt)(p6 p2 p5:V)(m:M):R:=Qok G G.rds p6 p2 p5 m
def Qmn (G:Gt):Nat→V→V→V→M→R
 | 0,_,_,_,_=>none
 | i + 1,p7,p2,p5,m=>bp (pur (X0 4 p2) m) fun x15 m=>bp (pur (X4 false 1 x15 m) m) fun x16 m=>bp (pur (lenK 1 x16 m) m) fun x17 m=>bp (pur (bin .lss false true .int p7 x17) m) fun x18 m=>brb x18 (bp (pur (X0 4 p2) m) fun x19 m=>bp (pur (X4 false 1 x19 m) m) fun x20 m=>bp (pur (X3 2 x20 p7) m) fun x21 m=>bp (pur (X0 0 x21) m) fun x22 m=>bp (pur (X4 false 1 x22 m) m) fun x23 m=>bp (Xa Q4v [(.string ⟨#[]⟩)] 1 1 [(0,x23)] m) fun x24 m=>bp (apS Q4v 1 16 p5 x24 m) fun x25 m=>bp (pur (bin .add true true .int p7 (.int .i64 1)) m) fun x26 m=>(Qmn G i) x26 p2 x25 m) (Q29 G p5 m)
def Q16w (G:Gt)(p7 p2 p5:V)(m:M):R:=Qmn G G.rds p7 p2 p5 m
def Qmo (G:Gt):Nat→V→V→V→M→R
 | 0,_,_,_,_=>none
 | i + 1,p8,p2,p5,m=>bp (pur (X0 7 p2) m) fun x27 m=>bp (pur (X4 false 1 x27 m) m) fun x28 m=>bp (pur (lenK 1 x28 m) m) fun x29 m=>bp (pur (bin .lss false true .int p8 x29) m) fun x30 m=>brb x30 (bp (pur (X0 7 p2) m) fun x31 m=>bp (pur (X4 false 1 x31 m) m) fun x32 m=>bp (pur (X3 2 x32 p8) m) fun x33 m=>bp (pur (X0 0 x33) m) fun x34 m=>bp (pur (X4 false 1 x34 m) m) fun x35 m=>bp (Xa Q4v [(.string ⟨#[]⟩)] 1 1 [(0,x35)] m) fun x36 m=>bp (apS Q4v 1 16 p5 x36 m) fun x37 m=>bp (pur (bin .add true true .int p8 (.int .i64 1)) m) fun x38 m=>(Qmo G i) x38 p2 x37 m) (Q29 G p5 m)
def Q12v (G:Gt)(p8 p2 p5:V)(m:M):R:=Qmo G G.rds p8 p2 p5 m
def Qmp (G:Gt):Nat→V→V→V→M→R
 | 0,_,_,_,_=>none
 | i + 1,p9,p2,p5,m=>bp (pur (X0 8 p2) m) fun x39 m=>bp (pur (X4 false 1 x39 m) m) fun x40 m=>bp (pur (lenK 1 x40 m) m) fun x41 m=>bp (pur (bin .lss false true .int p9 x41) m) fun x42 m=>brb x42 (bp (pur (X0 8 p2) m) fun x43 m=>bp (pur (X4 false 1 x43 m) m) fun x44 m=>bp (pur (X3 2 x44 p9) m) fun x45 m=>bp (pur (X0 0 x45) m) fun x46 m=>bp (pur (X4 false 1 x46 m) m) fun x47 m=>bp (Xa Q4v [(.string ⟨#[]⟩)] 1 1 [(0,x47)] m) fun x48 m=>bp (apS Q4v 1 16 p5 x48 m) fun x49 m=>bp (pur (bin .add true true .int p9 (.int .i64 1)) m) fun x50 m=>(Qmp G i) x50 p2 x49 m) (Q29 G p5 m)
def Q12w (G:Gt)(p9 p2 p5:V)(m:M):R:=Qmp G G.rds p9 p2 p5 m
def Qmq (G:Gt):Nat→V→V→V→M→R
 | 0,_,_,_,_=>none
 | i + 1,p10,p2,p5,m=>bp (pur (X0 9 p2) m) fun x51 m=>bp (pur (X4 false 1 x51 m) m) fun x52 m=>bp (pur (lenK 1 x52 m) m) fun x53 m=>bp (pur (bin .lss false true .int p10 x53) m) fun x54 m=>brb x54 (bp (pur (X0 9 p2) m) fun x55 m=>bp (pur (X4 false 1 x55 m) m) fun x56 m=>bp (pur (X3 3 x56 p10) m) fun x57 m=>bp (pur (X0 0 x57) m) fun x58 m=>bp (pur (X4 false 1 x58 m) m) fun x59 m=>bp (Xa Q4v [(.string ⟨#[]⟩)] 1 1 [(0,x59)] m) fun x60 m=>bp (apS Q4v 1 16 p5 x60 m) fun x61 m=>bp (pur (bin .add true true .int p10 (.int .i64 1)) m) fun x62 m=>(Qmq G i) x62 p2 x61 m) (Q29 G p5 m)
def Q12x (G:Gt)(p10 p2 p5:V)(m:M):R:=Qmq G G.rds p10 p2 p5 m
def Qmr (G:Gt):Nat→V→V→V→M→R
 | 0,_,_,_,_=>none
 | i + 1,p11,p2,p5,m=>bp (pur (X0 10 p2) m) fun x63 m=>bp (pur (X4 false 1 x63 m) m) fun x64 m=>bp (pur (lenK 1 x64 m) m) fun x65 m=>bp (pur (bin .lss false true .int p11 x65) m) fun x66 m=>brb x66 (bp (pur (X0 10 p2) m) fun x67 m=>bp (pur (X4 false 1 x67 m) m) fun x68 m=>bp (pur (X3 3 x68 p11) m) fun x69 m=>bp (pur (X0 0 x69) m) fun x70 m=>bp (pur (X4 false 1 x70 m) m) fun x71 m=>bp (Xa Q4v [(.string ⟨#[]⟩)] 1 1 [(0,x71)] m) fun x72 m=>bp (apS Q4v 1 16 p5 x72 m) fun x73 m=>bp (pur (bin .add true true .int p11 (.int .i64 1)) m) fun x74 m=>(Qmr G i) x74 p2 x73 m) (Q29 G p5 m)
def Q12y (G:Gt)(p11 p2 p5:V)(m:M):R:=Qmr G G.rds p11 p2 p5 m
def Qms (G:Gt):Nat→V→V→V→M→R
 | 0,_,_,_,_=>none
 | i + 1,p12,p2,p5,m=>bp (pur (X0 11 p2) m) fun x75 m=>bp (pur (X4 false 1 x75 m) m) fun x76 m=>bp (pur (lenK 1 x76 m) m) fun x77 m=>bp (pur (bin .lss false true .int p12 x77) m) fun x78 m=>brb x78 (bp (pur (X0 11 p2) m) fun x79 m=>bp (pur (X4 false 1 x79 m) m) fun x80 m=>bp (pur (X3 6 x80 p12) m) fun x81 m=>bp (pur (X0 0 x81) m) fun x82 m=>bp (pur (X4 false 1 x82 m) m) fun x83 m=>bp (Xa Q4v [(.string ⟨#[]⟩)] 1 1 [(0,x83)] m) fun x84 m=>bp (apS Q4v 1 16 p5 x84 m) fun x85 m=>bp (pur (bin .add true true .int p12 (.int .i64 1)) m) fun x86 m=>(Qms G i) x86 p2 x85 m) (Q29 G p5 m)
def Q12z (G:Gt)(p12 p2 p5:V)(m:M):R:=Qms G G.rds p12 p2 p5 m
def Q130 (G:Gt)(p128 p2 p5:V)(m:M):R:=brb p128 (Q12z G (.int .i64 0) p2 p5 m) (Q29 G p5 m)
def Q131 (G:Gt)(p110 p2 p5 p13:V)(m:M):R:=brb p110 (Q12y G (.int .i64 0) p2 p5 m) (bp (pur (bin .eql true true .int p13 (.int .i64 11)) m) fun x87 m=>Q130 G x87 p2 p5 m)
def Q132 (G:Gt)(p92 p2 p5 p13:V)(m:M):R:=brb p92 (Q12x G (.int .i64 0) p2 p5 m) (bp (pur (bin .eql true true .int p13 (.int .i64 10)) m) fun x88 m=>Q131 G x88 p2 p5 p13 m)
def Q133 (G:Gt)(p74 p2 p5 p13:V)(m:M):R:=brb p74 (Q12w G (.int .i64 0) p2 p5 m) (bp (pur (bin .eql true true .int p13 (.int .i64 9)) m) fun x89 m=>Q132 G x89 p2 p5 p13 m)
def Q134 (G:Gt)(p56 p2 p5 p13:V)(m:M):R:=brb p56 (Q12v G (.int .i64 0) p2 p5 m) (bp (pur (bin .eql true true .int p13 (.int .i64 8)) m) fun x90 m=>Q133 G x90 p2 p5 p13 m)
def Q16x (G:Gt)(p38 p2 p5 p13:V)(m:M):R:=brb p38 (Q16w G (.int .i64 0) p2 p5 m) (bp (pur (bin .eql true true .int p13 (.int .i64 7)) m) fun x91 m=>Q134 G x91 p2 p5 p13 m)
def Q16y (G:Gt)(p20 p2 p5 p13:V)(m:M):R:=brb p20 (Q16v G (.int .i64 0) p2 p5 m) (bp (pur (bin .eql true true .int p13 (.int .i64 4)) m) fun x92 m=>Q16x G x92 p2 p5 p13 m)
def Q16z (G:Gt)(p14 p5 p2 p13:V)(m:M):R:=brb p14 (bp (pur (X0 2 p2) m) fun x0 m=>bp (pur (X4 false 1 x0 m) m) fun x1 m=>bp (apS Q4v 1 16 p5 x1 m) fun x2 m=>Q29 G x2 m) (bp (pur (bin .eql true true .int p13 (.int .i64 3)) m) fun x93 m=>Q16y G x93 p2 p5 p13 m)
def Q170 (G:Gt)(p13 p5 p2:V)(m:M):R:=bp (pur (bin .eql true true .int p13 (.int .i64 2)) m) fun x94 m=>Q16z G x94 p5 p2 p13 m
def Q171 (G:Gt)(p1 p5 p2:V)(m:M):R:=Q170 G p1 p5 p2 m
def Q172 (G:Gt)(p1 p2:V)(m:M):R:=Q171 G p1 (.slice none 0 0) p2 m
def Qtj (G:Gt)(p0 p1:V)(m:M):R:=bp (some (aNew Q4 (Value.cells p0).toList m)) fun x95 m=>Q172 G p1 x95 m
theorem Q1sk (G:Gt)(a0 a1:V)(m:M):ef G Tryz.f270 [a0,a1] m = Qtj G a0 a1 m:=X6 (r:=fun r m=>Qtj G (r 0) (r 1) m) rfl rfl (tr (seqQ (f:=fun r m=>Q172 G (r 1) (r 2) m) (tr (seqQ (f:=fun r m=>Q171 G (r 1) (r 5) (r 2) m) (tr (tr (seqQ (f:=fun r m=>Q29 G (r 5) m)) (seqQ (f:=fun r m=>Q170 G (r 13) (r 5) (r 2) m) (tr (X7 (seqQ (f:=fun r m=>Q16z G (r 14) (r 5) (r 2) (r 13) m) (tr (X1q (refQ) (seqQ (f:=fun r m=>Q16y G (r 20) (r 2) (r 5) (r 13) m) (tr (X1q (seqQ (f:=fun r m=>Q16v G (r 6) (r 2) (r 5) m) (tr (X7 (Xc (fun i r m=>Qok G i (r 6) (r 2) (r 5) m) (fun _ _=>rfl) (fun i0=>fun r m=>by kernel_rfl))))) (seqQ (f:=fun r m=>Q16x G (r 38) (r 2) (r 5) (r 13) m) (tr (X1q (seqQ (f:=fun r m=>Q16w G (r 7) (r 2) (r 5) m) (tr (X7 (Xc (fun i r m=>Qmn G i (r 7) (r 2) (r 5) m) (fun _ _=>rfl) (fun i0=>fun r m=>by kernel_rfl))))) (seqQ (f:=fun r m=>Q134 G (r 56) (r 2) (r 5) (r 13) m) (tr (X1q (seqQ (f:=fun r m=>Q12v G (r 8) (r 2) (r 5) m) (tr (X7 (Xc (fun i r m=>Qmo G i (r 8) (r 2) (r 5) m) (fun _ _=>rfl) (fun i0=>fun r m=>by kernel_rfl))))) (seqQ (f:=fun r m=>Q133 G (r 74) (r 2) (r 5) (r 13) m) (tr (X1q (seqQ (f:=fun r m=>Q12w G (r 9) (r 2) (r 5) m) (tr (X7 (Xc (fun i r m=>Qmp G i (r 9) (r 2) (r 5) m) (fun _ _=>rfl) (fun i0=>fun r m=>by kernel_rfl))))) (seqQ (f:=fun r m=>Q132 G (r 92) (r 2) (r 5) (r 13) m) (tr (X1q (seqQ (f:=fun r m=>Q12x G (r 10) (r 2) (r 5) m) (tr (X7 (Xc (fun i r m=>Qmq G i (r 10) (r 2) (r 5) m) (fun _ _=>rfl) (fun i0=>fun r m=>by kernel_rfl))))) (seqQ (f:=fun r m=>Q131 G (r 110) (r 2) (r 5) (r 13) m) (tr (X1q (seqQ (f:=fun r m=>Q12y G (r 11) (r 2) (r 5) m) (tr (X7 (Xc (fun i r m=>Qmr G i (r 11) (r 2) (r 5) m) (fun _ _=>rfl) (fun i0=>fun r m=>by kernel_rfl))))) (seqQ (f:=fun r m=>Q130 G (r 128) (r 2) (r 5) m) (tr (X1q (seqQ (f:=fun r m=>Q12z G (r 12) (r 2) (r 5) m) (tr (X7 (Xc (fun i r m=>Qms G i (r 12) (r 2) (r 5) m) (fun _ _=>rfl) (fun i0=>fun r m=>by kernel_rfl))))) (refQ)))))))))))))))))))))))))))))))))) m
def Q1sl:En:=⟨Qj9,Tryz.f270,Tryz.func270,by kernel_rfl,arg2 Qtj,Xf Q1sk⟩
def Qtk (G:Gt)(p0 p1:V)(m:M):R:=bp (pur (un .not p0) m) fun x0 m=>brb x0 (some ((.int .i64 1),m)) (bp (pur (un .not p1) m) fun x1 m=>brb x1 (some ((.int .i64 2),m)) (some ((.int .i64 0),m)))
theorem Q1sm (G:Gt)(a0 a1:V)(m:M):ef G Tryz.f272 [a0,a1] m = Qtk G a0 a1 m:=X6 (r:=fun r m=>Qtk G (r 0) (r 1) m) rfl rfl (fun r m=>by kernel_rfl) m
def Q1sn:En:=⟨Q0,Tryz.f272,Tryz.func272,by kernel_rfl,arg2 Qtk,Xf Q1sm⟩
def Qfs (G:Gt)(p6:V)(m:M):R:=some (p6,m)
def Q173 (G:Gt)(p7 p2 p1:V)(m:M):R:=bp (pur (Xz 1 p7 none (some p2)) m) fun x0 m=>bp (pur (X3 1 p7 p2) m) fun x1 m=>bp (pur (X4 false 1 x1 m) m) fun x2 m=>bp (G.tab Qnh [x0,x2] m) fun x3 m=>bp (pur (un .not x3) m) fun x4 m=>brt x4 (bp (pur (bin .geq true true .int p1 (.int .i64 10)) m) fun x5 m=>brt x5 (Qfs G (.bool true) m) (bp (pur (X3 1 p7 p2) m) fun x6 m=>bp (pur (X4 false 1 x6 m) m) fun x7 m=>bp (G.tab Qv8 [x7] m) fun x8 m=>Qfs G x8 m) (none)) (Qfs G (.bool false) m) (none)
def Q174 (G:Gt)(p3 p1 p2:V)(m:M):R:=bp (pur (X4 true 12 p3 m) m) fun x9 m=>bp (G.tab Qj9 [x9,p1] m) fun x10 m=>Q173 G x10 p2 p1 m
def Qtl (G:Gt)(p0 p1 p2:V)(m:M):R:=bp (some (aNew Q4 (Value.cells p0).toList m)) fun x11 m=>Q174 G x11 p1 p2 m
theorem Q1so (G:Gt)(a0 a1 a2:V)(m:M):ef G Tryz.f273 [a0,a1,a2] m = Qtl G a0 a1 a2 m:=X6 (r:=fun r m=>Qtl G (r 0) (r 1) (r 2) m) rfl rfl (tr (seqQ (f:=fun r m=>Q174 G (r 3) (r 1) (r 2) m) (tr (seqQ (f:=fun r m=>Q173 G (r 7) (r 2) (r 1) m) (tr (seqQ (f:=fun r m=>Qfs G (r 6) m))))))) m
def Q1sp:En:=⟨Q5w,Tryz.f273,Tryz.func273,by kernel_rfl,arg3 Qtl,Xr Q1so⟩
def Qqm (G:Gt)(p6:V)(m:M):R:=some (p6,m)
def Q1bk (G:Gt)(p1 p0 p2:V)(m:M):R:=bp (pur (bin .leq false true .int p1 p0) m) fun x0 m=>brb x0 (bp (pur (bin .leq false true .int p0 p2) m) fun x1 m=>Qqm G x1 m) (Qqm G (.bool false) m)
def Qw5 (G:Gt)(p1 p0 p2:V)(m:M):R:=Q1bk G p1 p0 p2 m
theorem Q1vy (G:Gt)(a0 a1 a2:V)(m:M):ef G Tryz.f274 [a0,a1,a2] m = Qw5 G a1 a0 a2 m:=X6 (r:=fun r m=>Qw5 G (r 1) (r 0) (r 2) m) rfl rfl (tr (seqQ (f:=fun r m=>Q1bk G (r 1) (r 0) (r 2) m) (tr (seqQ (f:=fun r m=>Qqm G (r 6) m))))) m
def Q1vz:En:=⟨Q2h,Tryz.f274,Tryz.func274,by kernel_rfl,arg3 (fun G a0 a1 a2 m=>Qw5 G a1 a0 a2 m),Xr Q1vy⟩
end
end Go.Ab.Sh

set_option linter.unusedVariables false
set_option maxRecDepth 100000
namespace Go.Ab.Sh
open Go Go.Ab Go.Proofs
noncomputable section
def Qtm (G:Gt)(p4:V)(m:M):R:=some (p4,m)
def Q1ff (G:Gt)(p1 p2:V)(m:M):R:=bp (pur (bin .eql true true .str p1 (.string ⟨#[]⟩)) m) fun x0 m=>brb x0 (Qtm G (.bool true) m) (bp (pur (X0 2 p2) m) fun x1 m=>bp (pur (X4 false 1 x1 m) m) fun x2 m=>bp (G.tab Qnh [x2,p1] m) fun x3 m=>Qtm G x3 m)
def Q10p (G:Gt)(p0 p1:V)(m:M):R:=bp (some (aNew Q4 (Value.cells p0).toList m)) fun x4 m=>Q1ff G p1 x4 m
theorem Q1yz (G:Gt)(a0 a1:V)(m:M):ef G Tryz.f275 [a0,a1] m = Q10p G a0 a1 m:=X6 (r:=fun r m=>Q10p G (r 0) (r 1) m) rfl rfl (tr (seqQ (f:=fun r m=>Q1ff G (r 1) (r 2) m) (tr (seqQ (f:=fun r m=>Qtm G (r 4) m))))) m
def Q1z0:En:=⟨Qq,Tryz.f275,Tryz.func275,by kernel_rfl,arg2 Q10p,Xf Q1yz⟩
def Qqn (G:Gt)(p6:V)(m:M):R:=some (p6,m)
def Q1bl (G:Gt)(p2 p3 p1:V)(m:M):R:=bp (pur (bin .eql true true .str p2 (.string ⟨#[]⟩)) m) fun x0 m=>brb x0 (Qqn G (.bool true) m) (bp (pur (X4 true 12 p3 m) m) fun x1 m=>bp (G.tab Qj9 [x1,p1] m) fun x2 m=>bp (G.tab Qnh [x2,p2] m) fun x3 m=>Qqn G x3 m)
def Qw6 (G:Gt)(p0 p2 p1:V)(m:M):R:=bp (some (aNew Q4 (Value.cells p0).toList m)) fun x4 m=>Q1bl G p2 x4 p1 m
theorem Q1w0 (G:Gt)(a0 a1 a2:V)(m:M):ef G Tryz.f276 [a0,a1,a2] m = Qw6 G a0 a2 a1 m:=X6 (r:=fun r m=>Qw6 G (r 0) (r 2) (r 1) m) rfl rfl (tr (seqQ (f:=fun r m=>Q1bl G (r 2) (r 3) (r 1) m) (tr (seqQ (f:=fun r m=>Qqn G (r 6) m))))) m
def Q1w1:En:=⟨Q3,Tryz.f276,Tryz.func276,by kernel_rfl,arg3 (fun G a0 a1 a2 m=>Qw6 G a0 a2 a1 m),Xr Q1w0⟩
def Q6p (G:Gt)(k0:J7)(p97 p0 p1 p2 p13 p4 p3 p10 p11 p12:V)(m:M):R:=brb p97 (bp (G.tab Qqf [p0,p1,p2,p13,p4] m) fun x0 m=>k0 p2 x0 p0 p4 p3 p10 p11 m) (bp (G.tab Qy4 [p0,p1,p2,p13,p4] m) fun x1 m=>bp (pur (X5 x1 0) m) fun x2 m=>bp (pur (X5 x1 1) m) fun x3 m=>bp (pur (bin .sub false true .int x2 p1) m) fun x4 m=>bp (pur (bin .sub false true .int p2 x2) m) fun x5 m=>bp (pur (bin .quo true true .int p12 (.int .i64 8)) m) fun x6 m=>bp (pur (bin .lss false true .int x4 x5) m) fun x7 m=>brb x7 (bp (pur (bin .geq false true .int x4 x6) m) fun x8 m=>bp (G.tab Q4d [p0,p1,x2,p3,p4] m) fun x9 m=>bp (pur (bin .add true true .int x2 (.int .i64 1)) m) fun x10 m=>k0 p2 x10 p0 p4 p3 x8 x3 m) (bp (pur (bin .geq false true .int x5 x6) m) fun x11 m=>bp (pur (bin .add true true .int x2 (.int .i64 1)) m) fun x12 m=>bp (G.tab Q4d [p0,x12,p2,p3,p4] m) fun x13 m=>k0 x2 p1 p0 p4 p3 x11 x3 m))
def Q76 (G:Gt)(k0:J7)(p1 p4 p0 p13 p2 p3 p10 p11 p12:V)(m:M):R:=bp (pur (bin .gtr true true .int p1 (.int .i64 0)) m) fun x14 m=>brt x14 (bp (pur (bin .sub true true .int p1 (.int .i64 1)) m) fun x15 m=>bp (pur (X3 2 p0 x15) m) fun x16 m=>bp (pur (X4 true 2 x16 m) m) fun x17 m=>bp (pur (X3 2 p0 p13) m) fun x18 m=>bp (pur (X4 true 2 x18 m) m) fun x19 m=>bp (Xj G.tab p4 [x17,x19] m) fun x20 m=>bp (pur (bin .lss true true .int x20 (.int .i64 0)) m) fun x21 m=>bp (pur (un .not x21) m) fun x22 m=>Q6p G k0 x22 p0 p1 p2 p13 p4 p3 p10 p11 p12 m) (Q6p G k0 (.bool false) p0 p1 p2 p13 p4 p3 p10 p11 p12 m) (none)
def Q3n (G:Gt)(k0:J7)(p75 p0 p1 p2 p4 p13 p3 p10 p11 p12:V)(m:M):R:=brb p75 (bp (G.tab Qli [p0,p1,p2,p4] m) fun x23 m=>brb x23 (some (.tuple ⟨[]⟩,m)) (Q76 G k0 p1 p4 p0 p13 p2 p3 p10 p11 p12 m)) (Q76 G k0 p1 p4 p0 p13 p2 p3 p10 p11 p12 m)
def Q77 (G:Gt)(k0:J7)(p10 p11 p14 p0 p1 p2 p4 p13 p3 p12:V)(m:M):R:=brb p10 (brb p11 (bp (pur (bin .eql true true .int p14 (.int .i64 1)) m) fun x24 m=>Q3n G k0 x24 p0 p1 p2 p4 p13 p3 p10 p11 p12 m) (Q3n G k0 (.bool false) p0 p1 p2 p4 p13 p3 p10 p11 p12 m)) (Q3n G k0 (.bool false) p0 p1 p2 p4 p13 p3 p10 p11 p12 m)
def Qf9 (G:Gt)(k0:J7)(p14 p0 p1 p2 p4 p13 p10 p11 p3 p12:V)(m:M):R:=bp (pur (bin .eql true true .int p14 (.int .i64 2)) m) fun x25 m=>brb x25 (bp (G.tab Qte [p0,p1,p2,p4] m) fun x26 m=>bp (pur (bin .sub true true .int p2 (.int .i64 1)) m) fun x27 m=>bp (pur (bin .sub false true .int p13 p1) m) fun x28 m=>bp (pur (bin .sub false true .int x27 x28) m) fun x29 m=>Q77 G k0 p10 p11 (.int .i64 1) p0 p1 p2 p4 x29 p3 p12 m) (Q77 G k0 p10 p11 p14 p0 p1 p2 p4 p13 p3 p12 m)
def Q78 (G:Gt)(k0:J7)(p0 p1 p2 p4 p10 p11 p3 p12:V)(m:M):R:=bp (G.tab Quo [p0,p1,p2,p4] m) fun x30 m=>bp (pur (X5 x30 0) m) fun x31 m=>bp (pur (X5 x30 1) m) fun x32 m=>Qf9 G k0 x32 p0 p1 p2 p4 x31 p10 p11 p3 p12 m
def Qfa (G:Gt)(k0:J7)(p10 p0 p1 p2 p4 p3 p11 p12:V)(m:M):R:=bp (pur (un .not p10) m) fun x33 m=>brb x33 (bp (G.tab Qr5 [p0,p1,p2,p4] m) fun x34 m=>bp (pur (bin .sub true true .int p3 (.int .i64 1)) m) fun x35 m=>Q78 G k0 p0 p1 p2 p4 p10 p11 x35 p12 m) (Q78 G k0 p0 p1 p2 p4 p10 p11 p3 p12 m)
def Qfb (G:Gt)(k0:J7)(p3 p0 p1 p2 p4 p10 p11 p12:V)(m:M):R:=bp (pur (bin .eql true true .int p3 (.int .i64 0)) m) fun x36 m=>brb x36 (bp (G.tab Q107 [p0,p1,p2,p4] m) fun x37 m=>some (.tuple ⟨[]⟩,m)) (Qfa G k0 p10 p0 p1 p2 p4 p3 p11 p12 m)
def Qfc (G:Gt)(k0:J7)(p12 p0 p1 p2 p4 p3 p10 p11:V)(m:M):R:=bp (pur (bin .leq true true .int p12 (.int .i64 12)) m) fun x38 m=>brb x38 (bp (G.tab Qdc [p0,p1,p2,p4] m) fun x39 m=>some (.tuple ⟨[]⟩,m)) (Qfb G k0 p3 p0 p1 p2 p4 p10 p11 p12 m)
def Q9 (G:Gt):Nat→V→V→V→V→V→V→V→M→R
 | 0,_,_,_,_,_,_,_,_=>none
 | i + 1,p2,p1,p0,p4,p3,p10,p11,m=>bp (pur (bin .sub false true .int p2 p1) m) fun x40 m=>Qfc G (Q9 G i) x40 p0 p1 p2 p4 p3 p10 p11 m
def Qfd (G:Gt)(p2 p1 p0 p4 p3 p10 p11:V)(m:M):R:=Q9 G G.rds p2 p1 p0 p4 p3 p10 p11 m
def Qfe (G:Gt)(p2 p1 p0 p4 p3 p10:V)(m:M):R:=Qfd G p2 p1 p0 p4 p3 p10 (.bool true) m
def Q8n (G:Gt)(p2 p1 p0 p4 p3:V)(m:M):R:=Qfe G p2 p1 p0 p4 p3 (.bool true) m
theorem Q119 (G:Gt)(a0 a1 a2 a3 a4:V)(m:M):ef G Tryz.f282 [a0,a1,a2,a3,a4] m = Q8n G a2 a1 a0 a4 a3 m:=X6 (r:=fun r m=>Q8n G (r 2) (r 1) (r 0) (r 4) (r 3) m) rfl rfl (tr (seqQ (f:=fun r m=>Qfe G (r 2) (r 1) (r 0) (r 4) (r 3) (r 10) m) (tr (seqQ (f:=fun r m=>Qfd G (r 2) (r 1) (r 0) (r 4) (r 3) (r 10) (r 11) m) (tr (X7 (Xc (fun i r m=>Q9 G i (r 2) (r 1) (r 0) (r 4) (r 3) (r 10) (r 11) m) (fun _ _=>rfl) (fun i0=>tr (X7 (seqQ (f:=fun r m=>Qfc G (Q9 G i0) (r 12) (r 0) (r 1) (r 2) (r 4) (r 3) (r 10) (r 11) m) (tr (seqQ (f:=fun r m=>Qfb G (Q9 G i0) (r 3) (r 0) (r 1) (r 2) (r 4) (r 10) (r 11) (r 12) m) (tr (seqQ (f:=fun r m=>Qfa G (Q9 G i0) (r 10) (r 0) (r 1) (r 2) (r 4) (r 3) (r 11) (r 12) m) (tr (seqQ (f:=fun r m=>Q78 G (Q9 G i0) (r 0) (r 1) (r 2) (r 4) (r 10) (r 11) (r 3) (r 12) m) (tr (seqQ (f:=fun r m=>Qf9 G (Q9 G i0) (r 14) (r 0) (r 1) (r 2) (r 4) (r 13) (r 10) (r 11) (r 3) (r 12) m) (tr (seqQ (f:=fun r m=>Q77 G (Q9 G i0) (r 10) (r 11) (r 14) (r 0) (r 1) (r 2) (r 4) (r 13) (r 3) (r 12) m) (tr (tr (seqQ (f:=fun r m=>Q76 G (Q9 G i0) (r 1) (r 4) (r 0) (r 13) (r 2) (r 3) (r 10) (r 11) (r 12) m) (tr (tr seqD (seqQ (f:=fun r m=>Q6p G (Q9 G i0) (r 97) (r 0) (r 1) (r 2) (r 13) (r 4) (r 3) (r 10) (r 11) (r 12) m))))) (seqQ (f:=fun r m=>Q3n G (Q9 G i0) (r 75) (r 0) (r 1) (r 2) (r 4) (r 13) (r 3) (r 10) (r 11) (r 12) m)))))))))))))))))))))))) m
def Q11a:En:=⟨Q4d,Tryz.f282,Tryz.func282,by kernel_rfl,arg5 (fun G a0 a1 a2 a3 a4 m=>Q8n G a2 a1 a0 a4 a3 m),X30 Q119⟩
def Qur (G:Gt)(k0:J7)(p19 p18 p17 p1 p3 p4 p5:V)(m:M):R:=bp (pur (bin .add true true .int p19 (.int .i64 1)) m) fun x0 m=>k0 x0 p18 p17 p1 p3 p4 p5 m
def Q1kb (G:Gt)(k0:J7)(p31 p19 p18 p17 p1 p3 p4 p5 p7:V)(m:M):R:=brb p31 (Qur G k0 p19 p18 p17 p1 p3 p4 p5 m) (bp (pur (X0 6 p7) m) fun x1 m=>bp (pur (X4 false 1 x1 m) m) fun x2 m=>bp (pur (bin .eql true true .str x2 (.string ⟨#[]⟩)) m) fun x3 m=>brb x3 (bp (pur (X4 false 1 p3 m) m) fun x4 m=>bp (pur (X4 true 9 p7 m) m) fun x5 m=>bp (Xj G.tab x4 [x5] m) fun x6 m=>Qur G k0 p19 p18 p17 p1 p3 p4 p5 m) (bp (pur (X0 7 p7) m) fun x7 m=>bp (pur (X4 false 1 x7 m) m) fun x8 m=>bp (pur (bin .eql true true .int x8 (.int .u32 0)) m) fun x9 m=>brb x9 (bp (pur (X4 false 1 p4 m) m) fun x10 m=>bp (pur (X0 6 p7) m) fun x11 m=>bp (pur (X4 false 1 x11 m) m) fun x12 m=>bp (pur (X0 7 p5) m) fun x13 m=>bp (pur (X4 false 1 x13 m) m) fun x14 m=>bp (pur (Xe Qne [(0,1),(1,1)] [(0,x12),(1,x14)]) m) fun x15 m=>bp (Xa Qjl Qne 2 1 [(0,x15)] m) fun x16 m=>bp (apS Qjl 2 24 x10 x16 m) fun x17 m=>bp (unt (X8 1 p4 x17 m)) fun _ m=>Qur G k0 p19 p18 p17 p1 p3 p4 p5 m) (bp (pur (X4 false 1 p4 m) m) fun x18 m=>bp (pur (X0 6 p7) m) fun x19 m=>bp (pur (X4 false 1 x19 m) m) fun x20 m=>bp (pur (X0 7 p7) m) fun x21 m=>bp (pur (X4 false 1 x21 m) m) fun x22 m=>bp (pur (Xe Qne [(0,1),(1,1)] [(0,x20),(1,x22)]) m) fun x23 m=>bp (Xa Qjl Qne 2 1 [(0,x23)] m) fun x24 m=>bp (apS Qjl 2 24 x18 x24 m) fun x25 m=>bp (unt (X8 1 p4 x25 m)) fun _ m=>Qur G k0 p19 p18 p17 p1 p3 p4 p5 m)))
def Q1un (G:Gt)(k0:J7)(p7 p1 p19 p18 p17 p3 p4 p5:V)(m:M):R:=bp (pur (X0 8 p7) m) fun x26 m=>bp (pur (X4 false 1 x26 m) m) fun x27 m=>brb x27 (Q1kb G k0 (.bool true) p19 p18 p17 p1 p3 p4 p5 p7 m) (bp (pur (X4 false 1 p1 m) m) fun x28 m=>bp (pur (X4 true 9 p7 m) m) fun x29 m=>bp (pur (Xg (.struct [(0,2,true,(.struct [(0,1,false,.int),(1,1,false,.int)])),(2,1,false,.int),(3,1,false,.int),(4,1,false,.int),(5,1,false,.int),(6,1,false,.str),(7,1,false,.int),(8,1,false,.bool)]) (.int .i64 0) false x28 x29 m) m) fun x30 m=>bp (pur (bin .gtr true true .int x30 (.int .i64 0)) m) fun x31 m=>Q1kb G k0 x31 p19 p18 p17 p1 p3 p4 p5 p7 m)
def Q1uo (G:Gt)(k0:J7)(p17 p19 p1 p18 p3 p4 p5:V)(m:M):R:=bp (pur (X3 9 p17 p19) m) fun x32 m=>bp (pur (X4 true 9 x32 m) m) fun x33 m=>bp (some (aNew Q1f Q27 m)) fun x34 m=>bp (unt (X8 9 x34 x33 m)) fun _ m=>Q1un G k0 x34 p1 p19 p18 p17 p3 p4 p5 m
def Q1up (G:Gt)(k0:J7)(p20 p17 p19 p1 p18 p3 p4 p5:V)(m:M):R:=brb p20 (Q1uo G k0 p17 p19 p1 p18 p3 p4 p5 m) (some (.tuple ⟨[]⟩,m))
def Qei (G:Gt):Nat→V→V→V→V→V→V→V→M→R
 | 0,_,_,_,_,_,_,_,_=>none
 | i + 1,p19,p18,p17,p1,p3,p4,p5,m=>bp (pur (bin .lss false true .int p19 p18) m) fun x35 m=>Q1up G (Qei G i) x35 p17 p19 p1 p18 p3 p4 p5 m
def Q1uq (G:Gt)(p19 p18 p17 p1 p3 p4 p5:V)(m:M):R:=Qei G G.rds p19 p18 p17 p1 p3 p4 p5 m
def Q1ur (G:Gt)(p2 p5 p1 p3 p4:V)(m:M):R:=bp (pur (X4 false 1 p2 m) m) fun x36 m=>bp (pur (X0 7 p5) m) fun x37 m=>bp (pur (X4 false 1 x37 m) m) fun x38 m=>bp (G.tab Q1uc [x36,x38] m) fun x39 m=>bp (pur (lenK 1 x39 m) m) fun x40 m=>Q1uq G (.int .i64 0) x40 x39 p1 p3 p4 p5 m
def Q1us (G:Gt)(p1 p5 p2 p3 p4:V)(m:M):R:=bp (pur (X4 false 1 p1 m) m) fun x41 m=>bp (pur (X4 true 9 p5 m) m) fun x42 m=>bp (pur (Xg (.struct [(0,2,true,(.struct [(0,1,false,.int),(1,1,false,.int)])),(2,1,false,.int),(3,1,false,.int),(4,1,false,.int),(5,1,false,.int),(6,1,false,.str),(7,1,false,.int),(8,1,false,.bool)]) (.int .i64 0) false x41 x42 m) m) fun x43 m=>bp (pur (bin .add true true .int x43 (.int .i64 1)) m) fun x44 m=>bp (X1j (.struct [(0,2,true,(.struct [(0,1,false,.int),(1,1,false,.int)])),(2,1,false,.int),(3,1,false,.int),(4,1,false,.int),(5,1,false,.int),(6,1,false,.str),(7,1,false,.int),(8,1,false,.bool)]) (.int .i64 0) x41 x42 m) fun x45 m=>ckB (again (pur (Xg (.struct [(0,2,true,(.struct [(0,1,false,.int),(1,1,false,.int)])),(2,1,false,.int),(3,1,false,.int),(4,1,false,.int),(5,1,false,.int),(6,1,false,.str),(7,1,false,.int),(8,1,false,.bool)]) (.int .i64 0) false x41 x42 m) m) x43 && true) (bp (pur (X5 x45 1) m) fun x46 m=>bp (unt (X15 x41 x46 x44 m)) fun _ m=>Q1ur G p2 p5 p1 p3 p4 m)
def Q1pd (G:Gt)(p0 p1 p2 p3 p4:V)(m:M):R:=bp (some (aNew Q1f (Value.cells p0).toList m)) fun x47 m=>Q1us G p1 x47 p2 p3 p4 m
theorem Q28z (G:Gt)(a0 a1 a2 a3 a4:V)(m:M):ef G Tryz.f283 [a0,a1,a2,a3,a4] m = Q1pd G a0 a1 a2 a3 a4 m:=X6 (r:=fun r m=>Q1pd G (r 0) (r 1) (r 2) (r 3) (r 4) m) rfl rfl (tr (seqQ (f:=fun r m=>Q1us G (r 1) (r 5) (r 2) (r 3) (r 4) m) (tr (seqQ (f:=fun r m=>Q1ur G (r 2) (r 5) (r 1) (r 3) (r 4) m) (tr (seqQ (f:=fun r m=>Q1uq G (r 19) (r 18) (r 17) (r 1) (r 3) (r 4) (r 5) m) (tr (X7 (Xc (fun i r m=>Qei G i (r 19) (r 18) (r 17) (r 1) (r 3) (r 4) (r 5) m) (fun _ _=>rfl) (fun i0=>tr (seqQ (f:=fun r m=>Q1up G (Qei G i0) (r 20) (r 17) (r 19) (r 1) (r 18) (r 3) (r 4) (r 5) m) (tr (seqQ (f:=fun r m=>Q1uo G (Qei G i0) (r 17) (r 19) (r 1) (r 18) (r 3) (r 4) (r 5) m) (tr (tr (seqQ (f:=fun r m=>Qur G (Qei G i0) (r 19) (r 18) (r 17) (r 1) (r 3) (r 4) (r 5) m)) (X7 (seqQ (f:=fun r m=>Q1un G (Qei G i0) (r 7) (r 1) (r 19) (r 18) (r 17) (r 3) (r 4) (r 5) m) (tr (X7 (seqQ (f:=fun r m=>Q1kb G (Qei G i0) (r 31) (r 19) (r 18) (r 17) (r 1) (r 3) (r 4) (r 5) (r 7) m))))))))))))))))))))) m
def Q290:En:=⟨Q20q,Tryz.f283,Tryz.func283,by kernel_rfl,arg5 Q1pd,X30 Q28z⟩
def Q1oa (G:Gt)(p5 p1:V)(m:M):R:=bp (G.tab Qis [p5,p1] m) fun x0 m=>bp (pur (X5 x0 0) m) fun x1 m=>bp (pur (X5 x0 1) m) fun x2 m=>bp (pur (X5 x0 2) m) fun x3 m=>bp (some (aNew Qs Q1c m)) fun x4 m=>bp (unt (X8 2 x4 x1 m)) fun _ m=>bp (G.tab Q1ud [x2] m) fun x5 m=>some (x5,m)
def Q1fg (G:Gt):Nat→V→V→V→V→V→M→R
 | 0,_,_,_,_,_,_=>none
 | i + 1,p16,p15,p14,p5,p1,m=>bp (pur (bin .lss false true .int p16 p15) m) fun x6 m=>brb x6 (bp (pur (X3 9 p14 p16) m) fun x7 m=>bp (pur (X4 true 9 x7 m) m) fun x8 m=>bp (some (aNew Q1f Q27 m)) fun x9 m=>bp (unt (X8 9 x9 x8 m)) fun _ m=>bp (pur (X0 0 x9) m) fun x10 m=>bp (pur (X4 true 2 x10 m) m) fun x11 m=>bp (G.tab Qp6 [p5,x11] m) fun x12 m=>bp (pur (X5 x12 0) m) fun x13 m=>bp (pur (X5 x12 1) m) fun x14 m=>bp (pur (X0 0 x9) m) fun x15 m=>bp (pur (X4 true 2 x15 m) m) fun x16 m=>bp (pur (X4 true 9 x9 m) m) fun x17 m=>bp (Xa Q1f Q27 9 1 [(0,x17)] m) fun x18 m=>bp (G.tab Qgz [x13] m) fun x19 m=>ckB (again (pur (X4 true 2 x15 m) m) x16 && (again (pur (X4 true 9 x9 m) m) x17 && true)) (bp (apS Q1f 9 72 x19 x18 m) fun x20 m=>ckB (again (pur (X4 true 2 x15 m) m) x16 && true) (bp (G.tab Qni [p5,x16,x20] m) fun x21 m=>bp (pur (bin .add true true .int p16 (.int .i64 1)) m) fun x22 m=>(Q1fg G i) x22 p15 p14 p5 p1 m))) (Q1oa G p5 p1 m)
def Q1ob (G:Gt)(p16 p15 p14 p5 p1:V)(m:M):R:=Q1fg G G.rds p16 p15 p14 p5 p1 m
def Q1oc (G:Gt)(p0 p5 p1:V)(m:M):R:=bp (pur (lenK 1 p0 m) m) fun x23 m=>Q1ob G (.int .i64 0) x23 p0 p5 p1 m
def Q1od (G:Gt)(p0 p1:V)(m:M):R:=bp (G.tab Q122 [] m) fun x24 m=>Q1oc G p0 x24 p1 m
def Q1kc (G:Gt)(p0 p1:V)(m:M):R:=Q1od G p0 p1 m
theorem Q26j (G:Gt)(a0 a1:V)(m:M):ef G Tryz.f284 [a0,a1] m = Q1kc G a0 a1 m:=X6 (r:=fun r m=>Q1kc G (r 0) (r 1) m) rfl rfl (tr (seqQ (f:=fun r m=>Q1od G (r 0) (r 1) m) (tr (seqQ (f:=fun r m=>Q1oc G (r 0) (r 5) (r 1) m) (tr (tr (seqQ (f:=fun r m=>Q1oa G (r 5) (r 1) m)) (seqQ (f:=fun r m=>Q1ob G (r 16) (r 15) (r 14) (r 5) (r 1) m) (tr (X7 (Xc (fun i r m=>Q1fg G i (r 16) (r 15) (r 14) (r 5) (r 1) m) (fun _ _=>rfl) (fun i0=>fun r m=>by kernel_rfl))))))))))) m
def Q26k:En:=⟨Q1uc,Tryz.f284,Tryz.func284,by kernel_rfl,arg2 Q1kc,Xf Q26j⟩
def Q83 (G:Gt)(p0 p1:V)(m:M):R:=bp (pur (lenK 1 p0 m) m) fun x0 m=>bp (conv (.int .u64) x0 m) fun x1 m=>bp (G.tab Q9a [x1] m) fun x2 m=>bp (G.tab Q67 [p0,(.int .i64 0),x0,x2,p1] m) fun x3 m=>some (.tuple ⟨[]⟩,m)
theorem Q10q (G:Gt)(a0 a1:V)(m:M):ef G Tryz.f285 [a0,a1] m = Q83 G a0 a1 m:=X6 (r:=fun r m=>Q83 G (r 0) (r 1) m) rfl rfl (fun r m=>by kernel_rfl) m
def Q10r:En:=⟨Qgx,Tryz.f285,Tryz.func285,by kernel_rfl,arg2 Q83,Xf Q10q⟩
end
end Go.Ab.Sh
