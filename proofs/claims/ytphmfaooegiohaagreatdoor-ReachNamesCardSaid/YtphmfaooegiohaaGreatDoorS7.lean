/-
  Functions of the program as plain definitions. No conditions.
-/
import Derived.Test.YtphmfaooegiohaaGreatDoorAb5
import Derived.Test.YtphmfaooegiohaaGreatDoorZ
import Derived.KernelRfl
import Derived.Test.YtphmfaooegiohaaGreatDoorProg
set_option linter.unusedVariables false
set_option maxRecDepth 100000
namespace Go.Ab.Sh
open Go Go.Ab Go.Proofs
noncomputable section
def Q1jf (G:Gt)(k0:J6)(p1 p10 p44 p43 p42 p4 p0:V)(m:M):R:=bp (pur (X4 true 4 p10 m) m) fun x0 m=>bp (Xj G.tab p1 [x0] m) fun x1 m=>bp (pur (bin .add true true .int p44 (.int .i64 1)) m) fun x2 m=>k0 x2 p43 p42 p4 p0 p1 m
def Q1sx (G:Gt)(k0:J6)(p10 p1 p44 p43 p42 p4 p0:V)(m:M):R:=bp (pur (X0 2 p10) m) fun x3 m=>bp (pur (X4 false 1 x3 m) m) fun x4 m=>brb x4 (bp (pur (X0 3 p10) m) fun x5 m=>bp (unt (X8 1 x5 (.slice none 0 0) m)) fun _ m=>Q1jf G k0 p1 p10 p44 p43 p42 p4 p0 m) (Q1jf G k0 p1 p10 p44 p43 p42 p4 p0 m)
def Q1sy (G:Gt)(k0:J6)(p10 p1 p44 p43 p42 p4 p0:V)(m:M):R:=bp (pur (X0 3 p10) m) fun x6 m=>bp (pur (X4 false 1 x6 m) m) fun x7 m=>bp (G.tab Q1lk [x7] m) fun x8 m=>bp (pur (X0 3 p10) m) fun x9 m=>bp (unt (X8 1 x9 x8 m)) fun _ m=>Q1sx G k0 p10 p1 p44 p43 p42 p4 p0 m
def Q1jg (G:Gt)(k1:J10)(p10 p0 p12 p54 p53 p52 p1 p44 p43 p42 p4:V)(m:M):R:=bp (pur (X0 3 p10) m) fun x10 m=>bp (pur (X4 false 1 x10 m) m) fun x11 m=>bp (pur (X4 true 9 p12 m) m) fun x12 m=>bp (G.tab Q24j [p0,x12] m) fun x13 m=>ckB (again (pur (X4 false 1 x10 m) m) x11 && true) (bp (apS Qjl 2 24 x11 x13 m) fun x14 m=>bp (pur (X0 3 p10) m) fun x15 m=>bp (unt (X8 1 x15 x14 m)) fun _ m=>bp (pur (bin .add true true .int p54 (.int .i64 1)) m) fun x16 m=>k1 x16 p53 p52 p10 p0 p1 p44 p43 p42 p4 m)
def Q1sz (G:Gt)(k1:J10)(p10 p12 p0 p54 p53 p52 p1 p44 p43 p42 p4:V)(m:M):R:=bp (pur (X0 2 p10) m) fun x17 m=>bp (pur (X4 false 1 x17 m) m) fun x18 m=>brb x18 (bp (pur (X0 2 p10) m) fun x19 m=>bp (unt (X8 1 x19 (.bool true) m)) fun _ m=>Q1jg G k1 p10 p0 p12 p54 p53 p52 p1 p44 p43 p42 p4 m) (bp (pur (X0 8 p12) m) fun x20 m=>bp (pur (X4 false 1 x20 m) m) fun x21 m=>bp (pur (X0 2 p10) m) fun x22 m=>bp (unt (X8 1 x22 x21 m)) fun _ m=>Q1jg G k1 p10 p0 p12 p54 p53 p52 p1 p44 p43 p42 p4 m)
def Q1t0 (G:Gt)(k1:J10)(p52 p54 p10 p0 p53 p1 p44 p43 p42 p4:V)(m:M):R:=bp (pur (X3 9 p52 p54) m) fun x23 m=>bp (pur (X4 true 9 x23 m) m) fun x24 m=>bp (some (aNew Q1f Q27 m)) fun x25 m=>bp (unt (X8 9 x25 x24 m)) fun _ m=>Q1sz G k1 p10 x25 p0 p54 p53 p52 p1 p44 p43 p42 p4 m
def Q1t1 (G:Gt)(k1:J10)(k0:J6)(p55 p52 p54 p10 p0 p53 p1 p44 p43 p42 p4:V)(m:M):R:=brb p55 (Q1t0 G k1 p52 p54 p10 p0 p53 p1 p44 p43 p42 p4 m) (Q1sy G k0 p10 p1 p44 p43 p42 p4 p0 m)
def Qhw (G:Gt)(k0:J6):Nat→V→V→V→V→V→V→V→V→V→V→M→R
 | 0,_,_,_,_,_,_,_,_,_,_,_=>none
 | i + 1,p54,p53,p52,p10,p0,p1,p44,p43,p42,p4,m=>bp (pur (bin .lss false true .int p54 p53) m) fun x26 m=>Q1t1 G (Qhw G k0 i) k0 x26 p52 p54 p10 p0 p53 p1 p44 p43 p42 p4 m
def Q1t2 (G:Gt)(k0:J6)(p54 p53 p52 p10 p0 p1 p44 p43 p42 p4:V)(m:M):R:=Qhw G k0 G.rds p54 p53 p52 p10 p0 p1 p44 p43 p42 p4 m
def Q1wj (G:Gt)(k0:J6)(p4 p9 p10 p0 p1 p44 p43 p42:V)(m:M):R:=bp (pur (X4 true 2 p9 m) m) fun x27 m=>bp (pur (Xg (.struct [(0,1,false,.int),(1,1,false,.int)]) (.slice none 0 0) false p4 x27 m) m) fun x28 m=>bp (pur (lenK 1 x28 m) m) fun x29 m=>Q1t2 G k0 (.int .i64 0) x29 x28 p10 p0 p1 p44 p43 p42 p4 m
def Q1wk (G:Gt)(k0:J6)(p9 p4 p0 p1 p44 p43 p42:V)(m:M):R:=bp (pur (X4 true 2 p9 m) m) fun x30 m=>bp (pur (Xe Qnk [(0,2),(2,1),(3,1)] [(0,x30)]) m) fun x31 m=>bp (some (aNew Q8a Qnk m)) fun x32 m=>bp (unt (X8 4 x32 x31 m)) fun _ m=>Q1wj G k0 p4 p9 x32 p0 p1 p44 p43 p42 m
def Q1wl (G:Gt)(k0:J6)(p42 p44 p4 p0 p1 p43:V)(m:M):R:=bp (pur (X3 2 p42 p44) m) fun x33 m=>bp (pur (X4 true 2 x33 m) m) fun x34 m=>bp (some (aNew Qs Q1c m)) fun x35 m=>bp (unt (X8 2 x35 x34 m)) fun _ m=>Q1wk G k0 x35 p4 p0 p1 p44 p43 p42 m
def Q1wm (G:Gt)(k0:J6)(p45 p42 p44 p4 p0 p1 p43:V)(m:M):R:=brb p45 (Q1wl G k0 p42 p44 p4 p0 p1 p43 m) (some (.tuple ⟨[]⟩,m))
def Q2y (G:Gt):Nat→V→V→V→V→V→V→M→R
 | 0,_,_,_,_,_,_,_=>none
 | i + 1,p44,p43,p42,p4,p0,p1,m=>bp (pur (bin .lss false true .int p44 p43) m) fun x36 m=>Q1wm G (Q2y G i) x36 p42 p44 p4 p0 p1 p43 m
def Q1wn (G:Gt)(p44 p43 p42 p4 p0 p1:V)(m:M):R:=Q2y G G.rds p44 p43 p42 p4 p0 p1 m
def Q1wo (G:Gt)(p5 p4 p0 p1:V)(m:M):R:=bp (G.tab Qcz [p5] m) fun x37 m=>bp (pur (lenK 1 x37 m) m) fun x38 m=>Q1wn G (.int .i64 0) x38 x37 p4 p0 p1 m
def Q1wp (G:Gt)(p5 p4 p0 p1:V)(m:M):R:=bp (G.tab Qc4 [p5,(.func (.func Q229) #[] #[])] m) fun x39 m=>Q1wo G p5 p4 p0 p1 m
def Q1jh (G:Gt)(k0:J7)(p16 p15 p14 p4 p5 p0 p1:V)(m:M):R:=bp (pur (bin .add true true .int p16 (.int .i64 1)) m) fun x40 m=>k0 x40 p15 p14 p4 p5 p0 p1 m
def Q1t3 (G:Gt)(k0:J7)(p14 p16 p4 p5 p15 p0 p1:V)(m:M):R:=bp (pur (X3 9 p14 p16) m) fun x41 m=>bp (pur (X4 true 9 x41 m) m) fun x42 m=>bp (some (aNew Q1f Q27 m)) fun x43 m=>bp (unt (X8 9 x43 x42 m)) fun _ m=>bp (pur (X0 0 x43) m) fun x44 m=>bp (pur (X4 true 2 x44 m) m) fun x45 m=>bp (G.tab Q1cf [x45] m) fun x46 m=>bp (pur (bin .eql true true .int x46 (.int .i64 0)) m) fun x47 m=>brb x47 (bp (pur (X0 0 x43) m) fun x48 m=>bp (pur (X4 true 2 x48 m) m) fun x49 m=>bp (pur (X4 true 9 x43 m) m) fun x50 m=>bp (Xa Q1f Q27 9 1 [(0,x50)] m) fun x51 m=>bp (X1j (.struct [(0,1,false,.int),(1,1,false,.int)]) (.slice none 0 0) p4 x49 m) fun x52 m=>bp (pur (X5 x52 0) m) fun x53 m=>bp (apS Q1f 9 72 x53 x51 m) fun x54 m=>bp (pur (X5 x52 1) m) fun x55 m=>bp (unt (X15 p4 x55 x54 m)) fun _ m=>bp (pur (X0 0 x43) m) fun x56 m=>bp (pur (X4 true 2 x56 m) m) fun x57 m=>bp (Xa Qs Q1c 2 1 [(0,x57)] m) fun x58 m=>bp (apS Qs 2 16 p5 x58 m) fun x59 m=>Q1jh G k0 p16 p15 p14 p4 x59 p0 p1 m) (Q1jh G k0 p16 p15 p14 p4 p5 p0 p1 m)
def Q1t4 (G:Gt)(k0:J7)(p17 p14 p16 p4 p5 p15 p0 p1:V)(m:M):R:=brb p17 (Q1t3 G k0 p14 p16 p4 p5 p15 p0 p1 m) (Q1wp G p5 p4 p0 p1 m)
def Qmv (G:Gt):Nat→V→V→V→V→V→V→V→M→R
 | 0,_,_,_,_,_,_,_,_=>none
 | i + 1,p16,p15,p14,p4,p5,p0,p1,m=>bp (pur (bin .lss false true .int p16 p15) m) fun x60 m=>Q1t4 G (Qmv G i) x60 p14 p16 p4 p5 p15 p0 p1 m
def Q1t5 (G:Gt)(p16 p15 p14 p4 p5 p0 p1:V)(m:M):R:=Qmv G G.rds p16 p15 p14 p4 p5 p0 p1 m
def Q1wq (G:Gt)(p0 p4 p5 p1:V)(m:M):R:=bp (pur (lenK 1 p0 m) m) fun x61 m=>Q1t5 G (.int .i64 0) x61 p0 p4 p5 p0 p1 m
def Q1wr (G:Gt)(p0 p4 p1:V)(m:M):R:=Q1wq G p0 p4 (.slice none 0 0) p1 m
def Q1re (G:Gt)(p0 p1:V)(m:M):R:=bp (some (Xp m)) fun x62 m=>Q1wr G p0 x62 p1 m
theorem Q29k (G:Gt)(a0 a1:V)(m:M):ef G Tryz.f103 [a0,a1] m = Q1re G a0 a1 m:=X6 (r:=fun r m=>Q1re G (r 0) (r 1) m) rfl rfl (tr (seqQ (f:=fun r m=>Q1wr G (r 0) (r 4) (r 1) m) (tr (seqQ (f:=fun r m=>Q1wq G (r 0) (r 4) (r 5) (r 1) m) (tr (tr (seqQ (f:=fun r m=>Q1wp G (r 5) (r 4) (r 0) (r 1) m) (tr (seqQ (f:=fun r m=>Q1wo G (r 5) (r 4) (r 0) (r 1) m) (tr (seqQ (f:=fun r m=>Q1wn G (r 44) (r 43) (r 42) (r 4) (r 0) (r 1) m) (tr (X7 (Xc (fun i r m=>Q2y G i (r 44) (r 43) (r 42) (r 4) (r 0) (r 1) m) (fun _ _=>rfl) (fun i0=>tr (seqQ (f:=fun r m=>Q1wm G (Q2y G i0) (r 45) (r 42) (r 44) (r 4) (r 0) (r 1) (r 43) m) (tr (seqQ (f:=fun r m=>Q1wl G (Q2y G i0) (r 42) (r 44) (r 4) (r 0) (r 1) (r 43) m) (tr (tr seqD (X7 (seqQ (f:=fun r m=>Q1wk G (Q2y G i0) (r 9) (r 4) (r 0) (r 1) (r 44) (r 43) (r 42) m) (tr (seqQ (f:=fun r m=>Q1wj G (Q2y G i0) (r 4) (r 9) (r 10) (r 0) (r 1) (r 44) (r 43) (r 42) m) (tr (tr (seqQ (f:=fun r m=>Q1sy G (Q2y G i0) (r 10) (r 1) (r 44) (r 43) (r 42) (r 4) (r 0) m) (tr (seqQ (f:=fun r m=>Q1sx G (Q2y G i0) (r 10) (r 1) (r 44) (r 43) (r 42) (r 4) (r 0) m) (tr (seqQ (f:=fun r m=>Q1jf G (Q2y G i0) (r 1) (r 10) (r 44) (r 43) (r 42) (r 4) (r 0) m)))))) (seqQ (f:=fun r m=>Q1t2 G (Q2y G i0) (r 54) (r 53) (r 52) (r 10) (r 0) (r 1) (r 44) (r 43) (r 42) (r 4) m) (tr (X7 (Xc (fun i r m=>Qhw G (Q2y G i0) i (r 54) (r 53) (r 52) (r 10) (r 0) (r 1) (r 44) (r 43) (r 42) (r 4) m) (fun _ _=>rfl) (fun i1=>tr (seqQ (f:=fun r m=>Q1t1 G (Qhw G (Q2y G i0) i1) (Q2y G i0) (r 55) (r 52) (r 54) (r 10) (r 0) (r 53) (r 1) (r 44) (r 43) (r 42) (r 4) m) (tr (seqQ (f:=fun r m=>Q1t0 G (Qhw G (Q2y G i0) i1) (r 52) (r 54) (r 10) (r 0) (r 53) (r 1) (r 44) (r 43) (r 42) (r 4) m) (tr (tr seqD (X7 (seqQ (f:=fun r m=>Q1sz G (Qhw G (Q2y G i0) i1) (r 10) (r 12) (r 0) (r 54) (r 53) (r 52) (r 1) (r 44) (r 43) (r 42) (r 4) m) (tr (seqQ (f:=fun r m=>Q1jg G (Qhw G (Q2y G i0) i1) (r 10) (r 0) (r 12) (r 54) (r 53) (r 52) (r 1) (r 44) (r 43) (r 42) (r 4) m))))))))))))))))))))))))))))))))))) (seqQ (f:=fun r m=>Q1t5 G (r 16) (r 15) (r 14) (r 4) (r 5) (r 0) (r 1) m) (tr (X7 (Xc (fun i r m=>Qmv G i (r 16) (r 15) (r 14) (r 4) (r 5) (r 0) (r 1) m) (fun _ _=>rfl) (fun i0=>tr (seqQ (f:=fun r m=>Q1t4 G (Qmv G i0) (r 17) (r 14) (r 16) (r 4) (r 5) (r 15) (r 0) (r 1) m) (tr (seqQ (f:=fun r m=>Q1t3 G (Qmv G i0) (r 14) (r 16) (r 4) (r 5) (r 15) (r 0) (r 1) m) (tr (seqQ (f:=fun r m=>Q1jh G (Qmv G i0) (r 16) (r 15) (r 14) (r 4) (r 5) (r 0) (r 1) m))))))))))))))))) m
def Q29l:En:=⟨Q22a,Tryz.f103,Tryz.func103,by kernel_rfl,arg2 Q1re,Xf Q29k⟩
def Q135 (G:Gt)(p10 p1 p2:V)(m:M):R:=brb p10 (bp (pur (X4 false 1 p1 m) m) fun x0 m=>bp (pur (X4 true 4 p2 m) m) fun x1 m=>bp (Xa Q8a Qnk 4 1 [(0,x1)] m) fun x2 m=>bp (apS Q8a 4 48 x0 x2 m) fun x3 m=>bp (unt (X8 1 p1 x3 m)) fun _ m=>some (.tuple ⟨[]⟩,m)) (some (.tuple ⟨[]⟩,m))
def Q1kf (G:Gt)(p2 p1:V)(m:M):R:=bp (pur (X0 2 p2) m) fun x4 m=>bp (pur (X4 false 1 x4 m) m) fun x5 m=>brb x5 (Q135 G (.bool true) p1 p2 m) (bp (pur (X0 3 p2) m) fun x6 m=>bp (pur (X4 false 1 x6 m) m) fun x7 m=>bp (pur (lenK 1 x7 m) m) fun x8 m=>bp (pur (bin .gtr true true .int x8 (.int .i64 0)) m) fun x9 m=>Q135 G x9 p1 p2 m)
def Q1cg (G:Gt)(p0 p1:V)(m:M):R:=bp (some (aNew Q8a (Value.cells p0).toList m)) fun x10 m=>Q1kf G x10 p1 m
theorem Q22b (G:Gt)(a0 a1:V)(m:M):ef G Tryz.f104 [a0,a1] m = Q1cg G a0 a1 m:=X6 (r:=fun r m=>Q1cg G (r 0) (r 1) m) rfl rfl (tr (seqQ (f:=fun r m=>Q1kf G (r 2) (r 1) m) (tr (seqQ (f:=fun r m=>Q135 G (r 10) (r 1) (r 2) m))))) m
def Q22c:En:=⟨Q1no,Tryz.f104,Tryz.func104,by kernel_rfl,arg2 Q1cg,Xf Q22b⟩
def Qwd (G:Gt)(p3:V)(m:M):R:=some (p3,m)
def Qiz (G:Gt)(k0:J3)(p4 p0 p3:V)(m:M):R:=bp (pur (bin .add true true .int p4 (.int .i64 1)) m) fun x0 m=>k0 x0 p0 p3 m
def Qcp (G:Gt)(k0:J3)(p38 p3 p0 p4:V)(m:M):R:=brb p38 (bp (pur (X3 9 p0 p4) m) fun x1 m=>bp (pur (X0 0 x1) m) fun x2 m=>bp (pur (X4 true 2 x2 m) m) fun x3 m=>bp (Xa Qs Q1c 2 1 [(0,x3)] m) fun x4 m=>bp (apS Qs 2 16 p3 x4 m) fun x5 m=>Qiz G k0 p4 p0 x5 m) (Qiz G k0 p4 p0 p3 m)
def Qwe (G:Gt)(k0:J3)(p0 p4 p3:V)(m:M):R:=bp (pur (X3 9 p0 p4) m) fun x6 m=>bp (pur (X0 0 x6) m) fun x7 m=>bp (pur (X4 true 2 x7 m) m) fun x8 m=>bp (G.tab Q5t [x8] m) fun x9 m=>bp (pur (bin .eql true true .int x9 (.int .i64 0)) m) fun x10 m=>brt x10 (bp (pur (lenK 1 p3 m) m) fun x11 m=>bp (pur (bin .eql true true .int x11 (.int .i64 0)) m) fun x12 m=>brt x12 (Qcp G k0 (.bool true) p3 p0 p4 m) (bp (pur (lenK 1 p3 m) m) fun x13 m=>bp (pur (bin .sub true true .int x13 (.int .i64 1)) m) fun x14 m=>bp (pur (X3 2 p3 x14) m) fun x15 m=>bp (pur (X4 true 2 x15 m) m) fun x16 m=>bp (pur (X3 9 p0 p4) m) fun x17 m=>bp (pur (X0 0 x17) m) fun x18 m=>bp (pur (X4 true 2 x18 m) m) fun x19 m=>bp (pur (bin .neq false true (.struct [(0,1,false,.int),(1,1,false,.int)]) x16 x19) m) fun x20 m=>Qcp G k0 x20 p3 p0 p4 m) (none)) (Qcp G k0 (.bool false) p3 p0 p4 m) (none)
def Q4b (G:Gt):Nat→V→V→V→M→R
 | 0,_,_,_,_=>none
 | i + 1,p4,p0,p3,m=>bp (pur (lenK 1 p0 m) m) fun x21 m=>bp (pur (bin .lss false true .int p4 x21) m) fun x22 m=>brb x22 (Qwe G (Q4b G i) p0 p4 p3 m) (Qwd G p3 m)
def Qwf (G:Gt)(p4 p0 p3:V)(m:M):R:=Q4b G G.rds p4 p0 p3 m
def Qwg (G:Gt)(p0 p3:V)(m:M):R:=Qwf G (.int .i64 0) p0 p3 m
def Qwh (G:Gt)(p0:V)(m:M):R:=Qwg G p0 (.slice none 0 0) m
def Qwi (G:Gt)(p0:V)(m:M):R:=bp (G.tab Qus [p0] m) fun x23 m=>Qwh G x23 m
def Qm7 (G:Gt)(p0:V)(m:M):R:=Qwi G p0 m
theorem Q1n3 (G:Gt)(a0:V)(m:M):ef G Tryz.f105 [a0] m = Qm7 G a0 m:=X6 (r:=fun r m=>Qm7 G (r 0) m) rfl rfl (tr (seqQ (f:=fun r m=>Qwi G (r 0) m) (tr (seqQ (f:=fun r m=>Qwh G (r 0) m) (tr (seqQ (f:=fun r m=>Qwg G (r 0) (r 3) m) (tr (tr (seqQ (f:=fun r m=>Qwd G (r 3) m)) (seqQ (f:=fun r m=>Qwf G (r 4) (r 0) (r 3) m) (tr (X7 (Xc (fun i r m=>Q4b G i (r 4) (r 0) (r 3) m) (fun _ _=>rfl) (fun i0=>tr (seqQ (f:=fun r m=>Qwe G (Q4b G i0) (r 0) (r 4) (r 3) m) (tr (tr (seqQ (f:=fun r m=>Qiz G (Q4b G i0) (r 4) (r 0) (r 3) m)) (X7 (seqQ (f:=fun r m=>Qcp G (Q4b G i0) (r 38) (r 3) (r 0) (r 4) m))))))))))))))))))) m
def Q1n4:En:=⟨Q11d,Tryz.f105,Tryz.func105,by kernel_rfl,arg1 Qm7,Xk Q1n3⟩
def Q1ch (G:Gt)(p6 p4:V)(m:M):R:=bp (pur (X4 true 4 p6 m) m) fun x0 m=>bp (pur (X0 3 p6) m) fun x1 m=>bp (pur (X4 false 1 x1 m) m) fun x2 m=>bp (pur (lenK 1 x2 m) m) fun x3 m=>bp (pur (bin .gtr true true .int x3 (.int .i64 0)) m) fun x4 m=>bp (unt (X8 4 p4 x0 m)) fun _ m=>ckB (again (pur (X4 false 1 x1 m) m) x2 && true) (ob (ob (X4 true 4 p4 m) fun v=>ob (some [x4]) fun l=>some (v :: l)) fun l=>some (X1c l,m))
def Qs6 (G:Gt)(k0:J5)(p7 p0 p3 p4 p6:V)(m:M):R:=bp (pur (bin .add true true .int p7 (.int .i64 1)) m) fun x5 m=>k0 x5 p0 p3 p4 p6 m
def Qpd (G:Gt)(k0:J5):Nat→V→V→V→V→V→V→V→M→R
 | 0,_,_,_,_,_,_,_,_=>none
 | i + 1,p9,p8,p6,p7,p0,p3,p4,m=>bp (pur (lenK 1 p8 m) m) fun x6 m=>bp (pur (bin .lss false true .int p9 x6) m) fun x7 m=>brb x7 (bp (pur (X0 3 p6) m) fun x8 m=>bp (pur (X4 false 1 x8 m) m) fun x9 m=>bp (pur (X3 2 p8 p9) m) fun x10 m=>bp (pur (X4 true 2 x10 m) m) fun x11 m=>bp (G.tab Qy8 [x9,x11] m) fun x12 m=>bp (pur (X0 3 p6) m) fun x13 m=>bp (unt (X8 1 x13 x12 m)) fun _ m=>bp (pur (bin .add true true .int p9 (.int .i64 1)) m) fun x14 m=>(Qpd G k0 i) x14 p8 p6 p7 p0 p3 p4 m) (Qs6 G k0 p7 p0 p3 p4 p6 m)
def Q18p (G:Gt)(k0:J5)(p9 p8 p6 p7 p0 p3 p4:V)(m:M):R:=Qpd G k0 G.rds p9 p8 p6 p7 p0 p3 p4 m
def Q1ci (G:Gt)(k0:J5)(p8 p6 p7 p0 p3 p4:V)(m:M):R:=Q18p G k0 (.int .i64 0) p8 p6 p7 p0 p3 p4 m
def Q1cj (G:Gt)(k0:J5)(p0 p7 p6 p3 p4:V)(m:M):R:=bp (pur (X3 9 p0 p7) m) fun x15 m=>bp (pur (X4 true 9 x15 m) m) fun x16 m=>bp (G.tab Q1i5 [p0,x16] m) fun x17 m=>Q1ci G k0 x17 p6 p7 p0 p3 p4 m
def Q1ck (G:Gt)(k0:J5)(p0 p7 p3 p4 p6:V)(m:M):R:=bp (pur (X3 9 p0 p7) m) fun x18 m=>bp (pur (X0 8 x18) m) fun x19 m=>bp (pur (X4 false 1 x19 m) m) fun x20 m=>brb x20 (bp (pur (X4 true 2 p3 m) m) fun x21 m=>bp (pur (Xe Q8f [(0,2),(2,1),(3,1)] [(0,x21),(1,(.bool true))]) m) fun x22 m=>bp (unt (X8 4 p4 x22 m)) fun _ m=>ob (ob (X4 true 4 p4 m) fun v=>ob (some [(.bool true)]) fun l=>some (v :: l)) fun l=>some (X1c l,m)) (Q1cj G k0 p0 p7 p6 p3 p4 m)
def Q1cl (G:Gt)(k0:J5)(p0 p7 p3 p4 p6:V)(m:M):R:=bp (pur (X3 9 p0 p7) m) fun x23 m=>bp (pur (X0 0 x23) m) fun x24 m=>bp (pur (X4 true 2 x24 m) m) fun x25 m=>bp (pur (X4 true 2 p3 m) m) fun x26 m=>bp (pur (bin .neq false true (.struct [(0,1,false,.int),(1,1,false,.int)]) x25 x26) m) fun x27 m=>brb x27 (Qs6 G k0 p7 p0 p3 p4 p6 m) (Q1ck G k0 p0 p7 p3 p4 p6 m)
def Q2p (G:Gt):Nat→V→V→V→V→V→M→R
 | 0,_,_,_,_,_,_=>none
 | i + 1,p7,p0,p3,p4,p6,m=>bp (pur (lenK 1 p0 m) m) fun x28 m=>bp (pur (bin .lss false true .int p7 x28) m) fun x29 m=>brb x29 (Q1cl G (Q2p G i) p0 p7 p3 p4 p6 m) (Q1ch G p6 p4 m)
def Q1cm (G:Gt)(p7 p0 p3 p4 p6:V)(m:M):R:=Q2p G G.rds p7 p0 p3 p4 p6 m
def Q1cn (G:Gt)(p0 p3 p4 p6:V)(m:M):R:=Q1cm G (.int .i64 0) p0 p3 p4 p6 m
def Q1co (G:Gt)(p3 p0 p4:V)(m:M):R:=bp (pur (X4 true 2 p3 m) m) fun x30 m=>bp (pur (Xe Q8f [(0,2),(2,1),(3,1)] [(0,x30)]) m) fun x31 m=>bp (some (aNew Qdd Q8f m)) fun x32 m=>bp (unt (X8 4 x32 x31 m)) fun _ m=>Q1cn G p0 p3 p4 x32 m
def Qy9 (G:Gt)(p1 p0:V)(m:M):R:=bp (some (aNew Qs (Value.cells p1).toList m)) fun x33 m=>bp (some (aNew Qdd Q8f m)) fun x34 m=>Q1co G x33 p0 x34 m
theorem Q1ws (G:Gt)(a0 a1:V)(m:M):ef G Tryz.f106 [a0,a1] m = Qy9 G a1 a0 m:=X6 (r:=fun r m=>Qy9 G (r 1) (r 0) m) rfl rfl (tr (seqQ (f:=fun r m=>Q1co G (r 3) (r 0) (r 4) m) (tr (seqQ (f:=fun r m=>Q1cn G (r 0) (r 3) (r 4) (r 6) m) (tr (tr (seqQ (f:=fun r m=>Q1ch G (r 6) (r 4) m)) (seqQ (f:=fun r m=>Q1cm G (r 7) (r 0) (r 3) (r 4) (r 6) m) (tr (X7 (Xc (fun i r m=>Q2p G i (r 7) (r 0) (r 3) (r 4) (r 6) m) (fun _ _=>rfl) (fun i0=>tr (seqQ (f:=fun r m=>Q1cl G (Q2p G i0) (r 0) (r 7) (r 3) (r 4) (r 6) m) (tr (tr (seqQ (f:=fun r m=>Qs6 G (Q2p G i0) (r 7) (r 0) (r 3) (r 4) (r 6) m)) (X7 (seqQ (f:=fun r m=>Q1ck G (Q2p G i0) (r 0) (r 7) (r 3) (r 4) (r 6) m) (tr (seqQ (f:=fun r m=>Q1cj G (Q2p G i0) (r 0) (r 7) (r 6) (r 3) (r 4) m) (tr (seqQ (f:=fun r m=>Q1ci G (Q2p G i0) (r 8) (r 6) (r 7) (r 0) (r 3) (r 4) m) (tr (seqQ (f:=fun r m=>Q18p G (Q2p G i0) (r 9) (r 8) (r 6) (r 7) (r 0) (r 3) (r 4) m) (tr (X7 (Xc (fun i r m=>Qpd G (Q2p G i0) i (r 9) (r 8) (r 6) (r 7) (r 0) (r 3) (r 4) m) (fun _ _=>rfl) (fun i1=>fun r m=>by kernel_rfl)))))))))))))))))))))))))) m
def Q1wt:En:=⟨Q1i6,Tryz.f106,Tryz.func106,by kernel_rfl,arg2 (fun G a0 a1 m=>Qy9 G a1 a0 m),Xf Q1ws⟩
def Q146 (G:Gt)(p20 p0 p1:V)(m:M):R:=brb p20 (some (.tuple ⟨[(.pointer none),(.int .i64 1)]⟩,m)) (bp (pur (Xe Qde [(0,1),(1,1),(2,1)] [(0,(.int .i32 256))]) m) fun x0 m=>bp (pur (Xe Qde [(0,1),(1,1),(2,1)] [(0,(.int .i32 256))]) m) fun x1 m=>bp (Xa Q13 Qde 3 2 [(0,x0),(1,x1)] m) fun x2 m=>bp (some (Xp m)) fun x3 m=>bp (some (Xp m)) fun x4 m=>bp (some (Xp m)) fun x5 m=>bp (unt (Xd .int x5 (.int .i64 0) (.bool true) m)) fun _ m=>bp (unt (Xd .int x5 (.int .i64 1) (.bool true) m)) fun _ m=>bp (some (Xp m)) fun x6 m=>bp (pur (Xe Q28a [(0,1),(1,1),(2,1),(3,1),(4,1),(5,1),(6,1)] [(0,p0),(1,p1),(2,x2),(3,x3),(4,x4),(5,x5),(6,x6)]) m) fun x7 m=>bp (some (aNew Q28b (Value.cells x7).toList m)) fun x8 m=>some (.tuple ⟨[x8,(.int .i64 0)]⟩,m))
def Q20g (G:Gt)(p0 p1:V)(m:M):R:=bp (pur (bin .lss true true .int p0 (.int .i64 0)) m) fun x9 m=>brb x9 (Q146 G (.bool true) p0 p1 m) (bp (pur (bin .gtr true true .int p0 (.int .i64 256)) m) fun x10 m=>brb x10 (Q146 G (.bool true) p0 p1 m) (bp (pur (bin .lss true true .int p1 (.int .i64 0)) m) fun x11 m=>brb x11 (Q146 G (.bool true) p0 p1 m) (bp (pur (bin .gtr true true .int p1 (.int .i64 4194304)) m) fun x12 m=>Q146 G x12 p0 p1 m)))
def Q1wu (G:Gt)(p0 p1:V)(m:M):R:=Q20g G p0 p1 m
theorem Q2as (G:Gt)(a0 a1:V)(m:M):ef G Tryz.f107 [a0,a1] m = Q1wu G a0 a1 m:=X6 (r:=fun r m=>Q1wu G (r 0) (r 1) m) rfl rfl (tr (seqQ (f:=fun r m=>Q20g G (r 0) (r 1) m) (tr (tr seqD (seqQ (f:=fun r m=>Q146 G (r 20) (r 0) (r 1) m)))))) m
def Q2at:En:=⟨Q24k,Tryz.f107,Tryz.func107,by kernel_rfl,arg2 Q1wu,Xf Q2as⟩
end
end Go.Ab.Sh

set_option linter.unusedVariables false
set_option maxRecDepth 100000
namespace Go.Ab.Sh
open Go Go.Ab Go.Proofs
noncomputable section
def Q17u (G:Gt)(p0:V)(m:M):R:=bp (pur (binP m .eql true true .ptr p0 (.pointer none)) m) fun x0 m=>brb x0 (some ((.pointer none),m)) (bp (pur (X9 p0) m) fun x1 m=>bp (pur (X0 0 x1) m) fun x2 m=>bp (pur (X4 false 1 x2 m) m) fun x3 m=>some (x3,m))
theorem Q212 (G:Gt)(a0:V)(m:M):ef G Tryz.f108 [a0] m = Q17u G a0 m:=X6 (r:=fun r m=>Q17u G (r 0) m) rfl rfl (fun r m=>by kernel_rfl) m
def Q213:En:=⟨Q17v,Tryz.f108,Tryz.func108,by kernel_rfl,arg1 Q17u,Xk Q212⟩
def Q136 (G:Gt)(p0:V)(m:M):R:=bp (pur (binP m .eql true true .ptr p0 (.pointer none)) m) fun x0 m=>brb x0 (some (.tuple ⟨[(.int .i64 0),(.int .i64 2)]⟩,m)) (bp (pur (Xe Qs7 [(0,1),(1,1)] []) m) fun x1 m=>bp (G.tab Q1kg [p0,x1] m) fun x2 m=>bp (pur (X5 x2 0) m) fun x3 m=>bp (pur (X5 x2 1) m) fun x4 m=>some (.tuple ⟨[x3,x4]⟩,m))
theorem Q1z9 (G:Gt)(a0:V)(m:M):ef G Tryz.f109 [a0] m = Q136 G a0 m:=X6 (r:=fun r m=>Q136 G (r 0) m) rfl rfl (fun r m=>by kernel_rfl) m
def Q1za:En:=⟨Q1kh,Tryz.f109,Tryz.func109,by kernel_rfl,arg1 Q136,Xk Q1z9⟩
def Q1cp (G:Gt)(p3:V)(m:M):R:=some (p3,m)
def Q1cq (G:Gt)(k0:J4)(p15 p14 p13 p3:V)(m:M):R:=bp (pur (bin .add true true .int p15 (.int .i64 1)) m) fun x0 m=>k0 x0 p14 p13 p3 m
def Qpe (G:Gt)(k1:J8)(p23 p22 p21 p3 p4 p15 p14 p13:V)(m:M):R:=bp (pur (bin .add true true .int p23 (.int .i64 1)) m) fun x1 m=>k1 x1 p22 p21 p3 p4 p15 p14 p13 m
def Q18q (G:Gt)(k1:J8)(p23 p21 p3 p4 p22 p15 p14 p13:V)(m:M):R:=bp (pur (X3 11 p21 p23) m) fun x2 m=>bp (pur (X4 true 11 x2 m) m) fun x3 m=>bp (some (aNew Q1i Q3q m)) fun x4 m=>bp (unt (X8 11 x4 x3 m)) fun _ m=>bp (pur (X4 true 11 x4 m) m) fun x5 m=>bp (G.tab Qya [x5] m) fun x6 m=>brb x6 (bp (pur (Xe Q1e [(0,1),(1,1)] [(0,p4),(1,p23)]) m) fun x7 m=>bp (Xa Q7 Q1e 2 1 [(0,x7)] m) fun x8 m=>bp (apS Q7 2 16 p3 x8 m) fun x9 m=>Qpe G k1 p23 p22 p21 x9 p4 p15 p14 p13 m) (Qpe G k1 p23 p22 p21 p3 p4 p15 p14 p13 m)
def Q18r (G:Gt)(k1:J8)(k0:J4)(p24 p23 p21 p3 p4 p22 p15 p14 p13:V)(m:M):R:=brb p24 (Q18q G k1 p23 p21 p3 p4 p22 p15 p14 p13 m) (Q1cq G k0 p15 p14 p13 p3 m)
def Q7b (G:Gt)(k0:J4):Nat→V→V→V→V→V→V→V→V→M→R
 | 0,_,_,_,_,_,_,_,_,_=>none
 | i + 1,p23,p22,p21,p3,p4,p15,p14,p13,m=>bp (pur (bin .lss false true .int p23 p22) m) fun x10 m=>Q18r G (Q7b G k0 i) k0 x10 p23 p21 p3 p4 p22 p15 p14 p13 m
def Q18s (G:Gt)(k0:J4)(p23 p22 p21 p3 p4 p15 p14 p13:V)(m:M):R:=Q7b G k0 G.rds p23 p22 p21 p3 p4 p15 p14 p13 m
def Q1cr (G:Gt)(k0:J4)(p5 p3 p4 p15 p14 p13:V)(m:M):R:=bp (pur (X0 3 p5) m) fun x11 m=>bp (pur (X4 false 1 x11 m) m) fun x12 m=>bp (pur (lenK 1 x12 m) m) fun x13 m=>Q18s G k0 (.int .i64 0) x13 x12 p3 p4 p15 p14 p13 m
def Q1cs (G:Gt)(k0:J4)(p15 p13 p3 p14:V)(m:M):R:=bp (pur (X3 12 p13 p15) m) fun x14 m=>bp (pur (X4 true 12 x14 m) m) fun x15 m=>bp (some (aNew Q4 Q1l m)) fun x16 m=>bp (unt (X8 12 x16 x15 m)) fun _ m=>Q1cr G k0 x16 p3 p15 p15 p14 p13 m
def Q1ct (G:Gt)(k0:J4)(p16 p15 p13 p3 p14:V)(m:M):R:=brb p16 (Q1cs G k0 p15 p13 p3 p14 m) (Q1cp G p3 m)
def Q1h (G:Gt):Nat→V→V→V→V→M→R
 | 0,_,_,_,_,_=>none
 | i + 1,p15,p14,p13,p3,m=>bp (pur (bin .lss false true .int p15 p14) m) fun x17 m=>Q1ct G (Q1h G i) x17 p15 p13 p3 p14 m
def Q1cu (G:Gt)(p15 p14 p13 p3:V)(m:M):R:=Q1h G G.rds p15 p14 p13 p3 m
def Q1cv (G:Gt)(p0 p3:V)(m:M):R:=bp (pur (X9 p0) m) fun x18 m=>bp (pur (X0 1 x18) m) fun x19 m=>bp (pur (X4 false 1 x19 m) m) fun x20 m=>bp (pur (lenK 1 x20 m) m) fun x21 m=>Q1cu G (.int .i64 0) x21 x20 p3 m
def Q1cw (G:Gt)(p0:V)(m:M):R:=Q1cv G p0 (.slice none 0 0) m
def Q1cx (G:Gt)(p0:V)(m:M):R:=bp (pur (binP m .eql true true .ptr p0 (.pointer none)) m) fun x22 m=>brb x22 (some ((.slice none 0 0),m)) (Q1cw G p0 m)
def Qyb (G:Gt)(p0:V)(m:M):R:=Q1cx G p0 m
theorem Q1wv (G:Gt)(a0:V)(m:M):ef G Tryz.f110 [a0] m = Qyb G a0 m:=X6 (r:=fun r m=>Qyb G (r 0) m) rfl rfl (tr (seqQ (f:=fun r m=>Q1cx G (r 0) m) (tr (seqQ (f:=fun r m=>Q1cw G (r 0) m) (tr (seqQ (f:=fun r m=>Q1cv G (r 0) (r 3) m) (tr (tr (seqQ (f:=fun r m=>Q1cp G (r 3) m)) (seqQ (f:=fun r m=>Q1cu G (r 15) (r 14) (r 13) (r 3) m) (tr (X7 (Xc (fun i r m=>Q1h G i (r 15) (r 14) (r 13) (r 3) m) (fun _ _=>rfl) (fun i0=>tr (seqQ (f:=fun r m=>Q1ct G (Q1h G i0) (r 16) (r 15) (r 13) (r 3) (r 14) m) (tr (seqQ (f:=fun r m=>Q1cs G (Q1h G i0) (r 15) (r 13) (r 3) (r 14) m) (tr (tr (seqQ (f:=fun r m=>Q1cq G (Q1h G i0) (r 15) (r 14) (r 13) (r 3) m)) (X7 (seqQ (f:=fun r m=>Q1cr G (Q1h G i0) (r 5) (r 3) (r 4) (r 15) (r 14) (r 13) m) (tr (seqQ (f:=fun r m=>Q18s G (Q1h G i0) (r 23) (r 22) (r 21) (r 3) (r 4) (r 15) (r 14) (r 13) m) (tr (X7 (Xc (fun i r m=>Q7b G (Q1h G i0) i (r 23) (r 22) (r 21) (r 3) (r 4) (r 15) (r 14) (r 13) m) (fun _ _=>rfl) (fun i1=>tr (seqQ (f:=fun r m=>Q18r G (Q7b G (Q1h G i0) i1) (Q1h G i0) (r 24) (r 23) (r 21) (r 3) (r 4) (r 22) (r 15) (r 14) (r 13) m) (tr (seqQ (f:=fun r m=>Q18q G (Q7b G (Q1h G i0) i1) (r 23) (r 21) (r 3) (r 4) (r 22) (r 15) (r 14) (r 13) m) (tr (seqQ (f:=fun r m=>Qpe G (Q7b G (Q1h G i0) i1) (r 23) (r 22) (r 21) (r 3) (r 4) (r 15) (r 14) (r 13) m)))))))))))))))))))))))))))))))) m
def Q1ww:En:=⟨Q1i7,Tryz.f110,Tryz.func110,by kernel_rfl,arg1 Qyb,Xk Q1wv⟩
end
end Go.Ab.Sh
