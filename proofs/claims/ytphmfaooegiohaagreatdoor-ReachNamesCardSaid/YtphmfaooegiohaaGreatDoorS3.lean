/-
  Functions of the program as plain definitions. No conditions.
-/
import Derived.Test.YtphmfaooegiohaaGreatDoorAb5
import Derived.Test.YtphmfaooegiohaaGreatDoorZ
import Derived.KernelRfl
import Derived.Test.YtphmfaooegiohaaGreatDoorProg
set_option linter.unusedVariables false
set_option maxRecDepth 100000
namespace Go.Ab.Sh
open Go Go.Ab Go.Proofs
noncomputable section
def Qj2 (G:Gt)(m:M):R:=some ((.int .i64 0),m)
def Q18 (G:Gt):Nat→V→V→V→V→M→R
 | 0,_,_,_,_,_=>none
 | i + 1,p11,p10,p9,p0,m=>bp (pur (bin .lss false true .int p11 p10) m) fun x0 m=>brb x0 (bp (pur (X3 1 p9 p11) m) fun x1 m=>bp (pur (X4 false 1 x1 m) m) fun x2 m=>bp (pur (X9 p0) m) fun x3 m=>bp (pur (X0 5 x3) m) fun x4 m=>bp (pur (X4 false 1 x4 m) m) fun x5 m=>bp (pur (Xg .int (.bool false) false x5 x2 m) m) fun x6 m=>bp (pur (un .not x6) m) fun x7 m=>brb x7 (some ((.int .i64 1),m)) (bp (pur (bin .add true true .int p11 (.int .i64 1)) m) fun x8 m=>(Q18 G i) x8 p10 p9 p0 m)) (Qj2 G m)
def Qj5 (G:Gt)(p11 p10 p9 p0:V)(m:M):R:=Q18 G G.rds p11 p10 p9 p0 m
def Qj4 (G:Gt)(p1 p0:V)(m:M):R:=bp (pur (lenK 1 p1 m) m) fun x9 m=>Qj5 G (.int .i64 0) x9 p1 p0 m
def Qj3 (G:Gt)(p0 p1:V)(m:M):R:=bp (pur (binP m .eql true true .ptr p0 (.pointer none)) m) fun x10 m=>brb x10 (some ((.int .i64 2),m)) (Qj4 G p1 p0 m)
def Q36 (G:Gt)(p0 p1:V)(m:M):R:=Qj3 G p0 p1 m
theorem Q1yl (G:Gt)(a0 a1:V)(m:M):ef G Tryz.f56 [a0,a1] m = Q36 G a0 a1 m:=X6 (r:=fun r m=>Q36 G (r 0) (r 1) m) rfl rfl (tr (seqQ (f:=fun r m=>Qj3 G (r 0) (r 1) m) (tr (seqQ (f:=fun r m=>Qj4 G (r 1) (r 0) m) (tr (tr (seqQ (f:=fun r m=>Qj2 G m)) (seqQ (f:=fun r m=>Qj5 G (r 11) (r 10) (r 9) (r 0) m) (tr (X7 (Xc (fun i r m=>Q18 G i (r 11) (r 10) (r 9) (r 0) m) (fun _ _=>rfl) (fun i0=>fun r m=>by kernel_rfl))))))))))) m
def Qzw:En:=⟨Q35,Tryz.f56,Tryz.func56,by kernel_rfl,arg2 Q36,Xf Q1yl⟩
def Q7l (G:Gt)(p0 p1 p2 p3:V)(m:M):R:=bp (pur (X9 p0) m) fun x0 m=>bp (pur (X0 2 x0) m) fun x1 m=>bp (pur (X4 false 1 x1 m) m) fun x2 m=>bp (pur (X3 3 x2 p1) m) fun x3 m=>bp (pur (X4 true 3 x3 m) m) fun x4 m=>bp (some (aNew Q13 Qde m)) fun x5 m=>bp (unt (X8 3 x5 x4 m)) fun _ m=>bp (pur (X0 0 x5) m) fun x6 m=>bp (pur (X4 false 1 x6 m) m) fun x7 m=>bp (pur (bin .neq false true .int x7 p2) m) fun x8 m=>brb x8 (some (p1,m)) (brb p3 (bp (pur (X0 2 x5) m) fun x9 m=>bp (pur (X4 false 1 x9 m) m) fun x10 m=>some (x10,m)) (bp (pur (X0 1 x5) m) fun x11 m=>bp (pur (X4 false 1 x11 m) m) fun x12 m=>some (x12,m)))
theorem Q21g (G:Gt)(a0 a1 a2 a3:V)(m:M):ef G Tryz.f57 [a0,a1,a2,a3] m = Q7l G a0 a1 a2 a3 m:=X6 (r:=fun r m=>Q7l G (r 0) (r 1) (r 2) (r 3) m) rfl rfl (fun r m=>by kernel_rfl) m
def Q18f:En:=⟨Qbw,Tryz.f57,Tryz.func57,by kernel_rfl,arg4 Q7l,X19 Q21g⟩
def Q1j0 (G:Gt)(p13:V)(m:M):R:=bp (G.tab Qu3 [p13,(.func (.func Q1ik) #[] #[])] m) fun x0 m=>some (.tuple ⟨[p13,(.int .i64 0),(.int .i64 0)]⟩,m)
def Q1gc (G:Gt)(k0:J8)(p16 p14 p13 p15 p49 p48 p47 p9 p10 p11 p12:V)(m:M):R:=brb p16 (some (.tuple ⟨[(.slice none 0 0),p14,(.int .i64 121)]⟩,m)) (bp (pur (X4 true 12 p15 m) m) fun x1 m=>bp (G.tab Q1xc [x1] m) fun x2 m=>bp (Xa Q4 Q1l 12 1 [(0,x2)] m) fun x3 m=>bp (apS Q4 12 264 p13 x3 m) fun x4 m=>bp (pur (bin .add true true .int p49 (.int .i64 1)) m) fun x5 m=>k0 x5 p48 p47 p9 p10 p11 p12 x4 m)
def Qvt (G:Gt)(k1:J14)(p111 p110 p109 p12 p16 p14 p13 p15 p49 p48 p47 p9 p10 p11:V)(m:M):R:=bp (pur (bin .add true true .int p111 (.int .i64 1)) m) fun x6 m=>k1 x6 p110 p109 p12 p16 p14 p13 p15 p49 p48 p47 p9 p10 p11 m
def Q1gd (G:Gt)(k1:J14)(p109 p111 p12 p16 p110 p14 p13 p15 p49 p48 p47 p9 p10 p11:V)(m:M):R:=bp (pur (X3 6 p109 p111) m) fun x7 m=>bp (pur (X4 true 6 x7 m) m) fun x8 m=>bp (some (aNew Qrl Q18w m)) fun x9 m=>bp (unt (X8 6 x9 x8 m)) fun _ m=>bp (pur (X0 2 x9) m) fun x10 m=>bp (pur (X4 false 1 x10 m) m) fun x11 m=>bp (pur (Xg .int (.int .i64 0) false p12 x11 m) m) fun x12 m=>bp (pur (bin .add true true .int x12 (.int .i64 1)) m) fun x13 m=>bp (unt (Xd .int p12 x11 x13 m)) fun _ m=>brb p16 (Qvt G k1 p111 p110 p109 p12 (.bool true) p14 p13 p15 p49 p48 p47 p9 p10 p11 m) (bp (pur (X0 2 x9) m) fun x14 m=>bp (pur (X4 false 1 x14 m) m) fun x15 m=>bp (pur (Xg .int (.int .i64 0) false p12 x15 m) m) fun x16 m=>bp (pur (bin .gtr true true .int x16 (.int .i64 1)) m) fun x17 m=>Qvt G k1 p111 p110 p109 p12 x17 p14 p13 p15 p49 p48 p47 p9 p10 p11 m)
def Q1ge (G:Gt)(k1:J14)(k0:J8)(p112 p109 p111 p12 p16 p110 p14 p13 p15 p49 p48 p47 p9 p10 p11:V)(m:M):R:=brb p112 (Q1gd G k1 p109 p111 p12 p16 p110 p14 p13 p15 p49 p48 p47 p9 p10 p11 m) (Q1gc G k0 p16 p14 p13 p15 p49 p48 p47 p9 p10 p11 p12 m)
def Q9f (G:Gt)(k0:J8):Nat→V→V→V→V→V→V→V→V→V→V→V→V→V→V→M→R
 | 0,_,_,_,_,_,_,_,_,_,_,_,_,_,_,_=>none
 | i + 1,p111,p110,p109,p12,p16,p14,p13,p15,p49,p48,p47,p9,p10,p11,m=>bp (pur (bin .lss false true .int p111 p110) m) fun x18 m=>Q1ge G (Q9f G k0 i) k0 x18 p109 p111 p12 p16 p110 p14 p13 p15 p49 p48 p47 p9 p10 p11 m
def Q1gf (G:Gt)(k0:J8)(p111 p110 p109 p12 p16 p14 p13 p15 p49 p48 p47 p9 p10 p11:V)(m:M):R:=Q9f G k0 G.rds p111 p110 p109 p12 p16 p14 p13 p15 p49 p48 p47 p9 p10 p11 m
def Q1gg (G:Gt)(k0:J8)(p15 p12 p16 p14 p13 p49 p48 p47 p9 p10 p11:V)(m:M):R:=bp (pur (X0 11 p15) m) fun x19 m=>bp (pur (X4 false 1 x19 m) m) fun x20 m=>bp (pur (lenK 1 x20 m) m) fun x21 m=>Q1gf G k0 (.int .i64 0) x21 x20 p12 p16 p14 p13 p15 p49 p48 p47 p9 p10 p11 m
def Qvu (G:Gt)(k1:J14)(p90 p89 p88 p11 p16 p15 p12 p14 p13 p49 p48 p47 p9 p10:V)(m:M):R:=bp (pur (bin .add true true .int p90 (.int .i64 1)) m) fun x22 m=>k1 x22 p89 p88 p11 p16 p15 p12 p14 p13 p49 p48 p47 p9 p10 m
def Q1gh (G:Gt)(k1:J14)(p88 p90 p11 p16 p89 p15 p12 p14 p13 p49 p48 p47 p9 p10:V)(m:M):R:=bp (pur (X3 3 p88 p90) m) fun x23 m=>bp (pur (X4 true 3 x23 m) m) fun x24 m=>bp (some (aNew Qsi Q115 m)) fun x25 m=>bp (unt (X8 3 x25 x24 m)) fun _ m=>bp (pur (X0 1 x25) m) fun x26 m=>bp (pur (X4 false 1 x26 m) m) fun x27 m=>bp (pur (Xg .int (.int .i64 0) false p11 x27 m) m) fun x28 m=>bp (pur (bin .add true true .int x28 (.int .i64 1)) m) fun x29 m=>bp (unt (Xd .int p11 x27 x29 m)) fun _ m=>brb p16 (Qvu G k1 p90 p89 p88 p11 (.bool true) p15 p12 p14 p13 p49 p48 p47 p9 p10 m) (bp (pur (X0 1 x25) m) fun x30 m=>bp (pur (X4 false 1 x30 m) m) fun x31 m=>bp (pur (Xg .int (.int .i64 0) false p11 x31 m) m) fun x32 m=>bp (pur (bin .gtr true true .int x32 (.int .i64 1)) m) fun x33 m=>Qvu G k1 p90 p89 p88 p11 x33 p15 p12 p14 p13 p49 p48 p47 p9 p10 m)
def Q1gi (G:Gt)(k1:J14)(k0:J8)(p91 p88 p90 p11 p16 p89 p15 p12 p14 p13 p49 p48 p47 p9 p10:V)(m:M):R:=brb p91 (Q1gh G k1 p88 p90 p11 p16 p89 p15 p12 p14 p13 p49 p48 p47 p9 p10 m) (Q1gg G k0 p15 p12 p16 p14 p13 p49 p48 p47 p9 p10 p11 m)
def Q9g (G:Gt)(k0:J8):Nat→V→V→V→V→V→V→V→V→V→V→V→V→V→V→M→R
 | 0,_,_,_,_,_,_,_,_,_,_,_,_,_,_,_=>none
 | i + 1,p90,p89,p88,p11,p16,p15,p12,p14,p13,p49,p48,p47,p9,p10,m=>bp (pur (bin .lss false true .int p90 p89) m) fun x34 m=>Q1gi G (Q9g G k0 i) k0 x34 p88 p90 p11 p16 p89 p15 p12 p14 p13 p49 p48 p47 p9 p10 m
def Q1gj (G:Gt)(k0:J8)(p90 p89 p88 p11 p16 p15 p12 p14 p13 p49 p48 p47 p9 p10:V)(m:M):R:=Q9g G k0 G.rds p90 p89 p88 p11 p16 p15 p12 p14 p13 p49 p48 p47 p9 p10 m
def Q1gk (G:Gt)(k0:J8)(p15 p11 p16 p12 p14 p13 p49 p48 p47 p9 p10:V)(m:M):R:=bp (pur (X0 10 p15) m) fun x35 m=>bp (pur (X4 false 1 x35 m) m) fun x36 m=>bp (pur (lenK 1 x36 m) m) fun x37 m=>Q1gj G k0 (.int .i64 0) x37 x36 p11 p16 p15 p12 p14 p13 p49 p48 p47 p9 p10 m
def Qlt (G:Gt)(k1:J14)(p67 p66 p65 p10 p16 p15 p11 p12 p14 p13 p49 p48 p47 p9:V)(m:M):R:=bp (pur (bin .add true true .int p67 (.int .i64 1)) m) fun x38 m=>k1 x38 p66 p65 p10 p16 p15 p11 p12 p14 p13 p49 p48 p47 p9 m
def Q1gl (G:Gt)(k1:J14)(p65 p67 p10 p16 p66 p15 p11 p12 p14 p13 p49 p48 p47 p9:V)(m:M):R:=bp (pur (X3 11 p65 p67) m) fun x39 m=>bp (pur (X4 true 11 x39 m) m) fun x40 m=>bp (some (aNew Q1i Q3q m)) fun x41 m=>bp (unt (X8 11 x41 x40 m)) fun _ m=>bp (pur (X4 true 11 x41 m) m) fun x42 m=>bp (G.tab Q1tg [x42] m) fun x43 m=>brb x43 (bp (pur (X0 2 x41) m) fun x44 m=>bp (pur (X4 false 1 x44 m) m) fun x45 m=>bp (pur (Xg .int (.int .i64 0) false p10 x45 m) m) fun x46 m=>bp (pur (bin .add true true .int x46 (.int .i64 1)) m) fun x47 m=>bp (unt (Xd .int p10 x45 x47 m)) fun _ m=>brb p16 (Qlt G k1 p67 p66 p65 p10 (.bool true) p15 p11 p12 p14 p13 p49 p48 p47 p9 m) (bp (pur (X0 2 x41) m) fun x48 m=>bp (pur (X4 false 1 x48 m) m) fun x49 m=>bp (pur (Xg .int (.int .i64 0) false p10 x49 m) m) fun x50 m=>bp (pur (bin .gtr true true .int x50 (.int .i64 1)) m) fun x51 m=>Qlt G k1 p67 p66 p65 p10 x51 p15 p11 p12 p14 p13 p49 p48 p47 p9 m)) (Qlt G k1 p67 p66 p65 p10 p16 p15 p11 p12 p14 p13 p49 p48 p47 p9 m)
def Q1gm (G:Gt)(k1:J14)(k0:J8)(p68 p65 p67 p10 p16 p66 p15 p11 p12 p14 p13 p49 p48 p47 p9:V)(m:M):R:=brb p68 (Q1gl G k1 p65 p67 p10 p16 p66 p15 p11 p12 p14 p13 p49 p48 p47 p9 m) (Q1gk G k0 p15 p11 p16 p12 p14 p13 p49 p48 p47 p9 p10 m)
def Q9h (G:Gt)(k0:J8):Nat→V→V→V→V→V→V→V→V→V→V→V→V→V→V→M→R
 | 0,_,_,_,_,_,_,_,_,_,_,_,_,_,_,_=>none
 | i + 1,p67,p66,p65,p10,p16,p15,p11,p12,p14,p13,p49,p48,p47,p9,m=>bp (pur (bin .lss false true .int p67 p66) m) fun x52 m=>Q1gm G (Q9h G k0 i) k0 x52 p65 p67 p10 p16 p66 p15 p11 p12 p14 p13 p49 p48 p47 p9 m
def Q1gn (G:Gt)(k0:J8)(p67 p66 p65 p10 p16 p15 p11 p12 p14 p13 p49 p48 p47 p9:V)(m:M):R:=Q9h G k0 G.rds p67 p66 p65 p10 p16 p15 p11 p12 p14 p13 p49 p48 p47 p9 m
def Q1go (G:Gt)(k0:J8)(p15 p10 p16 p11 p12 p14 p13 p49 p48 p47 p9:V)(m:M):R:=bp (pur (X0 3 p15) m) fun x53 m=>bp (pur (X4 false 1 x53 m) m) fun x54 m=>bp (pur (lenK 1 x54 m) m) fun x55 m=>Q1gn G k0 (.int .i64 0) x55 x54 p10 p16 p15 p11 p12 p14 p13 p49 p48 p47 p9 m
def Q1gp (G:Gt)(k0:J8)(p9 p15 p10 p11 p12 p14 p13 p49 p48 p47:V)(m:M):R:=bp (pur (X0 0 p15) m) fun x56 m=>bp (pur (X4 false 1 x56 m) m) fun x57 m=>bp (pur (Xg .str (.int .i64 0) false p9 x57 m) m) fun x58 m=>bp (pur (bin .gtr true true .int x58 (.int .i64 1)) m) fun x59 m=>Q1go G k0 p15 p10 x59 p11 p12 p14 p13 p49 p48 p47 p9 m
def Q1gq (G:Gt)(k0:J8)(p9 p15 p10 p11 p12 p14 p13 p49 p48 p47:V)(m:M):R:=bp (pur (X0 0 p15) m) fun x60 m=>bp (pur (X4 false 1 x60 m) m) fun x61 m=>bp (pur (Xg .str (.int .i64 0) false p9 x61 m) m) fun x62 m=>bp (pur (bin .add true true .int x62 (.int .i64 1)) m) fun x63 m=>bp (unt (Xd .str p9 x61 x63 m)) fun _ m=>Q1gp G k0 p9 p15 p10 p11 p12 p14 p13 p49 p48 p47 m
def Q1j1 (G:Gt)(k0:J8)(p49 p47 p9 p10 p11 p12 p13 p48:V)(m:M):R:=bp (pur (X3 12 p47 p49) m) fun x64 m=>bp (pur (X4 true 12 x64 m) m) fun x65 m=>bp (some (aNew Q4 Q1l m)) fun x66 m=>bp (unt (X8 12 x66 x65 m)) fun _ m=>Q1gq G k0 p9 x66 p10 p11 p12 p49 p13 p49 p48 p47 m
def Q1j2 (G:Gt)(k0:J8)(p50 p49 p47 p9 p10 p11 p12 p13 p48:V)(m:M):R:=brb p50 (Q1j1 G k0 p49 p47 p9 p10 p11 p12 p13 p48 m) (Q1j0 G p13 m)
def Q5 (G:Gt):Nat→V→V→V→V→V→V→V→V→M→R
 | 0,_,_,_,_,_,_,_,_,_=>none
 | i + 1,p49,p48,p47,p9,p10,p11,p12,p13,m=>bp (pur (bin .lss false true .int p49 p48) m) fun x67 m=>Q1j2 G (Q5 G i) x67 p49 p47 p9 p10 p11 p12 p13 p48 m
def Q1j3 (G:Gt)(p49 p48 p47 p9 p10 p11 p12 p13:V)(m:M):R:=Q5 G G.rds p49 p48 p47 p9 p10 p11 p12 p13 m
def Q1j4 (G:Gt)(p0 p9 p10 p11 p12 p13:V)(m:M):R:=bp (pur (lenK 1 p0 m) m) fun x68 m=>Q1j3 G (.int .i64 0) x68 p0 p9 p10 p11 p12 p13 m
def Q1j5 (G:Gt)(p0 p9 p10 p11 p12:V)(m:M):R:=Q1j4 G p0 p9 p10 p11 p12 (.slice none 0 0) m
def Q1j6 (G:Gt)(p0:V)(m:M):R:=bp (some (Xp m)) fun x69 m=>bp (some (Xp m)) fun x70 m=>bp (some (Xp m)) fun x71 m=>bp (some (Xp m)) fun x72 m=>Q1j5 G p0 x69 x70 x71 x72 m
def Qvv (G:Gt):Nat→V→V→V→V→M→R
 | 0,_,_,_,_,_=>none
 | i + 1,p28,p27,p26,p0,m=>bp (pur (bin .lss false true .int p28 p27) m) fun x73 m=>brb x73 (bp (pur (X3 12 p26 p28) m) fun x74 m=>bp (pur (X4 true 12 x74 m) m) fun x75 m=>bp (some (aNew Q4 Q1l m)) fun x76 m=>bp (unt (X8 12 x76 x75 m)) fun _ m=>bp (pur (X4 true 12 x76 m) m) fun x77 m=>bp (G.tab Q1tf [x77] m) fun x78 m=>bp (pur (X5 x78 0) m) fun x79 m=>bp (pur (X5 x78 1) m) fun x80 m=>bp (pur (bin .neq true true .int x80 (.int .i64 0)) m) fun x81 m=>brb x81 (some (.tuple ⟨[(.slice none 0 0),p28,x80]⟩,m)) (bp (pur (bin .add true true .int p28 (.int .i64 1)) m) fun x82 m=>(Qvv G i) x82 p27 p26 p0 m)) (Q1j6 G p0 m)
def Q1gr (G:Gt)(p28 p27 p26 p0:V)(m:M):R:=Qvv G G.rds p28 p27 p26 p0 m
def Q1j7 (G:Gt)(p0:V)(m:M):R:=bp (pur (lenK 1 p0 m) m) fun x83 m=>Q1gr G (.int .i64 0) x83 p0 p0 m
def Q1j8 (G:Gt)(p0:V)(m:M):R:=bp (pur (lenK 1 p0 m) m) fun x84 m=>bp (pur (bin .gtr true true .int x84 (.int .i64 32)) m) fun x85 m=>brb x85 (some (.tuple ⟨[(.slice none 0 0),(.int .i64 32),(.int .i64 121)]⟩,m)) (Q1j7 G p0 m)
def Q18i (G:Gt)(p0:V)(m:M):R:=Q1j8 G p0 m
theorem Q21h (G:Gt)(a0:V)(m:M):ef G Tryz.f58 [a0] m = Q18i G a0 m:=X6 (r:=fun r m=>Q18i G (r 0) m) rfl rfl (tr (seqQ (f:=fun r m=>Q1j8 G (r 0) m) (tr (seqQ (f:=fun r m=>Q1j7 G (r 0) m) (tr (tr (seqQ (f:=fun r m=>Q1j6 G (r 0) m) (tr (seqQ (f:=fun r m=>Q1j5 G (r 0) (r 9) (r 10) (r 11) (r 12) m) (tr (seqQ (f:=fun r m=>Q1j4 G (r 0) (r 9) (r 10) (r 11) (r 12) (r 13) m) (tr (tr (seqQ (f:=fun r m=>Q1j0 G (r 13) m)) (seqQ (f:=fun r m=>Q1j3 G (r 49) (r 48) (r 47) (r 9) (r 10) (r 11) (r 12) (r 13) m) (tr (X7 (Xc (fun i r m=>Q5 G i (r 49) (r 48) (r 47) (r 9) (r 10) (r 11) (r 12) (r 13) m) (fun _ _=>rfl) (fun i0=>tr (seqQ (f:=fun r m=>Q1j2 G (Q5 G i0) (r 50) (r 49) (r 47) (r 9) (r 10) (r 11) (r 12) (r 13) (r 48) m) (tr (seqQ (f:=fun r m=>Q1j1 G (Q5 G i0) (r 49) (r 47) (r 9) (r 10) (r 11) (r 12) (r 13) (r 48) m) (tr (tr seqD (X7 (seqQ (f:=fun r m=>Q1gq G (Q5 G i0) (r 9) (r 15) (r 10) (r 11) (r 12) (r 14) (r 13) (r 49) (r 48) (r 47) m) (tr (seqQ (f:=fun r m=>Q1gp G (Q5 G i0) (r 9) (r 15) (r 10) (r 11) (r 12) (r 14) (r 13) (r 49) (r 48) (r 47) m) (tr (seqQ (f:=fun r m=>Q1go G (Q5 G i0) (r 15) (r 10) (r 16) (r 11) (r 12) (r 14) (r 13) (r 49) (r 48) (r 47) (r 9) m) (tr (tr (seqQ (f:=fun r m=>Q1gk G (Q5 G i0) (r 15) (r 11) (r 16) (r 12) (r 14) (r 13) (r 49) (r 48) (r 47) (r 9) (r 10) m) (tr (tr (seqQ (f:=fun r m=>Q1gg G (Q5 G i0) (r 15) (r 12) (r 16) (r 14) (r 13) (r 49) (r 48) (r 47) (r 9) (r 10) (r 11) m) (tr (tr (seqQ (f:=fun r m=>Q1gc G (Q5 G i0) (r 16) (r 14) (r 13) (r 15) (r 49) (r 48) (r 47) (r 9) (r 10) (r 11) (r 12) m)) (seqQ (f:=fun r m=>Q1gf G (Q5 G i0) (r 111) (r 110) (r 109) (r 12) (r 16) (r 14) (r 13) (r 15) (r 49) (r 48) (r 47) (r 9) (r 10) (r 11) m) (tr (X7 (Xc (fun i r m=>Q9f G (Q5 G i0) i (r 111) (r 110) (r 109) (r 12) (r 16) (r 14) (r 13) (r 15) (r 49) (r 48) (r 47) (r 9) (r 10) (r 11) m) (fun _ _=>rfl) (fun i1=>tr (seqQ (f:=fun r m=>Q1ge G (Q9f G (Q5 G i0) i1) (Q5 G i0) (r 112) (r 109) (r 111) (r 12) (r 16) (r 110) (r 14) (r 13) (r 15) (r 49) (r 48) (r 47) (r 9) (r 10) (r 11) m) (tr (seqQ (f:=fun r m=>Q1gd G (Q9f G (Q5 G i0) i1) (r 109) (r 111) (r 12) (r 16) (r 110) (r 14) (r 13) (r 15) (r 49) (r 48) (r 47) (r 9) (r 10) (r 11) m) (tr (seqQ (f:=fun r m=>Qvt G (Q9f G (Q5 G i0) i1) (r 111) (r 110) (r 109) (r 12) (r 16) (r 14) (r 13) (r 15) (r 49) (r 48) (r 47) (r 9) (r 10) (r 11) m)))))))))))))) (seqQ (f:=fun r m=>Q1gj G (Q5 G i0) (r 90) (r 89) (r 88) (r 11) (r 16) (r 15) (r 12) (r 14) (r 13) (r 49) (r 48) (r 47) (r 9) (r 10) m) (tr (X7 (Xc (fun i r m=>Q9g G (Q5 G i0) i (r 90) (r 89) (r 88) (r 11) (r 16) (r 15) (r 12) (r 14) (r 13) (r 49) (r 48) (r 47) (r 9) (r 10) m) (fun _ _=>rfl) (fun i1=>tr (seqQ (f:=fun r m=>Q1gi G (Q9g G (Q5 G i0) i1) (Q5 G i0) (r 91) (r 88) (r 90) (r 11) (r 16) (r 89) (r 15) (r 12) (r 14) (r 13) (r 49) (r 48) (r 47) (r 9) (r 10) m) (tr (seqQ (f:=fun r m=>Q1gh G (Q9g G (Q5 G i0) i1) (r 88) (r 90) (r 11) (r 16) (r 89) (r 15) (r 12) (r 14) (r 13) (r 49) (r 48) (r 47) (r 9) (r 10) m) (tr (seqQ (f:=fun r m=>Qvu G (Q9g G (Q5 G i0) i1) (r 90) (r 89) (r 88) (r 11) (r 16) (r 15) (r 12) (r 14) (r 13) (r 49) (r 48) (r 47) (r 9) (r 10) m)))))))))))))) (seqQ (f:=fun r m=>Q1gn G (Q5 G i0) (r 67) (r 66) (r 65) (r 10) (r 16) (r 15) (r 11) (r 12) (r 14) (r 13) (r 49) (r 48) (r 47) (r 9) m) (tr (X7 (Xc (fun i r m=>Q9h G (Q5 G i0) i (r 67) (r 66) (r 65) (r 10) (r 16) (r 15) (r 11) (r 12) (r 14) (r 13) (r 49) (r 48) (r 47) (r 9) m) (fun _ _=>rfl) (fun i1=>tr (seqQ (f:=fun r m=>Q1gm G (Q9h G (Q5 G i0) i1) (Q5 G i0) (r 68) (r 65) (r 67) (r 10) (r 16) (r 66) (r 15) (r 11) (r 12) (r 14) (r 13) (r 49) (r 48) (r 47) (r 9) m) (tr (seqQ (f:=fun r m=>Q1gl G (Q9h G (Q5 G i0) i1) (r 65) (r 67) (r 10) (r 16) (r 66) (r 15) (r 11) (r 12) (r 14) (r 13) (r 49) (r 48) (r 47) (r 9) m) (tr (seqQ (f:=fun r m=>Qlt G (Q9h G (Q5 G i0) i1) (r 67) (r 66) (r 65) (r 10) (r 16) (r 15) (r 11) (r 12) (r 14) (r 13) (r 49) (r 48) (r 47) (r 9) m)))))))))))))))))))))))))))))))))))) (seqQ (f:=fun r m=>Q1gr G (r 28) (r 27) (r 26) (r 0) m) (tr (X7 (Xc (fun i r m=>Qvv G i (r 28) (r 27) (r 26) (r 0) m) (fun _ _=>rfl) (fun i0=>fun r m=>by kernel_rfl))))))))))) m
def Q21i:En:=⟨Q18a,Tryz.f58,Tryz.func58,by kernel_rfl,arg1 Q18i,Xk Q21h⟩
def Q1hl (G:Gt)(p2:V)(m:M):R:=some (p2,m)
def Q1qj (G:Gt)(p1:V)(m:M):R:=bp (pur (X0 4 p1) m) fun x0 m=>bp (pur (X4 false 1 x0 m) m) fun x1 m=>bp (pur (un .not x1) m) fun x2 m=>brb x2 (bp (pur (X0 3 p1) m) fun x3 m=>bp (pur (X4 false 1 x3 m) m) fun x4 m=>bp (pur (bin .gtr true true .int x4 (.int .i64 0)) m) fun x5 m=>Q1hl G x5 m) (Q1hl G (.bool false) m)
def Q1ml (G:Gt)(p0:V)(m:M):R:=bp (some (aNew Q1i (Value.cells p0).toList m)) fun x6 m=>Q1qj G x6 m
theorem Q27b (G:Gt)(a0:V)(m:M):ef G Tryz.f59 [a0] m = Q1ml G a0 m:=X6 (r:=fun r m=>Q1ml G (r 0) m) rfl rfl (tr (seqQ (f:=fun r m=>Q1qj G (r 1) m) (tr (seqQ (f:=fun r m=>Q1hl G (r 2) m))))) m
def Q27c:En:=⟨Qya,Tryz.f59,Tryz.func59,by kernel_rfl,arg1 Q1ml,Xk Q27b⟩
def Q1k6 (G:Gt)(p0:V)(m:M):R:=bp (some (aNew Q1i (Value.cells p0).toList m)) fun x0 m=>bp (some (aNew Qs Q1c m)) fun x1 m=>bp (pur (X0 3 x0) m) fun x2 m=>bp (pur (X4 false 1 x2 m) m) fun x3 m=>bp (pur (bin .eql true true .int x3 (.int .i64 0)) m) fun x4 m=>brb x4 (bp (pur (Xe Q1c [(0,1),(1,1)] []) m) fun x5 m=>bp (unt (X8 2 x1 x5 m)) fun _ m=>ob (ob (X4 true 2 x1 m) fun v=>ob (some []) fun l=>some (v :: l)) fun l=>some (X1c l,m)) (bp (pur (X0 2 x0) m) fun x6 m=>bp (pur (X4 false 1 x6 m) m) fun x7 m=>bp (pur (X0 3 x0) m) fun x8 m=>bp (pur (X4 false 1 x8 m) m) fun x9 m=>bp (G.tab Q1jy [x7,x9] m) fun x10 m=>bp (pur (X5 x10 0) m) fun x11 m=>bp (pur (X5 x10 1) m) fun x12 m=>bp (some (aNew Qs Q1c m)) fun x13 m=>bp (unt (X8 2 x13 x11 m)) fun _ m=>bp (pur (X4 true 2 x13 m) m) fun x14 m=>bp (unt (X8 2 x1 x14 m)) fun _ m=>ob (ob (X4 true 2 x1 m) fun v=>ob (some []) fun l=>some (v :: l)) fun l=>some (X1c l,m))
theorem Q25t (G:Gt)(a0:V)(m:M):ef G Tryz.f60 [a0] m = Q1k6 G a0 m:=X6 (r:=fun r m=>Q1k6 G (r 0) m) rfl rfl (fun r m=>by kernel_rfl) m
def Q25u:En:=⟨Q1tq,Tryz.f60,Tryz.func60,by kernel_rfl,arg1 Q1k6,Xk Q25t⟩
end
end Go.Ab.Sh

set_option linter.unusedVariables false
set_option maxRecDepth 100000
namespace Go.Ab.Sh
open Go Go.Ab Go.Proofs
noncomputable section
def Q13t (G:Gt)(p0:V)(m:M):R:=bp (some (aNew Q27d (Value.cells p0).toList m)) fun x0 m=>bp (some (aNew Q1n8 [.nilFunc] m)) fun x1 m=>bp (unt (X8 1 x1 (.func (.func Q1gs) ⟨[]⟩ ⟨[x0]⟩) m)) fun _ m=>bp (pur (X4 false 1 x1 m) m) fun x2 m=>bp (Xj G.tab x2 [(.func (.func Q1ve) ⟨[]⟩ ⟨[x0,x1]⟩)] m) fun x3 m=>some (.tuple ⟨[]⟩,m)
theorem Q201 (G:Gt)(a0:V)(m:M):ef G Tryz.f61 [a0] m = Q13t G a0 m:=X6 (r:=fun r m=>Q13t G (r 0) m) rfl rfl (fun r m=>by kernel_rfl) m
def Q202:En:=⟨Q1km,Tryz.f61,Tryz.func61,by kernel_rfl,arg1 Q13t,Xk Q201⟩
def Qxl (G:Gt)(p8:V)(m:M):R:=some (.tuple ⟨[p8,(.int .i64 0),(.int .i64 0)]⟩,m)
def Qxm (G:Gt)(k0:J3)(p9 p0 p8:V)(m:M):R:=bp (pur (bin .add true true .int p9 (.int .i64 1)) m) fun x0 m=>k0 x0 p0 p8 m
def Qi5 (G:Gt)(k1:J4)(k0:J3)(p89 p8 p12 p9 p0:V)(m:M):R:=brb p89 (bp (pur (bin .sub true true .int p12 (.int .i64 1)) m) fun x1 m=>bp (pur (bin .sub true true .int p12 (.int .i64 1)) m) fun x2 m=>bp (pur (X3 12 p8 x2) m) fun x3 m=>bp (pur (X4 true 12 x3 m) m) fun x4 m=>bp (pur (X3 12 p8 p12) m) fun x5 m=>bp (pur (X4 true 12 x5 m) m) fun x6 m=>bp (pur (X3 12 p8 p12) m) fun x7 m=>bp (unt (X8 12 x7 x4 m)) fun _ m=>bp (pur (X3 12 p8 x1) m) fun x8 m=>bp (unt (X8 12 x8 x6 m)) fun _ m=>bp (pur (bin .sub true true .int p12 (.int .i64 1)) m) fun x9 m=>k1 x9 p8 p9 p0 m) (Qxm G k0 p9 p0 p8 m)
def Q6e (G:Gt)(k0:J3):Nat→V→V→V→V→M→R
 | 0,_,_,_,_,_=>none
 | i + 1,p12,p8,p9,p0,m=>bp (pur (bin .gtr true true .int p12 (.int .i64 0)) m) fun x10 m=>brt x10 (bp (pur (X3 12 p8 p12) m) fun x11 m=>bp (pur (X0 0 x11) m) fun x12 m=>bp (pur (X4 false 1 x12 m) m) fun x13 m=>bp (pur (bin .sub true true .int p12 (.int .i64 1)) m) fun x14 m=>bp (pur (X3 12 p8 x14) m) fun x15 m=>bp (pur (X0 0 x15) m) fun x16 m=>bp (pur (X4 false 1 x16 m) m) fun x17 m=>bp (pur (bin .lss false true .str x13 x17) m) fun x18 m=>Qi5 G (Q6e G k0 i) k0 x18 p8 p12 p9 p0 m) (Qi5 G (Q6e G k0 i) k0 (.bool false) p8 p12 p9 p0 m) (none)
def Quh (G:Gt)(k0:J3)(p12 p8 p9 p0:V)(m:M):R:=Q6e G k0 G.rds p12 p8 p9 p0 m
def Qui (G:Gt)(k0:J3)(p9 p8 p0:V)(m:M):R:=Quh G k0 p9 p8 p9 p0 m
def Quj (G:Gt)(k0:J3)(p8 p0 p9:V)(m:M):R:=bp (pur (X3 12 p0 p9) m) fun x19 m=>bp (pur (X4 true 12 x19 m) m) fun x20 m=>bp (G.tab Q1g6 [x20] m) fun x21 m=>bp (Xa Q4 Q1l 12 1 [(0,x21)] m) fun x22 m=>bp (apS Q4 12 264 p8 x22 m) fun x23 m=>Qui G k0 p9 x23 p0 m
def Quk (G:Gt)(k0:J3)(p10 p9 p8 p0:V)(m:M):R:=bp (pur (un .not p10) m) fun x24 m=>brb x24 (some (.tuple ⟨[(.slice none 0 0),p9,(.int .i64 121)]⟩,m)) (Quj G k0 p8 p0 p9 m)
def Qi6 (G:Gt)(k1:J5)(p11 p9 p10 p0 p8:V)(m:M):R:=bp (pur (bin .add true true .int p11 (.int .i64 1)) m) fun x25 m=>k1 x25 p9 p10 p0 p8 m
def Qul (G:Gt)(k1:J5)(p10 p0 p9 p11 p8:V)(m:M):R:=brt p10 (bp (pur (X3 12 p0 p9) m) fun x26 m=>bp (pur (X4 true 12 x26 m) m) fun x27 m=>bp (pur (X3 12 p0 p11) m) fun x28 m=>bp (pur (X4 true 12 x28 m) m) fun x29 m=>bp (G.tab Q1av [x27,x29] m) fun x30 m=>Qi6 G k1 p11 p9 x30 p0 p8 m) (Qi6 G k1 p11 p9 (.bool false) p0 p8 m) (none)
def Q6f (G:Gt)(k0:J3):Nat→V→V→V→V→V→M→R
 | 0,_,_,_,_,_,_=>none
 | i + 1,p11,p9,p10,p0,p8,m=>bp (pur (bin .lss false true .int p11 p9) m) fun x31 m=>brb x31 (Qul G (Q6f G k0 i) p10 p0 p9 p11 p8 m) (Quk G k0 p10 p9 p8 p0 m)
def Qum (G:Gt)(k0:J3)(p11 p9 p10 p0 p8:V)(m:M):R:=Q6f G k0 G.rds p11 p9 p10 p0 p8 m
def Qxn (G:Gt)(k0:J3)(p9 p10 p0 p8:V)(m:M):R:=Qum G k0 (.int .i64 0) p9 p10 p0 p8 m
def Qxo (G:Gt)(k0:J3)(p0 p9 p8:V)(m:M):R:=bp (pur (X3 12 p0 p9) m) fun x32 m=>bp (pur (X4 true 12 x32 m) m) fun x33 m=>bp (G.tab Q1f1 [x33] m) fun x34 m=>Qxn G k0 p9 x34 p0 p8 m
def Qe (G:Gt):Nat→V→V→V→M→R
 | 0,_,_,_,_=>none
 | i + 1,p9,p0,p8,m=>bp (pur (lenK 1 p0 m) m) fun x35 m=>bp (pur (bin .lss false true .int p9 x35) m) fun x36 m=>brb x36 (Qxo G (Qe G i) p0 p9 p8 m) (Qxl G p8 m)
def Qxp (G:Gt)(p9 p0 p8:V)(m:M):R:=Qe G G.rds p9 p0 p8 m
def Qxq (G:Gt)(p0 p8:V)(m:M):R:=Qxp G (.int .i64 0) p0 p8 m
def Qxr (G:Gt)(p0:V)(m:M):R:=Qxq G p0 (.slice none 0 0) m
def Qi7 (G:Gt):Nat→V→V→M→R
 | 0,_,_,_=>none
 | i + 1,p5,p0,m=>bp (pur (lenK 1 p0 m) m) fun x37 m=>bp (pur (bin .lss false true .int p5 x37) m) fun x38 m=>brb x38 (bp (pur (X3 12 p0 p5) m) fun x39 m=>bp (pur (X4 true 12 x39 m) m) fun x40 m=>bp (G.tab Q1f2 [x40] m) fun x41 m=>bp (pur (X5 x41 0) m) fun x42 m=>bp (pur (X5 x41 1) m) fun x43 m=>bp (pur (bin .neq true true .int x43 (.int .i64 0)) m) fun x44 m=>brb x44 (some (.tuple ⟨[(.slice none 0 0),p5,x43]⟩,m)) (bp (pur (bin .add true true .int p5 (.int .i64 1)) m) fun x45 m=>(Qi7 G i) x45 p0 m)) (Qxr G p0 m)
def Qun (G:Gt)(p5 p0:V)(m:M):R:=Qi7 G G.rds p5 p0 m
def Qxs (G:Gt)(p0:V)(m:M):R:=Qun G (.int .i64 0) p0 m
def Qxt (G:Gt)(p0:V)(m:M):R:=bp (pur (lenK 1 p0 m) m) fun x46 m=>bp (pur (bin .gtr true true .int x46 (.int .i64 32)) m) fun x47 m=>brb x47 (some (.tuple ⟨[(.slice none 0 0),(.int .i64 32),(.int .i64 121)]⟩,m)) (Qxs G p0 m)
def Qme (G:Gt)(p0:V)(m:M):R:=Qxt G p0 m
theorem Q1n9 (G:Gt)(a0:V)(m:M):ef G Tryz.f62 [a0] m = Qme G a0 m:=X6 (r:=fun r m=>Qme G (r 0) m) rfl rfl (tr (seqQ (f:=fun r m=>Qxt G (r 0) m) (tr (seqQ (f:=fun r m=>Qxs G (r 0) m) (tr (tr (seqQ (f:=fun r m=>Qxr G (r 0) m) (tr (seqQ (f:=fun r m=>Qxq G (r 0) (r 8) m) (tr (tr (seqQ (f:=fun r m=>Qxl G (r 8) m)) (seqQ (f:=fun r m=>Qxp G (r 9) (r 0) (r 8) m) (tr (X7 (Xc (fun i r m=>Qe G i (r 9) (r 0) (r 8) m) (fun _ _=>rfl) (fun i0=>tr (seqQ (f:=fun r m=>Qxo G (Qe G i0) (r 0) (r 9) (r 8) m) (tr (tr (seqQ (f:=fun r m=>Qxm G (Qe G i0) (r 9) (r 0) (r 8) m)) (X7 (seqQ (f:=fun r m=>Qxn G (Qe G i0) (r 9) (r 10) (r 0) (r 8) m) (tr (tr (seqQ (f:=fun r m=>Quk G (Qe G i0) (r 10) (r 9) (r 8) (r 0) m) (tr (seqQ (f:=fun r m=>Quj G (Qe G i0) (r 8) (r 0) (r 9) m) (tr (seqQ (f:=fun r m=>Qui G (Qe G i0) (r 9) (r 8) (r 0) m) (tr (seqQ (f:=fun r m=>Quh G (Qe G i0) (r 12) (r 8) (r 9) (r 0) m) (tr (X7 (Xc (fun i r m=>Q6e G (Qe G i0) i (r 12) (r 8) (r 9) (r 0) m) (fun _ _=>rfl) (fun i1=>tr (tr seqD (seqQ (f:=fun r m=>Qi5 G (Q6e G (Qe G i0) i1) (Qe G i0) (r 89) (r 8) (r 12) (r 9) (r 0) m)))))))))))))) (seqQ (f:=fun r m=>Qum G (Qe G i0) (r 11) (r 9) (r 10) (r 0) (r 8) m) (tr (X7 (Xc (fun i r m=>Q6f G (Qe G i0) i (r 11) (r 9) (r 10) (r 0) (r 8) m) (fun _ _=>rfl) (fun i1=>tr (seqQ (f:=fun r m=>Qul G (Q6f G (Qe G i0) i1) (r 10) (r 0) (r 9) (r 11) (r 8) m) (tr (seqQ (f:=fun r m=>Qi6 G (Q6f G (Qe G i0) i1) (r 11) (r 9) (r 10) (r 0) (r 8) m)))))))))))))))))))))))))) (seqQ (f:=fun r m=>Qun G (r 5) (r 0) m) (tr (X7 (Xc (fun i r m=>Qi7 G i (r 5) (r 0) m) (fun _ _=>rfl) (fun i0=>fun r m=>by kernel_rfl))))))))))) m
def Q1na:En:=⟨Q11i,Tryz.f62,Tryz.func62,by kernel_rfl,arg1 Qme,Xk Q1n9⟩
def Qtb (G:Gt)(p0:V)(m:M):R:=bp (pur (binP m .eql true true .ptr p0 (.pointer none)) m) fun x0 m=>brb x0 (some ((.slice none 0 0),m)) (bp (pur (X9 p0) m) fun x1 m=>bp (pur (X0 0 x1) m) fun x2 m=>bp (pur (X4 false 1 x2 m) m) fun x3 m=>bp (G.tab Q18a [x3] m) fun x4 m=>bp (pur (X5 x4 0) m) fun x5 m=>bp (pur (X5 x4 1) m) fun x6 m=>bp (pur (X5 x4 2) m) fun x7 m=>some (x5,m))
theorem Q1s4 (G:Gt)(a0:V)(m:M):ef G Tryz.f63 [a0] m = Qtb G a0 m:=X6 (r:=fun r m=>Qtb G (r 0) m) rfl rfl (fun r m=>by kernel_rfl) m
def Q1s5:En:=⟨Qsj,Tryz.f63,Tryz.func63,by kernel_rfl,arg1 Qtb,Xk Q1s4⟩
def Qir (G:Gt)(p6:V)(m:M):R:=some (p6,m)
def Q1ko (G:Gt)(p1 p0 p2:V)(m:M):R:=bp (pur (bin .geq true true .int p1 (.int .i64 0)) m) fun x0 m=>brb x0 (bp (pur (X9 p0) m) fun x1 m=>bp (pur (X0 1 x1) m) fun x2 m=>bp (pur (X4 false 1 x2 m) m) fun x3 m=>bp (pur (lenK 1 x3 m) m) fun x4 m=>bp (pur (bin .lss false true .int p1 x4) m) fun x5 m=>brb x5 (bp (pur (bin .eql true true .str p2 (.string ⟨#[]⟩)) m) fun x6 m=>brb x6 (Qir G (.bool true) m) (bp (pur (X9 p0) m) fun x7 m=>bp (pur (X0 1 x7) m) fun x8 m=>bp (pur (X4 false 1 x8 m) m) fun x9 m=>bp (pur (X3 12 x9 p1) m) fun x10 m=>bp (pur (X0 2 x10) m) fun x11 m=>bp (pur (X4 false 1 x11 m) m) fun x12 m=>bp (G.tab Q13u [x12,p2] m) fun x13 m=>Qir G x13 m)) (Qir G (.bool false) m)) (Qir G (.bool false) m)
def Q1f3 (G:Gt)(p1 p0 p2:V)(m:M):R:=Q1ko G p1 p0 p2 m
theorem Q22t (G:Gt)(a0 a1 a2:V)(m:M):ef G Tryz.f64 [a0,a1,a2] m = Q1f3 G a1 a0 a2 m:=X6 (r:=fun r m=>Q1f3 G (r 1) (r 0) (r 2) m) rfl rfl (tr (seqQ (f:=fun r m=>Q1ko G (r 1) (r 0) (r 2) m) (tr (seqQ (f:=fun r m=>Qir G (r 6) m))))) m
def Q22u:En:=⟨Q1dw,Tryz.f64,Tryz.func64,by kernel_rfl,arg3 (fun G a0 a1 a2 m=>Q1f3 G a1 a0 a2 m),Xr Q22t⟩
def Q1k7 (G:Gt)(p0:V)(m:M):R:=bp (some (aNew Q25v [(.slice none 0 0)] m)) fun x0 m=>bp (G.tab Q22a [p0,(.func (.func Q1no) ⟨[]⟩ ⟨[x0]⟩)] m) fun x1 m=>bp (pur (X4 false 1 x0 m) m) fun x2 m=>some (x2,m)
theorem Q25w (G:Gt)(a0:V)(m:M):ef G Tryz.f65 [a0] m = Q1k7 G a0 m:=X6 (r:=fun r m=>Q1k7 G (r 0) m) rfl rfl (fun r m=>by kernel_rfl) m
def Q25x:En:=⟨Q1tw,Tryz.f65,Tryz.func65,by kernel_rfl,arg1 Q1k7,Xk Q25w⟩
def Q1f4 (G:Gt)(m:M):R:=some ((.bool false),m)
def Qtc (G:Gt):Nat→V→V→V→M→R
 | 0,_,_,_,_=>none
 | i + 1,p8,p7,p2,m=>bp (pur (lenK 1 p7 m) m) fun x0 m=>bp (pur (bin .lss false true .int p8 x0) m) fun x1 m=>brb x1 (bp (pur (X3 1 p7 p8) m) fun x2 m=>bp (pur (X4 false 1 x2 m) m) fun x3 m=>bp (pur (bin .eql false true .str x3 p2) m) fun x4 m=>brb x4 (some ((.bool true),m)) (bp (pur (bin .add true true .int p8 (.int .i64 1)) m) fun x5 m=>(Qtc G i) x5 p7 p2 m)) (Q1f4 G m)
def Q1f5 (G:Gt)(p8 p7 p2:V)(m:M):R:=Qtc G G.rds p8 p7 p2 m
def Q1f6 (G:Gt)(p7 p2:V)(m:M):R:=Q1f5 G (.int .i64 0) p7 p2 m
def Q1f7 (G:Gt)(p0 p1 p2:V)(m:M):R:=bp (pur (X9 p0) m) fun x6 m=>bp (pur (X0 0 x6) m) fun x7 m=>bp (pur (X4 false 1 x7 m) m) fun x8 m=>bp (pur (X3 12 x8 p1) m) fun x9 m=>bp (pur (X4 true 12 x9 m) m) fun x10 m=>bp (G.tab Qv6 [x10] m) fun x11 m=>Q1f6 G x11 p2 m
def Qtd (G:Gt)(p19 p0 p1 p2:V)(m:M):R:=brb p19 (some ((.bool false),m)) (Q1f7 G p0 p1 p2 m)
def Q1f8 (G:Gt)(p1 p0 p2:V)(m:M):R:=bp (pur (bin .lss true true .int p1 (.int .i64 0)) m) fun x12 m=>brb x12 (Qtd G (.bool true) p0 p1 p2 m) (bp (pur (X9 p0) m) fun x13 m=>bp (pur (X0 0 x13) m) fun x14 m=>bp (pur (X4 false 1 x14 m) m) fun x15 m=>bp (pur (lenK 1 x15 m) m) fun x16 m=>bp (pur (bin .geq false true .int p1 x16) m) fun x17 m=>Qtd G x17 p0 p1 p2 m)
def Qzy (G:Gt)(p1 p0 p2:V)(m:M):R:=Q1f8 G p1 p0 p2 m
theorem Q1ym (G:Gt)(a0 a1 a2:V)(m:M):ef G Tryz.f66 [a0,a1,a2] m = Qzy G a1 a0 a2 m:=X6 (r:=fun r m=>Qzy G (r 1) (r 0) (r 2) m) rfl rfl (tr (seqQ (f:=fun r m=>Q1f8 G (r 1) (r 0) (r 2) m) (tr (tr (seqQ (f:=fun r m=>Q1f7 G (r 0) (r 1) (r 2) m) (tr (seqQ (f:=fun r m=>Q1f6 G (r 7) (r 2) m) (tr (tr (seqQ (f:=fun r m=>Q1f4 G m)) (seqQ (f:=fun r m=>Q1f5 G (r 8) (r 7) (r 2) m) (tr (X7 (Xc (fun i r m=>Qtc G i (r 8) (r 7) (r 2) m) (fun _ _=>rfl) (fun i0=>fun r m=>by kernel_rfl)))))))))) (seqQ (f:=fun r m=>Qtd G (r 19) (r 0) (r 1) (r 2) m)))))) m
def Q1yn:En:=⟨Q1im,Tryz.f66,Tryz.func66,by kernel_rfl,arg3 (fun G a0 a1 a2 m=>Qzy G a1 a0 a2 m),Xr Q1ym⟩
def Qvw (G:Gt)(p0:V)(m:M):R:=bp (some (aNew Q4 (Value.cells p0).toList m)) fun x0 m=>bp (Xa Q4v [(.string ⟨#[]⟩)] 1 1 [(0,(.string ⟨#[]⟩))] m) fun x1 m=>bp (pur (X0 2 x0) m) fun x2 m=>bp (pur (X4 false 1 x2 m) m) fun x3 m=>bp (apS Q4v 1 16 x1 x3 m) fun x4 m=>some (x4,m)
theorem Q1vf (G:Gt)(a0:V)(m:M):ef G Tryz.f67 [a0] m = Qvw G a0 m:=X6 (r:=fun r m=>Qvw G (r 0) m) rfl rfl (fun r m=>by kernel_rfl) m
def Q1vg:En:=⟨Qv6,Tryz.f67,Tryz.func67,by kernel_rfl,arg1 Qvw,Xk Q1vf⟩
def Qzz (G:Gt)(p4 p5:V)(m:M):R:=some (.tuple ⟨[p4,p5]⟩,m)
def Qlh (G:Gt)(k0:J5)(p7 p6 p0 p4 p5:V)(m:M):R:=bp (pur (bin .add true true .int p7 (.int .i64 1)) m) fun x0 m=>k0 x0 p6 p0 p4 p5 m
def Q100 (G:Gt)(k0:J5)(p0 p6 p7 p4 p5:V)(m:M):R:=bp (pur (X3 2 p6 p7) m) fun x1 m=>bp (pur (X4 true 2 x1 m) m) fun x2 m=>bp (G.tab Q1i6 [p0,x2] m) fun x3 m=>bp (pur (X5 x3 0) m) fun x4 m=>bp (pur (X5 x3 1) m) fun x5 m=>bp (some (aNew Qdd Q8f m)) fun x6 m=>bp (unt (X8 4 x6 x4 m)) fun _ m=>brb x5 (bp (pur (X4 true 4 x6 m) m) fun x7 m=>bp (Xa Qdd Q8f 4 1 [(0,x7)] m) fun x8 m=>bp (apS Qdd 4 48 p4 x8 m) fun x9 m=>Qlh G k0 p7 p6 p0 x9 p5 m) (bp (pur (X3 2 p6 p7) m) fun x10 m=>bp (pur (X4 true 2 x10 m) m) fun x11 m=>bp (Xa Qs Q1c 2 1 [(0,x11)] m) fun x12 m=>bp (apS Qs 2 16 p5 x12 m) fun x13 m=>Qlh G k0 p7 p6 p0 p4 x13 m)
def Q7z (G:Gt):Nat→V→V→V→V→V→M→R
 | 0,_,_,_,_,_,_=>none
 | i + 1,p7,p6,p0,p4,p5,m=>bp (pur (lenK 1 p6 m) m) fun x14 m=>bp (pur (bin .lss false true .int p7 x14) m) fun x15 m=>brb x15 (Q100 G (Q7z G i) p0 p6 p7 p4 p5 m) (Qzz G p4 p5 m)
def Q101 (G:Gt)(p7 p6 p0 p4 p5:V)(m:M):R:=Q7z G G.rds p7 p6 p0 p4 p5 m
def Q102 (G:Gt)(p6 p0 p4 p5:V)(m:M):R:=Q101 G (.int .i64 0) p6 p0 p4 p5 m
def Q103 (G:Gt)(p0 p4 p5:V)(m:M):R:=bp (G.tab Q11d [p0] m) fun x16 m=>Q102 G x16 p0 p4 p5 m
def Q104 (G:Gt)(p0 p4:V)(m:M):R:=Q103 G p0 p4 (.slice none 0 0) m
def Q105 (G:Gt)(p0:V)(m:M):R:=Q104 G p0 (.slice none 0 0) m
def Qoc (G:Gt)(p0:V)(m:M):R:=Q105 G p0 m
theorem Q1p1 (G:Gt)(a0:V)(m:M):ef G Tryz.f68 [a0] m = Qoc G a0 m:=X6 (r:=fun r m=>Qoc G (r 0) m) rfl rfl (tr (seqQ (f:=fun r m=>Q105 G (r 0) m) (tr (seqQ (f:=fun r m=>Q104 G (r 0) (r 4) m) (tr (seqQ (f:=fun r m=>Q103 G (r 0) (r 4) (r 5) m) (tr (seqQ (f:=fun r m=>Q102 G (r 6) (r 0) (r 4) (r 5) m) (tr (tr (seqQ (f:=fun r m=>Qzz G (r 4) (r 5) m)) (seqQ (f:=fun r m=>Q101 G (r 7) (r 6) (r 0) (r 4) (r 5) m) (tr (X7 (Xc (fun i r m=>Q7z G i (r 7) (r 6) (r 0) (r 4) (r 5) m) (fun _ _=>rfl) (fun i0=>tr (seqQ (f:=fun r m=>Q100 G (Q7z G i0) (r 0) (r 6) (r 7) (r 4) (r 5) m) (tr (seqQ (f:=fun r m=>Qlh G (Q7z G i0) (r 7) (r 6) (r 0) (r 4) (r 5) m))))))))))))))))))) m
def Q1p2:En:=⟨Q14l,Tryz.f68,Tryz.func68,by kernel_rfl,arg1 Qoc,Xk Q1p1⟩
def Q11x (G:Gt)(m:M):R:=some ((.slice none 0 0),m)
def Qmf (G:Gt)(k0:J4)(p32 p3 p7 p1 p2:V)(m:M):R:=brb p32 (bp (pur (X0 0 p3) m) fun x0 m=>bp (pur (X4 false 1 x0 m) m) fun x1 m=>bp (pur (X3 3 x1 p7) m) fun x2 m=>bp (pur (X0 2 x2) m) fun x3 m=>bp (pur (X4 false 1 x3 m) m) fun x4 m=>some (x4,m)) (bp (pur (bin .add true true .int p7 (.int .i64 1)) m) fun x5 m=>k0 x5 p3 p1 p2 m)
def Q11y (G:Gt)(k0:J4)(p3 p7 p1 p2:V)(m:M):R:=bp (pur (X0 0 p3) m) fun x6 m=>bp (pur (X4 false 1 x6 m) m) fun x7 m=>bp (pur (X3 3 x7 p7) m) fun x8 m=>bp (pur (X0 0 x8) m) fun x9 m=>bp (pur (X4 false 1 x9 m) m) fun x10 m=>bp (pur (bin .eql false true .int x10 p1) m) fun x11 m=>brb x11 (bp (pur (X0 0 p3) m) fun x12 m=>bp (pur (X4 false 1 x12 m) m) fun x13 m=>bp (pur (X3 3 x13 p7) m) fun x14 m=>bp (pur (X0 1 x14) m) fun x15 m=>bp (pur (X4 false 1 x15 m) m) fun x16 m=>bp (pur (bin .eql false true .str x16 p2) m) fun x17 m=>Qmf G k0 x17 p3 p7 p1 p2 m) (Qmf G k0 (.bool false) p3 p7 p1 p2 m)
def Q8s (G:Gt):Nat→V→V→V→V→M→R
 | 0,_,_,_,_,_=>none
 | i + 1,p7,p3,p1,p2,m=>bp (pur (X0 0 p3) m) fun x18 m=>bp (pur (X4 false 1 x18 m) m) fun x19 m=>bp (pur (lenK 1 x19 m) m) fun x20 m=>bp (pur (bin .lss false true .int p7 x20) m) fun x21 m=>brb x21 (Q11y G (Q8s G i) p3 p7 p1 p2 m) (Q11x G m)
def Q11z (G:Gt)(p7 p3 p1 p2:V)(m:M):R:=Q8s G G.rds p7 p3 p1 p2 m
def Q120 (G:Gt)(p3 p1 p2:V)(m:M):R:=Q11z G (.int .i64 0) p3 p1 p2 m
def Qqc (G:Gt)(p0 p1 p2:V)(m:M):R:=bp (some (aNew Q28n (Value.cells p0).toList m)) fun x22 m=>Q120 G x22 p1 p2 m
theorem Q1qk (G:Gt)(a0 a1 a2:V)(m:M):ef G Tryz.f69 [a0,a1,a2] m = Qqc G a0 a1 a2 m:=X6 (r:=fun r m=>Qqc G (r 0) (r 1) (r 2) m) rfl rfl (tr (seqQ (f:=fun r m=>Q120 G (r 3) (r 1) (r 2) m) (tr (tr (seqQ (f:=fun r m=>Q11x G m)) (seqQ (f:=fun r m=>Q11z G (r 7) (r 3) (r 1) (r 2) m) (tr (X7 (Xc (fun i r m=>Q8s G i (r 7) (r 3) (r 1) (r 2) m) (fun _ _=>rfl) (fun i0=>tr (seqQ (f:=fun r m=>Q11y G (Q8s G i0) (r 3) (r 7) (r 1) (r 2) m) (tr (tr seqD (X7 (seqQ (f:=fun r m=>Qmf G (Q8s G i0) (r 32) (r 3) (r 7) (r 1) (r 2) m))))))))))))))) m
def Q1ql:En:=⟨Q18x,Tryz.f69,Tryz.func69,by kernel_rfl,arg3 Qqc,Xr Q1qk⟩
end
end Go.Ab.Sh
