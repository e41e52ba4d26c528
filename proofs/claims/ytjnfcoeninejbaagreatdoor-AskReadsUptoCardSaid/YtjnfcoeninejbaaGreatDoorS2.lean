/-
  Functions of the program as plain definitions. No conditions.
-/
import Derived.Test.YtjnfcoeninejbaaGreatDoorAb5
import Derived.Test.YtjnfcoeninejbaaGreatDoorZ
import Derived.KernelRfl
import Derived.Test.YtjnfcoeninejbaaGreatDoorProg
set_option linter.unusedVariables false
set_option maxRecDepth 100000
namespace Go.Ab.Sh
open Go Go.Ab Go.Proofs
noncomputable section
def Qbs (G:Gt)(m:M):R:=bp (some (aNew Q78 Q61 m)) fun x0 m=>bp (pur (Xn Qc [(0,1),(1,1)] [(1,(.int .u32 65535))]) m) fun x1 m=>bp (pur (Xn Qc [(0,1),(1,1)] [(1,(.int .u32 65535))]) m) fun x2 m=>bp (pur (Xn Q61 [(0,1),(1,1),(2,2),(4,2),(6,2),(8,2)] [(0,(.bool true)),(1,(.int .i64 (-1))),(4,x1),(5,x2)]) m) fun x3 m=>bp (unt (X7 10 x0 x3 m)) fun _ m=>ob (ob (X6 true 10 x0 m) fun v=>ob (some []) fun l=>some (v :: l)) fun l=>some (X1a l,m)
theorem Qkt (G:Gt)(m:M):ef G Tryz.f20 [] m = Qbs G m:=Xf (r:=fun r m=>Qbs G m) rfl rfl (fun r m=>by kernel_rfl) m
def Qgv:En:=⟨Qdc,Tryz.f20,Tryz.func20,by kernel_rfl,arg0 (fun G  m=>Qbs G m),Xnz Qkt⟩
def Q5l (G:Gt)(p29 p6:V)(m:M):R:=brb p29 (some (.tuple ⟨[(.int .i64 0),(.bool false)]⟩,m)) (some (.tuple ⟨[p6,(.bool true)]⟩,m))
def Qey (G:Gt)(p7 p6 p1 p0:V)(m:M):R:=bp (pur (bin .neq true false .iface p7 .nilIface) m) fun x0 m=>brb x0 (Q5l G (.bool true) p6 m) (bp (pur (bin .lss true true .int p6 (.int .i64 0)) m) fun x1 m=>brb x1 (Q5l G (.bool true) p6 m) (bp (pur (bin .gtr false true .int p6 p1) m) fun x2 m=>brb x2 (Q5l G (.bool true) p6 m) (bp (G.tab Qi [p6] m) fun x3 m=>bp (pur (bin .neq false true .str x3 p0) m) fun x4 m=>Q5l G x4 p6 m)))
def Qex (G:Gt)(p0 p1:V)(m:M):R:=bp (G.tab Q32 [p0] m) fun x5 m=>bp (pur (Xa x5 0) m) fun x6 m=>bp (pur (Xa x5 1) m) fun x7 m=>Qey G x7 x6 p1 p0 m
def Qa4 (G:Gt)(p0 p1:V)(m:M):R:=Qex G p0 p1 m
theorem Qk9 (G:Gt)(a0 a1:V)(m:M):ef G Tryz.f21 [a0,a1] m = Qa4 G a0 a1 m:=Xf (r:=fun r m=>Qa4 G (r 0) (r 1) m) rfl rfl (tr (seqQ (f:=fun r m=>Qex G (r 0) (r 1) m) (tr (seqQ (f:=fun r m=>Qey G (r 7) (r 6) (r 1) (r 0) m) (tr (tr seqD (seqQ (f:=fun r m=>Q5l G (r 29) (r 6) m)))))))) m
def Qg7:En:=⟨Q1k,Tryz.f21,Tryz.func21,by kernel_rfl,arg2 Qa4,X2n Qk9⟩
def Q6z (G:Gt)(p2 p3:V)(m:M):R:=ob (ob (X6 true 2 p2 m) fun v=>ob (some [p3]) fun l=>some (v :: l)) fun l=>some (X1a l,m)
def Qfv (G:Gt)(p7 p9 p6 p8 p10 p2:V)(m:M):R:=bp (conv (.int .u32) p7 m) fun x0 m=>bp (conv (.int .u32) p9 m) fun x1 m=>bp (pur (Xn Qc [(0,1),(1,1)] [(0,x0),(1,x1)]) m) fun x2 m=>brb p6 (brb p8 (brb p10 (bp (pur (bin .leq false true .int p7 p9) m) fun x3 m=>brb x3 (bp (pur (bin .sub false true .int p9 p7) m) fun x4 m=>bp (pur (bin .lss true true .int x4 (.int .i64 65535)) m) fun x5 m=>bp (unt (X7 2 p2 x2 m)) fun _ m=>Q6z G p2 x5 m) (bp (unt (X7 2 p2 x2 m)) fun _ m=>Q6z G p2 (.bool false) m)) (bp (unt (X7 2 p2 x2 m)) fun _ m=>Q6z G p2 (.bool false) m)) (bp (unt (X7 2 p2 x2 m)) fun _ m=>Q6z G p2 (.bool false) m)) (bp (unt (X7 2 p2 x2 m)) fun _ m=>Q6z G p2 (.bool false) m)
def Qfw (G:Gt)(p5 p7 p6 p8 p2:V)(m:M):R:=bp (G.tab Q1k [p5,(.int .i64 65535)] m) fun x6 m=>bp (pur (Xa x6 0) m) fun x7 m=>bp (pur (Xa x6 1) m) fun x8 m=>Qfv G p7 x7 p6 p8 x8 p2 m
def Qfx (G:Gt)(p4 p5 p6 p2:V)(m:M):R:=bp (G.tab Q1k [p4,(.int .i64 65535)] m) fun x9 m=>bp (pur (Xa x9 0) m) fun x10 m=>bp (pur (Xa x9 1) m) fun x11 m=>Qfw G p5 x10 p6 x11 p2 m
def Qdv (G:Gt)(p0 p2:V)(m:M):R:=bp (G.tab Q2z [p0,(.string ⟨#[45]⟩)] m) fun x12 m=>bp (pur (Xa x12 0) m) fun x13 m=>bp (pur (Xa x12 1) m) fun x14 m=>bp (pur (Xa x12 2) m) fun x15 m=>Qfx G x13 x14 x15 p2 m
def Qbu (G:Gt)(p0:V)(m:M):R:=bp (some (aNew Qe Qc m)) fun x16 m=>Qdv G p0 x16 m
theorem Qku (G:Gt)(a0:V)(m:M):ef G Tryz.f22 [a0] m = Qbu G a0 m:=Xf (r:=fun r m=>Qbu G (r 0) m) rfl rfl (tr (seqQ (f:=fun r m=>Qdv G (r 0) (r 2) m) (tr (seqQ (f:=fun r m=>Qfx G (r 4) (r 5) (r 6) (r 2) m) (tr (seqQ (f:=fun r m=>Qfw G (r 5) (r 7) (r 6) (r 8) (r 2) m) (tr (seqQ (f:=fun r m=>Qfv G (r 7) (r 9) (r 6) (r 8) (r 10) (r 2) m) (tr (seqQ (f:=fun r m=>Q6z G (r 2) (r 3) m))))))))))) m
def Qgx:En:=⟨Q5t,Tryz.f22,Tryz.func22,by kernel_rfl,arg1 Qbu,X19 Qku⟩
def Q7r (G:Gt)(p81 p2 p5:V)(m:M):R:=brb p81 (bp (pur (Xn Q7 [(0,1),(1,1),(2,1),(3,1),(4,1)] []) m) fun x0 m=>bp (unt (X7 5 p2 x0 m)) fun _ m=>ob (ob (X6 true 5 p2 m) fun v=>ob (some [(.int .i64 4)]) fun l=>some (v :: l)) fun l=>some (X1a l,m)) (bp (pur (X6 true 5 p5 m) m) fun x1 m=>bp (unt (X7 5 p2 x1 m)) fun _ m=>ob (ob (X6 true 5 p2 m) fun v=>ob (some [(.int .i64 0)]) fun l=>some (v :: l)) fun l=>some (X1a l,m))
def Qdy (G:Gt)(p15 p5 p0 p2:V)(m:M):R:=bp (pur (bin .neq true false .iface p15 .nilIface) m) fun x2 m=>brb x2 (Q7r G (.bool true) p2 p5 m) (bp (pur (X6 true 5 p5 m) m) fun x3 m=>bp (G.tab Q6v [x3] m) fun x4 m=>bp (pur (bin .neq false true .str x4 p0) m) fun x5 m=>Q7r G x5 p2 p5 m)
def Qdz (G:Gt)(p14 p5 p15 p0 p2:V)(m:M):R:=bp (conv (.int .u8) p14 m) fun x6 m=>bp (pur (X3 2 p5) m) fun x7 m=>bp (unt (X7 1 x7 x6 m)) fun _ m=>Qdy G p15 p5 p0 p2 m
def Qe0 (G:Gt)(p4 p5 p0 p2:V)(m:M):R:=bp (pur (X9 1 p4 (.int .i64 2)) m) fun x8 m=>bp (pur (X6 false 1 x8 m) m) fun x9 m=>bp (G.tab Q9 [x9,(.int .i64 10),(.int .i64 8)] m) fun x10 m=>bp (pur (Xa x10 0) m) fun x11 m=>bp (pur (Xa x10 1) m) fun x12 m=>Qdz G x11 p5 x12 p0 p2 m
def Q9v (G:Gt)(k0:J5)(p22 p4 p2 p5 p0:V)(m:M):R:=bp (pur (bin .add true true .int p22 (.int .i64 1)) m) fun x13 m=>k0 x13 p4 p2 p5 p0 m
def Q9w (G:Gt)(k0:J5)(p49 p2 p6 p10 p12 p5 p22 p4 p0:V)(m:M):R:=brb p49 (bp (pur (Xn Q7 [(0,1),(1,1),(2,1),(3,1),(4,1)] []) m) fun x14 m=>bp (unt (X7 5 p2 x14 m)) fun _ m=>ob (ob (X6 true 5 p2 m) fun v=>ob (some [(.int .i64 4)]) fun l=>some (v :: l)) fun l=>some (X1a l,m)) (bp (pur (bin .eql true true .int p6 (.int .i64 0)) m) fun x15 m=>brb x15 (bp (conv (.int .u16) p12 m) fun x16 m=>bp (pur (X3 0 p5) m) fun x17 m=>bp (unt (X7 1 x17 p10 m)) fun _ m=>bp (pur (X3 3 p5) m) fun x18 m=>bp (unt (X7 1 x18 x16 m)) fun _ m=>Q9v G k0 p22 p4 p2 p5 p0 m) (bp (conv (.int .u16) p12 m) fun x19 m=>bp (pur (X3 1 p5) m) fun x20 m=>bp (unt (X7 1 x20 p10 m)) fun _ m=>bp (pur (X3 4 p5) m) fun x21 m=>bp (unt (X7 1 x21 x19 m)) fun _ m=>Q9v G k0 p22 p4 p2 p5 p0 m))
def Qd9 (G:Gt)(k0:J5)(p11 p13 p2 p6 p10 p12 p5 p22 p4 p0:V)(m:M):R:=bp (pur (bin .neq true true .int p11 (.int .i64 0)) m) fun x22 m=>brb x22 (Q9w G k0 (.bool true) p2 p6 p10 p12 p5 p22 p4 p0 m) (bp (pur (bin .neq true false .iface p13 .nilIface) m) fun x23 m=>Q9w G k0 x23 p2 p6 p10 p12 p5 p22 p4 p0 m)
def Qda (G:Gt)(k0:J5)(p8 p11 p2 p6 p10 p5 p22 p4 p0:V)(m:M):R:=bp (G.tab Q9 [p8,(.int .i64 10),(.int .i64 16)] m) fun x24 m=>bp (pur (Xa x24 0) m) fun x25 m=>bp (pur (Xa x24 1) m) fun x26 m=>Qd9 G k0 p11 x26 p2 p6 p10 x25 p5 p22 p4 p0 m
def Qdb (G:Gt)(k0:J5)(p7 p8 p2 p6 p5 p22 p4 p0:V)(m:M):R:=bp (G.tab Q6e [p7] m) fun x27 m=>bp (pur (Xa x27 0) m) fun x28 m=>bp (pur (Xa x27 1) m) fun x29 m=>Qda G k0 p8 x29 p2 p6 x28 p5 p22 p4 p0 m
def Q3p (G:Gt)(k0:J5)(p4 p6 p2 p5 p22 p0:V)(m:M):R:=bp (pur (X9 1 p4 p6) m) fun x30 m=>bp (pur (X6 false 1 x30 m) m) fun x31 m=>bp (G.tab Q2z [x31,(.string ⟨#[58]⟩)] m) fun x32 m=>bp (pur (Xa x32 0) m) fun x33 m=>bp (pur (Xa x32 1) m) fun x34 m=>bp (pur (Xa x32 2) m) fun x35 m=>Qdb G k0 x33 x34 p2 p6 p5 p22 p4 p0 m
def Q9x (G:Gt)(k0:J5)(p22 p4 p2 p5 p0:V)(m:M):R:=Q3p G k0 p4 p22 p2 p5 p22 p0 m
def Q73 (G:Gt)(k0:J5)(p23 p22 p4 p2 p5 p0:V)(m:M):R:=brb p23 (Q9x G k0 p22 p4 p2 p5 p0 m) (Qe0 G p4 p5 p0 p2 m)
def Qd (G:Gt):Nat→V→V→V→V→V→M→R
 | 0,_,_,_,_,_,_=>none
 | i + 1,p22,p4,p2,p5,p0,m=>bp (pur (bin .lss true true .int p22 (.int .i64 2)) m) fun x36 m=>Q73 G (Qd G i) x36 p22 p4 p2 p5 p0 m
def Qe1 (G:Gt)(p22 p4 p2 p5 p0:V)(m:M):R:=Qd G G.rds p22 p4 p2 p5 p0 m
def Qe2 (G:Gt)(p4 p2 p5 p0:V)(m:M):R:=Qe1 G (.int .i64 0) p4 p2 p5 p0 m
def Qe3 (G:Gt)(p4 p2 p0:V)(m:M):R:=bp (some (aNew Q3 Q7 m)) fun x37 m=>Qe2 G p4 p2 x37 p0 m
def Qe4 (G:Gt)(p4 p2 p0:V)(m:M):R:=bp (pur (lenK 1 p4 m) m) fun x38 m=>bp (pur (bin .neq true true .int x38 (.int .i64 3)) m) fun x39 m=>brb x39 (bp (pur (Xn Q7 [(0,1),(1,1),(2,1),(3,1),(4,1)] []) m) fun x40 m=>bp (unt (X7 5 p2 x40 m)) fun _ m=>ob (ob (X6 true 5 p2 m) fun v=>ob (some [(.int .i64 4)]) fun l=>some (v :: l)) fun l=>some (X1a l,m)) (Qe3 G p4 p2 p0 m)
def Qbe (G:Gt)(p0 p2:V)(m:M):R:=bp (G.tab Q2m [p0,(.string ⟨#[32]⟩)] m) fun x41 m=>Qe4 G x41 p2 p0 m
def Q7m (G:Gt)(p0:V)(m:M):R:=bp (some (aNew Q3 Q7 m)) fun x42 m=>Qbe G p0 x42 m
theorem Qji (G:Gt)(a0:V)(m:M):ef G Tryz.f23 [a0] m = Q7m G a0 m:=Xf (r:=fun r m=>Q7m G (r 0) m) rfl rfl (tr (seqQ (f:=fun r m=>Qbe G (r 0) (r 2) m) (tr (seqQ (f:=fun r m=>Qe4 G (r 4) (r 2) (r 0) m) (tr (seqQ (f:=fun r m=>Qe3 G (r 4) (r 2) (r 0) m) (tr (seqQ (f:=fun r m=>Qe2 G (r 4) (r 2) (r 5) (r 0) m) (tr (tr (seqQ (f:=fun r m=>Qe0 G (r 4) (r 5) (r 0) (r 2) m) (tr (seqQ (f:=fun r m=>Qdz G (r 14) (r 5) (r 15) (r 0) (r 2) m) (tr (seqQ (f:=fun r m=>Qdy G (r 15) (r 5) (r 0) (r 2) m) (tr (tr seqD (seqQ (f:=fun r m=>Q7r G (r 81) (r 2) (r 5) m))))))))) (seqQ (f:=fun r m=>Qe1 G (r 22) (r 4) (r 2) (r 5) (r 0) m) (tr (Xx (X2f (fun i r m=>Qd G i (r 22) (r 4) (r 2) (r 5) (r 0) m) (fun _ _=>rfl) (fun i0=>tr (seqQ (f:=fun r m=>Q73 G (Qd G i0) (r 23) (r 22) (r 4) (r 2) (r 5) (r 0) m) (tr (seqQ (f:=fun r m=>Q9x G (Qd G i0) (r 22) (r 4) (r 2) (r 5) (r 0) m) (tr (tr (seqQ (f:=fun r m=>Q9v G (Qd G i0) (r 22) (r 4) (r 2) (r 5) (r 0) m)) (Xx (seqQ (f:=fun r m=>Q3p G (Qd G i0) (r 4) (r 6) (r 2) (r 5) (r 22) (r 0) m) (tr (seqQ (f:=fun r m=>Qdb G (Qd G i0) (r 7) (r 8) (r 2) (r 6) (r 5) (r 22) (r 4) (r 0) m) (tr (seqQ (f:=fun r m=>Qda G (Qd G i0) (r 8) (r 11) (r 2) (r 6) (r 10) (r 5) (r 22) (r 4) (r 0) m) (tr (seqQ (f:=fun r m=>Qd9 G (Qd G i0) (r 11) (r 13) (r 2) (r 6) (r 10) (r 12) (r 5) (r 22) (r 4) (r 0) m) (tr (tr seqD (seqQ (f:=fun r m=>Q9w G (Qd G i0) (r 49) (r 2) (r 6) (r 10) (r 12) (r 5) (r 22) (r 4) (r 0) m)))))))))))))))))))))))))))))))) m
def Qew:En:=⟨Q9z,Tryz.f23,Tryz.func23,by kernel_rfl,arg1 Q7m,X19 Qji⟩
def Qez (G:Gt)(p5:V)(m:M):R:=some (.tuple ⟨[p5,(.int .i64 0)]⟩,m)
def Q7n (G:Gt):Nat→V→V→V→M→R
 | 0,_,_,_,_=>none
 | i + 1,p14,p4,p5,m=>bp (pur (bin .lss true true .int p14 (.int .i64 4)) m) fun x0 m=>brb x0 (bp (pur (X9 1 p4 p14) m) fun x1 m=>bp (pur (X6 false 1 x1 m) m) fun x2 m=>bp (G.tab Q5b [x2,(.int .i64 255)] m) fun x3 m=>bp (pur (Xa x3 0) m) fun x4 m=>bp (pur (Xa x3 1) m) fun x5 m=>bp (pur (un .not x5) m) fun x6 m=>brb x6 (some (.tuple ⟨[(.int .u32 0),(.int .i64 4)]⟩,m)) (bp (pur (bin .shl true true .int p5 (.int .u64 8)) m) fun x7 m=>bp (conv (.int .u32) x4 m) fun x8 m=>bp (pur (bin .or false true .int x7 x8) m) fun x9 m=>bp (pur (bin .add true true .int p14 (.int .i64 1)) m) fun x10 m=>(Q7n G i) x10 p4 x9 m)) (Qez G p5 m)
def Qf4 (G:Gt)(p14 p4 p5:V)(m:M):R:=Q7n G G.rds p14 p4 p5 m
def Qf3 (G:Gt)(p4 p5:V)(m:M):R:=Qf4 G (.int .i64 0) p4 p5 m
def Qf2 (G:Gt)(p4:V)(m:M):R:=Qf3 G p4 (.int .u32 0) m
def Qf1 (G:Gt)(p4:V)(m:M):R:=bp (pur (lenK 1 p4 m) m) fun x11 m=>bp (pur (bin .neq true true .int x11 (.int .i64 4)) m) fun x12 m=>brb x12 (some (.tuple ⟨[(.int .u32 0),(.int .i64 4)]⟩,m)) (Qf2 G p4 m)
def Qf0 (G:Gt)(p0:V)(m:M):R:=bp (G.tab Q2m [p0,(.string ⟨#[46]⟩)] m) fun x13 m=>Qf1 G x13 m
def Qa2 (G:Gt)(p0:V)(m:M):R:=Qf0 G p0 m
theorem Qka (G:Gt)(a0:V)(m:M):ef G Tryz.f25 [a0] m = Qa2 G a0 m:=Xf (r:=fun r m=>Qa2 G (r 0) m) rfl rfl (tr (seqQ (f:=fun r m=>Qf0 G (r 0) m) (tr (seqQ (f:=fun r m=>Qf1 G (r 4) m) (tr (seqQ (f:=fun r m=>Qf2 G (r 4) m) (tr (seqQ (f:=fun r m=>Qf3 G (r 4) (r 5) m) (tr (tr (seqQ (f:=fun r m=>Qez G (r 5) m)) (seqQ (f:=fun r m=>Qf4 G (r 14) (r 4) (r 5) m) (tr (Xx (X2f (fun i r m=>Q7n G i (r 14) (r 4) (r 5) m) (fun _ _=>rfl) (fun i0=>fun r m=>by kernel_rfl))))))))))))))) m
def Qg3:En:=⟨Q6e,Tryz.f25,Tryz.func25,by kernel_rfl,arg1 Qa2,X19 Qka⟩
def Q8l (G:Gt)(p3:V)(m:M):R:=some (p3,m)
def Q41 (G:Gt)(k0:J4)(p5 p0 p3 p4:V)(m:M):R:=bp (pur (bin .add true true .int p5 (.int .i64 1)) m) fun x0 m=>k0 x0 p0 p3 p4 m
def Q40 (G:Gt)(k0:J4)(p21 p3 p0 p4 p5:V)(m:M):R:=brb p21 (bp (pur (X11 p0 (some p4) (some p5)) m) fun x1 m=>bp (Xc Q4 [(.string ⟨#[]⟩)] 1 1 [(0,x1)] m) fun x2 m=>bp (apS Q4 1 16 p3 x2 m) fun x3 m=>bp (pur (bin .add true true .int p5 (.int .i64 1)) m) fun x4 m=>Q41 G k0 p5 p0 x3 x4 m) (Q41 G k0 p5 p0 p3 p4 m)
def Q5w (G:Gt)(k0:J4)(p5 p0 p3 p4:V)(m:M):R:=bp (pur (lenK 0 p0 m) m) fun x5 m=>bp (pur (bin .eql false true .int p5 x5) m) fun x6 m=>brb x6 (Q40 G k0 (.bool true) p3 p0 p4 p5 m) (bp (pur (Xm p0 p5) m) fun x7 m=>bp (pur (bin .eql true true .int x7 (.int .u8 32)) m) fun x8 m=>Q40 G k0 x8 p3 p0 p4 p5 m)
def Qs (G:Gt):Nat→V→V→V→V→M→R
 | 0,_,_,_,_,_=>none
 | i + 1,p5,p0,p3,p4,m=>bp (pur (lenK 0 p0 m) m) fun x9 m=>bp (pur (bin .leq false true .int p5 x9) m) fun x10 m=>brb x10 (Q5w G (Qs G i) p5 p0 p3 p4 m) (Q8l G p3 m)
def Q8p (G:Gt)(p5 p0 p3 p4:V)(m:M):R:=Qs G G.rds p5 p0 p3 p4 m
def Q8o (G:Gt)(p0 p3 p4:V)(m:M):R:=Q8p G (.int .i64 0) p0 p3 p4 m
def Q8n (G:Gt)(p0 p3:V)(m:M):R:=Q8o G p0 p3 (.int .i64 0) m
def Q8m (G:Gt)(p0:V)(m:M):R:=Q8n G p0 (.slice none 0 0) m
def Q27 (G:Gt)(p0:V)(m:M):R:=Q8m G p0 m
theorem Qhl (G:Gt)(a0:V)(m:M):ef G Tryz.f26 [a0] m = Q27 G a0 m:=Xf (r:=fun r m=>Q27 G (r 0) m) rfl rfl (tr (seqQ (f:=fun r m=>Q8m G (r 0) m) (tr (seqQ (f:=fun r m=>Q8n G (r 0) (r 3) m) (tr (seqQ (f:=fun r m=>Q8o G (r 0) (r 3) (r 4) m) (tr (tr (seqQ (f:=fun r m=>Q8l G (r 3) m)) (seqQ (f:=fun r m=>Q8p G (r 5) (r 0) (r 3) (r 4) m) (tr (Xx (X2f (fun i r m=>Qs G i (r 5) (r 0) (r 3) (r 4) m) (fun _ _=>rfl) (fun i0=>tr (seqQ (f:=fun r m=>Q5w G (Qs G i0) (r 5) (r 0) (r 3) (r 4) m) (tr (tr (seqQ (f:=fun r m=>Q41 G (Qs G i0) (r 5) (r 0) (r 3) (r 4) m)) (Xx (seqQ (f:=fun r m=>Q40 G (Qs G i0) (r 21) (r 3) (r 0) (r 4) (r 5) m))))))))))))))))))) m
def Qb0:En:=⟨Q4y,Tryz.f26,Tryz.func26,by kernel_rfl,arg1 Q27,X19 Qhl⟩
def Qc6 (G:Gt)(m:M):R:=some ((.int .u8 0),m)
def Q3x (G:Gt):Nat→V→V→V→M→R
 | 0,_,_,_,_=>none
 | i + 1,p5,p0,p1,m=>bp (pur (lenK 1 p0 m) m) fun x0 m=>bp (pur (bin .lss false true .int p5 x0) m) fun x1 m=>brb x1 (bp (pur (X9 1 p0 p5) m) fun x2 m=>bp (pur (X6 false 1 x2 m) m) fun x3 m=>bp (pur (bin .eql false true .str x3 p1) m) fun x4 m=>brb x4 (bp (pur (bin .add true true .int p5 (.int .i64 1)) m) fun x5 m=>bp (conv (.int .u8) x5 m) fun x6 m=>some (x6,m)) (bp (pur (bin .add true true .int p5 (.int .i64 1)) m) fun x7 m=>(Q3x G i) x7 p0 p1 m)) (Qc6 G m)
def Qc7 (G:Gt)(p5 p0 p1:V)(m:M):R:=Q3x G G.rds p5 p0 p1 m
def Qc8 (G:Gt)(p0 p1:V)(m:M):R:=Qc7 G (.int .i64 0) p0 p1 m
def Q5a (G:Gt)(p0 p1:V)(m:M):R:=Qc8 G p0 p1 m
theorem Qit (G:Gt)(a0 a1:V)(m:M):ef G Tryz.f27 [a0,a1] m = Q5a G a0 a1 m:=Xf (r:=fun r m=>Q5a G (r 0) (r 1) m) rfl rfl (tr (seqQ (f:=fun r m=>Qc8 G (r 0) (r 1) m) (tr (tr (seqQ (f:=fun r m=>Qc6 G m)) (seqQ (f:=fun r m=>Qc7 G (r 5) (r 0) (r 1) m) (tr (Xx (X2f (fun i r m=>Q3x G i (r 5) (r 0) (r 1) m) (fun _ _=>rfl) (fun i0=>fun r m=>by kernel_rfl))))))))) m
def Qd8:En:=⟨Q3o,Tryz.f27,Tryz.func27,by kernel_rfl,arg2 Q5a,X2n Qit⟩
def Q36 (G:Gt)(m:M):R:=bp (Xc Q4 [(.string ⟨#[]⟩)] 1 7 [(0,(.string ⟨#[114,101,97,99,104]⟩)),(1,(.string ⟨#[97,108,119,97,121,115]⟩)),(2,(.string ⟨#[108,111,111,112]⟩)),(3,(.string ⟨#[116,114,97,99,101]⟩)),(4,(.string ⟨#[114,111,117,116,101,115]⟩)),(5,(.string ⟨#[107,110,111,119,115]⟩)),(6,(.string ⟨#[111,119,110,101,114]⟩))] m) fun x0 m=>some (x0,m)
theorem Qhm (G:Gt)(m:M):ef G Tryz.f28 [] m = Q36 G m:=Xf (r:=fun r m=>Q36 G m) rfl rfl (fun r m=>by kernel_rfl) m
def Qav:En:=⟨Q1m,Tryz.f28,Tryz.func28,by kernel_rfl,arg0 (fun G  m=>Q36 G m),Xnz Qhm⟩
def Q2g (G:Gt)(m:M):R:=bp (Xc Q4 [(.string ⟨#[]⟩)] 1 7 [(0,(.string ⟨#[97,99,99,101,112,116,101,100]⟩)),(1,(.string ⟨#[100,101,110,105,101,100,45,105,110]⟩)),(2,(.string ⟨#[100,101,110,105,101,100,45,111,117,116]⟩)),(3,(.string ⟨#[110,111,45,114,111,117,116,101]⟩)),(4,(.string ⟨#[110,111,119,104,101,114,101]⟩)),(5,(.string ⟨#[100,101,108,105,118,101,114,101,100]⟩)),(6,(.string ⟨#[108,111,115,116]⟩))] m) fun x0 m=>some (x0,m)
theorem Qh0 (G:Gt)(m:M):ef G Tryz.f29 [] m = Q2g G m:=Xf (r:=fun r m=>Q2g G m) rfl rfl (fun r m=>by kernel_rfl) m
def Q8j:En:=⟨Q1n,Tryz.f29,Tryz.func29,by kernel_rfl,arg0 (fun G  m=>Q2g G m),Xnz Qh0⟩
end
end Go.Ab.Sh

set_option linter.unusedVariables false
set_option maxRecDepth 100000
namespace Go.Ab.Sh
open Go Go.Ab Go.Proofs
noncomputable section
def Q4j (G:Gt)(p8:V)(m:M):R:=bp (pur (bin .eql true true .int p8 (.int .i64 0)) m) fun x0 m=>some (x0,m)
def Qaf (G:Gt)(p1 p0 p7 p8:V)(m:M):R:=bp (pur (bin .eql true true .str p1 (.string ⟨#[102,114,111,109]⟩)) m) fun x1 m=>brb x1 (bp (pur (X6 true 2 p7 m) m) fun x2 m=>bp (pur (X27 p0) m) fun x3 m=>bp (pur (X3 2 x3) m) fun x4 m=>bp (unt (X7 2 x4 x2 m)) fun _ m=>Q4j G p8 m) (bp (pur (X6 true 2 p7 m) m) fun x5 m=>bp (pur (X27 p0) m) fun x6 m=>bp (pur (X3 4 x6) m) fun x7 m=>bp (unt (X7 2 x7 x5 m)) fun _ m=>Q4j G p8 m)
def Q2v (G:Gt)(p14 p2 p1 p0 p13:V)(m:M):R:=brb p14 (bp (G.tab Q2c [p2] m) fun x8 m=>bp (pur (Xa x8 0) m) fun x9 m=>bp (pur (Xa x8 1) m) fun x10 m=>bp (some (aNew Q2 Q5 m)) fun x11 m=>bp (unt (X7 2 x11 x9 m)) fun _ m=>Qaf G p1 p0 x11 x10 m) (bp (pur (bin .eql true true .str p13 (.string ⟨#[112,114,111,116,111]⟩)) m) fun x12 m=>brb x12 (bp (G.tab Q6 [p2,(.int .i64 255)] m) fun x13 m=>bp (pur (X27 p0) m) fun x14 m=>bp (pur (X3 1 x14) m) fun x15 m=>bp (unt (X7 1 x15 x13 m)) fun _ m=>bp (pur (X27 p0) m) fun x16 m=>bp (pur (X3 1 x16) m) fun x17 m=>bp (pur (X6 false 1 x17 m) m) fun x18 m=>bp (pur (bin .geq true true .int x18 (.int .i64 0)) m) fun x19 m=>some (x19,m)) (bp (pur (bin .eql true true .str p13 (.string ⟨#[115,112,111,114,116,115]⟩)) m) fun x20 m=>brb x20 (bp (G.tab Q3b [p2] m) fun x21 m=>bp (pur (Xa x21 0) m) fun x22 m=>bp (pur (Xa x21 1) m) fun x23 m=>bp (some (aNew Qe Qc m)) fun x24 m=>bp (unt (X7 2 x24 x22 m)) fun _ m=>bp (pur (X6 true 2 x24 m) m) fun x25 m=>bp (pur (X27 p0) m) fun x26 m=>bp (pur (X3 6 x26) m) fun x27 m=>bp (unt (X7 2 x27 x25 m)) fun _ m=>some (x23,m)) (bp (pur (bin .eql true true .str p13 (.string ⟨#[100,112,111,114,116,115]⟩)) m) fun x28 m=>brb x28 (bp (G.tab Q3b [p2] m) fun x29 m=>bp (pur (Xa x29 0) m) fun x30 m=>bp (pur (Xa x29 1) m) fun x31 m=>bp (some (aNew Qe Qc m)) fun x32 m=>bp (unt (X7 2 x32 x30 m)) fun _ m=>bp (pur (X6 true 2 x32 m) m) fun x33 m=>bp (pur (X27 p0) m) fun x34 m=>bp (pur (X3 8 x34) m) fun x35 m=>bp (unt (X7 2 x35 x33 m)) fun _ m=>some (x31,m)) (some ((.bool false),m)))))
def Qag (G:Gt)(p13 p2 p1 p0:V)(m:M):R:=bp (pur (bin .eql true true .str p13 (.string ⟨#[102,114,111,109]⟩)) m) fun x36 m=>brb x36 (Q2v G x36 p2 p1 p0 p13 m) (bp (pur (bin .eql true true .str p13 (.string ⟨#[116,111]⟩)) m) fun x37 m=>Q2v G x37 p2 p1 p0 p13 m)
def Qah (G:Gt)(p1 p2 p0:V)(m:M):R:=Qag G p1 p2 p1 p0 m
def Q2k (G:Gt)(p1 p2 p0:V)(m:M):R:=Qah G p1 p2 p0 m
theorem Qhw (G:Gt)(a0 a1 a2:V)(m:M):ef G Tryz.f30 [a0,a1,a2] m = Q2k G a1 a2 a0 m:=Xf (r:=fun r m=>Q2k G (r 1) (r 2) (r 0) m) rfl rfl (tr (seqQ (f:=fun r m=>Qah G (r 1) (r 2) (r 0) m) (tr (tr seqD (seqQ (f:=fun r m=>Qag G (r 13) (r 2) (r 1) (r 0) m) (tr (Xx (seqQ (f:=fun r m=>Q2v G (r 14) (r 2) (r 1) (r 0) (r 13) m) (tr (X50 (seqQ (f:=fun r m=>Qaf G (r 1) (r 0) (r 7) (r 8) m) (tr (seqQ (f:=fun r m=>Q4j G (r 8) m)))) (refQ))))))))))) m
def Qc4:En:=⟨Q80,Tryz.f30,Tryz.func30,by kernel_rfl,arg3 (fun G a0 a1 a2 m=>Q2k G a1 a2 a0 m),Xkl Qhw⟩
def Q6k (G:Gt)(p5 p1:V)(m:M):R:=bp (pur (bin .gtr false true .int p5 p1) m) fun x0 m=>brb x0 (some ((.int .i64 (-1)),m)) (some (p5,m))
def Q6l (G:Gt)(k0:J4)(p39 p5 p0 p6 p1:V)(m:M):R:=brb p39 (some ((.int .i64 (-1)),m)) (bp (pur (bin .mul true true .int (.int .i64 10) p5) m) fun x1 m=>bp (pur (Xm p0 p6) m) fun x2 m=>bp (pur (bin .sub true true .int x2 (.int .u8 48)) m) fun x3 m=>bp (conv (.int .i64) x3 m) fun x4 m=>bp (pur (bin .add false true .int x1 x4) m) fun x5 m=>bp (pur (bin .add true true .int p6 (.int .i64 1)) m) fun x6 m=>k0 x6 p0 x5 p1 m)
def Qa7 (G:Gt)(k0:J4)(p0 p6 p5 p1:V)(m:M):R:=bp (pur (Xm p0 p6) m) fun x7 m=>bp (pur (bin .lss true true .int x7 (.int .u8 48)) m) fun x8 m=>brb x8 (Q6l G k0 (.bool true) p5 p0 p6 p1 m) (bp (pur (Xm p0 p6) m) fun x9 m=>bp (pur (bin .gtr true true .int x9 (.int .u8 57)) m) fun x10 m=>Q6l G k0 x10 p5 p0 p6 p1 m)
def Qv (G:Gt):Nat→V→V→V→V→M→R
 | 0,_,_,_,_,_=>none
 | i + 1,p6,p0,p5,p1,m=>bp (pur (lenK 0 p0 m) m) fun x11 m=>bp (pur (bin .lss false true .int p6 x11) m) fun x12 m=>brb x12 (Qa7 G (Qv G i) p0 p6 p5 p1 m) (Q6k G p5 p1 m)
def Qaa (G:Gt)(p6 p0 p5 p1:V)(m:M):R:=Qv G G.rds p6 p0 p5 p1 m
def Qa9 (G:Gt)(p0 p5 p1:V)(m:M):R:=Qaa G (.int .i64 0) p0 p5 p1 m
def Q6m (G:Gt)(p0 p1:V)(m:M):R:=Qa9 G p0 (.int .i64 0) p1 m
def Q2t (G:Gt)(p23 p0 p1:V)(m:M):R:=brb p23 (some ((.int .i64 (-1)),m)) (Q6m G p0 p1 m)
def Qa8 (G:Gt)(p0 p1:V)(m:M):R:=bp (pur (bin .eql true true .str p0 (.string ⟨#[]⟩)) m) fun x13 m=>brb x13 (Q2t G (.bool true) p0 p1 m) (bp (pur (lenK 0 p0 m) m) fun x14 m=>bp (pur (bin .gtr true true .int x14 (.int .i64 12)) m) fun x15 m=>brb x15 (Q2t G (.bool true) p0 p1 m) (bp (pur (lenK 0 p0 m) m) fun x16 m=>bp (pur (bin .gtr true true .int x16 (.int .i64 1)) m) fun x17 m=>brb x17 (bp (pur (Xm p0 (.int .i64 0)) m) fun x18 m=>bp (pur (bin .eql true true .int x18 (.int .u8 48)) m) fun x19 m=>Q2t G x19 p0 p1 m) (Q2t G (.bool false) p0 p1 m)))
def Q3r (G:Gt)(p0 p1:V)(m:M):R:=Qa8 G p0 p1 m
theorem Qhx (G:Gt)(a0 a1:V)(m:M):ef G Tryz.f31 [a0,a1] m = Q3r G a0 a1 m:=Xf (r:=fun r m=>Q3r G (r 0) (r 1) m) rfl rfl (tr (seqQ (f:=fun r m=>Qa8 G (r 0) (r 1) m) (tr (tr (seqQ (f:=fun r m=>Q6m G (r 0) (r 1) m) (tr (seqQ (f:=fun r m=>Qa9 G (r 0) (r 5) (r 1) m) (tr (tr (seqQ (f:=fun r m=>Q6k G (r 5) (r 1) m)) (seqQ (f:=fun r m=>Qaa G (r 6) (r 0) (r 5) (r 1) m) (tr (Xx (X2f (fun i r m=>Qv G i (r 6) (r 0) (r 5) (r 1) m) (fun _ _=>rfl) (fun i0=>tr (seqQ (f:=fun r m=>Qa7 G (Qv G i0) (r 0) (r 6) (r 5) (r 1) m) (tr (tr seqD (Xx (tr seqD (seqQ (f:=fun r m=>Q6l G (Qv G i0) (r 39) (r 5) (r 0) (r 6) (r 1) m))))))))))))))))) (seqQ (f:=fun r m=>Q2t G (r 23) (r 0) (r 1) m)))))) m
def Qbz:En:=⟨Q6,Tryz.f31,Tryz.func31,by kernel_rfl,arg2 Q3r,X2n Qhx⟩
def Q42 (G:Gt)(p55 p2 p10 p12 p14 p11 p13:V)(m:M):R:=brb p55 (bp (pur (Xn Q7 [(0,1),(1,1),(2,1),(3,1),(4,1)] []) m) fun x0 m=>bp (unt (X7 5 p2 x0 m)) fun _ m=>ob (ob (X6 true 5 p2 m) fun v=>ob (some [(.int .i64 4)]) fun l=>some (v :: l)) fun l=>some (X1a l,m)) (bp (conv (.int .u8) p14 m) fun x1 m=>bp (conv (.int .u16) p11 m) fun x2 m=>bp (conv (.int .u16) p13 m) fun x3 m=>bp (pur (Xn Q7 [(0,1),(1,1),(2,1),(3,1),(4,1)] [(0,p10),(1,p12),(2,x1),(3,x2),(4,x3)]) m) fun x4 m=>bp (unt (X7 5 p2 x4 m)) fun _ m=>ob (ob (X6 true 5 p2 m) fun v=>ob (some [(.int .i64 0)]) fun l=>some (v :: l)) fun l=>some (X1a l,m))
def Q93 (G:Gt)(p11 p13 p14 p2 p10 p12:V)(m:M):R:=bp (pur (bin .lss true true .int p11 (.int .i64 0)) m) fun x5 m=>brb x5 (Q42 G (.bool true) p2 p10 p12 p14 p11 p13 m) (bp (pur (bin .lss true true .int p13 (.int .i64 0)) m) fun x6 m=>brb x6 (Q42 G (.bool true) p2 p10 p12 p14 p11 p13 m) (bp (pur (bin .lss true true .int p14 (.int .i64 0)) m) fun x7 m=>Q42 G x7 p2 p10 p12 p14 p11 p13 m))
def Q92 (G:Gt)(p8 p11 p13 p2 p10 p12:V)(m:M):R:=bp (G.tab Q6 [p8,(.int .i64 255)] m) fun x8 m=>Q93 G p11 p13 x8 p2 p10 p12 m
def Q91 (G:Gt)(p7 p8 p11 p2 p10:V)(m:M):R:=bp (G.tab Q6g [p7] m) fun x9 m=>bp (pur (Xa x9 0) m) fun x10 m=>bp (pur (Xa x9 1) m) fun x11 m=>Q92 G p8 p11 x11 p2 p10 x10 m
def Q90 (G:Gt)(p4 p7 p8 p2:V)(m:M):R:=bp (G.tab Q6g [p4] m) fun x12 m=>bp (pur (Xa x12 0) m) fun x13 m=>bp (pur (Xa x12 1) m) fun x14 m=>Q91 G p7 p8 x14 p2 x13 m
def Q60 (G:Gt)(p32 p2 p4 p7 p8:V)(m:M):R:=brb p32 (bp (pur (Xn Q7 [(0,1),(1,1),(2,1),(3,1),(4,1)] []) m) fun x15 m=>bp (unt (X7 5 p2 x15 m)) fun _ m=>ob (ob (X6 true 5 p2 m) fun v=>ob (some [(.int .i64 4)]) fun l=>some (v :: l)) fun l=>some (X1a l,m)) (Q90 G p4 p7 p8 p2 m)
def Q8z (G:Gt)(p6 p9 p2 p4 p7 p8:V)(m:M):R:=bp (pur (un .not p6) m) fun x16 m=>brb x16 (Q60 G (.bool true) p2 p4 p7 p8 m) (bp (pur (un .not p9) m) fun x17 m=>Q60 G x17 p2 p4 p7 p8 m)
def Q8y (G:Gt)(p5 p6 p2 p4:V)(m:M):R:=bp (G.tab Q17 [p5,(.int .u8 32)] m) fun x18 m=>bp (pur (Xa x18 0) m) fun x19 m=>bp (pur (Xa x18 1) m) fun x20 m=>bp (pur (Xa x18 2) m) fun x21 m=>Q8z G p6 x21 p2 p4 x19 x20 m
def Q5z (G:Gt)(p0 p2:V)(m:M):R:=bp (G.tab Q17 [p0,(.int .u8 32)] m) fun x22 m=>bp (pur (Xa x22 0) m) fun x23 m=>bp (pur (Xa x22 1) m) fun x24 m=>bp (pur (Xa x22 2) m) fun x25 m=>Q8y G x24 x25 p2 x23 m
def Q35 (G:Gt)(p0:V)(m:M):R:=bp (some (aNew Q3 Q7 m)) fun x26 m=>Q5z G p0 x26 m
theorem Qhn (G:Gt)(a0:V)(m:M):ef G Tryz.f32 [a0] m = Q35 G a0 m:=Xf (r:=fun r m=>Q35 G (r 0) m) rfl rfl (tr (seqQ (f:=fun r m=>Q5z G (r 0) (r 2) m) (tr (seqQ (f:=fun r m=>Q8y G (r 5) (r 6) (r 2) (r 4) m) (tr (seqQ (f:=fun r m=>Q8z G (r 6) (r 9) (r 2) (r 4) (r 7) (r 8) m) (tr (tr (seqQ (f:=fun r m=>Q90 G (r 4) (r 7) (r 8) (r 2) m) (tr (seqQ (f:=fun r m=>Q91 G (r 7) (r 8) (r 11) (r 2) (r 10) m) (tr (seqQ (f:=fun r m=>Q92 G (r 8) (r 11) (r 13) (r 2) (r 10) (r 12) m) (tr (seqQ (f:=fun r m=>Q93 G (r 11) (r 13) (r 14) (r 2) (r 10) (r 12) m) (tr (tr seqD (seqQ (f:=fun r m=>Q42 G (r 55) (r 2) (r 10) (r 12) (r 14) (r 11) (r 13) m))))))))))) (seqQ (f:=fun r m=>Q60 G (r 32) (r 2) (r 4) (r 7) (r 8) m)))))))))) m
def Qau:En:=⟨Q4x,Tryz.f32,Tryz.func32,by kernel_rfl,arg1 Q35,X19 Qhn⟩
def Q6n (G:Gt)(p2:V)(m:M):R:=some (p2,m)
def Q6o (G:Gt)(p0:V)(m:M):R:=bp (pur (lenK 0 p0 m) m) fun x0 m=>bp (pur (bin .geq true true .int x0 (.int .i64 1)) m) fun x1 m=>brb x1 (bp (pur (lenK 0 p0 m) m) fun x2 m=>bp (pur (bin .leq true true .int x2 (.int .i64 32)) m) fun x3 m=>Q6n G x3 m) (Q6n G (.bool false) m)
def Q4k (G:Gt)(k0:J2)(p61 p3 p0:V)(m:M):R:=brb p61 (some ((.bool false),m)) (bp (pur (bin .add true true .int p3 (.int .i64 1)) m) fun x4 m=>k0 x4 p0 m)
def Qn (G:Gt)(k0:J2)(p5 p3 p6 p0:V)(m:M):R:=bp (pur (un .not p5) m) fun x5 m=>brb x5 (bp (pur (bin .eql true true .int p3 (.int .i64 0)) m) fun x6 m=>brb x6 (Q4k G k0 (.bool true) p3 p0 m) (bp (pur (un .not p6) m) fun x7 m=>Q4k G k0 x7 p3 p0 m)) (Q4k G k0 (.bool false) p3 p0 m)
def Q1d (G:Gt)(k0:J2)(p4 p5 p3 p0:V)(m:M):R:=bp (pur (bin .geq true true .int p4 (.int .u8 48)) m) fun x8 m=>brb x8 (bp (pur (bin .leq true true .int p4 (.int .u8 57)) m) fun x9 m=>brb x9 (Qn G k0 p5 p3 (.bool true) p0 m) (bp (pur (bin .eql true true .int p4 (.int .u8 45)) m) fun x10 m=>brb x10 (Qn G k0 p5 p3 (.bool true) p0 m) (bp (pur (bin .eql true true .int p4 (.int .u8 95)) m) fun x11 m=>brb x11 (Qn G k0 p5 p3 (.bool true) p0 m) (bp (pur (bin .eql true true .int p4 (.int .u8 46)) m) fun x12 m=>brb x12 (Qn G k0 p5 p3 (.bool true) p0 m) (bp (pur (bin .eql true true .int p4 (.int .u8 47)) m) fun x13 m=>Qn G k0 p5 p3 x13 p0 m))))) (bp (pur (bin .eql true true .int p4 (.int .u8 45)) m) fun x14 m=>brb x14 (Qn G k0 p5 p3 (.bool true) p0 m) (bp (pur (bin .eql true true .int p4 (.int .u8 95)) m) fun x15 m=>brb x15 (Qn G k0 p5 p3 (.bool true) p0 m) (bp (pur (bin .eql true true .int p4 (.int .u8 46)) m) fun x16 m=>brb x16 (Qn G k0 p5 p3 (.bool true) p0 m) (bp (pur (bin .eql true true .int p4 (.int .u8 47)) m) fun x17 m=>Qn G k0 p5 p3 x17 p0 m))))
def Qai (G:Gt)(k0:J2)(p4 p3 p0:V)(m:M):R:=bp (pur (bin .geq true true .int p4 (.int .u8 97)) m) fun x18 m=>brb x18 (bp (pur (bin .leq true true .int p4 (.int .u8 122)) m) fun x19 m=>brb x19 (Q1d G k0 p4 (.bool true) p3 p0 m) (bp (pur (bin .geq true true .int p4 (.int .u8 65)) m) fun x20 m=>brb x20 (bp (pur (bin .leq true true .int p4 (.int .u8 90)) m) fun x21 m=>Q1d G k0 p4 x21 p3 p0 m) (Q1d G k0 p4 (.bool false) p3 p0 m))) (bp (pur (bin .geq true true .int p4 (.int .u8 65)) m) fun x22 m=>brb x22 (bp (pur (bin .leq true true .int p4 (.int .u8 90)) m) fun x23 m=>Q1d G k0 p4 x23 p3 p0 m) (Q1d G k0 p4 (.bool false) p3 p0 m))
def Qaj (G:Gt)(k0:J2)(p0 p3:V)(m:M):R:=bp (pur (Xm p0 p3) m) fun x24 m=>Qai G k0 x24 p3 p0 m
def Qm (G:Gt):Nat→V→V→M→R
 | 0,_,_,_=>none
 | i + 1,p3,p0,m=>bp (pur (lenK 0 p0 m) m) fun x25 m=>bp (pur (bin .lss false true .int p3 x25) m) fun x26 m=>brb x26 (Qaj G (Qm G i) p0 p3 m) (Q6o G p0 m)
def Qak (G:Gt)(p3 p0:V)(m:M):R:=Qm G G.rds p3 p0 m
def Qal (G:Gt)(p0:V)(m:M):R:=Qak G (.int .i64 0) p0 m
def Q3v (G:Gt)(p0:V)(m:M):R:=Qal G p0 m
theorem Qhy (G:Gt)(a0:V)(m:M):ef G Tryz.f33 [a0] m = Q3v G a0 m:=Xf (r:=fun r m=>Q3v G (r 0) m) rfl rfl (tr (seqQ (f:=fun r m=>Qal G (r 0) m) (tr (tr (seqQ (f:=fun r m=>Q6o G (r 0) m) (tr (seqQ (f:=fun r m=>Q6n G (r 2) m)))) (seqQ (f:=fun r m=>Qak G (r 3) (r 0) m) (tr (Xx (X2f (fun i r m=>Qm G i (r 3) (r 0) m) (fun _ _=>rfl) (fun i0=>tr (seqQ (f:=fun r m=>Qaj G (Qm G i0) (r 0) (r 3) m) (tr (tr seqD (Xx (seqQ (f:=fun r m=>Qai G (Qm G i0) (r 4) (r 3) (r 0) m) (tr (seqQ (f:=fun r m=>Q1d G (Qm G i0) (r 4) (r 5) (r 3) (r 0) m) (tr (seqQ (f:=fun r m=>Qn G (Qm G i0) (r 5) (r 3) (r 6) (r 0) m) (tr (seqQ (f:=fun r m=>Q4k G (Qm G i0) (r 61) (r 3) (r 0) m))))))))))))))))))))) m
def Qc3:En:=⟨Q13,Tryz.f33,Tryz.func33,by kernel_rfl,arg1 Q3v,X19 Qhy⟩
def Q8k (G:Gt)(p7:V)(m:M):R:=bp (conv (.int .u32) p7 m) fun x0 m=>some (.tuple ⟨[x0,(.int .i64 0)]⟩,m)
def Q2h (G:Gt):Nat→V→V→V→M→R
 | 0,_,_,_,_=>none
 | i + 1,p8,p4,p7,m=>bp (pur (bin .lss true true .int p8 (.int .i64 4)) m) fun x1 m=>brb x1 (bp (pur (X9 1 p4 p8) m) fun x2 m=>bp (pur (X6 false 1 x2 m) m) fun x3 m=>bp (G.tab Q6 [x3,(.int .i64 255)] m) fun x4 m=>bp (pur (bin .lss true true .int x4 (.int .i64 0)) m) fun x5 m=>brb x5 (some (.tuple ⟨[(.int .u32 0),(.int .i64 4)]⟩,m)) (bp (pur (bin .mul true true .int (.int .i64 256) p7) m) fun x6 m=>bp (pur (bin .add false true .int x6 x4) m) fun x7 m=>bp (pur (bin .add true true .int p8 (.int .i64 1)) m) fun x8 m=>(Q2h G i) x8 p4 x7 m)) (Q8k G p7 m)
def Q8w (G:Gt)(p8 p4 p7:V)(m:M):R:=Q2h G G.rds p8 p4 p7 m
def Q8v (G:Gt)(p4 p7:V)(m:M):R:=Q8w G (.int .i64 0) p4 p7 m
def Q8u (G:Gt)(p4:V)(m:M):R:=Q8v G p4 (.int .i64 0) m
def Q5x (G:Gt)(p4:V)(m:M):R:=bp (pur (lenK 1 p4 m) m) fun x9 m=>bp (pur (bin .neq true true .int x9 (.int .i64 4)) m) fun x10 m=>brb x10 (some (.tuple ⟨[(.int .u32 0),(.int .i64 4)]⟩,m)) (Q8u G p4 m)
def Q3l (G:Gt)(k0:J4)(p6 p0 p4 p5:V)(m:M):R:=bp (pur (bin .add true true .int p6 (.int .i64 1)) m) fun x11 m=>k0 x11 p0 p4 p5 m
def Q3k (G:Gt)(k0:J4)(p25 p4 p0 p5 p6:V)(m:M):R:=brb p25 (bp (pur (X11 p0 (some p5) (some p6)) m) fun x12 m=>bp (Xc Q4 [(.string ⟨#[]⟩)] 1 1 [(0,x12)] m) fun x13 m=>bp (apS Q4 1 16 p4 x13 m) fun x14 m=>bp (pur (bin .add true true .int p6 (.int .i64 1)) m) fun x15 m=>Q3l G k0 p6 p0 x14 x15 m) (Q3l G k0 p6 p0 p4 p5 m)
def Q5d (G:Gt)(k0:J4)(p6 p0 p4 p5:V)(m:M):R:=bp (pur (lenK 0 p0 m) m) fun x16 m=>bp (pur (bin .eql false true .int p6 x16) m) fun x17 m=>brb x17 (Q3k G k0 (.bool true) p4 p0 p5 p6 m) (bp (pur (Xm p0 p6) m) fun x18 m=>bp (pur (bin .eql true true .int x18 (.int .u8 46)) m) fun x19 m=>Q3k G k0 x19 p4 p0 p5 p6 m)
def Qq (G:Gt):Nat→V→V→V→V→M→R
 | 0,_,_,_,_,_=>none
 | i + 1,p6,p0,p4,p5,m=>bp (pur (lenK 0 p0 m) m) fun x20 m=>bp (pur (bin .leq false true .int p6 x20) m) fun x21 m=>brb x21 (Q5d G (Qq G i) p6 p0 p4 p5 m) (Q5x G p4 m)
def Q8t (G:Gt)(p6 p0 p4 p5:V)(m:M):R:=Qq G G.rds p6 p0 p4 p5 m
def Q8s (G:Gt)(p0 p4 p5:V)(m:M):R:=Q8t G (.int .i64 0) p0 p4 p5 m
def Q8r (G:Gt)(p0 p4:V)(m:M):R:=Q8s G p0 p4 (.int .i64 0) m
def Q8q (G:Gt)(p0:V)(m:M):R:=Q8r G p0 (.slice none 0 0) m
def Q34 (G:Gt)(p0:V)(m:M):R:=Q8q G p0 m
theorem Qho (G:Gt)(a0:V)(m:M):ef G Tryz.f34 [a0] m = Q34 G a0 m:=Xf (r:=fun r m=>Q34 G (r 0) m) rfl rfl (tr (seqQ (f:=fun r m=>Q8q G (r 0) m) (tr (seqQ (f:=fun r m=>Q8r G (r 0) (r 4) m) (tr (seqQ (f:=fun r m=>Q8s G (r 0) (r 4) (r 5) m) (tr (tr (seqQ (f:=fun r m=>Q5x G (r 4) m) (tr (seqQ (f:=fun r m=>Q8u G (r 4) m) (tr (seqQ (f:=fun r m=>Q8v G (r 4) (r 7) m) (tr (tr (seqQ (f:=fun r m=>Q8k G (r 7) m)) (seqQ (f:=fun r m=>Q8w G (r 8) (r 4) (r 7) m) (tr (Xx (X2f (fun i r m=>Q2h G i (r 8) (r 4) (r 7) m) (fun _ _=>rfl) (fun i0=>fun r m=>by kernel_rfl)))))))))))) (seqQ (f:=fun r m=>Q8t G (r 6) (r 0) (r 4) (r 5) m) (tr (Xx (X2f (fun i r m=>Qq G i (r 6) (r 0) (r 4) (r 5) m) (fun _ _=>rfl) (fun i0=>tr (seqQ (f:=fun r m=>Q5d G (Qq G i0) (r 6) (r 0) (r 4) (r 5) m) (tr (tr (seqQ (f:=fun r m=>Q3l G (Qq G i0) (r 6) (r 0) (r 4) (r 5) m)) (Xx (seqQ (f:=fun r m=>Q3k G (Qq G i0) (r 25) (r 4) (r 0) (r 5) (r 6) m))))))))))))))))))) m
def Qat:En:=⟨Q10,Tryz.f34,Tryz.func34,by kernel_rfl,arg1 Q34,X19 Qho⟩
def Q3z (G:Gt)(p0 p2 p1:V)(m:M):R:=brb p0 (bp (pur (X6 false 1 p2 m) m) fun x0 m=>bp (apS Q4 1 16 x0 p1 m) fun x1 m=>bp (unt (X7 1 p2 x1 m)) fun _ m=>some (.tuple ⟨[]⟩,m)) (some (.tuple ⟨[]⟩,m))
theorem Qkb (G:Gt)(a0 a1 a2:V)(m:M):ef G Tryz.f35 [a0,a1,a2] m = Q3z G a0 a2 a1 m:=Xf (r:=fun r m=>Q3z G (r 0) (r 2) (r 1) m) rfl rfl (fun r m=>by kernel_rfl) m
def Qg4:En:=⟨Q7p,Tryz.f35,Tryz.func35,by kernel_rfl,arg3 (fun G a0 a1 a2 m=>Q3z G a0 a2 a1 m),Xkl Qkb⟩
def Qcx (G:Gt)(p16 p5 p1:V)(m:M):R:=brb p16 (some ((.string ⟨#[]⟩),m)) (bp (pur (bin .sub true true .int p1 (.int .u8 1)) m) fun x0 m=>bp (pur (X9 1 p5 x0) m) fun x1 m=>bp (pur (X6 false 1 x1 m) m) fun x2 m=>some (x2,m))
def Qev (G:Gt)(p1 p5:V)(m:M):R:=bp (pur (bin .lss true true .int p1 (.int .u8 1)) m) fun x3 m=>brb x3 (Qcx G (.bool true) p5 p1 m) (bp (conv (.int .i64) p1 m) fun x4 m=>bp (pur (lenK 1 p5 m) m) fun x5 m=>bp (pur (bin .gtr false true .int x4 x5) m) fun x6 m=>Qcx G x6 p5 p1 m)
def Qeu (G:Gt)(p0 p1:V)(m:M):R:=bp (G.tab Q5k [p0] m) fun x7 m=>Qev G p1 x7 m
def Qa0 (G:Gt)(p0 p1:V)(m:M):R:=Qeu G p0 p1 m
theorem Qkc (G:Gt)(a0 a1:V)(m:M):ef G Tryz.f36 [a0,a1] m = Qa0 G a0 a1 m:=Xf (r:=fun r m=>Qa0 G (r 0) (r 1) m) rfl rfl (tr (seqQ (f:=fun r m=>Qeu G (r 0) (r 1) m) (tr (seqQ (f:=fun r m=>Qev G (r 1) (r 5) m) (tr (tr seqD (seqQ (f:=fun r m=>Qcx G (r 16) (r 5) (r 1) m)))))))) m
def Qg5:En:=⟨Q7o,Tryz.f36,Tryz.func36,by kernel_rfl,arg2 Qa0,X2n Qkc⟩
end
end Go.Ab.Sh
