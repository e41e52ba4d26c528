/-
  Functions of the program as plain definitions. No conditions.
-/
import Derived.Test.YtphmfaooegiohaaGreatDoorAb5
import Derived.Test.YtphmfaooegiohaaGreatDoorZ
import Derived.KernelRfl
import Derived.Test.YtphmfaooegiohaaGreatDoorProg
set_option linter.unusedVariables false
set_option maxRecDepth 100000
namespace Go.Ab.Sh
open Go Go.Ab Go.Proofs
noncomputable section
def Q1og (G:Gt)(p11 p0:V)(m:M):R:=brb p11 (some (.tuple ⟨[(.pointer none),(.int .i64 1)]⟩,m)) (bp (G.tab Q24k [(.int .i64 208),p0] m) fun x0 m=>bp (pur (X5 x0 0) m) fun x1 m=>bp (pur (X5 x0 1) m) fun x2 m=>bp (pur (bin .neq true true .int x2 (.int .i64 0)) m) fun x3 m=>brb x3 (some (.tuple ⟨[(.pointer none),x2]⟩,m)) (bp (some (Xp m)) fun x4 m=>bp (pur (Xe Q28c [(0,1),(1,1)] [(0,x1),(1,x4)]) m) fun x5 m=>bp (some (aNew Q28d (Value.cells x5).toList m)) fun x6 m=>some (.tuple ⟨[x6,(.int .i64 0)]⟩,m)))
def Q20h (G:Gt)(p0:V)(m:M):R:=bp (pur (bin .lss true true .int p0 (.int .i64 0)) m) fun x7 m=>brb x7 (Q1og G (.bool true) p0 m) (bp (pur (bin .gtr true true .int p0 (.int .i64 4194304)) m) fun x8 m=>Q1og G x8 p0 m)
def Q1x7 (G:Gt)(p0:V)(m:M):R:=Q20h G p0 m
theorem Q2au (G:Gt)(a0:V)(m:M):ef G Tryz.f70 [a0] m = Q1x7 G a0 m:=X6 (r:=fun r m=>Q1x7 G (r 0) m) rfl rfl (tr (seqQ (f:=fun r m=>Q20h G (r 0) m) (tr (tr seqD (seqQ (f:=fun r m=>Q1og G (r 11) (r 0) m)))))) m
def Q2av:En:=⟨Q24l,Tryz.f70,Tryz.func70,by kernel_rfl,arg1 Q1x7,Xk Q2au⟩
def Q1t6 (G:Gt)(p7:V)(m:M):R:=some (.tuple ⟨[p7,(.int .i64 0)]⟩,m)
def Q1jq (G:Gt):Nat→V→V→V→V→V→M→R
 | 0,_,_,_,_,_,_=>none
 | i + 1,p52,p51,p50,p7,p6,m=>bp (pur (bin .lss false true .int p52 p51) m) fun x0 m=>brb x0 (bp (pur (X3 2 p50 p52) m) fun x1 m=>bp (pur (X4 true 2 x1 m) m) fun x2 m=>bp (some (aNew Q7 Q1e m)) fun x3 m=>bp (unt (X8 2 x3 x2 m)) fun _ m=>bp (pur (X9 p7) m) fun x4 m=>bp (pur (X0 3 x4) m) fun x5 m=>bp (pur (X4 false 1 x5 m) m) fun x6 m=>bp (pur (X4 true 2 x3 m) m) fun x7 m=>bp (pur (X4 true 2 x3 m) m) fun x8 m=>bp (G.tab Q14e [p6,x8] m) fun x9 m=>ckB (again (pur (X4 false 1 x5 m) m) x6 && (again (pur (X4 true 2 x3 m) m) x7 && true)) (bp (unt (Xd (.struct [(0,1,false,.int),(1,1,false,.int)]) x6 x7 x9 m)) fun _ m=>bp (pur (X9 p6) m) fun x10 m=>bp (pur (X0 4 x10) m) fun x11 m=>bp (pur (X4 false 1 x11 m) m) fun x12 m=>bp (pur (bin .neq true true .int x12 (.int .i64 0)) m) fun x13 m=>brb x13 (some (.tuple ⟨[(.pointer none),(.int .i64 3)]⟩,m)) (bp (pur (bin .add true true .int p52 (.int .i64 1)) m) fun x14 m=>(Q1jq G i) x14 p51 p50 p7 p6 m))) (Q1t6 G p7 m)
def Q1t7 (G:Gt)(p52 p51 p50 p7 p6:V)(m:M):R:=Q1jq G G.rds p52 p51 p50 p7 p6 m
def Q1t8 (G:Gt)(p7 p6:V)(m:M):R:=bp (pur (X9 p7) m) fun x15 m=>bp (pur (X0 2 x15) m) fun x16 m=>bp (pur (X4 false 1 x16 m) m) fun x17 m=>bp (pur (lenK 1 x17 m) m) fun x18 m=>Q1t7 G (.int .i64 0) x18 x17 p7 p6 m
def Q1t9 (G:Gt)(p0 p6 p1:V)(m:M):R:=bp (pur (X9 p6) m) fun x19 m=>bp (pur (X0 3 x19) m) fun x20 m=>bp (pur (X4 false 1 x20 m) m) fun x21 m=>bp (some (Xp m)) fun x22 m=>bp (G.tab Q1i7 [p1] m) fun x23 m=>ckB (again (pur (X4 false 1 x20 m) m) x21 && true) (bp (pur (Xe Q22m [(0,1),(1,1),(2,1),(3,1)] [(0,p0),(1,x21),(2,x23),(3,x22)]) m) fun x24 m=>bp (some (aNew Q22n (Value.cells x24).toList m)) fun x25 m=>Q1t8 G x25 p6 m)
def Q1ta (G:Gt)(p6 p0 p1:V)(m:M):R:=bp (pur (X9 p6) m) fun x26 m=>bp (pur (X0 4 x26) m) fun x27 m=>bp (pur (X4 false 1 x27 m) m) fun x28 m=>bp (pur (bin .neq true true .int x28 (.int .i64 0)) m) fun x29 m=>brb x29 (some (.tuple ⟨[(.pointer none),(.int .i64 3)]⟩,m)) (Q1t9 G p0 p6 p1 m)
def Q1tb (G:Gt)(p6 p0 p1:V)(m:M):R:=bp (G.tab Q1kh [p0] m) fun x30 m=>bp (pur (X5 x30 0) m) fun x31 m=>bp (pur (X5 x30 1) m) fun x32 m=>bp (G.tab Qd [p6,x31,x32] m) fun x33 m=>bp (pur (X9 p6) m) fun x34 m=>bp (pur (X0 3 x34) m) fun x35 m=>bp (unt (X8 1 x35 x33 m)) fun _ m=>Q1ta G p6 p0 p1 m
def Q1tc (G:Gt)(p0 p1:V)(m:M):R:=bp (G.tab Q17v [p1] m) fun x36 m=>bp (G.tab Qsj [x36] m) fun x37 m=>bp (pur (Xe Q1lx [(0,1),(1,1),(2,1),(3,1),(4,1)] [(0,p0),(1,p1),(2,x37)]) m) fun x38 m=>bp (some (aNew Q1ly (Value.cells x38).toList m)) fun x39 m=>Q1tb G x39 p0 p1 m
def Q1jr (G:Gt)(p15 p0 p1:V)(m:M):R:=brb p15 (some (.tuple ⟨[(.pointer none),(.int .i64 2)]⟩,m)) (Q1tc G p0 p1 m)
def Q1td (G:Gt)(p0 p1:V)(m:M):R:=bp (pur (binP m .eql true true .ptr p0 (.pointer none)) m) fun x40 m=>brb x40 (Q1jr G (.bool true) p0 p1 m) (bp (pur (binP m .eql true true .ptr p1 (.pointer none)) m) fun x41 m=>Q1jr G x41 p0 p1 m)
def Q1oh (G:Gt)(p0 p1:V)(m:M):R:=Q1td G p0 p1 m
theorem Q28e (G:Gt)(a0 a1:V)(m:M):ef G Tryz.f71 [a0,a1] m = Q1oh G a0 a1 m:=X6 (r:=fun r m=>Q1oh G (r 0) (r 1) m) rfl rfl (tr (seqQ (f:=fun r m=>Q1td G (r 0) (r 1) m) (tr (tr (seqQ (f:=fun r m=>Q1tc G (r 0) (r 1) m) (tr (seqQ (f:=fun r m=>Q1tb G (r 6) (r 0) (r 1) m) (tr (seqQ (f:=fun r m=>Q1ta G (r 6) (r 0) (r 1) m) (tr (seqQ (f:=fun r m=>Q1t9 G (r 0) (r 6) (r 1) m) (tr (seqQ (f:=fun r m=>Q1t8 G (r 7) (r 6) m) (tr (tr (seqQ (f:=fun r m=>Q1t6 G (r 7) m)) (seqQ (f:=fun r m=>Q1t7 G (r 52) (r 51) (r 50) (r 7) (r 6) m) (tr (X7 (Xc (fun i r m=>Q1jq G i (r 52) (r 51) (r 50) (r 7) (r 6) m) (fun _ _=>rfl) (fun i0=>fun r m=>by kernel_rfl)))))))))))))))) (seqQ (f:=fun r m=>Q1jr G (r 15) (r 0) (r 1) m)))))) m
def Q28f:En:=⟨Q20i,Tryz.f71,Tryz.func71,by kernel_rfl,arg2 Q1oh,Xf Q28e⟩
def Qsk (G:Gt)(p6:V)(m:M):R:=some (p6,m)
def Q1dl (G:Gt)(p0 p5 p9:V)(m:M):R:=bp (pur (X4 false 1 p5 m) m) fun x0 m=>bp (G.tab Q1i8 [p0,x0] m) fun x1 m=>brb x1 (bp (G.tab Qbu [p9,(.func (.func Q1d1) ⟨[]⟩ ⟨[p5]⟩)] m) fun x2 m=>bp (pur (un .not x2) m) fun x3 m=>Qsk G x3 m) (Qsk G (.bool false) m)
def Q1dm (G:Gt)(p0 p1 p5:V)(m:M):R:=bp (G.tab Qsl [p0,p1] m) fun x4 m=>bp (pur (X5 x4 0) m) fun x5 m=>bp (pur (X5 x4 1) m) fun x6 m=>Q1dl G p0 p5 x5 m
def Qsm (G:Gt)(k0:J6)(p28 p13 p12 p11 p5 p0 p1:V)(m:M):R:=brb p28 (some ((.bool false),m)) (bp (pur (bin .add true true .int p13 (.int .i64 1)) m) fun x7 m=>k0 x7 p12 p11 p5 p0 p1 m)
def Q1dn (G:Gt)(k0:J6)(p7 p8 p5 p13 p12 p11 p0 p1:V)(m:M):R:=bp (pur (bin .gtr true true .int p7 (.int .i64 0)) m) fun x8 m=>brb x8 (bp (pur (X4 false 1 p5 m) m) fun x9 m=>bp (pur (bin .sub true true .int p7 (.int .i64 1)) m) fun x10 m=>bp (pur (X3 1 x9 x10) m) fun x11 m=>bp (pur (X4 false 1 x11 m) m) fun x12 m=>bp (pur (bin .leq false true .int p8 x12) m) fun x13 m=>Qsm G k0 x13 p13 p12 p11 p5 p0 p1 m) (Qsm G k0 (.bool false) p13 p12 p11 p5 p0 p1 m)
def Q1do (G:Gt)(k0:J6)(p13 p11 p5 p12 p0 p1:V)(m:M):R:=bp (pur (X3 1 p11 p13) m) fun x14 m=>bp (pur (X4 false 1 x14 m) m) fun x15 m=>Q1dn G k0 p13 x15 p5 p13 p12 p11 p0 p1 m
def Q1dp (G:Gt)(k0:J6)(p14 p13 p11 p5 p12 p0 p1:V)(m:M):R:=brb p14 (Q1do G k0 p13 p11 p5 p12 p0 p1 m) (Q1dm G p0 p1 p5 m)
def Q5v (G:Gt):Nat→V→V→V→V→V→V→M→R
 | 0,_,_,_,_,_,_,_=>none
 | i + 1,p13,p12,p11,p5,p0,p1,m=>bp (pur (bin .lss false true .int p13 p12) m) fun x16 m=>Q1dp G (Q5v G i) x16 p13 p11 p5 p12 p0 p1 m
def Q1dq (G:Gt)(p13 p12 p11 p5 p0 p1:V)(m:M):R:=Q5v G G.rds p13 p12 p11 p5 p0 p1 m
def Q1dr (G:Gt)(p5 p0 p1:V)(m:M):R:=bp (pur (X4 false 1 p5 m) m) fun x17 m=>bp (pur (lenK 1 x17 m) m) fun x18 m=>Q1dq G (.int .i64 0) x18 x17 p5 p0 p1 m
def Qyr (G:Gt)(p2 p0 p1:V)(m:M):R:=bp (some (aNew Q246 (Value.cells p2).toList m)) fun x19 m=>Q1dr G x19 p0 p1 m
theorem Q1x8 (G:Gt)(a0 a1 a2:V)(m:M):ef G Tryz.f72 [a0,a1,a2] m = Qyr G a2 a0 a1 m:=X6 (r:=fun r m=>Qyr G (r 2) (r 0) (r 1) m) rfl rfl (tr (seqQ (f:=fun r m=>Q1dr G (r 5) (r 0) (r 1) m) (tr (tr (seqQ (f:=fun r m=>Q1dm G (r 0) (r 1) (r 5) m) (tr (seqQ (f:=fun r m=>Q1dl G (r 0) (r 5) (r 9) m) (tr (seqQ (f:=fun r m=>Qsk G (r 6) m)))))) (seqQ (f:=fun r m=>Q1dq G (r 13) (r 12) (r 11) (r 5) (r 0) (r 1) m) (tr (X7 (Xc (fun i r m=>Q5v G i (r 13) (r 12) (r 11) (r 5) (r 0) (r 1) m) (fun _ _=>rfl) (fun i0=>tr (seqQ (f:=fun r m=>Q1dp G (Q5v G i0) (r 14) (r 13) (r 11) (r 5) (r 12) (r 0) (r 1) m) (tr (seqQ (f:=fun r m=>Q1do G (Q5v G i0) (r 13) (r 11) (r 5) (r 12) (r 0) (r 1) m) (tr (tr seqD (X7 (seqQ (f:=fun r m=>Q1dn G (Q5v G i0) (r 7) (r 8) (r 5) (r 13) (r 12) (r 11) (r 0) (r 1) m) (tr (seqQ (f:=fun r m=>Qsm G (Q5v G i0) (r 28) (r 13) (r 12) (r 11) (r 5) (r 0) (r 1) m))))))))))))))))))) m
def Q1x9:En:=⟨Q1ig,Tryz.f72,Tryz.func72,by kernel_rfl,arg3 (fun G a0 a1 a2 m=>Qyr G a2 a0 a1 m),Xr Q1x8⟩
def Qsn (G:Gt)(p0 p1 p2:V)(m:M):R:=bp (pur (bin .lss true true .int p0 (.int .i32 2)) m) fun x0 m=>brb x0 (bp (pur (X4 false 1 p1 m) m) fun x1 m=>bp (pur (lenK 1 x1 m) m) fun x2 m=>some (x2,m)) (bp (pur (X4 false 1 p1 m) m) fun x3 m=>bp (pur (X4 false 1 p2 m) m) fun x4 m=>bp (pur (X9 x4) m) fun x5 m=>bp (pur (X0 2 x5) m) fun x6 m=>bp (pur (X4 false 1 x6 m) m) fun x7 m=>bp (pur (X3 3 x7 p0) m) fun x8 m=>bp (pur (X0 0 x8) m) fun x9 m=>bp (pur (X4 false 1 x9 m) m) fun x10 m=>bp (conv (.int .i64) x10 m) fun x11 m=>bp (G.tab Qj0 [x3,x11] m) fun x12 m=>some (x12,m))
theorem Q1rm (G:Gt)(a0 a1 a2:V)(m:M):ef G Tryz.f73 [a0,a1,a2] m = Qsn G a0 a1 a2 m:=X6 (r:=fun r m=>Qsn G (r 0) (r 1) (r 2) m) rfl rfl (fun r m=>by kernel_rfl) m
def Q1rn:En:=⟨Q1ds,Tryz.f73,Tryz.func73,by kernel_rfl,arg3 Qsn,Xr Q1rm⟩
def Qrm (G:Gt)(m:M):R:=some ((.int .i64 (-1)),m)
def Qg8 (G:Gt):Nat→V→V→V→V→M→R
 | 0,_,_,_,_,_=>none
 | i + 1,p8,p7,p1,p0,m=>bp (pur (bin .lss false true .int p8 p7) m) fun x0 m=>brb x0 (bp (pur (X3 1 p0 p8) m) fun x1 m=>bp (pur (X4 false 1 x1 m) m) fun x2 m=>bp (pur (bin .eql false true .int p1 x2) m) fun x3 m=>brb x3 (some (p8,m)) (bp (pur (bin .add true true .int p8 (.int .i64 1)) m) fun x4 m=>(Qg8 G i) x4 p7 p1 p0 m)) (Qrm G m)
def Qrn (G:Gt)(p8 p7 p1 p0:V)(m:M):R:=Qg8 G G.rds p8 p7 p1 p0 m
def Qro (G:Gt)(p0 p1:V)(m:M):R:=bp (pur (lenK 1 p0 m) m) fun x5 m=>Qrn G (.int .i64 0) x5 p1 p0 m
def Qj7 (G:Gt)(p0 p1:V)(m:M):R:=Qro G p0 p1 m
theorem Q1kv (G:Gt)(a0 a1:V)(m:M):ef G Tryz.f74 [a0,a1] m = Qj7 G a0 a1 m:=X6 (r:=fun r m=>Qj7 G (r 0) (r 1) m) rfl rfl (tr (seqQ (f:=fun r m=>Qro G (r 0) (r 1) m) (tr (tr (seqQ (f:=fun r m=>Qrm G m)) (seqQ (f:=fun r m=>Qrn G (r 8) (r 7) (r 1) (r 0) m) (tr (X7 (Xc (fun i r m=>Qg8 G i (r 8) (r 7) (r 1) (r 0) m) (fun _ _=>rfl) (fun i0=>fun r m=>by kernel_rfl))))))))) m
def Q1kw:En:=⟨Qj0,Tryz.f74,Tryz.func74,by kernel_rfl,arg2 Qj7,Xf Q1kv⟩
def Q14f (G:Gt)(p1 p0 p9 p6:V)(m:M):R:=bp (pur (X4 false 1 p1 m) m) fun x0 m=>bp (pur (X4 true 2 p9 m) m) fun x1 m=>bp (unt (Xd .int x0 p0 x1 m)) fun _ m=>bp (pur (X4 true 2 p9 m) m) fun x2 m=>bp (unt (X8 2 p6 x2 m)) fun _ m=>ob (ob (X4 true 2 p6 m) fun v=>ob (some []) fun l=>some (v :: l)) fun l=>some (X1c l,m)
def Qno (G:Gt):Nat→V→V→V→V→V→V→V→V→V→M→R
 | 0,_,_,_,_,_,_,_,_,_,_=>none
 | i + 1,p41,p40,p39,p3,p4,p0,p9,p1,p6,m=>bp (pur (bin .lss false true .int p41 p40) m) fun x3 m=>brb x3 (bp (pur (X3 1 p39 p41) m) fun x4 m=>bp (pur (X4 false 1 x4 m) m) fun x5 m=>bp (pur (X4 false 1 p3 m) m) fun x6 m=>bp (pur (X4 false 1 p4 m) m) fun x7 m=>bp (pur (X4 false 1 p4 m) m) fun x8 m=>bp (some (aNew Qfo Q3b m)) fun x9 m=>bp (Xj G.tab x6 [x5] m) fun x10 m=>ckB (again (pur (X4 false 1 p4 m) m) x7 && (again (pur (X4 false 1 p4 m) m) x8 && true)) (bp (Xj G.tab x7 [x5] m) fun x11 m=>ckB (again (pur (X4 false 1 p4 m) m) x8 && true) (bp (Xj G.tab x8 [p0] m) fun x12 m=>bp (pur (bin .sub false true .int x11 x12) m) fun x13 m=>bp (pur (bin .sub true true .int x13 (.int .i64 1)) m) fun x14 m=>bp (G.tab Q1oi [x10,x14] m) fun x15 m=>bp (unt (X8 2 x9 x15 m)) fun _ m=>bp (pur (X0 1 p9) m) fun x16 m=>bp (pur (X4 false 1 x16 m) m) fun x17 m=>bp (pur (X0 1 x9) m) fun x18 m=>bp (pur (X4 false 1 x18 m) m) fun x19 m=>bp (G.tab Q1kl [x17,x19,(.int .u64 0)] m) fun x20 m=>bp (pur (X5 x20 0) m) fun x21 m=>bp (pur (X5 x20 1) m) fun x22 m=>bp (pur (X0 0 p9) m) fun x23 m=>bp (pur (X4 false 1 x23 m) m) fun x24 m=>bp (pur (X0 0 x9) m) fun x25 m=>bp (pur (X4 false 1 x25 m) m) fun x26 m=>bp (pur (bin .add false true .int x24 x26) m) fun x27 m=>bp (pur (bin .add false true .int x27 x22) m) fun x28 m=>bp (pur (Xe Q3b [(0,1),(1,1)] [(0,x28),(1,x21)]) m) fun x29 m=>bp (unt (X8 2 p9 x29 m)) fun _ m=>bp (pur (bin .add true true .int p41 (.int .i64 1)) m) fun x30 m=>(Qno G i) x30 p40 p39 p3 p4 p0 p9 p1 p6 m))) (Q14f G p1 p0 p9 p6 m)
def Q14g (G:Gt)(p41 p40 p39 p3 p4 p0 p9 p1 p6:V)(m:M):R:=Qno G G.rds p41 p40 p39 p3 p4 p0 p9 p1 p6 m
def Q14h (G:Gt)(p2 p0 p3 p4 p9 p1 p6:V)(m:M):R:=bp (pur (X4 false 1 p2 m) m) fun x31 m=>bp (pur (X9 x31) m) fun x32 m=>bp (pur (X0 2 x32) m) fun x33 m=>bp (pur (X4 false 1 x33 m) m) fun x34 m=>bp (pur (X3 3 x34 p0) m) fun x35 m=>bp (pur (X0 1 x35) m) fun x36 m=>bp (pur (X4 false 1 x36 m) m) fun x37 m=>bp (pur (X4 false 1 p2 m) m) fun x38 m=>bp (pur (X9 x38) m) fun x39 m=>bp (pur (X0 2 x39) m) fun x40 m=>bp (pur (X4 false 1 x40 m) m) fun x41 m=>bp (pur (X3 3 x41 p0) m) fun x42 m=>bp (pur (X0 2 x42) m) fun x43 m=>bp (pur (X4 false 1 x43 m) m) fun x44 m=>bp (Xa Q3o [(.int .i32 0)] 1 2 [(0,x37),(1,x44)] m) fun x45 m=>bp (pur (lenK 1 x45 m) m) fun x46 m=>Q14g G (.int .i64 0) x46 x45 p3 p4 p0 p9 p1 p6 m
def Q14i (G:Gt)(p2 p0 p3 p4 p1 p6:V)(m:M):R:=bp (some (aNew Qfo Q3b m)) fun x47 m=>Q14h G p2 p0 p3 p4 x47 p1 p6 m
def Q14j (G:Gt)(p1 p0 p6 p2 p3 p4:V)(m:M):R:=bp (pur (X4 false 1 p1 m) m) fun x48 m=>bp (pur (Xg .int (.agg #[(.int .u64 0),(.int .u64 0)]) true x48 p0 m) m) fun x49 m=>bp (pur (X5 x49 0) m) fun x50 m=>bp (pur (X5 x49 1) m) fun x51 m=>bp (some (aNew Qfo Q3b m)) fun x52 m=>bp (unt (X8 2 x52 x50 m)) fun _ m=>brb x51 (bp (pur (X4 true 2 x52 m) m) fun x53 m=>bp (unt (X8 2 p6 x53 m)) fun _ m=>ob (ob (X4 true 2 p6 m) fun v=>ob (some []) fun l=>some (v :: l)) fun l=>some (X1c l,m)) (Q14i G p2 p0 p3 p4 p1 p6 m)
def Qso (G:Gt)(p1 p0 p2 p3 p4:V)(m:M):R:=bp (some (aNew Qfo Q3b m)) fun x54 m=>Q14j G p1 p0 x54 p2 p3 p4 m
theorem Q1ro (G:Gt)(a0 a1 a2 a3 a4:V)(m:M):ef G Tryz.f75 [a0,a1,a2,a3,a4] m = Qso G a1 a0 a2 a3 a4 m:=X6 (r:=fun r m=>Qso G (r 1) (r 0) (r 2) (r 3) (r 4) m) rfl rfl (tr (seqQ (f:=fun r m=>Q14j G (r 1) (r 0) (r 6) (r 2) (r 3) (r 4) m) (tr (seqQ (f:=fun r m=>Q14i G (r 2) (r 0) (r 3) (r 4) (r 1) (r 6) m) (tr (seqQ (f:=fun r m=>Q14h G (r 2) (r 0) (r 3) (r 4) (r 9) (r 1) (r 6) m) (tr (tr (seqQ (f:=fun r m=>Q14f G (r 1) (r 0) (r 9) (r 6) m)) (seqQ (f:=fun r m=>Q14g G (r 41) (r 40) (r 39) (r 3) (r 4) (r 0) (r 9) (r 1) (r 6) m) (tr (X7 (Xc (fun i r m=>Qno G i (r 41) (r 40) (r 39) (r 3) (r 4) (r 0) (r 9) (r 1) (r 6) m) (fun _ _=>rfl) (fun i0=>fun r m=>by kernel_rfl))))))))))))) m
def Q1rp:En:=⟨Q1dt,Tryz.f75,Tryz.func75,by kernel_rfl,arg5 (fun G a0 a1 a2 a3 a4 m=>Qso G a1 a0 a2 a3 a4 m),X30 Q1ro⟩
def Q1js (G:Gt)(p2 p1 p4:V)(m:M):R:=bp (pur (X0 0 p2) m) fun x0 m=>bp (pur (X4 false 1 x0 m) m) fun x1 m=>bp (pur (bin .shl false true .int x1 p1) m) fun x2 m=>bp (pur (X0 1 p2) m) fun x3 m=>bp (pur (X4 false 1 x3 m) m) fun x4 m=>bp (pur (bin .sub true true .int (.int .i64 64) p1) m) fun x5 m=>bp (pur (bin .shr false true .int x4 x5) m) fun x6 m=>bp (pur (bin .or false true .int x2 x6) m) fun x7 m=>bp (pur (X0 1 p2) m) fun x8 m=>bp (pur (X4 false 1 x8 m) m) fun x9 m=>bp (pur (bin .shl false true .int x9 p1) m) fun x10 m=>bp (pur (Xe Q3b [(0,1),(1,1)] [(0,x7),(1,x10)]) m) fun x11 m=>bp (unt (X8 2 p4 x11 m)) fun _ m=>ob (ob (X4 true 2 p4 m) fun v=>ob (some []) fun l=>some (v :: l)) fun l=>some (X1c l,m)
def Q1te (G:Gt)(p1 p2 p4:V)(m:M):R:=bp (pur (bin .geq true true .int p1 (.int .i64 64)) m) fun x12 m=>brb x12 (bp (pur (X0 1 p2) m) fun x13 m=>bp (pur (X4 false 1 x13 m) m) fun x14 m=>bp (pur (Xe Q3b [(0,1),(1,1)] [(0,x14)]) m) fun x15 m=>bp (pur (bin .sub true true .int p1 (.int .i64 64)) m) fun x16 m=>bp (unt (X8 2 p2 x15 m)) fun _ m=>Q1js G p2 x16 p4 m) (Q1js G p2 p1 p4 m)
def Q1oj (G:Gt)(p0 p1:V)(m:M):R:=bp (some (aNew Qfo (Value.cells p0).toList m)) fun x17 m=>bp (some (aNew Qfo Q3b m)) fun x18 m=>Q1te G p1 x17 x18 m
theorem Q28g (G:Gt)(a0 a1:V)(m:M):ef G Tryz.f76 [a0,a1] m = Q1oj G a0 a1 m:=X6 (r:=fun r m=>Q1oj G (r 0) (r 1) m) rfl rfl (tr (seqQ (f:=fun r m=>Q1te G (r 1) (r 2) (r 4) m) (tr (seqQ (f:=fun r m=>Q1js G (r 2) (r 1) (r 4) m))))) m
def Q28h:En:=⟨Q1oi,Tryz.f76,Tryz.func76,by kernel_rfl,arg2 Q1oj,Xf Q28g⟩
def Q186 (G:Gt)(p0 p1 p2:V)(m:M):R:=bp (pur (binP m .eql true true .ptr p0 (.pointer none)) m) fun x0 m=>brb x0 (some (.tuple ⟨[(.int .i64 0),(.int .i64 2)]⟩,m)) (bp (pur (X9 p0) m) fun x1 m=>bp (pur (X0 0 x1) m) fun x2 m=>bp (pur (X4 false 1 x2 m) m) fun x3 m=>bp (G.tab Qsp [p0,p1,p2,(.func (.func Qkc) ⟨[x3]⟩ ⟨[]⟩)] m) fun x4 m=>bp (pur (X5 x4 0) m) fun x5 m=>bp (pur (X5 x4 1) m) fun x6 m=>some (.tuple ⟨[x5,x6]⟩,m))
theorem Q216 (G:Gt)(a0 a1 a2:V)(m:M):ef G Tryz.f78 [a0,a1,a2] m = Q186 G a0 a1 a2 m:=X6 (r:=fun r m=>Q186 G (r 0) (r 1) (r 2) m) rfl rfl (fun r m=>by kernel_rfl) m
def Q217:En:=⟨Qbz,Tryz.f78,Tryz.func78,by kernel_rfl,arg3 Q186,Xr Q216⟩
def Ql5 (G:Gt)(p1:V)(m:M):R:=some (p1,m)
def Qys (G:Gt)(p0 p2 p1:V)(m:M):R:=bp (pur (X9 p0) m) fun x0 m=>bp (pur (X0 4 x0) m) fun x1 m=>bp (pur (X4 false 1 x1 m) m) fun x2 m=>bp (pur (bin .eql true true .int x2 (.int .i64 0)) m) fun x3 m=>brb x3 (bp (pur (X9 p0) m) fun x4 m=>bp (pur (X0 4 x4) m) fun x5 m=>bp (unt (X8 1 x5 p2 m)) fun _ m=>Ql5 G p1 m) (Ql5 G p1 m)
def Qnp (G:Gt)(p0 p2 p1:V)(m:M):R:=Qys G p0 p2 p1 m
theorem Q1ok (G:Gt)(a0 a1 a2:V)(m:M):ef G Tryz.f79 [a0,a1,a2] m = Qnp G a0 a2 a1 m:=X6 (r:=fun r m=>Qnp G (r 0) (r 2) (r 1) m) rfl rfl (tr (seqQ (f:=fun r m=>Qys G (r 0) (r 2) (r 1) m) (tr (seqQ (f:=fun r m=>Ql5 G (r 1) m))))) m
def Q1ol:En:=⟨Qd,Tryz.f79,Tryz.func79,by kernel_rfl,arg3 (fun G a0 a1 a2 m=>Qnp G a0 a2 a1 m),Xr Q1ok⟩
def Qnq (G:Gt)(p1 p0 p2:V)(m:M):R:=bp (pur (X9 p0) m) fun x0 m=>bp (pur (X0 3 x0) m) fun x1 m=>bp (pur (X4 false 1 x1 m) m) fun x2 m=>bp (pur (bin .eql false true .int p1 x2) m) fun x3 m=>brb x3 (some (p2,m)) (bp (pur (X9 p0) m) fun x4 m=>bp (pur (X0 0 x4) m) fun x5 m=>bp (pur (X4 false 1 x5 m) m) fun x6 m=>bp (G.tab Q1q2 [x6,p1,p2] m) fun x7 m=>bp (pur (X5 x7 0) m) fun x8 m=>bp (pur (X5 x7 1) m) fun x9 m=>bp (G.tab Qd [p0,x8,x9] m) fun x10 m=>some (x10,m))
theorem Q1om (G:Gt)(a0 a1 a2:V)(m:M):ef G Tryz.f80 [a0,a1,a2] m = Qnq G a1 a0 a2 m:=X6 (r:=fun r m=>Qnq G (r 1) (r 0) (r 2) m) rfl rfl (fun r m=>by kernel_rfl) m
def Q1on:En:=⟨Qnr,Tryz.f80,Tryz.func80,by kernel_rfl,arg3 (fun G a0 a1 a2 m=>Qnq G a1 a0 a2 m),Xr Q1om⟩
end
end Go.Ab.Sh

set_option linter.unusedVariables false
set_option maxRecDepth 100000
namespace Go.Ab.Sh
open Go Go.Ab Go.Proofs
noncomputable section
def Q7m (G:Gt)(p0 p1 p2 p3:V)(m:M):R:=bp (Xa Q6s [(.int .i64 0)] 1 3 [(0,p1),(1,p2),(2,p3)] m) fun x0 m=>bp (G.tab Q35 [p0,x0] m) fun x1 m=>bp (pur (bin .neq true true .int x1 (.int .i64 0)) m) fun x2 m=>brb x2 (some (.tuple ⟨[(.int .i64 0),x1]⟩,m)) (bp (conv (.int .i32) p1 m) fun x3 m=>bp (conv (.int .i32) p2 m) fun x4 m=>bp (conv (.int .i32) p3 m) fun x5 m=>bp (G.tab Q2m [p0,x3,x4,x5] m) fun x6 m=>bp (G.tab Q6i [p0,x6] m) fun x7 m=>bp (pur (X5 x7 0) m) fun x8 m=>bp (pur (X5 x7 1) m) fun x9 m=>some (.tuple ⟨[x8,x9]⟩,m))
theorem Q218 (G:Gt)(a0 a1 a2 a3:V)(m:M):ef G Tryz.f81 [a0,a1,a2,a3] m = Q7m G a0 a1 a2 a3 m:=X6 (r:=fun r m=>Q7m G (r 0) (r 1) (r 2) (r 3) m) rfl rfl (fun r m=>by kernel_rfl) m
def Q187:En:=⟨Q3f,Tryz.f81,Tryz.func81,by kernel_rfl,arg4 Q7m,X19 Q218⟩
def Qyt (G:Gt)(p0 p2 p1:V)(m:M):R:=bp (some (aNew Q33 (Value.cells p0).toList m)) fun x0 m=>bp (some (aNew Q1hv (Value.cells p2).toList m)) fun x1 m=>bp (some (Xp m)) fun x2 m=>bp (unt (Xd .int x2 (.int .i32 0) (.bool true) m)) fun _ m=>bp (unt (Xd .int x2 (.int .i32 1) (.bool true) m)) fun _ m=>bp (some (aNew Qs9 [(.map none)] m)) fun x3 m=>bp (unt (X8 1 x3 x2 m)) fun _ m=>bp (some (aNew Q1hv [.nilFunc] m)) fun x4 m=>let x5:V:=(.func (.func Q1d3) ⟨[]⟩ ⟨[x3,x1,x4,x0]⟩);bp (unt (X8 1 x4 x5 m)) fun _ m=>bp (pur (X4 false 1 x4 m) m) fun x6 m=>bp (Xj G.tab x6 [p1] m) fun x7 m=>some (.tuple ⟨[]⟩,m)
theorem Q1xa (G:Gt)(a0 a1 a2:V)(m:M):ef G Tryz.f82 [a0,a1,a2] m = Qyt G a0 a2 a1 m:=X6 (r:=fun r m=>Qyt G (r 0) (r 2) (r 1) m) rfl rfl (fun r m=>by kernel_rfl) m
def Q1xb:En:=⟨Q1ih,Tryz.f82,Tryz.func82,by kernel_rfl,arg3 (fun G a0 a1 a2 m=>Qyt G a0 a2 a1 m),Xr Q1xa⟩
def Qns (G:Gt)(p1 p2 p0:V)(m:M):R:=bp (pur (X4 false 1 p1 m) m) fun x0 m=>bp (pur (X4 false 1 p2 m) m) fun x1 m=>bp (pur (X9 x1) m) fun x2 m=>bp (pur (X0 2 x2) m) fun x3 m=>bp (pur (X4 false 1 x3 m) m) fun x4 m=>bp (pur (X3 3 x4 p0) m) fun x5 m=>bp (pur (X0 0 x5) m) fun x6 m=>bp (pur (X4 false 1 x6 m) m) fun x7 m=>bp (conv (.int .i64) x7 m) fun x8 m=>bp (Xa Q6s [(.int .i64 0)] 1 1 [(0,x8)] m) fun x9 m=>bp (apS Q6s 1 8 x0 x9 m) fun x10 m=>bp (unt (X8 1 p1 x10 m)) fun _ m=>some (.tuple ⟨[]⟩,m)
theorem Q1oo (G:Gt)(a0 a1 a2:V)(m:M):ef G Tryz.f84 [a0,a1,a2] m = Qns G a1 a2 a0 m:=X6 (r:=fun r m=>Qns G (r 1) (r 2) (r 0) m) rfl rfl (fun r m=>by kernel_rfl) m
def Q1op:En:=⟨Q14k,Tryz.f84,Tryz.func84,by kernel_rfl,arg3 (fun G a0 a1 a2 m=>Qns G a1 a2 a0 m),Xr Q1oo⟩
def Ql6 (G:Gt)(p0:V)(m:M):R:=bp (pur (lenK 1 p0 m) m) fun x0 m=>bp (conv (.int .u64) x0 m) fun x1 m=>bp (G.tab Q9a [x1] m) fun x2 m=>bp (G.tab Q8g [p0,(.int .i64 0),x0,x2] m) fun x3 m=>some (.tuple ⟨[]⟩,m)
theorem Q1lz (G:Gt)(a0:V)(m:M):ef G Tryz.f85 [a0] m = Ql6 G a0 m:=X6 (r:=fun r m=>Ql6 G (r 0) m) rfl rfl (fun r m=>by kernel_rfl) m
def Q1m0:En:=⟨Qyu,Tryz.f85,Tryz.func85,by kernel_rfl,arg1 Ql6,Xk Q1lz⟩
def Qox (G:Gt)(p0:V)(m:M):R:=some (p0,m)
def Qoy (G:Gt)(p0 p3:V)(m:M):R:=bp (pur (Xz 1 p0 (some p3) none) m) fun x0 m=>bp (unt (X79 [(.int .i64 0)] 1 x0 m)) fun _ m=>bp (pur (Xz 1 p0 none (some p3)) m) fun x1 m=>some (x1,m)
def Qdn (G:Gt)(k1:J4)(p5 p4 p0 p3:V)(m:M):R:=bp (pur (bin .add true true .int p5 (.int .i64 1)) m) fun x2 m=>k1 x2 p4 p0 p3 m
def Qnd (G:Gt)(k1:J4)(p4 p5 p0 p3:V)(m:M):R:=bp (pur (X3 1 p4 p5) m) fun x3 m=>bp (pur (X4 false 1 x3 m) m) fun x4 m=>bp (pur (bin .sub true true .int p5 (.int .i64 1)) m) fun x5 m=>bp (pur (X3 1 p4 x5) m) fun x6 m=>bp (pur (X4 false 1 x6 m) m) fun x7 m=>bp (pur (bin .neq false true .int x4 x7) m) fun x8 m=>brb x8 (bp (pur (X3 1 p4 p5) m) fun x9 m=>bp (pur (X4 false 1 x9 m) m) fun x10 m=>bp (pur (X3 1 p0 p3) m) fun x11 m=>bp (unt (X8 1 x11 x10 m)) fun _ m=>bp (pur (bin .add true true .int p3 (.int .i64 1)) m) fun x12 m=>Qdn G k1 p5 p4 p0 x12 m) (Qdn G k1 p5 p4 p0 p3 m)
def Q3y (G:Gt):Nat→V→V→V→V→M→R
 | 0,_,_,_,_,_=>none
 | i + 1,p5,p4,p0,p3,m=>bp (pur (lenK 1 p4 m) m) fun x13 m=>bp (pur (bin .lss false true .int p5 x13) m) fun x14 m=>brb x14 (Qnd G (Q3y G i) p4 p5 p0 p3 m) (Qoy G p0 p3 m)
def Qoz (G:Gt)(p5 p4 p0 p3:V)(m:M):R:=Q3y G G.rds p5 p4 p0 p3 m
def Qp0 (G:Gt)(p4 p0 p3:V)(m:M):R:=Qoz G (.int .i64 1) p4 p0 p3 m
def Qp1 (G:Gt)(k0:J2)(p25 p0 p3:V)(m:M):R:=brb p25 (bp (pur (Xz 1 p0 (some p3) none) m) fun x15 m=>Qp0 G x15 p0 p3 m) (bp (pur (bin .add true true .int p3 (.int .i64 1)) m) fun x16 m=>k0 x16 p0 m)
def Qp2 (G:Gt)(k0:J2)(p0 p3:V)(m:M):R:=bp (pur (X3 1 p0 p3) m) fun x17 m=>bp (pur (X4 false 1 x17 m) m) fun x18 m=>bp (pur (bin .sub true true .int p3 (.int .i64 1)) m) fun x19 m=>bp (pur (X3 1 p0 x19) m) fun x20 m=>bp (pur (X4 false 1 x20 m) m) fun x21 m=>bp (pur (bin .eql false true .int x18 x21) m) fun x22 m=>Qp1 G k0 x22 p0 p3 m
def Q4g (G:Gt):Nat→V→V→M→R
 | 0,_,_,_=>none
 | i + 1,p3,p0,m=>bp (pur (lenK 1 p0 m) m) fun x23 m=>bp (pur (bin .lss false true .int p3 x23) m) fun x24 m=>brb x24 (Qp2 G (Q4g G i) p0 p3 m) (Qox G p0 m)
def Qp3 (G:Gt)(p3 p0:V)(m:M):R:=Q4g G G.rds p3 p0 m
def Qp4 (G:Gt)(p0:V)(m:M):R:=Qp3 G (.int .i64 1) p0 m
def Qp5 (G:Gt)(p0:V)(m:M):R:=bp (pur (lenK 1 p0 m) m) fun x25 m=>bp (pur (bin .lss true true .int x25 (.int .i64 2)) m) fun x26 m=>brb x26 (some (p0,m)) (Qp4 G p0 m)
def Qg9 (G:Gt)(p0:V)(m:M):R:=Qp5 G p0 m
theorem Q1ii (G:Gt)(a0:V)(m:M):ef G Tryz.f86 [a0] m = Qg9 G a0 m:=X6 (r:=fun r m=>Qg9 G (r 0) m) rfl rfl (tr (seqQ (f:=fun r m=>Qp5 G (r 0) m) (tr (seqQ (f:=fun r m=>Qp4 G (r 0) m) (tr (tr (seqQ (f:=fun r m=>Qox G (r 0) m)) (seqQ (f:=fun r m=>Qp3 G (r 3) (r 0) m) (tr (X7 (Xc (fun i r m=>Q4g G i (r 3) (r 0) m) (fun _ _=>rfl) (fun i0=>tr (seqQ (f:=fun r m=>Qp2 G (Q4g G i0) (r 0) (r 3) m) (tr (tr seqD (X7 (seqQ (f:=fun r m=>Qp1 G (Q4g G i0) (r 25) (r 0) (r 3) m) (tr (X1q (seqQ (f:=fun r m=>Qp0 G (r 4) (r 0) (r 3) m) (tr (tr (seqQ (f:=fun r m=>Qoy G (r 0) (r 3) m)) (seqQ (f:=fun r m=>Qoz G (r 5) (r 4) (r 0) (r 3) m) (tr (X7 (Xc (fun i r m=>Q3y G i (r 5) (r 4) (r 0) (r 3) m) (fun _ _=>rfl) (fun i1=>tr (seqQ (f:=fun r m=>Qnd G (Q3y G i1) (r 4) (r 5) (r 0) (r 3) m) (tr (seqQ (f:=fun r m=>Qdn G (Q3y G i1) (r 5) (r 4) (r 0) (r 3) m)))))))))))) (refQ))))))))))))))))))) m
def Q1ij:En:=⟨Qrp,Tryz.f86,Tryz.func86,by kernel_rfl,arg1 Qg9,Xk Q1ii⟩
def Q1nr (G:Gt)(m:M):R:=some (.tuple ⟨[(.string ⟨#[]⟩),(.int .i64 0)]⟩,m)
def Q1ns (G:Gt)(k0:J3)(p22 p21 p20:V)(m:M):R:=bp (pur (bin .add true true .int p22 (.int .i64 1)) m) fun x0 m=>k0 x0 p21 p20 m
def Q188 (G:Gt)(k0:J3):Nat→V→V→V→V→V→V→M→R
 | 0,_,_,_,_,_,_,_=>none
 | i + 1,p40,p39,p5,p22,p21,p20,m=>bp (pur (bin .lss false true .int p40 p39) m) fun x1 m=>brb x1 (bp (pur (X0 3 p5) m) fun x2 m=>bp (pur (X4 false 1 x2 m) m) fun x3 m=>bp (Xj G.tab x3 [p40] m) fun x4 m=>bp (pur (bin .eql true true .int x4 (.int .i64 1)) m) fun x5 m=>brb x5 (bp (pur (X0 0 p5) m) fun x6 m=>bp (pur (X4 false 1 x6 m) m) fun x7 m=>bp (pur (bin .add true true .str x7 (.string ⟨#[32]⟩)) m) fun x8 m=>bp (G.tab Q1hi [p40] m) fun x9 m=>ckB (again (pur (X4 false 1 x6 m) m) x7 && true) (bp (pur (bin .add false true .str x8 x9) m) fun x10 m=>some (.tuple ⟨[x10,(.int .i64 121)]⟩,m))) (bp (pur (bin .eql true true .int x4 (.int .i64 2)) m) fun x11 m=>brb x11 (bp (pur (X0 0 p5) m) fun x12 m=>bp (pur (X4 false 1 x12 m) m) fun x13 m=>bp (pur (bin .add true true .str x13 (.string ⟨#[32]⟩)) m) fun x14 m=>bp (G.tab Q1hi [p40] m) fun x15 m=>ckB (again (pur (X4 false 1 x12 m) m) x13 && true) (bp (pur (bin .add false true .str x14 x15) m) fun x16 m=>some (.tuple ⟨[x16,(.int .i64 120)]⟩,m))) (bp (pur (bin .add true true .int p40 (.int .i64 1)) m) fun x17 m=>(Q188 G k0 i) x17 p39 p5 p22 p21 p20 m))) (Q1ns G k0 p22 p21 p20 m)
def Q1m1 (G:Gt)(k0:J3)(p40 p39 p5 p22 p21 p20:V)(m:M):R:=Q188 G k0 G.rds p40 p39 p5 p22 p21 p20 m
def Q1m2 (G:Gt)(k0:J3)(p5 p22 p21 p20:V)(m:M):R:=bp (pur (X0 1 p5) m) fun x18 m=>bp (pur (X4 false 1 x18 m) m) fun x19 m=>Q1m1 G k0 (.int .i64 0) x19 p5 p22 p21 p20 m
def Q1nt (G:Gt)(k0:J3)(p5 p22 p21 p20:V)(m:M):R:=bp (pur (X0 1 p5) m) fun x20 m=>bp (pur (X4 false 1 x20 m) m) fun x21 m=>bp (pur (X0 2 p5) m) fun x22 m=>bp (pur (X4 false 1 x22 m) m) fun x23 m=>bp (pur (bin .gtr false true .int x21 x23) m) fun x24 m=>brb x24 (bp (pur (X0 0 p5) m) fun x25 m=>bp (pur (X4 false 1 x25 m) m) fun x26 m=>bp (pur (bin .add true true .str x26 (.string ⟨#[32]⟩)) m) fun x27 m=>bp (pur (X0 2 p5) m) fun x28 m=>bp (pur (X4 false 1 x28 m) m) fun x29 m=>bp (G.tab Q1hi [x29] m) fun x30 m=>ckB (again (pur (X4 false 1 x25 m) m) x26 && true) (bp (pur (bin .add false true .str x27 x30) m) fun x31 m=>some (.tuple ⟨[x31,(.int .i64 121)]⟩,m))) (Q1m2 G k0 p5 p22 p21 p20 m)
def Q1nu (G:Gt)(k0:J3)(p20 p22 p21:V)(m:M):R:=bp (pur (X3 4 p20 p22) m) fun x32 m=>bp (pur (X4 true 4 x32 m) m) fun x33 m=>bp (some (aNew Q1x1 Q68 m)) fun x34 m=>bp (unt (X8 4 x34 x33 m)) fun _ m=>Q1nt G k0 x34 p22 p21 p20 m
def Q1nv (G:Gt)(k0:J3)(p23 p20 p22 p21:V)(m:M):R:=brb p23 (Q1nu G k0 p20 p22 p21 m) (Q1nr G m)
def Q58 (G:Gt):Nat→V→V→V→M→R
 | 0,_,_,_,_=>none
 | i + 1,p22,p21,p20,m=>bp (pur (bin .lss false true .int p22 p21) m) fun x35 m=>Q1nv G (Q58 G i) x35 p20 p22 p21 m
def Q1nw (G:Gt)(p22 p21 p20:V)(m:M):R:=Q58 G G.rds p22 p21 p20 m
def Q1nx (G:Gt)(p1:V)(m:M):R:=bp (pur (X4 true 12 p1 m) m) fun x36 m=>bp (G.tab Q1np [x36] m) fun x37 m=>bp (pur (lenK 1 x37 m) m) fun x38 m=>Q1nw G (.int .i64 0) x38 x37 m
def Q189 (G:Gt)(p18 p1:V)(m:M):R:=brb p18 (some (.tuple ⟨[(.string ⟨#[107,105,110,100]⟩),(.int .i64 121)]⟩,m)) (Q1nx G p1 m)
def Q1ny (G:Gt)(p1:V)(m:M):R:=bp (pur (X0 1 p1) m) fun x39 m=>bp (pur (X4 false 1 x39 m) m) fun x40 m=>bp (pur (bin .neq true true .int x40 (.int .u8 1)) m) fun x41 m=>brb x41 (bp (pur (X0 1 p1) m) fun x42 m=>bp (pur (X4 false 1 x42 m) m) fun x43 m=>bp (pur (bin .neq true true .int x43 (.int .u8 2)) m) fun x44 m=>Q189 G x44 p1 m) (Q189 G (.bool false) p1 m)
def Q1nz (G:Gt)(p1:V)(m:M):R:=bp (pur (X0 0 p1) m) fun x45 m=>bp (pur (X4 false 1 x45 m) m) fun x46 m=>bp (G.tab Q1lm [x46] m) fun x47 m=>bp (pur (un .not x47) m) fun x48 m=>brb x48 (some (.tuple ⟨[(.string ⟨#[110,97,109,101]⟩),(.int .i64 121)]⟩,m)) (Q1ny G p1 m)
def Q1jt (G:Gt)(p0:V)(m:M):R:=bp (some (aNew Q4 (Value.cells p0).toList m)) fun x49 m=>Q1nz G x49 m
theorem Q25c (G:Gt)(a0:V)(m:M):ef G Tryz.f88 [a0] m = Q1jt G a0 m:=X6 (r:=fun r m=>Q1jt G (r 0) m) rfl rfl (tr (seqQ (f:=fun r m=>Q1nz G (r 1) m) (tr (seqQ (f:=fun r m=>Q1ny G (r 1) m) (tr (tr (seqQ (f:=fun r m=>Q1nx G (r 1) m) (tr (tr (seqQ (f:=fun r m=>Q1nr G m)) (seqQ (f:=fun r m=>Q1nw G (r 22) (r 21) (r 20) m) (tr (X7 (Xc (fun i r m=>Q58 G i (r 22) (r 21) (r 20) m) (fun _ _=>rfl) (fun i0=>tr (seqQ (f:=fun r m=>Q1nv G (Q58 G i0) (r 23) (r 20) (r 22) (r 21) m) (tr (seqQ (f:=fun r m=>Q1nu G (Q58 G i0) (r 20) (r 22) (r 21) m) (tr (tr (seqQ (f:=fun r m=>Q1ns G (Q58 G i0) (r 22) (r 21) (r 20) m)) (X7 (seqQ (f:=fun r m=>Q1nt G (Q58 G i0) (r 5) (r 22) (r 21) (r 20) m) (tr (seqQ (f:=fun r m=>Q1m2 G (Q58 G i0) (r 5) (r 22) (r 21) (r 20) m) (tr (seqQ (f:=fun r m=>Q1m1 G (Q58 G i0) (r 40) (r 39) (r 5) (r 22) (r 21) (r 20) m) (tr (X7 (Xc (fun i r m=>Q188 G (Q58 G i0) i (r 40) (r 39) (r 5) (r 22) (r 21) (r 20) m) (fun _ _=>rfl) (fun i1=>fun r m=>by kernel_rfl))))))))))))))))))))))) (seqQ (f:=fun r m=>Q189 G (r 18) (r 1) m)))))))) m
def Q25d:En:=⟨Q1tf,Tryz.f88,Tryz.func88,by kernel_rfl,arg1 Q1jt,Xk Q25c⟩
def Q1du (G:Gt)(p2:V)(m:M):R:=some (p2,m)
def Q1o0 (G:Gt)(p1:V)(m:M):R:=bp (pur (X0 4 p1) m) fun x0 m=>bp (pur (X4 false 1 x0 m) m) fun x1 m=>bp (pur (un .not x1) m) fun x2 m=>brb x2 (bp (pur (X4 true 11 p1 m) m) fun x3 m=>bp (G.tab Q1kk [x3] m) fun x4 m=>Q1du G x4 m) (Q1du G (.bool false) m)
def Q1ju (G:Gt)(p0:V)(m:M):R:=bp (some (aNew Q1i (Value.cells p0).toList m)) fun x5 m=>Q1o0 G x5 m
theorem Q25e (G:Gt)(a0:V)(m:M):ef G Tryz.f89 [a0] m = Q1ju G a0 m:=X6 (r:=fun r m=>Q1ju G (r 0) m) rfl rfl (tr (seqQ (f:=fun r m=>Q1o0 G (r 1) m) (tr (seqQ (f:=fun r m=>Q1du G (r 2) m))))) m
def Q25f:En:=⟨Q1tg,Tryz.f89,Tryz.func89,by kernel_rfl,arg1 Q1ju,Xk Q25e⟩
def Q1m3 (G:Gt)(p0:V)(m:M):R:=bp (some (aNew Q4 (Value.cells p0).toList m)) fun x0 m=>bp (some (aNew Q4 Q1l m)) fun x1 m=>bp (pur (X4 true 12 x0 m) m) fun x2 m=>bp (G.tab Q1x2 [x2] m) fun x3 m=>bp (unt (X8 12 x0 x3 m)) fun _ m=>bp (pur (X0 2 x0) m) fun x4 m=>bp (pur (X4 false 1 x4 m) m) fun x5 m=>bp (G.tab Qn5 [x5] m) fun x6 m=>bp (pur (X0 3 x0) m) fun x7 m=>bp (pur (X4 false 1 x7 m) m) fun x8 m=>bp (G.tab Qwk [x8,(.func (.func Q1da) #[] #[])] m) fun x9 m=>bp (pur (X0 4 x0) m) fun x10 m=>bp (pur (X4 false 1 x10 m) m) fun x11 m=>bp (G.tab Qtr [x11,(.func (.func Q1lq) #[] #[])] m) fun x12 m=>bp (pur (X0 7 x0) m) fun x13 m=>bp (pur (X4 false 1 x13 m) m) fun x14 m=>bp (G.tab Qn6 [x14,(.func (.func Q1ib) #[] #[])] m) fun x15 m=>bp (pur (X0 8 x0) m) fun x16 m=>bp (pur (X4 false 1 x16 m) m) fun x17 m=>bp (G.tab Qjm [x17,(.func (.func Q1fx) #[] #[])] m) fun x18 m=>bp (pur (X0 9 x0) m) fun x19 m=>bp (pur (X4 false 1 x19 m) m) fun x20 m=>bp (G.tab Qts [x20,(.func (.func Q1lr) #[] #[])] m) fun x21 m=>bp (pur (X0 6 x0) m) fun x22 m=>bp (pur (X4 false 1 x22 m) m) fun x23 m=>bp (G.tab Q7j [x23,(.func (.func Q1zt) #[] #[])] m) fun x24 m=>bp (pur (X4 true 12 x0 m) m) fun x25 m=>bp (unt (X8 12 x1 x25 m)) fun _ m=>ob (ob (X4 true 12 x1 m) fun v=>ob (some []) fun l=>some (v :: l)) fun l=>some (X1c l,m)
theorem Q273 (G:Gt)(a0:V)(m:M):ef G Tryz.f90 [a0] m = Q1m3 G a0 m:=X6 (r:=fun r m=>Q1m3 G (r 0) m) rfl rfl (fun r m=>by kernel_rfl) m
def Q274:En:=⟨Q1xc,Tryz.f90,Tryz.func90,by kernel_rfl,arg1 Q1m3,Xk Q273⟩
def Qi1 (G:Gt)(p1 p0:V)(m:M):R:=bp (some (aNew Q1n7 (Value.cells p1).toList m)) fun x0 m=>bp (G.tab Q7k [p0,(.func (.func Qph) ⟨[]⟩ ⟨[x0]⟩)] m) fun x1 m=>some (.tuple ⟨[]⟩,m)
theorem Q1jv (G:Gt)(a0 a1:V)(m:M):ef G Tryz.f91 [a0,a1] m = Qi1 G a1 a0 m:=X6 (r:=fun r m=>Qi1 G (r 1) (r 0) m) rfl rfl (fun r m=>by kernel_rfl) m
def Q1jw:En:=⟨Qu3,Tryz.f91,Tryz.func91,by kernel_rfl,arg2 (fun G a0 a1 m=>Qi1 G a1 a0 m),Xf Q1jv⟩
def Qyv (G:Gt)(p0:V)(m:M):R:=bp (some (aNew Q4 (Value.cells p0).toList m)) fun x0 m=>bp (pur (X0 0 x0) m) fun x1 m=>bp (pur (X4 false 1 x1 m) m) fun x2 m=>some (x2,m)
theorem Q1xd (G:Gt)(a0:V)(m:M):ef G Tryz.f92 [a0] m = Qyv G a0 m:=X6 (r:=fun r m=>Qyv G (r 0) m) rfl rfl (fun r m=>by kernel_rfl) m
def Q1xe:En:=⟨Q1ik,Tryz.f92,Tryz.func92,by kernel_rfl,arg1 Qyv,Xk Q1xd⟩
def Q1dv (G:Gt)(p11 p4 p0 p1:V)(m:M):R:=brb p11 (bp (pur (Xe Q1c [(0,1),(1,1)] []) m) fun x0 m=>bp (unt (X8 2 p4 x0 m)) fun _ m=>ob (ob (X4 true 2 p4 m) fun v=>ob (some [(.int .i64 1)]) fun l=>some (v :: l)) fun l=>some (X1c l,m)) (bp (G.tab Q1jn [p1] m) fun x1 m=>bp (pur (bin .andNot false true .int p0 x1) m) fun x2 m=>bp (pur (Xe Q1c [(0,1),(1,1)] [(0,x2),(1,p1)]) m) fun x3 m=>bp (unt (X8 2 p4 x3 m)) fun _ m=>ob (ob (X4 true 2 p4 m) fun v=>ob (some [(.int .i64 0)]) fun l=>some (v :: l)) fun l=>some (X1c l,m))
def Q1o1 (G:Gt)(p1 p4 p0:V)(m:M):R:=bp (pur (bin .lss true true .int p1 (.int .i64 0)) m) fun x4 m=>brb x4 (Q1dv G (.bool true) p4 p0 p1 m) (bp (pur (bin .gtr true true .int p1 (.int .i64 32)) m) fun x5 m=>Q1dv G x5 p4 p0 p1 m)
def Q1jx (G:Gt)(p1 p0:V)(m:M):R:=bp (some (aNew Qs Q1c m)) fun x6 m=>Q1o1 G p1 x6 p0 m
theorem Q25g (G:Gt)(a0 a1:V)(m:M):ef G Tryz.f93 [a0,a1] m = Q1jx G a1 a0 m:=X6 (r:=fun r m=>Q1jx G (r 1) (r 0) m) rfl rfl (tr (seqQ (f:=fun r m=>Q1o1 G (r 1) (r 4) (r 0) m) (tr (tr seqD (seqQ (f:=fun r m=>Q1dv G (r 11) (r 4) (r 0) (r 1) m)))))) m
def Q25h:En:=⟨Q1jy,Tryz.f93,Tryz.func93,by kernel_rfl,arg2 (fun G a0 a1 m=>Q1jx G a1 a0 m),Xf Q25g⟩
end
end Go.Ab.Sh
