/-
  Functions of the program as plain definitions. No conditions.
-/
import Derived.Test.YtfdlocphbipadaaGreatDoorAb5
import Derived.Test.YtfdlocphbipadaaGreatDoorZ
import Derived.KernelRfl
import Derived.Test.YtfdlocphbipadaaGreatDoorProg
set_option linter.unusedVariables false
set_option maxRecDepth 100000
namespace Go.Ab.Sh
open Go Go.Ab Go.Proofs
noncomputable section
def Q1hm (G:Gt)(p12:V)(m:M):R:=some (.tuple ⟨[p12,(.int .i64 0)]⟩,m)
def Qvt (G:Gt)(k0:J7)(p0 p14 p12 p13 p4 p1 p3 p2:V)(m:M):R:=bp (pur (X7 p0) m) fun x0 m=>bp (pur (X0 0 x0) m) fun x1 m=>bp (pur (X4 false 1 x1 m) m) fun x2 m=>bp (G.tab Ql3 [x2,p14,p12] m) fun x3 m=>bp (pur (X5 x3 0) m) fun x4 m=>bp (pur (X5 x3 1) m) fun x5 m=>bp (pur (bin .neq true true .int x5 (.int .i64 0)) m) fun x6 m=>brb x6 (some (.tuple ⟨[(.int .i64 0),x5]⟩,m)) (bp (pur (bin .sub true true .int p13 (.int .i64 1)) m) fun x7 m=>k0 x7 p0 p4 p1 p3 p2 x4 m)
def Q1hn (G:Gt)(k0:J7)(p3 p2 p13 p0 p14 p12 p4 p1:V)(m:M):R:=bp (pur (bin .sub true true .int p2 (.int .i64 1)) m) fun x8 m=>bp (pur (bin .sub false true .int x8 p13) m) fun x9 m=>bp (pur (bin .shr false true .int p3 x9) m) fun x10 m=>bp (pur (bin .and true true .int x10 (.int .u64 1)) m) fun x11 m=>bp (pur (bin .eql true true .int x11 (.int .u64 0)) m) fun x12 m=>brb x12 (bp (pur (X7 p0) m) fun x13 m=>bp (pur (X0 0 x13) m) fun x14 m=>bp (pur (X4 false 1 x14 m) m) fun x15 m=>bp (G.tab Ql4 [x15,p14] m) fun x16 m=>bp (pur (X5 x16 0) m) fun x17 m=>bp (pur (X5 x16 1) m) fun x18 m=>bp (pur (bin .neq true true .int x18 (.int .i64 0)) m) fun x19 m=>brb x19 (some (.tuple ⟨[(.int .i64 0),x18]⟩,m)) (Qvt G k0 p0 x17 p12 p13 p4 p1 p3 p2 m)) (Qvt G k0 p0 p14 p12 p13 p4 p1 p3 p2 m)
def Q1ho (G:Gt)(k0:J7)(p15 p3 p2 p13 p0 p14 p12 p4 p1:V)(m:M):R:=bp (pur (bin .neq true true .int p15 (.int .i64 0)) m) fun x20 m=>brb x20 (some (.tuple ⟨[(.int .i64 0),p15]⟩,m)) (Q1hn G k0 p3 p2 p13 p0 p14 p12 p4 p1 m)
def Q1hp (G:Gt)(k0:J7)(p0 p4 p1 p13 p3 p2 p12:V)(m:M):R:=bp (pur (X7 p0) m) fun x21 m=>bp (pur (X0 0 x21) m) fun x22 m=>bp (pur (X4 false 1 x22 m) m) fun x23 m=>bp (pur (bin .add false true .int p1 p13) m) fun x24 m=>bp (Xj G.tab p4 [x24] m) fun x25 m=>ckB (again (pur (X4 false 1 x22 m) m) x23 && true) (bp (G.tab Q7o [x23,x25] m) fun x26 m=>bp (pur (X5 x26 0) m) fun x27 m=>bp (pur (X5 x26 1) m) fun x28 m=>Q1ho G k0 x28 p3 p2 p13 p0 x27 p12 p4 p1 m)
def Q6q (G:Gt):Nat→V→V→V→V→V→V→V→M→R
 | 0,_,_,_,_,_,_,_,_=>none
 | i + 1,p13,p0,p4,p1,p3,p2,p12,m=>bp (pur (bin .geq true true .int p13 (.int .i64 0)) m) fun x29 m=>brb x29 (Q1hp G (Q6q G i) p0 p4 p1 p13 p3 p2 p12 m) (Q1hm G p12 m)
def Q1hq (G:Gt)(p13 p0 p4 p1 p3 p2 p12:V)(m:M):R:=Q6q G G.rds p13 p0 p4 p1 p3 p2 p12 m
def Q1hr (G:Gt)(p2 p0 p4 p1 p3 p12:V)(m:M):R:=bp (pur (bin .sub true true .int p2 (.int .i64 1)) m) fun x30 m=>Q1hq G x30 p0 p4 p1 p3 p2 p12 m
def Q1hs (G:Gt)(p2 p0 p4 p1 p3:V)(m:M):R:=Q1hr G p2 p0 p4 p1 p3 (.int .i64 1) m
def Q14s (G:Gt)(p2 p0 p4 p1 p3:V)(m:M):R:=Q1hs G p2 p0 p4 p1 p3 m
theorem Q23j (G:Gt)(a0 a1 a2 a3 a4:V)(m:M):ef G Tryz.f201 [a0,a1,a2,a3,a4] m = Q14s G a2 a0 a4 a1 a3 m:=X6 (r:=fun r m=>Q14s G (r 2) (r 0) (r 4) (r 1) (r 3) m) rfl rfl (tr (seqQ (f:=fun r m=>Q1hs G (r 2) (r 0) (r 4) (r 1) (r 3) m) (tr (seqQ (f:=fun r m=>Q1hr G (r 2) (r 0) (r 4) (r 1) (r 3) (r 12) m) (tr (tr (seqQ (f:=fun r m=>Q1hm G (r 12) m)) (seqQ (f:=fun r m=>Q1hq G (r 13) (r 0) (r 4) (r 1) (r 3) (r 2) (r 12) m) (tr (X9 (Xb (fun i r m=>Q6q G i (r 13) (r 0) (r 4) (r 1) (r 3) (r 2) (r 12) m) (fun _ _=>rfl) (fun i0=>tr (seqQ (f:=fun r m=>Q1hp G (Q6q G i0) (r 0) (r 4) (r 1) (r 13) (r 3) (r 2) (r 12) m) (tr (tr seqD (X9 (seqQ (f:=fun r m=>Q1ho G (Q6q G i0) (r 15) (r 3) (r 2) (r 13) (r 0) (r 14) (r 12) (r 4) (r 1) m) (tr (seqQ (f:=fun r m=>Q1hn G (Q6q G i0) (r 3) (r 2) (r 13) (r 0) (r 14) (r 12) (r 4) (r 1) m) (tr (seqQ (f:=fun r m=>Qvt G (Q6q G i0) (r 0) (r 14) (r 12) (r 13) (r 4) (r 1) (r 3) (r 2) m))))))))))))))))))))) m
def Q23k:En:=⟨Q1mu,Tryz.f201,Tryz.func201,by kernel_rfl,arg5 (fun G a0 a1 a2 a3 a4 m=>Q14s G a2 a0 a4 a1 a3 m),X35 Q23j⟩
def Q1rs (G:Gt)(m:M):R:=bp (pur (Xe Qt8 [(0,1),(1,1)] [(0,(.int .i64 0)),(1,(.int .i64 32))]) m) fun x0 m=>bp (pur (Xe Qt8 [(0,1),(1,1)] [(0,(.int .i64 32)),(1,(.int .i64 32))]) m) fun x1 m=>bp (pur (Xe Qt8 [(0,1),(1,1)] [(0,(.int .i64 64)),(1,(.int .i64 8))]) m) fun x2 m=>bp (pur (Xe Qt8 [(0,1),(1,1)] [(0,(.int .i64 72)),(1,(.int .i64 16))]) m) fun x3 m=>bp (pur (Xe Qt8 [(0,1),(1,1)] [(0,(.int .i64 88)),(1,(.int .i64 16))]) m) fun x4 m=>bp (Xa Q26r Qt8 2 5 [(0,x0),(1,x1),(2,x2),(3,x3),(4,x4)] m) fun x5 m=>some (x5,m)
theorem Q2d9 (G:Gt)(m:M):ef G Tryz.f202 [] m = Q1rs G m:=X6 (r:=fun r m=>Q1rs G m) rfl rfl (fun r m=>by kernel_rfl) m
def Q2da:En:=⟨Q24s,Tryz.f202,Tryz.func202,by kernel_rfl,arg0 (fun G  m=>Q1rs G m),Xar Q2d9⟩
def Ql5 (G:Gt)(p0 p1 p2:V)(m:M):R:=bp (G.tab Q3k [p0,p1,p2,(.int .i64 0)] m) fun x0 m=>bp (pur (X5 x0 0) m) fun x1 m=>bp (pur (X5 x0 1) m) fun x2 m=>some (.tuple ⟨[x1,x2]⟩,m)
theorem Q25f (G:Gt)(a0 a1 a2:V)(m:M):ef G Tryz.f203 [a0,a1,a2] m = Ql5 G a0 a1 a2 m:=X6 (r:=fun r m=>Ql5 G (r 0) (r 1) (r 2) m) rfl rfl (fun r m=>by kernel_rfl) m
def Q19k:En:=⟨Ql3,Tryz.f203,Tryz.func203,by kernel_rfl,arg3 Ql5,Xr Q25f⟩
def Qas (G:Gt)(m:M):R:=some ((.int .i64 (-1)),m)
def Q4n (G:Gt):Nat→V→V→V→V→M→R
 | 0,_,_,_,_,_=>none
 | i + 1,p8,p7,p1,p0,m=>bp (pur (bin .lss false true .int p8 p7) m) fun x0 m=>brb x0 (bp (pur (X3 11 p0 p8) m) fun x1 m=>bp (pur (X4 true 11 x1 m) m) fun x2 m=>bp (Xj G.tab p1 [x2] m) fun x3 m=>brb x3 (some (p8,m)) (bp (pur (bin .add true true .int p8 (.int .i64 1)) m) fun x4 m=>(Q4n G i) x4 p7 p1 p0 m)) (Qas G m)
def Qat (G:Gt)(p8 p7 p1 p0:V)(m:M):R:=Q4n G G.rds p8 p7 p1 p0 m
def Qau (G:Gt)(p0 p1:V)(m:M):R:=bp (pur (lenK 1 p0 m) m) fun x5 m=>Qat G (.int .i64 0) x5 p1 p0 m
def Q5f (G:Gt)(p0 p1:V)(m:M):R:=Qau G p0 p1 m
theorem Qs4 (G:Gt)(a0 a1:V)(m:M):ef G Tryz.f204 [a0,a1] m = Q5f G a0 a1 m:=X6 (r:=fun r m=>Q5f G (r 0) (r 1) m) rfl rfl (tr (seqQ (f:=fun r m=>Qau G (r 0) (r 1) m) (tr (tr (seqQ (f:=fun r m=>Qas G m)) (seqQ (f:=fun r m=>Qat G (r 8) (r 7) (r 1) (r 0) m) (tr (X9 (Xb (fun i r m=>Q4n G i (r 8) (r 7) (r 1) (r 0) m) (fun _ _=>rfl) (fun i0=>fun r m=>by kernel_rfl))))))))) m
def Qs5:En:=⟨Q5g,Tryz.f204,Tryz.func204,by kernel_rfl,arg2 Q5f,Xg Qs4⟩
def Qn1 (G:Gt)(p0 p1:V)(m:M):R:=bp (some (aNew Q1l (Value.cells p0).toList m)) fun x0 m=>bp (pur (X0 0 x0) m) fun x1 m=>bp (pur (X4 false 1 x1 m) m) fun x2 m=>bp (pur (X0 0 p1) m) fun x3 m=>bp (pur (X4 false 1 x3 m) m) fun x4 m=>bp (pur (bin .eql false true .str x2 x4) m) fun x5 m=>some (x5,m)
theorem Q1qc (G:Gt)(a0 a1:V)(m:M):ef G Tryz.f205 [a0,a1] m = Qn1 G a0 a1 m:=X6 (r:=fun r m=>Qn1 G (r 0) (r 1) m) rfl rfl (fun r m=>by kernel_rfl) m
def Q1qd:En:=⟨Q12w,Tryz.f205,Tryz.func205,by kernel_rfl,arg2 Qn1,Xg Q1qc⟩
def Qvu (G:Gt)(p1 p0:V)(m:M):R:=bp (some (aNew Q3 (Value.cells p1).toList m)) fun x0 m=>bp (pur (X4 true 2 x0 m) m) fun x1 m=>bp (G.tab Q1oi [p0,x1] m) fun x2 m=>bp (pur (bin .neq true true .int x2 (.int .i64 0)) m) fun x3 m=>brb x3 (some (.tuple ⟨[(.slice none 0 0),x2]⟩,m)) (bp (pur (X7 p0) m) fun x4 m=>bp (pur (X0 1 x4) m) fun x5 m=>bp (pur (X4 false 1 x5 m) m) fun x6 m=>bp (pur (X4 true 2 x0 m) m) fun x7 m=>bp (pur (Xh (.struct [(0,1,false,.int),(1,1,false,.int)]) (.slice none 0 0) false x6 x7 m) m) fun x8 m=>bp (G.tab Q74 [x8] m) fun x9 m=>some (.tuple ⟨[x9,(.int .i64 0)]⟩,m))
theorem Q1yv (G:Gt)(a0 a1:V)(m:M):ef G Tryz.f206 [a0,a1] m = Qvu G a1 a0 m:=X6 (r:=fun r m=>Qvu G (r 1) (r 0) m) rfl rfl (fun r m=>by kernel_rfl) m
def Q1yw:En:=⟨Q1ht,Tryz.f206,Tryz.func206,by kernel_rfl,arg2 (fun G a0 a1 m=>Qvu G a1 a0 m),Xg Q1yv⟩
def Q6f (G:Gt)(k0:J7)(p97 p0 p1 p2 p13 p4 p3 p10 p11 p12:V)(m:M):R:=brb p97 (bp (G.tab Qq8 [p0,p1,p2,p13,p4] m) fun x0 m=>k0 p2 x0 p0 p4 p3 p10 p11 m) (bp (G.tab Qvv [p0,p1,p2,p13,p4] m) fun x1 m=>bp (pur (X5 x1 0) m) fun x2 m=>bp (pur (X5 x1 1) m) fun x3 m=>bp (pur (bin .sub false true .int x2 p1) m) fun x4 m=>bp (pur (bin .sub false true .int p2 x2) m) fun x5 m=>bp (pur (bin .quo true true .int p12 (.int .i64 8)) m) fun x6 m=>bp (pur (bin .lss false true .int x4 x5) m) fun x7 m=>brb x7 (bp (pur (bin .geq false true .int x4 x6) m) fun x8 m=>bp (G.tab Q43 [p0,p1,x2,p3,p4] m) fun x9 m=>bp (pur (bin .add true true .int x2 (.int .i64 1)) m) fun x10 m=>k0 p2 x10 p0 p4 p3 x8 x3 m) (bp (pur (bin .geq false true .int x5 x6) m) fun x11 m=>bp (pur (bin .add true true .int x2 (.int .i64 1)) m) fun x12 m=>bp (G.tab Q43 [p0,x12,p2,p3,p4] m) fun x13 m=>k0 x2 p1 p0 p4 p3 x11 x3 m))
def Q6r (G:Gt)(k0:J7)(p1 p4 p0 p13 p2 p3 p10 p11 p12:V)(m:M):R:=bp (pur (bin .gtr true true .int p1 (.int .i64 0)) m) fun x14 m=>brt x14 (bp (pur (bin .sub true true .int p1 (.int .i64 1)) m) fun x15 m=>bp (pur (X3 3 p0 x15) m) fun x16 m=>bp (pur (X4 true 3 x16 m) m) fun x17 m=>bp (pur (X3 3 p0 p13) m) fun x18 m=>bp (pur (X4 true 3 x18 m) m) fun x19 m=>bp (Xj G.tab p4 [x17,x19] m) fun x20 m=>bp (pur (bin .lss true true .int x20 (.int .i64 0)) m) fun x21 m=>bp (pur (un .not x21) m) fun x22 m=>Q6f G k0 x22 p0 p1 p2 p13 p4 p3 p10 p11 p12 m) (Q6f G k0 (.bool false) p0 p1 p2 p13 p4 p3 p10 p11 p12 m) (none)
def Q3j (G:Gt)(k0:J7)(p75 p0 p1 p2 p4 p13 p3 p10 p11 p12:V)(m:M):R:=brb p75 (bp (G.tab Ql0 [p0,p1,p2,p4] m) fun x23 m=>brb x23 (some (.tuple ⟨[]⟩,m)) (Q6r G k0 p1 p4 p0 p13 p2 p3 p10 p11 p12 m)) (Q6r G k0 p1 p4 p0 p13 p2 p3 p10 p11 p12 m)
def Q6s (G:Gt)(k0:J7)(p10 p11 p14 p0 p1 p2 p4 p13 p3 p12:V)(m:M):R:=brb p10 (brb p11 (bp (pur (bin .eql true true .int p14 (.int .i64 1)) m) fun x24 m=>Q3j G k0 x24 p0 p1 p2 p4 p13 p3 p10 p11 p12 m) (Q3j G k0 (.bool false) p0 p1 p2 p4 p13 p3 p10 p11 p12 m)) (Q3j G k0 (.bool false) p0 p1 p2 p4 p13 p3 p10 p11 p12 m)
def Qf9 (G:Gt)(k0:J7)(p14 p0 p1 p2 p4 p13 p10 p11 p3 p12:V)(m:M):R:=bp (pur (bin .eql true true .int p14 (.int .i64 2)) m) fun x25 m=>brb x25 (bp (G.tab Qs6 [p0,p1,p2,p4] m) fun x26 m=>bp (pur (bin .sub true true .int p2 (.int .i64 1)) m) fun x27 m=>bp (pur (bin .sub false true .int p13 p1) m) fun x28 m=>bp (pur (bin .sub false true .int x27 x28) m) fun x29 m=>Q6s G k0 p10 p11 (.int .i64 1) p0 p1 p2 p4 x29 p3 p12 m) (Q6s G k0 p10 p11 p14 p0 p1 p2 p4 p13 p3 p12 m)
def Q6t (G:Gt)(k0:J7)(p0 p1 p2 p4 p10 p11 p3 p12:V)(m:M):R:=bp (G.tab Qt9 [p0,p1,p2,p4] m) fun x30 m=>bp (pur (X5 x30 0) m) fun x31 m=>bp (pur (X5 x30 1) m) fun x32 m=>Qf9 G k0 x32 p0 p1 p2 p4 x31 p10 p11 p3 p12 m
def Qfa (G:Gt)(k0:J7)(p10 p0 p1 p2 p4 p3 p11 p12:V)(m:M):R:=bp (pur (un .not p10) m) fun x33 m=>brb x33 (bp (G.tab Qqd [p0,p1,p2,p4] m) fun x34 m=>bp (pur (bin .sub true true .int p3 (.int .i64 1)) m) fun x35 m=>Q6t G k0 p0 p1 p2 p4 p10 p11 x35 p12 m) (Q6t G k0 p0 p1 p2 p4 p10 p11 p3 p12 m)
def Qfb (G:Gt)(k0:J7)(p3 p0 p1 p2 p4 p10 p11 p12:V)(m:M):R:=bp (pur (bin .eql true true .int p3 (.int .i64 0)) m) fun x36 m=>brb x36 (bp (G.tab Qys [p0,p1,p2,p4] m) fun x37 m=>some (.tuple ⟨[]⟩,m)) (Qfa G k0 p10 p0 p1 p2 p4 p3 p11 p12 m)
def Qfc (G:Gt)(k0:J7)(p12 p0 p1 p2 p4 p3 p10 p11:V)(m:M):R:=bp (pur (bin .leq true true .int p12 (.int .i64 12)) m) fun x38 m=>brb x38 (bp (G.tab Qcl [p0,p1,p2,p4] m) fun x39 m=>some (.tuple ⟨[]⟩,m)) (Qfb G k0 p3 p0 p1 p2 p4 p10 p11 p12 m)
def Q8 (G:Gt):Nat→V→V→V→V→V→V→V→M→R
 | 0,_,_,_,_,_,_,_,_=>none
 | i + 1,p2,p1,p0,p4,p3,p10,p11,m=>bp (pur (bin .sub false true .int p2 p1) m) fun x40 m=>Qfc G (Q8 G i) x40 p0 p1 p2 p4 p3 p10 p11 m
def Qfd (G:Gt)(p2 p1 p0 p4 p3 p10 p11:V)(m:M):R:=Q8 G G.rds p2 p1 p0 p4 p3 p10 p11 m
def Qfe (G:Gt)(p2 p1 p0 p4 p3 p10:V)(m:M):R:=Qfd G p2 p1 p0 p4 p3 p10 (.bool true) m
def Q7p (G:Gt)(p2 p1 p0 p4 p3:V)(m:M):R:=Qfe G p2 p1 p0 p4 p3 (.bool true) m
theorem Qz6 (G:Gt)(a0 a1 a2 a3 a4:V)(m:M):ef G Tryz.f207 [a0,a1,a2,a3,a4] m = Q7p G a2 a1 a0 a4 a3 m:=X6 (r:=fun r m=>Q7p G (r 2) (r 1) (r 0) (r 4) (r 3) m) rfl rfl (tr (seqQ (f:=fun r m=>Qfe G (r 2) (r 1) (r 0) (r 4) (r 3) (r 10) m) (tr (seqQ (f:=fun r m=>Qfd G (r 2) (r 1) (r 0) (r 4) (r 3) (r 10) (r 11) m) (tr (X9 (Xb (fun i r m=>Q8 G i (r 2) (r 1) (r 0) (r 4) (r 3) (r 10) (r 11) m) (fun _ _=>rfl) (fun i0=>tr (X9 (seqQ (f:=fun r m=>Qfc G (Q8 G i0) (r 12) (r 0) (r 1) (r 2) (r 4) (r 3) (r 10) (r 11) m) (tr (seqQ (f:=fun r m=>Qfb G (Q8 G i0) (r 3) (r 0) (r 1) (r 2) (r 4) (r 10) (r 11) (r 12) m) (tr (seqQ (f:=fun r m=>Qfa G (Q8 G i0) (r 10) (r 0) (r 1) (r 2) (r 4) (r 3) (r 11) (r 12) m) (tr (seqQ (f:=fun r m=>Q6t G (Q8 G i0) (r 0) (r 1) (r 2) (r 4) (r 10) (r 11) (r 3) (r 12) m) (tr (seqQ (f:=fun r m=>Qf9 G (Q8 G i0) (r 14) (r 0) (r 1) (r 2) (r 4) (r 13) (r 10) (r 11) (r 3) (r 12) m) (tr (seqQ (f:=fun r m=>Q6s G (Q8 G i0) (r 10) (r 11) (r 14) (r 0) (r 1) (r 2) (r 4) (r 13) (r 3) (r 12) m) (tr (tr (seqQ (f:=fun r m=>Q6r G (Q8 G i0) (r 1) (r 4) (r 0) (r 13) (r 2) (r 3) (r 10) (r 11) (r 12) m) (tr (tr seqD (seqQ (f:=fun r m=>Q6f G (Q8 G i0) (r 97) (r 0) (r 1) (r 2) (r 13) (r 4) (r 3) (r 10) (r 11) (r 12) m))))) (seqQ (f:=fun r m=>Q3j G (Q8 G i0) (r 75) (r 0) (r 1) (r 2) (r 4) (r 13) (r 3) (r 10) (r 11) (r 12) m)))))))))))))))))))))))) m
def Qz7:En:=⟨Q43,Tryz.f207,Tryz.func207,by kernel_rfl,arg5 (fun G a0 a1 a2 a3 a4 m=>Q7p G a2 a1 a0 a4 a3 m),X35 Qz6⟩
def Q1r1 (G:Gt)(p3:V)(m:M):R:=some (p3,m)
def Q1dv (G:Gt):Nat→V→V→V→V→M→R
 | 0,_,_,_,_,_=>none
 | i + 1,p8,p7,p6,p3,m=>bp (pur (bin .lss false true .int p8 p7) m) fun x0 m=>brb x0 (bp (pur (X3 1 p6 p8) m) fun x1 m=>bp (pur (X4 false 1 x1 m) m) fun x2 m=>bp (pur (bin .neq false true .int x2 p3) m) fun x3 m=>brb x3 (some (x2,m)) (bp (pur (bin .add true true .int p8 (.int .i64 1)) m) fun x4 m=>(Q1dv G i) x4 p7 p6 p3 m)) (Q1r1 G p3 m)
def Q1r2 (G:Gt)(p8 p7 p6 p3:V)(m:M):R:=Q1dv G G.rds p8 p7 p6 p3 m
def Q1r3 (G:Gt)(p0 p3:V)(m:M):R:=bp (pur (lenK 1 p0 m) m) fun x5 m=>Q1r2 G (.int .i64 0) x5 p0 p3 m
def Q1r4 (G:Gt)(p0:V)(m:M):R:=Q1r3 G p0 (.int .i64 0) m
def Q1lq (G:Gt)(p0:V)(m:M):R:=Q1r4 G p0 m
theorem Q2a3 (G:Gt)(a0:V)(m:M):ef G Tryz.f208 [a0] m = Q1lq G a0 m:=X6 (r:=fun r m=>Q1lq G (r 0) m) rfl rfl (tr (seqQ (f:=fun r m=>Q1r4 G (r 0) m) (tr (seqQ (f:=fun r m=>Q1r3 G (r 0) (r 3) m) (tr (tr (seqQ (f:=fun r m=>Q1r1 G (r 3) m)) (seqQ (f:=fun r m=>Q1r2 G (r 8) (r 7) (r 6) (r 3) m) (tr (X9 (Xb (fun i r m=>Q1dv G i (r 8) (r 7) (r 6) (r 3) m) (fun _ _=>rfl) (fun i0=>fun r m=>by kernel_rfl))))))))))) m
def Q2a4:En:=⟨Q1wv,Tryz.f208,Tryz.func208,by kernel_rfl,arg1 Q1lq,Xl Q2a3⟩
end
end Go.Ab.Sh

set_option linter.unusedVariables false
set_option maxRecDepth 100000
namespace Go.Ab.Sh
open Go Go.Ab Go.Proofs
noncomputable section
def Qus (G:Gt)(p16 p17:V)(m:M):R:=bp (pur (X7 p16) m) fun x0 m=>bp (pur (X0 4 x0) m) fun x1 m=>bp (pur (X4 false 1 x1 m) m) fun x2 m=>bp (pur (bin .neq true true .int x2 (.int .i64 0)) m) fun x3 m=>brb x3 (some (.tuple ⟨[(.int .i64 0),(.int .i64 3)]⟩,m)) (some (.tuple ⟨[p17,(.int .i64 0)]⟩,m))
def Qil (G:Gt):Nat→V→V→V→V→V→V→V→V→M→R
 | 0,_,_,_,_,_,_,_,_,_=>none
 | i + 1,p66,p65,p64,p16,p0,p17,p4,p3,m=>bp (pur (bin .lss false true .int p66 p65) m) fun x4 m=>brb x4 (bp (pur (X3 5 p64 p66) m) fun x5 m=>bp (pur (X4 true 5 x5 m) m) fun x6 m=>bp (some (aNew Q8q Ql1 m)) fun x7 m=>bp (unt (X8 5 x7 x6 m)) fun _ m=>bp (pur (X7 p0) m) fun x8 m=>bp (pur (X0 0 x8) m) fun x9 m=>bp (pur (X4 false 1 x9 m) m) fun x10 m=>bp (pur (X4 true 5 x7 m) m) fun x11 m=>bp (Xj G.tab p4 [p16,x11,p3] m) fun x12 m=>ckB (again (pur (X4 false 1 x9 m) m) x10 && true) (bp (G.tab Q6z [x10,p17,x12] m) fun x13 m=>bp (pur (X5 x13 0) m) fun x14 m=>bp (pur (X5 x13 1) m) fun x15 m=>bp (G.tab Qe [p16,x14,x15] m) fun x16 m=>bp (pur (bin .add true true .int p66 (.int .i64 1)) m) fun x17 m=>(Qil G i) x17 p65 p64 p16 p0 x16 p4 p3 m)) (Qus G p16 p17 m)
def Qut (G:Gt)(p66 p65 p64 p16 p0 p17 p4 p3:V)(m:M):R:=Qil G G.rds p66 p65 p64 p16 p0 p17 p4 p3 m
def Quu (G:Gt)(p12 p2 p16 p0 p17 p4 p3:V)(m:M):R:=bp (pur (X0 8 p12) m) fun x18 m=>bp (pur (X4 false 1 x18 m) m) fun x19 m=>bp (pur (X3 3 x19 p2) m) fun x20 m=>bp (pur (X0 2 x20) m) fun x21 m=>bp (pur (X4 false 1 x21 m) m) fun x22 m=>bp (pur (lenK 1 x22 m) m) fun x23 m=>Qut G (.int .i64 0) x23 x22 p16 p0 p17 p4 p3 m
def Quv (G:Gt)(p12 p2 p16 p0 p4 p3:V)(m:M):R:=Quu G p12 p2 p16 p0 (.int .i64 0) p4 p3 m
def Quw (G:Gt)(p0 p12 p2 p4 p3:V)(m:M):R:=bp (pur (X7 p0) m) fun x24 m=>bp (pur (X0 0 x24) m) fun x25 m=>bp (pur (X4 false 1 x25 m) m) fun x26 m=>bp (pur (X7 p0) m) fun x27 m=>bp (pur (X0 1 x27) m) fun x28 m=>bp (pur (X4 false 1 x28 m) m) fun x29 m=>bp (pur (Xe Q1oj [(0,1),(1,1),(2,1),(3,1),(4,1)] [(0,x26),(3,x29)]) m) fun x30 m=>bp (some (aNew Q1ok (Value.cells x30).toList m)) fun x31 m=>Quv G p12 p2 x31 p0 p4 p3 m
def Qux (G:Gt)(p0 p3 p12 p2 p4:V)(m:M):R:=bp (pur (X7 p0) m) fun x32 m=>bp (pur (X0 0 x32) m) fun x33 m=>bp (pur (X4 false 1 x33 m) m) fun x34 m=>bp (G.tab Qca [x34,p3,(.int .i64 0)] m) fun x35 m=>bp (pur (X5 x35 0) m) fun x36 m=>bp (pur (X5 x35 1) m) fun x37 m=>bp (pur (bin .neq true true .int x37 (.int .i64 0)) m) fun x38 m=>brb x38 (some (.tuple ⟨[(.int .i64 0),(.int .i64 1)]⟩,m)) (Quw G p0 p12 p2 p4 p3 m)
def Qgi (G:Gt)(p37 p0 p3 p12 p2 p4:V)(m:M):R:=brb p37 (some (.tuple ⟨[(.int .i64 0),(.int .i64 1)]⟩,m)) (Qux G p0 p3 p12 p2 p4 m)
def Quy (G:Gt)(p2 p12 p0 p3 p4:V)(m:M):R:=bp (pur (bin .lss true true .int p2 (.int .i64 0)) m) fun x39 m=>brb x39 (Qgi G (.bool true) p0 p3 p12 p2 p4 m) (bp (pur (X0 8 p12) m) fun x40 m=>bp (pur (X4 false 1 x40 m) m) fun x41 m=>bp (pur (lenK 1 x41 m) m) fun x42 m=>bp (pur (bin .geq false true .int p2 x42) m) fun x43 m=>Qgi G x43 p0 p3 p12 p2 p4 m)
def Quz (G:Gt)(p13 p2 p12 p0 p3 p4:V)(m:M):R:=bp (pur (bin .neq true true .int p13 (.int .i64 0)) m) fun x44 m=>brb x44 (some (.tuple ⟨[(.int .i64 0),p13]⟩,m)) (Quy G p2 p12 p0 p3 p4 m)
def Qv0 (G:Gt)(p0 p6 p2 p3 p4:V)(m:M):R:=bp (pur (X4 true 2 p6 m) m) fun x45 m=>bp (G.tab Qmj [p0,x45] m) fun x46 m=>bp (pur (X5 x46 0) m) fun x47 m=>bp (pur (X5 x46 1) m) fun x48 m=>bp (some (aNew Qim Qaq m)) fun x49 m=>bp (unt (X8 9 x49 x47 m)) fun _ m=>Quz G x48 p2 x49 p0 p3 p4 m
def Ql6 (G:Gt)(p1 p0 p2 p3 p4:V)(m:M):R:=bp (some (aNew Q3 (Value.cells p1).toList m)) fun x50 m=>Qv0 G p0 x50 p2 p3 p4 m
theorem Q1ol (G:Gt)(a0 a1 a2 a3 a4:V)(m:M):ef G Tryz.f209 [a0,a1,a2,a3,a4] m = Ql6 G a1 a0 a2 a3 a4 m:=X6 (r:=fun r m=>Ql6 G (r 1) (r 0) (r 2) (r 3) (r 4) m) rfl rfl (tr (seqQ (f:=fun r m=>Qv0 G (r 0) (r 6) (r 2) (r 3) (r 4) m) (tr (seqQ (f:=fun r m=>Quz G (r 13) (r 2) (r 12) (r 0) (r 3) (r 4) m) (tr (seqQ (f:=fun r m=>Quy G (r 2) (r 12) (r 0) (r 3) (r 4) m) (tr (tr (seqQ (f:=fun r m=>Qux G (r 0) (r 3) (r 12) (r 2) (r 4) m) (tr (seqQ (f:=fun r m=>Quw G (r 0) (r 12) (r 2) (r 4) (r 3) m) (tr (seqQ (f:=fun r m=>Quv G (r 12) (r 2) (r 16) (r 0) (r 4) (r 3) m) (tr (seqQ (f:=fun r m=>Quu G (r 12) (r 2) (r 16) (r 0) (r 17) (r 4) (r 3) m) (tr (tr (seqQ (f:=fun r m=>Qus G (r 16) (r 17) m)) (seqQ (f:=fun r m=>Qut G (r 66) (r 65) (r 64) (r 16) (r 0) (r 17) (r 4) (r 3) m) (tr (X9 (Xb (fun i r m=>Qil G i (r 66) (r 65) (r 64) (r 16) (r 0) (r 17) (r 4) (r 3) m) (fun _ _=>rfl) (fun i0=>fun r m=>by kernel_rfl)))))))))))))) (seqQ (f:=fun r m=>Qgi G (r 37) (r 0) (r 3) (r 12) (r 2) (r 4) m)))))))))) m
def Q1om:En:=⟨Qz8,Tryz.f209,Tryz.func209,by kernel_rfl,arg5 (fun G a0 a1 a2 a3 a4 m=>Ql6 G a1 a0 a2 a3 a4 m),X35 Q1ol⟩
def Q1j1 (G:Gt)(p0:V)(m:M):R:=bp (some (aNew Q5 (Value.cells p0).toList m)) fun x0 m=>bp (some (aNew Q1on Q1oo m)) fun x1 m=>bp (pur (X0 2 x0) m) fun x2 m=>bp (pur (X4 false 1 x2 m) m) fun x3 m=>bp (pur (X0 4 x0) m) fun x4 m=>bp (pur (X4 false 1 x4 m) m) fun x5 m=>bp (pur (X0 7 x0) m) fun x6 m=>bp (pur (X4 false 1 x6 m) m) fun x7 m=>bp (pur (X0 8 x0) m) fun x8 m=>bp (pur (X4 false 1 x8 m) m) fun x9 m=>bp (pur (X0 9 x0) m) fun x10 m=>bp (pur (X4 false 1 x10 m) m) fun x11 m=>bp (G.tab Q1ai [x3,(.func (.func Q28n) #[] #[])] m) fun x12 m=>ckB (again (pur (X4 false 1 x4 m) m) x5 && (again (pur (X4 false 1 x6 m) m) x7 && (again (pur (X4 false 1 x8 m) m) x9 && (again (pur (X4 false 1 x10 m) m) x11 && true)))) (bp (G.tab Qxb [x5,(.func (.func Q1op) #[] #[])] m) fun x13 m=>ckB (again (pur (X4 false 1 x6 m) m) x7 && (again (pur (X4 false 1 x8 m) m) x9 && (again (pur (X4 false 1 x10 m) m) x11 && true))) (bp (G.tab Qps [x7,(.func (.func Q1k6) #[] #[])] m) fun x14 m=>ckB (again (pur (X4 false 1 x8 m) m) x9 && (again (pur (X4 false 1 x10 m) m) x11 && true)) (bp (G.tab Ql7 [x9,(.func (.func Q1hu) #[] #[])] m) fun x15 m=>ckB (again (pur (X4 false 1 x10 m) m) x11 && true) (bp (G.tab Qxc [x11,(.func (.func Q1oq) #[] #[])] m) fun x16 m=>bp (pur (Xe Q1oo [(0,1),(1,1),(2,1),(3,1),(4,1)] [(0,x12),(1,x13),(2,x14),(3,x15),(4,x16)]) m) fun x17 m=>bp (unt (X8 5 x1 x17 m)) fun _ m=>ob (ob (X4 true 5 x1 m) fun v=>ob (some []) fun l=>some (v :: l)) fun l=>some (Xy l,m)))))
theorem Q28o (G:Gt)(a0:V)(m:M):ef G Tryz.f211 [a0] m = Q1j1 G a0 m:=X6 (r:=fun r m=>Q1j1 G (r 0) m) rfl rfl (fun r m=>by kernel_rfl) m
def Q28p:En:=⟨Q1td,Tryz.f211,Tryz.func211,by kernel_rfl,arg1 Q1j1,Xl Q28o⟩
def Q1lr (G:Gt)(p0 p1:V)(m:M):R:=bp (pur (un .not p0) m) fun x0 m=>brb x0 (some ((.int .i64 1),m)) (bp (pur (un .not p1) m) fun x1 m=>brb x1 (some ((.int .i64 2),m)) (some ((.int .i64 0),m)))
theorem Q2a5 (G:Gt)(a0 a1:V)(m:M):ef G Tryz.f213 [a0,a1] m = Q1lr G a0 a1 m:=X6 (r:=fun r m=>Q1lr G (r 0) (r 1) m) rfl rfl (fun r m=>by kernel_rfl) m
def Q2a6:En:=⟨Q19g,Tryz.f213,Tryz.func213,by kernel_rfl,arg2 Q1lr,Xg Q2a5⟩
def Q14t (G:Gt)(p1 p2 p0:V)(m:M):R:=bp (pur (X4 true 5 p1 m) m) fun x0 m=>bp (pur (X4 true 12 p2 m) m) fun x1 m=>bp (G.tab Q1k7 [x0,x1,p0] m) fun x2 m=>some (x2,m)
theorem Q23l (G:Gt)(a0 a1 a2:V)(m:M):ef G Tryz.f216 [a0,a1,a2] m = Q14t G a1 a2 a0 m:=X6 (r:=fun r m=>Q14t G (r 1) (r 2) (r 0) m) rfl rfl (fun r m=>by kernel_rfl) m
def Q23m:En:=⟨Q1mv,Tryz.f216,Tryz.func216,by kernel_rfl,arg3 (fun G a0 a1 a2 m=>Q14t G a1 a2 a0 m),Xr Q23l⟩
def Qjq (G:Gt)(p6:V)(m:M):R:=some (p6,m)
def Q5z (G:Gt)(p9 p3 p7:V)(m:M):R:=bp (pur (X0 0 p3) m) fun x0 m=>bp (pur (X4 false 1 x0 m) m) fun x1 m=>bp (pur (X0 1 p7) m) fun x2 m=>bp (pur (X4 false 1 x2 m) m) fun x3 m=>bp (G.tab Q1dw [x1,x3] m) fun x4 m=>brb x4 (bp (pur (X0 1 p3) m) fun x5 m=>bp (pur (X4 false 1 x5 m) m) fun x6 m=>bp (pur (X0 5 p7) m) fun x7 m=>bp (pur (X4 false 1 x7 m) m) fun x8 m=>bp (G.tab Q1dw [x6,x8] m) fun x9 m=>brb x9 (bp (pur (X0 1 p3) m) fun x10 m=>bp (pur (X4 false 1 x10 m) m) fun x11 m=>bp (pur (X0 6 p7) m) fun x12 m=>bp (pur (X4 false 1 x12 m) m) fun x13 m=>bp (G.tab Q1dw [x11,x13] m) fun x14 m=>bp (G.tab Q19g [p9,x14] m) fun x15 m=>Qjq G x15 m) (bp (G.tab Q19g [p9,(.bool false)] m) fun x16 m=>Qjq G x16 m)) (bp (G.tab Q19g [p9,(.bool false)] m) fun x17 m=>Qjq G x17 m)
def Q8r (G:Gt)(p7 p4 p2 p8 p3:V)(m:M):R:=bp (pur (X0 0 p7) m) fun x18 m=>bp (pur (X4 false 1 x18 m) m) fun x19 m=>bp (G.tab Q1or [x19] m) fun x20 m=>brb x20 (bp (pur (X0 3 p4) m) fun x21 m=>bp (pur (X4 false 1 x21 m) m) fun x22 m=>bp (G.tab Qz9 [x22,p2,(.func (.func Q1dx) #[] #[])] m) fun x23 m=>brb x23 (brb p8 (bp (pur (X0 7 p7) m) fun x24 m=>bp (pur (X4 false 1 x24 m) m) fun x25 m=>bp (pur (bin .leq true true .int x25 (.int .u8 2)) m) fun x26 m=>brb x26 (bp (pur (X0 8 p7) m) fun x27 m=>bp (pur (X4 false 1 x27 m) m) fun x28 m=>bp (G.tab Qqe [x28,(.int .i64 (-1)),(.int .i64 16777216)] m) fun x29 m=>brb x29 (bp (pur (X0 9 p7) m) fun x30 m=>bp (pur (X4 false 1 x30 m) m) fun x31 m=>bp (G.tab Qqe [x31,(.int .i64 1),(.int .i64 65535)] m) fun x32 m=>Q5z G x32 p3 p7 m) (Q5z G (.bool false) p3 p7 m)) (Q5z G (.bool false) p3 p7 m)) (Q5z G (.bool false) p3 p7 m)) (Q5z G (.bool false) p3 p7 m)) (Q5z G (.bool false) p3 p7 m)
def Q1dy (G:Gt)(p7 p4 p2 p3:V)(m:M):R:=bp (pur (X0 2 p7) m) fun x33 m=>bp (pur (X4 false 1 x33 m) m) fun x34 m=>bp (pur (bin .eql true true .int x34 (.int .u32 0)) m) fun x35 m=>brb x35 (bp (pur (X0 3 p7) m) fun x36 m=>bp (pur (X4 false 1 x36 m) m) fun x37 m=>bp (pur (bin .eql true true .int x37 (.int .i64 0)) m) fun x38 m=>brb x38 (Q8r G p7 p4 p2 (.bool true) p3 m) (bp (pur (X0 2 p7) m) fun x39 m=>bp (pur (X4 false 1 x39 m) m) fun x40 m=>bp (pur (bin .neq true true .int x40 (.int .u32 0)) m) fun x41 m=>brb x41 (bp (pur (X0 3 p7) m) fun x42 m=>bp (pur (X4 false 1 x42 m) m) fun x43 m=>bp (G.tab Qqe [x43,(.int .i64 1),(.int .i64 32)] m) fun x44 m=>Q8r G p7 p4 p2 x44 p3 m) (Q8r G p7 p4 p2 (.bool false) p3 m))) (bp (pur (X0 2 p7) m) fun x45 m=>bp (pur (X4 false 1 x45 m) m) fun x46 m=>bp (pur (bin .neq true true .int x46 (.int .u32 0)) m) fun x47 m=>brb x47 (bp (pur (X0 3 p7) m) fun x48 m=>bp (pur (X4 false 1 x48 m) m) fun x49 m=>bp (G.tab Qqe [x49,(.int .i64 1),(.int .i64 32)] m) fun x50 m=>Q8r G p7 p4 p2 x50 p3 m) (Q8r G p7 p4 p2 (.bool false) p3 m))
def Q1dz (G:Gt)(p4 p2 p3:V)(m:M):R:=bp (pur (X0 3 p4) m) fun x51 m=>bp (pur (X4 false 1 x51 m) m) fun x52 m=>bp (pur (X3 11 x52 p2) m) fun x53 m=>bp (pur (X4 true 11 x53 m) m) fun x54 m=>bp (some (aNew Q1l Q3w m)) fun x55 m=>bp (unt (X8 11 x55 x54 m)) fun _ m=>Q1dy G x55 p4 p2 p3 m
def Qza (G:Gt)(p0 p1 p2:V)(m:M):R:=bp (some (aNew Q1on (Value.cells p0).toList m)) fun x56 m=>bp (some (aNew Q5 (Value.cells p1).toList m)) fun x57 m=>Q1dz G x57 p2 x56 m
theorem Q20d (G:Gt)(a0 a1 a2:V)(m:M):ef G Tryz.f217 [a0,a1,a2] m = Qza G a0 a1 a2 m:=X6 (r:=fun r m=>Qza G (r 0) (r 1) (r 2) m) rfl rfl (tr (seqQ (f:=fun r m=>Q1dz G (r 4) (r 2) (r 3) m) (tr (seqQ (f:=fun r m=>Q1dy G (r 7) (r 4) (r 2) (r 3) m) (tr (seqQ (f:=fun r m=>Q8r G (r 7) (r 4) (r 2) (r 8) (r 3) m) (tr (seqQ (f:=fun r m=>Q5z G (r 9) (r 3) (r 7) m) (tr (seqQ (f:=fun r m=>Qjq G (r 6) m))))))))))) m
def Q20e:En:=⟨Q1k7,Tryz.f217,Tryz.func217,by kernel_rfl,arg3 Qza,Xr Q20d⟩
def Q1j2 (G:Gt)(p4:V)(m:M):R:=some (p4,m)
def Q1te (G:Gt)(p1 p0:V)(m:M):R:=bp (pur (bin .eql true true .str p1 (.string ⟨#[]⟩)) m) fun x0 m=>brb x0 (Q1j2 G (.bool true) m) (bp (pur (Xh .str (.int .i64 0) false p0 p1 m) m) fun x1 m=>bp (pur (bin .gtr true true .int x1 (.int .i64 0)) m) fun x2 m=>Q1j2 G x2 m)
def Q1os (G:Gt)(p1 p0:V)(m:M):R:=Q1te G p1 p0 m
theorem Q2bu (G:Gt)(a0 a1:V)(m:M):ef G Tryz.f222 [a0,a1] m = Q1os G a1 a0 m:=X6 (r:=fun r m=>Q1os G (r 1) (r 0) m) rfl rfl (tr (seqQ (f:=fun r m=>Q1te G (r 1) (r 0) m) (tr (seqQ (f:=fun r m=>Q1j2 G (r 4) m))))) m
def Q2bv:En:=⟨Q1dw,Tryz.f222,Tryz.func222,by kernel_rfl,arg2 (fun G a0 a1 m=>Q1os G a1 a0 m),Xg Q2bu⟩
def Qd7 (G:Gt)(p0:V)(m:M):R:=bp (pur (bin .eql true true .slice p0 (.slice none 0 0)) m) fun x0 m=>brb x0 (some ((.slice none 0 0),m)) (bp (Xa Q50 [(.string ⟨#[]⟩)] 1 0 [] m) fun x1 m=>bp (apS Q50 1 16 x1 p0 m) fun x2 m=>some (x2,m))
theorem Q1dn (G:Gt)(a0:V)(m:M):ef G Tryz.f239 [a0] m = Qd7 G a0 m:=X6 (r:=fun r m=>Qd7 G (r 0) m) rfl rfl (fun r m=>by kernel_rfl) m
def Q1do:En:=⟨Qmr,Tryz.f239,Tryz.func239,by kernel_rfl,arg1 Qd7,Xl Q1dn⟩
def Q75 (G:Gt)(p0:V)(m:M):R:=bp (pur (bin .eql true true .slice p0 (.slice none 0 0)) m) fun x0 m=>brb x0 (some ((.slice none 0 0),m)) (bp (Xa Q1l Q3w 11 0 [] m) fun x1 m=>bp (apS Q1l 11 120 x1 p0 m) fun x2 m=>some (x2,m))
theorem Qyt (G:Gt)(a0:V)(m:M):ef G Tryz.f240 [a0] m = Q75 G a0 m:=X6 (r:=fun r m=>Q75 G (r 0) m) rfl rfl (fun r m=>by kernel_rfl) m
def Qyu:En:=⟨Qft,Tryz.f240,Tryz.func240,by kernel_rfl,arg1 Q75,Xl Qyt⟩
def Q5h (G:Gt)(p0:V)(m:M):R:=bp (pur (bin .eql true true .slice p0 (.slice none 0 0)) m) fun x0 m=>brb x0 (some ((.slice none 0 0),m)) (bp (Xa Q1ls Q2a7 3 0 [] m) fun x1 m=>bp (apS Q1ls 3 32 x1 p0 m) fun x2 m=>some (x2,m))
theorem Qs7 (G:Gt)(a0:V)(m:M):ef G Tryz.f241 [a0] m = Q5h G a0 m:=X6 (r:=fun r m=>Q5h G (r 0) m) rfl rfl (fun r m=>by kernel_rfl) m
def Qs8:En:=⟨Qdg,Tryz.f241,Tryz.func241,by kernel_rfl,arg1 Q5h,Xl Qs7⟩
def Q6g (G:Gt)(p0:V)(m:M):R:=bp (pur (bin .eql true true .slice p0 (.slice none 0 0)) m) fun x0 m=>brb x0 (some ((.slice none 0 0),m)) (bp (Xa Q1e0 Q20f 7 0 [] m) fun x1 m=>bp (apS Q1e0 7 56 x1 p0 m) fun x2 m=>some (x2,m))
theorem Qv1 (G:Gt)(a0:V)(m:M):ef G Tryz.f242 [a0] m = Q6g G a0 m:=X6 (r:=fun r m=>Q6g G (r 0) m) rfl rfl (fun r m=>by kernel_rfl) m
def Qv2:En:=⟨Qex,Tryz.f242,Tryz.func242,by kernel_rfl,arg1 Q6g,Xl Qv1⟩
def Qv3 (G:Gt)(p5:V)(m:M):R:=some (p5,m)
def Qin (G:Gt):Nat→V→V→V→V→V→M→R
 | 0,_,_,_,_,_,_=>none
 | i + 1,p10,p9,p8,p5,p1,m=>bp (pur (bin .lss false true .int p10 p9) m) fun x0 m=>brb x0 (bp (pur (X3 2 p8 p10) m) fun x1 m=>bp (pur (X4 true 2 x1 m) m) fun x2 m=>bp (some (aNew Ql8 Qqf m)) fun x3 m=>bp (unt (X8 2 x3 x2 m)) fun _ m=>bp (pur (X4 true 2 x3 m) m) fun x4 m=>bp (Xj G.tab p1 [x4] m) fun x5 m=>bp (Xa Ql8 Qqf 2 1 [(0,x5)] m) fun x6 m=>bp (apS Ql8 2 40 p5 x6 m) fun x7 m=>bp (pur (bin .add true true .int p10 (.int .i64 1)) m) fun x8 m=>(Qin G i) x8 p9 p8 x7 p1 m) (Qv3 G p5 m)
def Qv4 (G:Gt)(p10 p9 p8 p5 p1:V)(m:M):R:=Qin G G.rds p10 p9 p8 p5 p1 m
def Qv5 (G:Gt)(p0 p5 p1:V)(m:M):R:=bp (pur (lenK 1 p0 m) m) fun x9 m=>Qv4 G (.int .i64 0) x9 p0 p5 p1 m
def Qv6 (G:Gt)(p0 p1:V)(m:M):R:=Qv5 G p0 (.slice none 0 0) p1 m
def Ql9 (G:Gt)(p0 p1:V)(m:M):R:=Qv6 G p0 p1 m
theorem Q1ot (G:Gt)(a0 a1:V)(m:M):ef G Tryz.f243 [a0,a1] m = Ql9 G a0 a1 m:=X6 (r:=fun r m=>Ql9 G (r 0) (r 1) m) rfl rfl (tr (seqQ (f:=fun r m=>Qv6 G (r 0) (r 1) m) (tr (seqQ (f:=fun r m=>Qv5 G (r 0) (r 5) (r 1) m) (tr (tr (seqQ (f:=fun r m=>Qv3 G (r 5) m)) (seqQ (f:=fun r m=>Qv4 G (r 10) (r 9) (r 8) (r 5) (r 1) m) (tr (X9 (Xb (fun i r m=>Qin G i (r 10) (r 9) (r 8) (r 5) (r 1) m) (fun _ _=>rfl) (fun i0=>fun r m=>by kernel_rfl))))))))))) m
def Q1ou:En:=⟨Qzb,Tryz.f243,Tryz.func243,by kernel_rfl,arg2 Ql9,Xg Q1ot⟩
def Qnu (G:Gt)(p5:V)(m:M):R:=some (p5,m)
def Qdy (G:Gt):Nat→V→V→V→V→V→M→R
 | 0,_,_,_,_,_,_=>none
 | i + 1,p10,p9,p8,p5,p1,m=>bp (pur (bin .lss false true .int p10 p9) m) fun x0 m=>brb x0 (bp (pur (X3 2 p8 p10) m) fun x1 m=>bp (pur (X4 true 2 x1 m) m) fun x2 m=>bp (some (aNew Qcb Qfk m)) fun x3 m=>bp (unt (X8 2 x3 x2 m)) fun _ m=>bp (pur (X4 true 2 x3 m) m) fun x4 m=>bp (Xj G.tab p1 [x4] m) fun x5 m=>bp (Xa Qcb Qfk 2 1 [(0,x5)] m) fun x6 m=>bp (apS Qcb 2 40 p5 x6 m) fun x7 m=>bp (pur (bin .add true true .int p10 (.int .i64 1)) m) fun x8 m=>(Qdy G i) x8 p9 p8 x7 p1 m) (Qnu G p5 m)
def Qnv (G:Gt)(p10 p9 p8 p5 p1:V)(m:M):R:=Qdy G G.rds p10 p9 p8 p5 p1 m
def Qnw (G:Gt)(p0 p5 p1:V)(m:M):R:=bp (pur (lenK 1 p0 m) m) fun x9 m=>Qnv G (.int .i64 0) x9 p0 p5 p1 m
def Qnx (G:Gt)(p0 p1:V)(m:M):R:=Qnw G p0 (.slice none 0 0) p1 m
def Qfl (G:Gt)(p0 p1:V)(m:M):R:=Qnx G p0 p1 m
theorem Q1j3 (G:Gt)(a0 a1:V)(m:M):ef G Tryz.f246 [a0,a1] m = Qfl G a0 a1 m:=X6 (r:=fun r m=>Qfl G (r 0) (r 1) m) rfl rfl (tr (seqQ (f:=fun r m=>Qnx G (r 0) (r 1) m) (tr (seqQ (f:=fun r m=>Qnw G (r 0) (r 5) (r 1) m) (tr (tr (seqQ (f:=fun r m=>Qnu G (r 5) m)) (seqQ (f:=fun r m=>Qnv G (r 10) (r 9) (r 8) (r 5) (r 1) m) (tr (X9 (Xb (fun i r m=>Qdy G i (r 10) (r 9) (r 8) (r 5) (r 1) m) (fun _ _=>rfl) (fun i0=>fun r m=>by kernel_rfl))))))))))) m
def Q1j4:En:=⟨Qqg,Tryz.f246,Tryz.func246,by kernel_rfl,arg2 Qfl,Xg Q1j3⟩
end
end Go.Ab.Sh
