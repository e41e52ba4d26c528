/-
  Functions of the program as plain definitions. No conditions.
-/
import Derived.Test.YtfdlocphbipadaaGreatDoorAb5
import Derived.Test.YtfdlocphbipadaaGreatDoorZ
import Derived.KernelRfl
import Derived.Test.YtfdlocphbipadaaGreatDoorProg
set_option linter.unusedVariables false
set_option maxRecDepth 100000
namespace Go.Ab.Sh
open Go Go.Ab Go.Proofs
noncomputable section
def Qmu (G:Gt)(m:M):R:=some ((.int .i64 (-1)),m)
def Qdd (G:Gt):Nat→V→V→V→V→M→R
 | 0,_,_,_,_,_=>none
 | i + 1,p8,p7,p1,p0,m=>bp (pur (bin .lss false true .int p8 p7) m) fun x0 m=>brb x0 (bp (pur (X3 1 p0 p8) m) fun x1 m=>bp (pur (X4 false 1 x1 m) m) fun x2 m=>bp (Xj G.tab p1 [x2] m) fun x3 m=>brb x3 (some (p8,m)) (bp (pur (bin .add true true .int p8 (.int .i64 1)) m) fun x4 m=>(Qdd G i) x4 p7 p1 p0 m)) (Qmu G m)
def Qmv (G:Gt)(p8 p7 p1 p0:V)(m:M):R:=Qdd G G.rds p8 p7 p1 p0 m
def Qmw (G:Gt)(p0 p1:V)(m:M):R:=bp (pur (lenK 1 p0 m) m) fun x5 m=>Qmv G (.int .i64 0) x5 p1 p0 m
def Qf5 (G:Gt)(p0 p1:V)(m:M):R:=Qmw G p0 p1 m
theorem Q1hf (G:Gt)(a0 a1:V)(m:M):ef G Tryz.f303 [a0,a1] m = Qf5 G a0 a1 m:=X6 (r:=fun r m=>Qf5 G (r 0) (r 1) m) rfl rfl (tr (seqQ (f:=fun r m=>Qmw G (r 0) (r 1) m) (tr (tr (seqQ (f:=fun r m=>Qmu G m)) (seqQ (f:=fun r m=>Qmv G (r 8) (r 7) (r 1) (r 0) m) (tr (X9 (Xb (fun i r m=>Qdd G i (r 8) (r 7) (r 1) (r 0) m) (fun _ _=>rfl) (fun i0=>fun r m=>by kernel_rfl))))))))) m
def Q1hg:En:=⟨Qpt,Tryz.f303,Tryz.func303,by kernel_rfl,arg2 Qf5,Xg Q1hf⟩
def Qh5 (G:Gt)(k0:J4)(p6 p2 p1 p0:V)(m:M):R:=bp (pur (bin .add true true .int p6 (.int .i64 1)) m) fun x0 m=>k0 x0 p2 p1 p0 m
def Q83 (G:Gt)(k1:J5)(k0:J4)(p30 p0 p7 p1 p6 p2:V)(m:M):R:=brb p30 (bp (pur (bin .sub true true .int p7 (.int .i64 1)) m) fun x1 m=>bp (pur (bin .sub true true .int p7 (.int .i64 1)) m) fun x2 m=>bp (pur (X3 1 p0 x2) m) fun x3 m=>bp (pur (X4 false 1 x3 m) m) fun x4 m=>bp (pur (X3 1 p0 p7) m) fun x5 m=>bp (pur (X4 false 1 x5 m) m) fun x6 m=>bp (pur (X3 1 p0 p7) m) fun x7 m=>bp (unt (X8 1 x7 x4 m)) fun _ m=>bp (pur (X3 1 p0 x1) m) fun x8 m=>bp (unt (X8 1 x8 x6 m)) fun _ m=>bp (pur (bin .sub true true .int p7 (.int .i64 1)) m) fun x9 m=>k1 x9 p1 p0 p6 p2 m) (Qh5 G k0 p6 p2 p1 p0 m)
def Q34 (G:Gt)(k0:J4):Nat→V→V→V→V→V→M→R
 | 0,_,_,_,_,_,_=>none
 | i + 1,p7,p1,p0,p6,p2,m=>bp (pur (bin .gtr false true .int p7 p1) m) fun x10 m=>brt x10 (bp (pur (X3 1 p0 p7) m) fun x11 m=>bp (pur (X4 false 1 x11 m) m) fun x12 m=>bp (pur (bin .sub true true .int p7 (.int .i64 1)) m) fun x13 m=>bp (pur (X3 1 p0 x13) m) fun x14 m=>bp (pur (X4 false 1 x14 m) m) fun x15 m=>bp (G.tab Q2n [x12,x15] m) fun x16 m=>Q83 G (Q34 G k0 i) k0 x16 p0 p7 p1 p6 p2 m) (Q83 G (Q34 G k0 i) k0 (.bool false) p0 p7 p1 p6 p2 m) (none)
def Qh6 (G:Gt)(k0:J4)(p7 p1 p0 p6 p2:V)(m:M):R:=Q34 G k0 G.rds p7 p1 p0 p6 p2 m
def Qh7 (G:Gt)(k0:J4)(p6 p1 p0 p2:V)(m:M):R:=Qh6 G k0 p6 p1 p0 p6 p2 m
def Q10 (G:Gt):Nat→V→V→V→V→M→R
 | 0,_,_,_,_,_=>none
 | i + 1,p6,p2,p1,p0,m=>bp (pur (bin .lss false true .int p6 p2) m) fun x17 m=>brb x17 (Qh7 G (Q10 G i) p6 p1 p0 p2 m) (some (.tuple ⟨[]⟩,m))
def Qh8 (G:Gt)(p6 p2 p1 p0:V)(m:M):R:=Q10 G G.rds p6 p2 p1 p0 m
def Q9a (G:Gt)(p1 p2 p0:V)(m:M):R:=bp (pur (bin .add true true .int p1 (.int .i64 1)) m) fun x18 m=>Qh8 G x18 p2 p1 p0 m
theorem Q157 (G:Gt)(a0 a1 a2:V)(m:M):ef G Tryz.f304 [a0,a1,a2] m = Q9a G a1 a2 a0 m:=X6 (r:=fun r m=>Q9a G (r 1) (r 2) (r 0) m) rfl rfl (tr (seqQ (f:=fun r m=>Qh8 G (r 6) (r 2) (r 1) (r 0) m) (tr (X9 (Xb (fun i r m=>Q10 G i (r 6) (r 2) (r 1) (r 0) m) (fun _ _=>rfl) (fun i0=>tr (seqQ (f:=fun r m=>Qh7 G (Q10 G i0) (r 6) (r 1) (r 0) (r 2) m) (tr (tr (seqQ (f:=fun r m=>Qh5 G (Q10 G i0) (r 6) (r 2) (r 1) (r 0) m)) (X9 (seqQ (f:=fun r m=>Qh6 G (Q10 G i0) (r 7) (r 1) (r 0) (r 6) (r 2) m) (tr (X9 (Xb (fun i r m=>Q34 G (Q10 G i0) i (r 7) (r 1) (r 0) (r 6) (r 2) m) (fun _ _=>rfl) (fun i1=>tr (tr seqD (seqQ (f:=fun r m=>Q83 G (Q34 G (Q10 G i0) i1) (Q10 G i0) (r 30) (r 0) (r 7) (r 1) (r 6) (r 2) m)))))))))))))))))) m
def Q158:En:=⟨Qj7,Tryz.f304,Tryz.func304,by kernel_rfl,arg3 (fun G a0 a1 a2 m=>Q9a G a1 a2 a0 m),Xr Q157⟩
def Q9b (G:Gt)(p9 p11:V)(m:M):R:=bp (pur (X4 false 1 p9 m) m) fun x0 m=>bp (pur (bin .eql true true .int x0 (.int .i64 0)) m) fun x1 m=>brb x1 (some (.tuple ⟨[p11,(.int .i64 1)]⟩,m)) (bp (pur (bin .eql true true .int x0 (.int .i64 12)) m) fun x2 m=>brb x2 (some (.tuple ⟨[p11,(.int .i64 2)]⟩,m)) (some (.tuple ⟨[p11,(.int .i64 0)]⟩,m)))
def Q9c (G:Gt)(p0 p10 p11 p12 p9:V)(m:M):R:=bp (G.tab Qsz [p0,p10,p11,p12,p9] m) fun x3 m=>Q9b G p9 x3 m
def Qj8 (G:Gt)(p32 p8 p0 p10 p9 p11 p12:V)(m:M):R:=brb p32 (bp (pur (bin .geq true true .int p8 (.int .i64 50)) m) fun x4 m=>brb x4 (bp (G.tab Q8u [p0,p10,p9] m) fun x5 m=>bp (G.tab Q8u [p0,p11,p9] m) fun x6 m=>bp (G.tab Q8u [p0,p12,p9] m) fun x7 m=>Q9c G p0 x5 x6 x7 p9 m) (Q9c G p0 p10 p11 p12 p9 m)) (Q9b G p9 p11 m)
def Qj9 (G:Gt)(p8 p0 p10 p9 p11 p12:V)(m:M):R:=bp (pur (bin .geq true true .int p8 (.int .i64 8)) m) fun x8 m=>Qj8 G x8 p8 p0 p10 p9 p11 p12 m
def Qja (G:Gt)(p1 p8 p0 p10 p9 p11:V)(m:M):R:=bp (pur (bin .quo true true .int p8 (.int .i64 4)) m) fun x9 m=>bp (pur (bin .mul true true .int x9 (.int .i64 3)) m) fun x10 m=>bp (pur (bin .add false true .int p1 x10) m) fun x11 m=>Qj9 G p8 p0 p10 p9 p11 x11 m
def Qjb (G:Gt)(p1 p8 p0 p10 p9:V)(m:M):R:=bp (pur (bin .quo true true .int p8 (.int .i64 4)) m) fun x12 m=>bp (pur (bin .mul true true .int x12 (.int .i64 2)) m) fun x13 m=>bp (pur (bin .add false true .int p1 x13) m) fun x14 m=>Qja G p1 p8 p0 p10 p9 x14 m
def Qjc (G:Gt)(p1 p8 p0 p9:V)(m:M):R:=bp (pur (bin .quo true true .int p8 (.int .i64 4)) m) fun x15 m=>bp (pur (bin .mul true true .int x15 (.int .i64 1)) m) fun x16 m=>bp (pur (bin .add false true .int p1 x16) m) fun x17 m=>Qjb G p1 p8 p0 x17 p9 m
def Qjd (G:Gt)(p1 p8 p0:V)(m:M):R:=bp (some (aNew Q60 [(.int .i64 0)] m)) fun x18 m=>Qjc G p1 p8 p0 x18 m
def Qje (G:Gt)(p2 p1 p0:V)(m:M):R:=bp (pur (bin .sub false true .int p2 p1) m) fun x19 m=>Qjd G p1 x19 p0 m
def Qcg (G:Gt)(p2 p1 p0:V)(m:M):R:=Qje G p2 p1 p0 m
theorem Q19v (G:Gt)(a0 a1 a2:V)(m:M):ef G Tryz.f307 [a0,a1,a2] m = Qcg G a2 a1 a0 m:=X6 (r:=fun r m=>Qcg G (r 2) (r 1) (r 0) m) rfl rfl (tr (seqQ (f:=fun r m=>Qje G (r 2) (r 1) (r 0) m) (tr (seqQ (f:=fun r m=>Qjd G (r 1) (r 8) (r 0) m) (tr (seqQ (f:=fun r m=>Qjc G (r 1) (r 8) (r 0) (r 9) m) (tr (seqQ (f:=fun r m=>Qjb G (r 1) (r 8) (r 0) (r 10) (r 9) m) (tr (seqQ (f:=fun r m=>Qja G (r 1) (r 8) (r 0) (r 10) (r 9) (r 11) m) (tr (seqQ (f:=fun r m=>Qj9 G (r 8) (r 0) (r 10) (r 9) (r 11) (r 12) m) (tr (tr (seqQ (f:=fun r m=>Q9b G (r 9) (r 11) m)) (seqQ (f:=fun r m=>Qj8 G (r 32) (r 8) (r 0) (r 10) (r 9) (r 11) (r 12) m) (tr (X1s (seqQ (f:=fun r m=>Q9c G (r 0) (r 10) (r 11) (r 12) (r 9) m)) (refQ)))))))))))))))))) m
def Q19w:En:=⟨Qln,Tryz.f307,Tryz.func307,by kernel_rfl,arg3 (fun G a0 a1 a2 m=>Qcg G a2 a1 a0 m),Xr Q19v⟩
def Qbd (G:Gt)(m:M):R:=some ((.bool false),m)
def Q35 (G:Gt)(k0:J5)(p8 p7 p2 p0 p1:V)(m:M):R:=bp (pur (bin .add true true .int p8 (.int .i64 1)) m) fun x0 m=>k0 x0 p7 p2 p0 p1 m
def Q4a (G:Gt)(k0:J5):Nat→V→V→V→V→V→V→M→R
 | 0,_,_,_,_,_,_,_=>none
 | i + 1,p10,p2,p0,p8,p7,p1,m=>bp (pur (bin .lss false true .int p10 p2) m) fun x1 m=>brb x1 (bp (pur (X3 1 p0 p10) m) fun x2 m=>bp (pur (X4 false 1 x2 m) m) fun x3 m=>bp (pur (bin .sub true true .int p10 (.int .i64 1)) m) fun x4 m=>bp (pur (X3 1 p0 x4) m) fun x5 m=>bp (pur (X4 false 1 x5 m) m) fun x6 m=>bp (G.tab Q2n [x3,x6] m) fun x7 m=>bp (pur (un .not x7) m) fun x8 m=>brb x8 (Q35 G k0 p8 p7 p2 p0 p1 m) (bp (pur (bin .sub true true .int p10 (.int .i64 1)) m) fun x9 m=>bp (pur (bin .sub true true .int p10 (.int .i64 1)) m) fun x10 m=>bp (pur (X3 1 p0 x10) m) fun x11 m=>bp (pur (X4 false 1 x11 m) m) fun x12 m=>bp (pur (X3 1 p0 p10) m) fun x13 m=>bp (pur (X4 false 1 x13 m) m) fun x14 m=>bp (pur (X3 1 p0 p10) m) fun x15 m=>bp (unt (X8 1 x15 x12 m)) fun _ m=>bp (pur (X3 1 p0 x9) m) fun x16 m=>bp (unt (X8 1 x16 x14 m)) fun _ m=>bp (pur (bin .add true true .int p10 (.int .i64 1)) m) fun x17 m=>(Q4a G k0 i) x17 p2 p0 p8 p7 p1 m)) (Q35 G k0 p8 p7 p2 p0 p1 m)
def Qa3 (G:Gt)(k0:J5)(p10 p2 p0 p8 p7 p1:V)(m:M):R:=Q4a G k0 G.rds p10 p2 p0 p8 p7 p1 m
def Qa4 (G:Gt)(k0:J5)(p98 p7 p2 p0 p8 p1:V)(m:M):R:=brb p98 (bp (pur (bin .add true true .int p7 (.int .i64 1)) m) fun x18 m=>Qa3 G k0 x18 p2 p0 p8 p7 p1 m) (Q35 G k0 p8 p7 p2 p0 p1 m)
def Q2u (G:Gt)(k0:J5)(p2 p7 p0 p8 p1:V)(m:M):R:=bp (pur (bin .sub false true .int p2 p7) m) fun x19 m=>bp (pur (bin .geq true true .int x19 (.int .i64 2)) m) fun x20 m=>Qa4 G k0 x20 p7 p2 p0 p8 p1 m
def Q4b (G:Gt)(k0:J5):Nat→V→V→V→V→V→V→M→R
 | 0,_,_,_,_,_,_,_=>none
 | i + 1,p9,p0,p2,p7,p8,p1,m=>bp (pur (bin .geq true true .int p9 (.int .i64 1)) m) fun x21 m=>brb x21 (bp (pur (X3 1 p0 p9) m) fun x22 m=>bp (pur (X4 false 1 x22 m) m) fun x23 m=>bp (pur (bin .sub true true .int p9 (.int .i64 1)) m) fun x24 m=>bp (pur (X3 1 p0 x24) m) fun x25 m=>bp (pur (X4 false 1 x25 m) m) fun x26 m=>bp (G.tab Q2n [x23,x26] m) fun x27 m=>bp (pur (un .not x27) m) fun x28 m=>brb x28 (Q2u G k0 p2 p7 p0 p8 p1 m) (bp (pur (bin .sub true true .int p9 (.int .i64 1)) m) fun x29 m=>bp (pur (bin .sub true true .int p9 (.int .i64 1)) m) fun x30 m=>bp (pur (X3 1 p0 x30) m) fun x31 m=>bp (pur (X4 false 1 x31 m) m) fun x32 m=>bp (pur (X3 1 p0 p9) m) fun x33 m=>bp (pur (X4 false 1 x33 m) m) fun x34 m=>bp (pur (X3 1 p0 p9) m) fun x35 m=>bp (unt (X8 1 x35 x32 m)) fun _ m=>bp (pur (X3 1 p0 x29) m) fun x36 m=>bp (unt (X8 1 x36 x34 m)) fun _ m=>bp (pur (bin .sub true true .int p9 (.int .i64 1)) m) fun x37 m=>(Q4b G k0 i) x37 p0 p2 p7 p8 p1 m)) (Q2u G k0 p2 p7 p0 p8 p1 m)
def Qa5 (G:Gt)(k0:J5)(p9 p0 p2 p7 p8 p1:V)(m:M):R:=Q4b G k0 G.rds p9 p0 p2 p7 p8 p1 m
def Qa6 (G:Gt)(k0:J5)(p61 p7 p0 p2 p8 p1:V)(m:M):R:=brb p61 (bp (pur (bin .sub true true .int p7 (.int .i64 1)) m) fun x38 m=>Qa5 G k0 x38 p0 p2 p7 p8 p1 m) (Q2u G k0 p2 p7 p0 p8 p1 m)
def Qa7 (G:Gt)(k0:J5)(p7 p1 p0 p2 p8:V)(m:M):R:=bp (pur (bin .sub false true .int p7 p1) m) fun x39 m=>bp (pur (bin .geq true true .int x39 (.int .i64 2)) m) fun x40 m=>Qa6 G k0 x40 p7 p0 p2 p8 p1 m
def Qbe (G:Gt)(k0:J5)(p0 p7 p1 p2 p8:V)(m:M):R:=bp (pur (bin .sub true true .int p7 (.int .i64 1)) m) fun x41 m=>bp (pur (bin .sub true true .int p7 (.int .i64 1)) m) fun x42 m=>bp (pur (X3 1 p0 x42) m) fun x43 m=>bp (pur (X4 false 1 x43 m) m) fun x44 m=>bp (pur (X3 1 p0 p7) m) fun x45 m=>bp (pur (X4 false 1 x45 m) m) fun x46 m=>bp (pur (X3 1 p0 p7) m) fun x47 m=>bp (unt (X8 1 x47 x44 m)) fun _ m=>bp (pur (X3 1 p0 x41) m) fun x48 m=>bp (unt (X8 1 x48 x46 m)) fun _ m=>Qa7 G k0 p7 p1 p0 p2 p8 m
def Qbf (G:Gt)(k0:J5)(p2 p1 p0 p7 p8:V)(m:M):R:=bp (pur (bin .sub false true .int p2 p1) m) fun x49 m=>bp (pur (bin .lss true true .int x49 (.int .i64 50)) m) fun x50 m=>brb x50 (some ((.bool false),m)) (Qbe G k0 p0 p7 p1 p2 p8 m)
def Qbg (G:Gt)(k0:J5)(p7 p2 p1 p0 p8:V)(m:M):R:=bp (pur (bin .eql false true .int p7 p2) m) fun x51 m=>brb x51 (some ((.bool true),m)) (Qbf G k0 p2 p1 p0 p7 p8 m)
def Q4c (G:Gt)(k1:J5)(k0:J5)(p32 p7 p2 p0 p1 p8:V)(m:M):R:=brb p32 (bp (pur (bin .add true true .int p7 (.int .i64 1)) m) fun x52 m=>k1 x52 p2 p0 p1 p8 m) (Qbg G k0 p7 p2 p1 p0 p8 m)
def Q1p (G:Gt)(k0:J5):Nat→V→V→V→V→V→M→R
 | 0,_,_,_,_,_,_=>none
 | i + 1,p7,p2,p0,p1,p8,m=>bp (pur (bin .lss false true .int p7 p2) m) fun x53 m=>brt x53 (bp (pur (X3 1 p0 p7) m) fun x54 m=>bp (pur (X4 false 1 x54 m) m) fun x55 m=>bp (pur (bin .sub true true .int p7 (.int .i64 1)) m) fun x56 m=>bp (pur (X3 1 p0 x56) m) fun x57 m=>bp (pur (X4 false 1 x57 m) m) fun x58 m=>bp (G.tab Q2n [x55,x58] m) fun x59 m=>bp (pur (un .not x59) m) fun x60 m=>Q4c G (Q1p G k0 i) k0 x60 p7 p2 p0 p1 p8 m) (Q4c G (Q1p G k0 i) k0 (.bool false) p7 p2 p0 p1 p8 m) (none)
def Qbh (G:Gt)(k0:J5)(p7 p2 p0 p1 p8:V)(m:M):R:=Q1p G k0 G.rds p7 p2 p0 p1 p8 m
def Q2 (G:Gt):Nat→V→V→V→V→V→M→R
 | 0,_,_,_,_,_,_=>none
 | i + 1,p8,p7,p2,p0,p1,m=>bp (pur (bin .lss true true .int p8 (.int .i64 5)) m) fun x61 m=>brb x61 (Qbh G (Q2 G i) p7 p2 p0 p1 p8 m) (Qbd G m)
def Qbi (G:Gt)(p8 p7 p2 p0 p1:V)(m:M):R:=Q2 G G.rds p8 p7 p2 p0 p1 m
def Qbj (G:Gt)(p7 p2 p0 p1:V)(m:M):R:=Qbi G (.int .i64 0) p7 p2 p0 p1 m
def Qbk (G:Gt)(p1 p2 p0:V)(m:M):R:=bp (pur (bin .add true true .int p1 (.int .i64 1)) m) fun x62 m=>Qbj G x62 p2 p0 p1 m
def Q5p (G:Gt)(p1 p2 p0:V)(m:M):R:=Qbk G p1 p2 p0 m
theorem Qsf (G:Gt)(a0 a1 a2:V)(m:M):ef G Tryz.f309 [a0,a1,a2] m = Q5p G a1 a2 a0 m:=X6 (r:=fun r m=>Q5p G (r 1) (r 2) (r 0) m) rfl rfl (tr (seqQ (f:=fun r m=>Qbk G (r 1) (r 2) (r 0) m) (tr (seqQ (f:=fun r m=>Qbj G (r 7) (r 2) (r 0) (r 1) m) (tr (tr (seqQ (f:=fun r m=>Qbd G m)) (seqQ (f:=fun r m=>Qbi G (r 8) (r 7) (r 2) (r 0) (r 1) m) (tr (X9 (Xb (fun i r m=>Q2 G i (r 8) (r 7) (r 2) (r 0) (r 1) m) (fun _ _=>rfl) (fun i0=>tr (seqQ (f:=fun r m=>Qbh G (Q2 G i0) (r 7) (r 2) (r 0) (r 1) (r 8) m) (tr (tr (seqQ (f:=fun r m=>Q35 G (Q2 G i0) (r 8) (r 7) (r 2) (r 0) (r 1) m)) (X9 (tr (seqQ (f:=fun r m=>Qbg G (Q2 G i0) (r 7) (r 2) (r 1) (r 0) (r 8) m) (tr (seqQ (f:=fun r m=>Qbf G (Q2 G i0) (r 2) (r 1) (r 0) (r 7) (r 8) m) (tr (seqQ (f:=fun r m=>Qbe G (Q2 G i0) (r 0) (r 7) (r 1) (r 2) (r 8) m) (tr (seqQ (f:=fun r m=>Qa7 G (Q2 G i0) (r 7) (r 1) (r 0) (r 2) (r 8) m) (tr (tr (seqQ (f:=fun r m=>Q2u G (Q2 G i0) (r 2) (r 7) (r 0) (r 8) (r 1) m) (tr (seqQ (f:=fun r m=>Qa4 G (Q2 G i0) (r 98) (r 7) (r 2) (r 0) (r 8) (r 1) m) (tr (X1s (seqQ (f:=fun r m=>Qa3 G (Q2 G i0) (r 10) (r 2) (r 0) (r 8) (r 7) (r 1) m) (tr (X9 (Xb (fun i r m=>Q4a G (Q2 G i0) i (r 10) (r 2) (r 0) (r 8) (r 7) (r 1) m) (fun _ _=>rfl) (fun i1=>fun r m=>by kernel_rfl))))) (refQ)))))) (seqQ (f:=fun r m=>Qa6 G (Q2 G i0) (r 61) (r 7) (r 0) (r 2) (r 8) (r 1) m) (tr (X1s (seqQ (f:=fun r m=>Qa5 G (Q2 G i0) (r 9) (r 0) (r 2) (r 7) (r 8) (r 1) m) (tr (X9 (Xb (fun i r m=>Q4b G (Q2 G i0) i (r 9) (r 0) (r 2) (r 7) (r 8) (r 1) m) (fun _ _=>rfl) (fun i1=>fun r m=>by kernel_rfl))))) (refQ))))))))))))) (X9 (Xb (fun i r m=>Q1p G (Q2 G i0) i (r 7) (r 2) (r 0) (r 1) (r 8) m) (fun _ _=>rfl) (fun i1=>tr (tr seqD (seqQ (f:=fun r m=>Q4c G (Q1p G (Q2 G i0) i1) (Q2 G i0) (r 32) (r 7) (r 2) (r 0) (r 1) (r 8) m)))))))))))))))))))))) m
def Qsg:En:=⟨Qds,Tryz.f309,Tryz.func309,by kernel_rfl,arg3 (fun G a0 a1 a2 m=>Q5p G a1 a2 a0 m),Xr Qsf⟩
def Qj6 (G:Gt)(p4:V)(m:M):R:=some (p4,m)
def Q156 (G:Gt)(p0 p1:V)(m:M):R:=bp (G.tab Qcf [p0] m) fun x0 m=>brb x0 (bp (G.tab Qcf [p1] m) fun x1 m=>bp (pur (un .not x1) m) fun x2 m=>brb x2 (Qj6 G (.bool true) m) (bp (pur (bin .lss false true .int p0 p1) m) fun x3 m=>Qj6 G x3 m)) (bp (pur (bin .lss false true .int p0 p1) m) fun x4 m=>Qj6 G x4 m)
def Qe9 (G:Gt)(p0 p1:V)(m:M):R:=Q156 G p0 p1 m
theorem Q279 (G:Gt)(a0 a1:V)(m:M):ef G Tryz.f310 [a0,a1] m = Qe9 G a0 a1 m:=X6 (r:=fun r m=>Qe9 G (r 0) (r 1) m) rfl rfl (tr (seqQ (f:=fun r m=>Q156 G (r 0) (r 1) m) (tr (seqQ (f:=fun r m=>Qj6 G (r 4) m))))) m
def Q1fh:En:=⟨Q2n,Tryz.f310,Tryz.func310,by kernel_rfl,arg2 Qe9,Xg Q279⟩
end
end Go.Ab.Sh

set_option linter.unusedVariables false
set_option maxRecDepth 100000
namespace Go.Ab.Sh
open Go Go.Ab Go.Proofs
noncomputable section
def Qlo (G:Gt)(p0 p11 p1:V)(m:M):R:=bp (pur (X3 1 p0 p1) m) fun x0 m=>bp (pur (X4 false 1 x0 m) m) fun x1 m=>bp (pur (X3 1 p0 p11) m) fun x2 m=>bp (pur (X4 false 1 x2 m) m) fun x3 m=>bp (pur (X3 1 p0 p11) m) fun x4 m=>bp (unt (X8 1 x4 x1 m)) fun _ m=>bp (pur (X3 1 p0 p1) m) fun x5 m=>bp (unt (X8 1 x5 x3 m)) fun _ m=>some (.tuple ⟨[p11,(.bool false)]⟩,m)
def Qkx (G:Gt)(k0:J4)(p10 p11 p0 p1:V)(m:M):R:=bp (pur (bin .gtr false true .int p10 p11) m) fun x6 m=>brb x6 (Qlo G p0 p11 p1 m) (bp (pur (X3 1 p0 p11) m) fun x7 m=>bp (pur (X4 false 1 x7 m) m) fun x8 m=>bp (pur (X3 1 p0 p10) m) fun x9 m=>bp (pur (X4 false 1 x9 m) m) fun x10 m=>bp (pur (X3 1 p0 p10) m) fun x11 m=>bp (unt (X8 1 x11 x8 m)) fun _ m=>bp (pur (X3 1 p0 p11) m) fun x12 m=>bp (unt (X8 1 x12 x10 m)) fun _ m=>bp (pur (bin .add true true .int p10 (.int .i64 1)) m) fun x13 m=>bp (pur (bin .sub true true .int p11 (.int .i64 1)) m) fun x14 m=>k0 x13 x14 p0 p1 m)
def Qa8 (G:Gt)(k1:J4)(k0:J4)(p129 p11 p10 p0 p1:V)(m:M):R:=brb p129 (bp (pur (bin .sub true true .int p11 (.int .i64 1)) m) fun x15 m=>k1 p10 x15 p0 p1 m) (Qkx G k0 p10 p11 p0 p1 m)
def Q3f (G:Gt)(k0:J4):Nat→V→V→V→V→M→R
 | 0,_,_,_,_,_=>none
 | i + 1,p10,p11,p0,p1,m=>bp (pur (bin .leq false true .int p10 p11) m) fun x16 m=>brt x16 (bp (pur (X3 1 p0 p11) m) fun x17 m=>bp (pur (X4 false 1 x17 m) m) fun x18 m=>bp (pur (X3 1 p0 p1) m) fun x19 m=>bp (pur (X4 false 1 x19 m) m) fun x20 m=>bp (G.tab Q2n [x18,x20] m) fun x21 m=>bp (pur (un .not x21) m) fun x22 m=>Qa8 G (Q3f G k0 i) k0 x22 p11 p10 p0 p1 m) (Qa8 G (Q3f G k0 i) k0 (.bool false) p11 p10 p0 p1 m) (none)
def Qky (G:Gt)(k0:J4)(p10 p11 p0 p1:V)(m:M):R:=Q3f G k0 G.rds p10 p11 p0 p1 m
def Qa9 (G:Gt)(k1:J4)(k0:J4)(p112 p10 p11 p0 p1:V)(m:M):R:=brb p112 (bp (pur (bin .add true true .int p10 (.int .i64 1)) m) fun x23 m=>k1 x23 p11 p0 p1 m) (Qky G k0 p10 p11 p0 p1 m)
def Q3g (G:Gt)(k0:J4):Nat→V→V→V→V→M→R
 | 0,_,_,_,_,_=>none
 | i + 1,p10,p11,p0,p1,m=>bp (pur (bin .leq false true .int p10 p11) m) fun x24 m=>brt x24 (bp (pur (X3 1 p0 p10) m) fun x25 m=>bp (pur (X4 false 1 x25 m) m) fun x26 m=>bp (pur (X3 1 p0 p1) m) fun x27 m=>bp (pur (X4 false 1 x27 m) m) fun x28 m=>bp (G.tab Q2n [x26,x28] m) fun x29 m=>Qa9 G (Q3g G k0 i) k0 x29 p10 p11 p0 p1 m) (Qa9 G (Q3g G k0 i) k0 (.bool false) p10 p11 p0 p1 m) (none)
def Qv (G:Gt):Nat→V→V→V→V→M→R
 | 0,_,_,_,_,_=>none
 | i + 1,p10,p11,p0,p1,m=>Q3g G (Qv G i) G.rds p10 p11 p0 p1 m
def Qlp (G:Gt)(p10 p11 p0 p1:V)(m:M):R:=Qv G G.rds p10 p11 p0 p1 m
def Qlq (G:Gt)(p11 p10 p0 p1:V)(m:M):R:=bp (pur (bin .sub true true .int p11 (.int .i64 1)) m) fun x30 m=>Qlp G p10 x30 p0 p1 m
def Qlr (G:Gt)(p10 p11 p0 p1:V)(m:M):R:=bp (pur (bin .add true true .int p10 (.int .i64 1)) m) fun x31 m=>Qlq G p11 x31 p0 p1 m
def Qls (G:Gt)(p0 p10 p11 p1:V)(m:M):R:=bp (pur (X3 1 p0 p11) m) fun x32 m=>bp (pur (X4 false 1 x32 m) m) fun x33 m=>bp (pur (X3 1 p0 p10) m) fun x34 m=>bp (pur (X4 false 1 x34 m) m) fun x35 m=>bp (pur (X3 1 p0 p10) m) fun x36 m=>bp (unt (X8 1 x36 x33 m)) fun _ m=>bp (pur (X3 1 p0 p11) m) fun x37 m=>bp (unt (X8 1 x37 x35 m)) fun _ m=>Qlr G p10 p11 p0 p1 m
def Qlt (G:Gt)(p10 p11 p0 p1:V)(m:M):R:=bp (pur (bin .gtr false true .int p10 p11) m) fun x38 m=>brb x38 (bp (pur (X3 1 p0 p1) m) fun x39 m=>bp (pur (X4 false 1 x39 m) m) fun x40 m=>bp (pur (X3 1 p0 p11) m) fun x41 m=>bp (pur (X4 false 1 x41 m) m) fun x42 m=>bp (pur (X3 1 p0 p11) m) fun x43 m=>bp (unt (X8 1 x43 x40 m)) fun _ m=>bp (pur (X3 1 p0 p1) m) fun x44 m=>bp (unt (X8 1 x44 x42 m)) fun _ m=>some (.tuple ⟨[p11,(.bool true)]⟩,m)) (Qls G p0 p10 p11 p1 m)
def Qaa (G:Gt)(k0:J4)(p60 p11 p10 p0 p1:V)(m:M):R:=brb p60 (bp (pur (bin .sub true true .int p11 (.int .i64 1)) m) fun x45 m=>k0 p10 x45 p0 p1 m) (Qlt G p10 p11 p0 p1 m)
def Q3h (G:Gt):Nat→V→V→V→V→M→R
 | 0,_,_,_,_,_=>none
 | i + 1,p10,p11,p0,p1,m=>bp (pur (bin .leq false true .int p10 p11) m) fun x46 m=>brt x46 (bp (pur (X3 1 p0 p11) m) fun x47 m=>bp (pur (X4 false 1 x47 m) m) fun x48 m=>bp (pur (X3 1 p0 p1) m) fun x49 m=>bp (pur (X4 false 1 x49 m) m) fun x50 m=>bp (G.tab Q2n [x48,x50] m) fun x51 m=>bp (pur (un .not x51) m) fun x52 m=>Qaa G (Q3h G i) x52 p11 p10 p0 p1 m) (Qaa G (Q3h G i) (.bool false) p11 p10 p0 p1 m) (none)
def Qlu (G:Gt)(p10 p11 p0 p1:V)(m:M):R:=Q3h G G.rds p10 p11 p0 p1 m
def Qab (G:Gt)(k0:J4)(p43 p10 p11 p0 p1:V)(m:M):R:=brb p43 (bp (pur (bin .add true true .int p10 (.int .i64 1)) m) fun x53 m=>k0 x53 p11 p0 p1 m) (Qlu G p10 p11 p0 p1 m)
def Q3i (G:Gt):Nat→V→V→V→V→M→R
 | 0,_,_,_,_,_=>none
 | i + 1,p10,p11,p0,p1,m=>bp (pur (bin .leq false true .int p10 p11) m) fun x54 m=>brt x54 (bp (pur (X3 1 p0 p10) m) fun x55 m=>bp (pur (X4 false 1 x55 m) m) fun x56 m=>bp (pur (X3 1 p0 p1) m) fun x57 m=>bp (pur (X4 false 1 x57 m) m) fun x58 m=>bp (G.tab Q2n [x56,x58] m) fun x59 m=>Qab G (Q3i G i) x59 p10 p11 p0 p1 m) (Qab G (Q3i G i) (.bool false) p10 p11 p0 p1 m) (none)
def Qlv (G:Gt)(p10 p11 p0 p1:V)(m:M):R:=Q3i G G.rds p10 p11 p0 p1 m
def Qlw (G:Gt)(p1 p2 p0:V)(m:M):R:=bp (pur (bin .add true true .int p1 (.int .i64 1)) m) fun x60 m=>bp (pur (bin .sub true true .int p2 (.int .i64 1)) m) fun x61 m=>Qlv G x60 x61 p0 p1 m
def Qlx (G:Gt)(p0 p1 p3 p2:V)(m:M):R:=bp (pur (X3 1 p0 p3) m) fun x62 m=>bp (pur (X4 false 1 x62 m) m) fun x63 m=>bp (pur (X3 1 p0 p1) m) fun x64 m=>bp (pur (X4 false 1 x64 m) m) fun x65 m=>bp (pur (X3 1 p0 p1) m) fun x66 m=>bp (unt (X8 1 x66 x63 m)) fun _ m=>bp (pur (X3 1 p0 p3) m) fun x67 m=>bp (unt (X8 1 x67 x65 m)) fun _ m=>Qlw G p1 p2 p0 m
def Qea (G:Gt)(p0 p1 p3 p2:V)(m:M):R:=Qlx G p0 p1 p3 p2 m
theorem Q1fi (G:Gt)(a0 a1 a2 a3:V)(m:M):ef G Tryz.f312 [a0,a1,a2,a3] m = Qea G a0 a1 a3 a2 m:=X6 (r:=fun r m=>Qea G (r 0) (r 1) (r 3) (r 2) m) rfl rfl (tr (seqQ (f:=fun r m=>Qlx G (r 0) (r 1) (r 3) (r 2) m) (tr (seqQ (f:=fun r m=>Qlw G (r 1) (r 2) (r 0) m) (tr (seqQ (f:=fun r m=>Qlv G (r 10) (r 11) (r 0) (r 1) m) (tr (tr (seqQ (f:=fun r m=>Qlu G (r 10) (r 11) (r 0) (r 1) m) (tr (tr (seqQ (f:=fun r m=>Qlt G (r 10) (r 11) (r 0) (r 1) m) (tr (seqQ (f:=fun r m=>Qls G (r 0) (r 10) (r 11) (r 1) m) (tr (seqQ (f:=fun r m=>Qlr G (r 10) (r 11) (r 0) (r 1) m) (tr (seqQ (f:=fun r m=>Qlq G (r 11) (r 10) (r 0) (r 1) m) (tr (seqQ (f:=fun r m=>Qlp G (r 10) (r 11) (r 0) (r 1) m) (tr (tr (seqQ (f:=fun r m=>Qlo G (r 0) (r 11) (r 1) m)) (X9 (Xb (fun i r m=>Qv G i (r 10) (r 11) (r 0) (r 1) m) (fun _ _=>rfl) (fun i0=>tr (X9 (tr (seqQ (f:=fun r m=>Qky G (Qv G i0) (r 10) (r 11) (r 0) (r 1) m) (tr (tr (seqQ (f:=fun r m=>Qkx G (Qv G i0) (r 10) (r 11) (r 0) (r 1) m)) (X9 (Xb (fun i r m=>Q3f G (Qv G i0) i (r 10) (r 11) (r 0) (r 1) m) (fun _ _=>rfl) (fun i1=>tr (tr seqD (seqQ (f:=fun r m=>Qa8 G (Q3f G (Qv G i0) i1) (Qv G i0) (r 129) (r 11) (r 10) (r 0) (r 1) m))))))))) (X9 (Xb (fun i r m=>Q3g G (Qv G i0) i (r 10) (r 11) (r 0) (r 1) m) (fun _ _=>rfl) (fun i1=>tr (tr seqD (seqQ (f:=fun r m=>Qa9 G (Q3g G (Qv G i0) i1) (Qv G i0) (r 112) (r 10) (r 11) (r 0) (r 1) m)))))))))))))))))))))) (X9 (Xb (fun i r m=>Q3h G i (r 10) (r 11) (r 0) (r 1) m) (fun _ _=>rfl) (fun i0=>tr (tr seqD (seqQ (f:=fun r m=>Qaa G (Q3h G i0) (r 60) (r 11) (r 10) (r 0) (r 1) m))))))))) (X9 (Xb (fun i r m=>Q3i G i (r 10) (r 11) (r 0) (r 1) m) (fun _ _=>rfl) (fun i0=>tr (tr seqD (seqQ (f:=fun r m=>Qab G (Q3i G i0) (r 43) (r 10) (r 11) (r 0) (r 1) m)))))))))))))) m
def Q1fj:En:=⟨Qo3,Tryz.f312,Tryz.func312,by kernel_rfl,arg4 (fun G a0 a1 a2 a3 m=>Qea G a0 a1 a3 a2 m),X1c Q1fi⟩
def Qwi (G:Gt)(p2 p0:V)(m:M):R:=bp (conv (.int .u8) p0 m) fun x0 m=>bp (pur (X2x (.string ⟨#[0,1,2,2,3,3,3,3,4,4,4,4,4,4,4,4,5,5,5,5,5,5,5,5,5,5,5,5,5,5,5,5,6,6,6,6,6,6,6,6,6,6,6,6,6,6,6,6,6,6,6,6,6,6,6,6,6,6,6,6,6,6,6,6,7,7,7,7,7,7,7,7,7,7,7,7,7,7,7,7,7,7,7,7,7,7,7,7,7,7,7,7,7,7,7,7,7,7,7,7,7,7,7,7,7,7,7,7,7,7,7,7,7,7,7,7,7,7,7,7,7,7,7,7,7,7,7,7,8,8,8,8,8,8,8,8,8,8,8,8,8,8,8,8,8,8,8,8,8,8,8,8,8,8,8,8,8,8,8,8,8,8,8,8,8,8,8,8,8,8,8,8,8,8,8,8,8,8,8,8,8,8,8,8,8,8,8,8,8,8,8,8,8,8,8,8,8,8,8,8,8,8,8,8,8,8,8,8,8,8,8,8,8,8,8,8,8,8,8,8,8,8,8,8,8,8,8,8,8,8,8,8,8,8,8,8,8,8,8,8,8,8,8,8,8,8,8,8,8,8,8,8,8,8,8,8]⟩) x0) m) fun x1 m=>bp (conv (.int .i64) x1 m) fun x2 m=>bp (pur (bin .add false true .int p2 x2) m) fun x3 m=>some (x3,m)
def Qwj (G:Gt)(p0 p2:V)(m:M):R:=bp (pur (bin .geq true true .int p0 (.int .u64 256)) m) fun x4 m=>brb x4 (bp (pur (bin .shr true true .int p0 (.int .u64 8)) m) fun x5 m=>bp (pur (bin .add true true .int p2 (.int .i64 8)) m) fun x6 m=>Qwi G x6 x5 m) (Qwi G p2 p0 m)
def Qwk (G:Gt)(p0 p2:V)(m:M):R:=bp (pur (bin .geq true true .int p0 (.int .u64 65536)) m) fun x7 m=>brb x7 (bp (pur (bin .shr true true .int p0 (.int .u64 16)) m) fun x8 m=>bp (pur (bin .add true true .int p2 (.int .i64 16)) m) fun x9 m=>Qwj G x8 x9 m) (Qwj G p0 p2 m)
def Q1i7 (G:Gt)(p0 p2:V)(m:M):R:=bp (pur (bin .geq true true .int p0 (.int .u64 4294967296)) m) fun x10 m=>brb x10 (bp (pur (bin .shr true true .int p0 (.int .u64 32)) m) fun x11 m=>Qwk G x11 (.int .i64 32) m) (Qwk G p0 p2 m)
def Q159 (G:Gt)(p0:V)(m:M):R:=Q1i7 G p0 (.int .i64 0) m
theorem Q23y (G:Gt)(a0:V)(m:M):ef G Tryz.f314 [a0] m = Q159 G a0 m:=X6 (r:=fun r m=>Q159 G (r 0) m) rfl rfl (tr (seqQ (f:=fun r m=>Q1i7 G (r 0) (r 2) m) (tr (seqQ (f:=fun r m=>Qwk G (r 0) (r 2) m) (tr (seqQ (f:=fun r m=>Qwj G (r 0) (r 2) m) (tr (seqQ (f:=fun r m=>Qwi G (r 2) (r 0) m))))))))) m
def Q23z:En:=⟨Q1nf,Tryz.f314,Tryz.func314,by kernel_rfl,arg1 Q159,Xl Q23y⟩
def Qac (G:Gt)(p0:V)(m:M):R:=bp (pur (bin .eql true true .slice p0 (.slice none 0 0)) m) fun x0 m=>brb x0 (some ((.slice none 0 0),m)) (bp (Xa Qkp Qo0 2 0 [] m) fun x1 m=>bp (apS Qkp 2 24 x1 p0 m) fun x2 m=>some (x2,m))
theorem Q171 (G:Gt)(a0:V)(m:M):ef G Tryz.f325 [a0] m = Qac G a0 m:=X6 (r:=fun r m=>Qac G (r 0) m) rfl rfl (fun r m=>by kernel_rfl) m
def Q172:En:=⟨Qkz,Tryz.f325,Tryz.func325,by kernel_rfl,arg1 Qac,Xl Q171⟩
def Qcw (G:Gt)(k0:J5)(p8 p2 p1 p3 p0:V)(m:M):R:=bp (pur (bin .add true true .int p8 (.int .i64 1)) m) fun x0 m=>k0 x0 p2 p1 p3 p0 m
def Q57 (G:Gt)(k1:J6)(k0:J5)(p34 p0 p9 p1 p3 p8 p2:V)(m:M):R:=brb p34 (bp (pur (bin .sub true true .int p9 (.int .i64 1)) m) fun x1 m=>bp (pur (bin .sub true true .int p9 (.int .i64 1)) m) fun x2 m=>bp (pur (X3 4 p0 x2) m) fun x3 m=>bp (pur (X4 true 4 x3 m) m) fun x4 m=>bp (pur (X3 4 p0 p9) m) fun x5 m=>bp (pur (X4 true 4 x5 m) m) fun x6 m=>bp (pur (X3 4 p0 p9) m) fun x7 m=>bp (unt (X8 4 x7 x4 m)) fun _ m=>bp (pur (X3 4 p0 x1) m) fun x8 m=>bp (unt (X8 4 x8 x6 m)) fun _ m=>bp (pur (bin .sub true true .int p9 (.int .i64 1)) m) fun x9 m=>k1 x9 p1 p3 p0 p8 p2 m) (Qcw G k0 p8 p2 p1 p3 p0 m)
def Q23 (G:Gt)(k0:J5):Nat→V→V→V→V→V→V→M→R
 | 0,_,_,_,_,_,_,_=>none
 | i + 1,p9,p1,p3,p0,p8,p2,m=>bp (pur (bin .gtr false true .int p9 p1) m) fun x10 m=>brt x10 (bp (pur (X3 4 p0 p9) m) fun x11 m=>bp (pur (X4 true 4 x11 m) m) fun x12 m=>bp (pur (bin .sub true true .int p9 (.int .i64 1)) m) fun x13 m=>bp (pur (X3 4 p0 x13) m) fun x14 m=>bp (pur (X4 true 4 x14 m) m) fun x15 m=>bp (Xj G.tab p3 [x12,x15] m) fun x16 m=>bp (pur (bin .lss true true .int x16 (.int .i64 0)) m) fun x17 m=>Q57 G (Q23 G k0 i) k0 x17 p0 p9 p1 p3 p8 p2 m) (Q57 G (Q23 G k0 i) k0 (.bool false) p0 p9 p1 p3 p8 p2 m) (none)
def Qcx (G:Gt)(k0:J5)(p9 p1 p3 p0 p8 p2:V)(m:M):R:=Q23 G k0 G.rds p9 p1 p3 p0 p8 p2 m
def Qcy (G:Gt)(k0:J5)(p8 p1 p3 p0 p2:V)(m:M):R:=Qcx G k0 p8 p1 p3 p0 p8 p2 m
def Qq (G:Gt):Nat→V→V→V→V→V→M→R
 | 0,_,_,_,_,_,_=>none
 | i + 1,p8,p2,p1,p3,p0,m=>bp (pur (bin .lss false true .int p8 p2) m) fun x18 m=>brb x18 (Qcy G (Qq G i) p8 p1 p3 p0 p2 m) (some (.tuple ⟨[]⟩,m))
def Qcz (G:Gt)(p8 p2 p1 p3 p0:V)(m:M):R:=Qq G G.rds p8 p2 p1 p3 p0 m
def Q68 (G:Gt)(p1 p2 p3 p0:V)(m:M):R:=bp (pur (bin .add true true .int p1 (.int .i64 1)) m) fun x19 m=>Qcz G x19 p2 p1 p3 p0 m
theorem Qu1 (G:Gt)(a0 a1 a2 a3:V)(m:M):ef G Tryz.f326 [a0,a1,a2,a3] m = Q68 G a1 a2 a3 a0 m:=X6 (r:=fun r m=>Q68 G (r 1) (r 2) (r 3) (r 0) m) rfl rfl (tr (seqQ (f:=fun r m=>Qcz G (r 8) (r 2) (r 1) (r 3) (r 0) m) (tr (X9 (Xb (fun i r m=>Qq G i (r 8) (r 2) (r 1) (r 3) (r 0) m) (fun _ _=>rfl) (fun i0=>tr (seqQ (f:=fun r m=>Qcy G (Qq G i0) (r 8) (r 1) (r 3) (r 0) (r 2) m) (tr (tr (seqQ (f:=fun r m=>Qcw G (Qq G i0) (r 8) (r 2) (r 1) (r 3) (r 0) m)) (X9 (seqQ (f:=fun r m=>Qcx G (Qq G i0) (r 9) (r 1) (r 3) (r 0) (r 8) (r 2) m) (tr (X9 (Xb (fun i r m=>Q23 G (Qq G i0) i (r 9) (r 1) (r 3) (r 0) (r 8) (r 2) m) (fun _ _=>rfl) (fun i1=>tr (tr seqD (seqQ (f:=fun r m=>Q57 G (Q23 G (Qq G i0) i1) (Qq G i0) (r 34) (r 0) (r 9) (r 1) (r 3) (r 8) (r 2) m)))))))))))))))))) m
def Qu2:En:=⟨Qeb,Tryz.f326,Tryz.func326,by kernel_rfl,arg4 (fun G a0 a1 a2 a3 m=>Q68 G a1 a2 a3 a0 m),X1c Qu1⟩
def Qh9 (G:Gt)(p8:V)(m:M):R:=brb p8 (some ((.int .i64 1),m)) (some ((.int .i64 0),m))
def Q1kz (G:Gt)(p5 p3 p0:V)(m:M):R:=brb p5 (some ((.int .i64 2),m)) (bp (pur (X0 0 p3) m) fun x0 m=>bp (pur (X4 false 1 x0 m) m) fun x1 m=>bp (pur (bin .lss true true .int x1 (.int .i64 0)) m) fun x2 m=>brt x2 (Qh9 G (.bool true) m) (bp (pur (X0 0 p3) m) fun x3 m=>bp (pur (X4 false 1 x3 m) m) fun x4 m=>bp (pur (X7 p0) m) fun x5 m=>bp (pur (X0 0 x5) m) fun x6 m=>bp (pur (X4 false 1 x6 m) m) fun x7 m=>bp (pur (lenK 1 x7 m) m) fun x8 m=>bp (pur (bin .geq false true .int x4 x8) m) fun x9 m=>brt x9 (Qh9 G (.bool true) m) (bp (pur (X0 1 p3) m) fun x10 m=>bp (pur (X4 false 1 x10 m) m) fun x11 m=>bp (pur (bin .lss true true .int x11 (.int .i64 0)) m) fun x12 m=>brt x12 (Qh9 G (.bool true) m) (bp (pur (X0 1 p3) m) fun x13 m=>bp (pur (X4 false 1 x13 m) m) fun x14 m=>bp (pur (X7 p0) m) fun x15 m=>bp (pur (X0 0 x15) m) fun x16 m=>bp (pur (X4 false 1 x16 m) m) fun x17 m=>bp (pur (X0 0 p3) m) fun x18 m=>bp (pur (X4 false 1 x18 m) m) fun x19 m=>bp (pur (X3 12 x17 x19) m) fun x20 m=>bp (pur (X0 3 x20) m) fun x21 m=>bp (pur (X4 false 1 x21 m) m) fun x22 m=>bp (pur (lenK 1 x22 m) m) fun x23 m=>bp (pur (bin .geq false true .int x14 x23) m) fun x24 m=>Qh9 G x24 m) (none)) (none)) (none))
def Q1l0 (G:Gt)(p0 p3:V)(m:M):R:=bp (pur (binP m .eql true true .ptr p0 (.pointer none)) m) fun x25 m=>Q1kz G x25 p3 p0 m
def Q19x (G:Gt)(p1 p0:V)(m:M):R:=bp (some (aNew Q3 (Value.cells p1).toList m)) fun x26 m=>Q1l0 G p0 x26 m
theorem Q25m (G:Gt)(a0 a1:V)(m:M):ef G Tryz.f334 [a0,a1] m = Q19x G a1 a0 m:=X6 (r:=fun r m=>Q19x G (r 1) (r 0) m) rfl rfl (tr (seqQ (f:=fun r m=>Q1l0 G (r 0) (r 3) m) (tr (tr seqD (X9 (seqQ (f:=fun r m=>Q1kz G (r 5) (r 3) (r 0) m) (tr (X1s (refQ) (seqQ (f:=fun r m=>Qh9 G (r 8) m)))))))))) m
def Q25n:En:=⟨Q1oi,Tryz.f334,Tryz.func334,by kernel_rfl,arg2 (fun G a0 a1 m=>Q19x G a1 a0 m),Xg Q25m⟩
end
end Go.Ab.Sh
