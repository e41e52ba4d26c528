/-
  Functions of the program as plain definitions. No conditions.
-/
import Derived.Test.YtoahkkdbdiamcaaGreatDoorAb5
import Derived.Test.YtoahkkdbdiamcaaGreatDoorZ
import Derived.KernelRfl
import Derived.Test.YtoahkkdbdiamcaaGreatDoorProg
set_option linter.unusedVariables false
set_option maxRecDepth 100000
namespace Go.Ab.Sh
open Go Go.Ab Go.Proofs
noncomputable section
def Q7s (G:Gt)(k0:V → V → V → V → M → R)(p6 p1 p0 p2:V)(m:M):R:=
  bp (pur (bin .mul true true .int p6 (.int .i64 2)) m) fun x0 m=>
  k0 x0 p1 p0 p2 m
def Qgi (G:Gt)(k0:V → V → V → V → M → R)(p7 p6 p1 p0 p2:V)(m:M):R:=
  bp (pur (bin .add false true .int p7 p6) m) fun x1 m=>
  bp (pur (bin .lss false true .int x1 p1) m) fun x2 m=>
  brb x2
  (bp (G.tab Qgj [p0,p7,x1,p1,p2] m) fun x3 m=>
  Q7s G k0 p6 p1 p0 p2 m)
  (Q7s G k0 p6 p1 p0 p2 m)
def Q7t (G:Gt)(k0:V → V → V → V → M → R):Nat → V → V → V → V → V → V → M → R
 | 0,_,_,_,_,_,_,_=>none
 | i + 1,p8,p1,p0,p7,p6,p2,m=>
  bp (pur (bin .leq false true .int p8 p1) m) fun x4 m=>
  brb x4
  (bp (pur (bin .add false true .int p7 p6) m) fun x5 m=>
  bp (G.tab Qgj [p0,p7,x5,p8,p2] m) fun x6 m=>
  bp (pur (bin .mul true true .int (.int .i64 2) p6) m) fun x7 m=>
  bp (pur (bin .add false true .int p8 x7) m) fun x8 m=>
  (Q7t G k0 i) x8 p1 p0 p8 p6 p2 m)
  (Qgi G k0 p7 p6 p1 p0 p2 m)
def Qgk (G:Gt)(k0:V → V → V → V → M → R)(p8 p1 p0 p7 p6 p2:V)(m:M):R:=
  Q7t G k0 G.rds p8 p1 p0 p7 p6 p2 m
def Qgl (G:Gt)(k0:V → V → V → V → M → R)(p6 p1 p0 p2:V)(m:M):R:=
  bp (pur (bin .mul true true .int (.int .i64 2) p6) m) fun x9 m=>
  Qgk G k0 x9 p1 p0 (.int .i64 0) p6 p2 m
def Q13 (G:Gt):Nat → V → V → V → V → M → R
 | 0,_,_,_,_,_=>none
 | i + 1,p6,p1,p0,p2,m=>
  bp (pur (bin .lss false true .int p6 p1) m) fun x10 m=>
  brb x10
  (Qgl G (Q13 G i) p6 p1 p0 p2 m)
  (some (.tuple ⟨[]⟩,m))
def Qgm (G:Gt)(p6 p1 p0 p2:V)(m:M):R:=
  Q13 G G.rds p6 p1 p0 p2 m
def Qgn (G:Gt)(p0 p7 p1 p2 p6:V)(m:M):R:=
  bp (G.tab Q5e [p0,p7,p1,p2] m) fun x11 m=>
  Qgm G p6 p1 p0 p2 m
def Q72 (G:Gt):Nat → V → V → V → V → V → V → M → R
 | 0,_,_,_,_,_,_,_=>none
 | i + 1,p8,p1,p0,p7,p2,p6,m=>
  bp (pur (bin .leq false true .int p8 p1) m) fun x12 m=>
  brb x12
  (bp (G.tab Q5e [p0,p7,p8,p2] m) fun x13 m=>
  bp (pur (bin .add false true .int p8 p6) m) fun x14 m=>
  (Q72 G i) x14 p1 p0 p8 p2 p6 m)
  (Qgn G p0 p7 p1 p2 p6 m)
def Qgo (G:Gt)(p8 p1 p0 p7 p2 p6:V)(m:M):R:=
  Q72 G G.rds p8 p1 p0 p7 p2 p6 m
def Qgp (G:Gt)(p6 p1 p0 p2:V)(m:M):R:=
  Qgo G p6 p1 p0 (.int .i64 0) p2 p6 m
def Q97 (G:Gt)(p1 p0 p2:V)(m:M):R:=
  Qgp G (.int .i64 20) p1 p0 p2 m
theorem Q11h (G:Gt)(a0 a1 a2:V)(m:M):ef G Tryz.f395 [a0,a1,a2] m = Q97 G a1 a0 a2 m:=
  evFn_of (r:=fun r m=>Q97 G (r 1) (r 0) (r 2) m) rfl rfl (tr (seqQ (f:=fun r m=>Qgp G (r 6) (r 1) (r 0) (r 2) m) (tr (seqQ (f:=fun r m=>Qgo G (r 8) (r 1) (r 0) (r 7) (r 2) (r 6) m) (tr (tr (seqQ (f:=fun r m=>Qgn G (r 0) (r 7) (r 1) (r 2) (r 6) m) (tr (seqQ (f:=fun r m=>Qgm G (r 6) (r 1) (r 0) (r 2) m) (tr (blockQ (loopQ (fun i r m=>Q13 G i (r 6) (r 1) (r 0) (r 2) m) (fun _ _=>rfl) (fun i0=>tr (seqQ (f:=fun r m=>Qgl G (Q13 G i0) (r 6) (r 1) (r 0) (r 2) m) (tr (blockQ (seqQ (f:=fun r m=>Qgk G (Q13 G i0) (r 8) (r 1) (r 0) (r 7) (r 6) (r 2) m) (tr (tr (seqQ (f:=fun r m=>Qgi G (Q13 G i0) (r 7) (r 6) (r 1) (r 0) (r 2) m) (tr (seqQ (f:=fun r m=>Q7s G (Q13 G i0) (r 6) (r 1) (r 0) (r 2) m) (fun r m=>by kernel_rfl)) (fun r m=>by kernel_rfl))) (blockQ (loopQ (fun i r m=>Q7t G (Q13 G i0) i (r 8) (r 1) (r 0) (r 7) (r 6) (r 2) m) (fun _ _=>rfl) (fun i1=>fun r m=>by kernel_rfl)))) (fun r m=>by kernel_rfl)))) (fun r m=>by kernel_rfl))) (fun r m=>by kernel_rfl)))) (fun r m=>by kernel_rfl))) (fun r m=>by kernel_rfl))) (blockQ (loopQ (fun i r m=>Q72 G i (r 8) (r 1) (r 0) (r 7) (r 2) (r 6) m) (fun _ _=>rfl) (fun i0=>fun r m=>by kernel_rfl)))) (fun r m=>by kernel_rfl))) (fun r m=>by kernel_rfl))) (fun r m=>by kernel_rfl)) m
def Q116:En:=⟨Qir,Tryz.f395,Tryz.func395,by kernel_rfl,arg3 (fun G a0 a1 a2 m=>Q97 G a1 a0 a2 m),okarg3 Q11h⟩
def Qb8 (G:Gt)(k0:V → V → V → V → V → M → R)(p8 p2 p1 p3 p0:V)(m:M):R:=
  bp (pur (bin .add true true .int p8 (.int .i64 1)) m) fun x0 m=>
  k0 x0 p2 p1 p3 p0 m
def Q4i (G:Gt)(k1:V → V → V → V → V → V → M → R)(k0:V → V → V → V → V → M → R)(p34 p0 p9 p1 p3 p8 p2:V)(m:M):R:=
  brb p34
  (bp (pur (bin .sub true true .int p9 (.int .i64 1)) m) fun x1 m=>
  bp (pur (bin .sub true true .int p9 (.int .i64 1)) m) fun x2 m=>
  bp (pur (aIndexAddrSl 7 p0 x2) m) fun x3 m=>
  bp (pur (aLoad true 7 x3 m) m) fun x4 m=>
  bp (pur (aIndexAddrSl 7 p0 p9) m) fun x5 m=>
  bp (pur (aLoad true 7 x5 m) m) fun x6 m=>
  bp (pur (aIndexAddrSl 7 p0 p9) m) fun x7 m=>
  bp (unt (aStore 7 x7 x4 m)) fun _ m=>
  bp (pur (aIndexAddrSl 7 p0 x1) m) fun x8 m=>
  bp (unt (aStore 7 x8 x6 m)) fun _ m=>
  bp (pur (bin .sub true true .int p9 (.int .i64 1)) m) fun x9 m=>
  k1 x9 p1 p3 p0 p8 p2 m)
  (Qb8 G k0 p8 p2 p1 p3 p0 m)
def Q1q (G:Gt)(k0:V → V → V → V → V → M → R):Nat → V → V → V → V → V → V → M → R
 | 0,_,_,_,_,_,_,_=>none
 | i + 1,p9,p1,p3,p0,p8,p2,m=>
  bp (pur (bin .gtr false true .int p9 p1) m) fun x10 m=>
  brt x10
  (bp (pur (aIndexAddrSl 7 p0 p9) m) fun x11 m=>
  bp (pur (aLoad true 7 x11 m) m) fun x12 m=>
  bp (pur (bin .sub true true .int p9 (.int .i64 1)) m) fun x13 m=>
  bp (pur (aIndexAddrSl 7 p0 x13) m) fun x14 m=>
  bp (pur (aLoad true 7 x14 m) m) fun x15 m=>
  bp (evCall G.tab p3 [x12,x15] m) fun x16 m=>
  bp (pur (bin .lss true true .int x16 (.int .i64 0)) m) fun x17 m=>
  Q4i G (Q1q G k0 i) k0 x17 p0 p9 p1 p3 p8 p2 m)
  (Q4i G (Q1q G k0 i) k0 (.bool false) p0 p9 p1 p3 p8 p2 m)
  (none)
def Qb9 (G:Gt)(k0:V → V → V → V → V → M → R)(p9 p1 p3 p0 p8 p2:V)(m:M):R:=
  Q1q G k0 G.rds p9 p1 p3 p0 p8 p2 m
def Qba (G:Gt)(k0:V → V → V → V → V → M → R)(p8 p1 p3 p0 p2:V)(m:M):R:=
  Qb9 G k0 p8 p1 p3 p0 p8 p2 m
def Qg (G:Gt):Nat → V → V → V → V → V → M → R
 | 0,_,_,_,_,_,_=>none
 | i + 1,p8,p2,p1,p3,p0,m=>
  bp (pur (bin .lss false true .int p8 p2) m) fun x18 m=>
  brb x18
  (Qba G (Qg G i) p8 p1 p3 p0 p2 m)
  (some (.tuple ⟨[]⟩,m))
def Qbb (G:Gt)(p8 p2 p1 p3 p0:V)(m:M):R:=
  Qg G G.rds p8 p2 p1 p3 p0 m
def Q5f (G:Gt)(p1 p2 p3 p0:V)(m:M):R:=
  bp (pur (bin .add true true .int p1 (.int .i64 1)) m) fun x19 m=>
  Qbb G x19 p2 p1 p3 p0 m
theorem Qqu (G:Gt)(a0 a1 a2 a3:V)(m:M):ef G Tryz.f396 [a0,a1,a2,a3] m = Q5f G a1 a2 a3 a0 m:=
  evFn_of (r:=fun r m=>Q5f G (r 1) (r 2) (r 3) (r 0) m) rfl rfl (tr (seqQ (f:=fun r m=>Qbb G (r 8) (r 2) (r 1) (r 3) (r 0) m) (tr (blockQ (loopQ (fun i r m=>Qg G i (r 8) (r 2) (r 1) (r 3) (r 0) m) (fun _ _=>rfl) (fun i0=>tr (seqQ (f:=fun r m=>Qba G (Qg G i0) (r 8) (r 1) (r 3) (r 0) (r 2) m) (tr (tr (seqQ (f:=fun r m=>Qb8 G (Qg G i0) (r 8) (r 2) (r 1) (r 3) (r 0) m) (fun r m=>by kernel_rfl)) (blockQ (seqQ (f:=fun r m=>Qb9 G (Qg G i0) (r 9) (r 1) (r 3) (r 0) (r 8) (r 2) m) (tr (blockQ (loopQ (fun i r m=>Q1q G (Qg G i0) i (r 9) (r 1) (r 3) (r 0) (r 8) (r 2) m) (fun _ _=>rfl) (fun i1=>tr (tr seqD (seqQ (f:=fun r m=>Q4i G (Q1q G (Qg G i0) i1) (Qg G i0) (r 34) (r 0) (r 9) (r 1) (r 3) (r 8) (r 2) m) (fun r m=>by kernel_rfl))) (fun r m=>by kernel_rfl)))) (fun r m=>by kernel_rfl))))) (fun r m=>by kernel_rfl))) (fun r m=>by kernel_rfl)))) (fun r m=>by kernel_rfl))) (fun r m=>by kernel_rfl)) m
def Qqo:En:=⟨Q5g,Tryz.f396,Tryz.func396,by kernel_rfl,arg4 (fun G a0 a1 a2 a3 m=>Q5f G a1 a2 a3 a0 m),okarg4 Qqu⟩
def Qps (G:Gt)(p0:V)(m:M):R:=
  bp (pur (bin .neq false true .int p0 p0) m) fun x0 m=>
  some (x0,m)
theorem Q1ly (G:Gt)(a0:V)(m:M):ef G Tryz.f398 [a0] m = Qps G a0 m:=
  evFn_of (r:=fun r m=>Qps G (r 0) m) rfl rfl (fun r m=>by kernel_rfl) m
def Q1lu:En:=⟨Qpt,Tryz.f398,Tryz.func398,by kernel_rfl,arg1 Qps,okarg1 Q1ly⟩
def Qbc (G:Gt)(k0:V → V → V → V → V → M → R)(p8 p2 p1 p3 p0:V)(m:M):R:=
  bp (pur (bin .add true true .int p8 (.int .i64 1)) m) fun x0 m=>
  k0 x0 p2 p1 p3 p0 m
def Q4j (G:Gt)(k1:V → V → V → V → V → V → M → R)(k0:V → V → V → V → V → M → R)(p34 p0 p9 p1 p3 p8 p2:V)(m:M):R:=
  brb p34
  (bp (pur (bin .sub true true .int p9 (.int .i64 1)) m) fun x1 m=>
  bp (pur (bin .sub true true .int p9 (.int .i64 1)) m) fun x2 m=>
  bp (pur (aIndexAddrSl 12 p0 x2) m) fun x3 m=>
  bp (pur (aLoad true 12 x3 m) m) fun x4 m=>
  bp (pur (aIndexAddrSl 12 p0 p9) m) fun x5 m=>
  bp (pur (aLoad true 12 x5 m) m) fun x6 m=>
  bp (pur (aIndexAddrSl 12 p0 p9) m) fun x7 m=>
  bp (unt (aStore 12 x7 x4 m)) fun _ m=>
  bp (pur (aIndexAddrSl 12 p0 x1) m) fun x8 m=>
  bp (unt (aStore 12 x8 x6 m)) fun _ m=>
  bp (pur (bin .sub true true .int p9 (.int .i64 1)) m) fun x9 m=>
  k1 x9 p1 p3 p0 p8 p2 m)
  (Qbc G k0 p8 p2 p1 p3 p0 m)
def Q1r (G:Gt)(k0:V → V → V → V → V → M → R):Nat → V → V → V → V → V → V → M → R
 | 0,_,_,_,_,_,_,_=>none
 | i + 1,p9,p1,p3,p0,p8,p2,m=>
  bp (pur (bin .gtr false true .int p9 p1) m) fun x10 m=>
  brt x10
  (bp (pur (aIndexAddrSl 12 p0 p9) m) fun x11 m=>
  bp (pur (aLoad true 12 x11 m) m) fun x12 m=>
  bp (pur (bin .sub true true .int p9 (.int .i64 1)) m) fun x13 m=>
  bp (pur (aIndexAddrSl 12 p0 x13) m) fun x14 m=>
  bp (pur (aLoad true 12 x14 m) m) fun x15 m=>
  bp (evCall G.tab p3 [x12,x15] m) fun x16 m=>
  bp (pur (bin .lss true true .int x16 (.int .i64 0)) m) fun x17 m=>
  Q4j G (Q1r G k0 i) k0 x17 p0 p9 p1 p3 p8 p2 m)
  (Q4j G (Q1r G k0 i) k0 (.bool false) p0 p9 p1 p3 p8 p2 m)
  (none)
def Qbd (G:Gt)(k0:V → V → V → V → V → M → R)(p9 p1 p3 p0 p8 p2:V)(m:M):R:=
  Q1r G k0 G.rds p9 p1 p3 p0 p8 p2 m
def Qbe (G:Gt)(k0:V → V → V → V → V → M → R)(p8 p1 p3 p0 p2:V)(m:M):R:=
  Qbd G k0 p8 p1 p3 p0 p8 p2 m
def Qh (G:Gt):Nat → V → V → V → V → V → M → R
 | 0,_,_,_,_,_,_=>none
 | i + 1,p8,p2,p1,p3,p0,m=>
  bp (pur (bin .lss false true .int p8 p2) m) fun x18 m=>
  brb x18
  (Qbe G (Qh G i) p8 p1 p3 p0 p2 m)
  (some (.tuple ⟨[]⟩,m))
def Qbf (G:Gt)(p8 p2 p1 p3 p0:V)(m:M):R:=
  Qh G G.rds p8 p2 p1 p3 p0 m
def Q5h (G:Gt)(p1 p2 p3 p0:V)(m:M):R:=
  bp (pur (bin .add true true .int p1 (.int .i64 1)) m) fun x19 m=>
  Qbf G x19 p2 p1 p3 p0 m
theorem Qqv (G:Gt)(a0 a1 a2 a3:V)(m:M):ef G Tryz.f399 [a0,a1,a2,a3] m = Q5h G a1 a2 a3 a0 m:=
  evFn_of (r:=fun r m=>Q5h G (r 1) (r 2) (r 3) (r 0) m) rfl rfl (tr (seqQ (f:=fun r m=>Qbf G (r 8) (r 2) (r 1) (r 3) (r 0) m) (tr (blockQ (loopQ (fun i r m=>Qh G i (r 8) (r 2) (r 1) (r 3) (r 0) m) (fun _ _=>rfl) (fun i0=>tr (seqQ (f:=fun r m=>Qbe G (Qh G i0) (r 8) (r 1) (r 3) (r 0) (r 2) m) (tr (tr (seqQ (f:=fun r m=>Qbc G (Qh G i0) (r 8) (r 2) (r 1) (r 3) (r 0) m) (fun r m=>by kernel_rfl)) (blockQ (seqQ (f:=fun r m=>Qbd G (Qh G i0) (r 9) (r 1) (r 3) (r 0) (r 8) (r 2) m) (tr (blockQ (loopQ (fun i r m=>Q1r G (Qh G i0) i (r 9) (r 1) (r 3) (r 0) (r 8) (r 2) m) (fun _ _=>rfl) (fun i1=>tr (tr seqD (seqQ (f:=fun r m=>Q4j G (Q1r G (Qh G i0) i1) (Qh G i0) (r 34) (r 0) (r 9) (r 1) (r 3) (r 8) (r 2) m) (fun r m=>by kernel_rfl))) (fun r m=>by kernel_rfl)))) (fun r m=>by kernel_rfl))))) (fun r m=>by kernel_rfl))) (fun r m=>by kernel_rfl)))) (fun r m=>by kernel_rfl))) (fun r m=>by kernel_rfl)) m
def Qqk:En:=⟨Q5i,Tryz.f399,Tryz.func399,by kernel_rfl,arg4 (fun G a0 a1 a2 a3 m=>Q5h G a1 a2 a3 a0 m),okarg4 Qqv⟩
def Qbg (G:Gt)(k0:V → V → V → V → V → M → R)(p8 p2 p1 p3 p0:V)(m:M):R:=
  bp (pur (bin .add true true .int p8 (.int .i64 1)) m) fun x0 m=>
  k0 x0 p2 p1 p3 p0 m
def Q4k (G:Gt)(k1:V → V → V → V → V → V → M → R)(k0:V → V → V → V → V → M → R)(p34 p0 p9 p1 p3 p8 p2:V)(m:M):R:=
  brb p34
  (bp (pur (bin .sub true true .int p9 (.int .i64 1)) m) fun x1 m=>
  bp (pur (bin .sub true true .int p9 (.int .i64 1)) m) fun x2 m=>
  bp (pur (aIndexAddrSl 2 p0 x2) m) fun x3 m=>
  bp (pur (aLoad true 2 x3 m) m) fun x4 m=>
  bp (pur (aIndexAddrSl 2 p0 p9) m) fun x5 m=>
  bp (pur (aLoad true 2 x5 m) m) fun x6 m=>
  bp (pur (aIndexAddrSl 2 p0 p9) m) fun x7 m=>
  bp (unt (aStore 2 x7 x4 m)) fun _ m=>
  bp (pur (aIndexAddrSl 2 p0 x1) m) fun x8 m=>
  bp (unt (aStore 2 x8 x6 m)) fun _ m=>
  bp (pur (bin .sub true true .int p9 (.int .i64 1)) m) fun x9 m=>
  k1 x9 p1 p3 p0 p8 p2 m)
  (Qbg G k0 p8 p2 p1 p3 p0 m)
def Q1s (G:Gt)(k0:V → V → V → V → V → M → R):Nat → V → V → V → V → V → V → M → R
 | 0,_,_,_,_,_,_,_=>none
 | i + 1,p9,p1,p3,p0,p8,p2,m=>
  bp (pur (bin .gtr false true .int p9 p1) m) fun x10 m=>
  brt x10
  (bp (pur (aIndexAddrSl 2 p0 p9) m) fun x11 m=>
  bp (pur (aLoad true 2 x11 m) m) fun x12 m=>
  bp (pur (bin .sub true true .int p9 (.int .i64 1)) m) fun x13 m=>
  bp (pur (aIndexAddrSl 2 p0 x13) m) fun x14 m=>
  bp (pur (aLoad true 2 x14 m) m) fun x15 m=>
  bp (evCall G.tab p3 [x12,x15] m) fun x16 m=>
  bp (pur (bin .lss true true .int x16 (.int .i64 0)) m) fun x17 m=>
  Q4k G (Q1s G k0 i) k0 x17 p0 p9 p1 p3 p8 p2 m)
  (Q4k G (Q1s G k0 i) k0 (.bool false) p0 p9 p1 p3 p8 p2 m)
  (none)
def Qbh (G:Gt)(k0:V → V → V → V → V → M → R)(p9 p1 p3 p0 p8 p2:V)(m:M):R:=
  Q1s G k0 G.rds p9 p1 p3 p0 p8 p2 m
def Qbi (G:Gt)(k0:V → V → V → V → V → M → R)(p8 p1 p3 p0 p2:V)(m:M):R:=
  Qbh G k0 p8 p1 p3 p0 p8 p2 m
def Qi (G:Gt):Nat → V → V → V → V → V → M → R
 | 0,_,_,_,_,_,_=>none
 | i + 1,p8,p2,p1,p3,p0,m=>
  bp (pur (bin .lss false true .int p8 p2) m) fun x18 m=>
  brb x18
  (Qbi G (Qi G i) p8 p1 p3 p0 p2 m)
  (some (.tuple ⟨[]⟩,m))
def Qbj (G:Gt)(p8 p2 p1 p3 p0:V)(m:M):R:=
  Qi G G.rds p8 p2 p1 p3 p0 m
def Q5j (G:Gt)(p1 p2 p3 p0:V)(m:M):R:=
  bp (pur (bin .add true true .int p1 (.int .i64 1)) m) fun x19 m=>
  Qbj G x19 p2 p1 p3 p0 m
theorem Qqw (G:Gt)(a0 a1 a2 a3:V)(m:M):ef G Tryz.f402 [a0,a1,a2,a3] m = Q5j G a1 a2 a3 a0 m:=
  evFn_of (r:=fun r m=>Q5j G (r 1) (r 2) (r 3) (r 0) m) rfl rfl (tr (seqQ (f:=fun r m=>Qbj G (r 8) (r 2) (r 1) (r 3) (r 0) m) (tr (blockQ (loopQ (fun i r m=>Qi G i (r 8) (r 2) (r 1) (r 3) (r 0) m) (fun _ _=>rfl) (fun i0=>tr (seqQ (f:=fun r m=>Qbi G (Qi G i0) (r 8) (r 1) (r 3) (r 0) (r 2) m) (tr (tr (seqQ (f:=fun r m=>Qbg G (Qi G i0) (r 8) (r 2) (r 1) (r 3) (r 0) m) (fun r m=>by kernel_rfl)) (blockQ (seqQ (f:=fun r m=>Qbh G (Qi G i0) (r 9) (r 1) (r 3) (r 0) (r 8) (r 2) m) (tr (blockQ (loopQ (fun i r m=>Q1s G (Qi G i0) i (r 9) (r 1) (r 3) (r 0) (r 8) (r 2) m) (fun _ _=>rfl) (fun i1=>tr (tr seqD (seqQ (f:=fun r m=>Q4k G (Q1s G (Qi G i0) i1) (Qi G i0) (r 34) (r 0) (r 9) (r 1) (r 3) (r 8) (r 2) m) (fun r m=>by kernel_rfl))) (fun r m=>by kernel_rfl)))) (fun r m=>by kernel_rfl))))) (fun r m=>by kernel_rfl))) (fun r m=>by kernel_rfl)))) (fun r m=>by kernel_rfl))) (fun r m=>by kernel_rfl)) m
def Qqp:En:=⟨Qd8,Tryz.f402,Tryz.func402,by kernel_rfl,arg4 (fun G a0 a1 a2 a3 m=>Q5j G a1 a2 a3 a0 m),okarg4 Qqw⟩
def Qmm (G:Gt)(m:M):R:=
  bp (some (aMakeMap m)) fun x0 m=>
  bp (pur (aBuild Q1gl [(0,1),(1,33)] [(0,x0)]) m) fun x1 m=>
  bp (some (aNew Q1gm (Value.cells x1).toList m)) fun x2 m=>
  some (x2,m)
theorem Q1j5 (G:Gt)(m:M):ef G Tryz.f410 [] m = Qmm G m:=
  evFn_of (r:=fun r m=>Qmm G m) rfl rfl (fun r m=>by kernel_rfl) m
def Q1j2:En:=⟨Q105,Tryz.f410,Tryz.func410,by kernel_rfl,arg0 (fun G  m=>Qmm G m),okarg0 Q1j5⟩
def Qet (G:Gt)(p1 p0:V)(m:M):R:=
  bp (some (aNew Q1x (Value.cells p1).toList m)) fun x0 m=>
  bp (pur (binP m .eql true true .ptr p0 (.pointer none)) m) fun x1 m=>
  brb x1
  (some (.tuple ⟨[(.slice none 0 0),(.bool false)]⟩,m))
  (bp (pur (aNilCheck p0) m) fun x2 m=>
  bp (pur (aFieldAddr 0 x2) m) fun x3 m=>
  bp (pur (aLoad false 1 x3 m) m) fun x4 m=>
  bp (pur (aLoad true 2 x0 m) m) fun x5 m=>
  bp (pur (aLookup (.struct [(0,1,false,.int),(1,1,false,.int)]) (.slice none 0 0) true x4 x5 m) m) fun x6 m=>
  bp (pur (aExtract x6 0) m) fun x7 m=>
  bp (pur (aExtract x6 1) m) fun x8 m=>
  some (.tuple ⟨[x7,x8]⟩,m))
theorem Q1a2 (G:Gt)(a0 a1:V)(m:M):ef G Tryz.f411 [a0,a1] m = Qet G a1 a0 m:=
  evFn_of (r:=fun r m=>Qet G (r 1) (r 0) m) rfl rfl (fun r m=>by kernel_rfl) m
def Q1a0:En:=⟨Qop,Tryz.f411,Tryz.func411,by kernel_rfl,arg2 (fun G a0 a1 m=>Qet G a1 a0 m),okarg2 Q1a2⟩
end
end Go.Ab.Sh

set_option linter.unusedVariables false
set_option maxRecDepth 100000
namespace Go.Ab.Sh
open Go Go.Ab Go.Proofs
noncomputable section
def Qc6 (G:Gt)(p0 p4 p2:V)(m:M):R:=
  bp (pur (aNilCheck p0) m) fun x0 m=>
  bp (pur (aFieldAddr 0 x0) m) fun x1 m=>
  bp (pur (aLoad false 1 x1 m) m) fun x2 m=>
  bp (pur (aLoad true 2 p4 m) m) fun x3 m=>
  bp (unt (aMapUpdate (.struct [(0,1,false,.int),(1,1,false,.int)]) x2 x3 p2 m)) fun _ m=>
  some ((.int .i64 0),m)
def Qla (G:Gt)(p0 p4 p2:V)(m:M):R:=
  bp (pur (aNilCheck p0) m) fun x4 m=>
  bp (pur (aFieldAddr 0 x4) m) fun x5 m=>
  bp (pur (aLoad false 1 x5 m) m) fun x6 m=>
  bp (pur (aLoad true 2 p4 m) m) fun x7 m=>
  bp (pur (aLookup (.struct [(0,1,false,.int),(1,1,false,.int)]) (.slice none 0 0) true x6 x7 m) m) fun x8 m=>
  bp (pur (aExtract x8 0) m) fun x9 m=>
  bp (pur (aExtract x8 1) m) fun x10 m=>
  bp (pur (un .not x10) m) fun x11 m=>
  brb x11
  (bp (pur (aFieldAddr 1 p4) m) fun x12 m=>
  bp (pur (aLoad false 1 x12 m) m) fun x13 m=>
  bp (pur (aNilCheck p0) m) fun x14 m=>
  bp (pur (aFieldAddr 1 x14) m) fun x15 m=>
  bp (pur (aIndexAddrArr 33 1 x15 x13) m) fun x16 m=>
  bp (pur (aLoad false 1 x16 m) m) fun x17 m=>
  bp (pur (bin .add true true .int x17 (.int .i64 1)) m) fun x18 m=>
  bp (pur (aNilCheck p0) m) fun x19 m=>
  bp (pur (aFieldAddr 1 x19) m) fun x20 m=>
  bp (pur (aIndexAddrArr 33 1 x20 x13) m) fun x21 m=>
  bp (unt (aStore 1 x21 x18 m)) fun _ m=>
  Qc6 G p0 p4 p2 m)
  (Qc6 G p0 p4 p2 m)
def Qlb (G:Gt)(p4 p0 p2:V)(m:M):R:=
  bp (pur (aLoad true 2 p4 m) m) fun x22 m=>
  bp (G.tab Qxg [x22] m) fun x23 m=>
  bp (pur (bin .neq true true .int x23 (.int .i64 0)) m) fun x24 m=>
  brb x24
  (some (x23,m))
  (Qla G p0 p4 p2 m)
def Qlc (G:Gt)(p0 p4 p2:V)(m:M):R:=
  bp (pur (binP m .eql true true .ptr p0 (.pointer none)) m) fun x25 m=>
  brb x25
  (some ((.int .i64 2),m))
  (Qlb G p4 p0 p2 m)
def Qdx (G:Gt)(p1 p0 p2:V)(m:M):R:=
  bp (some (aNew Q1x (Value.cells p1).toList m)) fun x26 m=>
  Qlc G p0 x26 p2 m
theorem Q18n (G:Gt)(a0 a1 a2:V)(m:M):ef G Tryz.f412 [a0,a1,a2] m = Qdx G a1 a0 a2 m:=
  evFn_of (r:=fun r m=>Qdx G (r 1) (r 0) (r 2) m) rfl rfl (tr (seqQ (f:=fun r m=>Qlc G (r 0) (r 4) (r 2) m) (tr (seqQ (f:=fun r m=>Qlb G (r 4) (r 0) (r 2) m) (tr (seqQ (f:=fun r m=>Qla G (r 0) (r 4) (r 2) m) (tr (seqQ (f:=fun r m=>Qc6 G (r 0) (r 4) (r 2) m) (fun r m=>by kernel_rfl)) (fun r m=>by kernel_rfl))) (fun r m=>by kernel_rfl))) (fun r m=>by kernel_rfl))) (fun r m=>by kernel_rfl)) m
def Q17x:En:=⟨Qnk,Tryz.f412,Tryz.func412,by kernel_rfl,arg3 (fun G a0 a1 a2 m=>Qdx G a1 a0 a2 m),okarg3 Q18n⟩
def Q7u (G:Gt)(p0:V)(m:M):R:=
  bp (pur (lenK 1 p0 m) m) fun x0 m=>
  bp (pur (lenK 1 p0 m) m) fun x1 m=>
  bp (pur (aSliceSl3 9 p0 none x0 x1) m) fun x2 m=>
  some (x2,m)
theorem Qy8 (G:Gt)(a0:V)(m:M):ef G Tryz.f413 [a0] m = Q7u G a0 m:=
  evFn_of (r:=fun r m=>Q7u G (r 0) m) rfl rfl (fun r m=>by kernel_rfl) m
def Qxd:En:=⟨Qgq,Tryz.f413,Tryz.func413,by kernel_rfl,arg1 Q7u,okarg1 Qy8⟩
def Q98 (G:Gt)(p0 p1:V)(m:M):R:=
  bp (some (aNew Q1x Q2d m)) fun x0 m=>
  bp (G.tab Qma [p0,p1] m) fun x1 m=>
  bp (pur (lenK 1 x1 m) m) fun x2 m=>
  bp (pur (bin .eql true true .int x2 (.int .i64 0)) m) fun x3 m=>
  brb x3
  (bp (pur (aLoad true 2 x0 m) m) fun x4 m=>
  bp (unt (aStore 2 x0 x4 m)) fun _ m=>
  ob (ob (aLoad true 2 x0 m) fun v=>ob (some [(.slice none 0 0),(.bool false)]) fun l=>some (v :: l)) fun l=>some (resVal l,m))
  (bp (pur (lenK 1 x1 m) m) fun x5 m=>
  bp (pur (bin .sub true true .int x5 (.int .i64 1)) m) fun x6 m=>
  bp (pur (aIndexAddrSl 2 x1 x6) m) fun x7 m=>
  bp (pur (aLoad true 2 x7 m) m) fun x8 m=>
  bp (unt (aStore 2 x0 x8 m)) fun _ m=>
  bp (pur (aLoad true 2 x0 m) m) fun x9 m=>
  bp (pur (aNilCheck p0) m) fun x10 m=>
  bp (pur (aFieldAddr 0 x10) m) fun x11 m=>
  bp (pur (aLoad false 1 x11 m) m) fun x12 m=>
  bp (pur (aLoad true 2 x0 m) m) fun x13 m=>
  bp (pur (aLookup (.struct [(0,1,false,.int),(1,1,false,.int)]) (.slice none 0 0) false x12 x13 m) m) fun x14 m=>
  bp (unt (aStore 2 x0 x9 m)) fun _ m=>
  ckB (again (pur (aLoad false 1 x11 m) m) x12 && (again (pur (aLookup (.struct [(0,1,false,.int),(1,1,false,.int)]) (.slice none 0 0) false x12 x13 m) m) x14 && true))
  (ob (ob (aLoad true 2 x0 m) fun v=>ob (some [x14,(.bool true)]) fun l=>some (v :: l)) fun l=>some (resVal l,m)))
theorem Q11i (G:Gt)(a0 a1:V)(m:M):ef G Tryz.f414 [a0,a1] m = Q98 G a0 a1 m:=
  evFn_of (r:=fun r m=>Q98 G (r 0) (r 1) m) rfl rfl (fun r m=>by kernel_rfl) m
def Q11c:En:=⟨Qis,Tryz.f414,Tryz.func414,by kernel_rfl,arg2 Q98,okarg2 Q11i⟩
def Q1er (G:Gt)(p0:V)(m:M):R:=
  bp (G.tab Qfj [p0] m) fun x0 m=>
  bp (G.tab Qdy [x0,(.func (.func Q227) #[] #[])] m) fun x1 m=>
  bp (G.tab Qej [x0] m) fun x2 m=>
  some (x2,m)
theorem Q20t (G:Gt)(a0:V)(m:M):ef G Tryz.f415 [a0] m = Q1er G a0 m:=
  evFn_of (r:=fun r m=>Q1er G (r 0) m) rfl rfl (fun r m=>by kernel_rfl) m
def Q20e:En:=⟨Q1p4,Tryz.f415,Tryz.func415,by kernel_rfl,arg1 Q1er,okarg1 Q20t⟩
def Q8u (G:Gt)(k0:V → V → V → V → V → V → V → M → R)(p97 p0 p1 p2 p13 p4 p3 p10 p11 p12:V)(m:M):R:=
  brb p97
  (bp (G.tab Qtp [p0,p1,p2,p13,p4] m) fun x0 m=>
  k0 p2 x0 p0 p4 p3 p10 p11 m)
  (bp (G.tab Q11j [p0,p1,p2,p13,p4] m) fun x1 m=>
  bp (pur (aExtract x1 0) m) fun x2 m=>
  bp (pur (aExtract x1 1) m) fun x3 m=>
  bp (pur (bin .sub false true .int x2 p1) m) fun x4 m=>
  bp (pur (bin .sub false true .int p2 x2) m) fun x5 m=>
  bp (pur (bin .quo true true .int p12 (.int .i64 8)) m) fun x6 m=>
  bp (pur (bin .lss false true .int x4 x5) m) fun x7 m=>
  brb x7
  (bp (pur (bin .geq false true .int x4 x6) m) fun x8 m=>
  bp (G.tab Q5y [p0,p1,x2,p3,p4] m) fun x9 m=>
  bp (pur (bin .add true true .int x2 (.int .i64 1)) m) fun x10 m=>
  k0 p2 x10 p0 p4 p3 x8 x3 m)
  (bp (pur (bin .geq false true .int x5 x6) m) fun x11 m=>
  bp (pur (bin .add true true .int x2 (.int .i64 1)) m) fun x12 m=>
  bp (G.tab Q5y [p0,x12,p2,p3,p4] m) fun x13 m=>
  k0 x2 p1 p0 p4 p3 x11 x3 m))
def Q99 (G:Gt)(k0:V → V → V → V → V → V → V → M → R)(p1 p4 p0 p13 p2 p3 p10 p11 p12:V)(m:M):R:=
  bp (pur (bin .gtr true true .int p1 (.int .i64 0)) m) fun x14 m=>
  brt x14
  (bp (pur (bin .sub true true .int p1 (.int .i64 1)) m) fun x15 m=>
  bp (pur (aIndexAddrSl 2 p0 x15) m) fun x16 m=>
  bp (pur (aLoad true 2 x16 m) m) fun x17 m=>
  bp (pur (aIndexAddrSl 2 p0 p13) m) fun x18 m=>
  bp (pur (aLoad true 2 x18 m) m) fun x19 m=>
  bp (evCall G.tab p4 [x17,x19] m) fun x20 m=>
  bp (pur (bin .lss true true .int x20 (.int .i64 0)) m) fun x21 m=>
  bp (pur (un .not x21) m) fun x22 m=>
  Q8u G k0 x22 p0 p1 p2 p13 p4 p3 p10 p11 p12 m)
  (Q8u G k0 (.bool false) p0 p1 p2 p13 p4 p3 p10 p11 p12 m)
  (none)
def Q4b (G:Gt)(k0:V → V → V → V → V → V → V → M → R)(p75 p0 p1 p2 p4 p13 p3 p10 p11 p12:V)(m:M):R:=
  brb p75
  (bp (G.tab Qnl [p0,p1,p2,p4] m) fun x23 m=>
  brb x23
  (some (.tuple ⟨[]⟩,m))
  (Q99 G k0 p1 p4 p0 p13 p2 p3 p10 p11 p12 m))
  (Q99 G k0 p1 p4 p0 p13 p2 p3 p10 p11 p12 m)
def Q9a (G:Gt)(k0:V → V → V → V → V → V → V → M → R)(p10 p11 p14 p0 p1 p2 p4 p13 p3 p12:V)(m:M):R:=
  brb p10
  (brb p11
  (bp (pur (bin .eql true true .int p14 (.int .i64 1)) m) fun x24 m=>
  Q4b G k0 x24 p0 p1 p2 p4 p13 p3 p10 p11 p12 m)
  (Q4b G k0 (.bool false) p0 p1 p2 p4 p13 p3 p10 p11 p12 m))
  (Q4b G k0 (.bool false) p0 p1 p2 p4 p13 p3 p10 p11 p12 m)
def Qit (G:Gt)(k0:V → V → V → V → V → V → V → M → R)(p14 p0 p1 p2 p4 p13 p10 p11 p3 p12:V)(m:M):R:=
  bp (pur (bin .eql true true .int p14 (.int .i64 2)) m) fun x25 m=>
  brb x25
  (bp (G.tab Qx1 [p0,p1,p2,p4] m) fun x26 m=>
  bp (pur (bin .sub true true .int p2 (.int .i64 1)) m) fun x27 m=>
  bp (pur (bin .sub false true .int p13 p1) m) fun x28 m=>
  bp (pur (bin .sub false true .int x27 x28) m) fun x29 m=>
  Q9a G k0 p10 p11 (.int .i64 1) p0 p1 p2 p4 x29 p3 p12 m)
  (Q9a G k0 p10 p11 p14 p0 p1 p2 p4 p13 p3 p12 m)
def Q9b (G:Gt)(k0:V → V → V → V → V → V → V → M → R)(p0 p1 p2 p4 p10 p11 p3 p12:V)(m:M):R:=
  bp (G.tab Qy9 [p0,p1,p2,p4] m) fun x30 m=>
  bp (pur (aExtract x30 0) m) fun x31 m=>
  bp (pur (aExtract x30 1) m) fun x32 m=>
  Qit G k0 x32 p0 p1 p2 p4 x31 p10 p11 p3 p12 m
def Qiu (G:Gt)(k0:V → V → V → V → V → V → V → M → R)(p10 p0 p1 p2 p4 p3 p11 p12:V)(m:M):R:=
  bp (pur (un .not p10) m) fun x33 m=>
  brb x33
  (bp (G.tab Quu [p0,p1,p2,p4] m) fun x34 m=>
  bp (pur (bin .sub true true .int p3 (.int .i64 1)) m) fun x35 m=>
  Q9b G k0 p0 p1 p2 p4 p10 p11 x35 p12 m)
  (Q9b G k0 p0 p1 p2 p4 p10 p11 p3 p12 m)
def Qiv (G:Gt)(k0:V → V → V → V → V → V → V → M → R)(p3 p0 p1 p2 p4 p10 p11 p12:V)(m:M):R:=
  bp (pur (bin .eql true true .int p3 (.int .i64 0)) m) fun x36 m=>
  brb x36
  (bp (G.tab Q12n [p0,p1,p2,p4] m) fun x37 m=>
  some (.tuple ⟨[]⟩,m))
  (Qiu G k0 p10 p0 p1 p2 p4 p3 p11 p12 m)
def Qiw (G:Gt)(k0:V → V → V → V → V → V → V → M → R)(p12 p0 p1 p2 p4 p3 p10 p11:V)(m:M):R:=
  bp (pur (bin .leq true true .int p12 (.int .i64 12)) m) fun x38 m=>
  brb x38
  (bp (G.tab Qex [p0,p1,p2,p4] m) fun x39 m=>
  some (.tuple ⟨[]⟩,m))
  (Qiv G k0 p3 p0 p1 p2 p4 p10 p11 p12 m)
def Qd (G:Gt):Nat → V → V → V → V → V → V → V → M → R
 | 0,_,_,_,_,_,_,_,_=>none
 | i + 1,p2,p1,p0,p4,p3,p10,p11,m=>
  bp (pur (bin .sub false true .int p2 p1) m) fun x40 m=>
  Qiw G (Qd G i) x40 p0 p1 p2 p4 p3 p10 p11 m
def Qix (G:Gt)(p2 p1 p0 p4 p3 p10 p11:V)(m:M):R:=
  Qd G G.rds p2 p1 p0 p4 p3 p10 p11 m
def Qiy (G:Gt)(p2 p1 p0 p4 p3 p10:V)(m:M):R:=
  Qix G p2 p1 p0 p4 p3 p10 (.bool true) m
def Qc7 (G:Gt)(p2 p1 p0 p4 p3:V)(m:M):R:=
  Qiy G p2 p1 p0 p4 p3 (.bool true) m
theorem Q157 (G:Gt)(a0 a1 a2 a3 a4:V)(m:M):ef G Tryz.f416 [a0,a1,a2,a3,a4] m = Qc7 G a2 a1 a0 a4 a3 m:=
  evFn_of (r:=fun r m=>Qc7 G (r 2) (r 1) (r 0) (r 4) (r 3) m) rfl rfl (tr (seqQ (f:=fun r m=>Qiy G (r 2) (r 1) (r 0) (r 4) (r 3) (r 10) m) (tr (seqQ (f:=fun r m=>Qix G (r 2) (r 1) (r 0) (r 4) (r 3) (r 10) (r 11) m) (tr (blockQ (loopQ (fun i r m=>Qd G i (r 2) (r 1) (r 0) (r 4) (r 3) (r 10) (r 11) m) (fun _ _=>rfl) (fun i0=>tr (blockQ (seqQ (f:=fun r m=>Qiw G (Qd G i0) (r 12) (r 0) (r 1) (r 2) (r 4) (r 3) (r 10) (r 11) m) (tr (seqQ (f:=fun r m=>Qiv G (Qd G i0) (r 3) (r 0) (r 1) (r 2) (r 4) (r 10) (r 11) (r 12) m) (tr (seqQ (f:=fun r m=>Qiu G (Qd G i0) (r 10) (r 0) (r 1) (r 2) (r 4) (r 3) (r 11) (r 12) m) (tr (seqQ (f:=fun r m=>Q9b G (Qd G i0) (r 0) (r 1) (r 2) (r 4) (r 10) (r 11) (r 3) (r 12) m) (tr (seqQ (f:=fun r m=>Qit G (Qd G i0) (r 14) (r 0) (r 1) (r 2) (r 4) (r 13) (r 10) (r 11) (r 3) (r 12) m) (tr (seqQ (f:=fun r m=>Q9a G (Qd G i0) (r 10) (r 11) (r 14) (r 0) (r 1) (r 2) (r 4) (r 13) (r 3) (r 12) m) (tr (tr (seqQ (f:=fun r m=>Q99 G (Qd G i0) (r 1) (r 4) (r 0) (r 13) (r 2) (r 3) (r 10) (r 11) (r 12) m) (tr (tr seqD (seqQ (f:=fun r m=>Q8u G (Qd G i0) (r 97) (r 0) (r 1) (r 2) (r 13) (r 4) (r 3) (r 10) (r 11) (r 12) m) (fun r m=>by kernel_rfl))) (fun r m=>by kernel_rfl))) (seqQ (f:=fun r m=>Q4b G (Qd G i0) (r 75) (r 0) (r 1) (r 2) (r 4) (r 13) (r 3) (r 10) (r 11) (r 12) m) (fun r m=>by kernel_rfl))) (fun r m=>by kernel_rfl))) (fun r m=>by kernel_rfl))) (fun r m=>by kernel_rfl))) (fun r m=>by kernel_rfl))) (fun r m=>by kernel_rfl))) (fun r m=>by kernel_rfl)))) (fun r m=>by kernel_rfl)))) (fun r m=>by kernel_rfl))) (fun r m=>by kernel_rfl))) (fun r m=>by kernel_rfl)) m
def Q14u:En:=⟨Q5y,Tryz.f416,Tryz.func416,by kernel_rfl,arg5 (fun G a0 a1 a2 a3 a4 m=>Qc7 G a2 a1 a0 a4 a3 m),okarg5 Q157⟩
def Qgr (G:Gt)(k0:V → V → V → V → M → R)(p6 p2 p1 p0:V)(m:M):R:=
  bp (pur (bin .add true true .int p6 (.int .i64 1)) m) fun x0 m=>
  k0 x0 p2 p1 p0 m
def Q7v (G:Gt)(k1:V → V → V → V → V → M → R)(k0:V → V → V → V → M → R)(p30 p0 p7 p1 p6 p2:V)(m:M):R:=
  brb p30
  (bp (pur (bin .sub true true .int p7 (.int .i64 1)) m) fun x1 m=>
  bp (pur (bin .sub true true .int p7 (.int .i64 1)) m) fun x2 m=>
  bp (pur (aIndexAddrSl 1 p0 x2) m) fun x3 m=>
  bp (pur (aLoad false 1 x3 m) m) fun x4 m=>
  bp (pur (aIndexAddrSl 1 p0 p7) m) fun x5 m=>
  bp (pur (aLoad false 1 x5 m) m) fun x6 m=>
  bp (pur (aIndexAddrSl 1 p0 p7) m) fun x7 m=>
  bp (unt (aStore 1 x7 x4 m)) fun _ m=>
  bp (pur (aIndexAddrSl 1 p0 x1) m) fun x8 m=>
  bp (unt (aStore 1 x8 x6 m)) fun _ m=>
  bp (pur (bin .sub true true .int p7 (.int .i64 1)) m) fun x9 m=>
  k1 x9 p1 p0 p6 p2 m)
  (Qgr G k0 p6 p2 p1 p0 m)
def Q2m (G:Gt)(k0:V → V → V → V → M → R):Nat → V → V → V → V → V → M → R
 | 0,_,_,_,_,_,_=>none
 | i + 1,p7,p1,p0,p6,p2,m=>
  bp (pur (bin .gtr false true .int p7 p1) m) fun x10 m=>
  brt x10
  (bp (pur (aIndexAddrSl 1 p0 p7) m) fun x11 m=>
  bp (pur (aLoad false 1 x11 m) m) fun x12 m=>
  bp (pur (bin .sub true true .int p7 (.int .i64 1)) m) fun x13 m=>
  bp (pur (aIndexAddrSl 1 p0 x13) m) fun x14 m=>
  bp (pur (aLoad false 1 x14 m) m) fun x15 m=>
  bp (G.tab Q3r [x12,x15] m) fun x16 m=>
  Q7v G (Q2m G k0 i) k0 x16 p0 p7 p1 p6 p2 m)
  (Q7v G (Q2m G k0 i) k0 (.bool false) p0 p7 p1 p6 p2 m)
  (none)
def Qgs (G:Gt)(k0:V → V → V → V → M → R)(p7 p1 p0 p6 p2:V)(m:M):R:=
  Q2m G k0 G.rds p7 p1 p0 p6 p2 m
def Qgt (G:Gt)(k0:V → V → V → V → M → R)(p6 p1 p0 p2:V)(m:M):R:=
  Qgs G k0 p6 p1 p0 p6 p2 m
def Qy (G:Gt):Nat → V → V → V → V → M → R
 | 0,_,_,_,_,_=>none
 | i + 1,p6,p2,p1,p0,m=>
  bp (pur (bin .lss false true .int p6 p2) m) fun x17 m=>
  brb x17
  (Qgt G (Qy G i) p6 p1 p0 p2 m)
  (some (.tuple ⟨[]⟩,m))
def Qgu (G:Gt)(p6 p2 p1 p0:V)(m:M):R:=
  Qy G G.rds p6 p2 p1 p0 m
def Q9c (G:Gt)(p1 p2 p0:V)(m:M):R:=
  bp (pur (bin .add true true .int p1 (.int .i64 1)) m) fun x18 m=>
  Qgu G x18 p2 p1 p0 m
theorem Q11k (G:Gt)(a0 a1 a2:V)(m:M):ef G Tryz.f417 [a0,a1,a2] m = Q9c G a1 a2 a0 m:=
  evFn_of (r:=fun r m=>Q9c G (r 1) (r 2) (r 0) m) rfl rfl (tr (seqQ (f:=fun r m=>Qgu G (r 6) (r 2) (r 1) (r 0) m) (tr (blockQ (loopQ (fun i r m=>Qy G i (r 6) (r 2) (r 1) (r 0) m) (fun _ _=>rfl) (fun i0=>tr (seqQ (f:=fun r m=>Qgt G (Qy G i0) (r 6) (r 1) (r 0) (r 2) m) (tr (tr (seqQ (f:=fun r m=>Qgr G (Qy G i0) (r 6) (r 2) (r 1) (r 0) m) (fun r m=>by kernel_rfl)) (blockQ (seqQ (f:=fun r m=>Qgs G (Qy G i0) (r 7) (r 1) (r 0) (r 6) (r 2) m) (tr (blockQ (loopQ (fun i r m=>Q2m G (Qy G i0) i (r 7) (r 1) (r 0) (r 6) (r 2) m) (fun _ _=>rfl) (fun i1=>tr (tr seqD (seqQ (f:=fun r m=>Q7v G (Q2m G (Qy G i0) i1) (Qy G i0) (r 30) (r 0) (r 7) (r 1) (r 6) (r 2) m) (fun r m=>by kernel_rfl))) (fun r m=>by kernel_rfl)))) (fun r m=>by kernel_rfl))))) (fun r m=>by kernel_rfl))) (fun r m=>by kernel_rfl)))) (fun r m=>by kernel_rfl))) (fun r m=>by kernel_rfl)) m
def Q118:En:=⟨Qiz,Tryz.f417,Tryz.func417,by kernel_rfl,arg3 (fun G a0 a1 a2 m=>Q9c G a1 a2 a0 m),okarg3 Q11k⟩
def Q9d (G:Gt)(p9 p11:V)(m:M):R:=
  bp (pur (aLoad false 1 p9 m) m) fun x0 m=>
  bp (pur (bin .eql true true .int x0 (.int .i64 0)) m) fun x1 m=>
  brb x1
  (some (.tuple ⟨[p11,(.int .i64 1)]⟩,m))
  (bp (pur (bin .eql true true .int x0 (.int .i64 12)) m) fun x2 m=>
  brb x2
  (some (.tuple ⟨[p11,(.int .i64 2)]⟩,m))
  (some (.tuple ⟨[p11,(.int .i64 0)]⟩,m)))
def Q9e (G:Gt)(p0 p10 p11 p12 p9:V)(m:M):R:=
  bp (G.tab Qri [p0,p10,p11,p12,p9] m) fun x3 m=>
  Q9d G p9 x3 m
def Qj0 (G:Gt)(p32 p8 p0 p10 p9 p11 p12:V)(m:M):R:=
  brb p32
  (bp (pur (bin .geq true true .int p8 (.int .i64 50)) m) fun x4 m=>
  brb x4
  (bp (G.tab Q8v [p0,p10,p9] m) fun x5 m=>
  bp (G.tab Q8v [p0,p11,p9] m) fun x6 m=>
  bp (G.tab Q8v [p0,p12,p9] m) fun x7 m=>
  Q9e G p0 x5 x6 x7 p9 m)
  (Q9e G p0 p10 p11 p12 p9 m))
  (Q9d G p9 p11 m)
def Qj1 (G:Gt)(p8 p0 p10 p9 p11 p12:V)(m:M):R:=
  bp (pur (bin .geq true true .int p8 (.int .i64 8)) m) fun x8 m=>
  Qj0 G x8 p8 p0 p10 p9 p11 p12 m
def Qj2 (G:Gt)(p1 p8 p0 p10 p9 p11:V)(m:M):R:=
  bp (pur (bin .quo true true .int p8 (.int .i64 4)) m) fun x9 m=>
  bp (pur (bin .mul true true .int x9 (.int .i64 3)) m) fun x10 m=>
  bp (pur (bin .add false true .int p1 x10) m) fun x11 m=>
  Qj1 G p8 p0 p10 p9 p11 x11 m
def Qj3 (G:Gt)(p1 p8 p0 p10 p9:V)(m:M):R:=
  bp (pur (bin .quo true true .int p8 (.int .i64 4)) m) fun x12 m=>
  bp (pur (bin .mul true true .int x12 (.int .i64 2)) m) fun x13 m=>
  bp (pur (bin .add false true .int p1 x13) m) fun x14 m=>
  Qj2 G p1 p8 p0 p10 p9 x14 m
def Qj4 (G:Gt)(p1 p8 p0 p9:V)(m:M):R:=
  bp (pur (bin .quo true true .int p8 (.int .i64 4)) m) fun x15 m=>
  bp (pur (bin .mul true true .int x15 (.int .i64 1)) m) fun x16 m=>
  bp (pur (bin .add false true .int p1 x16) m) fun x17 m=>
  Qj3 G p1 p8 p0 x17 p9 m
def Qj5 (G:Gt)(p1 p8 p0:V)(m:M):R:=
  bp (some (aNew Qcu [(.int .i64 0)] m)) fun x18 m=>
  Qj4 G p1 p8 p0 x18 m
def Qj6 (G:Gt)(p2 p1 p0:V)(m:M):R:=
  bp (pur (bin .sub false true .int p2 p1) m) fun x19 m=>
  Qj5 G p1 x19 p0 m
def Qc8 (G:Gt)(p2 p1 p0:V)(m:M):R:=
  Qj6 G p2 p1 p0 m
theorem Q158 (G:Gt)(a0 a1 a2:V)(m:M):ef G Tryz.f420 [a0,a1,a2] m = Qc8 G a2 a1 a0 m:=
  evFn_of (r:=fun r m=>Qc8 G (r 2) (r 1) (r 0) m) rfl rfl (tr (seqQ (f:=fun r m=>Qj6 G (r 2) (r 1) (r 0) m) (tr (seqQ (f:=fun r m=>Qj5 G (r 1) (r 8) (r 0) m) (tr (seqQ (f:=fun r m=>Qj4 G (r 1) (r 8) (r 0) (r 9) m) (tr (seqQ (f:=fun r m=>Qj3 G (r 1) (r 8) (r 0) (r 10) (r 9) m) (tr (seqQ (f:=fun r m=>Qj2 G (r 1) (r 8) (r 0) (r 10) (r 9) (r 11) m) (tr (seqQ (f:=fun r m=>Qj1 G (r 8) (r 0) (r 10) (r 9) (r 11) (r 12) m) (tr (tr (seqQ (f:=fun r m=>Q9d G (r 9) (r 11) m) (fun r m=>by kernel_rfl)) (seqQ (f:=fun r m=>Qj0 G (r 32) (r 8) (r 0) (r 10) (r 9) (r 11) (r 12) m) (tr (condQ (seqQ (f:=fun r m=>Q9e G (r 0) (r 10) (r 11) (r 12) (r 9) m) (fun r m=>by kernel_rfl)) (refQ)) (fun r m=>by kernel_rfl)))) (fun r m=>by kernel_rfl))) (fun r m=>by kernel_rfl))) (fun r m=>by kernel_rfl))) (fun r m=>by kernel_rfl))) (fun r m=>by kernel_rfl))) (fun r m=>by kernel_rfl))) (fun r m=>by kernel_rfl)) m
def Q14w:En:=⟨Qld,Tryz.f420,Tryz.func420,by kernel_rfl,arg3 (fun G a0 a1 a2 m=>Qc8 G a2 a1 a0 m),okarg3 Q158⟩
end
end Go.Ab.Sh
