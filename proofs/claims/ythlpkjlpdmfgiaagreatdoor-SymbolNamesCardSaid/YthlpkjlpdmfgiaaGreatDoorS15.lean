/-
  Functions of the program as plain definitions. No conditions.
-/
import Derived.Test.YthlpkjlpdmfgiaaGreatDoorAb5
import Derived.Test.YthlpkjlpdmfgiaaGreatDoorZ
import Derived.KernelRfl
import Derived.Test.YthlpkjlpdmfgiaaGreatDoorProg
set_option linter.unusedVariables false
set_option maxRecDepth 100000
namespace Go.Ab.Sh
open Go Go.Ab Go.Proofs
noncomputable section
def Q6x (G:Gt)(k0:V → V → V → V → V → M → R)(p8 p2 p1 p3 p0:V)(m:M):R:=
  bp (pur (bin .add true true .int p8 (.int .i64 1)) m) fun x0 m=>
  k0 x0 p2 p1 p3 p0 m
def Q30 (G:Gt)(k1:V → V → V → V → V → V → M → R)(k0:V → V → V → V → V → M → R)(p34 p0 p9 p1 p3 p8 p2:V)(m:M):R:=
  brb p34
  (bp (pur (bin .sub true true .int p9 (.int .i64 1)) m) fun x1 m=>
  bp (pur (bin .sub true true .int p9 (.int .i64 1)) m) fun x2 m=>
  bp (pur (aIndexAddrSl 2 p0 x2) m) fun x3 m=>
  bp (pur (aLoad true 2 x3 m) m) fun x4 m=>
  bp (pur (aIndexAddrSl 2 p0 p9) m) fun x5 m=>
  bp (pur (aLoad true 2 x5 m) m) fun x6 m=>
  bp (pur (aIndexAddrSl 2 p0 p9) m) fun x7 m=>
  bp (unt (aStore 2 x7 x4 m)) fun _ m=>
  bp (pur (aIndexAddrSl 2 p0 x1) m) fun x8 m=>
  bp (unt (aStore 2 x8 x6 m)) fun _ m=>
  bp (pur (bin .sub true true .int p9 (.int .i64 1)) m) fun x9 m=>
  k1 x9 p1 p3 p0 p8 p2 m)
  (Q6x G k0 p8 p2 p1 p3 p0 m)
def Q19 (G:Gt)(k0:V → V → V → V → V → M → R):Nat → V → V → V → V → V → V → M → R
 | 0,_,_,_,_,_,_,_=>none
 | i + 1,p9,p1,p3,p0,p8,p2,m=>
  bp (pur (bin .gtr false true .int p9 p1) m) fun x10 m=>
  brt x10
  (bp (pur (aIndexAddrSl 2 p0 p9) m) fun x11 m=>
  bp (pur (aLoad true 2 x11 m) m) fun x12 m=>
  bp (pur (bin .sub true true .int p9 (.int .i64 1)) m) fun x13 m=>
  bp (pur (aIndexAddrSl 2 p0 x13) m) fun x14 m=>
  bp (pur (aLoad true 2 x14 m) m) fun x15 m=>
  bp (evCall G.tab p3 [x12,x15] m) fun x16 m=>
  bp (pur (bin .lss true true .int x16 (.int .i64 0)) m) fun x17 m=>
  Q30 G (Q19 G k0 i) k0 x17 p0 p9 p1 p3 p8 p2 m)
  (Q30 G (Q19 G k0 i) k0 (.bool false) p0 p9 p1 p3 p8 p2 m)
  (none)
def Q6y (G:Gt)(k0:V → V → V → V → V → M → R)(p9 p1 p3 p0 p8 p2:V)(m:M):R:=
  Q19 G k0 G.rds p9 p1 p3 p0 p8 p2 m
def Q6z (G:Gt)(k0:V → V → V → V → V → M → R)(p8 p1 p3 p0 p2:V)(m:M):R:=
  Q6y G k0 p8 p1 p3 p0 p8 p2 m
def Q6 (G:Gt):Nat → V → V → V → V → V → M → R
 | 0,_,_,_,_,_,_=>none
 | i + 1,p8,p2,p1,p3,p0,m=>
  bp (pur (bin .lss false true .int p8 p2) m) fun x18 m=>
  brb x18
  (Q6z G (Q6 G i) p8 p1 p3 p0 p2 m)
  (some (.tuple ⟨[]⟩,m))
def Q70 (G:Gt)(p8 p2 p1 p3 p0:V)(m:M):R:=
  Q6 G G.rds p8 p2 p1 p3 p0 m
def Q37 (G:Gt)(p1 p2 p3 p0:V)(m:M):R:=
  bp (pur (bin .add true true .int p1 (.int .i64 1)) m) fun x19 m=>
  Q70 G x19 p2 p1 p3 p0 m
theorem Qk1 (G:Gt)(a0 a1 a2 a3:V)(m:M):ef G Tryz.f447 [a0,a1,a2,a3] m = Q37 G a1 a2 a3 a0 m:=
  evFn_of (r:=fun r m=>Q37 G (r 1) (r 2) (r 3) (r 0) m) rfl rfl (tr (seqQ (f:=fun r m=>Q70 G (r 8) (r 2) (r 1) (r 3) (r 0) m) (tr (blockQ (loopQ (fun i r m=>Q6 G i (r 8) (r 2) (r 1) (r 3) (r 0) m) (fun _ _=>rfl) (fun i0=>tr (seqQ (f:=fun r m=>Q6z G (Q6 G i0) (r 8) (r 1) (r 3) (r 0) (r 2) m) (tr (tr (seqQ (f:=fun r m=>Q6x G (Q6 G i0) (r 8) (r 2) (r 1) (r 3) (r 0) m) (fun r m=>by kernel_rfl)) (blockQ (seqQ (f:=fun r m=>Q6y G (Q6 G i0) (r 9) (r 1) (r 3) (r 0) (r 8) (r 2) m) (tr (blockQ (loopQ (fun i r m=>Q19 G (Q6 G i0) i (r 9) (r 1) (r 3) (r 0) (r 8) (r 2) m) (fun _ _=>rfl) (fun i1=>tr (tr seqD (seqQ (f:=fun r m=>Q30 G (Q19 G (Q6 G i0) i1) (Q6 G i0) (r 34) (r 0) (r 9) (r 1) (r 3) (r 8) (r 2) m) (fun r m=>by kernel_rfl))) (fun r m=>by kernel_rfl)))) (fun r m=>by kernel_rfl))))) (fun r m=>by kernel_rfl))) (fun r m=>by kernel_rfl)))) (fun r m=>by kernel_rfl))) (fun r m=>by kernel_rfl)) m
def Qjt:En:=⟨Q38,Tryz.f447,Tryz.func447,by kernel_rfl,arg4 (fun G a0 a1 a2 a3 m=>Q37 G a1 a2 a3 a0 m),okarg4 Qk1⟩
def Q5l (G:Gt)(k0:V → V → V → V → V → M → R)(p8 p2 p1 p3 p0:V)(m:M):R:=
  bp (pur (bin .add true true .int p8 (.int .i64 1)) m) fun x0 m=>
  k0 x0 p2 p1 p3 p0 m
def Q2h (G:Gt)(k1:V → V → V → V → V → V → M → R)(k0:V → V → V → V → V → M → R)(p34 p0 p9 p1 p3 p8 p2:V)(m:M):R:=
  brb p34
  (bp (pur (bin .sub true true .int p9 (.int .i64 1)) m) fun x1 m=>
  bp (pur (bin .sub true true .int p9 (.int .i64 1)) m) fun x2 m=>
  bp (pur (aIndexAddrSl 2 p0 x2) m) fun x3 m=>
  bp (pur (aLoad true 2 x3 m) m) fun x4 m=>
  bp (pur (aIndexAddrSl 2 p0 p9) m) fun x5 m=>
  bp (pur (aLoad true 2 x5 m) m) fun x6 m=>
  bp (pur (aIndexAddrSl 2 p0 p9) m) fun x7 m=>
  bp (unt (aStore 2 x7 x4 m)) fun _ m=>
  bp (pur (aIndexAddrSl 2 p0 x1) m) fun x8 m=>
  bp (unt (aStore 2 x8 x6 m)) fun _ m=>
  bp (pur (bin .sub true true .int p9 (.int .i64 1)) m) fun x9 m=>
  k1 x9 p1 p3 p0 p8 p2 m)
  (Q5l G k0 p8 p2 p1 p3 p0 m)
def Q18 (G:Gt)(k0:V → V → V → V → V → M → R):Nat → V → V → V → V → V → V → M → R
 | 0,_,_,_,_,_,_,_=>none
 | i + 1,p9,p1,p3,p0,p8,p2,m=>
  bp (pur (bin .gtr false true .int p9 p1) m) fun x10 m=>
  brt x10
  (bp (pur (aIndexAddrSl 2 p0 p9) m) fun x11 m=>
  bp (pur (aLoad true 2 x11 m) m) fun x12 m=>
  bp (pur (bin .sub true true .int p9 (.int .i64 1)) m) fun x13 m=>
  bp (pur (aIndexAddrSl 2 p0 x13) m) fun x14 m=>
  bp (pur (aLoad true 2 x14 m) m) fun x15 m=>
  bp (evCall G.tab p3 [x12,x15] m) fun x16 m=>
  bp (pur (bin .lss true true .int x16 (.int .i64 0)) m) fun x17 m=>
  Q2h G (Q18 G k0 i) k0 x17 p0 p9 p1 p3 p8 p2 m)
  (Q2h G (Q18 G k0 i) k0 (.bool false) p0 p9 p1 p3 p8 p2 m)
  (none)
def Q5m (G:Gt)(k0:V → V → V → V → V → M → R)(p9 p1 p3 p0 p8 p2:V)(m:M):R:=
  Q18 G k0 G.rds p9 p1 p3 p0 p8 p2 m
def Q5n (G:Gt)(k0:V → V → V → V → V → M → R)(p8 p1 p3 p0 p2:V)(m:M):R:=
  Q5m G k0 p8 p1 p3 p0 p8 p2 m
def Q3 (G:Gt):Nat → V → V → V → V → V → M → R
 | 0,_,_,_,_,_,_=>none
 | i + 1,p8,p2,p1,p3,p0,m=>
  bp (pur (bin .lss false true .int p8 p2) m) fun x18 m=>
  brb x18
  (Q5n G (Q3 G i) p8 p1 p3 p0 p2 m)
  (some (.tuple ⟨[]⟩,m))
def Q5o (G:Gt)(p8 p2 p1 p3 p0:V)(m:M):R:=
  Q3 G G.rds p8 p2 p1 p3 p0 m
def Q2r (G:Gt)(p1 p2 p3 p0:V)(m:M):R:=
  bp (pur (bin .add true true .int p1 (.int .i64 1)) m) fun x19 m=>
  Q5o G x19 p2 p1 p3 p0 m
theorem Qho (G:Gt)(a0 a1 a2 a3:V)(m:M):ef G Tryz.f449 [a0,a1,a2,a3] m = Q2r G a1 a2 a3 a0 m:=
  evFn_of (r:=fun r m=>Q2r G (r 1) (r 2) (r 3) (r 0) m) rfl rfl (tr (seqQ (f:=fun r m=>Q5o G (r 8) (r 2) (r 1) (r 3) (r 0) m) (tr (blockQ (loopQ (fun i r m=>Q3 G i (r 8) (r 2) (r 1) (r 3) (r 0) m) (fun _ _=>rfl) (fun i0=>tr (seqQ (f:=fun r m=>Q5n G (Q3 G i0) (r 8) (r 1) (r 3) (r 0) (r 2) m) (tr (tr (seqQ (f:=fun r m=>Q5l G (Q3 G i0) (r 8) (r 2) (r 1) (r 3) (r 0) m) (fun r m=>by kernel_rfl)) (blockQ (seqQ (f:=fun r m=>Q5m G (Q3 G i0) (r 9) (r 1) (r 3) (r 0) (r 8) (r 2) m) (tr (blockQ (loopQ (fun i r m=>Q18 G (Q3 G i0) i (r 9) (r 1) (r 3) (r 0) (r 8) (r 2) m) (fun _ _=>rfl) (fun i1=>tr (tr seqD (seqQ (f:=fun r m=>Q2h G (Q18 G (Q3 G i0) i1) (Q3 G i0) (r 34) (r 0) (r 9) (r 1) (r 3) (r 8) (r 2) m) (fun r m=>by kernel_rfl))) (fun r m=>by kernel_rfl)))) (fun r m=>by kernel_rfl))))) (fun r m=>by kernel_rfl))) (fun r m=>by kernel_rfl)))) (fun r m=>by kernel_rfl))) (fun r m=>by kernel_rfl)) m
def Qhg:En:=⟨Q2s,Tryz.f449,Tryz.func449,by kernel_rfl,arg4 (fun G a0 a1 a2 a3 m=>Q2r G a1 a2 a3 a0 m),okarg4 Qho⟩
def Q8n (G:Gt)(k0:V → V → V → V → V → M → R)(p8 p2 p1 p3 p0:V)(m:M):R:=
  bp (pur (bin .add true true .int p8 (.int .i64 1)) m) fun x0 m=>
  k0 x0 p2 p1 p3 p0 m
def Q3r (G:Gt)(k1:V → V → V → V → V → V → M → R)(k0:V → V → V → V → V → M → R)(p34 p0 p9 p1 p3 p8 p2:V)(m:M):R:=
  brb p34
  (bp (pur (bin .sub true true .int p9 (.int .i64 1)) m) fun x1 m=>
  bp (pur (bin .sub true true .int p9 (.int .i64 1)) m) fun x2 m=>
  bp (pur (aIndexAddrSl 3 p0 x2) m) fun x3 m=>
  bp (pur (aLoad true 3 x3 m) m) fun x4 m=>
  bp (pur (aIndexAddrSl 3 p0 p9) m) fun x5 m=>
  bp (pur (aLoad true 3 x5 m) m) fun x6 m=>
  bp (pur (aIndexAddrSl 3 p0 p9) m) fun x7 m=>
  bp (unt (aStore 3 x7 x4 m)) fun _ m=>
  bp (pur (aIndexAddrSl 3 p0 x1) m) fun x8 m=>
  bp (unt (aStore 3 x8 x6 m)) fun _ m=>
  bp (pur (bin .sub true true .int p9 (.int .i64 1)) m) fun x9 m=>
  k1 x9 p1 p3 p0 p8 p2 m)
  (Q8n G k0 p8 p2 p1 p3 p0 m)
def Q1f (G:Gt)(k0:V → V → V → V → V → M → R):Nat → V → V → V → V → V → V → M → R
 | 0,_,_,_,_,_,_,_=>none
 | i + 1,p9,p1,p3,p0,p8,p2,m=>
  bp (pur (bin .gtr false true .int p9 p1) m) fun x10 m=>
  brt x10
  (bp (pur (aIndexAddrSl 3 p0 p9) m) fun x11 m=>
  bp (pur (aLoad true 3 x11 m) m) fun x12 m=>
  bp (pur (bin .sub true true .int p9 (.int .i64 1)) m) fun x13 m=>
  bp (pur (aIndexAddrSl 3 p0 x13) m) fun x14 m=>
  bp (pur (aLoad true 3 x14 m) m) fun x15 m=>
  bp (evCall G.tab p3 [x12,x15] m) fun x16 m=>
  bp (pur (bin .lss true true .int x16 (.int .i64 0)) m) fun x17 m=>
  Q3r G (Q1f G k0 i) k0 x17 p0 p9 p1 p3 p8 p2 m)
  (Q3r G (Q1f G k0 i) k0 (.bool false) p0 p9 p1 p3 p8 p2 m)
  (none)
def Q8o (G:Gt)(k0:V → V → V → V → V → M → R)(p9 p1 p3 p0 p8 p2:V)(m:M):R:=
  Q1f G k0 G.rds p9 p1 p3 p0 p8 p2 m
def Q8p (G:Gt)(k0:V → V → V → V → V → M → R)(p8 p1 p3 p0 p2:V)(m:M):R:=
  Q8o G k0 p8 p1 p3 p0 p8 p2 m
def Qa (G:Gt):Nat → V → V → V → V → V → M → R
 | 0,_,_,_,_,_,_=>none
 | i + 1,p8,p2,p1,p3,p0,m=>
  bp (pur (bin .lss false true .int p8 p2) m) fun x18 m=>
  brb x18
  (Q8p G (Qa G i) p8 p1 p3 p0 p2 m)
  (some (.tuple ⟨[]⟩,m))
def Q8q (G:Gt)(p8 p2 p1 p3 p0:V)(m:M):R:=
  Qa G G.rds p8 p2 p1 p3 p0 m
def Q4a (G:Gt)(p1 p2 p3 p0:V)(m:M):R:=
  bp (pur (bin .add true true .int p1 (.int .i64 1)) m) fun x19 m=>
  Q8q G x19 p2 p1 p3 p0 m
theorem Qnm (G:Gt)(a0 a1 a2 a3:V)(m:M):ef G Tryz.f451 [a0,a1,a2,a3] m = Q4a G a1 a2 a3 a0 m:=
  evFn_of (r:=fun r m=>Q4a G (r 1) (r 2) (r 3) (r 0) m) rfl rfl (tr (seqQ (f:=fun r m=>Q8q G (r 8) (r 2) (r 1) (r 3) (r 0) m) (tr (blockQ (loopQ (fun i r m=>Qa G i (r 8) (r 2) (r 1) (r 3) (r 0) m) (fun _ _=>rfl) (fun i0=>tr (seqQ (f:=fun r m=>Q8p G (Qa G i0) (r 8) (r 1) (r 3) (r 0) (r 2) m) (tr (tr (seqQ (f:=fun r m=>Q8n G (Qa G i0) (r 8) (r 2) (r 1) (r 3) (r 0) m) (fun r m=>by kernel_rfl)) (blockQ (seqQ (f:=fun r m=>Q8o G (Qa G i0) (r 9) (r 1) (r 3) (r 0) (r 8) (r 2) m) (tr (blockQ (loopQ (fun i r m=>Q1f G (Qa G i0) i (r 9) (r 1) (r 3) (r 0) (r 8) (r 2) m) (fun _ _=>rfl) (fun i1=>tr (tr seqD (seqQ (f:=fun r m=>Q3r G (Q1f G (Qa G i0) i1) (Qa G i0) (r 34) (r 0) (r 9) (r 1) (r 3) (r 8) (r 2) m) (fun r m=>by kernel_rfl))) (fun r m=>by kernel_rfl)))) (fun r m=>by kernel_rfl))))) (fun r m=>by kernel_rfl))) (fun r m=>by kernel_rfl)))) (fun r m=>by kernel_rfl))) (fun r m=>by kernel_rfl)) m
def Qnd:En:=⟨Q4b,Tryz.f451,Tryz.func451,by kernel_rfl,arg4 (fun G a0 a1 a2 a3 m=>Q4a G a1 a2 a3 a0 m),okarg4 Qnm⟩
def Qb5 (G:Gt)(k0:V → V → V → V → V → M → R)(p8 p2 p1 p3 p0:V)(m:M):R:=
  bp (pur (bin .add true true .int p8 (.int .i64 1)) m) fun x0 m=>
  k0 x0 p2 p1 p3 p0 m
def Q4v (G:Gt)(k1:V → V → V → V → V → V → M → R)(k0:V → V → V → V → V → M → R)(p34 p0 p9 p1 p3 p8 p2:V)(m:M):R:=
  brb p34
  (bp (pur (bin .sub true true .int p9 (.int .i64 1)) m) fun x1 m=>
  bp (pur (bin .sub true true .int p9 (.int .i64 1)) m) fun x2 m=>
  bp (pur (aIndexAddrSl 2 p0 x2) m) fun x3 m=>
  bp (pur (aLoad true 2 x3 m) m) fun x4 m=>
  bp (pur (aIndexAddrSl 2 p0 p9) m) fun x5 m=>
  bp (pur (aLoad true 2 x5 m) m) fun x6 m=>
  bp (pur (aIndexAddrSl 2 p0 p9) m) fun x7 m=>
  bp (unt (aStore 2 x7 x4 m)) fun _ m=>
  bp (pur (aIndexAddrSl 2 p0 x1) m) fun x8 m=>
  bp (unt (aStore 2 x8 x6 m)) fun _ m=>
  bp (pur (bin .sub true true .int p9 (.int .i64 1)) m) fun x9 m=>
  k1 x9 p1 p3 p0 p8 p2 m)
  (Qb5 G k0 p8 p2 p1 p3 p0 m)
def Q1u (G:Gt)(k0:V → V → V → V → V → M → R):Nat → V → V → V → V → V → V → M → R
 | 0,_,_,_,_,_,_,_=>none
 | i + 1,p9,p1,p3,p0,p8,p2,m=>
  bp (pur (bin .gtr false true .int p9 p1) m) fun x10 m=>
  brt x10
  (bp (pur (aIndexAddrSl 2 p0 p9) m) fun x11 m=>
  bp (pur (aLoad true 2 x11 m) m) fun x12 m=>
  bp (pur (bin .sub true true .int p9 (.int .i64 1)) m) fun x13 m=>
  bp (pur (aIndexAddrSl 2 p0 x13) m) fun x14 m=>
  bp (pur (aLoad true 2 x14 m) m) fun x15 m=>
  bp (evCall G.tab p3 [x12,x15] m) fun x16 m=>
  bp (pur (bin .lss true true .int x16 (.int .i64 0)) m) fun x17 m=>
  Q4v G (Q1u G k0 i) k0 x17 p0 p9 p1 p3 p8 p2 m)
  (Q4v G (Q1u G k0 i) k0 (.bool false) p0 p9 p1 p3 p8 p2 m)
  (none)
def Qb6 (G:Gt)(k0:V → V → V → V → V → M → R)(p9 p1 p3 p0 p8 p2:V)(m:M):R:=
  Q1u G k0 G.rds p9 p1 p3 p0 p8 p2 m
def Qb7 (G:Gt)(k0:V → V → V → V → V → M → R)(p8 p1 p3 p0 p2:V)(m:M):R:=
  Qb6 G k0 p8 p1 p3 p0 p8 p2 m
def Qj (G:Gt):Nat → V → V → V → V → V → M → R
 | 0,_,_,_,_,_,_=>none
 | i + 1,p8,p2,p1,p3,p0,m=>
  bp (pur (bin .lss false true .int p8 p2) m) fun x18 m=>
  brb x18
  (Qb7 G (Qj G i) p8 p1 p3 p0 p2 m)
  (some (.tuple ⟨[]⟩,m))
def Qb8 (G:Gt)(p8 p2 p1 p3 p0:V)(m:M):R:=
  Qj G G.rds p8 p2 p1 p3 p0 m
def Q5d (G:Gt)(p1 p2 p3 p0:V)(m:M):R:=
  bp (pur (bin .add true true .int p1 (.int .i64 1)) m) fun x19 m=>
  Qb8 G x19 p2 p1 p3 p0 m
theorem Qr1 (G:Gt)(a0 a1 a2 a3:V)(m:M):ef G Tryz.f463 [a0,a1,a2,a3] m = Q5d G a1 a2 a3 a0 m:=
  evFn_of (r:=fun r m=>Q5d G (r 1) (r 2) (r 3) (r 0) m) rfl rfl (tr (seqQ (f:=fun r m=>Qb8 G (r 8) (r 2) (r 1) (r 3) (r 0) m) (tr (blockQ (loopQ (fun i r m=>Qj G i (r 8) (r 2) (r 1) (r 3) (r 0) m) (fun _ _=>rfl) (fun i0=>tr (seqQ (f:=fun r m=>Qb7 G (Qj G i0) (r 8) (r 1) (r 3) (r 0) (r 2) m) (tr (tr (seqQ (f:=fun r m=>Qb5 G (Qj G i0) (r 8) (r 2) (r 1) (r 3) (r 0) m) (fun r m=>by kernel_rfl)) (blockQ (seqQ (f:=fun r m=>Qb6 G (Qj G i0) (r 9) (r 1) (r 3) (r 0) (r 8) (r 2) m) (tr (blockQ (loopQ (fun i r m=>Q1u G (Qj G i0) i (r 9) (r 1) (r 3) (r 0) (r 8) (r 2) m) (fun _ _=>rfl) (fun i1=>tr (tr seqD (seqQ (f:=fun r m=>Q4v G (Q1u G (Qj G i0) i1) (Qj G i0) (r 34) (r 0) (r 9) (r 1) (r 3) (r 8) (r 2) m) (fun r m=>by kernel_rfl))) (fun r m=>by kernel_rfl)))) (fun r m=>by kernel_rfl))))) (fun r m=>by kernel_rfl))) (fun r m=>by kernel_rfl)))) (fun r m=>by kernel_rfl))) (fun r m=>by kernel_rfl)) m
def Qqp:En:=⟨Qc1,Tryz.f463,Tryz.func463,by kernel_rfl,arg4 (fun G a0 a1 a2 a3 m=>Q5d G a1 a2 a3 a0 m),okarg4 Qr1⟩
def Qdh (G:Gt)(p0 p2 p1 p3:V)(m:M):R:=
  bp (pur (aIndexAddrSl 1 p0 p2) m) fun x0 m=>
  bp (pur (aLoad false 1 x0 m) m) fun x1 m=>
  bp (pur (aIndexAddrSl 1 p0 p1) m) fun x2 m=>
  bp (pur (aLoad false 1 x2 m) m) fun x3 m=>
  bp (G.tab Q22 [x1,x3] m) fun x4 m=>
  brb x4
  (bp (pur (aNilCheck p3) m) fun x5 m=>
  bp (pur (aLoad false 1 x5 m) m) fun x6 m=>
  bp (pur (bin .add true true .int x6 (.int .i64 1)) m) fun x7 m=>
  bp (pur (aNilCheck p3) m) fun x8 m=>
  bp (unt (aStore 1 x8 x7 m)) fun _ m=>
  some (.tuple ⟨[p2,p1]⟩,m))
  (some (.tuple ⟨[p1,p2]⟩,m))
theorem Q172 (G:Gt)(a0 a1 a2 a3:V)(m:M):ef G Tryz.f473 [a0,a1,a2,a3] m = Qdh G a0 a2 a1 a3 m:=
  evFn_of (r:=fun r m=>Qdh G (r 0) (r 2) (r 1) (r 3) m) rfl rfl (fun r m=>by kernel_rfl) m
def Q16c:En:=⟨Q7r,Tryz.f473,Tryz.func473,by kernel_rfl,arg4 (fun G a0 a1 a2 a3 m=>Qdh G a0 a2 a1 a3 m),okarg4 Q172⟩
end
end Go.Ab.Sh

set_option linter.unusedVariables false
set_option maxRecDepth 100000
namespace Go.Ab.Sh
open Go Go.Ab Go.Proofs
noncomputable section
end
end Go.Ab.Sh
