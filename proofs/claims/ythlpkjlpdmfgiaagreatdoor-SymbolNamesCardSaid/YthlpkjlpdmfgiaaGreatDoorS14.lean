/-
  Functions of the program as plain definitions. No conditions.
-/
import Derived.Test.YthlpkjlpdmfgiaaGreatDoorAb5
import Derived.Test.YthlpkjlpdmfgiaaGreatDoorZ
import Derived.KernelRfl
import Derived.Test.YthlpkjlpdmfgiaaGreatDoorProg
set_option linter.unusedVariables false
set_option maxRecDepth 100000
namespace Go.Ab.Sh
open Go Go.Ab Go.Proofs
noncomputable section
def Q6r (G:Gt)(k0:V → V → V → V → M → R)(p6 p1 p0 p2:V)(m:M):R:=
  bp (pur (bin .mul true true .int p6 (.int .i64 2)) m) fun x0 m=>
  k0 x0 p1 p0 p2 m
def Qeg (G:Gt)(k0:V → V → V → V → M → R)(p7 p6 p1 p0 p2:V)(m:M):R:=
  bp (pur (bin .add false true .int p7 p6) m) fun x1 m=>
  bp (pur (bin .lss false true .int x1 p1) m) fun x2 m=>
  brb x2
  (bp (G.tab Qeh [p0,p7,x1,p1,p2] m) fun x3 m=>
  Q6r G k0 p6 p1 p0 p2 m)
  (Q6r G k0 p6 p1 p0 p2 m)
def Q6s (G:Gt)(k0:V → V → V → V → M → R):Nat → V → V → V → V → V → V → M → R
 | 0,_,_,_,_,_,_,_=>none
 | i + 1,p8,p1,p0,p7,p6,p2,m=>
  bp (pur (bin .leq false true .int p8 p1) m) fun x4 m=>
  brb x4
  (bp (pur (bin .add false true .int p7 p6) m) fun x5 m=>
  bp (G.tab Qeh [p0,p7,x5,p8,p2] m) fun x6 m=>
  bp (pur (bin .mul true true .int (.int .i64 2) p6) m) fun x7 m=>
  bp (pur (bin .add false true .int p8 x7) m) fun x8 m=>
  (Q6s G k0 i) x8 p1 p0 p8 p6 p2 m)
  (Qeg G k0 p7 p6 p1 p0 p2 m)
def Qei (G:Gt)(k0:V → V → V → V → M → R)(p8 p1 p0 p7 p6 p2:V)(m:M):R:=
  Q6s G k0 G.rds p8 p1 p0 p7 p6 p2 m
def Qej (G:Gt)(k0:V → V → V → V → M → R)(p6 p1 p0 p2:V)(m:M):R:=
  bp (pur (bin .mul true true .int (.int .i64 2) p6) m) fun x9 m=>
  Qei G k0 x9 p1 p0 (.int .i64 0) p6 p2 m
def Q10 (G:Gt):Nat → V → V → V → V → M → R
 | 0,_,_,_,_,_=>none
 | i + 1,p6,p1,p0,p2,m=>
  bp (pur (bin .lss false true .int p6 p1) m) fun x10 m=>
  brb x10
  (Qej G (Q10 G i) p6 p1 p0 p2 m)
  (some (.tuple ⟨[]⟩,m))
def Qek (G:Gt)(p6 p1 p0 p2:V)(m:M):R:=
  Q10 G G.rds p6 p1 p0 p2 m
def Qel (G:Gt)(p0 p7 p1 p2 p6:V)(m:M):R:=
  bp (G.tab Q4b [p0,p7,p1,p2] m) fun x11 m=>
  Qek G p6 p1 p0 p2 m
def Q5x (G:Gt):Nat → V → V → V → V → V → V → M → R
 | 0,_,_,_,_,_,_,_=>none
 | i + 1,p8,p1,p0,p7,p2,p6,m=>
  bp (pur (bin .leq false true .int p8 p1) m) fun x12 m=>
  brb x12
  (bp (G.tab Q4b [p0,p7,p8,p2] m) fun x13 m=>
  bp (pur (bin .add false true .int p8 p6) m) fun x14 m=>
  (Q5x G i) x14 p1 p0 p8 p2 p6 m)
  (Qel G p0 p7 p1 p2 p6 m)
def Qem (G:Gt)(p8 p1 p0 p7 p2 p6:V)(m:M):R:=
  Q5x G G.rds p8 p1 p0 p7 p2 p6 m
def Qen (G:Gt)(p6 p1 p0 p2:V)(m:M):R:=
  Qem G p6 p1 p0 (.int .i64 0) p2 p6 m
def Q7i (G:Gt)(p1 p0 p2:V)(m:M):R:=
  Qen G (.int .i64 20) p1 p0 p2 m
theorem Qx0 (G:Gt)(a0 a1 a2:V)(m:M):ef G Tryz.f391 [a0,a1,a2] m = Q7i G a1 a0 a2 m:=
  evFn_of (r:=fun r m=>Q7i G (r 1) (r 0) (r 2) m) rfl rfl (tr (seqQ (f:=fun r m=>Qen G (r 6) (r 1) (r 0) (r 2) m) (tr (seqQ (f:=fun r m=>Qem G (r 8) (r 1) (r 0) (r 7) (r 2) (r 6) m) (tr (tr (seqQ (f:=fun r m=>Qel G (r 0) (r 7) (r 1) (r 2) (r 6) m) (tr (seqQ (f:=fun r m=>Qek G (r 6) (r 1) (r 0) (r 2) m) (tr (blockQ (loopQ (fun i r m=>Q10 G i (r 6) (r 1) (r 0) (r 2) m) (fun _ _=>rfl) (fun i0=>tr (seqQ (f:=fun r m=>Qej G (Q10 G i0) (r 6) (r 1) (r 0) (r 2) m) (tr (blockQ (seqQ (f:=fun r m=>Qei G (Q10 G i0) (r 8) (r 1) (r 0) (r 7) (r 6) (r 2) m) (tr (tr (seqQ (f:=fun r m=>Qeg G (Q10 G i0) (r 7) (r 6) (r 1) (r 0) (r 2) m) (tr (seqQ (f:=fun r m=>Q6r G (Q10 G i0) (r 6) (r 1) (r 0) (r 2) m) (fun r m=>by kernel_rfl)) (fun r m=>by kernel_rfl))) (blockQ (loopQ (fun i r m=>Q6s G (Q10 G i0) i (r 8) (r 1) (r 0) (r 7) (r 6) (r 2) m) (fun _ _=>rfl) (fun i1=>fun r m=>by kernel_rfl)))) (fun r m=>by kernel_rfl)))) (fun r m=>by kernel_rfl))) (fun r m=>by kernel_rfl)))) (fun r m=>by kernel_rfl))) (fun r m=>by kernel_rfl))) (blockQ (loopQ (fun i r m=>Q5x G i (r 8) (r 1) (r 0) (r 7) (r 2) (r 6) m) (fun _ _=>rfl) (fun i0=>fun r m=>by kernel_rfl)))) (fun r m=>by kernel_rfl))) (fun r m=>by kernel_rfl))) (fun r m=>by kernel_rfl)) m
def Qwb:En:=⟨Qfo,Tryz.f391,Tryz.func391,by kernel_rfl,arg3 (fun G a0 a1 a2 m=>Q7i G a1 a0 a2 m),okarg3 Qx0⟩
def Q9c (G:Gt)(k0:V → V → V → V → V → M → R)(p8 p2 p1 p3 p0:V)(m:M):R:=
  bp (pur (bin .add true true .int p8 (.int .i64 1)) m) fun x0 m=>
  k0 x0 p2 p1 p3 p0 m
def Q3t (G:Gt)(k1:V → V → V → V → V → V → M → R)(k0:V → V → V → V → V → M → R)(p34 p0 p9 p1 p3 p8 p2:V)(m:M):R:=
  brb p34
  (bp (pur (bin .sub true true .int p9 (.int .i64 1)) m) fun x1 m=>
  bp (pur (bin .sub true true .int p9 (.int .i64 1)) m) fun x2 m=>
  bp (pur (aIndexAddrSl 7 p0 x2) m) fun x3 m=>
  bp (pur (aLoad true 7 x3 m) m) fun x4 m=>
  bp (pur (aIndexAddrSl 7 p0 p9) m) fun x5 m=>
  bp (pur (aLoad true 7 x5 m) m) fun x6 m=>
  bp (pur (aIndexAddrSl 7 p0 p9) m) fun x7 m=>
  bp (unt (aStore 7 x7 x4 m)) fun _ m=>
  bp (pur (aIndexAddrSl 7 p0 x1) m) fun x8 m=>
  bp (unt (aStore 7 x8 x6 m)) fun _ m=>
  bp (pur (bin .sub true true .int p9 (.int .i64 1)) m) fun x9 m=>
  k1 x9 p1 p3 p0 p8 p2 m)
  (Q9c G k0 p8 p2 p1 p3 p0 m)
def Q1h (G:Gt)(k0:V → V → V → V → V → M → R):Nat → V → V → V → V → V → V → M → R
 | 0,_,_,_,_,_,_,_=>none
 | i + 1,p9,p1,p3,p0,p8,p2,m=>
  bp (pur (bin .gtr false true .int p9 p1) m) fun x10 m=>
  brt x10
  (bp (pur (aIndexAddrSl 7 p0 p9) m) fun x11 m=>
  bp (pur (aLoad true 7 x11 m) m) fun x12 m=>
  bp (pur (bin .sub true true .int p9 (.int .i64 1)) m) fun x13 m=>
  bp (pur (aIndexAddrSl 7 p0 x13) m) fun x14 m=>
  bp (pur (aLoad true 7 x14 m) m) fun x15 m=>
  bp (evCall G.tab p3 [x12,x15] m) fun x16 m=>
  bp (pur (bin .lss true true .int x16 (.int .i64 0)) m) fun x17 m=>
  Q3t G (Q1h G k0 i) k0 x17 p0 p9 p1 p3 p8 p2 m)
  (Q3t G (Q1h G k0 i) k0 (.bool false) p0 p9 p1 p3 p8 p2 m)
  (none)
def Q9d (G:Gt)(k0:V → V → V → V → V → M → R)(p9 p1 p3 p0 p8 p2:V)(m:M):R:=
  Q1h G k0 G.rds p9 p1 p3 p0 p8 p2 m
def Q9e (G:Gt)(k0:V → V → V → V → V → M → R)(p8 p1 p3 p0 p2:V)(m:M):R:=
  Q9d G k0 p8 p1 p3 p0 p8 p2 m
def Qb (G:Gt):Nat → V → V → V → V → V → M → R
 | 0,_,_,_,_,_,_=>none
 | i + 1,p8,p2,p1,p3,p0,m=>
  bp (pur (bin .lss false true .int p8 p2) m) fun x18 m=>
  brb x18
  (Q9e G (Qb G i) p8 p1 p3 p0 p2 m)
  (some (.tuple ⟨[]⟩,m))
def Q9f (G:Gt)(p8 p2 p1 p3 p0:V)(m:M):R:=
  Qb G G.rds p8 p2 p1 p3 p0 m
def Q4j (G:Gt)(p1 p2 p3 p0:V)(m:M):R:=
  bp (pur (bin .add true true .int p1 (.int .i64 1)) m) fun x19 m=>
  Q9f G x19 p2 p1 p3 p0 m
theorem Qnu (G:Gt)(a0 a1 a2 a3:V)(m:M):ef G Tryz.f392 [a0,a1,a2,a3] m = Q4j G a1 a2 a3 a0 m:=
  evFn_of (r:=fun r m=>Q4j G (r 1) (r 2) (r 3) (r 0) m) rfl rfl (tr (seqQ (f:=fun r m=>Q9f G (r 8) (r 2) (r 1) (r 3) (r 0) m) (tr (blockQ (loopQ (fun i r m=>Qb G i (r 8) (r 2) (r 1) (r 3) (r 0) m) (fun _ _=>rfl) (fun i0=>tr (seqQ (f:=fun r m=>Q9e G (Qb G i0) (r 8) (r 1) (r 3) (r 0) (r 2) m) (tr (tr (seqQ (f:=fun r m=>Q9c G (Qb G i0) (r 8) (r 2) (r 1) (r 3) (r 0) m) (fun r m=>by kernel_rfl)) (blockQ (seqQ (f:=fun r m=>Q9d G (Qb G i0) (r 9) (r 1) (r 3) (r 0) (r 8) (r 2) m) (tr (blockQ (loopQ (fun i r m=>Q1h G (Qb G i0) i (r 9) (r 1) (r 3) (r 0) (r 8) (r 2) m) (fun _ _=>rfl) (fun i1=>tr (tr seqD (seqQ (f:=fun r m=>Q3t G (Q1h G (Qb G i0) i1) (Qb G i0) (r 34) (r 0) (r 9) (r 1) (r 3) (r 8) (r 2) m) (fun r m=>by kernel_rfl))) (fun r m=>by kernel_rfl)))) (fun r m=>by kernel_rfl))))) (fun r m=>by kernel_rfl))) (fun r m=>by kernel_rfl)))) (fun r m=>by kernel_rfl))) (fun r m=>by kernel_rfl)) m
def Qni:En:=⟨Q4c,Tryz.f392,Tryz.func392,by kernel_rfl,arg4 (fun G a0 a1 a2 a3 m=>Q4j G a1 a2 a3 a0 m),okarg4 Qnu⟩
def Qn7 (G:Gt)(p0:V)(m:M):R:=
  bp (pur (bin .neq false true .int p0 p0) m) fun x0 m=>
  some (x0,m)
theorem Q1eo (G:Gt)(a0:V)(m:M):ef G Tryz.f394 [a0] m = Qn7 G a0 m:=
  evFn_of (r:=fun r m=>Qn7 G (r 0) m) rfl rfl (fun r m=>by kernel_rfl) m
def Q1e0:En:=⟨Qmi,Tryz.f394,Tryz.func394,by kernel_rfl,arg1 Qn7,okarg1 Q1eo⟩
def Q9g (G:Gt)(k0:V → V → V → V → V → M → R)(p8 p2 p1 p3 p0:V)(m:M):R:=
  bp (pur (bin .add true true .int p8 (.int .i64 1)) m) fun x0 m=>
  k0 x0 p2 p1 p3 p0 m
def Q3u (G:Gt)(k1:V → V → V → V → V → V → M → R)(k0:V → V → V → V → V → M → R)(p34 p0 p9 p1 p3 p8 p2:V)(m:M):R:=
  brb p34
  (bp (pur (bin .sub true true .int p9 (.int .i64 1)) m) fun x1 m=>
  bp (pur (bin .sub true true .int p9 (.int .i64 1)) m) fun x2 m=>
  bp (pur (aIndexAddrSl 12 p0 x2) m) fun x3 m=>
  bp (pur (aLoad true 12 x3 m) m) fun x4 m=>
  bp (pur (aIndexAddrSl 12 p0 p9) m) fun x5 m=>
  bp (pur (aLoad true 12 x5 m) m) fun x6 m=>
  bp (pur (aIndexAddrSl 12 p0 p9) m) fun x7 m=>
  bp (unt (aStore 12 x7 x4 m)) fun _ m=>
  bp (pur (aIndexAddrSl 12 p0 x1) m) fun x8 m=>
  bp (unt (aStore 12 x8 x6 m)) fun _ m=>
  bp (pur (bin .sub true true .int p9 (.int .i64 1)) m) fun x9 m=>
  k1 x9 p1 p3 p0 p8 p2 m)
  (Q9g G k0 p8 p2 p1 p3 p0 m)
def Q1i (G:Gt)(k0:V → V → V → V → V → M → R):Nat → V → V → V → V → V → V → M → R
 | 0,_,_,_,_,_,_,_=>none
 | i + 1,p9,p1,p3,p0,p8,p2,m=>
  bp (pur (bin .gtr false true .int p9 p1) m) fun x10 m=>
  brt x10
  (bp (pur (aIndexAddrSl 12 p0 p9) m) fun x11 m=>
  bp (pur (aLoad true 12 x11 m) m) fun x12 m=>
  bp (pur (bin .sub true true .int p9 (.int .i64 1)) m) fun x13 m=>
  bp (pur (aIndexAddrSl 12 p0 x13) m) fun x14 m=>
  bp (pur (aLoad true 12 x14 m) m) fun x15 m=>
  bp (evCall G.tab p3 [x12,x15] m) fun x16 m=>
  bp (pur (bin .lss true true .int x16 (.int .i64 0)) m) fun x17 m=>
  Q3u G (Q1i G k0 i) k0 x17 p0 p9 p1 p3 p8 p2 m)
  (Q3u G (Q1i G k0 i) k0 (.bool false) p0 p9 p1 p3 p8 p2 m)
  (none)
def Q9h (G:Gt)(k0:V → V → V → V → V → M → R)(p9 p1 p3 p0 p8 p2:V)(m:M):R:=
  Q1i G k0 G.rds p9 p1 p3 p0 p8 p2 m
def Q9i (G:Gt)(k0:V → V → V → V → V → M → R)(p8 p1 p3 p0 p2:V)(m:M):R:=
  Q9h G k0 p8 p1 p3 p0 p8 p2 m
def Qc (G:Gt):Nat → V → V → V → V → V → M → R
 | 0,_,_,_,_,_,_=>none
 | i + 1,p8,p2,p1,p3,p0,m=>
  bp (pur (bin .lss false true .int p8 p2) m) fun x18 m=>
  brb x18
  (Q9i G (Qc G i) p8 p1 p3 p0 p2 m)
  (some (.tuple ⟨[]⟩,m))
def Q9j (G:Gt)(p8 p2 p1 p3 p0:V)(m:M):R:=
  Qc G G.rds p8 p2 p1 p3 p0 m
def Q4k (G:Gt)(p1 p2 p3 p0:V)(m:M):R:=
  bp (pur (bin .add true true .int p1 (.int .i64 1)) m) fun x19 m=>
  Q9j G x19 p2 p1 p3 p0 m
theorem Qnv (G:Gt)(a0 a1 a2 a3:V)(m:M):ef G Tryz.f395 [a0,a1,a2,a3] m = Q4k G a1 a2 a3 a0 m:=
  evFn_of (r:=fun r m=>Q4k G (r 1) (r 2) (r 3) (r 0) m) rfl rfl (tr (seqQ (f:=fun r m=>Q9j G (r 8) (r 2) (r 1) (r 3) (r 0) m) (tr (blockQ (loopQ (fun i r m=>Qc G i (r 8) (r 2) (r 1) (r 3) (r 0) m) (fun _ _=>rfl) (fun i0=>tr (seqQ (f:=fun r m=>Q9i G (Qc G i0) (r 8) (r 1) (r 3) (r 0) (r 2) m) (tr (tr (seqQ (f:=fun r m=>Q9g G (Qc G i0) (r 8) (r 2) (r 1) (r 3) (r 0) m) (fun r m=>by kernel_rfl)) (blockQ (seqQ (f:=fun r m=>Q9h G (Qc G i0) (r 9) (r 1) (r 3) (r 0) (r 8) (r 2) m) (tr (blockQ (loopQ (fun i r m=>Q1i G (Qc G i0) i (r 9) (r 1) (r 3) (r 0) (r 8) (r 2) m) (fun _ _=>rfl) (fun i1=>tr (tr seqD (seqQ (f:=fun r m=>Q3u G (Q1i G (Qc G i0) i1) (Qc G i0) (r 34) (r 0) (r 9) (r 1) (r 3) (r 8) (r 2) m) (fun r m=>by kernel_rfl))) (fun r m=>by kernel_rfl)))) (fun r m=>by kernel_rfl))))) (fun r m=>by kernel_rfl))) (fun r m=>by kernel_rfl)))) (fun r m=>by kernel_rfl))) (fun r m=>by kernel_rfl)) m
def Qnf:En:=⟨Q4d,Tryz.f395,Tryz.func395,by kernel_rfl,arg4 (fun G a0 a1 a2 a3 m=>Q4k G a1 a2 a3 a0 m),okarg4 Qnv⟩
def Q9k (G:Gt)(k0:V → V → V → V → V → M → R)(p8 p2 p1 p3 p0:V)(m:M):R:=
  bp (pur (bin .add true true .int p8 (.int .i64 1)) m) fun x0 m=>
  k0 x0 p2 p1 p3 p0 m
def Q3v (G:Gt)(k1:V → V → V → V → V → V → M → R)(k0:V → V → V → V → V → M → R)(p34 p0 p9 p1 p3 p8 p2:V)(m:M):R:=
  brb p34
  (bp (pur (bin .sub true true .int p9 (.int .i64 1)) m) fun x1 m=>
  bp (pur (bin .sub true true .int p9 (.int .i64 1)) m) fun x2 m=>
  bp (pur (aIndexAddrSl 2 p0 x2) m) fun x3 m=>
  bp (pur (aLoad true 2 x3 m) m) fun x4 m=>
  bp (pur (aIndexAddrSl 2 p0 p9) m) fun x5 m=>
  bp (pur (aLoad true 2 x5 m) m) fun x6 m=>
  bp (pur (aIndexAddrSl 2 p0 p9) m) fun x7 m=>
  bp (unt (aStore 2 x7 x4 m)) fun _ m=>
  bp (pur (aIndexAddrSl 2 p0 x1) m) fun x8 m=>
  bp (unt (aStore 2 x8 x6 m)) fun _ m=>
  bp (pur (bin .sub true true .int p9 (.int .i64 1)) m) fun x9 m=>
  k1 x9 p1 p3 p0 p8 p2 m)
  (Q9k G k0 p8 p2 p1 p3 p0 m)
def Q1j (G:Gt)(k0:V → V → V → V → V → M → R):Nat → V → V → V → V → V → V → M → R
 | 0,_,_,_,_,_,_,_=>none
 | i + 1,p9,p1,p3,p0,p8,p2,m=>
  bp (pur (bin .gtr false true .int p9 p1) m) fun x10 m=>
  brt x10
  (bp (pur (aIndexAddrSl 2 p0 p9) m) fun x11 m=>
  bp (pur (aLoad true 2 x11 m) m) fun x12 m=>
  bp (pur (bin .sub true true .int p9 (.int .i64 1)) m) fun x13 m=>
  bp (pur (aIndexAddrSl 2 p0 x13) m) fun x14 m=>
  bp (pur (aLoad true 2 x14 m) m) fun x15 m=>
  bp (evCall G.tab p3 [x12,x15] m) fun x16 m=>
  bp (pur (bin .lss true true .int x16 (.int .i64 0)) m) fun x17 m=>
  Q3v G (Q1j G k0 i) k0 x17 p0 p9 p1 p3 p8 p2 m)
  (Q3v G (Q1j G k0 i) k0 (.bool false) p0 p9 p1 p3 p8 p2 m)
  (none)
def Q9l (G:Gt)(k0:V → V → V → V → V → M → R)(p9 p1 p3 p0 p8 p2:V)(m:M):R:=
  Q1j G k0 G.rds p9 p1 p3 p0 p8 p2 m
def Q9m (G:Gt)(k0:V → V → V → V → V → M → R)(p8 p1 p3 p0 p2:V)(m:M):R:=
  Q9l G k0 p8 p1 p3 p0 p8 p2 m
def Qd (G:Gt):Nat → V → V → V → V → V → M → R
 | 0,_,_,_,_,_,_=>none
 | i + 1,p8,p2,p1,p3,p0,m=>
  bp (pur (bin .lss false true .int p8 p2) m) fun x18 m=>
  brb x18
  (Q9m G (Qd G i) p8 p1 p3 p0 p2 m)
  (some (.tuple ⟨[]⟩,m))
def Q9n (G:Gt)(p8 p2 p1 p3 p0:V)(m:M):R:=
  Qd G G.rds p8 p2 p1 p3 p0 m
def Q4l (G:Gt)(p1 p2 p3 p0:V)(m:M):R:=
  bp (pur (bin .add true true .int p1 (.int .i64 1)) m) fun x19 m=>
  Q9n G x19 p2 p1 p3 p0 m
theorem Qnw (G:Gt)(a0 a1 a2 a3:V)(m:M):ef G Tryz.f398 [a0,a1,a2,a3] m = Q4l G a1 a2 a3 a0 m:=
  evFn_of (r:=fun r m=>Q4l G (r 1) (r 2) (r 3) (r 0) m) rfl rfl (tr (seqQ (f:=fun r m=>Q9n G (r 8) (r 2) (r 1) (r 3) (r 0) m) (tr (blockQ (loopQ (fun i r m=>Qd G i (r 8) (r 2) (r 1) (r 3) (r 0) m) (fun _ _=>rfl) (fun i0=>tr (seqQ (f:=fun r m=>Q9m G (Qd G i0) (r 8) (r 1) (r 3) (r 0) (r 2) m) (tr (tr (seqQ (f:=fun r m=>Q9k G (Qd G i0) (r 8) (r 2) (r 1) (r 3) (r 0) m) (fun r m=>by kernel_rfl)) (blockQ (seqQ (f:=fun r m=>Q9l G (Qd G i0) (r 9) (r 1) (r 3) (r 0) (r 8) (r 2) m) (tr (blockQ (loopQ (fun i r m=>Q1j G (Qd G i0) i (r 9) (r 1) (r 3) (r 0) (r 8) (r 2) m) (fun _ _=>rfl) (fun i1=>tr (tr seqD (seqQ (f:=fun r m=>Q3v G (Q1j G (Qd G i0) i1) (Qd G i0) (r 34) (r 0) (r 9) (r 1) (r 3) (r 8) (r 2) m) (fun r m=>by kernel_rfl))) (fun r m=>by kernel_rfl)))) (fun r m=>by kernel_rfl))))) (fun r m=>by kernel_rfl))) (fun r m=>by kernel_rfl)))) (fun r m=>by kernel_rfl))) (fun r m=>by kernel_rfl)) m
def Qnl:En:=⟨Qaw,Tryz.f398,Tryz.func398,by kernel_rfl,arg4 (fun G a0 a1 a2 a3 m=>Q4l G a1 a2 a3 a0 m),okarg4 Qnw⟩
end
end Go.Ab.Sh

set_option linter.unusedVariables false
set_option maxRecDepth 100000
namespace Go.Ab.Sh
open Go Go.Ab Go.Proofs
noncomputable section
def Q77 (G:Gt)(k0:V → V → V → V → V → V → V → M → R)(p97 p0 p1 p2 p13 p4 p3 p10 p11 p12:V)(m:M):R:=
  brb p97
  (bp (G.tab Qqc [p0,p1,p2,p13,p4] m) fun x0 m=>
  k0 p2 x0 p0 p4 p3 p10 p11 m)
  (bp (G.tab Qx1 [p0,p1,p2,p13,p4] m) fun x1 m=>
  bp (pur (aExtract x1 0) m) fun x2 m=>
  bp (pur (aExtract x1 1) m) fun x3 m=>
  bp (pur (bin .sub false true .int x2 p1) m) fun x4 m=>
  bp (pur (bin .sub false true .int p2 x2) m) fun x5 m=>
  bp (pur (bin .quo true true .int p12 (.int .i64 8)) m) fun x6 m=>
  bp (pur (bin .lss false true .int x4 x5) m) fun x7 m=>
  brb x7
  (bp (pur (bin .geq false true .int x4 x6) m) fun x8 m=>
  bp (G.tab Q4w [p0,p1,x2,p3,p4] m) fun x9 m=>
  bp (pur (bin .add true true .int x2 (.int .i64 1)) m) fun x10 m=>
  k0 p2 x10 p0 p4 p3 x8 x3 m)
  (bp (pur (bin .geq false true .int x5 x6) m) fun x11 m=>
  bp (pur (bin .add true true .int x2 (.int .i64 1)) m) fun x12 m=>
  bp (G.tab Q4w [p0,x12,p2,p3,p4] m) fun x13 m=>
  k0 x2 p1 p0 p4 p3 x11 x3 m))
def Q7j (G:Gt)(k0:V → V → V → V → V → V → V → M → R)(p1 p4 p0 p13 p2 p3 p10 p11 p12:V)(m:M):R:=
  bp (pur (bin .gtr true true .int p1 (.int .i64 0)) m) fun x14 m=>
  brt x14
  (bp (pur (bin .sub true true .int p1 (.int .i64 1)) m) fun x15 m=>
  bp (pur (aIndexAddrSl 2 p0 x15) m) fun x16 m=>
  bp (pur (aLoad true 2 x16 m) m) fun x17 m=>
  bp (pur (aIndexAddrSl 2 p0 p13) m) fun x18 m=>
  bp (pur (aLoad true 2 x18 m) m) fun x19 m=>
  bp (evCall G.tab p4 [x17,x19] m) fun x20 m=>
  bp (pur (bin .lss true true .int x20 (.int .i64 0)) m) fun x21 m=>
  bp (pur (un .not x21) m) fun x22 m=>
  Q77 G k0 x22 p0 p1 p2 p13 p4 p3 p10 p11 p12 m)
  (Q77 G k0 (.bool false) p0 p1 p2 p13 p4 p3 p10 p11 p12 m)
  (none)
def Q3o (G:Gt)(k0:V → V → V → V → V → V → V → M → R)(p75 p0 p1 p2 p4 p13 p3 p10 p11 p12:V)(m:M):R:=
  brb p75
  (bp (G.tab Qkg [p0,p1,p2,p4] m) fun x23 m=>
  brb x23
  (some (.tuple ⟨[]⟩,m))
  (Q7j G k0 p1 p4 p0 p13 p2 p3 p10 p11 p12 m))
  (Q7j G k0 p1 p4 p0 p13 p2 p3 p10 p11 p12 m)
def Q7k (G:Gt)(k0:V → V → V → V → V → V → V → M → R)(p10 p11 p14 p0 p1 p2 p4 p13 p3 p12:V)(m:M):R:=
  brb p10
  (brb p11
  (bp (pur (bin .eql true true .int p14 (.int .i64 1)) m) fun x24 m=>
  Q3o G k0 x24 p0 p1 p2 p4 p13 p3 p10 p11 p12 m)
  (Q3o G k0 (.bool false) p0 p1 p2 p4 p13 p3 p10 p11 p12 m))
  (Q3o G k0 (.bool false) p0 p1 p2 p4 p13 p3 p10 p11 p12 m)
def Qg2 (G:Gt)(k0:V → V → V → V → V → V → V → M → R)(p14 p0 p1 p2 p4 p13 p10 p11 p3 p12:V)(m:M):R:=
  bp (pur (bin .eql true true .int p14 (.int .i64 2)) m) fun x25 m=>
  brb x25
  (bp (G.tab Qt4 [p0,p1,p2,p4] m) fun x26 m=>
  bp (pur (bin .sub true true .int p2 (.int .i64 1)) m) fun x27 m=>
  bp (pur (bin .sub false true .int p13 p1) m) fun x28 m=>
  bp (pur (bin .sub false true .int x27 x28) m) fun x29 m=>
  Q7k G k0 p10 p11 (.int .i64 1) p0 p1 p2 p4 x29 p3 p12 m)
  (Q7k G k0 p10 p11 p14 p0 p1 p2 p4 p13 p3 p12 m)
def Q7l (G:Gt)(k0:V → V → V → V → V → V → V → M → R)(p0 p1 p2 p4 p10 p11 p3 p12:V)(m:M):R:=
  bp (G.tab Quw [p0,p1,p2,p4] m) fun x30 m=>
  bp (pur (aExtract x30 0) m) fun x31 m=>
  bp (pur (aExtract x30 1) m) fun x32 m=>
  Qg2 G k0 x32 p0 p1 p2 p4 x31 p10 p11 p3 p12 m
def Qg3 (G:Gt)(k0:V → V → V → V → V → V → V → M → R)(p10 p0 p1 p2 p4 p3 p11 p12:V)(m:M):R:=
  bp (pur (un .not p10) m) fun x33 m=>
  brb x33
  (bp (G.tab Qro [p0,p1,p2,p4] m) fun x34 m=>
  bp (pur (bin .sub true true .int p3 (.int .i64 1)) m) fun x35 m=>
  Q7l G k0 p0 p1 p2 p4 p10 p11 x35 p12 m)
  (Q7l G k0 p0 p1 p2 p4 p10 p11 p3 p12 m)
def Qg4 (G:Gt)(k0:V → V → V → V → V → V → V → M → R)(p3 p0 p1 p2 p4 p10 p11 p12:V)(m:M):R:=
  bp (pur (bin .eql true true .int p3 (.int .i64 0)) m) fun x36 m=>
  brb x36
  (bp (G.tab Qz9 [p0,p1,p2,p4] m) fun x37 m=>
  some (.tuple ⟨[]⟩,m))
  (Qg3 G k0 p10 p0 p1 p2 p4 p3 p11 p12 m)
def Qg5 (G:Gt)(k0:V → V → V → V → V → V → V → M → R)(p12 p0 p1 p2 p4 p3 p10 p11:V)(m:M):R:=
  bp (pur (bin .leq true true .int p12 (.int .i64 12)) m) fun x38 m=>
  brb x38
  (bp (G.tab Qc1 [p0,p1,p2,p4] m) fun x39 m=>
  some (.tuple ⟨[]⟩,m))
  (Qg4 G k0 p3 p0 p1 p2 p4 p10 p11 p12 m)
def Q8 (G:Gt):Nat → V → V → V → V → V → V → V → M → R
 | 0,_,_,_,_,_,_,_,_=>none
 | i + 1,p2,p1,p0,p4,p3,p10,p11,m=>
  bp (pur (bin .sub false true .int p2 p1) m) fun x40 m=>
  Qg5 G (Q8 G i) x40 p0 p1 p2 p4 p3 p10 p11 m
def Qg6 (G:Gt)(p2 p1 p0 p4 p3 p10 p11:V)(m:M):R:=
  Q8 G G.rds p2 p1 p0 p4 p3 p10 p11 m
def Qg7 (G:Gt)(p2 p1 p0 p4 p3 p10:V)(m:M):R:=
  Qg6 G p2 p1 p0 p4 p3 p10 (.bool true) m
def Qa6 (G:Gt)(p2 p1 p0 p4 p3:V)(m:M):R:=
  Qg7 G p2 p1 p0 p4 p3 (.bool true) m
theorem Q10k (G:Gt)(a0 a1 a2 a3 a4:V)(m:M):ef G Tryz.f412 [a0,a1,a2,a3,a4] m = Qa6 G a2 a1 a0 a4 a3 m:=
  evFn_of (r:=fun r m=>Qa6 G (r 2) (r 1) (r 0) (r 4) (r 3) m) rfl rfl (tr (seqQ (f:=fun r m=>Qg7 G (r 2) (r 1) (r 0) (r 4) (r 3) (r 10) m) (tr (seqQ (f:=fun r m=>Qg6 G (r 2) (r 1) (r 0) (r 4) (r 3) (r 10) (r 11) m) (tr (blockQ (loopQ (fun i r m=>Q8 G i (r 2) (r 1) (r 0) (r 4) (r 3) (r 10) (r 11) m) (fun _ _=>rfl) (fun i0=>tr (blockQ (seqQ (f:=fun r m=>Qg5 G (Q8 G i0) (r 12) (r 0) (r 1) (r 2) (r 4) (r 3) (r 10) (r 11) m) (tr (seqQ (f:=fun r m=>Qg4 G (Q8 G i0) (r 3) (r 0) (r 1) (r 2) (r 4) (r 10) (r 11) (r 12) m) (tr (seqQ (f:=fun r m=>Qg3 G (Q8 G i0) (r 10) (r 0) (r 1) (r 2) (r 4) (r 3) (r 11) (r 12) m) (tr (seqQ (f:=fun r m=>Q7l G (Q8 G i0) (r 0) (r 1) (r 2) (r 4) (r 10) (r 11) (r 3) (r 12) m) (tr (seqQ (f:=fun r m=>Qg2 G (Q8 G i0) (r 14) (r 0) (r 1) (r 2) (r 4) (r 13) (r 10) (r 11) (r 3) (r 12) m) (tr (seqQ (f:=fun r m=>Q7k G (Q8 G i0) (r 10) (r 11) (r 14) (r 0) (r 1) (r 2) (r 4) (r 13) (r 3) (r 12) m) (tr (tr (seqQ (f:=fun r m=>Q7j G (Q8 G i0) (r 1) (r 4) (r 0) (r 13) (r 2) (r 3) (r 10) (r 11) (r 12) m) (tr (tr seqD (seqQ (f:=fun r m=>Q77 G (Q8 G i0) (r 97) (r 0) (r 1) (r 2) (r 13) (r 4) (r 3) (r 10) (r 11) (r 12) m) (fun r m=>by kernel_rfl))) (fun r m=>by kernel_rfl))) (seqQ (f:=fun r m=>Q3o G (Q8 G i0) (r 75) (r 0) (r 1) (r 2) (r 4) (r 13) (r 3) (r 10) (r 11) (r 12) m) (fun r m=>by kernel_rfl))) (fun r m=>by kernel_rfl))) (fun r m=>by kernel_rfl))) (fun r m=>by kernel_rfl))) (fun r m=>by kernel_rfl))) (fun r m=>by kernel_rfl))) (fun r m=>by kernel_rfl)))) (fun r m=>by kernel_rfl)))) (fun r m=>by kernel_rfl))) (fun r m=>by kernel_rfl))) (fun r m=>by kernel_rfl)) m
def Qzt:En:=⟨Q4w,Tryz.f412,Tryz.func412,by kernel_rfl,arg5 (fun G a0 a1 a2 a3 a4 m=>Qa6 G a2 a1 a0 a4 a3 m),okarg5 Q10k⟩
def Qeo (G:Gt)(p0 p1 p2 p4 p3:V)(m:M):R:=
  bp (G.tab Q7r [p0,p1,p2,p4] m) fun x0 m=>
  bp (pur (aExtract x0 0) m) fun x1 m=>
  bp (pur (aExtract x0 1) m) fun x2 m=>
  bp (G.tab Q7r [p0,x2,p3,p4] m) fun x3 m=>
  bp (pur (aExtract x3 0) m) fun x4 m=>
  bp (pur (aExtract x3 1) m) fun x5 m=>
  bp (G.tab Q7r [p0,x1,x4,p4] m) fun x6 m=>
  bp (pur (aExtract x6 0) m) fun x7 m=>
  bp (pur (aExtract x6 1) m) fun x8 m=>
  some (x8,m)
theorem Q17e (G:Gt)(a0 a1 a2 a3 a4:V)(m:M):ef G Tryz.f424 [a0,a1,a2,a3,a4] m = Qeo G a0 a1 a2 a4 a3 m:=
  evFn_of (r:=fun r m=>Qeo G (r 0) (r 1) (r 2) (r 4) (r 3) m) rfl rfl (fun r m=>by kernel_rfl) m
def Q16e:En:=⟨Qof,Tryz.f424,Tryz.func424,by kernel_rfl,arg5 (fun G a0 a1 a2 a3 a4 m=>Qeo G a0 a1 a2 a4 a3 m),okarg5 Q17e⟩
def Qfk (G:Gt)(p0 p1 p2 p3:V)(m:M):R:=
  bp (some (aNew Q1r (Value.cells p0).toList m)) fun x0 m=>
  bp (pur (aLoad false 1 p1 m) m) fun x1 m=>
  bp (pur (aLoad true 11 x0 m) m) fun x2 m=>
  bp (pur (aLoad false 1 p1 m) m) fun x3 m=>
  bp (pur (aLoad false 1 p2 m) m) fun x4 m=>
  bp (pur (aLoad false 1 p3 m) m) fun x5 m=>
  bp (pur (aIndexAddrSl 11 x4 x5) m) fun x6 m=>
  bp (pur (aLoad true 11 x6 m) m) fun x7 m=>
  bp (evCall G.tab x1 [x2] m) fun x8 m=>
  ckB (again (pur (aLoad false 1 p1 m) m) x3 && (again (pur (aLoad false 1 p2 m) m) x4 && (again (pur (aLoad false 1 p3 m) m) x5 && (again (pur (aLoad true 11 x6 m) m) x7 && true))))
  (bp (evCall G.tab x3 [x7] m) fun x9 m=>
  bp (pur (bin .eql false true .str x8 x9) m) fun x10 m=>
  some (x10,m))
theorem Q18b (G:Gt)(a0 a1 a2 a3:V)(m:M):ef G Tryz.f426 [a0,a1,a2,a3] m = Qfk G a0 a1 a2 a3 m:=
  evFn_of (r:=fun r m=>Qfk G (r 0) (r 1) (r 2) (r 3) m) rfl rfl (fun r m=>by kernel_rfl) m
def Q17o:En:=⟨Qqd,Tryz.f426,Tryz.func426,by kernel_rfl,arg4 Qfk,okarg4 Q18b⟩
def Qai (G:Gt)(k0:V → V → V → V → V → M → R)(p8 p2 p1 p3 p0:V)(m:M):R:=
  bp (pur (bin .add true true .int p8 (.int .i64 1)) m) fun x0 m=>
  k0 x0 p2 p1 p3 p0 m
def Q47 (G:Gt)(k1:V → V → V → V → V → V → M → R)(k0:V → V → V → V → V → M → R)(p34 p0 p9 p1 p3 p8 p2:V)(m:M):R:=
  brb p34
  (bp (pur (bin .sub true true .int p9 (.int .i64 1)) m) fun x1 m=>
  bp (pur (bin .sub true true .int p9 (.int .i64 1)) m) fun x2 m=>
  bp (pur (aIndexAddrSl 11 p0 x2) m) fun x3 m=>
  bp (pur (aLoad true 11 x3 m) m) fun x4 m=>
  bp (pur (aIndexAddrSl 11 p0 p9) m) fun x5 m=>
  bp (pur (aLoad true 11 x5 m) m) fun x6 m=>
  bp (pur (aIndexAddrSl 11 p0 p9) m) fun x7 m=>
  bp (unt (aStore 11 x7 x4 m)) fun _ m=>
  bp (pur (aIndexAddrSl 11 p0 x1) m) fun x8 m=>
  bp (unt (aStore 11 x8 x6 m)) fun _ m=>
  bp (pur (bin .sub true true .int p9 (.int .i64 1)) m) fun x9 m=>
  k1 x9 p1 p3 p0 p8 p2 m)
  (Qai G k0 p8 p2 p1 p3 p0 m)
def Q1n (G:Gt)(k0:V → V → V → V → V → M → R):Nat → V → V → V → V → V → V → M → R
 | 0,_,_,_,_,_,_,_=>none
 | i + 1,p9,p1,p3,p0,p8,p2,m=>
  bp (pur (bin .gtr false true .int p9 p1) m) fun x10 m=>
  brt x10
  (bp (pur (aIndexAddrSl 11 p0 p9) m) fun x11 m=>
  bp (pur (aLoad true 11 x11 m) m) fun x12 m=>
  bp (pur (bin .sub true true .int p9 (.int .i64 1)) m) fun x13 m=>
  bp (pur (aIndexAddrSl 11 p0 x13) m) fun x14 m=>
  bp (pur (aLoad true 11 x14 m) m) fun x15 m=>
  bp (evCall G.tab p3 [x12,x15] m) fun x16 m=>
  bp (pur (bin .lss true true .int x16 (.int .i64 0)) m) fun x17 m=>
  Q47 G (Q1n G k0 i) k0 x17 p0 p9 p1 p3 p8 p2 m)
  (Q47 G (Q1n G k0 i) k0 (.bool false) p0 p9 p1 p3 p8 p2 m)
  (none)
def Qaj (G:Gt)(k0:V → V → V → V → V → M → R)(p9 p1 p3 p0 p8 p2:V)(m:M):R:=
  Q1n G k0 G.rds p9 p1 p3 p0 p8 p2 m
def Qak (G:Gt)(k0:V → V → V → V → V → M → R)(p8 p1 p3 p0 p2:V)(m:M):R:=
  Qaj G k0 p8 p1 p3 p0 p8 p2 m
def Qh (G:Gt):Nat → V → V → V → V → V → M → R
 | 0,_,_,_,_,_,_=>none
 | i + 1,p8,p2,p1,p3,p0,m=>
  bp (pur (bin .lss false true .int p8 p2) m) fun x18 m=>
  brb x18
  (Qak G (Qh G i) p8 p1 p3 p0 p2 m)
  (some (.tuple ⟨[]⟩,m))
def Qal (G:Gt)(p8 p2 p1 p3 p0:V)(m:M):R:=
  Qh G G.rds p8 p2 p1 p3 p0 m
def Q50 (G:Gt)(p1 p2 p3 p0:V)(m:M):R:=
  bp (pur (bin .add true true .int p1 (.int .i64 1)) m) fun x19 m=>
  Qal G x19 p2 p1 p3 p0 m
theorem Qpu (G:Gt)(a0 a1 a2 a3:V)(m:M):ef G Tryz.f443 [a0,a1,a2,a3] m = Q50 G a1 a2 a3 a0 m:=
  evFn_of (r:=fun r m=>Q50 G (r 1) (r 2) (r 3) (r 0) m) rfl rfl (tr (seqQ (f:=fun r m=>Qal G (r 8) (r 2) (r 1) (r 3) (r 0) m) (tr (blockQ (loopQ (fun i r m=>Qh G i (r 8) (r 2) (r 1) (r 3) (r 0) m) (fun _ _=>rfl) (fun i0=>tr (seqQ (f:=fun r m=>Qak G (Qh G i0) (r 8) (r 1) (r 3) (r 0) (r 2) m) (tr (tr (seqQ (f:=fun r m=>Qai G (Qh G i0) (r 8) (r 2) (r 1) (r 3) (r 0) m) (fun r m=>by kernel_rfl)) (blockQ (seqQ (f:=fun r m=>Qaj G (Qh G i0) (r 9) (r 1) (r 3) (r 0) (r 8) (r 2) m) (tr (blockQ (loopQ (fun i r m=>Q1n G (Qh G i0) i (r 9) (r 1) (r 3) (r 0) (r 8) (r 2) m) (fun _ _=>rfl) (fun i1=>tr (tr seqD (seqQ (f:=fun r m=>Q47 G (Q1n G (Qh G i0) i1) (Qh G i0) (r 34) (r 0) (r 9) (r 1) (r 3) (r 8) (r 2) m) (fun r m=>by kernel_rfl))) (fun r m=>by kernel_rfl)))) (fun r m=>by kernel_rfl))))) (fun r m=>by kernel_rfl))) (fun r m=>by kernel_rfl)))) (fun r m=>by kernel_rfl))) (fun r m=>by kernel_rfl)) m
def Qoq:En:=⟨Q51,Tryz.f443,Tryz.func443,by kernel_rfl,arg4 (fun G a0 a1 a2 a3 m=>Q50 G a1 a2 a3 a0 m),okarg4 Qpu⟩
def Q9o (G:Gt)(k0:V → V → V → V → V → M → R)(p8 p2 p1 p3 p0:V)(m:M):R:=
  bp (pur (bin .add true true .int p8 (.int .i64 1)) m) fun x0 m=>
  k0 x0 p2 p1 p3 p0 m
def Q3w (G:Gt)(k1:V → V → V → V → V → V → M → R)(k0:V → V → V → V → V → M → R)(p34 p0 p9 p1 p3 p8 p2:V)(m:M):R:=
  brb p34
  (bp (pur (bin .sub true true .int p9 (.int .i64 1)) m) fun x1 m=>
  bp (pur (bin .sub true true .int p9 (.int .i64 1)) m) fun x2 m=>
  bp (pur (aIndexAddrSl 2 p0 x2) m) fun x3 m=>
  bp (pur (aLoad true 2 x3 m) m) fun x4 m=>
  bp (pur (aIndexAddrSl 2 p0 p9) m) fun x5 m=>
  bp (pur (aLoad true 2 x5 m) m) fun x6 m=>
  bp (pur (aIndexAddrSl 2 p0 p9) m) fun x7 m=>
  bp (unt (aStore 2 x7 x4 m)) fun _ m=>
  bp (pur (aIndexAddrSl 2 p0 x1) m) fun x8 m=>
  bp (unt (aStore 2 x8 x6 m)) fun _ m=>
  bp (pur (bin .sub true true .int p9 (.int .i64 1)) m) fun x9 m=>
  k1 x9 p1 p3 p0 p8 p2 m)
  (Q9o G k0 p8 p2 p1 p3 p0 m)
def Q1k (G:Gt)(k0:V → V → V → V → V → M → R):Nat → V → V → V → V → V → V → M → R
 | 0,_,_,_,_,_,_,_=>none
 | i + 1,p9,p1,p3,p0,p8,p2,m=>
  bp (pur (bin .gtr false true .int p9 p1) m) fun x10 m=>
  brt x10
  (bp (pur (aIndexAddrSl 2 p0 p9) m) fun x11 m=>
  bp (pur (aLoad true 2 x11 m) m) fun x12 m=>
  bp (pur (bin .sub true true .int p9 (.int .i64 1)) m) fun x13 m=>
  bp (pur (aIndexAddrSl 2 p0 x13) m) fun x14 m=>
  bp (pur (aLoad true 2 x14 m) m) fun x15 m=>
  bp (evCall G.tab p3 [x12,x15] m) fun x16 m=>
  bp (pur (bin .lss true true .int x16 (.int .i64 0)) m) fun x17 m=>
  Q3w G (Q1k G k0 i) k0 x17 p0 p9 p1 p3 p8 p2 m)
  (Q3w G (Q1k G k0 i) k0 (.bool false) p0 p9 p1 p3 p8 p2 m)
  (none)
def Q9p (G:Gt)(k0:V → V → V → V → V → M → R)(p9 p1 p3 p0 p8 p2:V)(m:M):R:=
  Q1k G k0 G.rds p9 p1 p3 p0 p8 p2 m
def Q9q (G:Gt)(k0:V → V → V → V → V → M → R)(p8 p1 p3 p0 p2:V)(m:M):R:=
  Q9p G k0 p8 p1 p3 p0 p8 p2 m
def Qe (G:Gt):Nat → V → V → V → V → V → M → R
 | 0,_,_,_,_,_,_=>none
 | i + 1,p8,p2,p1,p3,p0,m=>
  bp (pur (bin .lss false true .int p8 p2) m) fun x18 m=>
  brb x18
  (Q9q G (Qe G i) p8 p1 p3 p0 p2 m)
  (some (.tuple ⟨[]⟩,m))
def Q9r (G:Gt)(p8 p2 p1 p3 p0:V)(m:M):R:=
  Qe G G.rds p8 p2 p1 p3 p0 m
def Q4m (G:Gt)(p1 p2 p3 p0:V)(m:M):R:=
  bp (pur (bin .add true true .int p1 (.int .i64 1)) m) fun x19 m=>
  Q9r G x19 p2 p1 p3 p0 m
theorem Qnx (G:Gt)(a0 a1 a2 a3:V)(m:M):ef G Tryz.f445 [a0,a1,a2,a3] m = Q4m G a1 a2 a3 a0 m:=
  evFn_of (r:=fun r m=>Q4m G (r 1) (r 2) (r 3) (r 0) m) rfl rfl (tr (seqQ (f:=fun r m=>Q9r G (r 8) (r 2) (r 1) (r 3) (r 0) m) (tr (blockQ (loopQ (fun i r m=>Qe G i (r 8) (r 2) (r 1) (r 3) (r 0) m) (fun _ _=>rfl) (fun i0=>tr (seqQ (f:=fun r m=>Q9q G (Qe G i0) (r 8) (r 1) (r 3) (r 0) (r 2) m) (tr (tr (seqQ (f:=fun r m=>Q9o G (Qe G i0) (r 8) (r 2) (r 1) (r 3) (r 0) m) (fun r m=>by kernel_rfl)) (blockQ (seqQ (f:=fun r m=>Q9p G (Qe G i0) (r 9) (r 1) (r 3) (r 0) (r 8) (r 2) m) (tr (blockQ (loopQ (fun i r m=>Q1k G (Qe G i0) i (r 9) (r 1) (r 3) (r 0) (r 8) (r 2) m) (fun _ _=>rfl) (fun i1=>tr (tr seqD (seqQ (f:=fun r m=>Q3w G (Q1k G (Qe G i0) i1) (Qe G i0) (r 34) (r 0) (r 9) (r 1) (r 3) (r 8) (r 2) m) (fun r m=>by kernel_rfl))) (fun r m=>by kernel_rfl)))) (fun r m=>by kernel_rfl))))) (fun r m=>by kernel_rfl))) (fun r m=>by kernel_rfl)))) (fun r m=>by kernel_rfl))) (fun r m=>by kernel_rfl)) m
def Qnh:En:=⟨Q4n,Tryz.f445,Tryz.func445,by kernel_rfl,arg4 (fun G a0 a1 a2 a3 m=>Q4m G a1 a2 a3 a0 m),okarg4 Qnx⟩
end
end Go.Ab.Sh
