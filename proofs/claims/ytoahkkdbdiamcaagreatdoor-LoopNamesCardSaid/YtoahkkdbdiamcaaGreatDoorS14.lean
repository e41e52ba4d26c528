/-
  Functions of the program as plain definitions. No conditions.
-/
import Derived.Test.YtoahkkdbdiamcaaGreatDoorAb5
import Derived.Test.YtoahkkdbdiamcaaGreatDoorZ
import Derived.KernelRfl
import Derived.Test.YtoahkkdbdiamcaaGreatDoorProg
set_option linter.unusedVariables false
set_option maxRecDepth 100000
namespace Go.Ab.Sh
open Go Go.Ab Go.Proofs
noncomputable section
def Qa1 (G:Gt)(k0:V → V → V → V → V → M → R)(p8 p2 p1 p3 p0:V)(m:M):R:=
  bp (pur (bin .add true true .int p8 (.int .i64 1)) m) fun x0 m=>
  k0 x0 p2 p1 p3 p0 m
def Q40 (G:Gt)(k1:V → V → V → V → V → V → M → R)(k0:V → V → V → V → V → M → R)(p34 p0 p9 p1 p3 p8 p2:V)(m:M):R:=
  brb p34
  (bp (pur (bin .sub true true .int p9 (.int .i64 1)) m) fun x1 m=>
  bp (pur (bin .sub true true .int p9 (.int .i64 1)) m) fun x2 m=>
  bp (pur (aIndexAddrSl 3 p0 x2) m) fun x3 m=>
  bp (pur (aLoad true 3 x3 m) m) fun x4 m=>
  bp (pur (aIndexAddrSl 3 p0 p9) m) fun x5 m=>
  bp (pur (aLoad true 3 x5 m) m) fun x6 m=>
  bp (pur (aIndexAddrSl 3 p0 p9) m) fun x7 m=>
  bp (unt (aStore 3 x7 x4 m)) fun _ m=>
  bp (pur (aIndexAddrSl 3 p0 x1) m) fun x8 m=>
  bp (unt (aStore 3 x8 x6 m)) fun _ m=>
  bp (pur (bin .sub true true .int p9 (.int .i64 1)) m) fun x9 m=>
  k1 x9 p1 p3 p0 p8 p2 m)
  (Qa1 G k0 p8 p2 p1 p3 p0 m)
def Q1m (G:Gt)(k0:V → V → V → V → V → M → R):Nat → V → V → V → V → V → V → M → R
 | 0,_,_,_,_,_,_,_=>none
 | i + 1,p9,p1,p3,p0,p8,p2,m=>
  bp (pur (bin .gtr false true .int p9 p1) m) fun x10 m=>
  brt x10
  (bp (pur (aIndexAddrSl 3 p0 p9) m) fun x11 m=>
  bp (pur (aLoad true 3 x11 m) m) fun x12 m=>
  bp (pur (bin .sub true true .int p9 (.int .i64 1)) m) fun x13 m=>
  bp (pur (aIndexAddrSl 3 p0 x13) m) fun x14 m=>
  bp (pur (aLoad true 3 x14 m) m) fun x15 m=>
  bp (evCall G.tab p3 [x12,x15] m) fun x16 m=>
  bp (pur (bin .lss true true .int x16 (.int .i64 0)) m) fun x17 m=>
  Q40 G (Q1m G k0 i) k0 x17 p0 p9 p1 p3 p8 p2 m)
  (Q40 G (Q1m G k0 i) k0 (.bool false) p0 p9 p1 p3 p8 p2 m)
  (none)
def Qa2 (G:Gt)(k0:V → V → V → V → V → M → R)(p9 p1 p3 p0 p8 p2:V)(m:M):R:=
  Q1m G k0 G.rds p9 p1 p3 p0 p8 p2 m
def Qa3 (G:Gt)(k0:V → V → V → V → V → M → R)(p8 p1 p3 p0 p2:V)(m:M):R:=
  Qa2 G k0 p8 p1 p3 p0 p8 p2 m
def Qe (G:Gt):Nat → V → V → V → V → V → M → R
 | 0,_,_,_,_,_,_=>none
 | i + 1,p8,p2,p1,p3,p0,m=>
  bp (pur (bin .lss false true .int p8 p2) m) fun x18 m=>
  brb x18
  (Qa3 G (Qe G i) p8 p1 p3 p0 p2 m)
  (some (.tuple ⟨[]⟩,m))
def Qa4 (G:Gt)(p8 p2 p1 p3 p0:V)(m:M):R:=
  Qe G G.rds p8 p2 p1 p3 p0 m
def Q4v (G:Gt)(p1 p2 p3 p0:V)(m:M):R:=
  bp (pur (bin .add true true .int p1 (.int .i64 1)) m) fun x19 m=>
  Qa4 G x19 p2 p1 p3 p0 m
theorem Qpc (G:Gt)(a0 a1 a2 a3:V)(m:M):ef G Tryz.f341 [a0,a1,a2,a3] m = Q4v G a1 a2 a3 a0 m:=
  evFn_of (r:=fun r m=>Q4v G (r 1) (r 2) (r 3) (r 0) m) rfl rfl (tr (seqQ (f:=fun r m=>Qa4 G (r 8) (r 2) (r 1) (r 3) (r 0) m) (tr (blockQ (loopQ (fun i r m=>Qe G i (r 8) (r 2) (r 1) (r 3) (r 0) m) (fun _ _=>rfl) (fun i0=>tr (seqQ (f:=fun r m=>Qa3 G (Qe G i0) (r 8) (r 1) (r 3) (r 0) (r 2) m) (tr (tr (seqQ (f:=fun r m=>Qa1 G (Qe G i0) (r 8) (r 2) (r 1) (r 3) (r 0) m) (fun r m=>by kernel_rfl)) (blockQ (seqQ (f:=fun r m=>Qa2 G (Qe G i0) (r 9) (r 1) (r 3) (r 0) (r 8) (r 2) m) (tr (blockQ (loopQ (fun i r m=>Q1m G (Qe G i0) i (r 9) (r 1) (r 3) (r 0) (r 8) (r 2) m) (fun _ _=>rfl) (fun i1=>tr (tr seqD (seqQ (f:=fun r m=>Q40 G (Q1m G (Qe G i0) i1) (Qe G i0) (r 34) (r 0) (r 9) (r 1) (r 3) (r 8) (r 2) m) (fun r m=>by kernel_rfl))) (fun r m=>by kernel_rfl)))) (fun r m=>by kernel_rfl))))) (fun r m=>by kernel_rfl))) (fun r m=>by kernel_rfl)))) (fun r m=>by kernel_rfl))) (fun r m=>by kernel_rfl)) m
def Qpd:En:=⟨Qcb,Tryz.f341,Tryz.func341,by kernel_rfl,arg4 (fun G a0 a1 a2 a3 m=>Q4v G a1 a2 a3 a0 m),okarg4 Qpc⟩
def Qzr (G:Gt)(p5:V)(m:M):R:=
  some (p5,m)
def Qmh (G:Gt):Nat → V → V → V → V → V → M → R
 | 0,_,_,_,_,_,_=>none
 | i + 1,p11,p10,p9,p5,p1,m=>
  bp (pur (bin .lss false true .int p11 p10) m) fun x0 m=>
  brb x0
  (bp (pur (aIndexAddrSl 1 p9 p11) m) fun x1 m=>
  bp (pur (aLoad false 1 x1 m) m) fun x2 m=>
  bp (evCall G.tab p1 [x2] m) fun x3 m=>
  bp (pur (aLookup .str (.int .i64 0) false p5 x3 m) m) fun x4 m=>
  bp (pur (bin .add true true .int x4 (.int .i64 1)) m) fun x5 m=>
  bp (unt (aMapUpdate .str p5 x3 x5 m)) fun _ m=>
  bp (pur (bin .add true true .int p11 (.int .i64 1)) m) fun x6 m=>
  (Qmh G i) x6 p10 p9 p5 p1 m)
  (Qzr G p5 m)
def Qzs (G:Gt)(p11 p10 p9 p5 p1:V)(m:M):R:=
  Qmh G G.rds p11 p10 p9 p5 p1 m
def Qzt (G:Gt)(p0 p5 p1:V)(m:M):R:=
  bp (pur (lenK 1 p0 m) m) fun x7 m=>
  Qzs G (.int .i64 0) x7 p0 p5 p1 m
def Qzu (G:Gt)(p0 p1:V)(m:M):R:=
  bp (some (aMakeMap m)) fun x8 m=>
  Qzt G p0 x8 p1 m
def Qpe (G:Gt)(p0 p1:V)(m:M):R:=
  Qzu G p0 p1 m
theorem Q1ll (G:Gt)(a0 a1:V)(m:M):ef G Tryz.f350 [a0,a1] m = Qpe G a0 a1 m:=
  evFn_of (r:=fun r m=>Qpe G (r 0) (r 1) m) rfl rfl (tr (seqQ (f:=fun r m=>Qzu G (r 0) (r 1) m) (tr (seqQ (f:=fun r m=>Qzt G (r 0) (r 5) (r 1) m) (tr (tr (seqQ (f:=fun r m=>Qzr G (r 5) m) (fun r m=>by kernel_rfl)) (seqQ (f:=fun r m=>Qzs G (r 11) (r 10) (r 9) (r 5) (r 1) m) (tr (blockQ (loopQ (fun i r m=>Qmh G i (r 11) (r 10) (r 9) (r 5) (r 1) m) (fun _ _=>rfl) (fun i0=>fun r m=>by kernel_rfl))) (fun r m=>by kernel_rfl)))) (fun r m=>by kernel_rfl))) (fun r m=>by kernel_rfl))) (fun r m=>by kernel_rfl)) m
def Q1lm:En:=⟨Q15u,Tryz.f350,Tryz.func350,by kernel_rfl,arg2 Qpe,okarg2 Q1ll⟩
def Qr6 (G:Gt)(p5:V)(m:M):R:=
  some (p5,m)
def Qg5 (G:Gt):Nat → V → V → V → V → V → M → R
 | 0,_,_,_,_,_,_=>none
 | i + 1,p11,p10,p9,p5,p1,m=>
  bp (pur (bin .lss false true .int p11 p10) m) fun x0 m=>
  brb x0
  (bp (pur (aIndexAddrSl 2 p9 p11) m) fun x1 m=>
  bp (pur (aLoad true 2 x1 m) m) fun x2 m=>
  bp (some (aNew Qpf Qx9 m)) fun x3 m=>
  bp (unt (aStore 2 x3 x2 m)) fun _ m=>
  bp (pur (aLoad true 2 x3 m) m) fun x4 m=>
  bp (evCall G.tab p1 [x4] m) fun x5 m=>
  bp (pur (aLookup .str (.int .i64 0) false p5 x5 m) m) fun x6 m=>
  bp (pur (bin .add true true .int x6 (.int .i64 1)) m) fun x7 m=>
  bp (unt (aMapUpdate .str p5 x5 x7 m)) fun _ m=>
  bp (pur (bin .add true true .int p11 (.int .i64 1)) m) fun x8 m=>
  (Qg5 G i) x8 p10 p9 p5 p1 m)
  (Qr6 G p5 m)
def Qr7 (G:Gt)(p11 p10 p9 p5 p1:V)(m:M):R:=
  Qg5 G G.rds p11 p10 p9 p5 p1 m
def Qr8 (G:Gt)(p0 p5 p1:V)(m:M):R:=
  bp (pur (lenK 1 p0 m) m) fun x9 m=>
  Qr7 G (.int .i64 0) x9 p0 p5 p1 m
def Qr9 (G:Gt)(p0 p1:V)(m:M):R:=
  bp (some (aMakeMap m)) fun x10 m=>
  Qr8 G p0 x10 p1 m
def Qjc (G:Gt)(p0 p1:V)(m:M):R:=
  Qr9 G p0 p1 m
theorem Q1g8 (G:Gt)(a0 a1:V)(m:M):ef G Tryz.f351 [a0,a1] m = Qjc G a0 a1 m:=
  evFn_of (r:=fun r m=>Qjc G (r 0) (r 1) m) rfl rfl (tr (seqQ (f:=fun r m=>Qr9 G (r 0) (r 1) m) (tr (seqQ (f:=fun r m=>Qr8 G (r 0) (r 5) (r 1) m) (tr (tr (seqQ (f:=fun r m=>Qr6 G (r 5) m) (fun r m=>by kernel_rfl)) (seqQ (f:=fun r m=>Qr7 G (r 11) (r 10) (r 9) (r 5) (r 1) m) (tr (blockQ (loopQ (fun i r m=>Qg5 G i (r 11) (r 10) (r 9) (r 5) (r 1) m) (fun _ _=>rfl) (fun i0=>fun r m=>by kernel_rfl))) (fun r m=>by kernel_rfl)))) (fun r m=>by kernel_rfl))) (fun r m=>by kernel_rfl))) (fun r m=>by kernel_rfl)) m
def Q1g9:En:=⟨Qvv,Tryz.f351,Tryz.func351,by kernel_rfl,arg2 Qjc,okarg2 Q1g8⟩
def Qm6 (G:Gt)(p5:V)(m:M):R:=
  some (p5,m)
def Qcv (G:Gt):Nat → V → V → V → V → V → M → R
 | 0,_,_,_,_,_,_=>none
 | i + 1,p11,p10,p9,p5,p1,m=>
  bp (pur (bin .lss false true .int p11 p10) m) fun x0 m=>
  brb x0
  (bp (pur (aIndexAddrSl 2 p9 p11) m) fun x1 m=>
  bp (pur (aLoad true 2 x1 m) m) fun x2 m=>
  bp (some (aNew Qs0 Q14p m)) fun x3 m=>
  bp (unt (aStore 2 x3 x2 m)) fun _ m=>
  bp (pur (aLoad true 2 x3 m) m) fun x4 m=>
  bp (evCall G.tab p1 [x4] m) fun x5 m=>
  bp (pur (aLookup .str (.int .i64 0) false p5 x5 m) m) fun x6 m=>
  bp (pur (bin .add true true .int x6 (.int .i64 1)) m) fun x7 m=>
  bp (unt (aMapUpdate .str p5 x5 x7 m)) fun _ m=>
  bp (pur (bin .add true true .int p11 (.int .i64 1)) m) fun x8 m=>
  (Qcv G i) x8 p10 p9 p5 p1 m)
  (Qm6 G p5 m)
def Qm7 (G:Gt)(p11 p10 p9 p5 p1:V)(m:M):R:=
  Qcv G G.rds p11 p10 p9 p5 p1 m
def Qm8 (G:Gt)(p0 p5 p1:V)(m:M):R:=
  bp (pur (lenK 1 p0 m) m) fun x9 m=>
  Qm7 G (.int .i64 0) x9 p0 p5 p1 m
def Qm9 (G:Gt)(p0 p1:V)(m:M):R:=
  bp (some (aMakeMap m)) fun x10 m=>
  Qm8 G p0 x10 p1 m
def Qes (G:Gt)(p0 p1:V)(m:M):R:=
  Qm9 G p0 p1 m
theorem Q19y (G:Gt)(a0 a1:V)(m:M):ef G Tryz.f352 [a0,a1] m = Qes G a0 a1 m:=
  evFn_of (r:=fun r m=>Qes G (r 0) (r 1) m) rfl rfl (tr (seqQ (f:=fun r m=>Qm9 G (r 0) (r 1) m) (tr (seqQ (f:=fun r m=>Qm8 G (r 0) (r 5) (r 1) m) (tr (tr (seqQ (f:=fun r m=>Qm6 G (r 5) m) (fun r m=>by kernel_rfl)) (seqQ (f:=fun r m=>Qm7 G (r 11) (r 10) (r 9) (r 5) (r 1) m) (tr (blockQ (loopQ (fun i r m=>Qcv G i (r 11) (r 10) (r 9) (r 5) (r 1) m) (fun _ _=>rfl) (fun i0=>fun r m=>by kernel_rfl))) (fun r m=>by kernel_rfl)))) (fun r m=>by kernel_rfl))) (fun r m=>by kernel_rfl))) (fun r m=>by kernel_rfl)) m
def Q19z:En:=⟨Qoo,Tryz.f352,Tryz.func352,by kernel_rfl,arg2 Qes,okarg2 Q19y⟩
def Qim (G:Gt)(p5:V)(m:M):R:=
  some (p5,m)
def Q95 (G:Gt):Nat → V → V → V → V → V → M → R
 | 0,_,_,_,_,_,_=>none
 | i + 1,p11,p10,p9,p5,p1,m=>
  bp (pur (bin .lss false true .int p11 p10) m) fun x0 m=>
  brb x0
  (bp (pur (aIndexAddrSl 2 p9 p11) m) fun x1 m=>
  bp (pur (aLoad true 2 x1 m) m) fun x2 m=>
  bp (some (aNew Qlz Quh m)) fun x3 m=>
  bp (unt (aStore 2 x3 x2 m)) fun _ m=>
  bp (pur (aLoad true 2 x3 m) m) fun x4 m=>
  bp (evCall G.tab p1 [x4] m) fun x5 m=>
  bp (pur (aLookup .str (.int .i64 0) false p5 x5 m) m) fun x6 m=>
  bp (pur (bin .add true true .int x6 (.int .i64 1)) m) fun x7 m=>
  bp (unt (aMapUpdate .str p5 x5 x7 m)) fun _ m=>
  bp (pur (bin .add true true .int p11 (.int .i64 1)) m) fun x8 m=>
  (Q95 G i) x8 p10 p9 p5 p1 m)
  (Qim G p5 m)
def Qin (G:Gt)(p11 p10 p9 p5 p1:V)(m:M):R:=
  Q95 G G.rds p11 p10 p9 p5 p1 m
def Qio (G:Gt)(p0 p5 p1:V)(m:M):R:=
  bp (pur (lenK 1 p0 m) m) fun x9 m=>
  Qin G (.int .i64 0) x9 p0 p5 p1 m
def Qip (G:Gt)(p0 p1:V)(m:M):R:=
  bp (some (aMakeMap m)) fun x10 m=>
  Qio G p0 x10 p1 m
def Qc2 (G:Gt)(p0 p1:V)(m:M):R:=
  Qip G p0 p1 m
theorem Q14q (G:Gt)(a0 a1:V)(m:M):ef G Tryz.f353 [a0,a1] m = Qc2 G a0 a1 m:=
  evFn_of (r:=fun r m=>Qc2 G (r 0) (r 1) m) rfl rfl (tr (seqQ (f:=fun r m=>Qip G (r 0) (r 1) m) (tr (seqQ (f:=fun r m=>Qio G (r 0) (r 5) (r 1) m) (tr (tr (seqQ (f:=fun r m=>Qim G (r 5) m) (fun r m=>by kernel_rfl)) (seqQ (f:=fun r m=>Qin G (r 11) (r 10) (r 9) (r 5) (r 1) m) (tr (blockQ (loopQ (fun i r m=>Q95 G i (r 11) (r 10) (r 9) (r 5) (r 1) m) (fun _ _=>rfl) (fun i0=>fun r m=>by kernel_rfl))) (fun r m=>by kernel_rfl)))) (fun r m=>by kernel_rfl))) (fun r m=>by kernel_rfl))) (fun r m=>by kernel_rfl)) m
def Q14r:En:=⟨Qkn,Tryz.f353,Tryz.func353,by kernel_rfl,arg2 Qc2,okarg2 Q14q⟩
def Qra (G:Gt)(p5:V)(m:M):R:=
  some (p5,m)
def Qg6 (G:Gt):Nat → V → V → V → V → V → M → R
 | 0,_,_,_,_,_,_=>none
 | i + 1,p11,p10,p9,p5,p1,m=>
  bp (pur (bin .lss false true .int p11 p10) m) fun x0 m=>
  brb x0
  (bp (pur (aIndexAddrSl 3 p9 p11) m) fun x1 m=>
  bp (pur (aLoad true 3 x1 m) m) fun x2 m=>
  bp (some (aNew Q17t Q1h6 m)) fun x3 m=>
  bp (unt (aStore 3 x3 x2 m)) fun _ m=>
  bp (pur (aLoad true 3 x3 m) m) fun x4 m=>
  bp (evCall G.tab p1 [x4] m) fun x5 m=>
  bp (pur (aLookup .str (.int .i64 0) false p5 x5 m) m) fun x6 m=>
  bp (pur (bin .add true true .int x6 (.int .i64 1)) m) fun x7 m=>
  bp (unt (aMapUpdate .str p5 x5 x7 m)) fun _ m=>
  bp (pur (bin .add true true .int p11 (.int .i64 1)) m) fun x8 m=>
  (Qg6 G i) x8 p10 p9 p5 p1 m)
  (Qra G p5 m)
def Qrb (G:Gt)(p11 p10 p9 p5 p1:V)(m:M):R:=
  Qg6 G G.rds p11 p10 p9 p5 p1 m
def Qrc (G:Gt)(p0 p5 p1:V)(m:M):R:=
  bp (pur (lenK 1 p0 m) m) fun x9 m=>
  Qrb G (.int .i64 0) x9 p0 p5 p1 m
def Qrd (G:Gt)(p0 p1:V)(m:M):R:=
  bp (some (aMakeMap m)) fun x10 m=>
  Qrc G p0 x10 p1 m
def Qjd (G:Gt)(p0 p1:V)(m:M):R:=
  Qrd G p0 p1 m
theorem Q1ga (G:Gt)(a0 a1:V)(m:M):ef G Tryz.f354 [a0,a1] m = Qjd G a0 a1 m:=
  evFn_of (r:=fun r m=>Qjd G (r 0) (r 1) m) rfl rfl (tr (seqQ (f:=fun r m=>Qrd G (r 0) (r 1) m) (tr (seqQ (f:=fun r m=>Qrc G (r 0) (r 5) (r 1) m) (tr (tr (seqQ (f:=fun r m=>Qra G (r 5) m) (fun r m=>by kernel_rfl)) (seqQ (f:=fun r m=>Qrb G (r 11) (r 10) (r 9) (r 5) (r 1) m) (tr (blockQ (loopQ (fun i r m=>Qg6 G i (r 11) (r 10) (r 9) (r 5) (r 1) m) (fun _ _=>rfl) (fun i0=>fun r m=>by kernel_rfl))) (fun r m=>by kernel_rfl)))) (fun r m=>by kernel_rfl))) (fun r m=>by kernel_rfl))) (fun r m=>by kernel_rfl)) m
def Q1gb:En:=⟨Qvw,Tryz.f354,Tryz.func354,by kernel_rfl,arg2 Qjd,okarg2 Q1ga⟩
def Q14s (G:Gt)(p6:V)(m:M):R:=
  some (p6,m)
def Q1h7 (G:Gt)(p1 p0 p2:V)(m:M):R:=
  bp (pur (bin .leq false true .int p1 p0) m) fun x0 m=>
  brb x0
  (bp (pur (bin .leq false true .int p0 p2) m) fun x1 m=>
  Q14s G x1 m)
  (Q14s G (.bool false) m)
def Q1bt (G:Gt)(p1 p0 p2:V)(m:M):R:=
  Q1h7 G p1 p0 p2 m
theorem Q1yy (G:Gt)(a0 a1 a2:V)(m:M):ef G Tryz.f357 [a0,a1,a2] m = Q1bt G a1 a0 a2 m:=
  evFn_of (r:=fun r m=>Q1bt G (r 1) (r 0) (r 2) m) rfl rfl (tr (seqQ (f:=fun r m=>Q1h7 G (r 1) (r 0) (r 2) m) (tr (seqQ (f:=fun r m=>Q14s G (r 6) m) (fun r m=>by kernel_rfl)) (fun r m=>by kernel_rfl))) (fun r m=>by kernel_rfl)) m
def Q1yz:En:=⟨Qpg,Tryz.f357,Tryz.func357,by kernel_rfl,arg3 (fun G a0 a1 a2 m=>Q1bt G a1 a0 a2 m),okarg3 Q1yy⟩
def Qko (G:Gt)(p0 p1 p2:V)(m:M):R:=
  bp (some (aNew Q20d (Value.cells p0).toList m)) fun x0 m=>
  bp (some (aNew Qcu (Value.cells p1).toList m)) fun x1 m=>
  bp (some (aNew Q126 (Value.cells p2).toList m)) fun x2 m=>
  bp (pur (aLoad false 1 x0 m) m) fun x3 m=>
  let x4:V:=(.func (.func Qt8) ⟨[]⟩ ⟨[x2,x0,x1]⟩)
  bp (pur (aLoad false 1 x1 m) m) fun x5 m=>
  bp (G.tab Q2q [x3,x4] m) fun x6 m=>
  ckB (again (pur (aLoad false 1 x1 m) m) x5 && true)
  (bp (pur (bin .eql false true .int x6 x5) m) fun x7 m=>
  some (x7,m))
theorem Q1h8 (G:Gt)(a0 a1 a2:V)(m:M):ef G Tryz.f358 [a0,a1,a2] m = Qko G a0 a1 a2 m:=
  evFn_of (r:=fun r m=>Qko G (r 0) (r 1) (r 2) m) rfl rfl (fun r m=>by kernel_rfl) m
def Q1h9:En:=⟨Qxa,Tryz.f358,Tryz.func358,by kernel_rfl,arg3 Qko,okarg3 Q1h8⟩
def Qed (G:Gt)(k0:V → V → V → V → M → R)(p6 p2 p1 p0:V)(m:M):R:=
  bp (pur (bin .add true true .int p6 (.int .i64 1)) m) fun x0 m=>
  k0 x0 p2 p1 p0 m
def Q66 (G:Gt)(k1:V → V → V → V → V → M → R)(k0:V → V → V → V → M → R)(p30 p0 p7 p1 p6 p2:V)(m:M):R:=
  brb p30
  (bp (pur (bin .sub true true .int p7 (.int .i64 1)) m) fun x1 m=>
  bp (pur (bin .sub true true .int p7 (.int .i64 1)) m) fun x2 m=>
  bp (pur (aIndexAddrSl 1 p0 x2) m) fun x3 m=>
  bp (pur (aLoad false 1 x3 m) m) fun x4 m=>
  bp (pur (aIndexAddrSl 1 p0 p7) m) fun x5 m=>
  bp (pur (aLoad false 1 x5 m) m) fun x6 m=>
  bp (pur (aIndexAddrSl 1 p0 p7) m) fun x7 m=>
  bp (unt (aStore 1 x7 x4 m)) fun _ m=>
  bp (pur (aIndexAddrSl 1 p0 x1) m) fun x8 m=>
  bp (unt (aStore 1 x8 x6 m)) fun _ m=>
  bp (pur (bin .sub true true .int p7 (.int .i64 1)) m) fun x9 m=>
  k1 x9 p1 p0 p6 p2 m)
  (Qed G k0 p6 p2 p1 p0 m)
def Q29 (G:Gt)(k0:V → V → V → V → M → R):Nat → V → V → V → V → V → M → R
 | 0,_,_,_,_,_,_=>none
 | i + 1,p7,p1,p0,p6,p2,m=>
  bp (pur (bin .gtr false true .int p7 p1) m) fun x10 m=>
  brt x10
  (bp (pur (aIndexAddrSl 1 p0 p7) m) fun x11 m=>
  bp (pur (aLoad false 1 x11 m) m) fun x12 m=>
  bp (pur (bin .sub true true .int p7 (.int .i64 1)) m) fun x13 m=>
  bp (pur (aIndexAddrSl 1 p0 x13) m) fun x14 m=>
  bp (pur (aLoad false 1 x14 m) m) fun x15 m=>
  bp (G.tab Q1cy [x12,x15] m) fun x16 m=>
  Q66 G (Q29 G k0 i) k0 x16 p0 p7 p1 p6 p2 m)
  (Q66 G (Q29 G k0 i) k0 (.bool false) p0 p7 p1 p6 p2 m)
  (none)
def Qee (G:Gt)(k0:V → V → V → V → M → R)(p7 p1 p0 p6 p2:V)(m:M):R:=
  Q29 G k0 G.rds p7 p1 p0 p6 p2 m
def Qef (G:Gt)(k0:V → V → V → V → M → R)(p6 p1 p0 p2:V)(m:M):R:=
  Qee G k0 p6 p1 p0 p6 p2 m
def Qs (G:Gt):Nat → V → V → V → V → M → R
 | 0,_,_,_,_,_=>none
 | i + 1,p6,p2,p1,p0,m=>
  bp (pur (bin .lss false true .int p6 p2) m) fun x17 m=>
  brb x17
  (Qef G (Qs G i) p6 p1 p0 p2 m)
  (some (.tuple ⟨[]⟩,m))
def Qeg (G:Gt)(p6 p2 p1 p0:V)(m:M):R:=
  Qs G G.rds p6 p2 p1 p0 m
def Q6z (G:Gt)(p1 p2 p0:V)(m:M):R:=
  bp (pur (bin .add true true .int p1 (.int .i64 1)) m) fun x18 m=>
  Qeg G x18 p2 p1 p0 m
theorem Qwv (G:Gt)(a0 a1 a2:V)(m:M):ef G Tryz.f382 [a0,a1,a2] m = Q6z G a1 a2 a0 m:=
  evFn_of (r:=fun r m=>Q6z G (r 1) (r 2) (r 0) m) rfl rfl (tr (seqQ (f:=fun r m=>Qeg G (r 6) (r 2) (r 1) (r 0) m) (tr (blockQ (loopQ (fun i r m=>Qs G i (r 6) (r 2) (r 1) (r 0) m) (fun _ _=>rfl) (fun i0=>tr (seqQ (f:=fun r m=>Qef G (Qs G i0) (r 6) (r 1) (r 0) (r 2) m) (tr (tr (seqQ (f:=fun r m=>Qed G (Qs G i0) (r 6) (r 2) (r 1) (r 0) m) (fun r m=>by kernel_rfl)) (blockQ (seqQ (f:=fun r m=>Qee G (Qs G i0) (r 7) (r 1) (r 0) (r 6) (r 2) m) (tr (blockQ (loopQ (fun i r m=>Q29 G (Qs G i0) i (r 7) (r 1) (r 0) (r 6) (r 2) m) (fun _ _=>rfl) (fun i1=>tr (tr seqD (seqQ (f:=fun r m=>Q66 G (Q29 G (Qs G i0) i1) (Qs G i0) (r 30) (r 0) (r 7) (r 1) (r 6) (r 2) m) (fun r m=>by kernel_rfl))) (fun r m=>by kernel_rfl)))) (fun r m=>by kernel_rfl))))) (fun r m=>by kernel_rfl))) (fun r m=>by kernel_rfl)))) (fun r m=>by kernel_rfl))) (fun r m=>by kernel_rfl)) m
def Qww:En:=⟨Qfi,Tryz.f382,Tryz.func382,by kernel_rfl,arg3 (fun G a0 a1 a2 m=>Q6z G a1 a2 a0 m),okarg3 Qwv⟩
end
end Go.Ab.Sh

set_option linter.unusedVariables false
set_option maxRecDepth 100000
namespace Go.Ab.Sh
open Go Go.Ab Go.Proofs
noncomputable section
def Q8q (G:Gt)(k0:V → V → V → V → M → R)(p6 p1 p0 p2:V)(m:M):R:=
  bp (pur (bin .mul true true .int p6 (.int .i64 2)) m) fun x0 m=>
  k0 x0 p1 p0 p2 m
def Qi3 (G:Gt)(k0:V → V → V → V → M → R)(p7 p6 p1 p0 p2:V)(m:M):R:=
  bp (pur (bin .add false true .int p7 p6) m) fun x1 m=>
  bp (pur (bin .lss false true .int x1 p1) m) fun x2 m=>
  brb x2
  (bp (G.tab Qi4 [p0,p7,x1,p1,p2] m) fun x3 m=>
  Q8q G k0 p6 p1 p0 p2 m)
  (Q8q G k0 p6 p1 p0 p2 m)
def Q8r (G:Gt)(k0:V → V → V → V → M → R):Nat → V → V → V → V → V → V → M → R
 | 0,_,_,_,_,_,_,_=>none
 | i + 1,p8,p1,p0,p7,p6,p2,m=>
  bp (pur (bin .leq false true .int p8 p1) m) fun x4 m=>
  brb x4
  (bp (pur (bin .add false true .int p7 p6) m) fun x5 m=>
  bp (G.tab Qi4 [p0,p7,x5,p8,p2] m) fun x6 m=>
  bp (pur (bin .mul true true .int (.int .i64 2) p6) m) fun x7 m=>
  bp (pur (bin .add false true .int p8 x7) m) fun x8 m=>
  (Q8r G k0 i) x8 p1 p0 p8 p6 p2 m)
  (Qi3 G k0 p7 p6 p1 p0 p2 m)
def Qi5 (G:Gt)(k0:V → V → V → V → M → R)(p8 p1 p0 p7 p6 p2:V)(m:M):R:=
  Q8r G k0 G.rds p8 p1 p0 p7 p6 p2 m
def Qi6 (G:Gt)(k0:V → V → V → V → M → R)(p6 p1 p0 p2:V)(m:M):R:=
  bp (pur (bin .mul true true .int (.int .i64 2) p6) m) fun x9 m=>
  Qi5 G k0 x9 p1 p0 (.int .i64 0) p6 p2 m
def Q18 (G:Gt):Nat → V → V → V → V → M → R
 | 0,_,_,_,_,_=>none
 | i + 1,p6,p1,p0,p2,m=>
  bp (pur (bin .lss false true .int p6 p1) m) fun x10 m=>
  brb x10
  (Qi6 G (Q18 G i) p6 p1 p0 p2 m)
  (some (.tuple ⟨[]⟩,m))
def Qi7 (G:Gt)(p6 p1 p0 p2:V)(m:M):R:=
  Q18 G G.rds p6 p1 p0 p2 m
def Qi8 (G:Gt)(p0 p7 p1 p2 p6:V)(m:M):R:=
  bp (G.tab Q5t [p0,p7,p1,p2] m) fun x11 m=>
  Qi7 G p6 p1 p0 p2 m
def Q7i (G:Gt):Nat → V → V → V → V → V → V → M → R
 | 0,_,_,_,_,_,_,_=>none
 | i + 1,p8,p1,p0,p7,p2,p6,m=>
  bp (pur (bin .leq false true .int p8 p1) m) fun x12 m=>
  brb x12
  (bp (G.tab Q5t [p0,p7,p8,p2] m) fun x13 m=>
  bp (pur (bin .add false true .int p8 p6) m) fun x14 m=>
  (Q7i G i) x14 p1 p0 p8 p2 p6 m)
  (Qi8 G p0 p7 p1 p2 p6 m)
def Qi9 (G:Gt)(p8 p1 p0 p7 p2 p6:V)(m:M):R:=
  Q7i G G.rds p8 p1 p0 p7 p2 p6 m
def Qia (G:Gt)(p6 p1 p0 p2:V)(m:M):R:=
  Qi9 G p6 p1 p0 (.int .i64 0) p2 p6 m
def Qa5 (G:Gt)(p1 p0 p2:V)(m:M):R:=
  Qia G (.int .i64 20) p1 p0 p2 m
theorem Q127 (G:Gt)(a0 a1 a2:V)(m:M):ef G Tryz.f391 [a0,a1,a2] m = Qa5 G a1 a0 a2 m:=
  evFn_of (r:=fun r m=>Qa5 G (r 1) (r 0) (r 2) m) rfl rfl (tr (seqQ (f:=fun r m=>Qia G (r 6) (r 1) (r 0) (r 2) m) (tr (seqQ (f:=fun r m=>Qi9 G (r 8) (r 1) (r 0) (r 7) (r 2) (r 6) m) (tr (tr (seqQ (f:=fun r m=>Qi8 G (r 0) (r 7) (r 1) (r 2) (r 6) m) (tr (seqQ (f:=fun r m=>Qi7 G (r 6) (r 1) (r 0) (r 2) m) (tr (blockQ (loopQ (fun i r m=>Q18 G i (r 6) (r 1) (r 0) (r 2) m) (fun _ _=>rfl) (fun i0=>tr (seqQ (f:=fun r m=>Qi6 G (Q18 G i0) (r 6) (r 1) (r 0) (r 2) m) (tr (blockQ (seqQ (f:=fun r m=>Qi5 G (Q18 G i0) (r 8) (r 1) (r 0) (r 7) (r 6) (r 2) m) (tr (tr (seqQ (f:=fun r m=>Qi3 G (Q18 G i0) (r 7) (r 6) (r 1) (r 0) (r 2) m) (tr (seqQ (f:=fun r m=>Q8q G (Q18 G i0) (r 6) (r 1) (r 0) (r 2) m) (fun r m=>by kernel_rfl)) (fun r m=>by kernel_rfl))) (blockQ (loopQ (fun i r m=>Q8r G (Q18 G i0) i (r 8) (r 1) (r 0) (r 7) (r 6) (r 2) m) (fun _ _=>rfl) (fun i1=>fun r m=>by kernel_rfl)))) (fun r m=>by kernel_rfl)))) (fun r m=>by kernel_rfl))) (fun r m=>by kernel_rfl)))) (fun r m=>by kernel_rfl))) (fun r m=>by kernel_rfl))) (blockQ (loopQ (fun i r m=>Q7i G i (r 8) (r 1) (r 0) (r 7) (r 2) (r 6) m) (fun _ _=>rfl) (fun i0=>fun r m=>by kernel_rfl)))) (fun r m=>by kernel_rfl))) (fun r m=>by kernel_rfl))) (fun r m=>by kernel_rfl)) m
def Q128:En:=⟨Qjx,Tryz.f391,Tryz.func391,by kernel_rfl,arg3 (fun G a0 a1 a2 m=>Qa5 G a1 a0 a2 m),okarg3 Q127⟩
def Q7j (G:Gt)(k0:V → V → V → V → M → R)(p6 p1 p0 p2:V)(m:M):R:=
  bp (pur (bin .mul true true .int p6 (.int .i64 2)) m) fun x0 m=>
  k0 x0 p1 p0 p2 m
def Qg7 (G:Gt)(k0:V → V → V → V → M → R)(p7 p6 p1 p0 p2:V)(m:M):R:=
  bp (pur (bin .add false true .int p7 p6) m) fun x1 m=>
  bp (pur (bin .lss false true .int x1 p1) m) fun x2 m=>
  brb x2
  (bp (G.tab Qg8 [p0,p7,x1,p1,p2] m) fun x3 m=>
  Q7j G k0 p6 p1 p0 p2 m)
  (Q7j G k0 p6 p1 p0 p2 m)
def Q7k (G:Gt)(k0:V → V → V → V → M → R):Nat → V → V → V → V → V → V → M → R
 | 0,_,_,_,_,_,_,_=>none
 | i + 1,p8,p1,p0,p7,p6,p2,m=>
  bp (pur (bin .leq false true .int p8 p1) m) fun x4 m=>
  brb x4
  (bp (pur (bin .add false true .int p7 p6) m) fun x5 m=>
  bp (G.tab Qg8 [p0,p7,x5,p8,p2] m) fun x6 m=>
  bp (pur (bin .mul true true .int (.int .i64 2) p6) m) fun x7 m=>
  bp (pur (bin .add false true .int p8 x7) m) fun x8 m=>
  (Q7k G k0 i) x8 p1 p0 p8 p6 p2 m)
  (Qg7 G k0 p7 p6 p1 p0 p2 m)
def Qg9 (G:Gt)(k0:V → V → V → V → M → R)(p8 p1 p0 p7 p6 p2:V)(m:M):R:=
  Q7k G k0 G.rds p8 p1 p0 p7 p6 p2 m
def Qga (G:Gt)(k0:V → V → V → V → M → R)(p6 p1 p0 p2:V)(m:M):R:=
  bp (pur (bin .mul true true .int (.int .i64 2) p6) m) fun x9 m=>
  Qg9 G k0 x9 p1 p0 (.int .i64 0) p6 p2 m
def Q12 (G:Gt):Nat → V → V → V → V → M → R
 | 0,_,_,_,_,_=>none
 | i + 1,p6,p1,p0,p2,m=>
  bp (pur (bin .lss false true .int p6 p1) m) fun x10 m=>
  brb x10
  (Qga G (Q12 G i) p6 p1 p0 p2 m)
  (some (.tuple ⟨[]⟩,m))
def Qgb (G:Gt)(p6 p1 p0 p2:V)(m:M):R:=
  Q12 G G.rds p6 p1 p0 p2 m
def Qgc (G:Gt)(p0 p7 p1 p2 p6:V)(m:M):R:=
  bp (G.tab Q59 [p0,p7,p1,p2] m) fun x11 m=>
  Qgb G p6 p1 p0 p2 m
def Q70 (G:Gt):Nat → V → V → V → V → V → V → M → R
 | 0,_,_,_,_,_,_,_=>none
 | i + 1,p8,p1,p0,p7,p2,p6,m=>
  bp (pur (bin .leq false true .int p8 p1) m) fun x12 m=>
  brb x12
  (bp (G.tab Q59 [p0,p7,p8,p2] m) fun x13 m=>
  bp (pur (bin .add false true .int p8 p6) m) fun x14 m=>
  (Q70 G i) x14 p1 p0 p8 p2 p6 m)
  (Qgc G p0 p7 p1 p2 p6 m)
def Qgd (G:Gt)(p8 p1 p0 p7 p2 p6:V)(m:M):R:=
  Q70 G G.rds p8 p1 p0 p7 p2 p6 m
def Qge (G:Gt)(p6 p1 p0 p2:V)(m:M):R:=
  Qgd G p6 p1 p0 (.int .i64 0) p2 p6 m
def Q96 (G:Gt)(p1 p0 p2:V)(m:M):R:=
  Qge G (.int .i64 20) p1 p0 p2 m
theorem Q113 (G:Gt)(a0 a1 a2:V)(m:M):ef G Tryz.f392 [a0,a1,a2] m = Q96 G a1 a0 a2 m:=
  evFn_of (r:=fun r m=>Q96 G (r 1) (r 0) (r 2) m) rfl rfl (tr (seqQ (f:=fun r m=>Qge G (r 6) (r 1) (r 0) (r 2) m) (tr (seqQ (f:=fun r m=>Qgd G (r 8) (r 1) (r 0) (r 7) (r 2) (r 6) m) (tr (tr (seqQ (f:=fun r m=>Qgc G (r 0) (r 7) (r 1) (r 2) (r 6) m) (tr (seqQ (f:=fun r m=>Qgb G (r 6) (r 1) (r 0) (r 2) m) (tr (blockQ (loopQ (fun i r m=>Q12 G i (r 6) (r 1) (r 0) (r 2) m) (fun _ _=>rfl) (fun i0=>tr (seqQ (f:=fun r m=>Qga G (Q12 G i0) (r 6) (r 1) (r 0) (r 2) m) (tr (blockQ (seqQ (f:=fun r m=>Qg9 G (Q12 G i0) (r 8) (r 1) (r 0) (r 7) (r 6) (r 2) m) (tr (tr (seqQ (f:=fun r m=>Qg7 G (Q12 G i0) (r 7) (r 6) (r 1) (r 0) (r 2) m) (tr (seqQ (f:=fun r m=>Q7j G (Q12 G i0) (r 6) (r 1) (r 0) (r 2) m) (fun r m=>by kernel_rfl)) (fun r m=>by kernel_rfl))) (blockQ (loopQ (fun i r m=>Q7k G (Q12 G i0) i (r 8) (r 1) (r 0) (r 7) (r 6) (r 2) m) (fun _ _=>rfl) (fun i1=>fun r m=>by kernel_rfl)))) (fun r m=>by kernel_rfl)))) (fun r m=>by kernel_rfl))) (fun r m=>by kernel_rfl)))) (fun r m=>by kernel_rfl))) (fun r m=>by kernel_rfl))) (blockQ (loopQ (fun i r m=>Q70 G i (r 8) (r 1) (r 0) (r 7) (r 2) (r 6) m) (fun _ _=>rfl) (fun i0=>fun r m=>by kernel_rfl)))) (fun r m=>by kernel_rfl))) (fun r m=>by kernel_rfl))) (fun r m=>by kernel_rfl)) m
def Q114:En:=⟨Qiq,Tryz.f392,Tryz.func392,by kernel_rfl,arg3 (fun G a0 a1 a2 m=>Q96 G a1 a0 a2 m),okarg3 Q113⟩
def Q5u (G:Gt)(k0:V → V → V → V → M → R)(p6 p1 p0 p2:V)(m:M):R:=
  bp (pur (bin .mul true true .int p6 (.int .i64 2)) m) fun x0 m=>
  k0 x0 p1 p0 p2 m
def Qdm (G:Gt)(k0:V → V → V → V → M → R)(p7 p6 p1 p0 p2:V)(m:M):R:=
  bp (pur (bin .add false true .int p7 p6) m) fun x1 m=>
  bp (pur (bin .lss false true .int x1 p1) m) fun x2 m=>
  brb x2
  (bp (G.tab Qdn [p0,p7,x1,p1,p2] m) fun x3 m=>
  Q5u G k0 p6 p1 p0 p2 m)
  (Q5u G k0 p6 p1 p0 p2 m)
def Q5v (G:Gt)(k0:V → V → V → V → M → R):Nat → V → V → V → V → V → V → M → R
 | 0,_,_,_,_,_,_,_=>none
 | i + 1,p8,p1,p0,p7,p6,p2,m=>
  bp (pur (bin .leq false true .int p8 p1) m) fun x4 m=>
  brb x4
  (bp (pur (bin .add false true .int p7 p6) m) fun x5 m=>
  bp (G.tab Qdn [p0,p7,x5,p8,p2] m) fun x6 m=>
  bp (pur (bin .mul true true .int (.int .i64 2) p6) m) fun x7 m=>
  bp (pur (bin .add false true .int p8 x7) m) fun x8 m=>
  (Q5v G k0 i) x8 p1 p0 p8 p6 p2 m)
  (Qdm G k0 p7 p6 p1 p0 p2 m)
def Qdo (G:Gt)(k0:V → V → V → V → M → R)(p8 p1 p0 p7 p6 p2:V)(m:M):R:=
  Q5v G k0 G.rds p8 p1 p0 p7 p6 p2 m
def Qdp (G:Gt)(k0:V → V → V → V → M → R)(p6 p1 p0 p2:V)(m:M):R:=
  bp (pur (bin .mul true true .int (.int .i64 2) p6) m) fun x9 m=>
  Qdo G k0 x9 p1 p0 (.int .i64 0) p6 p2 m
def Qw (G:Gt):Nat → V → V → V → V → M → R
 | 0,_,_,_,_,_=>none
 | i + 1,p6,p1,p0,p2,m=>
  bp (pur (bin .lss false true .int p6 p1) m) fun x10 m=>
  brb x10
  (Qdp G (Qw G i) p6 p1 p0 p2 m)
  (some (.tuple ⟨[]⟩,m))
def Qdq (G:Gt)(p6 p1 p0 p2:V)(m:M):R:=
  Qw G G.rds p6 p1 p0 p2 m
def Qdr (G:Gt)(p0 p7 p1 p2 p6:V)(m:M):R:=
  bp (G.tab Q3q [p0,p7,p1,p2] m) fun x11 m=>
  Qdq G p6 p1 p0 p2 m
def Q5a (G:Gt):Nat → V → V → V → V → V → V → M → R
 | 0,_,_,_,_,_,_,_=>none
 | i + 1,p8,p1,p0,p7,p2,p6,m=>
  bp (pur (bin .leq false true .int p8 p1) m) fun x12 m=>
  brb x12
  (bp (G.tab Q3q [p0,p7,p8,p2] m) fun x13 m=>
  bp (pur (bin .add false true .int p8 p6) m) fun x14 m=>
  (Q5a G i) x14 p1 p0 p8 p2 p6 m)
  (Qdr G p0 p7 p1 p2 p6 m)
def Qds (G:Gt)(p8 p1 p0 p7 p2 p6:V)(m:M):R:=
  Q5a G G.rds p8 p1 p0 p7 p2 p6 m
def Qdt (G:Gt)(p6 p1 p0 p2:V)(m:M):R:=
  Qds G p6 p1 p0 (.int .i64 0) p2 p6 m
def Q6m (G:Gt)(p1 p0 p2:V)(m:M):R:=
  Qdt G (.int .i64 20) p1 p0 p2 m
theorem Qui (G:Gt)(a0 a1 a2:V)(m:M):ef G Tryz.f393 [a0,a1,a2] m = Q6m G a1 a0 a2 m:=
  evFn_of (r:=fun r m=>Q6m G (r 1) (r 0) (r 2) m) rfl rfl (tr (seqQ (f:=fun r m=>Qdt G (r 6) (r 1) (r 0) (r 2) m) (tr (seqQ (f:=fun r m=>Qds G (r 8) (r 1) (r 0) (r 7) (r 2) (r 6) m) (tr (tr (seqQ (f:=fun r m=>Qdr G (r 0) (r 7) (r 1) (r 2) (r 6) m) (tr (seqQ (f:=fun r m=>Qdq G (r 6) (r 1) (r 0) (r 2) m) (tr (blockQ (loopQ (fun i r m=>Qw G i (r 6) (r 1) (r 0) (r 2) m) (fun _ _=>rfl) (fun i0=>tr (seqQ (f:=fun r m=>Qdp G (Qw G i0) (r 6) (r 1) (r 0) (r 2) m) (tr (blockQ (seqQ (f:=fun r m=>Qdo G (Qw G i0) (r 8) (r 1) (r 0) (r 7) (r 6) (r 2) m) (tr (tr (seqQ (f:=fun r m=>Qdm G (Qw G i0) (r 7) (r 6) (r 1) (r 0) (r 2) m) (tr (seqQ (f:=fun r m=>Q5u G (Qw G i0) (r 6) (r 1) (r 0) (r 2) m) (fun r m=>by kernel_rfl)) (fun r m=>by kernel_rfl))) (blockQ (loopQ (fun i r m=>Q5v G (Qw G i0) i (r 8) (r 1) (r 0) (r 7) (r 6) (r 2) m) (fun _ _=>rfl) (fun i1=>fun r m=>by kernel_rfl)))) (fun r m=>by kernel_rfl)))) (fun r m=>by kernel_rfl))) (fun r m=>by kernel_rfl)))) (fun r m=>by kernel_rfl))) (fun r m=>by kernel_rfl))) (blockQ (loopQ (fun i r m=>Q5a G i (r 8) (r 1) (r 0) (r 7) (r 2) (r 6) m) (fun _ _=>rfl) (fun i0=>fun r m=>by kernel_rfl)))) (fun r m=>by kernel_rfl))) (fun r m=>by kernel_rfl))) (fun r m=>by kernel_rfl)) m
def Quj:En:=⟨Qew,Tryz.f393,Tryz.func393,by kernel_rfl,arg3 (fun G a0 a1 a2 m=>Q6m G a1 a0 a2 m),okarg3 Qui⟩
def Q4f (G:Gt)(k0:V → V → V → V → M → R)(p6 p1 p0 p2:V)(m:M):R:=
  bp (pur (bin .mul true true .int p6 (.int .i64 2)) m) fun x0 m=>
  k0 x0 p1 p0 p2 m
def Qao (G:Gt)(k0:V → V → V → V → M → R)(p7 p6 p1 p0 p2:V)(m:M):R:=
  bp (pur (bin .add false true .int p7 p6) m) fun x1 m=>
  bp (pur (bin .lss false true .int x1 p1) m) fun x2 m=>
  brb x2
  (bp (G.tab Qap [p0,p7,x1,p1,p2] m) fun x3 m=>
  Q4f G k0 p6 p1 p0 p2 m)
  (Q4f G k0 p6 p1 p0 p2 m)
def Q4g (G:Gt)(k0:V → V → V → V → M → R):Nat → V → V → V → V → V → V → M → R
 | 0,_,_,_,_,_,_,_=>none
 | i + 1,p8,p1,p0,p7,p6,p2,m=>
  bp (pur (bin .leq false true .int p8 p1) m) fun x4 m=>
  brb x4
  (bp (pur (bin .add false true .int p7 p6) m) fun x5 m=>
  bp (G.tab Qap [p0,p7,x5,p8,p2] m) fun x6 m=>
  bp (pur (bin .mul true true .int (.int .i64 2) p6) m) fun x7 m=>
  bp (pur (bin .add false true .int p8 x7) m) fun x8 m=>
  (Q4g G k0 i) x8 p1 p0 p8 p6 p2 m)
  (Qao G k0 p7 p6 p1 p0 p2 m)
def Qaq (G:Gt)(k0:V → V → V → V → M → R)(p8 p1 p0 p7 p6 p2:V)(m:M):R:=
  Q4g G k0 G.rds p8 p1 p0 p7 p6 p2 m
def Qar (G:Gt)(k0:V → V → V → V → M → R)(p6 p1 p0 p2:V)(m:M):R:=
  bp (pur (bin .mul true true .int (.int .i64 2) p6) m) fun x9 m=>
  Qaq G k0 x9 p1 p0 (.int .i64 0) p6 p2 m
def Qu (G:Gt):Nat → V → V → V → V → M → R
 | 0,_,_,_,_,_=>none
 | i + 1,p6,p1,p0,p2,m=>
  bp (pur (bin .lss false true .int p6 p1) m) fun x10 m=>
  brb x10
  (Qar G (Qu G i) p6 p1 p0 p2 m)
  (some (.tuple ⟨[]⟩,m))
def Qas (G:Gt)(p6 p1 p0 p2:V)(m:M):R:=
  Qu G G.rds p6 p1 p0 p2 m
def Qat (G:Gt)(p0 p7 p1 p2 p6:V)(m:M):R:=
  bp (G.tab Q33 [p0,p7,p1,p2] m) fun x11 m=>
  Qas G p6 p1 p0 p2 m
def Q41 (G:Gt):Nat → V → V → V → V → V → V → M → R
 | 0,_,_,_,_,_,_,_=>none
 | i + 1,p8,p1,p0,p7,p2,p6,m=>
  bp (pur (bin .leq false true .int p8 p1) m) fun x12 m=>
  brb x12
  (bp (G.tab Q33 [p0,p7,p8,p2] m) fun x13 m=>
  bp (pur (bin .add false true .int p8 p6) m) fun x14 m=>
  (Q41 G i) x14 p1 p0 p8 p2 p6 m)
  (Qat G p0 p7 p1 p2 p6 m)
def Qau (G:Gt)(p8 p1 p0 p7 p2 p6:V)(m:M):R:=
  Q41 G G.rds p8 p1 p0 p7 p2 p6 m
def Qav (G:Gt)(p6 p1 p0 p2:V)(m:M):R:=
  Qau G p6 p1 p0 (.int .i64 0) p2 p6 m
def Q5b (G:Gt)(p1 p0 p2:V)(m:M):R:=
  Qav G (.int .i64 20) p1 p0 p2 m
theorem Qqh (G:Gt)(a0 a1 a2:V)(m:M):ef G Tryz.f394 [a0,a1,a2] m = Q5b G a1 a0 a2 m:=
  evFn_of (r:=fun r m=>Q5b G (r 1) (r 0) (r 2) m) rfl rfl (tr (seqQ (f:=fun r m=>Qav G (r 6) (r 1) (r 0) (r 2) m) (tr (seqQ (f:=fun r m=>Qau G (r 8) (r 1) (r 0) (r 7) (r 2) (r 6) m) (tr (tr (seqQ (f:=fun r m=>Qat G (r 0) (r 7) (r 1) (r 2) (r 6) m) (tr (seqQ (f:=fun r m=>Qas G (r 6) (r 1) (r 0) (r 2) m) (tr (blockQ (loopQ (fun i r m=>Qu G i (r 6) (r 1) (r 0) (r 2) m) (fun _ _=>rfl) (fun i0=>tr (seqQ (f:=fun r m=>Qar G (Qu G i0) (r 6) (r 1) (r 0) (r 2) m) (tr (blockQ (seqQ (f:=fun r m=>Qaq G (Qu G i0) (r 8) (r 1) (r 0) (r 7) (r 6) (r 2) m) (tr (tr (seqQ (f:=fun r m=>Qao G (Qu G i0) (r 7) (r 6) (r 1) (r 0) (r 2) m) (tr (seqQ (f:=fun r m=>Q4f G (Qu G i0) (r 6) (r 1) (r 0) (r 2) m) (fun r m=>by kernel_rfl)) (fun r m=>by kernel_rfl))) (blockQ (loopQ (fun i r m=>Q4g G (Qu G i0) i (r 8) (r 1) (r 0) (r 7) (r 6) (r 2) m) (fun _ _=>rfl) (fun i1=>fun r m=>by kernel_rfl)))) (fun r m=>by kernel_rfl)))) (fun r m=>by kernel_rfl))) (fun r m=>by kernel_rfl)))) (fun r m=>by kernel_rfl))) (fun r m=>by kernel_rfl))) (blockQ (loopQ (fun i r m=>Q41 G i (r 8) (r 1) (r 0) (r 7) (r 2) (r 6) m) (fun _ _=>rfl) (fun i0=>fun r m=>by kernel_rfl)))) (fun r m=>by kernel_rfl))) (fun r m=>by kernel_rfl))) (fun r m=>by kernel_rfl)) m
def Qqi:En:=⟨Qd5,Tryz.f394,Tryz.func394,by kernel_rfl,arg3 (fun G a0 a1 a2 m=>Q5b G a1 a0 a2 m),okarg3 Qqh⟩
end
end Go.Ab.Sh
