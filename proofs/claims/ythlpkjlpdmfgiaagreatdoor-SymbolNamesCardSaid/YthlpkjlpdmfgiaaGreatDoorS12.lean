/-
  Functions of the program as plain definitions. No conditions.
-/
import Derived.Test.YthlpkjlpdmfgiaaGreatDoorAb5
import Derived.Test.YthlpkjlpdmfgiaaGreatDoorZ
import Derived.KernelRfl
import Derived.Test.YthlpkjlpdmfgiaaGreatDoorProg
set_option linter.unusedVariables false
set_option maxRecDepth 100000
namespace Go.Ab.Sh
open Go Go.Ab Go.Proofs
noncomputable section
def Qcu (G:Gt)(p0:V)(m:M):R:=
  some (p0,m)
def Qcv (G:Gt)(p0 p3:V)(m:M):R:=
  bp (pur (aSliceSl 2 p0 (some p3) none) m) fun x0 m=>
  bp (unt (aClear Q16b 2 x0 m)) fun _ m=>
  bp (pur (aSliceSl 2 p0 none (some p3)) m) fun x1 m=>
  some (x1,m)
def Q5i (G:Gt)(k1:V → V → V → V → M → R)(p5 p4 p0 p3:V)(m:M):R:=
  bp (pur (bin .add true true .int p5 (.int .i64 1)) m) fun x2 m=>
  k1 x2 p4 p0 p3 m
def Qca (G:Gt)(k1:V → V → V → V → M → R)(p4 p5 p0 p3:V)(m:M):R:=
  bp (pur (aIndexAddrSl 2 p4 p5) m) fun x3 m=>
  bp (pur (aLoad true 2 x3 m) m) fun x4 m=>
  bp (pur (bin .sub true true .int p5 (.int .i64 1)) m) fun x5 m=>
  bp (pur (aIndexAddrSl 2 p4 x5) m) fun x6 m=>
  bp (pur (aLoad true 2 x6 m) m) fun x7 m=>
  bp (pur (bin .neq false true (.struct [(0,1,false,.str),(1,1,false,.int)]) x4 x7) m) fun x8 m=>
  brb x8
  (bp (pur (aIndexAddrSl 2 p4 p5) m) fun x9 m=>
  bp (pur (aLoad true 2 x9 m) m) fun x10 m=>
  bp (pur (aIndexAddrSl 2 p0 p3) m) fun x11 m=>
  bp (unt (aStore 2 x11 x10 m)) fun _ m=>
  bp (pur (bin .add true true .int p3 (.int .i64 1)) m) fun x12 m=>
  Q5i G k1 p5 p4 p0 x12 m)
  (Q5i G k1 p5 p4 p0 p3 m)
def Q20 (G:Gt):Nat → V → V → V → V → M → R
 | 0,_,_,_,_,_=>none
 | i + 1,p5,p4,p0,p3,m=>
  bp (pur (lenK 1 p4 m) m) fun x13 m=>
  bp (pur (bin .lss false true .int p5 x13) m) fun x14 m=>
  brb x14
  (Qca G (Q20 G i) p4 p5 p0 p3 m)
  (Qcv G p0 p3 m)
def Qcw (G:Gt)(p5 p4 p0 p3:V)(m:M):R:=
  Q20 G G.rds p5 p4 p0 p3 m
def Qcx (G:Gt)(p4 p0 p3:V)(m:M):R:=
  Qcw G (.int .i64 1) p4 p0 p3 m
def Qcy (G:Gt)(k0:V → V → M → R)(p25 p0 p3:V)(m:M):R:=
  brb p25
  (bp (pur (aSliceSl 2 p0 (some p3) none) m) fun x15 m=>
  Qcx G x15 p0 p3 m)
  (bp (pur (bin .add true true .int p3 (.int .i64 1)) m) fun x16 m=>
  k0 x16 p0 m)
def Qcz (G:Gt)(k0:V → V → M → R)(p0 p3:V)(m:M):R:=
  bp (pur (aIndexAddrSl 2 p0 p3) m) fun x17 m=>
  bp (pur (aLoad true 2 x17 m) m) fun x18 m=>
  bp (pur (bin .sub true true .int p3 (.int .i64 1)) m) fun x19 m=>
  bp (pur (aIndexAddrSl 2 p0 x19) m) fun x20 m=>
  bp (pur (aLoad true 2 x20 m) m) fun x21 m=>
  bp (pur (bin .eql false true (.struct [(0,1,false,.str),(1,1,false,.int)]) x18 x21) m) fun x22 m=>
  Qcy G k0 x22 p0 p3 m
def Q26 (G:Gt):Nat → V → V → M → R
 | 0,_,_,_=>none
 | i + 1,p3,p0,m=>
  bp (pur (lenK 1 p0 m) m) fun x23 m=>
  bp (pur (bin .lss false true .int p3 x23) m) fun x24 m=>
  brb x24
  (Qcz G (Q26 G i) p0 p3 m)
  (Qcu G p0 m)
def Qd0 (G:Gt)(p3 p0:V)(m:M):R:=
  Q26 G G.rds p3 p0 m
def Qd1 (G:Gt)(p0:V)(m:M):R:=
  Qd0 G (.int .i64 1) p0 m
def Qd2 (G:Gt)(p0:V)(m:M):R:=
  bp (pur (lenK 1 p0 m) m) fun x25 m=>
  bp (pur (bin .lss true true .int x25 (.int .i64 2)) m) fun x26 m=>
  brb x26
  (some (p0,m))
  (Qd1 G p0 m)
def Q75 (G:Gt)(p0:V)(m:M):R:=
  Qd2 G p0 m
theorem Qv4 (G:Gt)(a0:V)(m:M):ef G Tryz.f318 [a0] m = Q75 G a0 m:=
  evFn_of (r:=fun r m=>Q75 G (r 0) m) rfl rfl (tr (seqQ (f:=fun r m=>Qd2 G (r 0) m) (tr (seqQ (f:=fun r m=>Qd1 G (r 0) m) (tr (tr (seqQ (f:=fun r m=>Qcu G (r 0) m) (fun r m=>by kernel_rfl)) (seqQ (f:=fun r m=>Qd0 G (r 3) (r 0) m) (tr (blockQ (loopQ (fun i r m=>Q26 G i (r 3) (r 0) m) (fun _ _=>rfl) (fun i0=>tr (seqQ (f:=fun r m=>Qcz G (Q26 G i0) (r 0) (r 3) m) (tr (tr seqD (blockQ (seqQ (f:=fun r m=>Qcy G (Q26 G i0) (r 25) (r 0) (r 3) m) (tr (condQ (seqQ (f:=fun r m=>Qcx G (r 4) (r 0) (r 3) m) (tr (tr (seqQ (f:=fun r m=>Qcv G (r 0) (r 3) m) (fun r m=>by kernel_rfl)) (seqQ (f:=fun r m=>Qcw G (r 5) (r 4) (r 0) (r 3) m) (tr (blockQ (loopQ (fun i r m=>Q20 G i (r 5) (r 4) (r 0) (r 3) m) (fun _ _=>rfl) (fun i1=>tr (seqQ (f:=fun r m=>Qca G (Q20 G i1) (r 4) (r 5) (r 0) (r 3) m) (tr (seqQ (f:=fun r m=>Q5i G (Q20 G i1) (r 5) (r 4) (r 0) (r 3) m) (fun r m=>by kernel_rfl)) (fun r m=>by kernel_rfl))) (fun r m=>by kernel_rfl)))) (fun r m=>by kernel_rfl)))) (fun r m=>by kernel_rfl))) (refQ)) (fun r m=>by kernel_rfl))))) (fun r m=>by kernel_rfl))) (fun r m=>by kernel_rfl)))) (fun r m=>by kernel_rfl)))) (fun r m=>by kernel_rfl))) (fun r m=>by kernel_rfl))) (fun r m=>by kernel_rfl)) m
def Quz:En:=⟨Qf1,Tryz.f318,Tryz.func318,by kernel_rfl,arg1 Q75,okarg1 Qv4⟩
def Q63 (G:Gt)(p16 p1 p0 p3 p4 p2:V)(m:M):R:=
  brb p16
  (some (.tuple ⟨[]⟩,m))
  (bp (pur (aLoad false 1 p1 m) m) fun x0 m=>
  bp (unt (aMapUpdate .int x0 p0 (.bool true) m)) fun _ m=>
  bp (pur (aLoad false 1 p3 m) m) fun x1 m=>
  bp (aBuildSlice Q2z [(.int .i32 0)] 1 1 [(0,p0)] m) fun x2 m=>
  bp (apS Q2z 1 4 x1 x2 m) fun x3 m=>
  bp (unt (aStore 1 p3 x3 m)) fun _ m=>
  bp (pur (aLoad false 1 p4 m) m) fun x4 m=>
  bp (pur (aLoad false 1 p2 m) m) fun x5 m=>
  bp (pur (aNilCheck x5) m) fun x6 m=>
  bp (pur (aFieldAddr 2 x6) m) fun x7 m=>
  bp (pur (aLoad false 1 x7 m) m) fun x8 m=>
  bp (pur (aIndexAddrSl 3 x8 p0) m) fun x9 m=>
  bp (pur (aFieldAddr 1 x9) m) fun x10 m=>
  bp (pur (aLoad false 1 x10 m) m) fun x11 m=>
  bp (evCall G.tab x4 [x11] m) fun x12 m=>
  bp (pur (aLoad false 1 p4 m) m) fun x13 m=>
  bp (pur (aLoad false 1 p2 m) m) fun x14 m=>
  bp (pur (aNilCheck x14) m) fun x15 m=>
  bp (pur (aFieldAddr 2 x15) m) fun x16 m=>
  bp (pur (aLoad false 1 x16 m) m) fun x17 m=>
  bp (pur (aIndexAddrSl 3 x17 p0) m) fun x18 m=>
  bp (pur (aFieldAddr 2 x18) m) fun x19 m=>
  bp (pur (aLoad false 1 x19 m) m) fun x20 m=>
  bp (evCall G.tab x13 [x20] m) fun x21 m=>
  some (.tuple ⟨[]⟩,m))
def Q1p (G:Gt)(p1 p0 p2 p3 p4:V)(m:M):R:=
  bp (pur (aLoad false 1 p1 m) m) fun x22 m=>
  bp (pur (aLookup .int (.bool false) false x22 p0 m) m) fun x23 m=>
  brb x23
  (Q63 G (.bool true) p1 p0 p3 p4 p2 m)
  (bp (pur (aLoad false 1 p2 m) m) fun x24 m=>
  bp (pur (aNilCheck x24) m) fun x25 m=>
  bp (pur (aFieldAddr 6 x25) m) fun x26 m=>
  bp (pur (aLoad false 1 x26 m) m) fun x27 m=>
  bp (pur (aLookup .int (.bool false) false x27 p0 m) m) fun x28 m=>
  Q63 G x28 p1 p0 p3 p4 p2 m)
theorem Q1ig (G:Gt)(a0 a1 a2 a3 a4:V)(m:M):ef G Tryz.f319 [a0,a1,a2,a3,a4] m = Q1p G a1 a0 a2 a3 a4 m:=
  evFn_of (r:=fun r m=>Q1p G (r 1) (r 0) (r 2) (r 3) (r 4) m) rfl rfl (tr (tr seqD (seqQ (f:=fun r m=>Q63 G (r 16) (r 1) (r 0) (r 3) (r 4) (r 2) m) (fun r m=>by kernel_rfl))) (fun r m=>by kernel_rfl)) m
def Qqo:En:=⟨Q1z,Tryz.f319,Tryz.func319,by kernel_rfl,arg5 (fun G a0 a1 a2 a3 a4 m=>Q1p G a1 a0 a2 a3 a4 m),okarg5 Q1ig⟩
def Q4q (G:Gt)(p1 p2 p3 p0 p4 p5:V)(m:M):R:=
  bp (pur (aLoad false 1 p1 m) m) fun x0 m=>
  bp (pur (aLoad false 1 p1 m) m) fun x1 m=>
  bp (pur (aLoad false 1 p2 m) m) fun x2 m=>
  bp (pur (aLoad false 1 p3 m) m) fun x3 m=>
  bp (pur (aLoad false 1 p1 m) m) fun x4 m=>
  bp (pur (aLoad false 1 p4 m) m) fun x5 m=>
  bp (pur (aLoad false 1 p3 m) m) fun x6 m=>
  bp (pur (aLoad false 1 p1 m) m) fun x7 m=>
  bp (pur (aLoad false 1 p5 m) m) fun x8 m=>
  bp (pur (aLoad false 1 p3 m) m) fun x9 m=>
  bp (G.tab Q64 [x1,x2,x3,p0] m) fun x10 m=>
  ckB (again (pur (aLoad false 1 p1 m) m) x0 && (again (pur (aLoad false 1 p1 m) m) x4 && (again (pur (aLoad false 1 p4 m) m) x5 && (again (pur (aLoad false 1 p3 m) m) x6 && (again (pur (aLoad false 1 p1 m) m) x7 && (again (pur (aLoad false 1 p5 m) m) x8 && (again (pur (aLoad false 1 p3 m) m) x9 && true)))))))
  (bp (G.tab Q64 [x4,x5,x6,p0] m) fun x11 m=>
  ckB (again (pur (aLoad false 1 p1 m) m) x0 && (again (pur (aLoad false 1 p1 m) m) x7 && (again (pur (aLoad false 1 p5 m) m) x8 && (again (pur (aLoad false 1 p3 m) m) x9 && true))))
  (bp (G.tab Q64 [x7,x8,x9,p0] m) fun x12 m=>
  ckB (again (pur (aLoad false 1 p1 m) m) x0 && true)
  (bp (G.tab Q25 [x0,x10,x11,x12] m) fun x13 m=>
  some (x13,m))))
theorem Q1k0 (G:Gt)(a0 a1 a2 a3 a4 a5:V)(m:M):ef G Tryz.f320 [a0,a1,a2,a3,a4,a5] m = Q4q G a1 a2 a3 a0 a4 a5 m:=
  evFn_of (r:=fun r m=>Q4q G (r 1) (r 2) (r 3) (r 0) (r 4) (r 5) m) rfl rfl (fun r m=>by kernel_rfl) m
def Qtm:En:=⟨Q6h,Tryz.f320,Tryz.func320,by kernel_rfl,arg6 (fun G a0 a1 a2 a3 a4 a5 m=>Q4q G a1 a2 a3 a0 a4 a5 m),okarg6 Q1k0⟩
def Qe6 (G:Gt)(k0:V → V → V → V → M → R)(p6 p2 p1 p0:V)(m:M):R:=
  bp (pur (bin .add true true .int p6 (.int .i64 1)) m) fun x0 m=>
  k0 x0 p2 p1 p0 m
def Q6n (G:Gt)(k1:V → V → V → V → V → M → R)(k0:V → V → V → V → M → R)(p30 p0 p7 p1 p6 p2:V)(m:M):R:=
  brb p30
  (bp (pur (bin .sub true true .int p7 (.int .i64 1)) m) fun x1 m=>
  bp (pur (bin .sub true true .int p7 (.int .i64 1)) m) fun x2 m=>
  bp (pur (aIndexAddrSl 1 p0 x2) m) fun x3 m=>
  bp (pur (aLoad false 1 x3 m) m) fun x4 m=>
  bp (pur (aIndexAddrSl 1 p0 p7) m) fun x5 m=>
  bp (pur (aLoad false 1 x5 m) m) fun x6 m=>
  bp (pur (aIndexAddrSl 1 p0 p7) m) fun x7 m=>
  bp (unt (aStore 1 x7 x4 m)) fun _ m=>
  bp (pur (aIndexAddrSl 1 p0 x1) m) fun x8 m=>
  bp (unt (aStore 1 x8 x6 m)) fun _ m=>
  bp (pur (bin .sub true true .int p7 (.int .i64 1)) m) fun x9 m=>
  k1 x9 p1 p0 p6 p2 m)
  (Qe6 G k0 p6 p2 p1 p0 m)
def Q2a (G:Gt)(k0:V → V → V → V → M → R):Nat → V → V → V → V → V → M → R
 | 0,_,_,_,_,_,_=>none
 | i + 1,p7,p1,p0,p6,p2,m=>
  bp (pur (bin .gtr false true .int p7 p1) m) fun x10 m=>
  brt x10
  (bp (pur (aIndexAddrSl 1 p0 p7) m) fun x11 m=>
  bp (pur (aLoad false 1 x11 m) m) fun x12 m=>
  bp (pur (bin .sub true true .int p7 (.int .i64 1)) m) fun x13 m=>
  bp (pur (aIndexAddrSl 1 p0 x13) m) fun x14 m=>
  bp (pur (aLoad false 1 x14 m) m) fun x15 m=>
  bp (G.tab Q22 [x12,x15] m) fun x16 m=>
  Q6n G (Q2a G k0 i) k0 x16 p0 p7 p1 p6 p2 m)
  (Q6n G (Q2a G k0 i) k0 (.bool false) p0 p7 p1 p6 p2 m)
  (none)
def Qe7 (G:Gt)(k0:V → V → V → V → M → R)(p7 p1 p0 p6 p2:V)(m:M):R:=
  Q2a G k0 G.rds p7 p1 p0 p6 p2 m
def Qe8 (G:Gt)(k0:V → V → V → V → M → R)(p6 p1 p0 p2:V)(m:M):R:=
  Qe7 G k0 p6 p1 p0 p6 p2 m
def Qq (G:Gt):Nat → V → V → V → V → M → R
 | 0,_,_,_,_,_=>none
 | i + 1,p6,p2,p1,p0,m=>
  bp (pur (bin .lss false true .int p6 p2) m) fun x17 m=>
  brb x17
  (Qe8 G (Qq G i) p6 p1 p0 p2 m)
  (some (.tuple ⟨[]⟩,m))
def Qe9 (G:Gt)(p6 p2 p1 p0:V)(m:M):R:=
  Qq G G.rds p6 p2 p1 p0 m
def Q7e (G:Gt)(p1 p2 p0:V)(m:M):R:=
  bp (pur (bin .add true true .int p1 (.int .i64 1)) m) fun x18 m=>
  Qe9 G x18 p2 p1 p0 m
theorem Qwt (G:Gt)(a0 a1 a2:V)(m:M):ef G Tryz.f333 [a0,a1,a2] m = Q7e G a1 a2 a0 m:=
  evFn_of (r:=fun r m=>Q7e G (r 1) (r 2) (r 0) m) rfl rfl (tr (seqQ (f:=fun r m=>Qe9 G (r 6) (r 2) (r 1) (r 0) m) (tr (blockQ (loopQ (fun i r m=>Qq G i (r 6) (r 2) (r 1) (r 0) m) (fun _ _=>rfl) (fun i0=>tr (seqQ (f:=fun r m=>Qe8 G (Qq G i0) (r 6) (r 1) (r 0) (r 2) m) (tr (tr (seqQ (f:=fun r m=>Qe6 G (Qq G i0) (r 6) (r 2) (r 1) (r 0) m) (fun r m=>by kernel_rfl)) (blockQ (seqQ (f:=fun r m=>Qe7 G (Qq G i0) (r 7) (r 1) (r 0) (r 6) (r 2) m) (tr (blockQ (loopQ (fun i r m=>Q2a G (Qq G i0) i (r 7) (r 1) (r 0) (r 6) (r 2) m) (fun _ _=>rfl) (fun i1=>tr (tr seqD (seqQ (f:=fun r m=>Q6n G (Q2a G (Qq G i0) i1) (Qq G i0) (r 30) (r 0) (r 7) (r 1) (r 6) (r 2) m) (fun r m=>by kernel_rfl))) (fun r m=>by kernel_rfl)))) (fun r m=>by kernel_rfl))))) (fun r m=>by kernel_rfl))) (fun r m=>by kernel_rfl)))) (fun r m=>by kernel_rfl))) (fun r m=>by kernel_rfl)) m
def Qwe:En:=⟨Qfr,Tryz.f333,Tryz.func333,by kernel_rfl,arg3 (fun G a0 a1 a2 m=>Q7e G a1 a2 a0 m),okarg3 Qwt⟩
def Q7f (G:Gt)(p9 p11:V)(m:M):R:=
  bp (pur (aLoad false 1 p9 m) m) fun x0 m=>
  bp (pur (bin .eql true true .int x0 (.int .i64 0)) m) fun x1 m=>
  brb x1
  (some (.tuple ⟨[p11,(.int .i64 1)]⟩,m))
  (bp (pur (bin .eql true true .int x0 (.int .i64 12)) m) fun x2 m=>
  brb x2
  (some (.tuple ⟨[p11,(.int .i64 2)]⟩,m))
  (some (.tuple ⟨[p11,(.int .i64 0)]⟩,m)))
def Q7g (G:Gt)(p0 p10 p11 p12 p9:V)(m:M):R:=
  bp (G.tab Qof [p0,p10,p11,p12,p9] m) fun x3 m=>
  Q7f G p9 x3 m
def Qfu (G:Gt)(p32 p8 p0 p10 p9 p11 p12:V)(m:M):R:=
  brb p32
  (bp (pur (bin .geq true true .int p8 (.int .i64 50)) m) fun x4 m=>
  brb x4
  (bp (G.tab Q76 [p0,p10,p9] m) fun x5 m=>
  bp (G.tab Q76 [p0,p11,p9] m) fun x6 m=>
  bp (G.tab Q76 [p0,p12,p9] m) fun x7 m=>
  Q7g G p0 x5 x6 x7 p9 m)
  (Q7g G p0 p10 p11 p12 p9 m))
  (Q7f G p9 p11 m)
def Qfv (G:Gt)(p8 p0 p10 p9 p11 p12:V)(m:M):R:=
  bp (pur (bin .geq true true .int p8 (.int .i64 8)) m) fun x8 m=>
  Qfu G x8 p8 p0 p10 p9 p11 p12 m
def Qfw (G:Gt)(p1 p8 p0 p10 p9 p11:V)(m:M):R:=
  bp (pur (bin .quo true true .int p8 (.int .i64 4)) m) fun x9 m=>
  bp (pur (bin .mul true true .int x9 (.int .i64 3)) m) fun x10 m=>
  bp (pur (bin .add false true .int p1 x10) m) fun x11 m=>
  Qfv G p8 p0 p10 p9 p11 x11 m
def Qfx (G:Gt)(p1 p8 p0 p10 p9:V)(m:M):R:=
  bp (pur (bin .quo true true .int p8 (.int .i64 4)) m) fun x12 m=>
  bp (pur (bin .mul true true .int x12 (.int .i64 2)) m) fun x13 m=>
  bp (pur (bin .add false true .int p1 x13) m) fun x14 m=>
  Qfw G p1 p8 p0 p10 p9 x14 m
def Qfy (G:Gt)(p1 p8 p0 p9:V)(m:M):R:=
  bp (pur (bin .quo true true .int p8 (.int .i64 4)) m) fun x15 m=>
  bp (pur (bin .mul true true .int x15 (.int .i64 1)) m) fun x16 m=>
  bp (pur (bin .add false true .int p1 x16) m) fun x17 m=>
  Qfx G p1 p8 p0 x17 p9 m
def Qfz (G:Gt)(p1 p8 p0:V)(m:M):R:=
  bp (some (aNew Q7o [(.int .i64 0)] m)) fun x18 m=>
  Qfy G p1 p8 p0 x18 m
def Qg0 (G:Gt)(p2 p1 p0:V)(m:M):R:=
  bp (pur (bin .sub false true .int p2 p1) m) fun x19 m=>
  Qfz G p1 x19 p0 m
def Qa4 (G:Gt)(p2 p1 p0:V)(m:M):R:=
  Qg0 G p2 p1 p0 m
theorem Q10h (G:Gt)(a0 a1 a2:V)(m:M):ef G Tryz.f336 [a0,a1,a2] m = Qa4 G a2 a1 a0 m:=
  evFn_of (r:=fun r m=>Qa4 G (r 2) (r 1) (r 0) m) rfl rfl (tr (seqQ (f:=fun r m=>Qg0 G (r 2) (r 1) (r 0) m) (tr (seqQ (f:=fun r m=>Qfz G (r 1) (r 8) (r 0) m) (tr (seqQ (f:=fun r m=>Qfy G (r 1) (r 8) (r 0) (r 9) m) (tr (seqQ (f:=fun r m=>Qfx G (r 1) (r 8) (r 0) (r 10) (r 9) m) (tr (seqQ (f:=fun r m=>Qfw G (r 1) (r 8) (r 0) (r 10) (r 9) (r 11) m) (tr (seqQ (f:=fun r m=>Qfv G (r 8) (r 0) (r 10) (r 9) (r 11) (r 12) m) (tr (tr (seqQ (f:=fun r m=>Q7f G (r 9) (r 11) m) (fun r m=>by kernel_rfl)) (seqQ (f:=fun r m=>Qfu G (r 32) (r 8) (r 0) (r 10) (r 9) (r 11) (r 12) m) (tr (condQ (seqQ (f:=fun r m=>Q7g G (r 0) (r 10) (r 11) (r 12) (r 9) m) (fun r m=>by kernel_rfl)) (refQ)) (fun r m=>by kernel_rfl)))) (fun r m=>by kernel_rfl))) (fun r m=>by kernel_rfl))) (fun r m=>by kernel_rfl))) (fun r m=>by kernel_rfl))) (fun r m=>by kernel_rfl))) (fun r m=>by kernel_rfl))) (fun r m=>by kernel_rfl)) m
def Qzq:En:=⟨Qi2,Tryz.f336,Tryz.func336,by kernel_rfl,arg3 (fun G a0 a1 a2 m=>Qa4 G a2 a1 a0 m),okarg3 Q10h⟩
end
end Go.Ab.Sh

set_option linter.unusedVariables false
set_option maxRecDepth 100000
namespace Go.Ab.Sh
open Go Go.Ab Go.Proofs
noncomputable section
def Q8s (G:Gt)(m:M):R:=
  some ((.bool false),m)
def Q2d (G:Gt)(k0:V → V → V → V → V → M → R)(p8 p7 p2 p0 p1:V)(m:M):R:=
  bp (pur (bin .add true true .int p8 (.int .i64 1)) m) fun x0 m=>
  k0 x0 p7 p2 p0 p1 m
def Q3g (G:Gt)(k0:V → V → V → V → V → M → R):Nat → V → V → V → V → V → V → M → R
 | 0,_,_,_,_,_,_,_=>none
 | i + 1,p10,p2,p0,p8,p7,p1,m=>
  bp (pur (bin .lss false true .int p10 p2) m) fun x1 m=>
  brb x1
  (bp (pur (aIndexAddrSl 1 p0 p10) m) fun x2 m=>
  bp (pur (aLoad false 1 x2 m) m) fun x3 m=>
  bp (pur (bin .sub true true .int p10 (.int .i64 1)) m) fun x4 m=>
  bp (pur (aIndexAddrSl 1 p0 x4) m) fun x5 m=>
  bp (pur (aLoad false 1 x5 m) m) fun x6 m=>
  bp (G.tab Q22 [x3,x6] m) fun x7 m=>
  bp (pur (un .not x7) m) fun x8 m=>
  brb x8
  (Q2d G k0 p8 p7 p2 p0 p1 m)
  (bp (pur (bin .sub true true .int p10 (.int .i64 1)) m) fun x9 m=>
  bp (pur (bin .sub true true .int p10 (.int .i64 1)) m) fun x10 m=>
  bp (pur (aIndexAddrSl 1 p0 x10) m) fun x11 m=>
  bp (pur (aLoad false 1 x11 m) m) fun x12 m=>
  bp (pur (aIndexAddrSl 1 p0 p10) m) fun x13 m=>
  bp (pur (aLoad false 1 x13 m) m) fun x14 m=>
  bp (pur (aIndexAddrSl 1 p0 p10) m) fun x15 m=>
  bp (unt (aStore 1 x15 x12 m)) fun _ m=>
  bp (pur (aIndexAddrSl 1 p0 x9) m) fun x16 m=>
  bp (unt (aStore 1 x16 x14 m)) fun _ m=>
  bp (pur (bin .add true true .int p10 (.int .i64 1)) m) fun x17 m=>
  (Q3g G k0 i) x17 p2 p0 p8 p7 p1 m))
  (Q2d G k0 p8 p7 p2 p0 p1 m)
def Q88 (G:Gt)(k0:V → V → V → V → V → M → R)(p10 p2 p0 p8 p7 p1:V)(m:M):R:=
  Q3g G k0 G.rds p10 p2 p0 p8 p7 p1 m
def Q89 (G:Gt)(k0:V → V → V → V → V → M → R)(p98 p7 p2 p0 p8 p1:V)(m:M):R:=
  brb p98
  (bp (pur (bin .add true true .int p7 (.int .i64 1)) m) fun x18 m=>
  Q88 G k0 x18 p2 p0 p8 p7 p1 m)
  (Q2d G k0 p8 p7 p2 p0 p1 m)
def Q28 (G:Gt)(k0:V → V → V → V → V → M → R)(p2 p7 p0 p8 p1:V)(m:M):R:=
  bp (pur (bin .sub false true .int p2 p7) m) fun x19 m=>
  bp (pur (bin .geq true true .int x19 (.int .i64 2)) m) fun x20 m=>
  Q89 G k0 x20 p7 p2 p0 p8 p1 m
def Q3h (G:Gt)(k0:V → V → V → V → V → M → R):Nat → V → V → V → V → V → V → M → R
 | 0,_,_,_,_,_,_,_=>none
 | i + 1,p9,p0,p2,p7,p8,p1,m=>
  bp (pur (bin .geq true true .int p9 (.int .i64 1)) m) fun x21 m=>
  brb x21
  (bp (pur (aIndexAddrSl 1 p0 p9) m) fun x22 m=>
  bp (pur (aLoad false 1 x22 m) m) fun x23 m=>
  bp (pur (bin .sub true true .int p9 (.int .i64 1)) m) fun x24 m=>
  bp (pur (aIndexAddrSl 1 p0 x24) m) fun x25 m=>
  bp (pur (aLoad false 1 x25 m) m) fun x26 m=>
  bp (G.tab Q22 [x23,x26] m) fun x27 m=>
  bp (pur (un .not x27) m) fun x28 m=>
  brb x28
  (Q28 G k0 p2 p7 p0 p8 p1 m)
  (bp (pur (bin .sub true true .int p9 (.int .i64 1)) m) fun x29 m=>
  bp (pur (bin .sub true true .int p9 (.int .i64 1)) m) fun x30 m=>
  bp (pur (aIndexAddrSl 1 p0 x30) m) fun x31 m=>
  bp (pur (aLoad false 1 x31 m) m) fun x32 m=>
  bp (pur (aIndexAddrSl 1 p0 p9) m) fun x33 m=>
  bp (pur (aLoad false 1 x33 m) m) fun x34 m=>
  bp (pur (aIndexAddrSl 1 p0 p9) m) fun x35 m=>
  bp (unt (aStore 1 x35 x32 m)) fun _ m=>
  bp (pur (aIndexAddrSl 1 p0 x29) m) fun x36 m=>
  bp (unt (aStore 1 x36 x34 m)) fun _ m=>
  bp (pur (bin .sub true true .int p9 (.int .i64 1)) m) fun x37 m=>
  (Q3h G k0 i) x37 p0 p2 p7 p8 p1 m))
  (Q28 G k0 p2 p7 p0 p8 p1 m)
def Q8a (G:Gt)(k0:V → V → V → V → V → M → R)(p9 p0 p2 p7 p8 p1:V)(m:M):R:=
  Q3h G k0 G.rds p9 p0 p2 p7 p8 p1 m
def Q8b (G:Gt)(k0:V → V → V → V → V → M → R)(p61 p7 p0 p2 p8 p1:V)(m:M):R:=
  brb p61
  (bp (pur (bin .sub true true .int p7 (.int .i64 1)) m) fun x38 m=>
  Q8a G k0 x38 p0 p2 p7 p8 p1 m)
  (Q28 G k0 p2 p7 p0 p8 p1 m)
def Q8c (G:Gt)(k0:V → V → V → V → V → M → R)(p7 p1 p0 p2 p8:V)(m:M):R:=
  bp (pur (bin .sub false true .int p7 p1) m) fun x39 m=>
  bp (pur (bin .geq true true .int x39 (.int .i64 2)) m) fun x40 m=>
  Q8b G k0 x40 p7 p0 p2 p8 p1 m
def Q8t (G:Gt)(k0:V → V → V → V → V → M → R)(p0 p7 p1 p2 p8:V)(m:M):R:=
  bp (pur (bin .sub true true .int p7 (.int .i64 1)) m) fun x41 m=>
  bp (pur (bin .sub true true .int p7 (.int .i64 1)) m) fun x42 m=>
  bp (pur (aIndexAddrSl 1 p0 x42) m) fun x43 m=>
  bp (pur (aLoad false 1 x43 m) m) fun x44 m=>
  bp (pur (aIndexAddrSl 1 p0 p7) m) fun x45 m=>
  bp (pur (aLoad false 1 x45 m) m) fun x46 m=>
  bp (pur (aIndexAddrSl 1 p0 p7) m) fun x47 m=>
  bp (unt (aStore 1 x47 x44 m)) fun _ m=>
  bp (pur (aIndexAddrSl 1 p0 x41) m) fun x48 m=>
  bp (unt (aStore 1 x48 x46 m)) fun _ m=>
  Q8c G k0 p7 p1 p0 p2 p8 m
def Q8u (G:Gt)(k0:V → V → V → V → V → M → R)(p2 p1 p0 p7 p8:V)(m:M):R:=
  bp (pur (bin .sub false true .int p2 p1) m) fun x49 m=>
  bp (pur (bin .lss true true .int x49 (.int .i64 50)) m) fun x50 m=>
  brb x50
  (some ((.bool false),m))
  (Q8t G k0 p0 p7 p1 p2 p8 m)
def Q8v (G:Gt)(k0:V → V → V → V → V → M → R)(p7 p2 p1 p0 p8:V)(m:M):R:=
  bp (pur (bin .eql false true .int p7 p2) m) fun x51 m=>
  brb x51
  (some ((.bool true),m))
  (Q8u G k0 p2 p1 p0 p7 p8 m)
def Q3i (G:Gt)(k1:V → V → V → V → V → M → R)(k0:V → V → V → V → V → M → R)(p32 p7 p2 p0 p1 p8:V)(m:M):R:=
  brb p32
  (bp (pur (bin .add true true .int p7 (.int .i64 1)) m) fun x52 m=>
  k1 x52 p2 p0 p1 p8 m)
  (Q8v G k0 p7 p2 p1 p0 p8 m)
def Q1d (G:Gt)(k0:V → V → V → V → V → M → R):Nat → V → V → V → V → V → M → R
 | 0,_,_,_,_,_,_=>none
 | i + 1,p7,p2,p0,p1,p8,m=>
  bp (pur (bin .lss false true .int p7 p2) m) fun x53 m=>
  brt x53
  (bp (pur (aIndexAddrSl 1 p0 p7) m) fun x54 m=>
  bp (pur (aLoad false 1 x54 m) m) fun x55 m=>
  bp (pur (bin .sub true true .int p7 (.int .i64 1)) m) fun x56 m=>
  bp (pur (aIndexAddrSl 1 p0 x56) m) fun x57 m=>
  bp (pur (aLoad false 1 x57 m) m) fun x58 m=>
  bp (G.tab Q22 [x55,x58] m) fun x59 m=>
  bp (pur (un .not x59) m) fun x60 m=>
  Q3i G (Q1d G k0 i) k0 x60 p7 p2 p0 p1 p8 m)
  (Q3i G (Q1d G k0 i) k0 (.bool false) p7 p2 p0 p1 p8 m)
  (none)
def Q8w (G:Gt)(k0:V → V → V → V → V → M → R)(p7 p2 p0 p1 p8:V)(m:M):R:=
  Q1d G k0 G.rds p7 p2 p0 p1 p8 m
def Q0 (G:Gt):Nat → V → V → V → V → V → M → R
 | 0,_,_,_,_,_,_=>none
 | i + 1,p8,p7,p2,p0,p1,m=>
  bp (pur (bin .lss true true .int p8 (.int .i64 5)) m) fun x61 m=>
  brb x61
  (Q8w G (Q0 G i) p7 p2 p0 p1 p8 m)
  (Q8s G m)
def Q8x (G:Gt)(p8 p7 p2 p0 p1:V)(m:M):R:=
  Q0 G G.rds p8 p7 p2 p0 p1 m
def Q8y (G:Gt)(p7 p2 p0 p1:V)(m:M):R:=
  Q8x G (.int .i64 0) p7 p2 p0 p1 m
def Q8z (G:Gt)(p1 p2 p0:V)(m:M):R:=
  bp (pur (bin .add true true .int p1 (.int .i64 1)) m) fun x62 m=>
  Q8y G x62 p2 p0 p1 m
def Q4g (G:Gt)(p1 p2 p0:V)(m:M):R:=
  Q8z G p1 p2 p0 m
theorem Qnq (G:Gt)(a0 a1 a2:V)(m:M):ef G Tryz.f338 [a0,a1,a2] m = Q4g G a1 a2 a0 m:=
  evFn_of (r:=fun r m=>Q4g G (r 1) (r 2) (r 0) m) rfl rfl (tr (seqQ (f:=fun r m=>Q8z G (r 1) (r 2) (r 0) m) (tr (seqQ (f:=fun r m=>Q8y G (r 7) (r 2) (r 0) (r 1) m) (tr (tr (seqQ (f:=fun r m=>Q8s G m) (fun r m=>by kernel_rfl)) (seqQ (f:=fun r m=>Q8x G (r 8) (r 7) (r 2) (r 0) (r 1) m) (tr (blockQ (loopQ (fun i r m=>Q0 G i (r 8) (r 7) (r 2) (r 0) (r 1) m) (fun _ _=>rfl) (fun i0=>tr (seqQ (f:=fun r m=>Q8w G (Q0 G i0) (r 7) (r 2) (r 0) (r 1) (r 8) m) (tr (tr (seqQ (f:=fun r m=>Q2d G (Q0 G i0) (r 8) (r 7) (r 2) (r 0) (r 1) m) (fun r m=>by kernel_rfl)) (blockQ (tr (seqQ (f:=fun r m=>Q8v G (Q0 G i0) (r 7) (r 2) (r 1) (r 0) (r 8) m) (tr (seqQ (f:=fun r m=>Q8u G (Q0 G i0) (r 2) (r 1) (r 0) (r 7) (r 8) m) (tr (seqQ (f:=fun r m=>Q8t G (Q0 G i0) (r 0) (r 7) (r 1) (r 2) (r 8) m) (tr (seqQ (f:=fun r m=>Q8c G (Q0 G i0) (r 7) (r 1) (r 0) (r 2) (r 8) m) (tr (tr (seqQ (f:=fun r m=>Q28 G (Q0 G i0) (r 2) (r 7) (r 0) (r 8) (r 1) m) (tr (seqQ (f:=fun r m=>Q89 G (Q0 G i0) (r 98) (r 7) (r 2) (r 0) (r 8) (r 1) m) (tr (condQ (seqQ (f:=fun r m=>Q88 G (Q0 G i0) (r 10) (r 2) (r 0) (r 8) (r 7) (r 1) m) (tr (blockQ (loopQ (fun i r m=>Q3g G (Q0 G i0) i (r 10) (r 2) (r 0) (r 8) (r 7) (r 1) m) (fun _ _=>rfl) (fun i1=>fun r m=>by kernel_rfl))) (fun r m=>by kernel_rfl))) (refQ)) (fun r m=>by kernel_rfl))) (fun r m=>by kernel_rfl))) (seqQ (f:=fun r m=>Q8b G (Q0 G i0) (r 61) (r 7) (r 0) (r 2) (r 8) (r 1) m) (tr (condQ (seqQ (f:=fun r m=>Q8a G (Q0 G i0) (r 9) (r 0) (r 2) (r 7) (r 8) (r 1) m) (tr (blockQ (loopQ (fun i r m=>Q3h G (Q0 G i0) i (r 9) (r 0) (r 2) (r 7) (r 8) (r 1) m) (fun _ _=>rfl) (fun i1=>fun r m=>by kernel_rfl))) (fun r m=>by kernel_rfl))) (refQ)) (fun r m=>by kernel_rfl)))) (fun r m=>by kernel_rfl))) (fun r m=>by kernel_rfl))) (fun r m=>by kernel_rfl))) (fun r m=>by kernel_rfl))) (blockQ (loopQ (fun i r m=>Q1d G (Q0 G i0) i (r 7) (r 2) (r 0) (r 1) (r 8) m) (fun _ _=>rfl) (fun i1=>tr (tr seqD (seqQ (f:=fun r m=>Q3i G (Q1d G (Q0 G i0) i1) (Q0 G i0) (r 32) (r 7) (r 2) (r 0) (r 1) (r 8) m) (fun r m=>by kernel_rfl))) (fun r m=>by kernel_rfl))))))) (fun r m=>by kernel_rfl))) (fun r m=>by kernel_rfl)))) (fun r m=>by kernel_rfl)))) (fun r m=>by kernel_rfl))) (fun r m=>by kernel_rfl))) (fun r m=>by kernel_rfl)) m
def Qnj:En:=⟨Qax,Tryz.f338,Tryz.func338,by kernel_rfl,arg3 (fun G a0 a1 a2 m=>Q4g G a1 a2 a0 m),okarg3 Qnq⟩
def Qg1 (G:Gt)(p4:V)(m:M):R:=
  some (p4,m)
def Qwu (G:Gt)(p0 p1:V)(m:M):R:=
  bp (G.tab Qa0 [p0] m) fun x0 m=>
  brb x0
  (bp (G.tab Qa0 [p1] m) fun x1 m=>
  bp (pur (un .not x1) m) fun x2 m=>
  brb x2
  (Qg1 G (.bool true) m)
  (bp (pur (bin .lss false true .int p0 p1) m) fun x3 m=>
  Qg1 G x3 m))
  (bp (pur (bin .lss false true .int p0 p1) m) fun x4 m=>
  Qg1 G x4 m)
def Qbf (G:Gt)(p0 p1:V)(m:M):R:=
  Qwu G p0 p1 m
theorem Q1oe (G:Gt)(a0 a1:V)(m:M):ef G Tryz.f339 [a0,a1] m = Qbf G a0 a1 m:=
  evFn_of (r:=fun r m=>Qbf G (r 0) (r 1) m) rfl rfl (tr (seqQ (f:=fun r m=>Qwu G (r 0) (r 1) m) (tr (seqQ (f:=fun r m=>Qg1 G (r 4) m) (fun r m=>by kernel_rfl)) (fun r m=>by kernel_rfl))) (fun r m=>by kernel_rfl)) m
def Q12d:En:=⟨Q22,Tryz.f339,Tryz.func339,by kernel_rfl,arg2 Qbf,okarg2 Q1oe⟩
def Qi7 (G:Gt)(p0 p11 p1:V)(m:M):R:=
  bp (pur (aIndexAddrSl 1 p0 p1) m) fun x0 m=>
  bp (pur (aLoad false 1 x0 m) m) fun x1 m=>
  bp (pur (aIndexAddrSl 1 p0 p11) m) fun x2 m=>
  bp (pur (aLoad false 1 x2 m) m) fun x3 m=>
  bp (pur (aIndexAddrSl 1 p0 p11) m) fun x4 m=>
  bp (unt (aStore 1 x4 x1 m)) fun _ m=>
  bp (pur (aIndexAddrSl 1 p0 p1) m) fun x5 m=>
  bp (unt (aStore 1 x5 x3 m)) fun _ m=>
  some (.tuple ⟨[p11,(.bool false)]⟩,m)
def Qh8 (G:Gt)(k0:V → V → V → V → M → R)(p10 p11 p0 p1:V)(m:M):R:=
  bp (pur (bin .gtr false true .int p10 p11) m) fun x6 m=>
  brb x6
  (Qi7 G p0 p11 p1 m)
  (bp (pur (aIndexAddrSl 1 p0 p11) m) fun x7 m=>
  bp (pur (aLoad false 1 x7 m) m) fun x8 m=>
  bp (pur (aIndexAddrSl 1 p0 p10) m) fun x9 m=>
  bp (pur (aLoad false 1 x9 m) m) fun x10 m=>
  bp (pur (aIndexAddrSl 1 p0 p10) m) fun x11 m=>
  bp (unt (aStore 1 x11 x8 m)) fun _ m=>
  bp (pur (aIndexAddrSl 1 p0 p11) m) fun x12 m=>
  bp (unt (aStore 1 x12 x10 m)) fun _ m=>
  bp (pur (bin .add true true .int p10 (.int .i64 1)) m) fun x13 m=>
  bp (pur (bin .sub true true .int p11 (.int .i64 1)) m) fun x14 m=>
  k0 x13 x14 p0 p1 m)
def Q8d (G:Gt)(k1:V → V → V → V → M → R)(k0:V → V → V → V → M → R)(p129 p11 p10 p0 p1:V)(m:M):R:=
  brb p129
  (bp (pur (bin .sub true true .int p11 (.int .i64 1)) m) fun x15 m=>
  k1 p10 x15 p0 p1 m)
  (Qh8 G k0 p10 p11 p0 p1 m)
def Q2k (G:Gt)(k0:V → V → V → V → M → R):Nat → V → V → V → V → M → R
 | 0,_,_,_,_,_=>none
 | i + 1,p10,p11,p0,p1,m=>
  bp (pur (bin .leq false true .int p10 p11) m) fun x16 m=>
  brt x16
  (bp (pur (aIndexAddrSl 1 p0 p11) m) fun x17 m=>
  bp (pur (aLoad false 1 x17 m) m) fun x18 m=>
  bp (pur (aIndexAddrSl 1 p0 p1) m) fun x19 m=>
  bp (pur (aLoad false 1 x19 m) m) fun x20 m=>
  bp (G.tab Q22 [x18,x20] m) fun x21 m=>
  bp (pur (un .not x21) m) fun x22 m=>
  Q8d G (Q2k G k0 i) k0 x22 p11 p10 p0 p1 m)
  (Q8d G (Q2k G k0 i) k0 (.bool false) p11 p10 p0 p1 m)
  (none)
def Qh9 (G:Gt)(k0:V → V → V → V → M → R)(p10 p11 p0 p1:V)(m:M):R:=
  Q2k G k0 G.rds p10 p11 p0 p1 m
def Q8e (G:Gt)(k1:V → V → V → V → M → R)(k0:V → V → V → V → M → R)(p112 p10 p11 p0 p1:V)(m:M):R:=
  brb p112
  (bp (pur (bin .add true true .int p10 (.int .i64 1)) m) fun x23 m=>
  k1 x23 p11 p0 p1 m)
  (Qh9 G k0 p10 p11 p0 p1 m)
def Q2l (G:Gt)(k0:V → V → V → V → M → R):Nat → V → V → V → V → M → R
 | 0,_,_,_,_,_=>none
 | i + 1,p10,p11,p0,p1,m=>
  bp (pur (bin .leq false true .int p10 p11) m) fun x24 m=>
  brt x24
  (bp (pur (aIndexAddrSl 1 p0 p10) m) fun x25 m=>
  bp (pur (aLoad false 1 x25 m) m) fun x26 m=>
  bp (pur (aIndexAddrSl 1 p0 p1) m) fun x27 m=>
  bp (pur (aLoad false 1 x27 m) m) fun x28 m=>
  bp (G.tab Q22 [x26,x28] m) fun x29 m=>
  Q8e G (Q2l G k0 i) k0 x29 p10 p11 p0 p1 m)
  (Q8e G (Q2l G k0 i) k0 (.bool false) p10 p11 p0 p1 m)
  (none)
def Qk (G:Gt):Nat → V → V → V → V → M → R
 | 0,_,_,_,_,_=>none
 | i + 1,p10,p11,p0,p1,m=>
  Q2l G (Qk G i) G.rds p10 p11 p0 p1 m
def Qi8 (G:Gt)(p10 p11 p0 p1:V)(m:M):R:=
  Qk G G.rds p10 p11 p0 p1 m
def Qi9 (G:Gt)(p11 p10 p0 p1:V)(m:M):R:=
  bp (pur (bin .sub true true .int p11 (.int .i64 1)) m) fun x30 m=>
  Qi8 G p10 x30 p0 p1 m
def Qia (G:Gt)(p10 p11 p0 p1:V)(m:M):R:=
  bp (pur (bin .add true true .int p10 (.int .i64 1)) m) fun x31 m=>
  Qi9 G p11 x31 p0 p1 m
def Qib (G:Gt)(p0 p10 p11 p1:V)(m:M):R:=
  bp (pur (aIndexAddrSl 1 p0 p11) m) fun x32 m=>
  bp (pur (aLoad false 1 x32 m) m) fun x33 m=>
  bp (pur (aIndexAddrSl 1 p0 p10) m) fun x34 m=>
  bp (pur (aLoad false 1 x34 m) m) fun x35 m=>
  bp (pur (aIndexAddrSl 1 p0 p10) m) fun x36 m=>
  bp (unt (aStore 1 x36 x33 m)) fun _ m=>
  bp (pur (aIndexAddrSl 1 p0 p11) m) fun x37 m=>
  bp (unt (aStore 1 x37 x35 m)) fun _ m=>
  Qia G p10 p11 p0 p1 m
def Qic (G:Gt)(p10 p11 p0 p1:V)(m:M):R:=
  bp (pur (bin .gtr false true .int p10 p11) m) fun x38 m=>
  brb x38
  (bp (pur (aIndexAddrSl 1 p0 p1) m) fun x39 m=>
  bp (pur (aLoad false 1 x39 m) m) fun x40 m=>
  bp (pur (aIndexAddrSl 1 p0 p11) m) fun x41 m=>
  bp (pur (aLoad false 1 x41 m) m) fun x42 m=>
  bp (pur (aIndexAddrSl 1 p0 p11) m) fun x43 m=>
  bp (unt (aStore 1 x43 x40 m)) fun _ m=>
  bp (pur (aIndexAddrSl 1 p0 p1) m) fun x44 m=>
  bp (unt (aStore 1 x44 x42 m)) fun _ m=>
  some (.tuple ⟨[p11,(.bool true)]⟩,m))
  (Qib G p0 p10 p11 p1 m)
def Q8f (G:Gt)(k0:V → V → V → V → M → R)(p60 p11 p10 p0 p1:V)(m:M):R:=
  brb p60
  (bp (pur (bin .sub true true .int p11 (.int .i64 1)) m) fun x45 m=>
  k0 p10 x45 p0 p1 m)
  (Qic G p10 p11 p0 p1 m)
def Q2m (G:Gt):Nat → V → V → V → V → M → R
 | 0,_,_,_,_,_=>none
 | i + 1,p10,p11,p0,p1,m=>
  bp (pur (bin .leq false true .int p10 p11) m) fun x46 m=>
  brt x46
  (bp (pur (aIndexAddrSl 1 p0 p11) m) fun x47 m=>
  bp (pur (aLoad false 1 x47 m) m) fun x48 m=>
  bp (pur (aIndexAddrSl 1 p0 p1) m) fun x49 m=>
  bp (pur (aLoad false 1 x49 m) m) fun x50 m=>
  bp (G.tab Q22 [x48,x50] m) fun x51 m=>
  bp (pur (un .not x51) m) fun x52 m=>
  Q8f G (Q2m G i) x52 p11 p10 p0 p1 m)
  (Q8f G (Q2m G i) (.bool false) p11 p10 p0 p1 m)
  (none)
def Qid (G:Gt)(p10 p11 p0 p1:V)(m:M):R:=
  Q2m G G.rds p10 p11 p0 p1 m
def Q8g (G:Gt)(k0:V → V → V → V → M → R)(p43 p10 p11 p0 p1:V)(m:M):R:=
  brb p43
  (bp (pur (bin .add true true .int p10 (.int .i64 1)) m) fun x53 m=>
  k0 x53 p11 p0 p1 m)
  (Qid G p10 p11 p0 p1 m)
def Q2n (G:Gt):Nat → V → V → V → V → M → R
 | 0,_,_,_,_,_=>none
 | i + 1,p10,p11,p0,p1,m=>
  bp (pur (bin .leq false true .int p10 p11) m) fun x54 m=>
  brt x54
  (bp (pur (aIndexAddrSl 1 p0 p10) m) fun x55 m=>
  bp (pur (aLoad false 1 x55 m) m) fun x56 m=>
  bp (pur (aIndexAddrSl 1 p0 p1) m) fun x57 m=>
  bp (pur (aLoad false 1 x57 m) m) fun x58 m=>
  bp (G.tab Q22 [x56,x58] m) fun x59 m=>
  Q8g G (Q2n G i) x59 p10 p11 p0 p1 m)
  (Q8g G (Q2n G i) (.bool false) p10 p11 p0 p1 m)
  (none)
def Qie (G:Gt)(p10 p11 p0 p1:V)(m:M):R:=
  Q2n G G.rds p10 p11 p0 p1 m
def Qif (G:Gt)(p1 p2 p0:V)(m:M):R:=
  bp (pur (bin .add true true .int p1 (.int .i64 1)) m) fun x60 m=>
  bp (pur (bin .sub true true .int p2 (.int .i64 1)) m) fun x61 m=>
  Qie G x60 x61 p0 p1 m
def Qig (G:Gt)(p0 p1 p3 p2:V)(m:M):R:=
  bp (pur (aIndexAddrSl 1 p0 p3) m) fun x62 m=>
  bp (pur (aLoad false 1 x62 m) m) fun x63 m=>
  bp (pur (aIndexAddrSl 1 p0 p1) m) fun x64 m=>
  bp (pur (aLoad false 1 x64 m) m) fun x65 m=>
  bp (pur (aIndexAddrSl 1 p0 p1) m) fun x66 m=>
  bp (unt (aStore 1 x66 x63 m)) fun _ m=>
  bp (pur (aIndexAddrSl 1 p0 p3) m) fun x67 m=>
  bp (unt (aStore 1 x67 x65 m)) fun _ m=>
  Qif G p1 p2 p0 m
def Qbg (G:Gt)(p0 p1 p3 p2:V)(m:M):R:=
  Qig G p0 p1 p3 p2 m
theorem Q13i (G:Gt)(a0 a1 a2 a3:V)(m:M):ef G Tryz.f341 [a0,a1,a2,a3] m = Qbg G a0 a1 a3 a2 m:=
  evFn_of (r:=fun r m=>Qbg G (r 0) (r 1) (r 3) (r 2) m) rfl rfl (tr (seqQ (f:=fun r m=>Qig G (r 0) (r 1) (r 3) (r 2) m) (tr (seqQ (f:=fun r m=>Qif G (r 1) (r 2) (r 0) m) (tr (seqQ (f:=fun r m=>Qie G (r 10) (r 11) (r 0) (r 1) m) (tr (tr (seqQ (f:=fun r m=>Qid G (r 10) (r 11) (r 0) (r 1) m) (tr (tr (seqQ (f:=fun r m=>Qic G (r 10) (r 11) (r 0) (r 1) m) (tr (seqQ (f:=fun r m=>Qib G (r 0) (r 10) (r 11) (r 1) m) (tr (seqQ (f:=fun r m=>Qia G (r 10) (r 11) (r 0) (r 1) m) (tr (seqQ (f:=fun r m=>Qi9 G (r 11) (r 10) (r 0) (r 1) m) (tr (seqQ (f:=fun r m=>Qi8 G (r 10) (r 11) (r 0) (r 1) m) (tr (tr (seqQ (f:=fun r m=>Qi7 G (r 0) (r 11) (r 1) m) (fun r m=>by kernel_rfl)) (blockQ (loopQ (fun i r m=>Qk G i (r 10) (r 11) (r 0) (r 1) m) (fun _ _=>rfl) (fun i0=>tr (blockQ (tr (seqQ (f:=fun r m=>Qh9 G (Qk G i0) (r 10) (r 11) (r 0) (r 1) m) (tr (tr (seqQ (f:=fun r m=>Qh8 G (Qk G i0) (r 10) (r 11) (r 0) (r 1) m) (fun r m=>by kernel_rfl)) (blockQ (loopQ (fun i r m=>Q2k G (Qk G i0) i (r 10) (r 11) (r 0) (r 1) m) (fun _ _=>rfl) (fun i1=>tr (tr seqD (seqQ (f:=fun r m=>Q8d G (Q2k G (Qk G i0) i1) (Qk G i0) (r 129) (r 11) (r 10) (r 0) (r 1) m) (fun r m=>by kernel_rfl))) (fun r m=>by kernel_rfl))))) (fun r m=>by kernel_rfl))) (blockQ (loopQ (fun i r m=>Q2l G (Qk G i0) i (r 10) (r 11) (r 0) (r 1) m) (fun _ _=>rfl) (fun i1=>tr (tr seqD (seqQ (f:=fun r m=>Q8e G (Q2l G (Qk G i0) i1) (Qk G i0) (r 112) (r 10) (r 11) (r 0) (r 1) m) (fun r m=>by kernel_rfl))) (fun r m=>by kernel_rfl)))))) (fun r m=>by kernel_rfl))))) (fun r m=>by kernel_rfl))) (fun r m=>by kernel_rfl))) (fun r m=>by kernel_rfl))) (fun r m=>by kernel_rfl))) (fun r m=>by kernel_rfl))) (blockQ (loopQ (fun i r m=>Q2m G i (r 10) (r 11) (r 0) (r 1) m) (fun _ _=>rfl) (fun i0=>tr (tr seqD (seqQ (f:=fun r m=>Q8f G (Q2m G i0) (r 60) (r 11) (r 10) (r 0) (r 1) m) (fun r m=>by kernel_rfl))) (fun r m=>by kernel_rfl))))) (fun r m=>by kernel_rfl))) (blockQ (loopQ (fun i r m=>Q2n G i (r 10) (r 11) (r 0) (r 1) m) (fun _ _=>rfl) (fun i0=>tr (tr seqD (seqQ (f:=fun r m=>Q8g G (Q2n G i0) (r 43) (r 10) (r 11) (r 0) (r 1) m) (fun r m=>by kernel_rfl))) (fun r m=>by kernel_rfl))))) (fun r m=>by kernel_rfl))) (fun r m=>by kernel_rfl))) (fun r m=>by kernel_rfl))) (fun r m=>by kernel_rfl)) m
def Q12h:En:=⟨Qk8,Tryz.f341,Tryz.func341,by kernel_rfl,arg4 (fun G a0 a1 a2 a3 m=>Qbg G a0 a1 a3 a2 m),okarg4 Q13i⟩
end
end Go.Ab.Sh
