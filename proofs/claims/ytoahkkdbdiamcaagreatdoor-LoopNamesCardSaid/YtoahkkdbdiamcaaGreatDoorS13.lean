/-
  Functions of the program as plain definitions. No conditions.
-/
import Derived.Test.YtoahkkdbdiamcaaGreatDoorAb5
import Derived.Test.YtoahkkdbdiamcaaGreatDoorZ
import Derived.KernelRfl
import Derived.Test.YtoahkkdbdiamcaaGreatDoorProg
set_option linter.unusedVariables false
set_option maxRecDepth 100000
namespace Go.Ab.Sh
open Go Go.Ab Go.Proofs
noncomputable section
def Qcy (G:Gt)(k0:V → V → V → V → V → V → M → R)(p87 p0 p1 p2 p11 p3 p8 p9 p10:V)(m:M):R:=
  brb p87
  (bp (G.tab Qzo [p0,p1,p2,p11] m) fun x0 m=>
  k0 p2 x0 p0 p3 p8 p9 m)
  (bp (G.tab Qnf [p0,p1,p2,p11] m) fun x1 m=>
  bp (pur (aExtract x1 0) m) fun x2 m=>
  bp (pur (aExtract x1 1) m) fun x3 m=>
  bp (pur (bin .sub false true .int x2 p1) m) fun x4 m=>
  bp (pur (bin .sub false true .int p2 x2) m) fun x5 m=>
  bp (pur (bin .quo true true .int p10 (.int .i64 8)) m) fun x6 m=>
  bp (pur (bin .lss false true .int x4 x5) m) fun x7 m=>
  brb x7
  (bp (pur (bin .geq false true .int x4 x6) m) fun x8 m=>
  bp (G.tab Q8z [p0,p1,x2,p3] m) fun x9 m=>
  bp (pur (bin .add true true .int x2 (.int .i64 1)) m) fun x10 m=>
  k0 p2 x10 p0 p3 x8 x3 m)
  (bp (pur (bin .geq false true .int x5 x6) m) fun x11 m=>
  bp (pur (bin .add true true .int x2 (.int .i64 1)) m) fun x12 m=>
  bp (G.tab Q8z [p0,x12,p2,p3] m) fun x13 m=>
  k0 x2 p1 p0 p3 x11 x3 m))
def Qe2 (G:Gt)(k0:V → V → V → V → V → V → M → R)(p1 p0 p11 p2 p3 p8 p9 p10:V)(m:M):R:=
  bp (pur (bin .gtr true true .int p1 (.int .i64 0)) m) fun x14 m=>
  brt x14
  (bp (pur (bin .sub true true .int p1 (.int .i64 1)) m) fun x15 m=>
  bp (pur (aIndexAddrSl 1 p0 x15) m) fun x16 m=>
  bp (pur (aLoad false 1 x16 m) m) fun x17 m=>
  bp (pur (aIndexAddrSl 1 p0 p11) m) fun x18 m=>
  bp (pur (aLoad false 1 x18 m) m) fun x19 m=>
  bp (G.tab Q3r [x17,x19] m) fun x20 m=>
  bp (pur (un .not x20) m) fun x21 m=>
  Qcy G k0 x21 p0 p1 p2 p11 p3 p8 p9 p10 m)
  (Qcy G k0 (.bool false) p0 p1 p2 p11 p3 p8 p9 p10 m)
  (none)
def Q6k (G:Gt)(k0:V → V → V → V → V → V → M → R)(p68 p0 p1 p2 p11 p3 p8 p9 p10:V)(m:M):R:=
  brb p68
  (bp (G.tab Qd6 [p0,p1,p2] m) fun x22 m=>
  brb x22
  (some (.tuple ⟨[]⟩,m))
  (Qe2 G k0 p1 p0 p11 p2 p3 p8 p9 p10 m))
  (Qe2 G k0 p1 p0 p11 p2 p3 p8 p9 p10 m)
def Qe3 (G:Gt)(k0:V → V → V → V → V → V → M → R)(p8 p9 p12 p0 p1 p2 p11 p3 p10:V)(m:M):R:=
  brb p8
  (brb p9
  (bp (pur (bin .eql true true .int p12 (.int .i64 1)) m) fun x23 m=>
  Q6k G k0 x23 p0 p1 p2 p11 p3 p8 p9 p10 m)
  (Q6k G k0 (.bool false) p0 p1 p2 p11 p3 p8 p9 p10 m))
  (Q6k G k0 (.bool false) p0 p1 p2 p11 p3 p8 p9 p10 m)
def Qns (G:Gt)(k0:V → V → V → V → V → V → M → R)(p12 p0 p1 p2 p11 p8 p9 p3 p10:V)(m:M):R:=
  bp (pur (bin .eql true true .int p12 (.int .i64 2)) m) fun x24 m=>
  brb x24
  (bp (G.tab Q13p [p0,p1,p2] m) fun x25 m=>
  bp (pur (bin .sub true true .int p2 (.int .i64 1)) m) fun x26 m=>
  bp (pur (bin .sub false true .int p11 p1) m) fun x27 m=>
  bp (pur (bin .sub false true .int x26 x27) m) fun x28 m=>
  Qe3 G k0 p8 p9 (.int .i64 1) p0 p1 p2 x28 p3 p10 m)
  (Qe3 G k0 p8 p9 p12 p0 p1 p2 p11 p3 p10 m)
def Qe4 (G:Gt)(k0:V → V → V → V → V → V → M → R)(p0 p1 p2 p8 p9 p3 p10:V)(m:M):R:=
  bp (G.tab Qld [p0,p1,p2] m) fun x29 m=>
  bp (pur (aExtract x29 0) m) fun x30 m=>
  bp (pur (aExtract x29 1) m) fun x31 m=>
  Qns G k0 x31 p0 p1 p2 x30 p8 p9 p3 p10 m
def Qnt (G:Gt)(k0:V → V → V → V → V → V → M → R)(p8 p0 p1 p2 p3 p9 p10:V)(m:M):R:=
  bp (pur (un .not p8) m) fun x32 m=>
  brb x32
  (bp (G.tab Q11s [p0,p1,p2] m) fun x33 m=>
  bp (pur (bin .sub true true .int p3 (.int .i64 1)) m) fun x34 m=>
  Qe4 G k0 p0 p1 p2 p8 p9 x34 p10 m)
  (Qe4 G k0 p0 p1 p2 p8 p9 p3 p10 m)
def Qnu (G:Gt)(k0:V → V → V → V → V → V → M → R)(p3 p0 p1 p2 p8 p9 p10:V)(m:M):R:=
  bp (pur (bin .eql true true .int p3 (.int .i64 0)) m) fun x35 m=>
  brb x35
  (bp (G.tab Q1a3 [p0,p1,p2] m) fun x36 m=>
  some (.tuple ⟨[]⟩,m))
  (Qnt G k0 p8 p0 p1 p2 p3 p9 p10 m)
def Qnv (G:Gt)(k0:V → V → V → V → V → V → M → R)(p10 p0 p1 p2 p3 p8 p9:V)(m:M):R:=
  bp (pur (bin .leq true true .int p10 (.int .i64 12)) m) fun x37 m=>
  brb x37
  (bp (G.tab Qiz [p0,p1,p2] m) fun x38 m=>
  some (.tuple ⟨[]⟩,m))
  (Qnu G k0 p3 p0 p1 p2 p8 p9 p10 m)
def Qt (G:Gt):Nat → V → V → V → V → V → V → M → R
 | 0,_,_,_,_,_,_,_=>none
 | i + 1,p2,p1,p0,p3,p8,p9,m=>
  bp (pur (bin .sub false true .int p2 p1) m) fun x39 m=>
  Qnv G (Qt G i) x39 p0 p1 p2 p3 p8 p9 m
def Qnw (G:Gt)(p2 p1 p0 p3 p8 p9:V)(m:M):R:=
  Qt G G.rds p2 p1 p0 p3 p8 p9 m
def Qnx (G:Gt)(p2 p1 p0 p3 p8:V)(m:M):R:=
  Qnw G p2 p1 p0 p3 p8 (.bool true) m
def Qfe (G:Gt)(p2 p1 p0 p3:V)(m:M):R:=
  Qnx G p2 p1 p0 p3 (.bool true) m
theorem Q1cf (G:Gt)(a0 a1 a2 a3:V)(m:M):ef G Tryz.f294 [a0,a1,a2,a3] m = Qfe G a2 a1 a0 a3 m:=
  evFn_of (r:=fun r m=>Qfe G (r 2) (r 1) (r 0) (r 3) m) rfl rfl (tr (seqQ (f:=fun r m=>Qnx G (r 2) (r 1) (r 0) (r 3) (r 8) m) (tr (seqQ (f:=fun r m=>Qnw G (r 2) (r 1) (r 0) (r 3) (r 8) (r 9) m) (tr (blockQ (loopQ (fun i r m=>Qt G i (r 2) (r 1) (r 0) (r 3) (r 8) (r 9) m) (fun _ _=>rfl) (fun i0=>tr (blockQ (seqQ (f:=fun r m=>Qnv G (Qt G i0) (r 10) (r 0) (r 1) (r 2) (r 3) (r 8) (r 9) m) (tr (seqQ (f:=fun r m=>Qnu G (Qt G i0) (r 3) (r 0) (r 1) (r 2) (r 8) (r 9) (r 10) m) (tr (seqQ (f:=fun r m=>Qnt G (Qt G i0) (r 8) (r 0) (r 1) (r 2) (r 3) (r 9) (r 10) m) (tr (seqQ (f:=fun r m=>Qe4 G (Qt G i0) (r 0) (r 1) (r 2) (r 8) (r 9) (r 3) (r 10) m) (tr (seqQ (f:=fun r m=>Qns G (Qt G i0) (r 12) (r 0) (r 1) (r 2) (r 11) (r 8) (r 9) (r 3) (r 10) m) (tr (seqQ (f:=fun r m=>Qe3 G (Qt G i0) (r 8) (r 9) (r 12) (r 0) (r 1) (r 2) (r 11) (r 3) (r 10) m) (tr (tr (seqQ (f:=fun r m=>Qe2 G (Qt G i0) (r 1) (r 0) (r 11) (r 2) (r 3) (r 8) (r 9) (r 10) m) (tr (tr seqD (seqQ (f:=fun r m=>Qcy G (Qt G i0) (r 87) (r 0) (r 1) (r 2) (r 11) (r 3) (r 8) (r 9) (r 10) m) (fun r m=>by kernel_rfl))) (fun r m=>by kernel_rfl))) (seqQ (f:=fun r m=>Q6k G (Qt G i0) (r 68) (r 0) (r 1) (r 2) (r 11) (r 3) (r 8) (r 9) (r 10) m) (fun r m=>by kernel_rfl))) (fun r m=>by kernel_rfl))) (fun r m=>by kernel_rfl))) (fun r m=>by kernel_rfl))) (fun r m=>by kernel_rfl))) (fun r m=>by kernel_rfl))) (fun r m=>by kernel_rfl)))) (fun r m=>by kernel_rfl)))) (fun r m=>by kernel_rfl))) (fun r m=>by kernel_rfl))) (fun r m=>by kernel_rfl)) m
def Q1by:En:=⟨Q8z,Tryz.f294,Tryz.func294,by kernel_rfl,arg4 (fun G a0 a1 a2 a3 m=>Qfe G a2 a1 a0 a3 m),okarg4 Q1cf⟩
def Qog (G:Gt)(p3:V)(m:M):R:=
  some (p3,m)
def Q13q (G:Gt)(p0 p1:V)(m:M):R:=
  bp (pur (bin .lss true true .int p0 (.int .i64 0)) m) fun x0 m=>
  brb x0
  (Qog G (.bool true) m)
  (bp (pur (aLoad false 1 p1 m) m) fun x1 m=>
  bp (pur (aNilCheck x1) m) fun x2 m=>
  bp (pur (aFieldAddr 0 x2) m) fun x3 m=>
  bp (pur (aLoad false 1 x3 m) m) fun x4 m=>
  bp (pur (bin .geq false true .int p0 x4) m) fun x5 m=>
  Qog G x5 m)
def Qsx (G:Gt)(p0 p1:V)(m:M):R:=
  Q13q G p0 p1 m
theorem Q1o5 (G:Gt)(a0 a1:V)(m:M):ef G Tryz.f295 [a0,a1] m = Qsx G a0 a1 m:=
  evFn_of (r:=fun r m=>Qsx G (r 0) (r 1) m) rfl rfl (tr (seqQ (f:=fun r m=>Q13q G (r 0) (r 1) m) (tr (seqQ (f:=fun r m=>Qog G (r 3) m) (fun r m=>by kernel_rfl)) (fun r m=>by kernel_rfl))) (fun r m=>by kernel_rfl)) m
def Q1n4:En:=⟨Q192,Tryz.f295,Tryz.func295,by kernel_rfl,arg2 Qsx,okarg2 Q1o5⟩
def Qme (G:Gt)(m:M):R:=
  some ((.int .i64 (-1)),m)
def Qcz (G:Gt):Nat → V → V → V → V → M → R
 | 0,_,_,_,_,_=>none
 | i + 1,p8,p7,p1,p0,m=>
  bp (pur (bin .lss false true .int p8 p7) m) fun x0 m=>
  brb x0
  (bp (pur (aIndexAddrSl 1 p0 p8) m) fun x1 m=>
  bp (pur (aLoad false 1 x1 m) m) fun x2 m=>
  bp (evCall G.tab p1 [x2] m) fun x3 m=>
  brb x3
  (some (p8,m))
  (bp (pur (bin .add true true .int p8 (.int .i64 1)) m) fun x4 m=>
  (Qcz G i) x4 p7 p1 p0 m))
  (Qme G m)
def Qmf (G:Gt)(p8 p7 p1 p0:V)(m:M):R:=
  Qcz G G.rds p8 p7 p1 p0 m
def Qmg (G:Gt)(p0 p1:V)(m:M):R:=
  bp (pur (lenK 1 p0 m) m) fun x5 m=>
  Qmf G (.int .i64 0) x5 p1 p0 m
def Qeu (G:Gt)(p0 p1:V)(m:M):R:=
  Qmg G p0 p1 m
theorem Q1a5 (G:Gt)(a0 a1:V)(m:M):ef G Tryz.f296 [a0,a1] m = Qeu G a0 a1 m:=
  evFn_of (r:=fun r m=>Qeu G (r 0) (r 1) m) rfl rfl (tr (seqQ (f:=fun r m=>Qmg G (r 0) (r 1) m) (tr (tr (seqQ (f:=fun r m=>Qme G m) (fun r m=>by kernel_rfl)) (seqQ (f:=fun r m=>Qmf G (r 8) (r 7) (r 1) (r 0) m) (tr (blockQ (loopQ (fun i r m=>Qcz G i (r 8) (r 7) (r 1) (r 0) m) (fun _ _=>rfl) (fun i0=>fun r m=>by kernel_rfl))) (fun r m=>by kernel_rfl)))) (fun r m=>by kernel_rfl))) (fun r m=>by kernel_rfl)) m
def Q1a1:En:=⟨Qor,Tryz.f296,Tryz.func296,by kernel_rfl,arg2 Qeu,okarg2 Q1a5⟩
def Quv (G:Gt)(p2 p1:V)(m:M):R:=
  bp (pur (aLoad false 1 p2 m) m) fun x0 m=>
  bp (pur (aNilCheck x0) m) fun x1 m=>
  bp (pur (aFieldAddr 5 x1) m) fun x2 m=>
  bp (pur (aLoad false 1 x2 m) m) fun x3 m=>
  bp (conv (.int .i64) p1 m) fun x4 m=>
  bp (unt (aMapUpdate .int x3 x4 (.bool true) m)) fun _ m=>
  bp (conv (.int .i64) p1 m) fun x5 m=>
  some (.tuple ⟨[x5,(.int .i64 0)]⟩,m)
def Q9w (G:Gt):Nat → V → V → V → V → V → M → R
 | 0,_,_,_,_,_,_=>none
 | i + 1,p32,p31,p30,p2,p1,m=>
  bp (pur (bin .lss false true .int p32 p31) m) fun x6 m=>
  brb x6
  (bp (pur (aIndexAddrSl 1 p30 p32) m) fun x7 m=>
  bp (pur (aLoad false 1 x7 m) m) fun x8 m=>
  bp (pur (aLoad false 1 p2 m) m) fun x9 m=>
  bp (pur (aNilCheck x9) m) fun x10 m=>
  bp (pur (aFieldAddr 6 x10) m) fun x11 m=>
  bp (pur (aLoad false 1 x11 m) m) fun x12 m=>
  bp (unt (aMapUpdate .int x12 x8 (.bool true) m)) fun _ m=>
  bp (pur (bin .add true true .int p32 (.int .i64 1)) m) fun x13 m=>
  (Q9w G i) x13 p31 p30 p2 p1 m)
  (Quv G p2 p1 m)
def Qv1 (G:Gt)(p32 p31 p30 p2 p1:V)(m:M):R:=
  Q9w G G.rds p32 p31 p30 p2 p1 m
def Qv0 (G:Gt)(p6 p2 p1:V)(m:M):R:=
  bp (pur (aLoad false 1 p6 m) m) fun x14 m=>
  bp (pur (lenK 1 x14 m) m) fun x15 m=>
  Qv1 G (.int .i64 0) x15 x14 p2 p1 m
def Quz (G:Gt)(p2 p6 p1:V)(m:M):R:=
  bp (pur (aLoad false 1 p2 m) m) fun x16 m=>
  bp (pur (aNilCheck x16) m) fun x17 m=>
  bp (pur (aFieldAddr 6 x17) m) fun x18 m=>
  bp (pur (aLoad false 1 x18 m) m) fun x19 m=>
  bp (pur (lenK 2 x19 m) m) fun x20 m=>
  bp (pur (aLoad false 1 p6 m) m) fun x21 m=>
  bp (pur (lenK 1 x21 m) m) fun x22 m=>
  bp (pur (bin .add false true .int x20 x22) m) fun x23 m=>
  bp (pur (aLoad false 1 p2 m) m) fun x24 m=>
  bp (pur (aNilCheck x24) m) fun x25 m=>
  bp (pur (aFieldAddr 1 x25) m) fun x26 m=>
  bp (pur (aLoad false 1 x26 m) m) fun x27 m=>
  bp (pur (bin .gtr false true .int x23 x27) m) fun x28 m=>
  brb x28
  (some (.tuple ⟨[(.int .i64 0),(.int .i64 3)]⟩,m))
  (Qv0 G p6 p2 p1 m)
def Quy (G:Gt)(p8 p1 p2 p6:V)(m:M):R:=
  bp (pur (aLoad false 1 p8 m) m) fun x29 m=>
  bp (evCall G.tab x29 [p1] m) fun x30 m=>
  Quz G p2 p6 p1 m
def Qux (G:Gt)(p7 p2 p6 p8 p1:V)(m:M):R:=
  bp (unt (aStore 1 p8 (.func (.func Q2c) ⟨[]⟩ ⟨[p7,p2,p6,p8]⟩) m)) fun _ m=>
  Quy G p8 p1 p2 p6 m
def Quw (G:Gt)(p7 p2 p6 p1:V)(m:M):R:=
  bp (some (aNew Q1cp [.nilFunc] m)) fun x31 m=>
  Qux G p7 p2 p6 x31 p1 m
def Qm1 (G:Gt)(p2 p6 p1:V)(m:M):R:=
  bp (some (aMakeMap m)) fun x32 m=>
  bp (unt (aMapUpdate .int x32 (.int .i32 0) (.bool true) m)) fun _ m=>
  bp (unt (aMapUpdate .int x32 (.int .i32 1) (.bool true) m)) fun _ m=>
  bp (some (aNew Qsi [(.map none)] m)) fun x33 m=>
  bp (unt (aStore 1 x33 x32 m)) fun _ m=>
  Quw G x33 p2 p6 p1 m
def Qey (G:Gt)(p2 p1:V)(m:M):R:=
  bp (some (aNew Q16k [(.slice none 0 0)] m)) fun x34 m=>
  Qm1 G p2 x34 p1 m
def Q4r (G:Gt)(p0 p1:V)(m:M):R:=
  bp (some (aNew Q2r (Value.cells p0).toList m)) fun x35 m=>
  Qey G x35 p1 m
theorem Q1v2 (G:Gt)(a0 a1:V)(m:M):ef G Tryz.f298 [a0,a1] m = Q4r G a0 a1 m:=
  evFn_of (r:=fun r m=>Q4r G (r 0) (r 1) m) rfl rfl (tr (seqQ (f:=fun r m=>Qey G (r 2) (r 1) m) (tr (seqQ (f:=fun r m=>Qm1 G (r 2) (r 6) (r 1) m) (tr (seqQ (f:=fun r m=>Quw G (r 7) (r 2) (r 6) (r 1) m) (tr (seqQ (f:=fun r m=>Qux G (r 7) (r 2) (r 6) (r 8) (r 1) m) (tr (seqQ (f:=fun r m=>Quy G (r 8) (r 1) (r 2) (r 6) m) (tr (seqQ (f:=fun r m=>Quz G (r 2) (r 6) (r 1) m) (tr (seqQ (f:=fun r m=>Qv0 G (r 6) (r 2) (r 1) m) (tr (tr (seqQ (f:=fun r m=>Quv G (r 2) (r 1) m) (fun r m=>by kernel_rfl)) (seqQ (f:=fun r m=>Qv1 G (r 32) (r 31) (r 30) (r 2) (r 1) m) (tr (blockQ (loopQ (fun i r m=>Q9w G i (r 32) (r 31) (r 30) (r 2) (r 1) m) (fun _ _=>rfl) (fun i0=>fun r m=>by kernel_rfl))) (fun r m=>by kernel_rfl)))) (fun r m=>by kernel_rfl))) (fun r m=>by kernel_rfl))) (fun r m=>by kernel_rfl))) (fun r m=>by kernel_rfl))) (fun r m=>by kernel_rfl))) (fun r m=>by kernel_rfl))) (fun r m=>by kernel_rfl))) (fun r m=>by kernel_rfl)) m
def Q11b:En:=⟨Q6l,Tryz.f298,Tryz.func298,by kernel_rfl,arg2 Q4r,okarg2 Q1v2⟩
def Q3u (G:Gt)(p29 p5 p6 p7 p4:V)(m:M):R:=
  brb p29
  (bp (pur (aLoad false 1 p5 m) m) fun x2 m=>
  some (x2,m))
  (bp (pur (aLoad false 1 p5 m) m) fun x3 m=>
  bp (pur (aLoad false 1 p6 m) m) fun x4 m=>
  bp (pur (aLoad false 1 p7 m) m) fun x5 m=>
  bp (pur (aBuildArr Q18o 1 [(0,x3),(1,x4),(2,x5)]) m) fun x6 m=>
  bp (some (aNew Qsh Q18o m)) fun x7 m=>
  bp (unt (aStore 3 x7 x6 m)) fun _ m=>
  bp (pur (aLoad false 1 p4 m) m) fun x8 m=>
  bp (pur (aNilCheck x8) m) fun x9 m=>
  bp (pur (aFieldAddr 4 x9) m) fun x10 m=>
  bp (pur (aLoad false 1 x10 m) m) fun x11 m=>
  bp (pur (aLoad true 3 x7 m) m) fun x12 m=>
  bp (pur (aLookup (.struct [(0,1,false,.int),(1,1,false,.int),(2,1,false,.int)]) (.int .i32 0) true x11 x12 m) m) fun x13 m=>
  bp (pur (aExtract x13 0) m) fun x14 m=>
  bp (pur (aExtract x13 1) m) fun x15 m=>
  brb x15
  (some (x14,m))
  (bp (pur (aLoad false 1 p4 m) m) fun x16 m=>
  bp (pur (aNilCheck x16) m) fun x17 m=>
  bp (pur (aFieldAddr 2 x17) m) fun x18 m=>
  bp (pur (aLoad false 1 x18 m) m) fun x19 m=>
  bp (pur (aLoad false 1 p5 m) m) fun x20 m=>
  bp (pur (aIndexAddrSl 3 x19 x20) m) fun x21 m=>
  bp (pur (aFieldAddr 0 x21) m) fun x22 m=>
  bp (pur (aLoad false 1 x22 m) m) fun x23 m=>
  bp (pur (aLoad false 1 p4 m) m) fun x24 m=>
  bp (pur (aNilCheck x24) m) fun x25 m=>
  bp (pur (aFieldAddr 2 x25) m) fun x26 m=>
  bp (pur (aLoad false 1 x26 m) m) fun x27 m=>
  bp (pur (aLoad false 1 p6 m) m) fun x28 m=>
  bp (pur (aIndexAddrSl 3 x27 x28) m) fun x29 m=>
  bp (pur (aFieldAddr 0 x29) m) fun x30 m=>
  bp (pur (aLoad false 1 x30 m) m) fun x31 m=>
  bp (pur (aLoad false 1 p4 m) m) fun x32 m=>
  bp (pur (aNilCheck x32) m) fun x33 m=>
  bp (pur (aFieldAddr 2 x33) m) fun x34 m=>
  bp (pur (aLoad false 1 x34 m) m) fun x35 m=>
  bp (pur (aLoad false 1 p7 m) m) fun x36 m=>
  bp (pur (aIndexAddrSl 3 x35 x36) m) fun x37 m=>
  bp (pur (aFieldAddr 0 x37) m) fun x38 m=>
  bp (pur (aLoad false 1 x38 m) m) fun x39 m=>
  bp (pur (aMin3 x23 x31 x39) m) fun x40 m=>
  bp (some (aNew Q3b [(.int .i32 0)] m)) fun x41 m=>
  bp (unt (aStore 1 x41 x40 m)) fun _ m=>
  let x42:V:=(.func (.func Q7l) ⟨[]⟩ ⟨[p4,p5,x41,p6,p7]⟩)
  bp (evCall G.tab x42 [(.bool false)] m) fun x43 m=>
  bp (pur (aLoad false 1 p4 m) m) fun x44 m=>
  bp (pur (aLoad false 1 x41 m) m) fun x45 m=>
  bp (evCall G.tab x42 [(.bool true)] m) fun x46 m=>
  ckB (again (pur (aLoad false 1 p4 m) m) x44 && (again (pur (aLoad false 1 x41 m) m) x45 && true))
  (bp (G.tab Q9k [x44,x45,x43,x46] m) fun x47 m=>
  bp (pur (aLoad false 1 p4 m) m) fun x48 m=>
  bp (pur (aNilCheck x48) m) fun x49 m=>
  bp (pur (aFieldAddr 4 x49) m) fun x50 m=>
  bp (pur (aLoad false 1 x50 m) m) fun x51 m=>
  bp (pur (aLoad true 3 x7 m) m) fun x52 m=>
  bp (unt (aMapUpdate (.struct [(0,1,false,.int),(1,1,false,.int),(2,1,false,.int)]) x51 x52 x47 m)) fun _ m=>
  some (x47,m))))
def Qgv (G:Gt)(p25 p7 p6 p5 p4:V)(m:M):R:=
  brb p25
  (bp (pur (aLoad false 1 p7 m) m) fun x1 m=>
  some (x1,m))
  (bp (pur (aLoad false 1 p6 m) m) fun x53 m=>
  bp (pur (bin .eql true true .int x53 (.int .i32 1)) m) fun x54 m=>
  brb x54
  (bp (pur (aLoad false 1 p7 m) m) fun x55 m=>
  bp (pur (bin .eql true true .int x55 (.int .i32 0)) m) fun x56 m=>
  Q3u G x56 p5 p6 p7 p4 m)
  (Q3u G (.bool false) p5 p6 p7 p4 m))
def Q7w (G:Gt)(p16 p6 p5 p7 p4:V)(m:M):R:=
  brb p16
  (bp (pur (aLoad false 1 p6 m) m) fun x0 m=>
  some (x0,m))
  (bp (pur (aLoad false 1 p5 m) m) fun x57 m=>
  bp (pur (bin .eql true true .int x57 (.int .i32 0)) m) fun x58 m=>
  Qgv G x58 p7 p6 p5 p4 m)
def Q5q (G:Gt)(p5 p6 p7 p4:V)(m:M):R:=
  bp (pur (aLoad false 1 p5 m) m) fun x59 m=>
  bp (pur (bin .eql true true .int x59 (.int .i32 1)) m) fun x60 m=>
  brb x60
  (Q7w G (.bool true) p6 p5 p7 p4 m)
  (bp (pur (aLoad false 1 p6 m) m) fun x61 m=>
  bp (pur (aLoad false 1 p7 m) m) fun x62 m=>
  bp (pur (bin .eql false true .int x61 x62) m) fun x63 m=>
  Q7w G x63 p6 p5 p7 p4 m)
def Q2h (G:Gt)(p0 p1 p2 p3:V)(m:M):R:=
  bp (some (aNew Q2r (Value.cells p0).toList m)) fun x64 m=>
  bp (some (aNew Q3b (Value.cells p1).toList m)) fun x65 m=>
  bp (some (aNew Q3b (Value.cells p2).toList m)) fun x66 m=>
  bp (some (aNew Q3b (Value.cells p3).toList m)) fun x67 m=>
  Q5q G x65 x66 x67 x64 m
theorem Q1wq (G:Gt)(a0 a1 a2 a3:V)(m:M):ef G Tryz.f299 [a0,a1,a2,a3] m = Q2h G a0 a1 a2 a3 m:=
  evFn_of (r:=fun r m=>Q2h G (r 0) (r 1) (r 2) (r 3) m) rfl rfl (tr (seqQ (f:=fun r m=>Q5q G (r 5) (r 6) (r 7) (r 4) m) (tr (tr seqD (blockQ (seqQ (f:=fun r m=>Q7w G (r 16) (r 6) (r 5) (r 7) (r 4) m) (tr (condQ (refQ) (seqQ (f:=fun r m=>Qgv G (r 25) (r 7) (r 6) (r 5) (r 4) m) (tr (condQ (refQ) (seqQ (f:=fun r m=>Q3u G (r 29) (r 5) (r 6) (r 7) (r 4) m) (fun r m=>by kernel_rfl))) (fun r m=>by kernel_rfl)))) (fun r m=>by kernel_rfl))))) (fun r m=>by kernel_rfl))) (fun r m=>by kernel_rfl)) m
def Q14t:En:=⟨Q2g,Tryz.f299,Tryz.func299,by kernel_rfl,arg4 Q2h,okarg4 Q1wq⟩
end
end Go.Ab.Sh

set_option linter.unusedVariables false
set_option maxRecDepth 100000
namespace Go.Ab.Sh
open Go Go.Ab Go.Proofs
noncomputable section
def Q9p (G:Gt)(k0:V → V → V → V → V → M → R)(p8 p2 p1 p3 p0:V)(m:M):R:=
  bp (pur (bin .add true true .int p8 (.int .i64 1)) m) fun x0 m=>
  k0 x0 p2 p1 p3 p0 m
def Q3x (G:Gt)(k1:V → V → V → V → V → V → M → R)(k0:V → V → V → V → V → M → R)(p34 p0 p9 p1 p3 p8 p2:V)(m:M):R:=
  brb p34
  (bp (pur (bin .sub true true .int p9 (.int .i64 1)) m) fun x1 m=>
  bp (pur (bin .sub true true .int p9 (.int .i64 1)) m) fun x2 m=>
  bp (pur (aIndexAddrSl 8 p0 x2) m) fun x3 m=>
  bp (pur (aLoad true 8 x3 m) m) fun x4 m=>
  bp (pur (aIndexAddrSl 8 p0 p9) m) fun x5 m=>
  bp (pur (aLoad true 8 x5 m) m) fun x6 m=>
  bp (pur (aIndexAddrSl 8 p0 p9) m) fun x7 m=>
  bp (unt (aStore 8 x7 x4 m)) fun _ m=>
  bp (pur (aIndexAddrSl 8 p0 x1) m) fun x8 m=>
  bp (unt (aStore 8 x8 x6 m)) fun _ m=>
  bp (pur (bin .sub true true .int p9 (.int .i64 1)) m) fun x9 m=>
  k1 x9 p1 p3 p0 p8 p2 m)
  (Q9p G k0 p8 p2 p1 p3 p0 m)
def Q1l (G:Gt)(k0:V → V → V → V → V → M → R):Nat → V → V → V → V → V → V → M → R
 | 0,_,_,_,_,_,_,_=>none
 | i + 1,p9,p1,p3,p0,p8,p2,m=>
  bp (pur (bin .gtr false true .int p9 p1) m) fun x10 m=>
  brt x10
  (bp (pur (aIndexAddrSl 8 p0 p9) m) fun x11 m=>
  bp (pur (aLoad true 8 x11 m) m) fun x12 m=>
  bp (pur (bin .sub true true .int p9 (.int .i64 1)) m) fun x13 m=>
  bp (pur (aIndexAddrSl 8 p0 x13) m) fun x14 m=>
  bp (pur (aLoad true 8 x14 m) m) fun x15 m=>
  bp (evCall G.tab p3 [x12,x15] m) fun x16 m=>
  bp (pur (bin .lss true true .int x16 (.int .i64 0)) m) fun x17 m=>
  Q3x G (Q1l G k0 i) k0 x17 p0 p9 p1 p3 p8 p2 m)
  (Q3x G (Q1l G k0 i) k0 (.bool false) p0 p9 p1 p3 p8 p2 m)
  (none)
def Q9q (G:Gt)(k0:V → V → V → V → V → M → R)(p9 p1 p3 p0 p8 p2:V)(m:M):R:=
  Q1l G k0 G.rds p9 p1 p3 p0 p8 p2 m
def Q9r (G:Gt)(k0:V → V → V → V → V → M → R)(p8 p1 p3 p0 p2:V)(m:M):R:=
  Q9q G k0 p8 p1 p3 p0 p8 p2 m
def Qc (G:Gt):Nat → V → V → V → V → V → M → R
 | 0,_,_,_,_,_,_=>none
 | i + 1,p8,p2,p1,p3,p0,m=>
  bp (pur (bin .lss false true .int p8 p2) m) fun x18 m=>
  brb x18
  (Q9r G (Qc G i) p8 p1 p3 p0 p2 m)
  (some (.tuple ⟨[]⟩,m))
def Q9s (G:Gt)(p8 p2 p1 p3 p0:V)(m:M):R:=
  Qc G G.rds p8 p2 p1 p3 p0 m
def Q4m (G:Gt)(p1 p2 p3 p0:V)(m:M):R:=
  bp (pur (bin .add true true .int p1 (.int .i64 1)) m) fun x19 m=>
  Q9s G x19 p2 p1 p3 p0 m
theorem Qp5 (G:Gt)(a0 a1 a2 a3:V)(m:M):ef G Tryz.f304 [a0,a1,a2,a3] m = Q4m G a1 a2 a3 a0 m:=
  evFn_of (r:=fun r m=>Q4m G (r 1) (r 2) (r 3) (r 0) m) rfl rfl (tr (seqQ (f:=fun r m=>Q9s G (r 8) (r 2) (r 1) (r 3) (r 0) m) (tr (blockQ (loopQ (fun i r m=>Qc G i (r 8) (r 2) (r 1) (r 3) (r 0) m) (fun _ _=>rfl) (fun i0=>tr (seqQ (f:=fun r m=>Q9r G (Qc G i0) (r 8) (r 1) (r 3) (r 0) (r 2) m) (tr (tr (seqQ (f:=fun r m=>Q9p G (Qc G i0) (r 8) (r 2) (r 1) (r 3) (r 0) m) (fun r m=>by kernel_rfl)) (blockQ (seqQ (f:=fun r m=>Q9q G (Qc G i0) (r 9) (r 1) (r 3) (r 0) (r 8) (r 2) m) (tr (blockQ (loopQ (fun i r m=>Q1l G (Qc G i0) i (r 9) (r 1) (r 3) (r 0) (r 8) (r 2) m) (fun _ _=>rfl) (fun i1=>tr (tr seqD (seqQ (f:=fun r m=>Q3x G (Q1l G (Qc G i0) i1) (Qc G i0) (r 34) (r 0) (r 9) (r 1) (r 3) (r 8) (r 2) m) (fun r m=>by kernel_rfl))) (fun r m=>by kernel_rfl)))) (fun r m=>by kernel_rfl))))) (fun r m=>by kernel_rfl))) (fun r m=>by kernel_rfl)))) (fun r m=>by kernel_rfl))) (fun r m=>by kernel_rfl)) m
def Qp2:En:=⟨Qbl,Tryz.f304,Tryz.func304,by kernel_rfl,arg4 (fun G a0 a1 a2 a3 m=>Q4m G a1 a2 a3 a0 m),okarg4 Qp5⟩
def Qvk (G:Gt)(p2 p0:V)(m:M):R:=
  bp (conv (.int .u8) p0 m) fun x0 m=>
  bp (pur (aIndexStr (.string ⟨#[0,1,2,2,3,3,3,3,4,4,4,4,4,4,4,4,5,5,5,5,5,5,5,5,5,5,5,5,5,5,5,5,6,6,6,6,6,6,6,6,6,6,6,6,6,6,6,6,6,6,6,6,6,6,6,6,6,6,6,6,6,6,6,6,7,7,7,7,7,7,7,7,7,7,7,7,7,7,7,7,7,7,7,7,7,7,7,7,7,7,7,7,7,7,7,7,7,7,7,7,7,7,7,7,7,7,7,7,7,7,7,7,7,7,7,7,7,7,7,7,7,7,7,7,7,7,7,7,8,8,8,8,8,8,8,8,8,8,8,8,8,8,8,8,8,8,8,8,8,8,8,8,8,8,8,8,8,8,8,8,8,8,8,8,8,8,8,8,8,8,8,8,8,8,8,8,8,8,8,8,8,8,8,8,8,8,8,8,8,8,8,8,8,8,8,8,8,8,8,8,8,8,8,8,8,8,8,8,8,8,8,8,8,8,8,8,8,8,8,8,8,8,8,8,8,8,8,8,8,8,8,8,8,8,8,8,8,8,8,8,8,8,8,8,8,8,8,8,8,8,8,8,8,8,8,8]⟩) x0) m) fun x1 m=>
  bp (conv (.int .i64) x1 m) fun x2 m=>
  bp (pur (bin .add false true .int p2 x2) m) fun x3 m=>
  some (x3,m)
def Qvl (G:Gt)(p0 p2:V)(m:M):R:=
  bp (pur (bin .geq true true .int p0 (.int .u64 256)) m) fun x4 m=>
  brb x4
  (bp (pur (bin .shr true true .int p0 (.int .u64 8)) m) fun x5 m=>
  bp (pur (bin .add true true .int p2 (.int .i64 8)) m) fun x6 m=>
  Qvk G x6 x5 m)
  (Qvk G p2 p0 m)
def Qvm (G:Gt)(p0 p2:V)(m:M):R:=
  bp (pur (bin .geq true true .int p0 (.int .u64 65536)) m) fun x7 m=>
  brb x7
  (bp (pur (bin .shr true true .int p0 (.int .u64 16)) m) fun x8 m=>
  bp (pur (bin .add true true .int p2 (.int .i64 16)) m) fun x9 m=>
  Qvl G x8 x9 m)
  (Qvl G p0 p2 m)
def Q1bb (G:Gt)(p0 p2:V)(m:M):R:=
  bp (pur (bin .geq true true .int p0 (.int .u64 4294967296)) m) fun x10 m=>
  brb x10
  (bp (pur (bin .shr true true .int p0 (.int .u64 32)) m) fun x11 m=>
  Qvm G x11 (.int .i64 32) m)
  (Qvm G p0 p2 m)
def Q11v (G:Gt)(p0:V)(m:M):R:=
  Q1bb G p0 (.int .i64 0) m
theorem Q1v3 (G:Gt)(a0:V)(m:M):ef G Tryz.f313 [a0] m = Q11v G a0 m:=
  evFn_of (r:=fun r m=>Q11v G (r 0) m) rfl rfl (tr (seqQ (f:=fun r m=>Q1bb G (r 0) (r 2) m) (tr (seqQ (f:=fun r m=>Qvm G (r 0) (r 2) m) (tr (seqQ (f:=fun r m=>Qvl G (r 0) (r 2) m) (tr (seqQ (f:=fun r m=>Qvk G (r 2) (r 0) m) (fun r m=>by kernel_rfl)) (fun r m=>by kernel_rfl))) (fun r m=>by kernel_rfl))) (fun r m=>by kernel_rfl))) (fun r m=>by kernel_rfl)) m
def Q1u7:En:=⟨Q1fi,Tryz.f313,Tryz.func313,by kernel_rfl,arg1 Q11v,okarg1 Q1v3⟩
def Q10i (G:Gt)(p0 p3:V)(m:M):R:=
  bp (pur (bin .add true true .int (.int .u64 48) p0) m) fun x0 m=>
  bp (conv (.int .u8) x0 m) fun x1 m=>
  bp (aBuildSlice Q24b [(.int .u8 0)] 1 1 [(0,x1)] m) fun x2 m=>
  bp (conv .str x2 m) fun x3 m=>
  bp (pur (bin .add false true .str x3 p3) m) fun x4 m=>
  some (x4,m)
def Qmw (G:Gt):Nat → V → V → M → R
 | 0,_,_,_=>none
 | i + 1,p0,p3,m=>
  bp (pur (bin .gtr true true .int p0 (.int .u64 9)) m) fun x5 m=>
  brb x5
  (bp (pur (bin .rem true true .int p0 (.int .u64 10)) m) fun x6 m=>
  bp (pur (bin .add true true .int (.int .u64 48) x6) m) fun x7 m=>
  bp (conv (.int .u8) x7 m) fun x8 m=>
  bp (aBuildSlice Q24b [(.int .u8 0)] 1 1 [(0,x8)] m) fun x9 m=>
  bp (conv .str x9 m) fun x10 m=>
  bp (pur (bin .add false true .str x10 p3) m) fun x11 m=>
  bp (pur (bin .quo true true .int p0 (.int .u64 10)) m) fun x12 m=>
  (Qmw G i) x12 x11 m)
  (Q10i G p0 p3 m)
def Q10j (G:Gt)(p0 p3:V)(m:M):R:=
  Qmw G G.rds p0 p3 m
def Q10k (G:Gt)(p0:V)(m:M):R:=
  Q10j G p0 (.string ⟨#[]⟩) m
def Qqa (G:Gt)(p0:V)(m:M):R:=
  Q10k G p0 m
theorem Q1mk (G:Gt)(a0:V)(m:M):ef G Tryz.f320 [a0] m = Qqa G a0 m:=
  evFn_of (r:=fun r m=>Qqa G (r 0) m) rfl rfl (tr (seqQ (f:=fun r m=>Q10k G (r 0) m) (tr (seqQ (f:=fun r m=>Q10j G (r 0) (r 3) m) (tr (tr (seqQ (f:=fun r m=>Q10i G (r 0) (r 3) m) (fun r m=>by kernel_rfl)) (blockQ (loopQ (fun i r m=>Qmw G i (r 0) (r 3) m) (fun _ _=>rfl) (fun i0=>fun r m=>by kernel_rfl)))) (fun r m=>by kernel_rfl))) (fun r m=>by kernel_rfl))) (fun r m=>by kernel_rfl)) m
def Q1lq:En:=⟨Qpy,Tryz.f320,Tryz.func320,by kernel_rfl,arg1 Qqa,okarg1 Q1mk⟩
def Q177 (G:Gt)(m:M):R:=
  some (.tuple ⟨[(.int .i64 0),(.int .i64 10)]⟩,m)
def Qqb (G:Gt):Nat → V → V → M → R
 | 0,_,_,_=>none
 | i + 1,p4,p0,m=>
  bp (pur (bin .leq true true .int p4 (.int .i64 32)) m) fun x0 m=>
  brb x0
  (bp (G.tab Q1a7 [p4] m) fun x1 m=>
  bp (pur (aExtract x1 0) m) fun x2 m=>
  bp (pur (aExtract x1 1) m) fun x3 m=>
  bp (pur (bin .eql false true .int x2 p0) m) fun x4 m=>
  brb x4
  (some (.tuple ⟨[p4,(.int .i64 0)]⟩,m))
  (bp (pur (bin .add true true .int p4 (.int .i64 1)) m) fun x5 m=>
  (Qqb G i) x5 p0 m))
  (Q177 G m)
def Q178 (G:Gt)(p4 p0:V)(m:M):R:=
  Qqb G G.rds p4 p0 m
def Q179 (G:Gt)(p0:V)(m:M):R:=
  Q178 G (.int .i64 0) p0 m
def Qvn (G:Gt)(p0:V)(m:M):R:=
  Q179 G p0 m
theorem Q1r8 (G:Gt)(a0:V)(m:M):ef G Tryz.f321 [a0] m = Qvn G a0 m:=
  evFn_of (r:=fun r m=>Qvn G (r 0) m) rfl rfl (tr (seqQ (f:=fun r m=>Q179 G (r 0) m) (tr (tr (seqQ (f:=fun r m=>Q177 G m) (fun r m=>by kernel_rfl)) (seqQ (f:=fun r m=>Q178 G (r 4) (r 0) m) (tr (blockQ (loopQ (fun i r m=>Qqb G i (r 4) (r 0) m) (fun _ _=>rfl) (fun i0=>fun r m=>by kernel_rfl))) (fun r m=>by kernel_rfl)))) (fun r m=>by kernel_rfl))) (fun r m=>by kernel_rfl)) m
def Q1q9:En:=⟨Q1ar,Tryz.f321,Tryz.func321,by kernel_rfl,arg1 Qvn,okarg1 Q1r8⟩
def Q17a (G:Gt)(p5 p1:V)(m:M):R:=
  bp (pur (bin .gtr false true .int p5 p1) m) fun x0 m=>
  brb x0
  (some ((.int .i64 (-1)),m))
  (some (p5,m))
def Qqc (G:Gt)(k0:V → V → V → V → M → R)(p39 p5 p0 p6 p1:V)(m:M):R:=
  brb p39
  (some ((.int .i64 (-1)),m))
  (bp (pur (bin .mul true true .int (.int .i64 10) p5) m) fun x1 m=>
  bp (pur (aIndexStr p0 p6) m) fun x2 m=>
  bp (pur (bin .sub true true .int x2 (.int .u8 48)) m) fun x3 m=>
  bp (conv (.int .i64) x3 m) fun x4 m=>
  bp (pur (bin .add false true .int x1 x4) m) fun x5 m=>
  bp (pur (bin .add true true .int p6 (.int .i64 1)) m) fun x6 m=>
  k0 x6 p0 x5 p1 m)
def Q17b (G:Gt)(k0:V → V → V → V → M → R)(p0 p6 p5 p1:V)(m:M):R:=
  bp (pur (aIndexStr p0 p6) m) fun x7 m=>
  bp (pur (bin .lss true true .int x7 (.int .u8 48)) m) fun x8 m=>
  brb x8
  (Qqc G k0 (.bool true) p5 p0 p6 p1 m)
  (bp (pur (aIndexStr p0 p6) m) fun x9 m=>
  bp (pur (bin .gtr true true .int x9 (.int .u8 57)) m) fun x10 m=>
  Qqc G k0 x10 p5 p0 p6 p1 m)
def Qcj (G:Gt):Nat → V → V → V → V → M → R
 | 0,_,_,_,_,_=>none
 | i + 1,p6,p0,p5,p1,m=>
  bp (pur (lenK 0 p0 m) m) fun x11 m=>
  bp (pur (bin .lss false true .int p6 x11) m) fun x12 m=>
  brb x12
  (Q17b G (Qcj G i) p0 p6 p5 p1 m)
  (Q17a G p5 p1 m)
def Q17c (G:Gt)(p6 p0 p5 p1:V)(m:M):R:=
  Qcj G G.rds p6 p0 p5 p1 m
def Q17d (G:Gt)(p0 p5 p1:V)(m:M):R:=
  Q17c G (.int .i64 0) p0 p5 p1 m
def Q17e (G:Gt)(p0 p1:V)(m:M):R:=
  Q17d G p0 (.int .i64 0) p1 m
def Qck (G:Gt)(p23 p0 p1:V)(m:M):R:=
  brb p23
  (some ((.int .i64 (-1)),m))
  (Q17e G p0 p1 m)
def Q17f (G:Gt)(p0 p1:V)(m:M):R:=
  bp (pur (bin .eql true true .str p0 (.string ⟨#[]⟩)) m) fun x13 m=>
  brb x13
  (Qck G (.bool true) p0 p1 m)
  (bp (pur (lenK 0 p0 m) m) fun x14 m=>
  bp (pur (bin .gtr true true .int x14 (.int .i64 12)) m) fun x15 m=>
  brb x15
  (Qck G (.bool true) p0 p1 m)
  (bp (pur (lenK 0 p0 m) m) fun x16 m=>
  bp (pur (bin .gtr true true .int x16 (.int .i64 1)) m) fun x17 m=>
  brb x17
  (bp (pur (aIndexStr p0 (.int .i64 0)) m) fun x18 m=>
  bp (pur (bin .eql true true .int x18 (.int .u8 48)) m) fun x19 m=>
  Qck G x19 p0 p1 m)
  (Qck G (.bool false) p0 p1 m)))
def Qvo (G:Gt)(p0 p1:V)(m:M):R:=
  Q17f G p0 p1 m
theorem Q1r9 (G:Gt)(a0 a1:V)(m:M):ef G Tryz.f322 [a0,a1] m = Qvo G a0 a1 m:=
  evFn_of (r:=fun r m=>Qvo G (r 0) (r 1) m) rfl rfl (tr (seqQ (f:=fun r m=>Q17f G (r 0) (r 1) m) (tr (tr (seqQ (f:=fun r m=>Q17e G (r 0) (r 1) m) (tr (seqQ (f:=fun r m=>Q17d G (r 0) (r 5) (r 1) m) (tr (tr (seqQ (f:=fun r m=>Q17a G (r 5) (r 1) m) (fun r m=>by kernel_rfl)) (seqQ (f:=fun r m=>Q17c G (r 6) (r 0) (r 5) (r 1) m) (tr (blockQ (loopQ (fun i r m=>Qcj G i (r 6) (r 0) (r 5) (r 1) m) (fun _ _=>rfl) (fun i0=>tr (seqQ (f:=fun r m=>Q17b G (Qcj G i0) (r 0) (r 6) (r 5) (r 1) m) (tr (tr seqD (blockQ (tr seqD (seqQ (f:=fun r m=>Qqc G (Qcj G i0) (r 39) (r 5) (r 0) (r 6) (r 1) m) (fun r m=>by kernel_rfl))))) (fun r m=>by kernel_rfl))) (fun r m=>by kernel_rfl)))) (fun r m=>by kernel_rfl)))) (fun r m=>by kernel_rfl))) (fun r m=>by kernel_rfl))) (seqQ (f:=fun r m=>Qck G (r 23) (r 0) (r 1) m) (fun r m=>by kernel_rfl))) (fun r m=>by kernel_rfl))) (fun r m=>by kernel_rfl)) m
def Q1qi:En:=⟨Q1as,Tryz.f322,Tryz.func322,by kernel_rfl,arg2 Qvo,okarg2 Q1r9⟩
def Qj8 (G:Gt)(p10:V)(m:M):R:=
  some (p10,m)
def Qpa (G:Gt)(p11 p0 p9 p10:V)(m:M):R:=
  bp (pur (un .not p11) m) fun x0 m=>
  brb x0
  (bp (pur (aNilCheck p0) m) fun x1 m=>
  bp (pur (aFieldAddr 2 x1) m) fun x2 m=>
  bp (pur (aLoad false 1 x2 m) m) fun x3 m=>
  bp (pur (lenK 1 x3 m) m) fun x4 m=>
  bp (conv (.int .i32) x4 m) fun x5 m=>
  bp (pur (aNilCheck p0) m) fun x6 m=>
  bp (pur (aFieldAddr 2 x6) m) fun x7 m=>
  bp (pur (aLoad false 1 x7 m) m) fun x8 m=>
  bp (pur (aLoad true 3 p9 m) m) fun x9 m=>
  bp (aBuildSlice Q1b Qdv 3 1 [(0,x9)] m) fun x10 m=>
  bp (apS Q1b 3 12 x8 x10 m) fun x11 m=>
  bp (pur (aNilCheck p0) m) fun x12 m=>
  bp (pur (aFieldAddr 2 x12) m) fun x13 m=>
  bp (unt (aStore 1 x13 x11 m)) fun _ m=>
  bp (pur (aNilCheck p0) m) fun x14 m=>
  bp (pur (aFieldAddr 3 x14) m) fun x15 m=>
  bp (pur (aLoad false 1 x15 m) m) fun x16 m=>
  bp (pur (aLoad true 3 p9 m) m) fun x17 m=>
  bp (unt (aMapUpdate (.struct [(0,1,false,.int),(1,1,false,.int),(2,1,false,.int)]) x16 x17 x5 m)) fun _ m=>
  Qj8 G x5 m)
  (Qj8 G p10 m)
def Qp9 (G:Gt)(p0 p9:V)(m:M):R:=
  bp (pur (aNilCheck p0) m) fun x18 m=>
  bp (pur (aFieldAddr 3 x18) m) fun x19 m=>
  bp (pur (aLoad false 1 x19 m) m) fun x20 m=>
  bp (pur (aLoad true 3 p9 m) m) fun x21 m=>
  bp (pur (aLookup (.struct [(0,1,false,.int),(1,1,false,.int),(2,1,false,.int)]) (.int .i32 0) true x20 x21 m) m) fun x22 m=>
  bp (pur (aExtract x22 0) m) fun x23 m=>
  bp (pur (aExtract x22 1) m) fun x24 m=>
  Qpa G x24 p0 p9 x23 m
def Qp8 (G:Gt)(p1 p2 p3 p0:V)(m:M):R:=
  bp (pur (aBuild Qdv [(0,1),(1,1),(2,1)] [(0,p1),(1,p2),(2,p3)]) m) fun x25 m=>
  bp (some (aNew Q1b Qdv m)) fun x26 m=>
  bp (unt (aStore 3 x26 x25 m)) fun _ m=>
  Qp9 G p0 x26 m
def Qj7 (G:Gt)(p2 p3 p1 p0:V)(m:M):R:=
  bp (pur (bin .eql false true .int p2 p3) m) fun x27 m=>
  brb x27
  (some (p2,m))
  (Qp8 G p1 p2 p3 p0 m)
def Q57 (G:Gt)(p2 p3 p1 p0:V)(m:M):R:=
  Qj7 G p2 p3 p1 p0 m
theorem Q1yb (G:Gt)(a0 a1 a2 a3:V)(m:M):ef G Tryz.f324 [a0,a1,a2,a3] m = Q57 G a2 a3 a1 a0 m:=
  evFn_of (r:=fun r m=>Q57 G (r 2) (r 3) (r 1) (r 0) m) rfl rfl (tr (seqQ (f:=fun r m=>Qj7 G (r 2) (r 3) (r 1) (r 0) m) (tr (seqQ (f:=fun r m=>Qp8 G (r 1) (r 2) (r 3) (r 0) m) (tr (seqQ (f:=fun r m=>Qp9 G (r 0) (r 9) m) (tr (seqQ (f:=fun r m=>Qpa G (r 11) (r 0) (r 9) (r 10) m) (tr (seqQ (f:=fun r m=>Qj8 G (r 10) m) (fun r m=>by kernel_rfl)) (fun r m=>by kernel_rfl))) (fun r m=>by kernel_rfl))) (fun r m=>by kernel_rfl))) (fun r m=>by kernel_rfl))) (fun r m=>by kernel_rfl)) m
def Q17w:En:=⟨Q9k,Tryz.f324,Tryz.func324,by kernel_rfl,arg4 (fun G a0 a1 a2 a3 m=>Q57 G a2 a3 a1 a0 m),okarg4 Q1yb⟩
def Qah (G:Gt)(p0:V)(m:M):R:=
  bp (pur (bin .eql true true .slice p0 (.slice none 0 0)) m) fun x0 m=>
  brb x0
  (some ((.slice none 0 0),m))
  (bp (aBuildSlice Qeh Qk0 2 0 [] m) fun x1 m=>
  bp (apS Qeh 2 24 x1 p0 m) fun x2 m=>
  some (x2,m))
theorem Q13r (G:Gt)(a0:V)(m:M):ef G Tryz.f332 [a0] m = Qah G a0 m:=
  evFn_of (r:=fun r m=>Qah G (r 0) m) rfl rfl (fun r m=>by kernel_rfl) m
def Q12a:En:=⟨Qk2,Tryz.f332,Tryz.func332,by kernel_rfl,arg1 Qah,okarg1 Q13r⟩
def Qcl (G:Gt)(k0:V → V → V → V → V → M → R)(p8 p2 p1 p3 p0:V)(m:M):R:=
  bp (pur (bin .add true true .int p8 (.int .i64 1)) m) fun x0 m=>
  k0 x0 p2 p1 p3 p0 m
def Q51 (G:Gt)(k1:V → V → V → V → V → V → M → R)(k0:V → V → V → V → V → M → R)(p34 p0 p9 p1 p3 p8 p2:V)(m:M):R:=
  brb p34
  (bp (pur (bin .sub true true .int p9 (.int .i64 1)) m) fun x1 m=>
  bp (pur (bin .sub true true .int p9 (.int .i64 1)) m) fun x2 m=>
  bp (pur (aIndexAddrSl 4 p0 x2) m) fun x3 m=>
  bp (pur (aLoad true 4 x3 m) m) fun x4 m=>
  bp (pur (aIndexAddrSl 4 p0 p9) m) fun x5 m=>
  bp (pur (aLoad true 4 x5 m) m) fun x6 m=>
  bp (pur (aIndexAddrSl 4 p0 p9) m) fun x7 m=>
  bp (unt (aStore 4 x7 x4 m)) fun _ m=>
  bp (pur (aIndexAddrSl 4 p0 x1) m) fun x8 m=>
  bp (unt (aStore 4 x8 x6 m)) fun _ m=>
  bp (pur (bin .sub true true .int p9 (.int .i64 1)) m) fun x9 m=>
  k1 x9 p1 p3 p0 p8 p2 m)
  (Qcl G k0 p8 p2 p1 p3 p0 m)
def Q1y (G:Gt)(k0:V → V → V → V → V → M → R):Nat → V → V → V → V → V → V → M → R
 | 0,_,_,_,_,_,_,_=>none
 | i + 1,p9,p1,p3,p0,p8,p2,m=>
  bp (pur (bin .gtr false true .int p9 p1) m) fun x10 m=>
  brt x10
  (bp (pur (aIndexAddrSl 4 p0 p9) m) fun x11 m=>
  bp (pur (aLoad true 4 x11 m) m) fun x12 m=>
  bp (pur (bin .sub true true .int p9 (.int .i64 1)) m) fun x13 m=>
  bp (pur (aIndexAddrSl 4 p0 x13) m) fun x14 m=>
  bp (pur (aLoad true 4 x14 m) m) fun x15 m=>
  bp (evCall G.tab p3 [x12,x15] m) fun x16 m=>
  bp (pur (bin .lss true true .int x16 (.int .i64 0)) m) fun x17 m=>
  Q51 G (Q1y G k0 i) k0 x17 p0 p9 p1 p3 p8 p2 m)
  (Q51 G (Q1y G k0 i) k0 (.bool false) p0 p9 p1 p3 p8 p2 m)
  (none)
def Qcm (G:Gt)(k0:V → V → V → V → V → M → R)(p9 p1 p3 p0 p8 p2:V)(m:M):R:=
  Q1y G k0 G.rds p9 p1 p3 p0 p8 p2 m
def Qcn (G:Gt)(k0:V → V → V → V → V → M → R)(p8 p1 p3 p0 p2:V)(m:M):R:=
  Qcm G k0 p8 p1 p3 p0 p8 p2 m
def Qm (G:Gt):Nat → V → V → V → V → V → M → R
 | 0,_,_,_,_,_,_=>none
 | i + 1,p8,p2,p1,p3,p0,m=>
  bp (pur (bin .lss false true .int p8 p2) m) fun x18 m=>
  brb x18
  (Qcn G (Qm G i) p8 p1 p3 p0 p2 m)
  (some (.tuple ⟨[]⟩,m))
def Qco (G:Gt)(p8 p2 p1 p3 p0:V)(m:M):R:=
  Qm G G.rds p8 p2 p1 p3 p0 m
def Q61 (G:Gt)(p1 p2 p3 p0:V)(m:M):R:=
  bp (pur (bin .add true true .int p1 (.int .i64 1)) m) fun x19 m=>
  Qco G x19 p2 p1 p3 p0 m
theorem Qsy (G:Gt)(a0 a1 a2 a3:V)(m:M):ef G Tryz.f333 [a0,a1,a2,a3] m = Q61 G a1 a2 a3 a0 m:=
  evFn_of (r:=fun r m=>Q61 G (r 1) (r 2) (r 3) (r 0) m) rfl rfl (tr (seqQ (f:=fun r m=>Qco G (r 8) (r 2) (r 1) (r 3) (r 0) m) (tr (blockQ (loopQ (fun i r m=>Qm G i (r 8) (r 2) (r 1) (r 3) (r 0) m) (fun _ _=>rfl) (fun i0=>tr (seqQ (f:=fun r m=>Qcn G (Qm G i0) (r 8) (r 1) (r 3) (r 0) (r 2) m) (tr (tr (seqQ (f:=fun r m=>Qcl G (Qm G i0) (r 8) (r 2) (r 1) (r 3) (r 0) m) (fun r m=>by kernel_rfl)) (blockQ (seqQ (f:=fun r m=>Qcm G (Qm G i0) (r 9) (r 1) (r 3) (r 0) (r 8) (r 2) m) (tr (blockQ (loopQ (fun i r m=>Q1y G (Qm G i0) i (r 9) (r 1) (r 3) (r 0) (r 8) (r 2) m) (fun _ _=>rfl) (fun i1=>tr (tr seqD (seqQ (f:=fun r m=>Q51 G (Q1y G (Qm G i0) i1) (Qm G i0) (r 34) (r 0) (r 9) (r 1) (r 3) (r 8) (r 2) m) (fun r m=>by kernel_rfl))) (fun r m=>by kernel_rfl)))) (fun r m=>by kernel_rfl))))) (fun r m=>by kernel_rfl))) (fun r m=>by kernel_rfl)))) (fun r m=>by kernel_rfl))) (fun r m=>by kernel_rfl)) m
def Qs2:En:=⟨Qdz,Tryz.f333,Tryz.func333,by kernel_rfl,arg4 (fun G a0 a1 a2 a3 m=>Q61 G a1 a2 a3 a0 m),okarg4 Qsy⟩
end
end Go.Ab.Sh
