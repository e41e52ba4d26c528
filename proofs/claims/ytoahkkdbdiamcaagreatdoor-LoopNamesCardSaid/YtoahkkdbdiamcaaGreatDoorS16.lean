/-
  Functions of the program as plain definitions. No conditions.
-/
import Derived.Test.YtoahkkdbdiamcaaGreatDoorAb5
import Derived.Test.YtoahkkdbdiamcaaGreatDoorZ
import Derived.KernelRfl
import Derived.Test.YtoahkkdbdiamcaaGreatDoorProg
set_option linter.unusedVariables false
set_option maxRecDepth 100000
namespace Go.Ab.Sh
open Go Go.Ab Go.Proofs
noncomputable section
def Qaw (G:Gt)(m:M):R:=
  some ((.bool false),m)
def Q2n (G:Gt)(k0:V → V → V → V → V → M → R)(p8 p7 p2 p0 p1:V)(m:M):R:=
  bp (pur (bin .add true true .int p8 (.int .i64 1)) m) fun x0 m=>
  k0 x0 p7 p2 p0 p1 m
def Q42 (G:Gt)(k0:V → V → V → V → V → M → R):Nat → V → V → V → V → V → V → M → R
 | 0,_,_,_,_,_,_,_=>none
 | i + 1,p10,p2,p0,p8,p7,p1,m=>
  bp (pur (bin .lss false true .int p10 p2) m) fun x1 m=>
  brb x1
  (bp (pur (aIndexAddrSl 1 p0 p10) m) fun x2 m=>
  bp (pur (aLoad false 1 x2 m) m) fun x3 m=>
  bp (pur (bin .sub true true .int p10 (.int .i64 1)) m) fun x4 m=>
  bp (pur (aIndexAddrSl 1 p0 x4) m) fun x5 m=>
  bp (pur (aLoad false 1 x5 m) m) fun x6 m=>
  bp (G.tab Q3r [x3,x6] m) fun x7 m=>
  bp (pur (un .not x7) m) fun x8 m=>
  brb x8
  (Q2n G k0 p8 p7 p2 p0 p1 m)
  (bp (pur (bin .sub true true .int p10 (.int .i64 1)) m) fun x9 m=>
  bp (pur (bin .sub true true .int p10 (.int .i64 1)) m) fun x10 m=>
  bp (pur (aIndexAddrSl 1 p0 x10) m) fun x11 m=>
  bp (pur (aLoad false 1 x11 m) m) fun x12 m=>
  bp (pur (aIndexAddrSl 1 p0 p10) m) fun x13 m=>
  bp (pur (aLoad false 1 x13 m) m) fun x14 m=>
  bp (pur (aIndexAddrSl 1 p0 p10) m) fun x15 m=>
  bp (unt (aStore 1 x15 x12 m)) fun _ m=>
  bp (pur (aIndexAddrSl 1 p0 x9) m) fun x16 m=>
  bp (unt (aStore 1 x16 x14 m)) fun _ m=>
  bp (pur (bin .add true true .int p10 (.int .i64 1)) m) fun x17 m=>
  (Q42 G k0 i) x17 p2 p0 p8 p7 p1 m))
  (Q2n G k0 p8 p7 p2 p0 p1 m)
def Qa6 (G:Gt)(k0:V → V → V → V → V → M → R)(p10 p2 p0 p8 p7 p1:V)(m:M):R:=
  Q42 G k0 G.rds p10 p2 p0 p8 p7 p1 m
def Qa7 (G:Gt)(k0:V → V → V → V → V → M → R)(p98 p7 p2 p0 p8 p1:V)(m:M):R:=
  brb p98
  (bp (pur (bin .add true true .int p7 (.int .i64 1)) m) fun x18 m=>
  Qa6 G k0 x18 p2 p0 p8 p7 p1 m)
  (Q2n G k0 p8 p7 p2 p0 p1 m)
def Q2k (G:Gt)(k0:V → V → V → V → V → M → R)(p2 p7 p0 p8 p1:V)(m:M):R:=
  bp (pur (bin .sub false true .int p2 p7) m) fun x19 m=>
  bp (pur (bin .geq true true .int x19 (.int .i64 2)) m) fun x20 m=>
  Qa7 G k0 x20 p7 p2 p0 p8 p1 m
def Q43 (G:Gt)(k0:V → V → V → V → V → M → R):Nat → V → V → V → V → V → V → M → R
 | 0,_,_,_,_,_,_,_=>none
 | i + 1,p9,p0,p2,p7,p8,p1,m=>
  bp (pur (bin .geq true true .int p9 (.int .i64 1)) m) fun x21 m=>
  brb x21
  (bp (pur (aIndexAddrSl 1 p0 p9) m) fun x22 m=>
  bp (pur (aLoad false 1 x22 m) m) fun x23 m=>
  bp (pur (bin .sub true true .int p9 (.int .i64 1)) m) fun x24 m=>
  bp (pur (aIndexAddrSl 1 p0 x24) m) fun x25 m=>
  bp (pur (aLoad false 1 x25 m) m) fun x26 m=>
  bp (G.tab Q3r [x23,x26] m) fun x27 m=>
  bp (pur (un .not x27) m) fun x28 m=>
  brb x28
  (Q2k G k0 p2 p7 p0 p8 p1 m)
  (bp (pur (bin .sub true true .int p9 (.int .i64 1)) m) fun x29 m=>
  bp (pur (bin .sub true true .int p9 (.int .i64 1)) m) fun x30 m=>
  bp (pur (aIndexAddrSl 1 p0 x30) m) fun x31 m=>
  bp (pur (aLoad false 1 x31 m) m) fun x32 m=>
  bp (pur (aIndexAddrSl 1 p0 p9) m) fun x33 m=>
  bp (pur (aLoad false 1 x33 m) m) fun x34 m=>
  bp (pur (aIndexAddrSl 1 p0 p9) m) fun x35 m=>
  bp (unt (aStore 1 x35 x32 m)) fun _ m=>
  bp (pur (aIndexAddrSl 1 p0 x29) m) fun x36 m=>
  bp (unt (aStore 1 x36 x34 m)) fun _ m=>
  bp (pur (bin .sub true true .int p9 (.int .i64 1)) m) fun x37 m=>
  (Q43 G k0 i) x37 p0 p2 p7 p8 p1 m))
  (Q2k G k0 p2 p7 p0 p8 p1 m)
def Qa8 (G:Gt)(k0:V → V → V → V → V → M → R)(p9 p0 p2 p7 p8 p1:V)(m:M):R:=
  Q43 G k0 G.rds p9 p0 p2 p7 p8 p1 m
def Qa9 (G:Gt)(k0:V → V → V → V → V → M → R)(p61 p7 p0 p2 p8 p1:V)(m:M):R:=
  brb p61
  (bp (pur (bin .sub true true .int p7 (.int .i64 1)) m) fun x38 m=>
  Qa8 G k0 x38 p0 p2 p7 p8 p1 m)
  (Q2k G k0 p2 p7 p0 p8 p1 m)
def Qaa (G:Gt)(k0:V → V → V → V → V → M → R)(p7 p1 p0 p2 p8:V)(m:M):R:=
  bp (pur (bin .sub false true .int p7 p1) m) fun x39 m=>
  bp (pur (bin .geq true true .int x39 (.int .i64 2)) m) fun x40 m=>
  Qa9 G k0 x40 p7 p0 p2 p8 p1 m
def Qax (G:Gt)(k0:V → V → V → V → V → M → R)(p0 p7 p1 p2 p8:V)(m:M):R:=
  bp (pur (bin .sub true true .int p7 (.int .i64 1)) m) fun x41 m=>
  bp (pur (bin .sub true true .int p7 (.int .i64 1)) m) fun x42 m=>
  bp (pur (aIndexAddrSl 1 p0 x42) m) fun x43 m=>
  bp (pur (aLoad false 1 x43 m) m) fun x44 m=>
  bp (pur (aIndexAddrSl 1 p0 p7) m) fun x45 m=>
  bp (pur (aLoad false 1 x45 m) m) fun x46 m=>
  bp (pur (aIndexAddrSl 1 p0 p7) m) fun x47 m=>
  bp (unt (aStore 1 x47 x44 m)) fun _ m=>
  bp (pur (aIndexAddrSl 1 p0 x41) m) fun x48 m=>
  bp (unt (aStore 1 x48 x46 m)) fun _ m=>
  Qaa G k0 p7 p1 p0 p2 p8 m
def Qay (G:Gt)(k0:V → V → V → V → V → M → R)(p2 p1 p0 p7 p8:V)(m:M):R:=
  bp (pur (bin .sub false true .int p2 p1) m) fun x49 m=>
  bp (pur (bin .lss true true .int x49 (.int .i64 50)) m) fun x50 m=>
  brb x50
  (some ((.bool false),m))
  (Qax G k0 p0 p7 p1 p2 p8 m)
def Qaz (G:Gt)(k0:V → V → V → V → V → M → R)(p7 p2 p1 p0 p8:V)(m:M):R:=
  bp (pur (bin .eql false true .int p7 p2) m) fun x51 m=>
  brb x51
  (some ((.bool true),m))
  (Qay G k0 p2 p1 p0 p7 p8 m)
def Q44 (G:Gt)(k1:V → V → V → V → V → M → R)(k0:V → V → V → V → V → M → R)(p32 p7 p2 p0 p1 p8:V)(m:M):R:=
  brb p32
  (bp (pur (bin .add true true .int p7 (.int .i64 1)) m) fun x52 m=>
  k1 x52 p2 p0 p1 p8 m)
  (Qaz G k0 p7 p2 p1 p0 p8 m)
def Q1n (G:Gt)(k0:V → V → V → V → V → M → R):Nat → V → V → V → V → V → M → R
 | 0,_,_,_,_,_,_=>none
 | i + 1,p7,p2,p0,p1,p8,m=>
  bp (pur (bin .lss false true .int p7 p2) m) fun x53 m=>
  brt x53
  (bp (pur (aIndexAddrSl 1 p0 p7) m) fun x54 m=>
  bp (pur (aLoad false 1 x54 m) m) fun x55 m=>
  bp (pur (bin .sub true true .int p7 (.int .i64 1)) m) fun x56 m=>
  bp (pur (aIndexAddrSl 1 p0 x56) m) fun x57 m=>
  bp (pur (aLoad false 1 x57 m) m) fun x58 m=>
  bp (G.tab Q3r [x55,x58] m) fun x59 m=>
  bp (pur (un .not x59) m) fun x60 m=>
  Q44 G (Q1n G k0 i) k0 x60 p7 p2 p0 p1 p8 m)
  (Q44 G (Q1n G k0 i) k0 (.bool false) p7 p2 p0 p1 p8 m)
  (none)
def Qb0 (G:Gt)(k0:V → V → V → V → V → M → R)(p7 p2 p0 p1 p8:V)(m:M):R:=
  Q1n G k0 G.rds p7 p2 p0 p1 p8 m
def Q0 (G:Gt):Nat → V → V → V → V → V → M → R
 | 0,_,_,_,_,_,_=>none
 | i + 1,p8,p7,p2,p0,p1,m=>
  bp (pur (bin .lss true true .int p8 (.int .i64 5)) m) fun x61 m=>
  brb x61
  (Qb0 G (Q0 G i) p7 p2 p0 p1 p8 m)
  (Qaw G m)
def Qb1 (G:Gt)(p8 p7 p2 p0 p1:V)(m:M):R:=
  Q0 G G.rds p8 p7 p2 p0 p1 m
def Qb2 (G:Gt)(p7 p2 p0 p1:V)(m:M):R:=
  Qb1 G (.int .i64 0) p7 p2 p0 p1 m
def Qb3 (G:Gt)(p1 p2 p0:V)(m:M):R:=
  bp (pur (bin .add true true .int p1 (.int .i64 1)) m) fun x62 m=>
  Qb2 G x62 p2 p0 p1 m
def Q5c (G:Gt)(p1 p2 p0:V)(m:M):R:=
  Qb3 G p1 p2 p0 m
theorem Qqs (G:Gt)(a0 a1 a2:V)(m:M):ef G Tryz.f422 [a0,a1,a2] m = Q5c G a1 a2 a0 m:=
  evFn_of (r:=fun r m=>Q5c G (r 1) (r 2) (r 0) m) rfl rfl (tr (seqQ (f:=fun r m=>Qb3 G (r 1) (r 2) (r 0) m) (tr (seqQ (f:=fun r m=>Qb2 G (r 7) (r 2) (r 0) (r 1) m) (tr (tr (seqQ (f:=fun r m=>Qaw G m) (fun r m=>by kernel_rfl)) (seqQ (f:=fun r m=>Qb1 G (r 8) (r 7) (r 2) (r 0) (r 1) m) (tr (blockQ (loopQ (fun i r m=>Q0 G i (r 8) (r 7) (r 2) (r 0) (r 1) m) (fun _ _=>rfl) (fun i0=>tr (seqQ (f:=fun r m=>Qb0 G (Q0 G i0) (r 7) (r 2) (r 0) (r 1) (r 8) m) (tr (tr (seqQ (f:=fun r m=>Q2n G (Q0 G i0) (r 8) (r 7) (r 2) (r 0) (r 1) m) (fun r m=>by kernel_rfl)) (blockQ (tr (seqQ (f:=fun r m=>Qaz G (Q0 G i0) (r 7) (r 2) (r 1) (r 0) (r 8) m) (tr (seqQ (f:=fun r m=>Qay G (Q0 G i0) (r 2) (r 1) (r 0) (r 7) (r 8) m) (tr (seqQ (f:=fun r m=>Qax G (Q0 G i0) (r 0) (r 7) (r 1) (r 2) (r 8) m) (tr (seqQ (f:=fun r m=>Qaa G (Q0 G i0) (r 7) (r 1) (r 0) (r 2) (r 8) m) (tr (tr (seqQ (f:=fun r m=>Q2k G (Q0 G i0) (r 2) (r 7) (r 0) (r 8) (r 1) m) (tr (seqQ (f:=fun r m=>Qa7 G (Q0 G i0) (r 98) (r 7) (r 2) (r 0) (r 8) (r 1) m) (tr (condQ (seqQ (f:=fun r m=>Qa6 G (Q0 G i0) (r 10) (r 2) (r 0) (r 8) (r 7) (r 1) m) (tr (blockQ (loopQ (fun i r m=>Q42 G (Q0 G i0) i (r 10) (r 2) (r 0) (r 8) (r 7) (r 1) m) (fun _ _=>rfl) (fun i1=>fun r m=>by kernel_rfl))) (fun r m=>by kernel_rfl))) (refQ)) (fun r m=>by kernel_rfl))) (fun r m=>by kernel_rfl))) (seqQ (f:=fun r m=>Qa9 G (Q0 G i0) (r 61) (r 7) (r 0) (r 2) (r 8) (r 1) m) (tr (condQ (seqQ (f:=fun r m=>Qa8 G (Q0 G i0) (r 9) (r 0) (r 2) (r 7) (r 8) (r 1) m) (tr (blockQ (loopQ (fun i r m=>Q43 G (Q0 G i0) i (r 9) (r 0) (r 2) (r 7) (r 8) (r 1) m) (fun _ _=>rfl) (fun i1=>fun r m=>by kernel_rfl))) (fun r m=>by kernel_rfl))) (refQ)) (fun r m=>by kernel_rfl)))) (fun r m=>by kernel_rfl))) (fun r m=>by kernel_rfl))) (fun r m=>by kernel_rfl))) (fun r m=>by kernel_rfl))) (blockQ (loopQ (fun i r m=>Q1n G (Q0 G i0) i (r 7) (r 2) (r 0) (r 1) (r 8) m) (fun _ _=>rfl) (fun i1=>tr (tr seqD (seqQ (f:=fun r m=>Q44 G (Q1n G (Q0 G i0) i1) (Q0 G i0) (r 32) (r 7) (r 2) (r 0) (r 1) (r 8) m) (fun r m=>by kernel_rfl))) (fun r m=>by kernel_rfl))))))) (fun r m=>by kernel_rfl))) (fun r m=>by kernel_rfl)))) (fun r m=>by kernel_rfl)))) (fun r m=>by kernel_rfl))) (fun r m=>by kernel_rfl))) (fun r m=>by kernel_rfl)) m
def Qqr:En:=⟨Qd6,Tryz.f422,Tryz.func422,by kernel_rfl,arg3 (fun G a0 a1 a2 m=>Q5c G a1 a2 a0 m),okarg3 Qqs⟩
def Qp7 (G:Gt)(p4:V)(m:M):R:=
  some (p4,m)
def Q1fb (G:Gt)(p0 p1:V)(m:M):R:=
  bp (G.tab Qku [p0] m) fun x0 m=>
  brb x0
  (bp (G.tab Qku [p1] m) fun x1 m=>
  bp (pur (un .not x1) m) fun x2 m=>
  brb x2
  (Qp7 G (.bool true) m)
  (bp (pur (bin .lss false true .int p0 p1) m) fun x3 m=>
  Qp7 G x3 m))
  (bp (pur (bin .lss false true .int p0 p1) m) fun x4 m=>
  Qp7 G x4 m)
def Q17z (G:Gt)(p0 p1:V)(m:M):R:=
  Q1fb G p0 p1 m
theorem Q1xh (G:Gt)(a0 a1:V)(m:M):ef G Tryz.f423 [a0,a1] m = Q17z G a0 a1 m:=
  evFn_of (r:=fun r m=>Q17z G (r 0) (r 1) m) rfl rfl (tr (seqQ (f:=fun r m=>Q1fb G (r 0) (r 1) m) (tr (seqQ (f:=fun r m=>Qp7 G (r 4) m) (fun r m=>by kernel_rfl)) (fun r m=>by kernel_rfl))) (fun r m=>by kernel_rfl)) m
def Q1x8:En:=⟨Q3r,Tryz.f423,Tryz.func423,by kernel_rfl,arg2 Q17z,okarg2 Q1xh⟩
def Qkv (G:Gt)(p0 p11 p1:V)(m:M):R:=
  bp (pur (aIndexAddrSl 1 p0 p1) m) fun x0 m=>
  bp (pur (aLoad false 1 x0 m) m) fun x1 m=>
  bp (pur (aIndexAddrSl 1 p0 p11) m) fun x2 m=>
  bp (pur (aLoad false 1 x2 m) m) fun x3 m=>
  bp (pur (aIndexAddrSl 1 p0 p11) m) fun x4 m=>
  bp (unt (aStore 1 x4 x1 m)) fun _ m=>
  bp (pur (aIndexAddrSl 1 p0 p1) m) fun x5 m=>
  bp (unt (aStore 1 x5 x3 m)) fun _ m=>
  some (.tuple ⟨[p11,(.bool false)]⟩,m)
def Qjy (G:Gt)(k0:V → V → V → V → M → R)(p10 p11 p0 p1:V)(m:M):R:=
  bp (pur (bin .gtr false true .int p10 p11) m) fun x6 m=>
  brb x6
  (Qkv G p0 p11 p1 m)
  (bp (pur (aIndexAddrSl 1 p0 p11) m) fun x7 m=>
  bp (pur (aLoad false 1 x7 m) m) fun x8 m=>
  bp (pur (aIndexAddrSl 1 p0 p10) m) fun x9 m=>
  bp (pur (aLoad false 1 x9 m) m) fun x10 m=>
  bp (pur (aIndexAddrSl 1 p0 p10) m) fun x11 m=>
  bp (unt (aStore 1 x11 x8 m)) fun _ m=>
  bp (pur (aIndexAddrSl 1 p0 p11) m) fun x12 m=>
  bp (unt (aStore 1 x12 x10 m)) fun _ m=>
  bp (pur (bin .add true true .int p10 (.int .i64 1)) m) fun x13 m=>
  bp (pur (bin .sub true true .int p11 (.int .i64 1)) m) fun x14 m=>
  k0 x13 x14 p0 p1 m)
def Qab (G:Gt)(k1:V → V → V → V → M → R)(k0:V → V → V → V → M → R)(p129 p11 p10 p0 p1:V)(m:M):R:=
  brb p129
  (bp (pur (bin .sub true true .int p11 (.int .i64 1)) m) fun x15 m=>
  k1 p10 x15 p0 p1 m)
  (Qjy G k0 p10 p11 p0 p1 m)
def Q2v (G:Gt)(k0:V → V → V → V → M → R):Nat → V → V → V → V → M → R
 | 0,_,_,_,_,_=>none
 | i + 1,p10,p11,p0,p1,m=>
  bp (pur (bin .leq false true .int p10 p11) m) fun x16 m=>
  brt x16
  (bp (pur (aIndexAddrSl 1 p0 p11) m) fun x17 m=>
  bp (pur (aLoad false 1 x17 m) m) fun x18 m=>
  bp (pur (aIndexAddrSl 1 p0 p1) m) fun x19 m=>
  bp (pur (aLoad false 1 x19 m) m) fun x20 m=>
  bp (G.tab Q3r [x18,x20] m) fun x21 m=>
  bp (pur (un .not x21) m) fun x22 m=>
  Qab G (Q2v G k0 i) k0 x22 p11 p10 p0 p1 m)
  (Qab G (Q2v G k0 i) k0 (.bool false) p11 p10 p0 p1 m)
  (none)
def Qjz (G:Gt)(k0:V → V → V → V → M → R)(p10 p11 p0 p1:V)(m:M):R:=
  Q2v G k0 G.rds p10 p11 p0 p1 m
def Qac (G:Gt)(k1:V → V → V → V → M → R)(k0:V → V → V → V → M → R)(p112 p10 p11 p0 p1:V)(m:M):R:=
  brb p112
  (bp (pur (bin .add true true .int p10 (.int .i64 1)) m) fun x23 m=>
  k1 x23 p11 p0 p1 m)
  (Qjz G k0 p10 p11 p0 p1 m)
def Q2w (G:Gt)(k0:V → V → V → V → M → R):Nat → V → V → V → V → M → R
 | 0,_,_,_,_,_=>none
 | i + 1,p10,p11,p0,p1,m=>
  bp (pur (bin .leq false true .int p10 p11) m) fun x24 m=>
  brt x24
  (bp (pur (aIndexAddrSl 1 p0 p10) m) fun x25 m=>
  bp (pur (aLoad false 1 x25 m) m) fun x26 m=>
  bp (pur (aIndexAddrSl 1 p0 p1) m) fun x27 m=>
  bp (pur (aLoad false 1 x27 m) m) fun x28 m=>
  bp (G.tab Q3r [x26,x28] m) fun x29 m=>
  Qac G (Q2w G k0 i) k0 x29 p10 p11 p0 p1 m)
  (Qac G (Q2w G k0 i) k0 (.bool false) p10 p11 p0 p1 m)
  (none)
def Qr (G:Gt):Nat → V → V → V → V → M → R
 | 0,_,_,_,_,_=>none
 | i + 1,p10,p11,p0,p1,m=>
  Q2w G (Qr G i) G.rds p10 p11 p0 p1 m
def Qkw (G:Gt)(p10 p11 p0 p1:V)(m:M):R:=
  Qr G G.rds p10 p11 p0 p1 m
def Qkx (G:Gt)(p11 p10 p0 p1:V)(m:M):R:=
  bp (pur (bin .sub true true .int p11 (.int .i64 1)) m) fun x30 m=>
  Qkw G p10 x30 p0 p1 m
def Qky (G:Gt)(p10 p11 p0 p1:V)(m:M):R:=
  bp (pur (bin .add true true .int p10 (.int .i64 1)) m) fun x31 m=>
  Qkx G p11 x31 p0 p1 m
def Qkz (G:Gt)(p0 p10 p11 p1:V)(m:M):R:=
  bp (pur (aIndexAddrSl 1 p0 p11) m) fun x32 m=>
  bp (pur (aLoad false 1 x32 m) m) fun x33 m=>
  bp (pur (aIndexAddrSl 1 p0 p10) m) fun x34 m=>
  bp (pur (aLoad false 1 x34 m) m) fun x35 m=>
  bp (pur (aIndexAddrSl 1 p0 p10) m) fun x36 m=>
  bp (unt (aStore 1 x36 x33 m)) fun _ m=>
  bp (pur (aIndexAddrSl 1 p0 p11) m) fun x37 m=>
  bp (unt (aStore 1 x37 x35 m)) fun _ m=>
  Qky G p10 p11 p0 p1 m
def Ql0 (G:Gt)(p10 p11 p0 p1:V)(m:M):R:=
  bp (pur (bin .gtr false true .int p10 p11) m) fun x38 m=>
  brb x38
  (bp (pur (aIndexAddrSl 1 p0 p1) m) fun x39 m=>
  bp (pur (aLoad false 1 x39 m) m) fun x40 m=>
  bp (pur (aIndexAddrSl 1 p0 p11) m) fun x41 m=>
  bp (pur (aLoad false 1 x41 m) m) fun x42 m=>
  bp (pur (aIndexAddrSl 1 p0 p11) m) fun x43 m=>
  bp (unt (aStore 1 x43 x40 m)) fun _ m=>
  bp (pur (aIndexAddrSl 1 p0 p1) m) fun x44 m=>
  bp (unt (aStore 1 x44 x42 m)) fun _ m=>
  some (.tuple ⟨[p11,(.bool true)]⟩,m))
  (Qkz G p0 p10 p11 p1 m)
def Qad (G:Gt)(k0:V → V → V → V → M → R)(p60 p11 p10 p0 p1:V)(m:M):R:=
  brb p60
  (bp (pur (bin .sub true true .int p11 (.int .i64 1)) m) fun x45 m=>
  k0 p10 x45 p0 p1 m)
  (Ql0 G p10 p11 p0 p1 m)
def Q2x (G:Gt):Nat → V → V → V → V → M → R
 | 0,_,_,_,_,_=>none
 | i + 1,p10,p11,p0,p1,m=>
  bp (pur (bin .leq false true .int p10 p11) m) fun x46 m=>
  brt x46
  (bp (pur (aIndexAddrSl 1 p0 p11) m) fun x47 m=>
  bp (pur (aLoad false 1 x47 m) m) fun x48 m=>
  bp (pur (aIndexAddrSl 1 p0 p1) m) fun x49 m=>
  bp (pur (aLoad false 1 x49 m) m) fun x50 m=>
  bp (G.tab Q3r [x48,x50] m) fun x51 m=>
  bp (pur (un .not x51) m) fun x52 m=>
  Qad G (Q2x G i) x52 p11 p10 p0 p1 m)
  (Qad G (Q2x G i) (.bool false) p11 p10 p0 p1 m)
  (none)
def Ql1 (G:Gt)(p10 p11 p0 p1:V)(m:M):R:=
  Q2x G G.rds p10 p11 p0 p1 m
def Qae (G:Gt)(k0:V → V → V → V → M → R)(p43 p10 p11 p0 p1:V)(m:M):R:=
  brb p43
  (bp (pur (bin .add true true .int p10 (.int .i64 1)) m) fun x53 m=>
  k0 x53 p11 p0 p1 m)
  (Ql1 G p10 p11 p0 p1 m)
def Q2y (G:Gt):Nat → V → V → V → V → M → R
 | 0,_,_,_,_,_=>none
 | i + 1,p10,p11,p0,p1,m=>
  bp (pur (bin .leq false true .int p10 p11) m) fun x54 m=>
  brt x54
  (bp (pur (aIndexAddrSl 1 p0 p10) m) fun x55 m=>
  bp (pur (aLoad false 1 x55 m) m) fun x56 m=>
  bp (pur (aIndexAddrSl 1 p0 p1) m) fun x57 m=>
  bp (pur (aLoad false 1 x57 m) m) fun x58 m=>
  bp (G.tab Q3r [x56,x58] m) fun x59 m=>
  Qae G (Q2y G i) x59 p10 p11 p0 p1 m)
  (Qae G (Q2y G i) (.bool false) p10 p11 p0 p1 m)
  (none)
def Ql2 (G:Gt)(p10 p11 p0 p1:V)(m:M):R:=
  Q2y G G.rds p10 p11 p0 p1 m
def Ql3 (G:Gt)(p1 p2 p0:V)(m:M):R:=
  bp (pur (bin .add true true .int p1 (.int .i64 1)) m) fun x60 m=>
  bp (pur (bin .sub true true .int p2 (.int .i64 1)) m) fun x61 m=>
  Ql2 G x60 x61 p0 p1 m
def Ql4 (G:Gt)(p0 p1 p3 p2:V)(m:M):R:=
  bp (pur (aIndexAddrSl 1 p0 p3) m) fun x62 m=>
  bp (pur (aLoad false 1 x62 m) m) fun x63 m=>
  bp (pur (aIndexAddrSl 1 p0 p1) m) fun x64 m=>
  bp (pur (aLoad false 1 x64 m) m) fun x65 m=>
  bp (pur (aIndexAddrSl 1 p0 p1) m) fun x66 m=>
  bp (unt (aStore 1 x66 x63 m)) fun _ m=>
  bp (pur (aIndexAddrSl 1 p0 p3) m) fun x67 m=>
  bp (unt (aStore 1 x67 x65 m)) fun _ m=>
  Ql3 G p1 p2 p0 m
def Qdu (G:Gt)(p0 p1 p3 p2:V)(m:M):R:=
  Ql4 G p0 p1 p3 p2 m
theorem Q180 (G:Gt)(a0 a1 a2 a3:V)(m:M):ef G Tryz.f425 [a0,a1,a2,a3] m = Qdu G a0 a1 a3 a2 m:=
  evFn_of (r:=fun r m=>Qdu G (r 0) (r 1) (r 3) (r 2) m) rfl rfl (tr (seqQ (f:=fun r m=>Ql4 G (r 0) (r 1) (r 3) (r 2) m) (tr (seqQ (f:=fun r m=>Ql3 G (r 1) (r 2) (r 0) m) (tr (seqQ (f:=fun r m=>Ql2 G (r 10) (r 11) (r 0) (r 1) m) (tr (tr (seqQ (f:=fun r m=>Ql1 G (r 10) (r 11) (r 0) (r 1) m) (tr (tr (seqQ (f:=fun r m=>Ql0 G (r 10) (r 11) (r 0) (r 1) m) (tr (seqQ (f:=fun r m=>Qkz G (r 0) (r 10) (r 11) (r 1) m) (tr (seqQ (f:=fun r m=>Qky G (r 10) (r 11) (r 0) (r 1) m) (tr (seqQ (f:=fun r m=>Qkx G (r 11) (r 10) (r 0) (r 1) m) (tr (seqQ (f:=fun r m=>Qkw G (r 10) (r 11) (r 0) (r 1) m) (tr (tr (seqQ (f:=fun r m=>Qkv G (r 0) (r 11) (r 1) m) (fun r m=>by kernel_rfl)) (blockQ (loopQ (fun i r m=>Qr G i (r 10) (r 11) (r 0) (r 1) m) (fun _ _=>rfl) (fun i0=>tr (blockQ (tr (seqQ (f:=fun r m=>Qjz G (Qr G i0) (r 10) (r 11) (r 0) (r 1) m) (tr (tr (seqQ (f:=fun r m=>Qjy G (Qr G i0) (r 10) (r 11) (r 0) (r 1) m) (fun r m=>by kernel_rfl)) (blockQ (loopQ (fun i r m=>Q2v G (Qr G i0) i (r 10) (r 11) (r 0) (r 1) m) (fun _ _=>rfl) (fun i1=>tr (tr seqD (seqQ (f:=fun r m=>Qab G (Q2v G (Qr G i0) i1) (Qr G i0) (r 129) (r 11) (r 10) (r 0) (r 1) m) (fun r m=>by kernel_rfl))) (fun r m=>by kernel_rfl))))) (fun r m=>by kernel_rfl))) (blockQ (loopQ (fun i r m=>Q2w G (Qr G i0) i (r 10) (r 11) (r 0) (r 1) m) (fun _ _=>rfl) (fun i1=>tr (tr seqD (seqQ (f:=fun r m=>Qac G (Q2w G (Qr G i0) i1) (Qr G i0) (r 112) (r 10) (r 11) (r 0) (r 1) m) (fun r m=>by kernel_rfl))) (fun r m=>by kernel_rfl)))))) (fun r m=>by kernel_rfl))))) (fun r m=>by kernel_rfl))) (fun r m=>by kernel_rfl))) (fun r m=>by kernel_rfl))) (fun r m=>by kernel_rfl))) (fun r m=>by kernel_rfl))) (blockQ (loopQ (fun i r m=>Q2x G i (r 10) (r 11) (r 0) (r 1) m) (fun _ _=>rfl) (fun i0=>tr (tr seqD (seqQ (f:=fun r m=>Qad G (Q2x G i0) (r 60) (r 11) (r 10) (r 0) (r 1) m) (fun r m=>by kernel_rfl))) (fun r m=>by kernel_rfl))))) (fun r m=>by kernel_rfl))) (blockQ (loopQ (fun i r m=>Q2y G i (r 10) (r 11) (r 0) (r 1) m) (fun _ _=>rfl) (fun i0=>tr (tr seqD (seqQ (f:=fun r m=>Qae G (Q2y G i0) (r 43) (r 10) (r 11) (r 0) (r 1) m) (fun r m=>by kernel_rfl))) (fun r m=>by kernel_rfl))))) (fun r m=>by kernel_rfl))) (fun r m=>by kernel_rfl))) (fun r m=>by kernel_rfl))) (fun r m=>by kernel_rfl)) m
def Q17v:En:=⟨Qnf,Tryz.f425,Tryz.func425,by kernel_rfl,arg4 (fun G a0 a1 a2 a3 m=>Qdu G a0 a1 a3 a2 m),okarg4 Q180⟩
end
end Go.Ab.Sh

set_option linter.unusedVariables false
set_option maxRecDepth 100000
namespace Go.Ab.Sh
open Go Go.Ab Go.Proofs
noncomputable section
def Q7e (G:Gt)(p16 p1 p0 p3 p4 p2:V)(m:M):R:=
  brb p16
  (some (.tuple ⟨[]⟩,m))
  (bp (pur (aLoad false 1 p1 m) m) fun x0 m=>
  bp (unt (aMapUpdate .int x0 p0 (.bool true) m)) fun _ m=>
  bp (pur (aLoad false 1 p3 m) m) fun x1 m=>
  bp (aBuildSlice Q3b [(.int .i32 0)] 1 1 [(0,p0)] m) fun x2 m=>
  bp (apS Q3b 1 4 x1 x2 m) fun x3 m=>
  bp (unt (aStore 1 p3 x3 m)) fun _ m=>
  bp (pur (aLoad false 1 p4 m) m) fun x4 m=>
  bp (pur (aLoad false 1 p2 m) m) fun x5 m=>
  bp (pur (aNilCheck x5) m) fun x6 m=>
  bp (pur (aFieldAddr 2 x6) m) fun x7 m=>
  bp (pur (aLoad false 1 x7 m) m) fun x8 m=>
  bp (pur (aIndexAddrSl 3 x8 p0) m) fun x9 m=>
  bp (pur (aFieldAddr 1 x9) m) fun x10 m=>
  bp (pur (aLoad false 1 x10 m) m) fun x11 m=>
  bp (evCall G.tab x4 [x11] m) fun x12 m=>
  bp (pur (aLoad false 1 p4 m) m) fun x13 m=>
  bp (pur (aLoad false 1 p2 m) m) fun x14 m=>
  bp (pur (aNilCheck x14) m) fun x15 m=>
  bp (pur (aFieldAddr 2 x15) m) fun x16 m=>
  bp (pur (aLoad false 1 x16 m) m) fun x17 m=>
  bp (pur (aIndexAddrSl 3 x17 p0) m) fun x18 m=>
  bp (pur (aFieldAddr 2 x18) m) fun x19 m=>
  bp (pur (aLoad false 1 x19 m) m) fun x20 m=>
  bp (evCall G.tab x13 [x20] m) fun x21 m=>
  some (.tuple ⟨[]⟩,m))
def Q22 (G:Gt)(p1 p0 p2 p3 p4:V)(m:M):R:=
  bp (pur (aLoad false 1 p1 m) m) fun x22 m=>
  bp (pur (aLookup .int (.bool false) false x22 p0 m) m) fun x23 m=>
  brb x23
  (Q7e G (.bool true) p1 p0 p3 p4 p2 m)
  (bp (pur (aLoad false 1 p2 m) m) fun x24 m=>
  bp (pur (aNilCheck x24) m) fun x25 m=>
  bp (pur (aFieldAddr 6 x25) m) fun x26 m=>
  bp (pur (aLoad false 1 x26 m) m) fun x27 m=>
  bp (pur (aLookup .int (.bool false) false x27 p0 m) m) fun x28 m=>
  Q7e G x28 p1 p0 p3 p4 p2 m)
theorem Q1qm (G:Gt)(a0 a1 a2 a3 a4:V)(m:M):ef G Tryz.f428 [a0,a1,a2,a3,a4] m = Q22 G a1 a0 a2 a3 a4 m:=
  evFn_of (r:=fun r m=>Q22 G (r 1) (r 0) (r 2) (r 3) (r 4) m) rfl rfl (tr (tr seqD (seqQ (f:=fun r m=>Q7e G (r 16) (r 1) (r 0) (r 3) (r 4) (r 2) m) (fun r m=>by kernel_rfl))) (fun r m=>by kernel_rfl)) m
def Qul:En:=⟨Q2c,Tryz.f428,Tryz.func428,by kernel_rfl,arg5 (fun G a0 a1 a2 a3 a4 m=>Q22 G a1 a0 a2 a3 a4 m),okarg5 Q1qm⟩
def Q5p (G:Gt)(p1 p2 p3 p0 p4 p5:V)(m:M):R:=
  bp (pur (aLoad false 1 p1 m) m) fun x0 m=>
  bp (pur (aLoad false 1 p1 m) m) fun x1 m=>
  bp (pur (aLoad false 1 p2 m) m) fun x2 m=>
  bp (pur (aLoad false 1 p3 m) m) fun x3 m=>
  bp (pur (aLoad false 1 p1 m) m) fun x4 m=>
  bp (pur (aLoad false 1 p4 m) m) fun x5 m=>
  bp (pur (aLoad false 1 p3 m) m) fun x6 m=>
  bp (pur (aLoad false 1 p1 m) m) fun x7 m=>
  bp (pur (aLoad false 1 p5 m) m) fun x8 m=>
  bp (pur (aLoad false 1 p3 m) m) fun x9 m=>
  bp (G.tab Qc3 [x1,x2,x3,p0] m) fun x10 m=>
  ckB (again (pur (aLoad false 1 p1 m) m) x0 && (again (pur (aLoad false 1 p1 m) m) x4 && (again (pur (aLoad false 1 p4 m) m) x5 && (again (pur (aLoad false 1 p3 m) m) x6 && (again (pur (aLoad false 1 p1 m) m) x7 && (again (pur (aLoad false 1 p5 m) m) x8 && (again (pur (aLoad false 1 p3 m) m) x9 && true)))))))
  (bp (G.tab Qc3 [x4,x5,x6,p0] m) fun x11 m=>
  ckB (again (pur (aLoad false 1 p1 m) m) x0 && (again (pur (aLoad false 1 p1 m) m) x7 && (again (pur (aLoad false 1 p5 m) m) x8 && (again (pur (aLoad false 1 p3 m) m) x9 && true))))
  (bp (G.tab Qc3 [x7,x8,x9,p0] m) fun x12 m=>
  ckB (again (pur (aLoad false 1 p1 m) m) x0 && true)
  (bp (G.tab Q2g [x0,x10,x11,x12] m) fun x13 m=>
  some (x13,m))))
theorem Q1rv (G:Gt)(a0 a1 a2 a3 a4 a5:V)(m:M):ef G Tryz.f429 [a0,a1,a2,a3,a4,a5] m = Q5p G a1 a2 a3 a0 a4 a5 m:=
  evFn_of (r:=fun r m=>Q5p G (r 1) (r 2) (r 3) (r 0) (r 4) (r 5) m) rfl rfl (fun r m=>by kernel_rfl) m
def Qxc:En:=⟨Q7l,Tryz.f429,Tryz.func429,by kernel_rfl,arg6 (fun G a0 a1 a2 a3 a4 a5 m=>Q5p G a1 a2 a3 a0 a4 a5 m),okarg6 Q1rv⟩
def Q7m (G:Gt)(p0 p1 p2 p3:V)(m:M):R:=
  bp (pur (aNilCheck p0) m) fun x0 m=>
  bp (pur (aFieldAddr 2 x0) m) fun x1 m=>
  bp (pur (aLoad false 1 x1 m) m) fun x2 m=>
  bp (pur (aIndexAddrSl 3 x2 p1) m) fun x3 m=>
  bp (pur (aLoad true 3 x3 m) m) fun x4 m=>
  bp (some (aNew Q1b Qdv m)) fun x5 m=>
  bp (unt (aStore 3 x5 x4 m)) fun _ m=>
  bp (pur (aFieldAddr 0 x5) m) fun x6 m=>
  bp (pur (aLoad false 1 x6 m) m) fun x7 m=>
  bp (pur (bin .neq false true .int x7 p2) m) fun x8 m=>
  brb x8
  (some (p1,m))
  (brb p3
  (bp (pur (aFieldAddr 2 x5) m) fun x9 m=>
  bp (pur (aLoad false 1 x9 m) m) fun x10 m=>
  some (x10,m))
  (bp (pur (aFieldAddr 1 x5) m) fun x11 m=>
  bp (pur (aLoad false 1 x11 m) m) fun x12 m=>
  some (x12,m)))
theorem Q1w3 (G:Gt)(a0 a1 a2 a3:V)(m:M):ef G Tryz.f430 [a0,a1,a2,a3] m = Q7m G a0 a1 a2 a3 m:=
  evFn_of (r:=fun r m=>Q7m G (r 0) (r 1) (r 2) (r 3) m) rfl rfl (fun r m=>by kernel_rfl) m
def Q14z:En:=⟨Qc3,Tryz.f430,Tryz.func430,by kernel_rfl,arg4 Q7m,okarg4 Q1w3⟩
def Q15v (G:Gt)(p3:V)(m:M):R:=
  some (p3,m)
def Qpj (G:Gt):Nat → V → V → M → R
 | 0,_,_,_=>none
 | i + 1,p4,p3,m=>
  bp (pur (bin .lss true true .int p4 (.int .i64 32)) m) fun x0 m=>
  brb x0
  (bp (pur (bin .mul true true .int (.int .u64 2) p3) m) fun x1 m=>
  bp (pur (bin .add true true .int p4 (.int .i64 1)) m) fun x2 m=>
  (Qpj G i) x2 x1 m)
  (Q15v G p3 m)
def Q15w (G:Gt)(p4 p3:V)(m:M):R:=
  Qpj G G.rds p4 p3 m
def Q15x (G:Gt)(p0 p3:V)(m:M):R:=
  Q15w G p0 p3 m
def Q15y (G:Gt)(p0:V)(m:M):R:=
  Q15x G p0 (.int .u64 1) m
def Qum (G:Gt)(p0:V)(m:M):R:=
  Q15y G p0 m
theorem Q1qn (G:Gt)(a0:V)(m:M):ef G Tryz.f441 [a0] m = Qum G a0 m:=
  evFn_of (r:=fun r m=>Qum G (r 0) m) rfl rfl (tr (seqQ (f:=fun r m=>Q15y G (r 0) m) (tr (seqQ (f:=fun r m=>Q15x G (r 0) (r 3) m) (tr (tr (seqQ (f:=fun r m=>Q15v G (r 3) m) (fun r m=>by kernel_rfl)) (seqQ (f:=fun r m=>Q15w G (r 4) (r 3) m) (tr (blockQ (loopQ (fun i r m=>Qpj G i (r 4) (r 3) m) (fun _ _=>rfl) (fun i0=>fun r m=>by kernel_rfl))) (fun r m=>by kernel_rfl)))) (fun r m=>by kernel_rfl))) (fun r m=>by kernel_rfl))) (fun r m=>by kernel_rfl)) m
def Q1qb:En:=⟨Q1a6,Tryz.f441,Tryz.func441,by kernel_rfl,arg1 Qum,okarg1 Q1qn⟩
def Qpk (G:Gt)(p9 p0:V)(m:M):R:=
  brb p9
  (some (.tuple ⟨[(.int .u32 0),(.int .i64 1)]⟩,m))
  (bp (G.tab Q1a6 [p0] m) fun x0 m=>
  bp (pur (bin .sub true true .int (.int .u64 4294967296) x0) m) fun x1 m=>
  bp (conv (.int .u32) x1 m) fun x2 m=>
  some (.tuple ⟨[x2,(.int .i64 0)]⟩,m))
def Q15z (G:Gt)(p0:V)(m:M):R:=
  bp (pur (bin .lss true true .int p0 (.int .i64 0)) m) fun x3 m=>
  brb x3
  (Qpk G (.bool true) p0 m)
  (bp (pur (bin .gtr true true .int p0 (.int .i64 32)) m) fun x4 m=>
  Qpk G x4 p0 m)
def Qun (G:Gt)(p0:V)(m:M):R:=
  Q15z G p0 m
theorem Q1qo (G:Gt)(a0:V)(m:M):ef G Tryz.f442 [a0] m = Qun G a0 m:=
  evFn_of (r:=fun r m=>Qun G (r 0) m) rfl rfl (tr (seqQ (f:=fun r m=>Q15z G (r 0) m) (tr (tr seqD (seqQ (f:=fun r m=>Qpk G (r 9) (r 0) m) (fun r m=>by kernel_rfl))) (fun r m=>by kernel_rfl))) (fun r m=>by kernel_rfl)) m
def Q1qk:En:=⟨Q1a7,Tryz.f442,Tryz.func442,by kernel_rfl,arg1 Qun,okarg1 Q1qo⟩
def Qid (G:Gt)(p0 p1 p2 p3:V)(m:M):R:=
  bp (some (aNew Q1d (Value.cells p0).toList m)) fun x0 m=>
  bp (pur (aLoad false 1 p1 m) m) fun x1 m=>
  bp (pur (aLoad true 11 x0 m) m) fun x2 m=>
  bp (pur (aLoad false 1 p1 m) m) fun x3 m=>
  bp (pur (aLoad false 1 p2 m) m) fun x4 m=>
  bp (pur (aLoad false 1 p3 m) m) fun x5 m=>
  bp (pur (aIndexAddrSl 11 x4 x5) m) fun x6 m=>
  bp (pur (aLoad true 11 x6 m) m) fun x7 m=>
  bp (evCall G.tab x1 [x2] m) fun x8 m=>
  ckB (again (pur (aLoad false 1 p1 m) m) x3 && (again (pur (aLoad false 1 p2 m) m) x4 && (again (pur (aLoad false 1 p3 m) m) x5 && (again (pur (aLoad true 11 x6 m) m) x7 && true))))
  (bp (evCall G.tab x3 [x7] m) fun x9 m=>
  bp (pur (bin .eql false true .str x8 x9) m) fun x10 m=>
  some (x10,m))
theorem Q1eg (G:Gt)(a0 a1 a2 a3:V)(m:M):ef G Tryz.f452 [a0,a1,a2,a3] m = Qid G a0 a1 a2 a3 m:=
  evFn_of (r:=fun r m=>Qid G (r 0) (r 1) (r 2) (r 3) m) rfl rfl (fun r m=>by kernel_rfl) m
def Q1eb:En:=⟨Qt8,Tryz.f452,Tryz.func452,by kernel_rfl,arg4 Qid,okarg4 Q1eg⟩
def Qcc (G:Gt)(k0:V → V → V → V → V → M → R)(p8 p2 p1 p3 p0:V)(m:M):R:=
  bp (pur (bin .add true true .int p8 (.int .i64 1)) m) fun x0 m=>
  k0 x0 p2 p1 p3 p0 m
def Q4w (G:Gt)(k1:V → V → V → V → V → V → M → R)(k0:V → V → V → V → V → M → R)(p34 p0 p9 p1 p3 p8 p2:V)(m:M):R:=
  brb p34
  (bp (pur (bin .sub true true .int p9 (.int .i64 1)) m) fun x1 m=>
  bp (pur (bin .sub true true .int p9 (.int .i64 1)) m) fun x2 m=>
  bp (pur (aIndexAddrSl 11 p0 x2) m) fun x3 m=>
  bp (pur (aLoad true 11 x3 m) m) fun x4 m=>
  bp (pur (aIndexAddrSl 11 p0 p9) m) fun x5 m=>
  bp (pur (aLoad true 11 x5 m) m) fun x6 m=>
  bp (pur (aIndexAddrSl 11 p0 p9) m) fun x7 m=>
  bp (unt (aStore 11 x7 x4 m)) fun _ m=>
  bp (pur (aIndexAddrSl 11 p0 x1) m) fun x8 m=>
  bp (unt (aStore 11 x8 x6 m)) fun _ m=>
  bp (pur (bin .sub true true .int p9 (.int .i64 1)) m) fun x9 m=>
  k1 x9 p1 p3 p0 p8 p2 m)
  (Qcc G k0 p8 p2 p1 p3 p0 m)
def Q1w (G:Gt)(k0:V → V → V → V → V → M → R):Nat → V → V → V → V → V → V → M → R
 | 0,_,_,_,_,_,_,_=>none
 | i + 1,p9,p1,p3,p0,p8,p2,m=>
  bp (pur (bin .gtr false true .int p9 p1) m) fun x10 m=>
  brt x10
  (bp (pur (aIndexAddrSl 11 p0 p9) m) fun x11 m=>
  bp (pur (aLoad true 11 x11 m) m) fun x12 m=>
  bp (pur (bin .sub true true .int p9 (.int .i64 1)) m) fun x13 m=>
  bp (pur (aIndexAddrSl 11 p0 x13) m) fun x14 m=>
  bp (pur (aLoad true 11 x14 m) m) fun x15 m=>
  bp (evCall G.tab p3 [x12,x15] m) fun x16 m=>
  bp (pur (bin .lss true true .int x16 (.int .i64 0)) m) fun x17 m=>
  Q4w G (Q1w G k0 i) k0 x17 p0 p9 p1 p3 p8 p2 m)
  (Q4w G (Q1w G k0 i) k0 (.bool false) p0 p9 p1 p3 p8 p2 m)
  (none)
def Qcd (G:Gt)(k0:V → V → V → V → V → M → R)(p9 p1 p3 p0 p8 p2:V)(m:M):R:=
  Q1w G k0 G.rds p9 p1 p3 p0 p8 p2 m
def Qce (G:Gt)(k0:V → V → V → V → V → M → R)(p8 p1 p3 p0 p2:V)(m:M):R:=
  Qcd G k0 p8 p1 p3 p0 p8 p2 m
def Ql (G:Gt):Nat → V → V → V → V → V → M → R
 | 0,_,_,_,_,_,_=>none
 | i + 1,p8,p2,p1,p3,p0,m=>
  bp (pur (bin .lss false true .int p8 p2) m) fun x18 m=>
  brb x18
  (Qce G (Ql G i) p8 p1 p3 p0 p2 m)
  (some (.tuple ⟨[]⟩,m))
def Qcf (G:Gt)(p8 p2 p1 p3 p0:V)(m:M):R:=
  Ql G G.rds p8 p2 p1 p3 p0 m
def Q5w (G:Gt)(p1 p2 p3 p0:V)(m:M):R:=
  bp (pur (bin .add true true .int p1 (.int .i64 1)) m) fun x19 m=>
  Qcf G x19 p2 p1 p3 p0 m
theorem Qs6 (G:Gt)(a0 a1 a2 a3:V)(m:M):ef G Tryz.f469 [a0,a1,a2,a3] m = Q5w G a1 a2 a3 a0 m:=
  evFn_of (r:=fun r m=>Q5w G (r 1) (r 2) (r 3) (r 0) m) rfl rfl (tr (seqQ (f:=fun r m=>Qcf G (r 8) (r 2) (r 1) (r 3) (r 0) m) (tr (blockQ (loopQ (fun i r m=>Ql G i (r 8) (r 2) (r 1) (r 3) (r 0) m) (fun _ _=>rfl) (fun i0=>tr (seqQ (f:=fun r m=>Qce G (Ql G i0) (r 8) (r 1) (r 3) (r 0) (r 2) m) (tr (tr (seqQ (f:=fun r m=>Qcc G (Ql G i0) (r 8) (r 2) (r 1) (r 3) (r 0) m) (fun r m=>by kernel_rfl)) (blockQ (seqQ (f:=fun r m=>Qcd G (Ql G i0) (r 9) (r 1) (r 3) (r 0) (r 8) (r 2) m) (tr (blockQ (loopQ (fun i r m=>Q1w G (Ql G i0) i (r 9) (r 1) (r 3) (r 0) (r 8) (r 2) m) (fun _ _=>rfl) (fun i1=>tr (tr seqD (seqQ (f:=fun r m=>Q4w G (Q1w G (Ql G i0) i1) (Ql G i0) (r 34) (r 0) (r 9) (r 1) (r 3) (r 8) (r 2) m) (fun r m=>by kernel_rfl))) (fun r m=>by kernel_rfl)))) (fun r m=>by kernel_rfl))))) (fun r m=>by kernel_rfl))) (fun r m=>by kernel_rfl)))) (fun r m=>by kernel_rfl))) (fun r m=>by kernel_rfl)) m
def Qs1:En:=⟨Q5t,Tryz.f469,Tryz.func469,by kernel_rfl,arg4 (fun G a0 a1 a2 a3 m=>Q5w G a1 a2 a3 a0 m),okarg4 Qs6⟩
def Qb4 (G:Gt)(k0:V → V → V → V → V → M → R)(p8 p2 p1 p3 p0:V)(m:M):R:=
  bp (pur (bin .add true true .int p8 (.int .i64 1)) m) fun x0 m=>
  k0 x0 p2 p1 p3 p0 m
def Q4h (G:Gt)(k1:V → V → V → V → V → V → M → R)(k0:V → V → V → V → V → M → R)(p34 p0 p9 p1 p3 p8 p2:V)(m:M):R:=
  brb p34
  (bp (pur (bin .sub true true .int p9 (.int .i64 1)) m) fun x1 m=>
  bp (pur (bin .sub true true .int p9 (.int .i64 1)) m) fun x2 m=>
  bp (pur (aIndexAddrSl 2 p0 x2) m) fun x3 m=>
  bp (pur (aLoad true 2 x3 m) m) fun x4 m=>
  bp (pur (aIndexAddrSl 2 p0 p9) m) fun x5 m=>
  bp (pur (aLoad true 2 x5 m) m) fun x6 m=>
  bp (pur (aIndexAddrSl 2 p0 p9) m) fun x7 m=>
  bp (unt (aStore 2 x7 x4 m)) fun _ m=>
  bp (pur (aIndexAddrSl 2 p0 x1) m) fun x8 m=>
  bp (unt (aStore 2 x8 x6 m)) fun _ m=>
  bp (pur (bin .sub true true .int p9 (.int .i64 1)) m) fun x9 m=>
  k1 x9 p1 p3 p0 p8 p2 m)
  (Qb4 G k0 p8 p2 p1 p3 p0 m)
def Q1p (G:Gt)(k0:V → V → V → V → V → M → R):Nat → V → V → V → V → V → V → M → R
 | 0,_,_,_,_,_,_,_=>none
 | i + 1,p9,p1,p3,p0,p8,p2,m=>
  bp (pur (bin .gtr false true .int p9 p1) m) fun x10 m=>
  brt x10
  (bp (pur (aIndexAddrSl 2 p0 p9) m) fun x11 m=>
  bp (pur (aLoad true 2 x11 m) m) fun x12 m=>
  bp (pur (bin .sub true true .int p9 (.int .i64 1)) m) fun x13 m=>
  bp (pur (aIndexAddrSl 2 p0 x13) m) fun x14 m=>
  bp (pur (aLoad true 2 x14 m) m) fun x15 m=>
  bp (evCall G.tab p3 [x12,x15] m) fun x16 m=>
  bp (pur (bin .lss true true .int x16 (.int .i64 0)) m) fun x17 m=>
  Q4h G (Q1p G k0 i) k0 x17 p0 p9 p1 p3 p8 p2 m)
  (Q4h G (Q1p G k0 i) k0 (.bool false) p0 p9 p1 p3 p8 p2 m)
  (none)
def Qb5 (G:Gt)(k0:V → V → V → V → V → M → R)(p9 p1 p3 p0 p8 p2:V)(m:M):R:=
  Q1p G k0 G.rds p9 p1 p3 p0 p8 p2 m
def Qb6 (G:Gt)(k0:V → V → V → V → V → M → R)(p8 p1 p3 p0 p2:V)(m:M):R:=
  Qb5 G k0 p8 p1 p3 p0 p8 p2 m
def Qf (G:Gt):Nat → V → V → V → V → V → M → R
 | 0,_,_,_,_,_,_=>none
 | i + 1,p8,p2,p1,p3,p0,m=>
  bp (pur (bin .lss false true .int p8 p2) m) fun x18 m=>
  brb x18
  (Qb6 G (Qf G i) p8 p1 p3 p0 p2 m)
  (some (.tuple ⟨[]⟩,m))
def Qb7 (G:Gt)(p8 p2 p1 p3 p0:V)(m:M):R:=
  Qf G G.rds p8 p2 p1 p3 p0 m
def Q5d (G:Gt)(p1 p2 p3 p0:V)(m:M):R:=
  bp (pur (bin .add true true .int p1 (.int .i64 1)) m) fun x19 m=>
  Qb7 G x19 p2 p1 p3 p0 m
theorem Qqt (G:Gt)(a0 a1 a2 a3:V)(m:M):ef G Tryz.f471 [a0,a1,a2,a3] m = Q5d G a1 a2 a3 a0 m:=
  evFn_of (r:=fun r m=>Q5d G (r 1) (r 2) (r 3) (r 0) m) rfl rfl (tr (seqQ (f:=fun r m=>Qb7 G (r 8) (r 2) (r 1) (r 3) (r 0) m) (tr (blockQ (loopQ (fun i r m=>Qf G i (r 8) (r 2) (r 1) (r 3) (r 0) m) (fun _ _=>rfl) (fun i0=>tr (seqQ (f:=fun r m=>Qb6 G (Qf G i0) (r 8) (r 1) (r 3) (r 0) (r 2) m) (tr (tr (seqQ (f:=fun r m=>Qb4 G (Qf G i0) (r 8) (r 2) (r 1) (r 3) (r 0) m) (fun r m=>by kernel_rfl)) (blockQ (seqQ (f:=fun r m=>Qb5 G (Qf G i0) (r 9) (r 1) (r 3) (r 0) (r 8) (r 2) m) (tr (blockQ (loopQ (fun i r m=>Q1p G (Qf G i0) i (r 9) (r 1) (r 3) (r 0) (r 8) (r 2) m) (fun _ _=>rfl) (fun i1=>tr (tr seqD (seqQ (f:=fun r m=>Q4h G (Q1p G (Qf G i0) i1) (Qf G i0) (r 34) (r 0) (r 9) (r 1) (r 3) (r 8) (r 2) m) (fun r m=>by kernel_rfl))) (fun r m=>by kernel_rfl)))) (fun r m=>by kernel_rfl))))) (fun r m=>by kernel_rfl))) (fun r m=>by kernel_rfl)))) (fun r m=>by kernel_rfl))) (fun r m=>by kernel_rfl)) m
def Qql:En:=⟨Q59,Tryz.f471,Tryz.func471,by kernel_rfl,arg4 (fun G a0 a1 a2 a3 m=>Q5d G a1 a2 a3 a0 m),okarg4 Qqt⟩
def Q8d (G:Gt)(k0:V → V → V → V → V → M → R)(p8 p2 p1 p3 p0:V)(m:M):R:=
  bp (pur (bin .add true true .int p8 (.int .i64 1)) m) fun x0 m=>
  k0 x0 p2 p1 p3 p0 m
def Q3e (G:Gt)(k1:V → V → V → V → V → V → M → R)(k0:V → V → V → V → V → M → R)(p34 p0 p9 p1 p3 p8 p2:V)(m:M):R:=
  brb p34
  (bp (pur (bin .sub true true .int p9 (.int .i64 1)) m) fun x1 m=>
  bp (pur (bin .sub true true .int p9 (.int .i64 1)) m) fun x2 m=>
  bp (pur (aIndexAddrSl 2 p0 x2) m) fun x3 m=>
  bp (pur (aLoad true 2 x3 m) m) fun x4 m=>
  bp (pur (aIndexAddrSl 2 p0 p9) m) fun x5 m=>
  bp (pur (aLoad true 2 x5 m) m) fun x6 m=>
  bp (pur (aIndexAddrSl 2 p0 p9) m) fun x7 m=>
  bp (unt (aStore 2 x7 x4 m)) fun _ m=>
  bp (pur (aIndexAddrSl 2 p0 x1) m) fun x8 m=>
  bp (unt (aStore 2 x8 x6 m)) fun _ m=>
  bp (pur (bin .sub true true .int p9 (.int .i64 1)) m) fun x9 m=>
  k1 x9 p1 p3 p0 p8 p2 m)
  (Q8d G k0 p8 p2 p1 p3 p0 m)
def Q1h (G:Gt)(k0:V → V → V → V → V → M → R):Nat → V → V → V → V → V → V → M → R
 | 0,_,_,_,_,_,_,_=>none
 | i + 1,p9,p1,p3,p0,p8,p2,m=>
  bp (pur (bin .gtr false true .int p9 p1) m) fun x10 m=>
  brt x10
  (bp (pur (aIndexAddrSl 2 p0 p9) m) fun x11 m=>
  bp (pur (aLoad true 2 x11 m) m) fun x12 m=>
  bp (pur (bin .sub true true .int p9 (.int .i64 1)) m) fun x13 m=>
  bp (pur (aIndexAddrSl 2 p0 x13) m) fun x14 m=>
  bp (pur (aLoad true 2 x14 m) m) fun x15 m=>
  bp (evCall G.tab p3 [x12,x15] m) fun x16 m=>
  bp (pur (bin .lss true true .int x16 (.int .i64 0)) m) fun x17 m=>
  Q3e G (Q1h G k0 i) k0 x17 p0 p9 p1 p3 p8 p2 m)
  (Q3e G (Q1h G k0 i) k0 (.bool false) p0 p9 p1 p3 p8 p2 m)
  (none)
def Q8e (G:Gt)(k0:V → V → V → V → V → M → R)(p9 p1 p3 p0 p8 p2:V)(m:M):R:=
  Q1h G k0 G.rds p9 p1 p3 p0 p8 p2 m
def Q8f (G:Gt)(k0:V → V → V → V → V → M → R)(p8 p1 p3 p0 p2:V)(m:M):R:=
  Q8e G k0 p8 p1 p3 p0 p8 p2 m
def Q8 (G:Gt):Nat → V → V → V → V → V → M → R
 | 0,_,_,_,_,_,_=>none
 | i + 1,p8,p2,p1,p3,p0,m=>
  bp (pur (bin .lss false true .int p8 p2) m) fun x18 m=>
  brb x18
  (Q8f G (Q8 G i) p8 p1 p3 p0 p2 m)
  (some (.tuple ⟨[]⟩,m))
def Q8g (G:Gt)(p8 p2 p1 p3 p0:V)(m:M):R:=
  Q8 G G.rds p8 p2 p1 p3 p0 m
def Q3s (G:Gt)(p1 p2 p3 p0:V)(m:M):R:=
  bp (pur (bin .add true true .int p1 (.int .i64 1)) m) fun x19 m=>
  Q8g G x19 p2 p1 p3 p0 m
theorem Qng (G:Gt)(a0 a1 a2 a3:V)(m:M):ef G Tryz.f473 [a0,a1,a2,a3] m = Q3s G a1 a2 a3 a0 m:=
  evFn_of (r:=fun r m=>Q3s G (r 1) (r 2) (r 3) (r 0) m) rfl rfl (tr (seqQ (f:=fun r m=>Q8g G (r 8) (r 2) (r 1) (r 3) (r 0) m) (tr (blockQ (loopQ (fun i r m=>Q8 G i (r 8) (r 2) (r 1) (r 3) (r 0) m) (fun _ _=>rfl) (fun i0=>tr (seqQ (f:=fun r m=>Q8f G (Q8 G i0) (r 8) (r 1) (r 3) (r 0) (r 2) m) (tr (tr (seqQ (f:=fun r m=>Q8d G (Q8 G i0) (r 8) (r 2) (r 1) (r 3) (r 0) m) (fun r m=>by kernel_rfl)) (blockQ (seqQ (f:=fun r m=>Q8e G (Q8 G i0) (r 9) (r 1) (r 3) (r 0) (r 8) (r 2) m) (tr (blockQ (loopQ (fun i r m=>Q1h G (Q8 G i0) i (r 9) (r 1) (r 3) (r 0) (r 8) (r 2) m) (fun _ _=>rfl) (fun i1=>tr (tr seqD (seqQ (f:=fun r m=>Q3e G (Q1h G (Q8 G i0) i1) (Q8 G i0) (r 34) (r 0) (r 9) (r 1) (r 3) (r 8) (r 2) m) (fun r m=>by kernel_rfl))) (fun r m=>by kernel_rfl)))) (fun r m=>by kernel_rfl))))) (fun r m=>by kernel_rfl))) (fun r m=>by kernel_rfl)))) (fun r m=>by kernel_rfl))) (fun r m=>by kernel_rfl)) m
def Qnd:En:=⟨Q3q,Tryz.f473,Tryz.func473,by kernel_rfl,arg4 (fun G a0 a1 a2 a3 m=>Q3s G a1 a2 a3 a0 m),okarg4 Qng⟩
end
end Go.Ab.Sh
